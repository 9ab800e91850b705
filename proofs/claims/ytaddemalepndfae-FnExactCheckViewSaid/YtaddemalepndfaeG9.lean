/- Written by a program of this claim's own, out of the translation: functions of the program as plain functions, and that the calls answer as these. No conditions. -/
import Derived.Test.YtaddemalepndfaeG0
import Derived.Test.YtaddemalepndfaeG7
import Derived.Test.YtaddemalepndfaeG8
namespace Go.Proofs.Ytaddemalepndfae.G
open Go.RowKit Go.Proofs.Ytaddemalepndfae.X Go.Proofs.YtaddemalepndfaeW.PrintWords Go.Proofs.YtaddemalepndfaeW.PrintLast Go.Proofs.YtaddemalepndfaeW.PrintMore
attribute [local go_sem] max2_int min2_int max_two min_two max_three min_three max_four min_four   -- for this text's walks alone
set_option linter.unusedVariables false
set_option linter.unusedSimpArgs false

/-! ### impl_View_columnsOf: function 21 -/
mutual
def impl_View_columnsOf.j0 : Nat → List Int → Bool → Int → Int → Int → List (S71) → List Int → List (List Int) → Option (Int × Bool)
 | 0, _, _, _, _, _, _, _, _ => none
 | k + 1, x2, x43, x251000, x251001, x251002, x251003, x251004, x251005 => if x43 = true then (some (0, false)) else (if 0 ≤ x251001 then (if x251001 < (x2.length : Int) then (if 0 ≤ x251002 then (if x251002 < (x2.length : Int) then (if x251000 = 2 then ((impl_GoodTests.f x251003 (rd x2 x251001)).bind fun t257 => (some (rd x2 x251001, t257))) else (if x251000 = 3 then ((impl_areColumns.f x251004 (rd x2 x251001)).bind fun t258 => (some ((x251004.length : Int), t258))) else (if x251000 = 4 then ((impl_arePairs.f x251005 (rd x2 x251001) (rd x2 x251002)).bind fun t259 => (if t259 = true then ((impl_joinedColumns.f k (rd x2 x251001) (rd x2 x251002) x251005).bind fun t260 => ((impl_isColumns.f t260).bind fun t261 => (some (t260, t261)))) else (some (0, false)))) else (if x251000 = 5 then (impl_View_columnsOf.j1 k (rd x2 x251001) (rd x2 x251002) (x251000 == 5) x251000 x251001 x251002 x251003 x251004 x251005) else (impl_View_columnsOf.j1 k (rd x2 x251001) (rd x2 x251002) (x251000 == 6) x251000 x251001 x251002 x251003 x251004 x251005))))) else (none)) else (none)) else (none)) else (none))
def impl_View_columnsOf.j1 : Nat → Int → Int → Bool → Int → Int → Int → List (S71) → List Int → List (List Int) → Option (Int × Bool)
 | 0, _, _, _, _, _, _, _, _, _ => none
 | k + 1, x8, x9, x88, x251000, x251001, x251002, x251003, x251004, x251005 => if x88 = true then (some (x8, (x8 == x9))) else (some (x8, (x251000 == 7)))
end
def impl_View_columnsOf.f (k : Nat) (l0_0 : List Int) (l0_1 : List (S47)) (a1_0 : Int) (a1_1 : Int) (a1_2 : Int) (l1_3 : List (S71)) (l1_4 : List Int) (l1_5 : List (List Int)) (l2 : List Int) : Option (Int × Bool) := if a1_0 = 1 then ((impl_within.f a1_1 0 (wrap64 ((l0_0.length : Int) - 1))).bind fun t251 => (if t251 = true then (if 0 ≤ a1_1 then (if a1_1 < (l0_0.length : Int) then (some (rd l0_0 a1_1, true)) else (none)) else (none)) else (some (0, false)))) else ((impl_within.f a1_1 0 (wrap64 ((l2.length : Int) - 1))).bind fun t253 => (if t253 = true then ((impl_within.f a1_2 0 (wrap64 ((l2.length : Int) - 1))).bind fun t254 => (impl_View_columnsOf.j0 k l2 (!t254) a1_0 a1_1 a1_2 l1_3 l1_4 l1_5)) else (impl_View_columnsOf.j0 k l2 true a1_0 a1_1 a1_2 l1_3 l1_4 l1_5)))
theorem impl_View_columnsOf.mono_l : ∀ k, (∀ y0 y1 y2 y3 y4 y5 y6 y7, LeO (impl_View_columnsOf.j0 k y0 y1 y2 y3 y4 y5 y6 y7) (impl_View_columnsOf.j0 (k + 1) y0 y1 y2 y3 y4 y5 y6 y7)) ∧ (∀ y0 y1 y2 y3 y4 y5 y6 y7 y8, LeO (impl_View_columnsOf.j1 k y0 y1 y2 y3 y4 y5 y6 y7 y8) (impl_View_columnsOf.j1 (k + 1) y0 y1 y2 y3 y4 y5 y6 y7 y8))
 | 0 => ⟨fun _ _ _ _ _ _ _ _ r h => by simp [impl_View_columnsOf.j0] at h, fun _ _ _ _ _ _ _ _ _ r h => by simp [impl_View_columnsOf.j1] at h⟩
 | k + 1 => by
  obtain ⟨ih0, ih1⟩ := impl_View_columnsOf.mono_l k
  refine ⟨?_, ?_⟩
  ·intro y0 y1 y2 y3 y4 y5 y6 y7
   unfold impl_View_columnsOf.j0
   repeat' first
   | (with_reducible exact ih0 _ _ _ _ _ _ _ _)
   | (with_reducible exact ih1 _ _ _ _ _ _ _ _ _)
   | (with_reducible exact impl_joinedColumns.mono _ _ _ _)
   | (with_reducible exact LeO.refl _)
   | (with_reducible exact LeO.none _)
   | (with_reducible refine LeO.ite ?_ ?_)
   | (with_reducible refine LeO.bind ?_ (fun _ => ?_))
   | exact ih0 _ _ _ _ _ _ _ _
   | exact ih1 _ _ _ _ _ _ _ _ _
   | exact impl_joinedColumns.mono _ _ _ _
   | exact LeO.none _
   | refine LeO.ite ?_ ?_
   | refine LeO.bind ?_ (fun _ => ?_)
  ·intro y0 y1 y2 y3 y4 y5 y6 y7 y8
   unfold impl_View_columnsOf.j1
   repeat' first
   | (with_reducible exact ih0 _ _ _ _ _ _ _ _)
   | (with_reducible exact ih1 _ _ _ _ _ _ _ _ _)
   | (with_reducible exact impl_joinedColumns.mono _ _ _ _)
   | (with_reducible exact LeO.refl _)
   | (with_reducible exact LeO.none _)
   | (with_reducible refine LeO.ite ?_ ?_)
   | (with_reducible refine LeO.bind ?_ (fun _ => ?_))
   | exact ih0 _ _ _ _ _ _ _ _
   | exact ih1 _ _ _ _ _ _ _ _ _
   | exact impl_joinedColumns.mono _ _ _ _
   | exact LeO.none _
   | refine LeO.ite ?_ ?_
   | refine LeO.bind ?_ (fun _ => ?_)
theorem impl_View_columnsOf.mono : ∀ a0 a1 a2 a3 a4 a5 a6 a7 a8 k, LeO (impl_View_columnsOf.f k a0 a1 a2 a3 a4 a5 a6 a7 a8) (impl_View_columnsOf.f (k + 1) a0 a1 a2 a3 a4 a5 a6 a7 a8) := by
 intro a0 a1 a2 a3 a4 a5 a6 a7 a8 k
 obtain ⟨ih0, ih1⟩ := impl_View_columnsOf.mono_l k
 unfold impl_View_columnsOf.f
 repeat' first
   | (with_reducible exact ih0 _ _ _ _ _ _ _ _)
   | (with_reducible exact ih1 _ _ _ _ _ _ _ _ _)
   | (with_reducible exact impl_joinedColumns.mono _ _ _ _)
   | (with_reducible exact LeO.refl _)
   | (with_reducible exact LeO.none _)
   | (with_reducible refine LeO.ite ?_ ?_)
   | (with_reducible refine LeO.bind ?_ (fun _ => ?_))
   | exact ih0 _ _ _ _ _ _ _ _
   | exact ih1 _ _ _ _ _ _ _ _ _
   | exact impl_joinedColumns.mono _ _ _ _
   | exact LeO.none _
   | refine LeO.ite ?_ ?_
   | refine LeO.bind ?_ (fun _ => ?_)
def impl_View_columnsOf.T7 : Bool × List (List Nat × List Nat) := (true, [([], []), ([], []), ([1], [1]), ([0, 2], [0, 2]), ([3], [3]), ([], []), ([], []), ([6], [6]), ([5, 7], [5, 7]), ([8], [8]), ([4, 0, 1, 2, 3, 4], [4]), ([9, 10, 0, 1, 2, 3, 4, 5, 6, 7, 8, 9, 10], [9])])
def impl_View_columnsOf.B7 : List Nat := [0, 0, 2, 7, 15, 0, 0, 64, 224, 480, 31, 2047]
theorem impl_View_columnsOf.tab7 : rtab .any (opsOf Try.f21 7) = impl_View_columnsOf.T7 := by kernel_rfl
theorem impl_View_columnsOf.bits7 : waitsOk impl_View_columnsOf.T7.2 impl_View_columnsOf.B7 = true := by kernel_rfl
def impl_View_columnsOf.T12 : Bool × List (List Nat × List Nat) := (true, [([], []), ([0], [0]), ([1], [1]), ([], []), ([3], [3]), ([], []), ([4, 5], [4, 5]), ([2, 6, 0, 1, 2], [2]), ([6, 7, 0, 1, 2, 3, 4, 5, 6, 7], [6])])
def impl_View_columnsOf.B12 : List Nat := [0, 1, 3, 0, 8, 0, 56, 127, 255]
theorem impl_View_columnsOf.tab12 : rtab .any (opsOf Try.f21 12) = impl_View_columnsOf.T12 := by kernel_rfl
theorem impl_View_columnsOf.bits12 : waitsOk impl_View_columnsOf.T12.2 impl_View_columnsOf.B12 = true := by kernel_rfl
set_option maxHeartbeats 8000000 in
set_option maxRecDepth 100000 in
theorem impl_View_columnsOf.calls (k : Nat) (A0_0 : Option Addr) (c0_0 : Nat) (l0_0 : List Int) (A0_1 : Option Addr) (c0_1 : Nat) (l0_1 : List (S47)) (a1_0 : Int) (a1_1 : Int) (a1_2 : Int) (A1_3 : Option Addr) (c1_3 : Nat) (l1_3 : List (S71)) (A1_4 : Option Addr) (c1_4 : Nat) (l1_4 : List Int) (A1_5 : Option Addr) (c1_5 : Nat) (l1_5 : List (List Int)) (A2 : Option Addr) (c2 : Nat) (l2 : List Int) (r1 : Int) (r2 : Bool) (w : World) (hr0_0 : Kd.C (Kd.int .i64) w A0_0 l0_0.length l0_0) (hc0_0 : l0_0.length ≤ c0_0) (hr0_1 : Kd.C k47 w A0_1 l0_1.length l0_1) (hc0_1 : l0_1.length ≤ c0_1) (hr1_3 : Kd.C k71 w A1_3 l1_3.length l1_3) (hc1_3 : l1_3.length ≤ c1_3) (hr1_4 : Kd.C (Kd.int .i64) w A1_4 l1_4.length l1_4) (hc1_4 : l1_4.length ≤ c1_4) (hr1_5 : Kd.C (Kd.slice 3 (Kd.int .i64)) w A1_5 l1_5.length l1_5) (hc1_5 : l1_5.length ≤ c1_5) (hr2 : Kd.C (Kd.int .i64) w A2 l2.length l2) (hc2 : l2.length ≤ c2) (h : impl_View_columnsOf.f k l0_0 l0_1 a1_0 a1_1 a1_2 l1_3 l1_4 l1_5 l2 = some (r1, r2)) :
  Calls Try.prog 21 #[.agg #[.slice A0_0 l0_0.length c0_0, .slice A0_1 l0_1.length c0_1], .agg #[.int .i64 a1_0, .int .i64 a1_1, .int .i64 a1_2, .slice A1_3 l1_3.length c1_3, .slice A1_4 l1_4.length c1_4, .slice A1_5 l1_5.length c1_5], .slice A2 l2.length c2] w fun e w' => e = .returned (.tuple #[.int .i64 r1, .bool r2]) ∧ Below w.heap.size w w' := by
 have hu31 := Try.underlying31
 have hu47 := Try.underlying47
 have HR0_0 := xm hr0_0
 have HC0_0 := xm hc0_0
 clear hr0_0 hc0_0
 have HR0_1 := xm hr0_1
 have HC0_1 := xm hc0_1
 clear hr0_1 hc0_1
 have HR1_3 := xm hr1_3
 have HC1_3 := xm hc1_3
 clear hr1_3 hc1_3
 have HR1_4 := xm hr1_4
 have HC1_4 := xm hc1_4
 clear hr1_4 hc1_4
 have HR1_5 := xm hr1_5
 have HC1_5 := xm hc1_5
 clear hr1_5 hc1_5
 have HR2 := xm hr2
 have HC2 := xm hc2
 clear hr2 hc2
 have HB := xm (Below.refl w.heap.size w)
 have H : (if a1_0 = 1 then ((impl_within.f a1_1 0 (wrap64 ((l0_0.length : Int) - 1))).bind fun t251 => (if t251 = true then (if 0 ≤ a1_1 then (if a1_1 < (l0_0.length : Int) then (some (rd l0_0 a1_1, true)) else (none)) else (none)) else (some (0, false)))) else ((impl_within.f a1_1 0 (wrap64 ((l2.length : Int) - 1))).bind fun t253 => (if t253 = true then ((impl_within.f a1_2 0 (wrap64 ((l2.length : Int) - 1))).bind fun t254 => (impl_View_columnsOf.j0 k l2 (!t254) a1_0 a1_1 a1_2 l1_3 l1_4 l1_5)) else (impl_View_columnsOf.j0 k l2 true a1_0 a1_1 a1_2 l1_3 l1_4 l1_5)))) = some (r1, r2) := h
 clear h
 by_cases c4 : a1_0 = 1
 ·rw [if_pos c4] at H
  have c4b0 : (a1_0 == 1) = true := beq_iff_eq.mpr c4
  have c4b1 : (a1_0 != 1) = false := bne_eq_false_iff_eq.mpr c4
  clear c4
  replace H := Option.bind_eq_some_iff.mp H
  obtain ⟨t251, A50, H⟩ := H
  replace H : (if t251 = true then (if 0 ≤ a1_1 then (if a1_1 < (l0_0.length : Int) then (some (rd l0_0 a1_1, true)) else (none)) else (none)) else (some (0, false))) = some (r1, r2) := H
  have A5 := xm A50
  clear A50
  by_cases c6 : t251 = true
  ·subst c6
   have H1 : (if 0 ≤ a1_1 then (if a1_1 < (l0_0.length : Int) then (some (rd l0_0 a1_1, true)) else (none)) else (none)) = some (r1, r2) := by first | (with_reducible rfl) | (rw [if_pos rfl] at H; exact H)
   clear H
   have H := H1
   clear H1
   by_cases c7 : 0 ≤ a1_1
   ·rw [if_pos c7] at H
    have c7b0 : decide (0 ≤ a1_1) = true := decide_eq_true c7
    clear c7
    by_cases c8 : a1_1 < (l0_0.length : Int)
    ·rw [if_pos c8] at H
     have c8b0 : decide (a1_1 < (l0_0.length : Int)) = true := decide_eq_true c8
     clear c8
     simp only [Option.some.injEq, Prod.mk.injEq] at H
     obtain ⟨rfl, rfl⟩ := H
     go_enter Try.func21, Try.ntmps21
     go_wp2_with (first | ((with_reducible refine gate_dst (N := 3) rfl ?_); (try (refine gate_guard (by rfl) ?_; dsimp only)); refine box_event ?hg (N := 3) ?hd (cs := #[.slice A0_0 l0_0.length c0_0, .slice A0_1 l0_1.length c0_1]) (t := 31) ?hr ?_; (case hd => rfl); (case hg => rfl); (case hr => exact zB); intro gb249 hg w9 hbox hb; have n0_ := xm (below_step bB hb); have n1_ := xm (hbox); have n2_ := xm ((by rw [hg]; exact (xz bB) : w.heap.size ≤ gb249)); have n3_ := xm ((by rw [hg]; exact (xz bB) : w.heap.size ≤ gb249)); revert n0_ n1_ n2_ n3_; clear HB; intro HB BK249 GW249 GE249; clear hb hbox hg) | ((with_reducible refine gate_dst (N := 4) rfl ?_); (try (refine gate_guard (by rfl) ?_; dsimp only)); refine box_event ?hg (N := 4) ?hd (cs := #[.int .i64 a1_0, .int .i64 a1_1, .int .i64 a1_2, .slice A1_3 l1_3.length c1_3, .slice A1_4 l1_4.length c1_4, .slice A1_5 l1_5.length c1_5]) (t := 47) ?hr ?_; (case hd => rfl); (case hg => rfl); (case hr => exact zB); intro gb250 hg w10 hbox hb; have n0_ := xm (blk_below (kB BK249) hb); have n1_ := xm (below_step bG hb); have n2_ := xm (hbox); have n3_ := xm ((by rw [hg]; exact (xz bG) : w.heap.size ≤ gb250)); have n4_ := xm ((by rw [hg]; exact (xz bG) : w.heap.size ≤ gb250)); have n5_ := xm ((by rw [hg]; exact Nat.ne_of_lt (blk_lt (kB BK249)) : gb249 ≠ gb250)); have n6_ := xm ((by rw [hg]; exact Nat.ne_of_gt (blk_lt (kB BK249)) : gb250 ≠ gb249)); revert n0_ n1_ n2_ n3_ n4_ n5_ n6_; clear BK249 HB; intro BK249 HB BK250 GW250 GE250 NB249_250 NB250_249; clear hb hbox hg; have hnb11 := NB250_249.out; have hnc11 := NB249_250.out; obtain ⟨hcz12_0, hcz12_1, hcz12_2, hcz12_3, hcz12_4, hcz12_5, hfz12_0, hfz12_1, hfz12_2, hfz12_3, hfz12_4, hfz12_5⟩ := cz6 BK250.out; obtain ⟨hcz13_0, hcz13_1, hfz13_0, hfz13_1⟩ := cz2 BK249.out) | ((with_reducible refine gate_callee (f := 18) rfl ?_); refine goesL_ (some 20) rfl rfl Try.func18 (by kernel_rfl) rfl #[.int .i64 a1_1, .int .i64 0, .int .i64 (wrap64 ((l0_0.length : Int) - 1))] rfl mB ?_; (with_reducible refine (impl_within.calls a1_1 0 (wrap64 ((l0_0.length : Int) - 1)) true _ A5.out).mono ?_); rintro e w' ⟨rfl, ⟨nd, rfl⟩⟩; refine ⟨_, rfl, ?_⟩; have p252 : 0 ≤ (a1_1 : Int) := of_decide_eq_true aB; have q252 : a1_1 < (l0_0.length : Int) := of_decide_eq_true aB; obtain ⟨ad252, e252, hx252_0⟩ := Kd.at_int HR0_0.out a1_1 p252 q252; cases e252; replace hx252_0 := (HB.out.cell (World.block_lt_of_cell? w _ hx252_0)).trans hx252_0; replace p252 := eq_true p252; replace q252 := eq_true q252))
     go_ret2
     exact ⟨eB, bG⟩
    ·rw [if_neg c8] at H
     exact absurd H (by simp)
   ·rw [if_neg c7] at H
    exact absurd H (by simp)
  ·replace c6 := Bool.eq_false_iff.mpr c6
   subst c6
   have H1 : (some (0, false)) = some (r1, r2) := by first | (with_reducible rfl) | (rw [if_neg (show ¬ (false = true) by decide)] at H; exact H)
   clear H
   have H := H1
   clear H1
   simp only [Option.some.injEq, Prod.mk.injEq] at H
   obtain ⟨rfl, rfl⟩ := H
   go_enter Try.func21, Try.ntmps21
   go_wp2_with (first | ((with_reducible refine gate_dst (N := 3) rfl ?_); (try (refine gate_guard (by rfl) ?_; dsimp only)); refine box_event ?hg (N := 3) ?hd (cs := #[.slice A0_0 l0_0.length c0_0, .slice A0_1 l0_1.length c0_1]) (t := 31) ?hr ?_; (case hd => rfl); (case hg => rfl); (case hr => exact zB); intro gb249 hg w14 hbox hb; have n0_ := xm (below_step bB hb); have n1_ := xm (hbox); have n2_ := xm ((by rw [hg]; exact (xz bB) : w.heap.size ≤ gb249)); have n3_ := xm ((by rw [hg]; exact (xz bB) : w.heap.size ≤ gb249)); revert n0_ n1_ n2_ n3_; clear HB; intro HB BK249 GW249 GE249; clear hb hbox hg) | ((with_reducible refine gate_dst (N := 4) rfl ?_); (try (refine gate_guard (by rfl) ?_; dsimp only)); refine box_event ?hg (N := 4) ?hd (cs := #[.int .i64 a1_0, .int .i64 a1_1, .int .i64 a1_2, .slice A1_3 l1_3.length c1_3, .slice A1_4 l1_4.length c1_4, .slice A1_5 l1_5.length c1_5]) (t := 47) ?hr ?_; (case hd => rfl); (case hg => rfl); (case hr => exact zB); intro gb250 hg w15 hbox hb; have n0_ := xm (blk_below (kB BK249) hb); have n1_ := xm (below_step bG hb); have n2_ := xm (hbox); have n3_ := xm ((by rw [hg]; exact (xz bG) : w.heap.size ≤ gb250)); have n4_ := xm ((by rw [hg]; exact (xz bG) : w.heap.size ≤ gb250)); have n5_ := xm ((by rw [hg]; exact Nat.ne_of_lt (blk_lt (kB BK249)) : gb249 ≠ gb250)); have n6_ := xm ((by rw [hg]; exact Nat.ne_of_gt (blk_lt (kB BK249)) : gb250 ≠ gb249)); revert n0_ n1_ n2_ n3_ n4_ n5_ n6_; clear BK249 HB; intro BK249 HB BK250 GW250 GE250 NB249_250 NB250_249; clear hb hbox hg; have hnb16 := NB250_249.out; have hnc16 := NB249_250.out; obtain ⟨hcz17_0, hcz17_1, hcz17_2, hcz17_3, hcz17_4, hcz17_5, hfz17_0, hfz17_1, hfz17_2, hfz17_3, hfz17_4, hfz17_5⟩ := cz6 BK250.out; obtain ⟨hcz18_0, hcz18_1, hfz18_0, hfz18_1⟩ := cz2 BK249.out) | ((with_reducible refine gate_callee (f := 18) rfl ?_); refine goesL_ (some 20) rfl rfl Try.func18 (by kernel_rfl) rfl #[.int .i64 a1_1, .int .i64 0, .int .i64 (wrap64 ((l0_0.length : Int) - 1))] rfl mB ?_; (with_reducible refine (impl_within.calls a1_1 0 (wrap64 ((l0_0.length : Int) - 1)) false _ A5.out).mono ?_); rintro e w' ⟨rfl, ⟨nd, rfl⟩⟩; refine ⟨_, rfl, ?_⟩))
   go_ret2
   exact ⟨eB, bG⟩
 ·rw [if_neg c4] at H
  have c4b0 : (a1_0 == 1) = false := beq_eq_false_iff_ne.mpr c4
  have c4b1 : (a1_0 != 1) = true := bne_iff_ne.mpr c4
  have HC19 := xm H
  clear H
  go_enter Try.func21, Try.ntmps21
  go_upto_region 5 with (first | ((with_reducible refine gate_dst (N := 3) rfl ?_); (try (refine gate_guard (by rfl) ?_; dsimp only)); refine box_event ?hg (N := 3) ?hd (cs := #[.slice A0_0 l0_0.length c0_0, .slice A0_1 l0_1.length c0_1]) (t := 31) ?hr ?_; (case hd => rfl); (case hg => rfl); (case hr => exact zB); intro gb249 hg w20 hbox hb; have n0_ := xm (below_step bB hb); have n1_ := xm (hbox); have n2_ := xm ((by rw [hg]; exact (xz bB) : w.heap.size ≤ gb249)); have n3_ := xm ((by rw [hg]; exact (xz bB) : w.heap.size ≤ gb249)); revert n0_ n1_ n2_ n3_; clear HB; intro HB BK249 GW249 GE249; clear hb hbox hg) | ((with_reducible refine gate_dst (N := 4) rfl ?_); (try (refine gate_guard (by rfl) ?_; dsimp only)); refine box_event ?hg (N := 4) ?hd (cs := #[.int .i64 a1_0, .int .i64 a1_1, .int .i64 a1_2, .slice A1_3 l1_3.length c1_3, .slice A1_4 l1_4.length c1_4, .slice A1_5 l1_5.length c1_5]) (t := 47) ?hr ?_; (case hd => rfl); (case hg => rfl); (case hr => exact zB); intro gb250 hg w21 hbox hb; have n0_ := xm (blk_below (kB BK249) hb); have n1_ := xm (below_step bG hb); have n2_ := xm (hbox); have n3_ := xm ((by rw [hg]; exact (xz bG) : w.heap.size ≤ gb250)); have n4_ := xm ((by rw [hg]; exact (xz bG) : w.heap.size ≤ gb250)); have n5_ := xm ((by rw [hg]; exact Nat.ne_of_lt (blk_lt (kB BK249)) : gb249 ≠ gb250)); have n6_ := xm ((by rw [hg]; exact Nat.ne_of_gt (blk_lt (kB BK249)) : gb250 ≠ gb249)); revert n0_ n1_ n2_ n3_ n4_ n5_ n6_; clear BK249 HB; intro BK249 HB BK250 GW250 GE250 NB249_250 NB250_249; clear hb hbox hg; have hnb22 := NB250_249.out; have hnc22 := NB249_250.out; obtain ⟨hcz23_0, hcz23_1, hcz23_2, hcz23_3, hcz23_4, hcz23_5, hfz23_0, hfz23_1, hfz23_2, hfz23_3, hfz23_4, hfz23_5⟩ := cz6 BK250.out))
  (try simp only [Act.put, xi, xj, xk])
  go_cut [43] (fun v43 wc => ∃ (kq : Nat) (x43_18 : Bool), v43 = .bool x43_18 ∧ Aside0 (impl_View_columnsOf.j0 kq l2 x43_18 a1_0 a1_1 a1_2 l1_3 l1_4 l1_5 = some (r1, r2)) ∧ Aside0 (kq ≤ k) ∧ Aside0 (wc.heap[gb249]? = some (.cells #[(.slice A0_0 l0_0.length c0_0), (.slice A0_1 l0_1.length c0_1)] 31 (0, 0))) ∧ Aside0 (wc.heap[gb250]? = some (.cells #[.int .i64 a1_0, .int .i64 a1_1, .int .i64 a1_2, (.slice A1_3 l1_3.length c1_3), (.slice A1_4 l1_4.length c1_4), (.slice A1_5 l1_5.length c1_5)] 47 (0, 0))) ∧ Aside0 (Below w.heap.size w wc))
  case first =>
   have H := HC19.out
   clear HC19
   replace H := Option.bind_eq_some_iff.mp H
   obtain ⟨t253, A240, H⟩ := H
   replace H : (if t253 = true then ((impl_within.f a1_2 0 (wrap64 ((l2.length : Int) - 1))).bind fun t254 => (impl_View_columnsOf.j0 k l2 (!t254) a1_0 a1_1 a1_2 l1_3 l1_4 l1_5)) else (impl_View_columnsOf.j0 k l2 true a1_0 a1_1 a1_2 l1_3 l1_4 l1_5)) = some (r1, r2) := H
   have A24 := xm A240
   clear A240
   by_cases c25 : t253 = true
   ·subst c25
    have H1 : ((impl_within.f a1_2 0 (wrap64 ((l2.length : Int) - 1))).bind fun t254 => (impl_View_columnsOf.j0 k l2 (!t254) a1_0 a1_1 a1_2 l1_3 l1_4 l1_5)) = some (r1, r2) := by first | (with_reducible rfl) | (rw [if_pos rfl] at H; exact H)
    clear H
    have H := H1
    clear H1
    replace H := Option.bind_eq_some_iff.mp H
    obtain ⟨t254, A260, H⟩ := H
    replace H : (impl_View_columnsOf.j0 k l2 (!t254) a1_0 a1_1 a1_2 l1_3 l1_4 l1_5) = some (r1, r2) := H
    have A26 := xm A260
    clear A260
    have H' := xm H
    clear H
    have hnb27 := NB250_249.out
    have hnc27 := NB249_250.out
    obtain ⟨hcz28_0, hcz28_1, hcz28_2, hcz28_3, hcz28_4, hcz28_5, hfz28_0, hfz28_1, hfz28_2, hfz28_3, hfz28_4, hfz28_5⟩ := cz6 BK250.out
    go_wp2_with (first | ((with_reducible refine gate_callee (f := 18) rfl ?_); refine goesL_ (some 33) rfl rfl Try.func18 (by kernel_rfl) rfl #[.int .i64 a1_1, .int .i64 0, .int .i64 (wrap64 ((l2.length : Int) - 1))] rfl mB ?_; (with_reducible refine (impl_within.calls a1_1 0 (wrap64 ((l2.length : Int) - 1)) true _ A24.out).mono ?_); rintro e w' ⟨rfl, ⟨nd, rfl⟩⟩; refine ⟨_, rfl, ?_⟩) | (go_at_call 18; (with_reducible refine (impl_within.calls a1_2 0 (wrap64 ((l2.length : Int) - 1)) t254 _ A26.out).mono ?_); rintro e w' ⟨rfl, ⟨nd, rfl⟩⟩))
    go_meet
    case rel => exact ⟨_, (!t254), sB, H', ⟨by first | omega | exact Nat.le_refl _⟩, ⟨kB BK249⟩, ⟨kB BK250⟩, ⟨bG⟩⟩
   ·replace c25 := Bool.eq_false_iff.mpr c25
    subst c25
    have H1 : (impl_View_columnsOf.j0 k l2 true a1_0 a1_1 a1_2 l1_3 l1_4 l1_5) = some (r1, r2) := by first | (with_reducible rfl) | (rw [if_neg (show ¬ (false = true) by decide)] at H; exact H)
    clear H
    have H := H1
    clear H1
    have H' := xm H
    clear H
    have hnb29 := NB250_249.out
    have hnc29 := NB249_250.out
    obtain ⟨hcz30_0, hcz30_1, hcz30_2, hcz30_3, hcz30_4, hcz30_5, hfz30_0, hfz30_1, hfz30_2, hfz30_3, hfz30_4, hfz30_5⟩ := cz6 BK250.out
    go_wp2_with (first | ((with_reducible refine gate_callee (f := 18) rfl ?_); refine goesL_ (some 33) rfl rfl Try.func18 (by kernel_rfl) rfl #[.int .i64 a1_1, .int .i64 0, .int .i64 (wrap64 ((l2.length : Int) - 1))] rfl mB ?_; (with_reducible refine (impl_within.calls a1_1 0 (wrap64 ((l2.length : Int) - 1)) false _ A24.out).mono ?_); rintro e w' ⟨rfl, ⟨nd, rfl⟩⟩; refine ⟨_, rfl, ?_⟩))
    go_meet
    case rel => exact ⟨_, (true), sB, H', ⟨by first | omega | exact Nat.le_refl _⟩, ⟨kB BK249⟩, ⟨kB BK250⟩, ⟨bG⟩⟩
  case rest =>
   clear HC19
   try clear c1
   try clear c2
   try clear p2
   try clear q2
   try clear hx2
   try clear c4
   try clear c4b0 c4b1
   try clear c6
   try clear p6
   try clear c7
   try clear c7b0
   try clear c8
   try clear c8b0
   try clear c11
   try clear c16
   try clear c18
   try clear c21
   try clear c22
   try clear c25
   try clear p25
   try clear q25
   try clear hx25
   try clear c27
   try clear c29
   try clear hcz12_0 hcz12_1 hcz12_2 hcz12_3 hcz12_4 hcz12_5
   try clear hcz13_0 hcz13_1
   try clear hcz17_0 hcz17_1 hcz17_2 hcz17_3 hcz17_4 hcz17_5
   try clear hcz18_0 hcz18_1
   try clear hcz23_0 hcz23_1 hcz23_2 hcz23_3 hcz23_4 hcz23_5
   try clear hcz28_0 hcz28_1 hcz28_2 hcz28_3 hcz28_4 hcz28_5
   try clear hcz30_0 hcz30_1 hcz30_2 hcz30_3 hcz30_4 hcz30_5
   try clear hfz12_0 hfz12_1 hfz12_2 hfz12_3 hfz12_4 hfz12_5
   try clear hfz13_0 hfz13_1
   try clear hfz17_0 hfz17_1 hfz17_2 hfz17_3 hfz17_4 hfz17_5
   try clear hfz18_0 hfz18_1
   try clear hfz23_0 hfz23_1 hfz23_2 hfz23_3 hfz23_4 hfz23_5
   try clear hfz28_0 hfz28_1 hfz28_2 hfz28_3 hfz28_4 hfz28_5
   try clear hfz30_0 hfz30_1 hfz30_2 hfz30_3 hfz30_4 hfz30_5
   try clear hx252_0
   try clear p252
   try clear q252
   obtain ⟨kq, x43_18, rfl, HA, HJ18, BK249, BK250, HB⟩ := hcut
   cases kq with
   | zero => exact absurd HA.out (by simp [impl_View_columnsOf.j0])
   | succ kj18 =>
    have H := HA.out
    clear HA
    simp only [impl_View_columnsOf.j0] at H
    by_cases c31 : x43_18 = true
    ·subst c31
     have H1 : (some (0, false)) = some (r1, r2) := by first | (with_reducible rfl) | (rw [if_pos rfl] at H; exact H)
     clear H
     have H := H1
     clear H1
     simp only [Option.some.injEq, Prod.mk.injEq] at H
     obtain ⟨rfl, rfl⟩ := H
     go_wp2
     go_ret2
     exact ⟨eB, bG⟩
    ·replace c31 := Bool.eq_false_iff.mpr c31
     subst c31
     have H1 : (if 0 ≤ a1_1 then (if a1_1 < (l2.length : Int) then (if 0 ≤ a1_2 then (if a1_2 < (l2.length : Int) then (if a1_0 = 2 then ((impl_GoodTests.f l1_3 (rd l2 a1_1)).bind fun t257 => (some (rd l2 a1_1, t257))) else (if a1_0 = 3 then ((impl_areColumns.f l1_4 (rd l2 a1_1)).bind fun t258 => (some ((l1_4.length : Int), t258))) else (if a1_0 = 4 then ((impl_arePairs.f l1_5 (rd l2 a1_1) (rd l2 a1_2)).bind fun t259 => (if t259 = true then ((impl_joinedColumns.f kj18 (rd l2 a1_1) (rd l2 a1_2) l1_5).bind fun t260 => ((impl_isColumns.f t260).bind fun t261 => (some (t260, t261)))) else (some (0, false)))) else (if a1_0 = 5 then (impl_View_columnsOf.j1 kj18 (rd l2 a1_1) (rd l2 a1_2) (a1_0 == 5) a1_0 a1_1 a1_2 l1_3 l1_4 l1_5) else (impl_View_columnsOf.j1 kj18 (rd l2 a1_1) (rd l2 a1_2) (a1_0 == 6) a1_0 a1_1 a1_2 l1_3 l1_4 l1_5))))) else (none)) else (none)) else (none)) else (none)) = some (r1, r2) := by first | (with_reducible rfl) | (rw [if_neg (show ¬ (false = true) by decide)] at H; exact H)
     clear H
     have H := H1
     clear H1
     by_cases c32 : 0 ≤ a1_1
     ·rw [if_pos c32] at H
      have c32b0 : decide (0 ≤ a1_1) = true := decide_eq_true c32
      clear c32
      by_cases c33 : a1_1 < (l2.length : Int)
      ·rw [if_pos c33] at H
       have c33b0 : decide (a1_1 < (l2.length : Int)) = true := decide_eq_true c33
       clear c33
       by_cases c34 : 0 ≤ a1_2
       ·rw [if_pos c34] at H
        have c34b0 : decide (0 ≤ a1_2) = true := decide_eq_true c34
        clear c34
        by_cases c35 : a1_2 < (l2.length : Int)
        ·rw [if_pos c35] at H
         have c35b0 : decide (a1_2 < (l2.length : Int)) = true := decide_eq_true c35
         clear c35
         by_cases c36 : a1_0 = 2
         ·rw [if_pos c36] at H
          have c36b0 : (a1_0 == 2) = true := beq_iff_eq.mpr c36
          have c36b1 : (a1_0 != 2) = false := bne_eq_false_iff_eq.mpr c36
          clear c36
          replace H := Option.bind_eq_some_iff.mp H
          obtain ⟨t257, A370, H⟩ := H
          replace H : (some (rd l2 a1_1, t257)) = some (r1, r2) := H
          have A37 := xm A370
          clear A370
          simp only [Option.some.injEq, Prod.mk.injEq] at H
          obtain ⟨rfl, rfl⟩ := H
          try go_wp2
          have n0_ := xm (xr BK249.out)
          have n1_ := xm (xr BK250.out)
          have n2_ := xm (xd HB.out)
          revert n0_ n1_ n2_; clear BK249 BK250 HB; intro BK249 BK250 HB
          have p255 : 0 ≤ (a1_1 : Int) := of_decide_eq_true aB
          have q255 : a1_1 < (l2.length : Int) := of_decide_eq_true aB
          obtain ⟨ad255, e255, hx255_0⟩ := Kd.at_int HR2.out a1_1 p255 q255
          have hw255_0 := hx255_0
          cases e255
          replace hx255_0 := hU hx255_0
          replace p255 := eq_true p255
          replace q255 := eq_true q255
          have p256 : 0 ≤ (a1_2 : Int) := of_decide_eq_true aB
          have q256 : a1_2 < (l2.length : Int) := of_decide_eq_true aB
          obtain ⟨ad256, e256, hx256_0⟩ := Kd.at_int HR2.out a1_2 p256 q256
          have hw256_0 := hx256_0
          obtain rfl : ad255 = ad256 := (by injection e256)
          replace hx256_0 := hU hx256_0
          replace p256 := eq_true p256
          replace q256 := eq_true q256
          refine start_ (n := 12) (S := fun w' => w'.cell? ⟨gb250, 0, none⟩ = some (.int .i64 a1_0) ∧ w'.cell? ⟨gb250, 1, none⟩ = some (.int .i64 a1_1) ∧ w'.cell? ⟨gb250, 2, none⟩ = some (.int .i64 a1_2) ∧ w'.cell? ⟨gb250, 3, none⟩ = some (.slice A1_3 l1_3.length c1_3) ∧ w'.cell? ⟨gb250, 4, none⟩ = some (.slice A1_4 l1_4.length c1_4) ∧ w'.cell? ⟨gb250, 5, none⟩ = some (.slice A1_5 l1_5.length c1_5) ∧ w'.cell? (ad255.add (a1_1).toNat) = some (.int .i64 (rd l2 a1_1)) ∧ w'.cell? (ad255.add (a1_2).toNat) = some (.int .i64 (rd l2 a1_2))) (ds := []) #[Z,Z,Z,Z,Z,Z,Z,Z,Z,Z,Z,Z] (by kernel_rfl) rfl rfl ⟨(xc BK250.out 0).trans rfl, (xc BK250.out 1).trans rfl, (xc BK250.out 2).trans rfl, (xc BK250.out 3).trans rfl, (xc BK250.out 4).trans rfl, (xc BK250.out 5).trans rfl, ((HB.out.cell (World.block_lt_of_cell? w _ hw255_0)).trans hw255_0), ((HB.out.cell (World.block_lt_of_cell? w _ hw256_0)).trans hw256_0)⟩ (fun hHeld => ?_); refine with_tabW impl_View_columnsOf.tab7 impl_View_columnsOf.bits7 (fun HT_ HW_ => ?_)
          generalize wc.drew = w38 at BK249 BK250 HB hx255_0 hx256_0 hHeld ⊢
          refine pu 0 12 1 ?_
          refine pu 1 12 3 ?_
          refine pu 5 12 35 ?_
          refine pu 6 12 99 ?_
          refine tx 2 12 103 rfl rfl (take_ofW HT_.out HW_.out (by kernel_rfl)) hHeld (by rintro w' ⟨s0, s1, s2, s3, s4, s5, s6, s7⟩; go_simp; with_reducible rfl) ?_
          refine pu 3 12 111 ?_
          refine tx 4 12 127 rfl rfl (take_ofW HT_.out HW_.out (by kernel_rfl)) hHeld (by rintro w' ⟨s0, s1, s2, s3, s4, s5, s6, s7⟩; go_simp; with_reducible rfl) ?_
          refine pu 10 12 1151 ?_
          refine tx 7 12 1279 rfl rfl (take_ofW HT_.out HW_.out (by kernel_rfl)) hHeld (by rintro w' ⟨s0, s1, s2, s3, s4, s5, s6, s7⟩; go_simp; with_reducible rfl) ?_
          refine pu 8 12 1535 ?_
          refine tx 9 12 2047 rfl rfl (take_ofW HT_.out HW_.out (by kernel_rfl)) hHeld (by rintro w' ⟨s0, s1, s2, s3, s4, s5, s6, s7⟩; go_simp; with_reducible rfl) ?_
          refine pu 11 12 4095 ?_
          refine done_ (done_of HT_.out (by kernel_rfl)) ?_
          have hnb39 := NB250_249.out
          have hnc39 := NB249_250.out
          obtain ⟨hcz40_0, hcz40_1, hcz40_2, hcz40_3, hcz40_4, hcz40_5, hfz40_0, hfz40_1, hfz40_2, hfz40_3, hfz40_4, hfz40_5⟩ := cz6 BK250.out
          try go_wp2_with (first | ((with_reducible refine gate_callee (f := 31) rfl ?_); refine goesL_ (some 62) rfl rfl Try.func31 (by kernel_rfl) rfl #[.slice A1_3 l1_3.length c1_3, .int .i64 (rd l2 a1_1)] rfl mB ?_; (with_reducible refine (impl_GoodTests.calls _ _ l1_3 (rd l2 a1_1) t257 _ ?side1 ?side2 A37.out).mono ?_); (case side1 => exact cB (Kd.C_below HR1_3.out HB.out)); (case side2 => exact HC1_3.out); rintro e w41 ⟨rfl, hb⟩; refine ⟨_, rfl, ?_⟩; have n0_ := xm (blk_below (kB BK249) hb); have n1_ := xm (blk_below (kB BK250) hb); have n2_ := xm (below_step bG hb); revert n0_ n1_ n2_; clear BK249 BK250 HB; intro BK249 BK250 HB; (try clear hb)))
          go_ret2
          exact ⟨eB, bG⟩
         ·rw [if_neg c36] at H
          have c36b0 : (a1_0 == 2) = false := beq_eq_false_iff_ne.mpr c36
          have c36b1 : (a1_0 != 2) = true := bne_iff_ne.mpr c36
          by_cases c42 : a1_0 = 3
          ·rw [if_pos c42] at H
           have c42b0 : (a1_0 == 3) = true := beq_iff_eq.mpr c42
           have c42b1 : (a1_0 != 3) = false := bne_eq_false_iff_eq.mpr c42
           clear c42
           replace H := Option.bind_eq_some_iff.mp H
           obtain ⟨t258, A430, H⟩ := H
           replace H : (some ((l1_4.length : Int), t258)) = some (r1, r2) := H
           have A43 := xm A430
           clear A430
           simp only [Option.some.injEq, Prod.mk.injEq] at H
           obtain ⟨rfl, rfl⟩ := H
           try go_wp2
           have n0_ := xm (xr BK249.out)
           have n1_ := xm (xr BK250.out)
           have n2_ := xm (xd HB.out)
           revert n0_ n1_ n2_; clear BK249 BK250 HB; intro BK249 BK250 HB
           have p255 : 0 ≤ (a1_1 : Int) := of_decide_eq_true aB
           have q255 : a1_1 < (l2.length : Int) := of_decide_eq_true aB
           obtain ⟨ad255, e255, hx255_0⟩ := Kd.at_int HR2.out a1_1 p255 q255
           have hw255_0 := hx255_0
           cases e255
           replace hx255_0 := hU hx255_0
           replace p255 := eq_true p255
           replace q255 := eq_true q255
           have p256 : 0 ≤ (a1_2 : Int) := of_decide_eq_true aB
           have q256 : a1_2 < (l2.length : Int) := of_decide_eq_true aB
           obtain ⟨ad256, e256, hx256_0⟩ := Kd.at_int HR2.out a1_2 p256 q256
           have hw256_0 := hx256_0
           obtain rfl : ad255 = ad256 := (by injection e256)
           replace hx256_0 := hU hx256_0
           replace p256 := eq_true p256
           replace q256 := eq_true q256
           refine start_ (n := 12) (S := fun w' => w'.cell? ⟨gb250, 0, none⟩ = some (.int .i64 a1_0) ∧ w'.cell? ⟨gb250, 1, none⟩ = some (.int .i64 a1_1) ∧ w'.cell? ⟨gb250, 2, none⟩ = some (.int .i64 a1_2) ∧ w'.cell? ⟨gb250, 3, none⟩ = some (.slice A1_3 l1_3.length c1_3) ∧ w'.cell? ⟨gb250, 4, none⟩ = some (.slice A1_4 l1_4.length c1_4) ∧ w'.cell? ⟨gb250, 5, none⟩ = some (.slice A1_5 l1_5.length c1_5) ∧ w'.cell? (ad255.add (a1_1).toNat) = some (.int .i64 (rd l2 a1_1)) ∧ w'.cell? (ad255.add (a1_2).toNat) = some (.int .i64 (rd l2 a1_2))) (ds := []) #[Z,Z,Z,Z,Z,Z,Z,Z,Z,Z,Z,Z] (by kernel_rfl) rfl rfl ⟨(xc BK250.out 0).trans rfl, (xc BK250.out 1).trans rfl, (xc BK250.out 2).trans rfl, (xc BK250.out 3).trans rfl, (xc BK250.out 4).trans rfl, (xc BK250.out 5).trans rfl, ((HB.out.cell (World.block_lt_of_cell? w _ hw255_0)).trans hw255_0), ((HB.out.cell (World.block_lt_of_cell? w _ hw256_0)).trans hw256_0)⟩ (fun hHeld => ?_); refine with_tabW impl_View_columnsOf.tab7 impl_View_columnsOf.bits7 (fun HT_ HW_ => ?_)
           generalize wc.drew = w44 at BK249 BK250 HB hx255_0 hx256_0 hHeld ⊢
           refine pu 0 12 1 ?_
           refine pu 1 12 3 ?_
           refine pu 5 12 35 ?_
           refine pu 6 12 99 ?_
           refine tx 2 12 103 rfl rfl (take_ofW HT_.out HW_.out (by kernel_rfl)) hHeld (by rintro w' ⟨s0, s1, s2, s3, s4, s5, s6, s7⟩; go_simp; with_reducible rfl) ?_
           refine pu 3 12 111 ?_
           refine tx 4 12 127 rfl rfl (take_ofW HT_.out HW_.out (by kernel_rfl)) hHeld (by rintro w' ⟨s0, s1, s2, s3, s4, s5, s6, s7⟩; go_simp; with_reducible rfl) ?_
           refine pu 10 12 1151 ?_
           refine tx 7 12 1279 rfl rfl (take_ofW HT_.out HW_.out (by kernel_rfl)) hHeld (by rintro w' ⟨s0, s1, s2, s3, s4, s5, s6, s7⟩; go_simp; with_reducible rfl) ?_
           refine pu 8 12 1535 ?_
           refine tx 9 12 2047 rfl rfl (take_ofW HT_.out HW_.out (by kernel_rfl)) hHeld (by rintro w' ⟨s0, s1, s2, s3, s4, s5, s6, s7⟩; go_simp; with_reducible rfl) ?_
           refine pu 11 12 4095 ?_
           refine done_ (done_of HT_.out (by kernel_rfl)) ?_
           have hnb45 := NB250_249.out
           have hnc45 := NB249_250.out
           obtain ⟨hcz46_0, hcz46_1, hcz46_2, hcz46_3, hcz46_4, hcz46_5, hfz46_0, hfz46_1, hfz46_2, hfz46_3, hfz46_4, hfz46_5⟩ := cz6 BK250.out
           try go_wp2
           have n0_ := xm (xr BK249.out)
           have n1_ := xm (xr BK250.out)
           have n2_ := xm (xd HB.out)
           revert n0_ n1_ n2_; clear BK249 BK250 HB; intro BK249 BK250 HB
           refine start_ (n := 9) (S := fun w' => w'.cell? ⟨gb250, 0, none⟩ = some (.int .i64 a1_0) ∧ w'.cell? ⟨gb250, 1, none⟩ = some (.int .i64 a1_1) ∧ w'.cell? ⟨gb250, 2, none⟩ = some (.int .i64 a1_2) ∧ w'.cell? ⟨gb250, 3, none⟩ = some (.slice A1_3 l1_3.length c1_3) ∧ w'.cell? ⟨gb250, 4, none⟩ = some (.slice A1_4 l1_4.length c1_4) ∧ w'.cell? ⟨gb250, 5, none⟩ = some (.slice A1_5 l1_5.length c1_5)) (ds := []) #[Z,Z,Z,Z,Z,Z,Z,Z,Z] (by kernel_rfl) rfl rfl ⟨(xc BK250.out 0).trans rfl, (xc BK250.out 1).trans rfl, (xc BK250.out 2).trans rfl, (xc BK250.out 3).trans rfl, (xc BK250.out 4).trans rfl, (xc BK250.out 5).trans rfl⟩ (fun hHeld => ?_); refine with_tabW impl_View_columnsOf.tab12 impl_View_columnsOf.bits12 (fun HT_ HW_ => ?_)
           generalize w44.drew = w47 at BK249 BK250 HB hHeld ⊢
           refine pu 0 9 1 ?_
           refine pu 3 9 9 ?_
           refine pu 5 9 41 ?_
           refine tx 1 9 43 rfl rfl (take_ofW HT_.out HW_.out (by kernel_rfl)) hHeld (by rintro w' ⟨s0, s1, s2, s3, s4, s5⟩; go_simp; with_reducible rfl) ?_
           refine pu 2 9 47 ?_
           refine tx 4 9 63 rfl rfl (take_ofW HT_.out HW_.out (by kernel_rfl)) hHeld (by rintro w' ⟨s0, s1, s2, s3, s4, s5⟩; go_simp; with_reducible rfl) ?_
           refine one_ (i := 6) (N := some 71) #[Y,Y,Y,Y,Y,Y,Y,Z,Z] rfl rfl (one_of HT_.out (by kernel_rfl)) (by decide) (fun K hK => ?_)
           refine goes_ Try.func32 (by kernel_rfl) rfl #[.slice A1_4 l1_4.length c1_4, .int .i64 (rd l2 a1_1)] (by rfl) rfl rfl mB ?_
           with_reducible refine (impl_areColumns.calls _ _ l1_4 (rd l2 a1_1) t258 _ ?side1 ?side2 A43.out).mono ?_
           (case side1 => exact cB (Kd.C_below HR1_4.out HB.out))
           (case side2 => exact HC1_4.out)
           rintro e w48 ⟨rfl, hb⟩
           refine ⟨_, rfl, ?_⟩
           have n0_ := xm (blk_below (kB BK249) hb)
           have n1_ := xm (blk_below (kB BK250) hb)
           have n2_ := xm (below_step bG hb)
           revert n0_ n1_ n2_; clear BK249 BK250 HB; intro BK249 BK250 HB
           (try clear hb)
           (try clear hb2)
           (try clear hk)
           (try clear hi)
           refine hK.out _ _ ⟨(xc BK250.out 0).trans rfl, (xc BK250.out 1).trans rfl, (xc BK250.out 2).trans rfl, (xc BK250.out 3).trans rfl, (xc BK250.out 4).trans rfl, (xc BK250.out 5).trans rfl⟩ (fun hHeld => nC ?_)
           clear hK K
           refine pu 7 9 255 ?_
           refine pu 8 9 511 ?_
           refine done_ (done_of HT_.out (by kernel_rfl)) ?_
           try go_wp2
           go_ret2
           exact ⟨eB, bG⟩
          ·rw [if_neg c42] at H
           have c42b0 : (a1_0 == 3) = false := beq_eq_false_iff_ne.mpr c42
           have c42b1 : (a1_0 != 3) = true := bne_iff_ne.mpr c42
           by_cases c49 : a1_0 = 4
           ·rw [if_pos c49] at H
            have c49b0 : (a1_0 == 4) = true := beq_iff_eq.mpr c49
            have c49b1 : (a1_0 != 4) = false := bne_eq_false_iff_eq.mpr c49
            clear c49
            replace H := Option.bind_eq_some_iff.mp H
            obtain ⟨t259, A500, H⟩ := H
            replace H : (if t259 = true then ((impl_joinedColumns.f kj18 (rd l2 a1_1) (rd l2 a1_2) l1_5).bind fun t260 => ((impl_isColumns.f t260).bind fun t261 => (some (t260, t261)))) else (some (0, false))) = some (r1, r2) := H
            have A50 := xm A500
            clear A500
            by_cases c51 : t259 = true
            ·subst c51
             have H1 : ((impl_joinedColumns.f kj18 (rd l2 a1_1) (rd l2 a1_2) l1_5).bind fun t260 => ((impl_isColumns.f t260).bind fun t261 => (some (t260, t261)))) = some (r1, r2) := by first | (with_reducible rfl) | (rw [if_pos rfl] at H; exact H)
             clear H
             have H := H1
             clear H1
             replace H := Option.bind_eq_some_iff.mp H
             obtain ⟨t260, A520, H⟩ := H
             replace H : ((impl_isColumns.f t260).bind fun t261 => (some (t260, t261))) = some (r1, r2) := H
             have A52 := xm A520
             clear A520
             replace H := Option.bind_eq_some_iff.mp H
             obtain ⟨t261, A530, H⟩ := H
             replace H : (some (t260, t261)) = some (r1, r2) := H
             have A53 := xm A530
             clear A530
             simp only [Option.some.injEq, Prod.mk.injEq] at H
             obtain ⟨rfl, rfl⟩ := H
             try go_wp2
             have n0_ := xm (xr BK249.out)
             have n1_ := xm (xr BK250.out)
             have n2_ := xm (xd HB.out)
             revert n0_ n1_ n2_; clear BK249 BK250 HB; intro BK249 BK250 HB
             have p255 : 0 ≤ (a1_1 : Int) := of_decide_eq_true aB
             have q255 : a1_1 < (l2.length : Int) := of_decide_eq_true aB
             obtain ⟨ad255, e255, hx255_0⟩ := Kd.at_int HR2.out a1_1 p255 q255
             have hw255_0 := hx255_0
             cases e255
             replace hx255_0 := hU hx255_0
             replace p255 := eq_true p255
             replace q255 := eq_true q255
             have p256 : 0 ≤ (a1_2 : Int) := of_decide_eq_true aB
             have q256 : a1_2 < (l2.length : Int) := of_decide_eq_true aB
             obtain ⟨ad256, e256, hx256_0⟩ := Kd.at_int HR2.out a1_2 p256 q256
             have hw256_0 := hx256_0
             obtain rfl : ad255 = ad256 := (by injection e256)
             replace hx256_0 := hU hx256_0
             replace p256 := eq_true p256
             replace q256 := eq_true q256
             refine start_ (n := 12) (S := fun w' => w'.cell? ⟨gb250, 0, none⟩ = some (.int .i64 a1_0) ∧ w'.cell? ⟨gb250, 1, none⟩ = some (.int .i64 a1_1) ∧ w'.cell? ⟨gb250, 2, none⟩ = some (.int .i64 a1_2) ∧ w'.cell? ⟨gb250, 3, none⟩ = some (.slice A1_3 l1_3.length c1_3) ∧ w'.cell? ⟨gb250, 4, none⟩ = some (.slice A1_4 l1_4.length c1_4) ∧ w'.cell? ⟨gb250, 5, none⟩ = some (.slice A1_5 l1_5.length c1_5) ∧ w'.cell? (ad255.add (a1_1).toNat) = some (.int .i64 (rd l2 a1_1)) ∧ w'.cell? (ad255.add (a1_2).toNat) = some (.int .i64 (rd l2 a1_2))) (ds := []) #[Z,Z,Z,Z,Z,Z,Z,Z,Z,Z,Z,Z] (by kernel_rfl) rfl rfl ⟨(xc BK250.out 0).trans rfl, (xc BK250.out 1).trans rfl, (xc BK250.out 2).trans rfl, (xc BK250.out 3).trans rfl, (xc BK250.out 4).trans rfl, (xc BK250.out 5).trans rfl, ((HB.out.cell (World.block_lt_of_cell? w _ hw255_0)).trans hw255_0), ((HB.out.cell (World.block_lt_of_cell? w _ hw256_0)).trans hw256_0)⟩ (fun hHeld => ?_); refine with_tabW impl_View_columnsOf.tab7 impl_View_columnsOf.bits7 (fun HT_ HW_ => ?_)
             generalize wc.drew = w54 at BK249 BK250 HB hx255_0 hx256_0 hHeld ⊢
             refine pu 0 12 1 ?_
             refine pu 1 12 3 ?_
             refine pu 5 12 35 ?_
             refine pu 6 12 99 ?_
             refine tx 2 12 103 rfl rfl (take_ofW HT_.out HW_.out (by kernel_rfl)) hHeld (by rintro w' ⟨s0, s1, s2, s3, s4, s5, s6, s7⟩; go_simp; with_reducible rfl) ?_
             refine pu 3 12 111 ?_
             refine tx 4 12 127 rfl rfl (take_ofW HT_.out HW_.out (by kernel_rfl)) hHeld (by rintro w' ⟨s0, s1, s2, s3, s4, s5, s6, s7⟩; go_simp; with_reducible rfl) ?_
             refine pu 10 12 1151 ?_
             refine tx 7 12 1279 rfl rfl (take_ofW HT_.out HW_.out (by kernel_rfl)) hHeld (by rintro w' ⟨s0, s1, s2, s3, s4, s5, s6, s7⟩; go_simp; with_reducible rfl) ?_
             refine pu 8 12 1535 ?_
             refine tx 9 12 2047 rfl rfl (take_ofW HT_.out HW_.out (by kernel_rfl)) hHeld (by rintro w' ⟨s0, s1, s2, s3, s4, s5, s6, s7⟩; go_simp; with_reducible rfl) ?_
             refine pu 11 12 4095 ?_
             refine done_ (done_of HT_.out (by kernel_rfl)) ?_
             have hnb55 := NB250_249.out
             have hnc55 := NB249_250.out
             obtain ⟨hcz56_0, hcz56_1, hcz56_2, hcz56_3, hcz56_4, hcz56_5, hfz56_0, hfz56_1, hfz56_2, hfz56_3, hfz56_4, hfz56_5⟩ := cz6 BK250.out
             try go_wp2_with (first | ((with_reducible refine gate_callee (f := 33) rfl ?_); refine goesL_ (some 78) rfl rfl Try.func33 (by kernel_rfl) rfl #[.slice A1_5 l1_5.length c1_5, .int .i64 (rd l2 a1_1), .int .i64 (rd l2 a1_2)] rfl mB ?_; (with_reducible refine (impl_arePairs.calls _ _ l1_5 (rd l2 a1_1) (rd l2 a1_2) true _ ?side1 ?side2 A50.out).mono ?_); (case side1 => exact cB (Kd.C_below HR1_5.out HB.out)); (case side2 => exact HC1_5.out); rintro e w57 ⟨rfl, hb⟩; refine ⟨_, rfl, ?_⟩; have n0_ := xm (blk_below (kB BK249) hb); have n1_ := xm (blk_below (kB BK250) hb); have n2_ := xm (below_step bG hb); revert n0_ n1_ n2_; clear BK249 BK250 HB; intro BK249 BK250 HB; (try clear hb); obtain ⟨hcz58_0, hcz58_1, hcz58_2, hcz58_3, hcz58_4, hcz58_5, hfz58_0, hfz58_1, hfz58_2, hfz58_3, hfz58_4, hfz58_5⟩ := cz6 BK250.out) | ((with_reducible refine gate_callee (f := 34) rfl ?_); refine goesL_ (some 84) rfl rfl Try.func34 (by kernel_rfl) rfl #[.int .i64 (rd l2 a1_1), .int .i64 (rd l2 a1_2), .slice A1_5 l1_5.length c1_5] rfl mB ?_; (with_reducible refine (impl_joinedColumns.calls kj18 (rd l2 a1_1) (rd l2 a1_2) _ _ l1_5 t260 _ ?side1 ?side2 A52.out).mono ?_); (case side1 => exact cB (Kd.C_below HR1_5.out HB.out)); (case side2 => exact HC1_5.out); rintro e w59 ⟨rfl, hb⟩; refine ⟨_, rfl, ?_⟩; have n0_ := xm (blk_below (kB BK249) hb); have n1_ := xm (blk_below (kB BK250) hb); have n2_ := xm (below_step bG hb); revert n0_ n1_ n2_; clear BK249 BK250 HB; intro BK249 BK250 HB; (try clear hb)) | ((with_reducible refine gate_callee (f := 20) rfl ?_); refine goesL_ (some 87) rfl rfl Try.func20 (by kernel_rfl) rfl #[.int .i64 t260] rfl mB ?_; (with_reducible refine (impl_isColumns.calls t260 t261 _ A53.out).mono ?_); rintro e w' ⟨rfl, ⟨nd, rfl⟩⟩; refine ⟨_, rfl, ?_⟩))
             go_ret2
             exact ⟨eB, bG⟩
            ·replace c51 := Bool.eq_false_iff.mpr c51
             subst c51
             have H1 : (some (0, false)) = some (r1, r2) := by first | (with_reducible rfl) | (rw [if_neg (show ¬ (false = true) by decide)] at H; exact H)
             clear H
             have H := H1
             clear H1
             simp only [Option.some.injEq, Prod.mk.injEq] at H
             obtain ⟨rfl, rfl⟩ := H
             try go_wp2
             have n0_ := xm (xr BK249.out)
             have n1_ := xm (xr BK250.out)
             have n2_ := xm (xd HB.out)
             revert n0_ n1_ n2_; clear BK249 BK250 HB; intro BK249 BK250 HB
             have p255 : 0 ≤ (a1_1 : Int) := of_decide_eq_true aB
             have q255 : a1_1 < (l2.length : Int) := of_decide_eq_true aB
             obtain ⟨ad255, e255, hx255_0⟩ := Kd.at_int HR2.out a1_1 p255 q255
             have hw255_0 := hx255_0
             cases e255
             replace hx255_0 := hU hx255_0
             replace p255 := eq_true p255
             replace q255 := eq_true q255
             have p256 : 0 ≤ (a1_2 : Int) := of_decide_eq_true aB
             have q256 : a1_2 < (l2.length : Int) := of_decide_eq_true aB
             obtain ⟨ad256, e256, hx256_0⟩ := Kd.at_int HR2.out a1_2 p256 q256
             have hw256_0 := hx256_0
             obtain rfl : ad255 = ad256 := (by injection e256)
             replace hx256_0 := hU hx256_0
             replace p256 := eq_true p256
             replace q256 := eq_true q256
             refine start_ (n := 12) (S := fun w' => w'.cell? ⟨gb250, 0, none⟩ = some (.int .i64 a1_0) ∧ w'.cell? ⟨gb250, 1, none⟩ = some (.int .i64 a1_1) ∧ w'.cell? ⟨gb250, 2, none⟩ = some (.int .i64 a1_2) ∧ w'.cell? ⟨gb250, 3, none⟩ = some (.slice A1_3 l1_3.length c1_3) ∧ w'.cell? ⟨gb250, 4, none⟩ = some (.slice A1_4 l1_4.length c1_4) ∧ w'.cell? ⟨gb250, 5, none⟩ = some (.slice A1_5 l1_5.length c1_5) ∧ w'.cell? (ad255.add (a1_1).toNat) = some (.int .i64 (rd l2 a1_1)) ∧ w'.cell? (ad255.add (a1_2).toNat) = some (.int .i64 (rd l2 a1_2))) (ds := []) #[Z,Z,Z,Z,Z,Z,Z,Z,Z,Z,Z,Z] (by kernel_rfl) rfl rfl ⟨(xc BK250.out 0).trans rfl, (xc BK250.out 1).trans rfl, (xc BK250.out 2).trans rfl, (xc BK250.out 3).trans rfl, (xc BK250.out 4).trans rfl, (xc BK250.out 5).trans rfl, ((HB.out.cell (World.block_lt_of_cell? w _ hw255_0)).trans hw255_0), ((HB.out.cell (World.block_lt_of_cell? w _ hw256_0)).trans hw256_0)⟩ (fun hHeld => ?_); refine with_tabW impl_View_columnsOf.tab7 impl_View_columnsOf.bits7 (fun HT_ HW_ => ?_)
             generalize wc.drew = w60 at BK249 BK250 HB hx255_0 hx256_0 hHeld ⊢
             refine pu 0 12 1 ?_
             refine pu 1 12 3 ?_
             refine pu 5 12 35 ?_
             refine pu 6 12 99 ?_
             refine tx 2 12 103 rfl rfl (take_ofW HT_.out HW_.out (by kernel_rfl)) hHeld (by rintro w' ⟨s0, s1, s2, s3, s4, s5, s6, s7⟩; go_simp; with_reducible rfl) ?_
             refine pu 3 12 111 ?_
             refine tx 4 12 127 rfl rfl (take_ofW HT_.out HW_.out (by kernel_rfl)) hHeld (by rintro w' ⟨s0, s1, s2, s3, s4, s5, s6, s7⟩; go_simp; with_reducible rfl) ?_
             refine pu 10 12 1151 ?_
             refine tx 7 12 1279 rfl rfl (take_ofW HT_.out HW_.out (by kernel_rfl)) hHeld (by rintro w' ⟨s0, s1, s2, s3, s4, s5, s6, s7⟩; go_simp; with_reducible rfl) ?_
             refine pu 8 12 1535 ?_
             refine tx 9 12 2047 rfl rfl (take_ofW HT_.out HW_.out (by kernel_rfl)) hHeld (by rintro w' ⟨s0, s1, s2, s3, s4, s5, s6, s7⟩; go_simp; with_reducible rfl) ?_
             refine pu 11 12 4095 ?_
             refine done_ (done_of HT_.out (by kernel_rfl)) ?_
             have hnb61 := NB250_249.out
             have hnc61 := NB249_250.out
             obtain ⟨hcz62_0, hcz62_1, hcz62_2, hcz62_3, hcz62_4, hcz62_5, hfz62_0, hfz62_1, hfz62_2, hfz62_3, hfz62_4, hfz62_5⟩ := cz6 BK250.out
             try go_wp2_with (first | ((with_reducible refine gate_callee (f := 33) rfl ?_); refine goesL_ (some 78) rfl rfl Try.func33 (by kernel_rfl) rfl #[.slice A1_5 l1_5.length c1_5, .int .i64 (rd l2 a1_1), .int .i64 (rd l2 a1_2)] rfl mB ?_; (with_reducible refine (impl_arePairs.calls _ _ l1_5 (rd l2 a1_1) (rd l2 a1_2) false _ ?side1 ?side2 A50.out).mono ?_); (case side1 => exact cB (Kd.C_below HR1_5.out HB.out)); (case side2 => exact HC1_5.out); rintro e w63 ⟨rfl, hb⟩; refine ⟨_, rfl, ?_⟩; have n0_ := xm (blk_below (kB BK249) hb); have n1_ := xm (blk_below (kB BK250) hb); have n2_ := xm (below_step bG hb); revert n0_ n1_ n2_; clear BK249 BK250 HB; intro BK249 BK250 HB; (try clear hb)))
             go_ret2
             exact ⟨eB, bG⟩
           ·rw [if_neg c49] at H
            have c49b0 : (a1_0 == 4) = false := beq_eq_false_iff_ne.mpr c49
            have c49b1 : (a1_0 != 4) = true := bne_iff_ne.mpr c49
            have HC64 := xm H
            clear H
            try go_wp2
            have n0_ := xm (xr BK249.out)
            have n1_ := xm (xr BK250.out)
            have n2_ := xm (xd HB.out)
            revert n0_ n1_ n2_; clear BK249 BK250 HB; intro BK249 BK250 HB
            have p255 : 0 ≤ (a1_1 : Int) := of_decide_eq_true aB
            have q255 : a1_1 < (l2.length : Int) := of_decide_eq_true aB
            obtain ⟨ad255, e255, hx255_0⟩ := Kd.at_int HR2.out a1_1 p255 q255
            have hw255_0 := hx255_0
            cases e255
            replace hx255_0 := hU hx255_0
            replace p255 := eq_true p255
            replace q255 := eq_true q255
            have p256 : 0 ≤ (a1_2 : Int) := of_decide_eq_true aB
            have q256 : a1_2 < (l2.length : Int) := of_decide_eq_true aB
            obtain ⟨ad256, e256, hx256_0⟩ := Kd.at_int HR2.out a1_2 p256 q256
            have hw256_0 := hx256_0
            obtain rfl : ad255 = ad256 := (by injection e256)
            replace hx256_0 := hU hx256_0
            replace p256 := eq_true p256
            replace q256 := eq_true q256
            refine start_ (n := 12) (S := fun w' => w'.cell? ⟨gb250, 0, none⟩ = some (.int .i64 a1_0) ∧ w'.cell? ⟨gb250, 1, none⟩ = some (.int .i64 a1_1) ∧ w'.cell? ⟨gb250, 2, none⟩ = some (.int .i64 a1_2) ∧ w'.cell? ⟨gb250, 3, none⟩ = some (.slice A1_3 l1_3.length c1_3) ∧ w'.cell? ⟨gb250, 4, none⟩ = some (.slice A1_4 l1_4.length c1_4) ∧ w'.cell? ⟨gb250, 5, none⟩ = some (.slice A1_5 l1_5.length c1_5) ∧ w'.cell? (ad255.add (a1_1).toNat) = some (.int .i64 (rd l2 a1_1)) ∧ w'.cell? (ad255.add (a1_2).toNat) = some (.int .i64 (rd l2 a1_2))) (ds := []) #[Z,Z,Z,Z,Z,Z,Z,Z,Z,Z,Z,Z] (by kernel_rfl) rfl rfl ⟨(xc BK250.out 0).trans rfl, (xc BK250.out 1).trans rfl, (xc BK250.out 2).trans rfl, (xc BK250.out 3).trans rfl, (xc BK250.out 4).trans rfl, (xc BK250.out 5).trans rfl, ((HB.out.cell (World.block_lt_of_cell? w _ hw255_0)).trans hw255_0), ((HB.out.cell (World.block_lt_of_cell? w _ hw256_0)).trans hw256_0)⟩ (fun hHeld => ?_); refine with_tabW impl_View_columnsOf.tab7 impl_View_columnsOf.bits7 (fun HT_ HW_ => ?_)
            generalize wc.drew = w65 at BK249 BK250 HB hx255_0 hx256_0 hHeld ⊢
            refine pu 0 12 1 ?_
            refine pu 1 12 3 ?_
            refine pu 5 12 35 ?_
            refine pu 6 12 99 ?_
            refine tx 2 12 103 rfl rfl (take_ofW HT_.out HW_.out (by kernel_rfl)) hHeld (by rintro w' ⟨s0, s1, s2, s3, s4, s5, s6, s7⟩; go_simp; with_reducible rfl) ?_
            refine pu 3 12 111 ?_
            refine tx 4 12 127 rfl rfl (take_ofW HT_.out HW_.out (by kernel_rfl)) hHeld (by rintro w' ⟨s0, s1, s2, s3, s4, s5, s6, s7⟩; go_simp; with_reducible rfl) ?_
            refine pu 10 12 1151 ?_
            refine tx 7 12 1279 rfl rfl (take_ofW HT_.out HW_.out (by kernel_rfl)) hHeld (by rintro w' ⟨s0, s1, s2, s3, s4, s5, s6, s7⟩; go_simp; with_reducible rfl) ?_
            refine pu 8 12 1535 ?_
            refine tx 9 12 2047 rfl rfl (take_ofW HT_.out HW_.out (by kernel_rfl)) hHeld (by rintro w' ⟨s0, s1, s2, s3, s4, s5, s6, s7⟩; go_simp; with_reducible rfl) ?_
            refine pu 11 12 4095 ?_
            refine done_ (done_of HT_.out (by kernel_rfl)) ?_
            have hnb66 := NB250_249.out
            have hnc66 := NB249_250.out
            obtain ⟨hcz67_0, hcz67_1, hcz67_2, hcz67_3, hcz67_4, hcz67_5, hfz67_0, hfz67_1, hfz67_2, hfz67_3, hfz67_4, hfz67_5⟩ := cz6 BK250.out
            go_upto_if 88 with (fail)
            go_cut [88] (fun v88 wc => ∃ (kq : Nat) (x88_63 : Bool), v88 = .bool x88_63 ∧ Aside0 (impl_View_columnsOf.j1 kq (rd l2 a1_1) (rd l2 a1_2) x88_63 a1_0 a1_1 a1_2 l1_3 l1_4 l1_5 = some (r1, r2)) ∧ Aside0 (kq ≤ kj18) ∧ Aside0 (wc.heap[gb249]? = some (.cells #[(.slice A0_0 l0_0.length c0_0), (.slice A0_1 l0_1.length c0_1)] 31 (0, 0))) ∧ Aside0 (wc.heap[gb250]? = some (.cells #[.int .i64 a1_0, .int .i64 a1_1, .int .i64 a1_2, (.slice A1_3 l1_3.length c1_3), (.slice A1_4 l1_4.length c1_4), (.slice A1_5 l1_5.length c1_5)] 47 (0, 0))) ∧ Aside0 (Below w.heap.size w wc))
            case first =>
             have H := HC64.out
             clear HC64
             by_cases c68 : a1_0 = 5
             ·rw [if_pos c68] at H
              have c68b0 : (a1_0 == 5) = true := beq_iff_eq.mpr c68
              have c68b1 : (a1_0 != 5) = false := bne_eq_false_iff_eq.mpr c68
              clear c68
              (first | rw [c68b0] | (simp only [i64_w, i32_w]; rw [c68b0]) | skip)
              have H' := xm H
              clear H
              go_wp2
              go_meet
              case rel => exact ⟨_, ((a1_0 == 5)), sB, H', ⟨by have := HJ18.out; first | omega | exact Nat.le_refl _⟩, ⟨kB BK249⟩, ⟨kB BK250⟩, ⟨bG⟩⟩
             ·rw [if_neg c68] at H
              have c68b0 : (a1_0 == 5) = false := beq_eq_false_iff_ne.mpr c68
              have c68b1 : (a1_0 != 5) = true := bne_iff_ne.mpr c68
              (first | rw [c68b0] | (simp only [i64_w, i32_w]; rw [c68b0]) | skip)
              have H' := xm H
              clear H
              go_wp2
              go_meet
              case rel => exact ⟨_, ((a1_0 == 6)), sB, H', ⟨by have := HJ18.out; first | omega | exact Nat.le_refl _⟩, ⟨kB BK249⟩, ⟨kB BK250⟩, ⟨bG⟩⟩
            case rest =>
             clear HC64
             try clear c1
             try clear c2
             try clear p2
             try clear q2
             try clear hx2
             try clear c3
             try clear c4
             try clear c5
             try clear c6
             try clear c20
             try clear p25
             try clear q25
             try clear hx25
             try clear c32
             try clear c33
             try clear c34
             try clear c42
             try clear c42b0 c42b1
             try clear c49
             try clear c49b0 c49b1
             try clear c51
             try clear c55
             try clear c61
             try clear c66
             try clear c68
             try clear c68b0 c68b1
             try clear hcz56_0 hcz56_1 hcz56_2 hcz56_3 hcz56_4 hcz56_5
             try clear hcz58_0 hcz58_1 hcz58_2 hcz58_3 hcz58_4 hcz58_5
             try clear hcz62_0 hcz62_1 hcz62_2 hcz62_3 hcz62_4 hcz62_5
             try clear hcz67_0 hcz67_1 hcz67_2 hcz67_3 hcz67_4 hcz67_5
             try clear hfz56_0 hfz56_1 hfz56_2 hfz56_3 hfz56_4 hfz56_5
             try clear hfz58_0 hfz58_1 hfz58_2 hfz58_3 hfz58_4 hfz58_5
             try clear hfz62_0 hfz62_1 hfz62_2 hfz62_3 hfz62_4 hfz62_5
             try clear hfz67_0 hfz67_1 hfz67_2 hfz67_3 hfz67_4 hfz67_5
             try clear hx255_0
             try clear hx256_0
             try clear p255
             try clear p256
             try clear q255
             try clear q256
             obtain ⟨kq, x88_63, rfl, HA, HJ63, BK249, BK250, HB⟩ := hcut
             cases kq with
             | zero => exact absurd HA.out (by simp [impl_View_columnsOf.j1])
             | succ kj63 =>
              have H := HA.out
              clear HA
              simp only [impl_View_columnsOf.j1] at H
              by_cases c69 : x88_63 = true
              ·subst c69
               have H1 : (some ((rd l2 a1_1), ((rd l2 a1_1) == (rd l2 a1_2)))) = some (r1, r2) := by first | (with_reducible rfl) | (rw [if_pos rfl] at H; exact H)
               clear H
               have H := H1
               clear H1
               simp only [Option.some.injEq, Prod.mk.injEq] at H
               obtain ⟨rfl, rfl⟩ := H
               go_wp2
               go_ret2
               exact ⟨eB, bG⟩
              ·replace c69 := Bool.eq_false_iff.mpr c69
               subst c69
               have H1 : (some ((rd l2 a1_1), (a1_0 == 7))) = some (r1, r2) := by first | (with_reducible rfl) | (rw [if_neg (show ¬ (false = true) by decide)] at H; exact H)
               clear H
               have H := H1
               clear H1
               simp only [Option.some.injEq, Prod.mk.injEq] at H
               obtain ⟨rfl, rfl⟩ := H
               try go_wp2
               have n0_ := xm (xr BK249.out)
               have n1_ := xm (xr BK250.out)
               have n2_ := xm (xd HB.out)
               revert n0_ n1_ n2_; clear BK249 BK250 HB; intro BK249 BK250 HB
               refine start_ (n := 6) (S := fun w' => w'.cell? ⟨gb250, 0, none⟩ = some (.int .i64 a1_0) ∧ w'.cell? ⟨gb250, 1, none⟩ = some (.int .i64 a1_1) ∧ w'.cell? ⟨gb250, 2, none⟩ = some (.int .i64 a1_2) ∧ w'.cell? ⟨gb250, 3, none⟩ = some (.slice A1_3 l1_3.length c1_3) ∧ w'.cell? ⟨gb250, 4, none⟩ = some (.slice A1_4 l1_4.length c1_4) ∧ w'.cell? ⟨gb250, 5, none⟩ = some (.slice A1_5 l1_5.length c1_5)) (ds := []) #[false, false, false, false, false, false] (by kernel_rfl) rfl rfl ⟨(xc BK250.out 0).trans rfl, (xc BK250.out 1).trans rfl, (xc BK250.out 2).trans rfl, (xc BK250.out 3).trans rfl, (xc BK250.out 4).trans rfl, (xc BK250.out 5).trans rfl⟩ (fun hHeld => ?_)
               generalize wc.drew = w70 at BK249 BK250 HB hHeld ⊢
               refine px 0 6 1 (by kernel_rfl) ?_
               refine px 1 6 3 (by kernel_rfl) ?_
               refine px 4 6 19 (by kernel_rfl) ?_
               refine tx 2 6 23 rfl rfl (by kernel_rfl) hHeld (by rintro w' ⟨s0, s1, s2, s3, s4, s5⟩; go_simp; with_reducible rfl) ?_
               refine px 3 6 31 (by kernel_rfl) ?_
               refine px 5 6 63 (by kernel_rfl) ?_
               refine done_ (by kernel_rfl) ?_
               try go_wp2
               go_ret2
               exact ⟨eB, bG⟩
        ·rw [if_neg c35] at H
         exact absurd H (by simp)
       ·rw [if_neg c34] at H
        exact absurd H (by simp)
      ·rw [if_neg c33] at H
       exact absurd H (by simp)
     ·rw [if_neg c32] at H
      exact absurd H (by simp)

end Go.Proofs.Ytaddemalepndfae.G
