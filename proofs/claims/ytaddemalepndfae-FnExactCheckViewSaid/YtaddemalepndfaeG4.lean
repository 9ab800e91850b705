/- Written by a program of this claim's own, out of the translation: functions of the program as plain functions, and that the calls answer as these. No conditions. -/
import Derived.Test.YtaddemalepndfaeG0
import Derived.Test.YtaddemalepndfaeG2
import Derived.Test.YtaddemalepndfaeG3
namespace Go.Proofs.Ytaddemalepndfae.G
open Go.RowKit Go.Proofs.Ytaddemalepndfae.X Go.Proofs.YtaddemalepndfaeW.PrintWords Go.Proofs.YtaddemalepndfaeW.PrintLast Go.Proofs.YtaddemalepndfaeW.PrintMore
attribute [local go_sem] max2_int min2_int max_two min_two max_three min_three max_four min_four   -- for this text's walks alone
set_option linter.unusedVariables false
set_option linter.unusedSimpArgs false

/-! ### spec_l6Columns: function 27 -/
def spec_l6Columns.j0 : Nat → List Int → Int → Bool → Int → Int → Int → List (S71) → List Int → List (List Int) → Option (Int × Bool)
 | 0, _, _, _, _, _, _, _, _, _ => none
 | k + 1, x1, x6, x54, x126000, x126001, x126002, x126003, x126004, x126005 => if x54 = true then (if 0 ≤ x126002 then (if x126002 < (x1.length : Int) then (some (x6, (x6 == (rd x1 x126002)))) else (none)) else (none)) else (some (x6, (x126000 == 7)))
def spec_l6Columns.f (k : Nat) (a0_0 : Int) (a0_1 : Int) (a0_2 : Int) (l0_3 : List (S71)) (l0_4 : List Int) (l0_5 : List (List Int)) (l1 : List Int) : Option (Int × Bool) := if 0 ≤ a0_1 then (if a0_1 < (l1.length : Int) then (if a0_0 = 2 then ((spec_GoodTests.f k l0_3 (rd l1 a0_1)).bind fun t127 => (some (rd l1 a0_1, t127))) else (if a0_0 = 3 then ((spec_l1Columns.f k l0_4 (rd l1 a0_1)).bind fun t128 => (some ((l0_4.length : Int), t128))) else (if a0_0 = 4 then (if 0 ≤ a0_2 then (if a0_2 < (l1.length : Int) then ((spec_l1Pairs.f k l0_5 (rd l1 a0_1) (rd l1 a0_2)).bind fun t130 => (if t130 = true then ((spec_l3Left.f k l0_5 (rd l1 a0_2)).bind fun t131 => (some (wrap64 ((rd l1 a0_1) + t131), decide ((wrap64 ((rd l1 a0_1) + t131)) ≤ 6)))) else (some (0, false)))) else (none)) else (none)) else (if a0_0 = 5 then (spec_l6Columns.j0 k l1 (rd l1 a0_1) (a0_0 == 5) a0_0 a0_1 a0_2 l0_3 l0_4 l0_5) else (spec_l6Columns.j0 k l1 (rd l1 a0_1) (a0_0 == 6) a0_0 a0_1 a0_2 l0_3 l0_4 l0_5))))) else (none)) else (none)
theorem spec_l6Columns.mono_l : ∀ k, (∀ y0 y1 y2 y3 y4 y5 y6 y7 y8, LeO (spec_l6Columns.j0 k y0 y1 y2 y3 y4 y5 y6 y7 y8) (spec_l6Columns.j0 (k + 1) y0 y1 y2 y3 y4 y5 y6 y7 y8))
 | 0 => fun _ _ _ _ _ _ _ _ _ r h => by simp [spec_l6Columns.j0] at h
 | k + 1 => by
  have ih0 := spec_l6Columns.mono_l k
  ·intro y0 y1 y2 y3 y4 y5 y6 y7 y8
   unfold spec_l6Columns.j0
   repeat' first
   | (with_reducible exact ih0 _ _ _ _ _ _ _ _ _)
   | (with_reducible exact spec_GoodTests.mono _ _ _)
   | (with_reducible exact spec_l1Columns.mono _ _ _)
   | (with_reducible exact spec_l1Pairs.mono _ _ _ _)
   | (with_reducible exact spec_l3Left.mono _ _ _)
   | (with_reducible exact LeO.refl _)
   | (with_reducible exact LeO.none _)
   | (with_reducible refine LeO.ite ?_ ?_)
   | (with_reducible refine LeO.bind ?_ (fun _ => ?_))
   | exact ih0 _ _ _ _ _ _ _ _ _
   | exact spec_GoodTests.mono _ _ _
   | exact spec_l1Columns.mono _ _ _
   | exact spec_l1Pairs.mono _ _ _ _
   | exact spec_l3Left.mono _ _ _
   | exact LeO.none _
   | refine LeO.ite ?_ ?_
   | refine LeO.bind ?_ (fun _ => ?_)
theorem spec_l6Columns.mono : ∀ a0 a1 a2 a3 a4 a5 a6 k, LeO (spec_l6Columns.f k a0 a1 a2 a3 a4 a5 a6) (spec_l6Columns.f (k + 1) a0 a1 a2 a3 a4 a5 a6) := by
 intro a0 a1 a2 a3 a4 a5 a6 k
 have ih0 := spec_l6Columns.mono_l k
 unfold spec_l6Columns.f
 repeat' first
   | (with_reducible exact ih0 _ _ _ _ _ _ _ _ _)
   | (with_reducible exact spec_GoodTests.mono _ _ _)
   | (with_reducible exact spec_l1Columns.mono _ _ _)
   | (with_reducible exact spec_l1Pairs.mono _ _ _ _)
   | (with_reducible exact spec_l3Left.mono _ _ _)
   | (with_reducible exact LeO.refl _)
   | (with_reducible exact LeO.none _)
   | (with_reducible refine LeO.ite ?_ ?_)
   | (with_reducible refine LeO.bind ?_ (fun _ => ?_))
   | exact ih0 _ _ _ _ _ _ _ _ _
   | exact spec_GoodTests.mono _ _ _
   | exact spec_l1Columns.mono _ _ _
   | exact spec_l1Pairs.mono _ _ _ _
   | exact spec_l3Left.mono _ _ _
   | exact LeO.none _
   | refine LeO.ite ?_ ?_
   | refine LeO.bind ?_ (fun _ => ?_)
set_option maxHeartbeats 8000000 in
set_option maxRecDepth 100000 in
theorem spec_l6Columns.calls (k : Nat) (a0_0 : Int) (a0_1 : Int) (a0_2 : Int) (A0_3 : Option Addr) (c0_3 : Nat) (l0_3 : List (S71)) (A0_4 : Option Addr) (c0_4 : Nat) (l0_4 : List Int) (A0_5 : Option Addr) (c0_5 : Nat) (l0_5 : List (List Int)) (A1 : Option Addr) (c1 : Nat) (l1 : List Int) (r1 : Int) (r2 : Bool) (w : World) (hr0_3 : Kd.C k71 w A0_3 l0_3.length l0_3) (hc0_3 : l0_3.length ≤ c0_3) (hr0_4 : Kd.C (Kd.int .i64) w A0_4 l0_4.length l0_4) (hc0_4 : l0_4.length ≤ c0_4) (hr0_5 : Kd.C (Kd.slice 3 (Kd.int .i64)) w A0_5 l0_5.length l0_5) (hc0_5 : l0_5.length ≤ c0_5) (hr1 : Kd.C (Kd.int .i64) w A1 l1.length l1) (hc1 : l1.length ≤ c1) (h : spec_l6Columns.f k a0_0 a0_1 a0_2 l0_3 l0_4 l0_5 l1 = some (r1, r2)) :
  Calls Try.prog 27 #[.agg #[.int .i64 a0_0, .int .i64 a0_1, .int .i64 a0_2, .slice A0_3 l0_3.length c0_3, .slice A0_4 l0_4.length c0_4, .slice A0_5 l0_5.length c0_5], .slice A1 l1.length c1] w fun e w' => e = .returned (.tuple #[.int .i64 r1, .bool r2]) ∧ Below w.heap.size w w' := by
 have hu47 := Try.underlying47
 have HR0_3 := xm hr0_3
 have HC0_3 := xm hc0_3
 clear hr0_3 hc0_3
 have HR0_4 := xm hr0_4
 have HC0_4 := xm hc0_4
 clear hr0_4 hc0_4
 have HR0_5 := xm hr0_5
 have HC0_5 := xm hc0_5
 clear hr0_5 hc0_5
 have HR1 := xm hr1
 have HC1 := xm hc1
 clear hr1 hc1
 have HB := xm (Below.refl w.heap.size w)
 have H : (if 0 ≤ a0_1 then (if a0_1 < (l1.length : Int) then (if a0_0 = 2 then ((spec_GoodTests.f k l0_3 (rd l1 a0_1)).bind fun t127 => (some (rd l1 a0_1, t127))) else (if a0_0 = 3 then ((spec_l1Columns.f k l0_4 (rd l1 a0_1)).bind fun t128 => (some ((l0_4.length : Int), t128))) else (if a0_0 = 4 then (if 0 ≤ a0_2 then (if a0_2 < (l1.length : Int) then ((spec_l1Pairs.f k l0_5 (rd l1 a0_1) (rd l1 a0_2)).bind fun t130 => (if t130 = true then ((spec_l3Left.f k l0_5 (rd l1 a0_2)).bind fun t131 => (some (wrap64 ((rd l1 a0_1) + t131), decide ((wrap64 ((rd l1 a0_1) + t131)) ≤ 6)))) else (some (0, false)))) else (none)) else (none)) else (if a0_0 = 5 then (spec_l6Columns.j0 k l1 (rd l1 a0_1) (a0_0 == 5) a0_0 a0_1 a0_2 l0_3 l0_4 l0_5) else (spec_l6Columns.j0 k l1 (rd l1 a0_1) (a0_0 == 6) a0_0 a0_1 a0_2 l0_3 l0_4 l0_5))))) else (none)) else (none)) = some (r1, r2) := h
 clear h
 by_cases c3 : 0 ≤ a0_1
 ·rw [if_pos c3] at H
  have c3b0 : decide (0 ≤ a0_1) = true := decide_eq_true c3
  clear c3
  by_cases c4 : a0_1 < (l1.length : Int)
  ·rw [if_pos c4] at H
   have c4b0 : decide (a0_1 < (l1.length : Int)) = true := decide_eq_true c4
   clear c4
   by_cases c5 : a0_0 = 2
   ·rw [if_pos c5] at H
    have c5b0 : (a0_0 == 2) = true := beq_iff_eq.mpr c5
    have c5b1 : (a0_0 != 2) = false := bne_eq_false_iff_eq.mpr c5
    clear c5
    replace H := Option.bind_eq_some_iff.mp H
    obtain ⟨t127, A60, H⟩ := H
    replace H : (some (rd l1 a0_1, t127)) = some (r1, r2) := H
    have A6 := xm A60
    clear A60
    simp only [Option.some.injEq, Prod.mk.injEq] at H
    obtain ⟨rfl, rfl⟩ := H
    go_enter Try.func27, Try.ntmps27
    go_wp2_with (first | ((with_reducible refine gate_dst (N := 2) rfl ?_); refine box_event ?hg (N := 2) ?hd (cs := #[.int .i64 a0_0, .int .i64 a0_1, .int .i64 a0_2, .slice A0_3 l0_3.length c0_3, .slice A0_4 l0_4.length c0_4, .slice A0_5 l0_5.length c0_5]) (t := 47) ?hr ?_; (case hd => rfl); (case hg => rfl); (case hr => exact zB); intro gb125 hg w7 hbox hb; have n0_ := xm (below_step bB hb); have n1_ := xm (hbox); have n2_ := xm ((by rw [hg]; exact (xz bB) : w.heap.size ≤ gb125)); have n3_ := xm ((by rw [hg]; exact (xz bB) : w.heap.size ≤ gb125)); revert n0_ n1_ n2_ n3_; clear HB; intro HB BK125 GW125 GE125; clear hb hbox hg; obtain ⟨hcz8_0, hcz8_1, hcz8_2, hcz8_3, hcz8_4, hcz8_5, hfz8_0, hfz8_1, hfz8_2, hfz8_3, hfz8_4, hfz8_5⟩ := cz6 BK125.out; have p126 : 0 ≤ (a0_1 : Int) := of_decide_eq_true aB; have q126 : a0_1 < (l1.length : Int) := of_decide_eq_true aB; obtain ⟨ad126, e126, hx126_0⟩ := Kd.at_int HR1.out a0_1 p126 q126; cases e126; replace hx126_0 := (HB.out.cell (World.block_lt_of_cell? w _ hx126_0)).trans hx126_0; replace p126 := eq_true p126; replace q126 := eq_true q126) | (go_at_call 40; (with_reducible refine (spec_GoodTests.calls k _ _ l0_3 (rd l1 a0_1) t127 _ ?side1 ?side2 A6.out).mono ?_); (case side1 => exact cB (Kd.C_below HR0_3.out HB.out)); (case side2 => exact HC0_3.out); rintro e w9 ⟨rfl, hb⟩; have n0_ := xm (blk_below (kB BK125) hb); have n1_ := xm (below_step bG hb); revert n0_ n1_; clear BK125 HB; intro BK125 HB; (try clear hb)))
    repeat (go_quiet (first | ((with_reducible refine gate_dst (N := 2) rfl ?_); refine box_event ?hg (N := 2) ?hd (cs := #[.int .i64 a0_0, .int .i64 a0_1, .int .i64 a0_2, .slice A0_3 l0_3.length c0_3, .slice A0_4 l0_4.length c0_4, .slice A0_5 l0_5.length c0_5]) (t := 47) ?hr ?_; (case hd => rfl); (case hg => rfl); (case hr => exact zB); intro gb125 hg w7 hbox hb; have n0_ := xm (below_step bB hb); have n1_ := xm (hbox); have n2_ := xm ((by rw [hg]; exact (xz bB) : w.heap.size ≤ gb125)); have n3_ := xm ((by rw [hg]; exact (xz bB) : w.heap.size ≤ gb125)); revert n0_ n1_ n2_ n3_; clear HB; intro HB BK125 GW125 GE125; clear hb hbox hg; obtain ⟨hcz8_0, hcz8_1, hcz8_2, hcz8_3, hcz8_4, hcz8_5, hfz8_0, hfz8_1, hfz8_2, hfz8_3, hfz8_4, hfz8_5⟩ := cz6 BK125.out; have p126 : 0 ≤ (a0_1 : Int) := of_decide_eq_true aB; have q126 : a0_1 < (l1.length : Int) := of_decide_eq_true aB; obtain ⟨ad126, e126, hx126_0⟩ := Kd.at_int HR1.out a0_1 p126 q126; cases e126; replace hx126_0 := (HB.out.cell (World.block_lt_of_cell? w _ hx126_0)).trans hx126_0; replace p126 := eq_true p126; replace q126 := eq_true q126) | (go_at_call 40; (with_reducible refine (spec_GoodTests.calls k _ _ l0_3 (rd l1 a0_1) t127 _ ?side1 ?side2 A6.out).mono ?_); (case side1 => exact cB (Kd.C_below HR0_3.out HB.out)); (case side2 => exact HC0_3.out); rintro e w9 ⟨rfl, hb⟩; have n0_ := xm (blk_below (kB BK125) hb); have n1_ := xm (below_step bG hb); revert n0_ n1_; clear BK125 HB; intro BK125 HB; (try clear hb))); try go_wp2_with (first | ((with_reducible refine gate_dst (N := 2) rfl ?_); refine box_event ?hg (N := 2) ?hd (cs := #[.int .i64 a0_0, .int .i64 a0_1, .int .i64 a0_2, .slice A0_3 l0_3.length c0_3, .slice A0_4 l0_4.length c0_4, .slice A0_5 l0_5.length c0_5]) (t := 47) ?hr ?_; (case hd => rfl); (case hg => rfl); (case hr => exact zB); intro gb125 hg w7 hbox hb; have n0_ := xm (below_step bB hb); have n1_ := xm (hbox); have n2_ := xm ((by rw [hg]; exact (xz bB) : w.heap.size ≤ gb125)); have n3_ := xm ((by rw [hg]; exact (xz bB) : w.heap.size ≤ gb125)); revert n0_ n1_ n2_ n3_; clear HB; intro HB BK125 GW125 GE125; clear hb hbox hg; obtain ⟨hcz8_0, hcz8_1, hcz8_2, hcz8_3, hcz8_4, hcz8_5, hfz8_0, hfz8_1, hfz8_2, hfz8_3, hfz8_4, hfz8_5⟩ := cz6 BK125.out; have p126 : 0 ≤ (a0_1 : Int) := of_decide_eq_true aB; have q126 : a0_1 < (l1.length : Int) := of_decide_eq_true aB; obtain ⟨ad126, e126, hx126_0⟩ := Kd.at_int HR1.out a0_1 p126 q126; cases e126; replace hx126_0 := (HB.out.cell (World.block_lt_of_cell? w _ hx126_0)).trans hx126_0; replace p126 := eq_true p126; replace q126 := eq_true q126) | (go_at_call 40; (with_reducible refine (spec_GoodTests.calls k _ _ l0_3 (rd l1 a0_1) t127 _ ?side1 ?side2 A6.out).mono ?_); (case side1 => exact cB (Kd.C_below HR0_3.out HB.out)); (case side2 => exact HC0_3.out); rintro e w9 ⟨rfl, hb⟩; have n0_ := xm (blk_below (kB BK125) hb); have n1_ := xm (below_step bG hb); revert n0_ n1_; clear BK125 HB; intro BK125 HB; (try clear hb))))
    go_ret2
    exact ⟨eB, bG⟩
   ·rw [if_neg c5] at H
    have c5b0 : (a0_0 == 2) = false := beq_eq_false_iff_ne.mpr c5
    have c5b1 : (a0_0 != 2) = true := bne_iff_ne.mpr c5
    by_cases c10 : a0_0 = 3
    ·rw [if_pos c10] at H
     have c10b0 : (a0_0 == 3) = true := beq_iff_eq.mpr c10
     have c10b1 : (a0_0 != 3) = false := bne_eq_false_iff_eq.mpr c10
     clear c10
     replace H := Option.bind_eq_some_iff.mp H
     obtain ⟨t128, A110, H⟩ := H
     replace H : (some ((l0_4.length : Int), t128)) = some (r1, r2) := H
     have A11 := xm A110
     clear A110
     simp only [Option.some.injEq, Prod.mk.injEq] at H
     obtain ⟨rfl, rfl⟩ := H
     go_enter Try.func27, Try.ntmps27
     go_wp2_with (first | ((with_reducible refine gate_dst (N := 2) rfl ?_); refine box_event ?hg (N := 2) ?hd (cs := #[.int .i64 a0_0, .int .i64 a0_1, .int .i64 a0_2, .slice A0_3 l0_3.length c0_3, .slice A0_4 l0_4.length c0_4, .slice A0_5 l0_5.length c0_5]) (t := 47) ?hr ?_; (case hd => rfl); (case hg => rfl); (case hr => exact zB); intro gb125 hg w12 hbox hb; have n0_ := xm (below_step bB hb); have n1_ := xm (hbox); have n2_ := xm ((by rw [hg]; exact (xz bB) : w.heap.size ≤ gb125)); have n3_ := xm ((by rw [hg]; exact (xz bB) : w.heap.size ≤ gb125)); revert n0_ n1_ n2_ n3_; clear HB; intro HB BK125 GW125 GE125; clear hb hbox hg; obtain ⟨hcz13_0, hcz13_1, hcz13_2, hcz13_3, hcz13_4, hcz13_5, hfz13_0, hfz13_1, hfz13_2, hfz13_3, hfz13_4, hfz13_5⟩ := cz6 BK125.out; have p126 : 0 ≤ (a0_1 : Int) := of_decide_eq_true aB; have q126 : a0_1 < (l1.length : Int) := of_decide_eq_true aB; obtain ⟨ad126, e126, hx126_0⟩ := Kd.at_int HR1.out a0_1 p126 q126; cases e126; replace hx126_0 := (HB.out.cell (World.block_lt_of_cell? w _ hx126_0)).trans hx126_0; replace p126 := eq_true p126; replace q126 := eq_true q126) | (go_at_call 41; (with_reducible refine (spec_l1Columns.calls k _ _ l0_4 (rd l1 a0_1) t128 _ ?side1 ?side2 A11.out).mono ?_); (case side1 => exact cB (Kd.C_below HR0_4.out HB.out)); (case side2 => exact HC0_4.out); rintro e w' ⟨rfl, ⟨nd, rfl⟩⟩; (try first | exact ⟨rfl, _, World.drewN_drewN _ _ _⟩ | exact ⟨rfl, _, Eq.trans (World.drewN_drewN _ _ _) (congrArg (World.drewN _) (Nat.add_assoc _ _ _))⟩)))
     repeat (go_quiet (first | ((with_reducible refine gate_dst (N := 2) rfl ?_); refine box_event ?hg (N := 2) ?hd (cs := #[.int .i64 a0_0, .int .i64 a0_1, .int .i64 a0_2, .slice A0_3 l0_3.length c0_3, .slice A0_4 l0_4.length c0_4, .slice A0_5 l0_5.length c0_5]) (t := 47) ?hr ?_; (case hd => rfl); (case hg => rfl); (case hr => exact zB); intro gb125 hg w12 hbox hb; have n0_ := xm (below_step bB hb); have n1_ := xm (hbox); have n2_ := xm ((by rw [hg]; exact (xz bB) : w.heap.size ≤ gb125)); have n3_ := xm ((by rw [hg]; exact (xz bB) : w.heap.size ≤ gb125)); revert n0_ n1_ n2_ n3_; clear HB; intro HB BK125 GW125 GE125; clear hb hbox hg; obtain ⟨hcz13_0, hcz13_1, hcz13_2, hcz13_3, hcz13_4, hcz13_5, hfz13_0, hfz13_1, hfz13_2, hfz13_3, hfz13_4, hfz13_5⟩ := cz6 BK125.out; have p126 : 0 ≤ (a0_1 : Int) := of_decide_eq_true aB; have q126 : a0_1 < (l1.length : Int) := of_decide_eq_true aB; obtain ⟨ad126, e126, hx126_0⟩ := Kd.at_int HR1.out a0_1 p126 q126; cases e126; replace hx126_0 := (HB.out.cell (World.block_lt_of_cell? w _ hx126_0)).trans hx126_0; replace p126 := eq_true p126; replace q126 := eq_true q126) | (go_at_call 41; (with_reducible refine (spec_l1Columns.calls k _ _ l0_4 (rd l1 a0_1) t128 _ ?side1 ?side2 A11.out).mono ?_); (case side1 => exact cB (Kd.C_below HR0_4.out HB.out)); (case side2 => exact HC0_4.out); rintro e w' ⟨rfl, ⟨nd, rfl⟩⟩; (try first | exact ⟨rfl, _, World.drewN_drewN _ _ _⟩ | exact ⟨rfl, _, Eq.trans (World.drewN_drewN _ _ _) (congrArg (World.drewN _) (Nat.add_assoc _ _ _))⟩))); try go_wp2_with (first | ((with_reducible refine gate_dst (N := 2) rfl ?_); refine box_event ?hg (N := 2) ?hd (cs := #[.int .i64 a0_0, .int .i64 a0_1, .int .i64 a0_2, .slice A0_3 l0_3.length c0_3, .slice A0_4 l0_4.length c0_4, .slice A0_5 l0_5.length c0_5]) (t := 47) ?hr ?_; (case hd => rfl); (case hg => rfl); (case hr => exact zB); intro gb125 hg w12 hbox hb; have n0_ := xm (below_step bB hb); have n1_ := xm (hbox); have n2_ := xm ((by rw [hg]; exact (xz bB) : w.heap.size ≤ gb125)); have n3_ := xm ((by rw [hg]; exact (xz bB) : w.heap.size ≤ gb125)); revert n0_ n1_ n2_ n3_; clear HB; intro HB BK125 GW125 GE125; clear hb hbox hg; obtain ⟨hcz13_0, hcz13_1, hcz13_2, hcz13_3, hcz13_4, hcz13_5, hfz13_0, hfz13_1, hfz13_2, hfz13_3, hfz13_4, hfz13_5⟩ := cz6 BK125.out; have p126 : 0 ≤ (a0_1 : Int) := of_decide_eq_true aB; have q126 : a0_1 < (l1.length : Int) := of_decide_eq_true aB; obtain ⟨ad126, e126, hx126_0⟩ := Kd.at_int HR1.out a0_1 p126 q126; cases e126; replace hx126_0 := (HB.out.cell (World.block_lt_of_cell? w _ hx126_0)).trans hx126_0; replace p126 := eq_true p126; replace q126 := eq_true q126) | (go_at_call 41; (with_reducible refine (spec_l1Columns.calls k _ _ l0_4 (rd l1 a0_1) t128 _ ?side1 ?side2 A11.out).mono ?_); (case side1 => exact cB (Kd.C_below HR0_4.out HB.out)); (case side2 => exact HC0_4.out); rintro e w' ⟨rfl, ⟨nd, rfl⟩⟩; (try first | exact ⟨rfl, _, World.drewN_drewN _ _ _⟩ | exact ⟨rfl, _, Eq.trans (World.drewN_drewN _ _ _) (congrArg (World.drewN _) (Nat.add_assoc _ _ _))⟩))))
     go_ret2
     exact ⟨eB, bG⟩
    ·rw [if_neg c10] at H
     have c10b0 : (a0_0 == 3) = false := beq_eq_false_iff_ne.mpr c10
     have c10b1 : (a0_0 != 3) = true := bne_iff_ne.mpr c10
     by_cases c14 : a0_0 = 4
     ·rw [if_pos c14] at H
      have c14b0 : (a0_0 == 4) = true := beq_iff_eq.mpr c14
      have c14b1 : (a0_0 != 4) = false := bne_eq_false_iff_eq.mpr c14
      clear c14
      by_cases c15 : 0 ≤ a0_2
      ·rw [if_pos c15] at H
       have c15b0 : decide (0 ≤ a0_2) = true := decide_eq_true c15
       clear c15
       by_cases c16 : a0_2 < (l1.length : Int)
       ·rw [if_pos c16] at H
        have c16b0 : decide (a0_2 < (l1.length : Int)) = true := decide_eq_true c16
        clear c16
        replace H := Option.bind_eq_some_iff.mp H
        obtain ⟨t130, A170, H⟩ := H
        replace H : (if t130 = true then ((spec_l3Left.f k l0_5 (rd l1 a0_2)).bind fun t131 => (some (wrap64 ((rd l1 a0_1) + t131), decide ((wrap64 ((rd l1 a0_1) + t131)) ≤ 6)))) else (some (0, false))) = some (r1, r2) := H
        have A17 := xm A170
        clear A170
        by_cases c18 : t130 = true
        ·subst c18
         have H1 : ((spec_l3Left.f k l0_5 (rd l1 a0_2)).bind fun t131 => (some (wrap64 ((rd l1 a0_1) + t131), decide ((wrap64 ((rd l1 a0_1) + t131)) ≤ 6)))) = some (r1, r2) := by first | (with_reducible rfl) | (rw [if_pos rfl] at H; exact H)
         clear H
         have H := H1
         clear H1
         replace H := Option.bind_eq_some_iff.mp H
         obtain ⟨t131, A190, H⟩ := H
         replace H : (some (wrap64 ((rd l1 a0_1) + t131), decide ((wrap64 ((rd l1 a0_1) + t131)) ≤ 6))) = some (r1, r2) := H
         have A19 := xm A190
         clear A190
         simp only [Option.some.injEq, Prod.mk.injEq] at H
         obtain ⟨rfl, rfl⟩ := H
         go_enter Try.func27, Try.ntmps27
         go_wp2_with (first | ((with_reducible refine gate_dst (N := 2) rfl ?_); refine box_event ?hg (N := 2) ?hd (cs := #[.int .i64 a0_0, .int .i64 a0_1, .int .i64 a0_2, .slice A0_3 l0_3.length c0_3, .slice A0_4 l0_4.length c0_4, .slice A0_5 l0_5.length c0_5]) (t := 47) ?hr ?_; (case hd => rfl); (case hg => rfl); (case hr => exact zB); intro gb125 hg w20 hbox hb; have n0_ := xm (below_step bB hb); have n1_ := xm (hbox); have n2_ := xm ((by rw [hg]; exact (xz bB) : w.heap.size ≤ gb125)); have n3_ := xm ((by rw [hg]; exact (xz bB) : w.heap.size ≤ gb125)); revert n0_ n1_ n2_ n3_; clear HB; intro HB BK125 GW125 GE125; clear hb hbox hg; obtain ⟨hcz21_0, hcz21_1, hcz21_2, hcz21_3, hcz21_4, hcz21_5, hfz21_0, hfz21_1, hfz21_2, hfz21_3, hfz21_4, hfz21_5⟩ := cz6 BK125.out; have p126 : 0 ≤ (a0_1 : Int) := of_decide_eq_true aB; have q126 : a0_1 < (l1.length : Int) := of_decide_eq_true aB; obtain ⟨ad126, e126, hx126_0⟩ := Kd.at_int HR1.out a0_1 p126 q126; cases e126; replace hx126_0 := (HB.out.cell (World.block_lt_of_cell? w _ hx126_0)).trans hx126_0; replace p126 := eq_true p126; replace q126 := eq_true q126; have p129 : 0 ≤ (a0_2 : Int) := of_decide_eq_true aB; have q129 : a0_2 < (l1.length : Int) := of_decide_eq_true aB; obtain ⟨ad129, e129, hx129_0⟩ := Kd.at_int HR1.out a0_2 p129 q129; obtain rfl : ad126 = ad129 := (by injection e129); replace hx129_0 := (HB.out.cell (World.block_lt_of_cell? w _ hx129_0)).trans hx129_0; replace p129 := eq_true p129; replace q129 := eq_true q129) | (go_at_call 42; (with_reducible refine (spec_l1Pairs.calls k _ _ l0_5 (rd l1 a0_1) (rd l1 a0_2) true _ ?side1 ?side2 A17.out).mono ?_); (case side1 => exact cB (Kd.C_below HR0_5.out HB.out)); (case side2 => exact HC0_5.out); rintro e w' ⟨rfl, ⟨nd, rfl⟩⟩; (try first | exact ⟨rfl, _, World.drewN_drewN _ _ _⟩ | exact ⟨rfl, _, Eq.trans (World.drewN_drewN _ _ _) (congrArg (World.drewN _) (Nat.add_assoc _ _ _))⟩)) | (go_at_call 43; (with_reducible refine (spec_l3Left.calls k _ _ l0_5 (rd l1 a0_2) t131 _ ?side1 ?side2 A19.out).mono ?_); (case side1 => repeat (first | exact (Kd.C_below HR0_5.out bG) | (with_reducible refine Kd.C_alloc ?_ _) | (with_reducible refine Kd.C_drewN ?_ _) | (with_reducible refine Kd.C_drew ?_))); (case side2 => exact HC0_5.out); rintro e w' ⟨rfl, ⟨nd, rfl⟩⟩; (try first | exact ⟨rfl, _, World.drewN_drewN _ _ _⟩ | exact ⟨rfl, _, Eq.trans (World.drewN_drewN _ _ _) (congrArg (World.drewN _) (Nat.add_assoc _ _ _))⟩)))
         repeat (go_quiet (first | ((with_reducible refine gate_dst (N := 2) rfl ?_); refine box_event ?hg (N := 2) ?hd (cs := #[.int .i64 a0_0, .int .i64 a0_1, .int .i64 a0_2, .slice A0_3 l0_3.length c0_3, .slice A0_4 l0_4.length c0_4, .slice A0_5 l0_5.length c0_5]) (t := 47) ?hr ?_; (case hd => rfl); (case hg => rfl); (case hr => exact zB); intro gb125 hg w20 hbox hb; have n0_ := xm (below_step bB hb); have n1_ := xm (hbox); have n2_ := xm ((by rw [hg]; exact (xz bB) : w.heap.size ≤ gb125)); have n3_ := xm ((by rw [hg]; exact (xz bB) : w.heap.size ≤ gb125)); revert n0_ n1_ n2_ n3_; clear HB; intro HB BK125 GW125 GE125; clear hb hbox hg; obtain ⟨hcz21_0, hcz21_1, hcz21_2, hcz21_3, hcz21_4, hcz21_5, hfz21_0, hfz21_1, hfz21_2, hfz21_3, hfz21_4, hfz21_5⟩ := cz6 BK125.out; have p126 : 0 ≤ (a0_1 : Int) := of_decide_eq_true aB; have q126 : a0_1 < (l1.length : Int) := of_decide_eq_true aB; obtain ⟨ad126, e126, hx126_0⟩ := Kd.at_int HR1.out a0_1 p126 q126; cases e126; replace hx126_0 := (HB.out.cell (World.block_lt_of_cell? w _ hx126_0)).trans hx126_0; replace p126 := eq_true p126; replace q126 := eq_true q126; have p129 : 0 ≤ (a0_2 : Int) := of_decide_eq_true aB; have q129 : a0_2 < (l1.length : Int) := of_decide_eq_true aB; obtain ⟨ad129, e129, hx129_0⟩ := Kd.at_int HR1.out a0_2 p129 q129; obtain rfl : ad126 = ad129 := (by injection e129); replace hx129_0 := (HB.out.cell (World.block_lt_of_cell? w _ hx129_0)).trans hx129_0; replace p129 := eq_true p129; replace q129 := eq_true q129) | (go_at_call 42; (with_reducible refine (spec_l1Pairs.calls k _ _ l0_5 (rd l1 a0_1) (rd l1 a0_2) true _ ?side1 ?side2 A17.out).mono ?_); (case side1 => exact cB (Kd.C_below HR0_5.out HB.out)); (case side2 => exact HC0_5.out); rintro e w' ⟨rfl, ⟨nd, rfl⟩⟩; (try first | exact ⟨rfl, _, World.drewN_drewN _ _ _⟩ | exact ⟨rfl, _, Eq.trans (World.drewN_drewN _ _ _) (congrArg (World.drewN _) (Nat.add_assoc _ _ _))⟩)) | (go_at_call 43; (with_reducible refine (spec_l3Left.calls k _ _ l0_5 (rd l1 a0_2) t131 _ ?side1 ?side2 A19.out).mono ?_); (case side1 => repeat (first | exact (Kd.C_below HR0_5.out bG) | (with_reducible refine Kd.C_alloc ?_ _) | (with_reducible refine Kd.C_drewN ?_ _) | (with_reducible refine Kd.C_drew ?_))); (case side2 => exact HC0_5.out); rintro e w' ⟨rfl, ⟨nd, rfl⟩⟩; (try first | exact ⟨rfl, _, World.drewN_drewN _ _ _⟩ | exact ⟨rfl, _, Eq.trans (World.drewN_drewN _ _ _) (congrArg (World.drewN _) (Nat.add_assoc _ _ _))⟩))); try go_wp2_with (first | ((with_reducible refine gate_dst (N := 2) rfl ?_); refine box_event ?hg (N := 2) ?hd (cs := #[.int .i64 a0_0, .int .i64 a0_1, .int .i64 a0_2, .slice A0_3 l0_3.length c0_3, .slice A0_4 l0_4.length c0_4, .slice A0_5 l0_5.length c0_5]) (t := 47) ?hr ?_; (case hd => rfl); (case hg => rfl); (case hr => exact zB); intro gb125 hg w20 hbox hb; have n0_ := xm (below_step bB hb); have n1_ := xm (hbox); have n2_ := xm ((by rw [hg]; exact (xz bB) : w.heap.size ≤ gb125)); have n3_ := xm ((by rw [hg]; exact (xz bB) : w.heap.size ≤ gb125)); revert n0_ n1_ n2_ n3_; clear HB; intro HB BK125 GW125 GE125; clear hb hbox hg; obtain ⟨hcz21_0, hcz21_1, hcz21_2, hcz21_3, hcz21_4, hcz21_5, hfz21_0, hfz21_1, hfz21_2, hfz21_3, hfz21_4, hfz21_5⟩ := cz6 BK125.out; have p126 : 0 ≤ (a0_1 : Int) := of_decide_eq_true aB; have q126 : a0_1 < (l1.length : Int) := of_decide_eq_true aB; obtain ⟨ad126, e126, hx126_0⟩ := Kd.at_int HR1.out a0_1 p126 q126; cases e126; replace hx126_0 := (HB.out.cell (World.block_lt_of_cell? w _ hx126_0)).trans hx126_0; replace p126 := eq_true p126; replace q126 := eq_true q126; have p129 : 0 ≤ (a0_2 : Int) := of_decide_eq_true aB; have q129 : a0_2 < (l1.length : Int) := of_decide_eq_true aB; obtain ⟨ad129, e129, hx129_0⟩ := Kd.at_int HR1.out a0_2 p129 q129; obtain rfl : ad126 = ad129 := (by injection e129); replace hx129_0 := (HB.out.cell (World.block_lt_of_cell? w _ hx129_0)).trans hx129_0; replace p129 := eq_true p129; replace q129 := eq_true q129) | (go_at_call 42; (with_reducible refine (spec_l1Pairs.calls k _ _ l0_5 (rd l1 a0_1) (rd l1 a0_2) true _ ?side1 ?side2 A17.out).mono ?_); (case side1 => exact cB (Kd.C_below HR0_5.out HB.out)); (case side2 => exact HC0_5.out); rintro e w' ⟨rfl, ⟨nd, rfl⟩⟩; (try first | exact ⟨rfl, _, World.drewN_drewN _ _ _⟩ | exact ⟨rfl, _, Eq.trans (World.drewN_drewN _ _ _) (congrArg (World.drewN _) (Nat.add_assoc _ _ _))⟩)) | (go_at_call 43; (with_reducible refine (spec_l3Left.calls k _ _ l0_5 (rd l1 a0_2) t131 _ ?side1 ?side2 A19.out).mono ?_); (case side1 => repeat (first | exact (Kd.C_below HR0_5.out bG) | (with_reducible refine Kd.C_alloc ?_ _) | (with_reducible refine Kd.C_drewN ?_ _) | (with_reducible refine Kd.C_drew ?_))); (case side2 => exact HC0_5.out); rintro e w' ⟨rfl, ⟨nd, rfl⟩⟩; (try first | exact ⟨rfl, _, World.drewN_drewN _ _ _⟩ | exact ⟨rfl, _, Eq.trans (World.drewN_drewN _ _ _) (congrArg (World.drewN _) (Nat.add_assoc _ _ _))⟩))))
         go_ret2
         exact ⟨eB, bG⟩
        ·replace c18 := Bool.eq_false_iff.mpr c18
         subst c18
         have H1 : (some (0, false)) = some (r1, r2) := by first | (with_reducible rfl) | (rw [if_neg (show ¬ (false = true) by decide)] at H; exact H)
         clear H
         have H := H1
         clear H1
         simp only [Option.some.injEq, Prod.mk.injEq] at H
         obtain ⟨rfl, rfl⟩ := H
         go_enter Try.func27, Try.ntmps27
         go_wp2_with (first | ((with_reducible refine gate_dst (N := 2) rfl ?_); refine box_event ?hg (N := 2) ?hd (cs := #[.int .i64 a0_0, .int .i64 a0_1, .int .i64 a0_2, .slice A0_3 l0_3.length c0_3, .slice A0_4 l0_4.length c0_4, .slice A0_5 l0_5.length c0_5]) (t := 47) ?hr ?_; (case hd => rfl); (case hg => rfl); (case hr => exact zB); intro gb125 hg w22 hbox hb; have n0_ := xm (below_step bB hb); have n1_ := xm (hbox); have n2_ := xm ((by rw [hg]; exact (xz bB) : w.heap.size ≤ gb125)); have n3_ := xm ((by rw [hg]; exact (xz bB) : w.heap.size ≤ gb125)); revert n0_ n1_ n2_ n3_; clear HB; intro HB BK125 GW125 GE125; clear hb hbox hg; obtain ⟨hcz23_0, hcz23_1, hcz23_2, hcz23_3, hcz23_4, hcz23_5, hfz23_0, hfz23_1, hfz23_2, hfz23_3, hfz23_4, hfz23_5⟩ := cz6 BK125.out; have p126 : 0 ≤ (a0_1 : Int) := of_decide_eq_true aB; have q126 : a0_1 < (l1.length : Int) := of_decide_eq_true aB; obtain ⟨ad126, e126, hx126_0⟩ := Kd.at_int HR1.out a0_1 p126 q126; cases e126; replace hx126_0 := (HB.out.cell (World.block_lt_of_cell? w _ hx126_0)).trans hx126_0; replace p126 := eq_true p126; replace q126 := eq_true q126; have p129 : 0 ≤ (a0_2 : Int) := of_decide_eq_true aB; have q129 : a0_2 < (l1.length : Int) := of_decide_eq_true aB; obtain ⟨ad129, e129, hx129_0⟩ := Kd.at_int HR1.out a0_2 p129 q129; obtain rfl : ad126 = ad129 := (by injection e129); replace hx129_0 := (HB.out.cell (World.block_lt_of_cell? w _ hx129_0)).trans hx129_0; replace p129 := eq_true p129; replace q129 := eq_true q129) | (go_at_call 42; (with_reducible refine (spec_l1Pairs.calls k _ _ l0_5 (rd l1 a0_1) (rd l1 a0_2) false _ ?side1 ?side2 A17.out).mono ?_); (case side1 => exact cB (Kd.C_below HR0_5.out HB.out)); (case side2 => exact HC0_5.out); rintro e w' ⟨rfl, ⟨nd, rfl⟩⟩; (try first | exact ⟨rfl, _, World.drewN_drewN _ _ _⟩ | exact ⟨rfl, _, Eq.trans (World.drewN_drewN _ _ _) (congrArg (World.drewN _) (Nat.add_assoc _ _ _))⟩)))
         repeat (go_quiet (first | ((with_reducible refine gate_dst (N := 2) rfl ?_); refine box_event ?hg (N := 2) ?hd (cs := #[.int .i64 a0_0, .int .i64 a0_1, .int .i64 a0_2, .slice A0_3 l0_3.length c0_3, .slice A0_4 l0_4.length c0_4, .slice A0_5 l0_5.length c0_5]) (t := 47) ?hr ?_; (case hd => rfl); (case hg => rfl); (case hr => exact zB); intro gb125 hg w22 hbox hb; have n0_ := xm (below_step bB hb); have n1_ := xm (hbox); have n2_ := xm ((by rw [hg]; exact (xz bB) : w.heap.size ≤ gb125)); have n3_ := xm ((by rw [hg]; exact (xz bB) : w.heap.size ≤ gb125)); revert n0_ n1_ n2_ n3_; clear HB; intro HB BK125 GW125 GE125; clear hb hbox hg; obtain ⟨hcz23_0, hcz23_1, hcz23_2, hcz23_3, hcz23_4, hcz23_5, hfz23_0, hfz23_1, hfz23_2, hfz23_3, hfz23_4, hfz23_5⟩ := cz6 BK125.out; have p126 : 0 ≤ (a0_1 : Int) := of_decide_eq_true aB; have q126 : a0_1 < (l1.length : Int) := of_decide_eq_true aB; obtain ⟨ad126, e126, hx126_0⟩ := Kd.at_int HR1.out a0_1 p126 q126; cases e126; replace hx126_0 := (HB.out.cell (World.block_lt_of_cell? w _ hx126_0)).trans hx126_0; replace p126 := eq_true p126; replace q126 := eq_true q126; have p129 : 0 ≤ (a0_2 : Int) := of_decide_eq_true aB; have q129 : a0_2 < (l1.length : Int) := of_decide_eq_true aB; obtain ⟨ad129, e129, hx129_0⟩ := Kd.at_int HR1.out a0_2 p129 q129; obtain rfl : ad126 = ad129 := (by injection e129); replace hx129_0 := (HB.out.cell (World.block_lt_of_cell? w _ hx129_0)).trans hx129_0; replace p129 := eq_true p129; replace q129 := eq_true q129) | (go_at_call 42; (with_reducible refine (spec_l1Pairs.calls k _ _ l0_5 (rd l1 a0_1) (rd l1 a0_2) false _ ?side1 ?side2 A17.out).mono ?_); (case side1 => exact cB (Kd.C_below HR0_5.out HB.out)); (case side2 => exact HC0_5.out); rintro e w' ⟨rfl, ⟨nd, rfl⟩⟩; (try first | exact ⟨rfl, _, World.drewN_drewN _ _ _⟩ | exact ⟨rfl, _, Eq.trans (World.drewN_drewN _ _ _) (congrArg (World.drewN _) (Nat.add_assoc _ _ _))⟩))); try go_wp2_with (first | ((with_reducible refine gate_dst (N := 2) rfl ?_); refine box_event ?hg (N := 2) ?hd (cs := #[.int .i64 a0_0, .int .i64 a0_1, .int .i64 a0_2, .slice A0_3 l0_3.length c0_3, .slice A0_4 l0_4.length c0_4, .slice A0_5 l0_5.length c0_5]) (t := 47) ?hr ?_; (case hd => rfl); (case hg => rfl); (case hr => exact zB); intro gb125 hg w22 hbox hb; have n0_ := xm (below_step bB hb); have n1_ := xm (hbox); have n2_ := xm ((by rw [hg]; exact (xz bB) : w.heap.size ≤ gb125)); have n3_ := xm ((by rw [hg]; exact (xz bB) : w.heap.size ≤ gb125)); revert n0_ n1_ n2_ n3_; clear HB; intro HB BK125 GW125 GE125; clear hb hbox hg; obtain ⟨hcz23_0, hcz23_1, hcz23_2, hcz23_3, hcz23_4, hcz23_5, hfz23_0, hfz23_1, hfz23_2, hfz23_3, hfz23_4, hfz23_5⟩ := cz6 BK125.out; have p126 : 0 ≤ (a0_1 : Int) := of_decide_eq_true aB; have q126 : a0_1 < (l1.length : Int) := of_decide_eq_true aB; obtain ⟨ad126, e126, hx126_0⟩ := Kd.at_int HR1.out a0_1 p126 q126; cases e126; replace hx126_0 := (HB.out.cell (World.block_lt_of_cell? w _ hx126_0)).trans hx126_0; replace p126 := eq_true p126; replace q126 := eq_true q126; have p129 : 0 ≤ (a0_2 : Int) := of_decide_eq_true aB; have q129 : a0_2 < (l1.length : Int) := of_decide_eq_true aB; obtain ⟨ad129, e129, hx129_0⟩ := Kd.at_int HR1.out a0_2 p129 q129; obtain rfl : ad126 = ad129 := (by injection e129); replace hx129_0 := (HB.out.cell (World.block_lt_of_cell? w _ hx129_0)).trans hx129_0; replace p129 := eq_true p129; replace q129 := eq_true q129) | (go_at_call 42; (with_reducible refine (spec_l1Pairs.calls k _ _ l0_5 (rd l1 a0_1) (rd l1 a0_2) false _ ?side1 ?side2 A17.out).mono ?_); (case side1 => exact cB (Kd.C_below HR0_5.out HB.out)); (case side2 => exact HC0_5.out); rintro e w' ⟨rfl, ⟨nd, rfl⟩⟩; (try first | exact ⟨rfl, _, World.drewN_drewN _ _ _⟩ | exact ⟨rfl, _, Eq.trans (World.drewN_drewN _ _ _) (congrArg (World.drewN _) (Nat.add_assoc _ _ _))⟩))))
         go_ret2
         exact ⟨eB, bG⟩
       ·rw [if_neg c16] at H
        exact absurd H (by simp)
      ·rw [if_neg c15] at H
       exact absurd H (by simp)
     ·rw [if_neg c14] at H
      have c14b0 : (a0_0 == 4) = false := beq_eq_false_iff_ne.mpr c14
      have c14b1 : (a0_0 != 4) = true := bne_iff_ne.mpr c14
      have HC24 := xm H
      clear H
      go_enter Try.func27, Try.ntmps27
      go_upto_if 54 with (first | ((with_reducible refine gate_dst (N := 2) rfl ?_); refine box_event ?hg (N := 2) ?hd (cs := #[.int .i64 a0_0, .int .i64 a0_1, .int .i64 a0_2, .slice A0_3 l0_3.length c0_3, .slice A0_4 l0_4.length c0_4, .slice A0_5 l0_5.length c0_5]) (t := 47) ?hr ?_; (case hd => rfl); (case hg => rfl); (case hr => exact zB); intro gb125 hg w25 hbox hb; have n0_ := xm (below_step bB hb); have n1_ := xm (hbox); have n2_ := xm ((by rw [hg]; exact (xz bB) : w.heap.size ≤ gb125)); have n3_ := xm ((by rw [hg]; exact (xz bB) : w.heap.size ≤ gb125)); revert n0_ n1_ n2_ n3_; clear HB; intro HB BK125 GW125 GE125; clear hb hbox hg; obtain ⟨hcz26_0, hcz26_1, hcz26_2, hcz26_3, hcz26_4, hcz26_5, hfz26_0, hfz26_1, hfz26_2, hfz26_3, hfz26_4, hfz26_5⟩ := cz6 BK125.out; have p126 : 0 ≤ (a0_1 : Int) := of_decide_eq_true aB; have q126 : a0_1 < (l1.length : Int) := of_decide_eq_true aB; obtain ⟨ad126, e126, hx126_0⟩ := Kd.at_int HR1.out a0_1 p126 q126; cases e126; replace hx126_0 := (HB.out.cell (World.block_lt_of_cell? w _ hx126_0)).trans hx126_0; replace p126 := eq_true p126; replace q126 := eq_true q126))
      repeat (go_quiet (first | ((with_reducible refine gate_dst (N := 2) rfl ?_); refine box_event ?hg (N := 2) ?hd (cs := #[.int .i64 a0_0, .int .i64 a0_1, .int .i64 a0_2, .slice A0_3 l0_3.length c0_3, .slice A0_4 l0_4.length c0_4, .slice A0_5 l0_5.length c0_5]) (t := 47) ?hr ?_; (case hd => rfl); (case hg => rfl); (case hr => exact zB); intro gb125 hg w25 hbox hb; have n0_ := xm (below_step bB hb); have n1_ := xm (hbox); have n2_ := xm ((by rw [hg]; exact (xz bB) : w.heap.size ≤ gb125)); have n3_ := xm ((by rw [hg]; exact (xz bB) : w.heap.size ≤ gb125)); revert n0_ n1_ n2_ n3_; clear HB; intro HB BK125 GW125 GE125; clear hb hbox hg; obtain ⟨hcz26_0, hcz26_1, hcz26_2, hcz26_3, hcz26_4, hcz26_5, hfz26_0, hfz26_1, hfz26_2, hfz26_3, hfz26_4, hfz26_5⟩ := cz6 BK125.out; have p126 : 0 ≤ (a0_1 : Int) := of_decide_eq_true aB; have q126 : a0_1 < (l1.length : Int) := of_decide_eq_true aB; obtain ⟨ad126, e126, hx126_0⟩ := Kd.at_int HR1.out a0_1 p126 q126; cases e126; replace hx126_0 := (HB.out.cell (World.block_lt_of_cell? w _ hx126_0)).trans hx126_0; replace p126 := eq_true p126; replace q126 := eq_true q126)); go_upto_if 54 with (first | ((with_reducible refine gate_dst (N := 2) rfl ?_); refine box_event ?hg (N := 2) ?hd (cs := #[.int .i64 a0_0, .int .i64 a0_1, .int .i64 a0_2, .slice A0_3 l0_3.length c0_3, .slice A0_4 l0_4.length c0_4, .slice A0_5 l0_5.length c0_5]) (t := 47) ?hr ?_; (case hd => rfl); (case hg => rfl); (case hr => exact zB); intro gb125 hg w25 hbox hb; have n0_ := xm (below_step bB hb); have n1_ := xm (hbox); have n2_ := xm ((by rw [hg]; exact (xz bB) : w.heap.size ≤ gb125)); have n3_ := xm ((by rw [hg]; exact (xz bB) : w.heap.size ≤ gb125)); revert n0_ n1_ n2_ n3_; clear HB; intro HB BK125 GW125 GE125; clear hb hbox hg; obtain ⟨hcz26_0, hcz26_1, hcz26_2, hcz26_3, hcz26_4, hcz26_5, hfz26_0, hfz26_1, hfz26_2, hfz26_3, hfz26_4, hfz26_5⟩ := cz6 BK125.out; have p126 : 0 ≤ (a0_1 : Int) := of_decide_eq_true aB; have q126 : a0_1 < (l1.length : Int) := of_decide_eq_true aB; obtain ⟨ad126, e126, hx126_0⟩ := Kd.at_int HR1.out a0_1 p126 q126; cases e126; replace hx126_0 := (HB.out.cell (World.block_lt_of_cell? w _ hx126_0)).trans hx126_0; replace p126 := eq_true p126; replace q126 := eq_true q126)))
      (try simp only [Act.put, xi, xj, xk])
      go_cut [54] (fun v54 wc => ∃ (kq : Nat) (x54_23 : Bool), v54 = .bool x54_23 ∧ Aside0 (spec_l6Columns.j0 kq l1 (rd l1 a0_1) x54_23 a0_0 a0_1 a0_2 l0_3 l0_4 l0_5 = some (r1, r2)) ∧ Aside0 (kq ≤ k) ∧ Aside0 (wc.heap[gb125]? = some (.cells #[.int .i64 a0_0, .int .i64 a0_1, .int .i64 a0_2, (.slice A0_3 l0_3.length c0_3), (.slice A0_4 l0_4.length c0_4), (.slice A0_5 l0_5.length c0_5)] 47 (0, 0))) ∧ Aside0 (Below w.heap.size w wc))
      case first =>
       have H := HC24.out
       clear HC24
       by_cases c27 : a0_0 = 5
       ·rw [if_pos c27] at H
        have c27b0 : (a0_0 == 5) = true := beq_iff_eq.mpr c27
        have c27b1 : (a0_0 != 5) = false := bne_eq_false_iff_eq.mpr c27
        clear c27
        (first | rw [c27b0] | (simp only [i64_w, i32_w]; rw [c27b0]) | skip)
        have H' := xm H
        clear H
        go_wp2
        repeat (go_quiet (fail); try go_wp2)
        go_meet
        case rel => exact ⟨_, ((a0_0 == 5)), sB, H', ⟨by first | omega | exact Nat.le_refl _⟩, ⟨kB BK125⟩, ⟨bG⟩⟩
       ·rw [if_neg c27] at H
        have c27b0 : (a0_0 == 5) = false := beq_eq_false_iff_ne.mpr c27
        have c27b1 : (a0_0 != 5) = true := bne_iff_ne.mpr c27
        (first | rw [c27b0] | (simp only [i64_w, i32_w]; rw [c27b0]) | skip)
        have H' := xm H
        clear H
        go_wp2
        repeat (go_quiet (fail); try go_wp2)
        go_meet
        case rel => exact ⟨_, ((a0_0 == 6)), sB, H', ⟨by first | omega | exact Nat.le_refl _⟩, ⟨kB BK125⟩, ⟨bG⟩⟩
      case rest =>
       clear HC24
       try clear c1
       try clear p1
       try clear q1
       try clear hx1
       try clear c2
       try clear p2
       try clear c3
       try clear c3b0
       try clear c4
       try clear c4b0
       try clear c5
       try clear c5b0 c5b1
       try clear p6
       try clear c10
       try clear c10b0 c10b1
       try clear p12
       try clear q12
       try clear hx12
       try clear c14
       try clear c14b0 c14b1
       try clear c15
       try clear c15b0
       try clear c16
       try clear c16b0
       try clear c18
       try clear c27
       try clear c27b0 c27b1
       try clear hcz13_0 hcz13_1 hcz13_2 hcz13_3 hcz13_4 hcz13_5
       try clear hcz21_0 hcz21_1 hcz21_2 hcz21_3 hcz21_4 hcz21_5
       try clear hcz23_0 hcz23_1 hcz23_2 hcz23_3 hcz23_4 hcz23_5
       try clear hcz26_0 hcz26_1 hcz26_2 hcz26_3 hcz26_4 hcz26_5
       try clear hcz8_0 hcz8_1 hcz8_2 hcz8_3 hcz8_4 hcz8_5
       try clear hfz13_0 hfz13_1 hfz13_2 hfz13_3 hfz13_4 hfz13_5
       try clear hfz21_0 hfz21_1 hfz21_2 hfz21_3 hfz21_4 hfz21_5
       try clear hfz23_0 hfz23_1 hfz23_2 hfz23_3 hfz23_4 hfz23_5
       try clear hfz26_0 hfz26_1 hfz26_2 hfz26_3 hfz26_4 hfz26_5
       try clear hfz8_0 hfz8_1 hfz8_2 hfz8_3 hfz8_4 hfz8_5
       try clear hx126_0
       try clear hx129_0
       try clear p126
       try clear p129
       try clear q126
       try clear q129
       obtain ⟨kq, x54_23, rfl, HA, HJ23, BK125, HB⟩ := hcut
       cases kq with
       | zero => exact absurd HA.out (by simp [spec_l6Columns.j0])
       | succ kj23 =>
        have H := HA.out
        clear HA
        simp only [spec_l6Columns.j0] at H
        by_cases c28 : x54_23 = true
        ·subst c28
         have H1 : (if 0 ≤ a0_2 then (if a0_2 < (l1.length : Int) then (some ((rd l1 a0_1), ((rd l1 a0_1) == (rd l1 a0_2)))) else (none)) else (none)) = some (r1, r2) := by first | (with_reducible rfl) | (rw [if_pos rfl] at H; exact H)
         clear H
         have H := H1
         clear H1
         by_cases c29 : 0 ≤ a0_2
         ·rw [if_pos c29] at H
          have c29b0 : decide (0 ≤ a0_2) = true := decide_eq_true c29
          clear c29
          by_cases c30 : a0_2 < (l1.length : Int)
          ·rw [if_pos c30] at H
           have c30b0 : decide (a0_2 < (l1.length : Int)) = true := decide_eq_true c30
           clear c30
           simp only [Option.some.injEq, Prod.mk.injEq] at H
           obtain ⟨rfl, rfl⟩ := H
           obtain ⟨hcz31_0, hcz31_1, hcz31_2, hcz31_3, hcz31_4, hcz31_5, hfz31_0, hfz31_1, hfz31_2, hfz31_3, hfz31_4, hfz31_5⟩ := cz6 BK125.out
           have p132 : 0 ≤ (a0_2 : Int) := of_decide_eq_true aB
           have q132 : a0_2 < (l1.length : Int) := of_decide_eq_true aB
           obtain ⟨ad132, e132, hx132_0⟩ := Kd.at_int HR1.out a0_2 p132 q132
           obtain rfl : ad126 = ad132 := (by injection e132)
           replace hx132_0 := hU hx132_0
           replace p132 := eq_true p132
           replace q132 := eq_true q132
           go_wp2
           repeat (go_quiet (fail); try go_wp2)
           go_ret2
           exact ⟨eB, bG⟩
          ·rw [if_neg c30] at H
           exact absurd H (by simp)
         ·rw [if_neg c29] at H
          exact absurd H (by simp)
        ·replace c28 := Bool.eq_false_iff.mpr c28
         subst c28
         have H1 : (some ((rd l1 a0_1), (a0_0 == 7))) = some (r1, r2) := by first | (with_reducible rfl) | (rw [if_neg (show ¬ (false = true) by decide)] at H; exact H)
         clear H
         have H := H1
         clear H1
         simp only [Option.some.injEq, Prod.mk.injEq] at H
         obtain ⟨rfl, rfl⟩ := H
         obtain ⟨hcz32_0, hcz32_1, hcz32_2, hcz32_3, hcz32_4, hcz32_5, hfz32_0, hfz32_1, hfz32_2, hfz32_3, hfz32_4, hfz32_5⟩ := cz6 BK125.out
         go_wp2
         repeat (go_quiet (fail); try go_wp2)
         go_ret2
         exact ⟨eB, bG⟩
  ·rw [if_neg c4] at H
   exact absurd H (by simp)
 ·rw [if_neg c3] at H
  exact absurd H (by simp)

end Go.Proofs.Ytaddemalepndfae.G
