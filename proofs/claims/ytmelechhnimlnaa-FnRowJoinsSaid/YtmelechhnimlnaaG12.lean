/- Written by a program of this claim's own, out of the translation: functions of the program as plain functions, and that the calls answer as these. No conditions. -/
import Derived.Test.YtmelechhnimlnaaG0
import Derived.Test.YtmelechhnimlnaaG2
import Derived.Test.YtmelechhnimlnaaG6
import Derived.Test.YtmelechhnimlnaaG9
import Derived.Test.YtmelechhnimlnaaG10
import Derived.Test.YtmelechhnimlnaaG11
namespace Go.Proofs.Ytmelechhnimlnaa.G
open Go.RowKit Go.Proofs.Ytmelechhnimlnaa.X Go.Proofs.YtmelechhnimlnaaW.PrintWords Go.Proofs.YtmelechhnimlnaaW.PrintLast Go.Proofs.YtmelechhnimlnaaW.PrintMore
attribute [local go_sem] max2_int min2_int max_two min_two max_three min_three max_four min_four   -- for this text's walks alone
set_option linter.unusedVariables false
set_option linter.unusedSimpArgs false

/-! ### laws_FnRowJoins: function 3 -/
mutual
def laws_FnRowJoins.j0 : Nat → List Int → List (List Int) → Bool → Bool → List Int → List Int → List Int → Option (Bool)
 | 0, _, _, _, _, _, _, _ => none
 | k + 1, x1, x7, x9, x58, x343000, x344000, x349000 => if x58 = true then (some false) else (if x9 = true then (laws_FnRowJoins.l0 k x1 x7 ([] : List Int) (x343000.length : Int) 0 x343000 x344000 x349000) else (laws_FnRowJoins.j4 k x1))
def laws_FnRowJoins.j4 : Nat → List Int → Option (Bool)
 | 0, _ => none
 | k + 1, x1 => (spec_DrawPickCells.f k x1).bind fun bt370 => ((impl_PickCells.f k bt370.1 bt370.2).bind fun bt377 => ((spec_PickCells.f k bt370.1 bt370.2).bind fun bt382 => (if (bt377.2 == bt382.2) = true then ((laws_sameRow.f k bt377.1 bt382.1).bind fun t387 => (some t387)) else (some false))))
def laws_FnRowJoins.l0 : Nat → List Int → List (List Int) → List Int → Int → Int → List Int → List Int → List Int → Option (Bool)
 | 0, _, _, _, _, _, _, _, _ => none
 | k + 1, x1, x7, x12, x62, x63, x343000, x344000, x349000 => if x63 < x62 then (if x12.length < 17592186044416 then (laws_FnRowJoins.l0 k x1 x7 (x12 ++ [x63]) x62 (wrap64 (x63 + 1)) x343000 x344000 x349000) else (none)) else ((impl_PickCells.f k x349000 x12).bind fun bt358 => (if bt358.2 = true then ((laws_sameRow.f k bt358.1 x343000).bind fun t363 => (if t363 = true then ((impl_GoodRow.f x349000).bind fun t364 => (if t364 = true then (laws_FnRowJoins.j2 k x1 x7 (decide ((x349000.length : Int) > (wrap64 ((x343000.length : Int) + (x344000.length : Int))))) x343000 x344000) else (laws_FnRowJoins.j2 k x1 x7 true x343000 x344000))) else (laws_FnRowJoins.j2 k x1 x7 true x343000 x344000))) else (laws_FnRowJoins.j2 k x1 x7 true x343000 x344000)))
def laws_FnRowJoins.j2 : Nat → List Int → List (List Int) → Bool → List Int → List Int → Option (Bool)
 | 0, _, _, _, _, _ => none
 | k + 1, x1, x7, x102, x343000, x344000 => if x102 = true then (some false) else (laws_FnRowJoins.l1 k x1 x7 (x7.length : Int) 0 x343000 x344000)
def laws_FnRowJoins.l1 : Nat → List Int → List (List Int) → Int → Int → List Int → List Int → Option (Bool)
 | 0, _, _, _, _, _, _ => none
 | k + 1, x1, x103, x104, x105, x343000, x344000 => if x105 < x104 then (if 0 ≤ x105 then (if x105 < (x103.length : Int) then (if 0 < ((rd_L2 x103 x105).length : Int) then (if 0 ≤ (rd (rd_L2 x103 x105) 0) then (if (rd (rd_L2 x103 x105) 0) < (x343000.length : Int) then (if 1 < ((rd_L2 x103 x105).length : Int) then (if 0 ≤ (rd (rd_L2 x103 x105) 1) then (if (rd (rd_L2 x103 x105) 1) < (x344000.length : Int) then (if (rd x343000 (rd (rd_L2 x103 x105) 0)) = (rd x344000 (rd (rd_L2 x103 x105) 1)) then (laws_FnRowJoins.l1 k x1 x103 x104 (wrap64 (x105 + 1)) x343000 x344000) else (some false)) else (none)) else (none)) else (none)) else (none)) else (none)) else (none)) else (none)) else (none)) else (laws_FnRowJoins.j4 k x1)
end
def laws_FnRowJoins.f (k : Nat) (l0 : List Int) (l1 : List Int) : Option (Bool) := if (wrap64 ((l0.length : Int) + (l1.length : Int))) > 1048576 then (some true) else ((spec_DrawJoinRows.f k l0).bind fun bt333 => ((impl_JoinRows.f k bt333.1 bt333.2.1 bt333.2.2).bind fun bt344 => ((spec_JoinRows.f k bt333.1 bt333.2.1 bt333.2.2).bind fun bt349 => (if (bt344.2 != bt349.2) = true then (laws_FnRowJoins.j0 k l1 bt333.2.2 bt344.2 true bt333.1 bt333.2.1 bt344.1) else ((laws_sameRow.f k bt344.1 bt349.1).bind fun t354 => (laws_FnRowJoins.j0 k l1 bt333.2.2 bt344.2 (!t354) bt333.1 bt333.2.1 bt344.1))))))
theorem laws_FnRowJoins.mono_l : ∀ k, (∀ y0 y1 y2 y3 y4 y5 y6, LeO (laws_FnRowJoins.j0 k y0 y1 y2 y3 y4 y5 y6) (laws_FnRowJoins.j0 (k + 1) y0 y1 y2 y3 y4 y5 y6)) ∧ (∀ y0, LeO (laws_FnRowJoins.j4 k y0) (laws_FnRowJoins.j4 (k + 1) y0)) ∧ (∀ y0 y1 y2 y3 y4 y5 y6 y7, LeO (laws_FnRowJoins.l0 k y0 y1 y2 y3 y4 y5 y6 y7) (laws_FnRowJoins.l0 (k + 1) y0 y1 y2 y3 y4 y5 y6 y7)) ∧ (∀ y0 y1 y2 y3 y4, LeO (laws_FnRowJoins.j2 k y0 y1 y2 y3 y4) (laws_FnRowJoins.j2 (k + 1) y0 y1 y2 y3 y4)) ∧ (∀ y0 y1 y2 y3 y4 y5, LeO (laws_FnRowJoins.l1 k y0 y1 y2 y3 y4 y5) (laws_FnRowJoins.l1 (k + 1) y0 y1 y2 y3 y4 y5))
 | 0 => ⟨fun _ _ _ _ _ _ _ r h => by simp [laws_FnRowJoins.j0] at h, fun _ r h => by simp [laws_FnRowJoins.j4] at h, fun _ _ _ _ _ _ _ _ r h => by simp [laws_FnRowJoins.l0] at h, fun _ _ _ _ _ r h => by simp [laws_FnRowJoins.j2] at h, fun _ _ _ _ _ _ r h => by simp [laws_FnRowJoins.l1] at h⟩
 | k + 1 => by
  obtain ⟨ih0, ih1, ih2, ih3, ih4⟩ := laws_FnRowJoins.mono_l k
  refine ⟨?_, ?_, ?_, ?_, ?_⟩
  ·intro y0 y1 y2 y3 y4 y5 y6
   unfold laws_FnRowJoins.j0
   repeat' first
   | (with_reducible exact ih0 _ _ _ _ _ _ _)
   | (with_reducible exact ih1 _)
   | (with_reducible exact ih2 _ _ _ _ _ _ _ _)
   | (with_reducible exact ih3 _ _ _ _ _)
   | (with_reducible exact ih4 _ _ _ _ _ _)
   | (with_reducible exact impl_JoinRows.mono _ _ _ _)
   | (with_reducible exact impl_PickCells.mono _ _ _)
   | (with_reducible exact laws_sameRow.mono _ _ _)
   | (with_reducible exact spec_DrawJoinRows.mono _ _)
   | (with_reducible exact spec_DrawPickCells.mono _ _)
   | (with_reducible exact spec_JoinRows.mono _ _ _ _)
   | (with_reducible exact spec_PickCells.mono _ _ _)
   | (with_reducible exact LeO.refl _)
   | (with_reducible exact LeO.none _)
   | (with_reducible refine LeO.ite ?_ ?_)
   | (with_reducible refine LeO.bind ?_ (fun _ => ?_))
   | exact ih0 _ _ _ _ _ _ _
   | exact ih1 _
   | exact ih2 _ _ _ _ _ _ _ _
   | exact ih3 _ _ _ _ _
   | exact ih4 _ _ _ _ _ _
   | exact impl_JoinRows.mono _ _ _ _
   | exact impl_PickCells.mono _ _ _
   | exact laws_sameRow.mono _ _ _
   | exact spec_DrawJoinRows.mono _ _
   | exact spec_DrawPickCells.mono _ _
   | exact spec_JoinRows.mono _ _ _ _
   | exact spec_PickCells.mono _ _ _
   | exact LeO.none _
   | refine LeO.ite ?_ ?_
   | refine LeO.bind ?_ (fun _ => ?_)
  ·intro y0
   unfold laws_FnRowJoins.j4
   repeat' first
   | (with_reducible exact ih0 _ _ _ _ _ _ _)
   | (with_reducible exact ih1 _)
   | (with_reducible exact ih2 _ _ _ _ _ _ _ _)
   | (with_reducible exact ih3 _ _ _ _ _)
   | (with_reducible exact ih4 _ _ _ _ _ _)
   | (with_reducible exact impl_JoinRows.mono _ _ _ _)
   | (with_reducible exact impl_PickCells.mono _ _ _)
   | (with_reducible exact laws_sameRow.mono _ _ _)
   | (with_reducible exact spec_DrawJoinRows.mono _ _)
   | (with_reducible exact spec_DrawPickCells.mono _ _)
   | (with_reducible exact spec_JoinRows.mono _ _ _ _)
   | (with_reducible exact spec_PickCells.mono _ _ _)
   | (with_reducible exact LeO.refl _)
   | (with_reducible exact LeO.none _)
   | (with_reducible refine LeO.ite ?_ ?_)
   | (with_reducible refine LeO.bind ?_ (fun _ => ?_))
   | exact ih0 _ _ _ _ _ _ _
   | exact ih1 _
   | exact ih2 _ _ _ _ _ _ _ _
   | exact ih3 _ _ _ _ _
   | exact ih4 _ _ _ _ _ _
   | exact impl_JoinRows.mono _ _ _ _
   | exact impl_PickCells.mono _ _ _
   | exact laws_sameRow.mono _ _ _
   | exact spec_DrawJoinRows.mono _ _
   | exact spec_DrawPickCells.mono _ _
   | exact spec_JoinRows.mono _ _ _ _
   | exact spec_PickCells.mono _ _ _
   | exact LeO.none _
   | refine LeO.ite ?_ ?_
   | refine LeO.bind ?_ (fun _ => ?_)
  ·intro y0 y1 y2 y3 y4 y5 y6 y7
   unfold laws_FnRowJoins.l0
   repeat' first
   | (with_reducible exact ih0 _ _ _ _ _ _ _)
   | (with_reducible exact ih1 _)
   | (with_reducible exact ih2 _ _ _ _ _ _ _ _)
   | (with_reducible exact ih3 _ _ _ _ _)
   | (with_reducible exact ih4 _ _ _ _ _ _)
   | (with_reducible exact impl_JoinRows.mono _ _ _ _)
   | (with_reducible exact impl_PickCells.mono _ _ _)
   | (with_reducible exact laws_sameRow.mono _ _ _)
   | (with_reducible exact spec_DrawJoinRows.mono _ _)
   | (with_reducible exact spec_DrawPickCells.mono _ _)
   | (with_reducible exact spec_JoinRows.mono _ _ _ _)
   | (with_reducible exact spec_PickCells.mono _ _ _)
   | (with_reducible exact LeO.refl _)
   | (with_reducible exact LeO.none _)
   | (with_reducible refine LeO.ite ?_ ?_)
   | (with_reducible refine LeO.bind ?_ (fun _ => ?_))
   | exact ih0 _ _ _ _ _ _ _
   | exact ih1 _
   | exact ih2 _ _ _ _ _ _ _ _
   | exact ih3 _ _ _ _ _
   | exact ih4 _ _ _ _ _ _
   | exact impl_JoinRows.mono _ _ _ _
   | exact impl_PickCells.mono _ _ _
   | exact laws_sameRow.mono _ _ _
   | exact spec_DrawJoinRows.mono _ _
   | exact spec_DrawPickCells.mono _ _
   | exact spec_JoinRows.mono _ _ _ _
   | exact spec_PickCells.mono _ _ _
   | exact LeO.none _
   | refine LeO.ite ?_ ?_
   | refine LeO.bind ?_ (fun _ => ?_)
  ·intro y0 y1 y2 y3 y4
   unfold laws_FnRowJoins.j2
   repeat' first
   | (with_reducible exact ih0 _ _ _ _ _ _ _)
   | (with_reducible exact ih1 _)
   | (with_reducible exact ih2 _ _ _ _ _ _ _ _)
   | (with_reducible exact ih3 _ _ _ _ _)
   | (with_reducible exact ih4 _ _ _ _ _ _)
   | (with_reducible exact impl_JoinRows.mono _ _ _ _)
   | (with_reducible exact impl_PickCells.mono _ _ _)
   | (with_reducible exact laws_sameRow.mono _ _ _)
   | (with_reducible exact spec_DrawJoinRows.mono _ _)
   | (with_reducible exact spec_DrawPickCells.mono _ _)
   | (with_reducible exact spec_JoinRows.mono _ _ _ _)
   | (with_reducible exact spec_PickCells.mono _ _ _)
   | (with_reducible exact LeO.refl _)
   | (with_reducible exact LeO.none _)
   | (with_reducible refine LeO.ite ?_ ?_)
   | (with_reducible refine LeO.bind ?_ (fun _ => ?_))
   | exact ih0 _ _ _ _ _ _ _
   | exact ih1 _
   | exact ih2 _ _ _ _ _ _ _ _
   | exact ih3 _ _ _ _ _
   | exact ih4 _ _ _ _ _ _
   | exact impl_JoinRows.mono _ _ _ _
   | exact impl_PickCells.mono _ _ _
   | exact laws_sameRow.mono _ _ _
   | exact spec_DrawJoinRows.mono _ _
   | exact spec_DrawPickCells.mono _ _
   | exact spec_JoinRows.mono _ _ _ _
   | exact spec_PickCells.mono _ _ _
   | exact LeO.none _
   | refine LeO.ite ?_ ?_
   | refine LeO.bind ?_ (fun _ => ?_)
  ·intro y0 y1 y2 y3 y4 y5
   unfold laws_FnRowJoins.l1
   repeat' first
   | (with_reducible exact ih0 _ _ _ _ _ _ _)
   | (with_reducible exact ih1 _)
   | (with_reducible exact ih2 _ _ _ _ _ _ _ _)
   | (with_reducible exact ih3 _ _ _ _ _)
   | (with_reducible exact ih4 _ _ _ _ _ _)
   | (with_reducible exact impl_JoinRows.mono _ _ _ _)
   | (with_reducible exact impl_PickCells.mono _ _ _)
   | (with_reducible exact laws_sameRow.mono _ _ _)
   | (with_reducible exact spec_DrawJoinRows.mono _ _)
   | (with_reducible exact spec_DrawPickCells.mono _ _)
   | (with_reducible exact spec_JoinRows.mono _ _ _ _)
   | (with_reducible exact spec_PickCells.mono _ _ _)
   | (with_reducible exact LeO.refl _)
   | (with_reducible exact LeO.none _)
   | (with_reducible refine LeO.ite ?_ ?_)
   | (with_reducible refine LeO.bind ?_ (fun _ => ?_))
   | exact ih0 _ _ _ _ _ _ _
   | exact ih1 _
   | exact ih2 _ _ _ _ _ _ _ _
   | exact ih3 _ _ _ _ _
   | exact ih4 _ _ _ _ _ _
   | exact impl_JoinRows.mono _ _ _ _
   | exact impl_PickCells.mono _ _ _
   | exact laws_sameRow.mono _ _ _
   | exact spec_DrawJoinRows.mono _ _
   | exact spec_DrawPickCells.mono _ _
   | exact spec_JoinRows.mono _ _ _ _
   | exact spec_PickCells.mono _ _ _
   | exact LeO.none _
   | refine LeO.ite ?_ ?_
   | refine LeO.bind ?_ (fun _ => ?_)
theorem laws_FnRowJoins.mono : ∀ a0 a1 k, LeO (laws_FnRowJoins.f k a0 a1) (laws_FnRowJoins.f (k + 1) a0 a1) := by
 intro a0 a1 k
 obtain ⟨ih0, ih1, ih2, ih3, ih4⟩ := laws_FnRowJoins.mono_l k
 unfold laws_FnRowJoins.f
 repeat' first
   | (with_reducible exact ih0 _ _ _ _ _ _ _)
   | (with_reducible exact ih1 _)
   | (with_reducible exact ih2 _ _ _ _ _ _ _ _)
   | (with_reducible exact ih3 _ _ _ _ _)
   | (with_reducible exact ih4 _ _ _ _ _ _)
   | (with_reducible exact impl_JoinRows.mono _ _ _ _)
   | (with_reducible exact impl_PickCells.mono _ _ _)
   | (with_reducible exact laws_sameRow.mono _ _ _)
   | (with_reducible exact spec_DrawJoinRows.mono _ _)
   | (with_reducible exact spec_DrawPickCells.mono _ _)
   | (with_reducible exact spec_JoinRows.mono _ _ _ _)
   | (with_reducible exact spec_PickCells.mono _ _ _)
   | (with_reducible exact LeO.refl _)
   | (with_reducible exact LeO.none _)
   | (with_reducible refine LeO.ite ?_ ?_)
   | (with_reducible refine LeO.bind ?_ (fun _ => ?_))
   | exact ih0 _ _ _ _ _ _ _
   | exact ih1 _
   | exact ih2 _ _ _ _ _ _ _ _
   | exact ih3 _ _ _ _ _
   | exact ih4 _ _ _ _ _ _
   | exact impl_JoinRows.mono _ _ _ _
   | exact impl_PickCells.mono _ _ _
   | exact laws_sameRow.mono _ _ _
   | exact spec_DrawJoinRows.mono _ _
   | exact spec_DrawPickCells.mono _ _
   | exact spec_JoinRows.mono _ _ _ _
   | exact spec_PickCells.mono _ _ _
   | exact LeO.none _
   | refine LeO.ite ?_ ?_
   | refine LeO.bind ?_ (fun _ => ?_)
set_option maxHeartbeats 80000000 in
set_option maxRecDepth 100000 in
theorem laws_FnRowJoins.calls (k : Nat) (A0 : Option Addr) (c0 : Nat) (l0 : List Int) (A1 : Option Addr) (c1 : Nat) (l1 : List Int) (w : World) (hr0 : Kd.C (Kd.int .u8) w A0 l0.length l0) (hc0 : l0.length ≤ c0) (hr1 : Kd.C (Kd.int .u8) w A1 l1.length l1) (hc1 : l1.length ≤ c1) (h : laws_FnRowJoins.f k l0 l1 = some true) :
  Calls Try.prog 3 #[.slice A0 l0.length c0, .slice A1 l1.length c1] w fun e w' => e = .returned (.bool true) ∧ Below w.heap.size w w' := by
 have hu25 := Try.underlying25
 have HR0 := xm hr0
 have HC0 := xm hc0
 clear hr0 hc0
 have HR1 := xm hr1
 have HC1 := xm hc1
 clear hr1 hc1
 have HB := xm (Below.refl w.heap.size w)
 have H : (if (wrap64 ((l0.length : Int) + (l1.length : Int))) > 1048576 then (some true) else ((spec_DrawJoinRows.f k l0).bind fun bt333 => ((impl_JoinRows.f k bt333.1 bt333.2.1 bt333.2.2).bind fun bt344 => ((spec_JoinRows.f k bt333.1 bt333.2.1 bt333.2.2).bind fun bt349 => (if (bt344.2 != bt349.2) = true then (laws_FnRowJoins.j0 k l1 bt333.2.2 bt344.2 true bt333.1 bt333.2.1 bt344.1) else ((laws_sameRow.f k bt344.1 bt349.1).bind fun t354 => (laws_FnRowJoins.j0 k l1 bt333.2.2 bt344.2 (!t354) bt333.1 bt333.2.1 bt344.1))))))) = some true := h
 clear h
 by_cases c3 : (wrap64 ((l0.length : Int) + (l1.length : Int))) > 1048576
 ·rw [if_pos c3] at H
  have c3b0 : decide (1048576 < (wrap64 ((l0.length : Int) + (l1.length : Int)))) = true := decide_eq_true c3
  clear c3
  clear H
  go_enter Try.func3, Try.ntmps3
  go_wp2
  repeat (go_quiet (fail); try go_wp2)
  go_ret
  exact ⟨eB, bG⟩
 ·rw [if_neg c3] at H
  have c3b0 : decide (1048576 < (wrap64 ((l0.length : Int) + (l1.length : Int)))) = false := decide_eq_false c3
  clear c3
  replace H := Option.bind_eq_some_iff.mp H
  obtain ⟨⟨t333, t336, t339⟩, A40, H⟩ := H
  replace H : ((impl_JoinRows.f k t333 t336 t339).bind fun bt344 => ((spec_JoinRows.f k t333 t336 t339).bind fun bt349 => (if (bt344.2 != bt349.2) = true then (laws_FnRowJoins.j0 k l1 t339 bt344.2 true t333 t336 bt344.1) else ((laws_sameRow.f k bt344.1 bt349.1).bind fun t354 => (laws_FnRowJoins.j0 k l1 t339 bt344.2 (!t354) t333 t336 bt344.1))))) = some true := H
  have A4 := xm A40
  clear A40
  replace H := Option.bind_eq_some_iff.mp H
  obtain ⟨⟨t344, t347⟩, A50, H⟩ := H
  replace H : ((spec_JoinRows.f k t333 t336 t339).bind fun bt349 => (if (t347 != bt349.2) = true then (laws_FnRowJoins.j0 k l1 t339 t347 true t333 t336 t344) else ((laws_sameRow.f k t344 bt349.1).bind fun t354 => (laws_FnRowJoins.j0 k l1 t339 t347 (!t354) t333 t336 t344)))) = some true := H
  have A5 := xm A50
  clear A50
  replace H := Option.bind_eq_some_iff.mp H
  obtain ⟨⟨t349, t352⟩, A60, H⟩ := H
  replace H : (if (t347 != t352) = true then (laws_FnRowJoins.j0 k l1 t339 t347 true t333 t336 t344) else ((laws_sameRow.f k t344 t349).bind fun t354 => (laws_FnRowJoins.j0 k l1 t339 t347 (!t354) t333 t336 t344))) = some true := H
  have A6 := xm A60
  clear A60
  have HC7 := xm H
  clear H
  go_enter Try.func3, Try.ntmps3
  go_upto_region 6 with (first | (go_at_call 4; (with_reducible refine (spec_DrawJoinRows.calls k _ _ l0 t333 t336 t339 _ ?side1 ?side2 A4.out).mono ?_); (case side1 => repeat (first | exact HR0.out | (with_reducible refine Kd.C_alloc ?_ _) | (with_reducible refine Kd.C_drewN ?_ _) | (with_reducible refine Kd.C_drew ?_))); (case side2 => exact HC0.out); rintro e w8 ⟨v334, v337, v340, rfl, ho0, ho1, ho2, hb⟩; have n0_ := xm (Kd.R_lower ho0 (xz bB)); have n1_ := xm (Kd.R_lower ho1 (xz bB)); have n2_ := xm (Kd.S_lower ho2 (xz bB)); have n3_ := xm (below_step bB hb); revert n0_ n1_ n2_ n3_; clear HB; intro HO335 HO338 HO341 HB; (try clear hb); (try clear hk); (try clear ho0); (try clear ho1); (try clear ho2)) | ((with_reducible refine gate_dst (N := 5) rfl ?_); (try (refine gate_guard (by rfl) ?_; dsimp only)); refine box_event ?hg (N := 5) ?hd (cs := #[.slice none 0 0]) (t := 25) ?hr ?_; (case hd => rfl); (case hg => rfl); (case hr => exact zB); intro gb342 hg w9 hbox hb; have n0_ := xm (Kd.R_below (rB HO335) hb); have n1_ := xm (Kd.R_below (rB HO338) hb); have n2_ := xm (Kd.S_below (tB HO341) hb); have n3_ := xm (below_step bB hb); have n4_ := xm (hbox); have n5_ := xm ((by rw [hg]; exact (xz bB) : w.heap.size ≤ gb342)); have n6_ := xm ((by rw [hg]; exact (xz bB) : w.heap.size ≤ gb342)); revert n0_ n1_ n2_ n3_ n4_ n5_ n6_; clear HO335 HO338 HO341 HB; intro HO335 HO338 HO341 HB BK342 GW342 GE342; clear hb hbox hg) | ((with_reducible refine gate_dst (N := 6) rfl ?_); (try (refine gate_guard (by rfl) ?_; dsimp only)); refine box_event ?hg (N := 6) ?hd (cs := #[.slice none 0 0]) (t := 25) ?hr ?_; (case hd => rfl); (case hg => rfl); (case hr => exact zB); intro gb343 hg w10 hbox hb; have n0_ := xm (Kd.R_below (rB HO335) hb); have n1_ := xm (Kd.R_below (rB HO338) hb); have n2_ := xm (Kd.S_below (tB HO341) hb); have n3_ := xm (blk_below (kB BK342) hb); have n4_ := xm (below_step bG hb); have n5_ := xm (hbox); have n6_ := xm ((by rw [hg]; exact (xz bG) : w.heap.size ≤ gb343)); have n7_ := xm ((by rw [hg]; exact (xz bG) : w.heap.size ≤ gb343)); have n8_ := xm ((by rw [hg]; exact Nat.ne_of_lt (blk_lt (kB BK342)) : gb342 ≠ gb343)); have n9_ := xm ((by rw [hg]; exact Nat.ne_of_gt (blk_lt (kB BK342)) : gb343 ≠ gb342)); revert n0_ n1_ n2_ n3_ n4_ n5_ n6_ n7_ n8_ n9_; clear HO335 HO338 HO341 BK342 HB; intro HO335 HO338 HO341 BK342 HB BK343 GW343 GE343 NB342_343 NB343_342; clear hb hbox hg; obtain ⟨Ao11, co11, eo11⟩ := Kd.R_slice HO335.out; subst eo11; have hnb12 := NB342_343.out; have hnc12 := NB343_342.out; obtain ⟨hcz13_0, hfz13_0⟩ := cz1 BK342.out; obtain ⟨Ao14, co14, eo14⟩ := Kd.R_slice HO338.out; subst eo14; obtain ⟨hcz15_0, hfz15_0⟩ := cz1 BK343.out; obtain ⟨Ao16, co16, eo16⟩ := Kd.S_slice HO341.out; subst eo16) | (go_at_call 5; (with_reducible refine (impl_JoinRows.calls k _ _ t333 _ _ t336 _ _ t339 t344 t347 _ ?side1 ?side2 ?side3 ?side4 ?side5 ?side6 A5.out).mono ?_); (case side1 => refine (Kd.R_reads' (e := 3) (base := w.heap.size) (ok := fun k_ => some k_ ≠ (.slice Ao14 t336.length co14 : Value).ownBlock) (n := t333.length) (c := co11) ?_).2.2; exact (by (with_reducible repeat (first | apply Kd.R_alloc | apply Kd.R_drewN | apply Kd.R_drew)); exact (Kd.R_mono (Kd.R_mono (Kd.R_far (p := ⟨gb343, 0, none⟩) (Kd.R_far (p := ⟨gb342, 0, none⟩) (Kd.R_types (Kd.R_types HO335.out BK342.out (by decide)) BK343.out (by decide)) (fun _ hk => hk.1.2) (.slice Ao11 t333.length co11)) (fun _ hk => hk.2) (.slice Ao14 t336.length co14)) (fun _ h_ => h_.1)) (fun _ h_ => h_.1)))); (case side2 => exact (Kd.R_reads' HO335.out).2.1); (case side3 => refine (Kd.R_reads' (e := 3) (base := w.heap.size) (ok := fun k_ => some k_ ≠ (.slice Ao11 t333.length co11 : Value).ownBlock) (n := t336.length) (c := co14) ?_).2.2; exact (by (with_reducible repeat (first | apply Kd.R_alloc | apply Kd.R_drewN | apply Kd.R_drew)); exact (Kd.R_mono (Kd.R_mono (Kd.R_far (p := ⟨gb343, 0, none⟩) (Kd.R_far (p := ⟨gb342, 0, none⟩) (Kd.R_types (Kd.R_types HO338.out BK342.out (by decide)) BK343.out (by decide)) (fun _ hk => hk.1.2) (.slice Ao11 t333.length co11)) (fun _ hk => hk.2) (.slice Ao14 t336.length co14)) (fun _ h_ => h_.1)) (fun _ h_ => h_.1)))); (case side4 => exact (Kd.R_reads' HO338.out).2.1); (case side5 => refine (Kd.S_reads' (e := 23) (base := w.heap.size) (ok := fun k_ => (some k_ ≠ (.slice Ao11 t333.length co11 : Value).ownBlock ∧ some k_ ≠ (.slice Ao14 t336.length co14 : Value).ownBlock)) (n := t339.length) (c := co16) ?_).2.2; exact (by (with_reducible repeat (first | apply Kd.S_alloc | apply Kd.S_drewN | apply Kd.S_drew)); exact (Kd.S_mono (Kd.S_mono (Kd.S_far (p := ⟨gb343, 0, none⟩) (Kd.S_far (p := ⟨gb342, 0, none⟩) (Kd.S_types (Kd.S_types HO341.out BK342.out (by decide)) BK343.out (by decide)) (fun _ hk => hk.1.2) (.slice Ao11 t333.length co11)) (fun _ hk => hk.2) (.slice Ao14 t336.length co14)) (fun _ h_ => h_.1)) (fun _ h_ => h_.1)))); (case side6 => exact (Kd.S_reads' HO341.out).2.1); rintro e w17 ⟨v345, rfl, ho0, hb⟩; have n0_ := xm (Kd.R_elder' (by (with_reducible repeat (first | apply Kd.R_alloc | apply Kd.R_drewN | apply Kd.R_drew)); exact (Kd.R_mono (Kd.R_mono (Kd.R_far (p := ⟨gb343, 0, none⟩) (Kd.R_far (p := ⟨gb342, 0, none⟩) (Kd.R_types (Kd.R_types HO335.out BK342.out (by decide)) BK343.out (by decide)) (fun _ hk => hk.1.2) (.slice Ao11 t333.length co11)) (fun _ hk => hk.2) (.slice Ao14 t336.length co14)) (fun _ h_ => h_.1)) (fun _ h_ => h_.1))) (Kd.R_base ho0) hb); have n1_ := xm (Kd.R_elder' (by (with_reducible repeat (first | apply Kd.R_alloc | apply Kd.R_drewN | apply Kd.R_drew)); exact (Kd.R_mono (Kd.R_mono (Kd.R_far (p := ⟨gb343, 0, none⟩) (Kd.R_far (p := ⟨gb342, 0, none⟩) (Kd.R_types (Kd.R_types HO338.out BK342.out (by decide)) BK343.out (by decide)) (fun _ hk => hk.1.2) (.slice Ao11 t333.length co11)) (fun _ hk => hk.2) (.slice Ao14 t336.length co14)) (fun _ h_ => h_.1)) (fun _ h_ => h_.1))) (Kd.R_base ho0) hb); have n2_ := xm (Kd.S_elder' (by (with_reducible repeat (first | apply Kd.S_alloc | apply Kd.S_drewN | apply Kd.S_drew)); exact (Kd.S_mono (Kd.S_mono (Kd.S_far (p := ⟨gb343, 0, none⟩) (Kd.S_far (p := ⟨gb342, 0, none⟩) (Kd.S_types (Kd.S_types HO341.out BK342.out (by decide)) BK343.out (by decide)) (fun _ hk => hk.1.2) (.slice Ao11 t333.length co11)) (fun _ hk => hk.2) (.slice Ao14 t336.length co14)) (fun _ h_ => h_.1)) (fun _ h_ => h_.1))) (Kd.R_base ho0) hb); have n3_ := xm (Kd.R_lower (Kd.R_new' (Kd.R_new' ho0 (Kd.R_lt (by (with_reducible repeat (first | apply Kd.R_alloc | apply Kd.R_drewN | apply Kd.R_drew)); exact (Kd.R_mono (Kd.R_mono (Kd.R_far (p := ⟨gb343, 0, none⟩) (Kd.R_far (p := ⟨gb342, 0, none⟩) (Kd.R_types (Kd.R_types HO335.out BK342.out (by decide)) BK343.out (by decide)) (fun _ hk => hk.1.2) (.slice Ao11 t333.length co11)) (fun _ hk => hk.2) (.slice Ao14 t336.length co14)) (fun _ h_ => h_.1)) (fun _ h_ => h_.1))))) (Kd.R_lt (by (with_reducible repeat (first | apply Kd.R_alloc | apply Kd.R_drewN | apply Kd.R_drew)); exact (Kd.R_mono (Kd.R_mono (Kd.R_far (p := ⟨gb343, 0, none⟩) (Kd.R_far (p := ⟨gb342, 0, none⟩) (Kd.R_types (Kd.R_types HO338.out BK342.out (by decide)) BK343.out (by decide)) (fun _ hk => hk.1.2) (.slice Ao11 t333.length co11)) (fun _ hk => hk.2) (.slice Ao14 t336.length co14)) (fun _ h_ => h_.1)) (fun _ h_ => h_.1))))) (xz bG)); have n4_ := xm (blk_below (g := gb342) (o := .cells #[.slice Ao11 t333.length co11] 25 (0, 0)) (by (with_reducible repeat (first | refine xq ?_ _ | refine xr ?_ | refine xo ?_ _)); refine blk_far ?_ NB342_343.out _; (with_reducible repeat (first | refine xq ?_ _ | refine xr ?_ | refine xo ?_ _)); refine blk_put (cs := #[.slice none 0 0]) ?_ 0 _ rfl; (with_reducible repeat (first | refine xq ?_ _ | refine xr ?_ | refine xo ?_ _)); exact BK342.out) hb); have n5_ := xm (blk_below (g := gb343) (o := .cells #[.slice Ao14 t336.length co14] 25 (0, 0)) (by (with_reducible repeat (first | refine xq ?_ _ | refine xr ?_ | refine xo ?_ _)); refine blk_put (cs := #[.slice none 0 0]) ?_ 0 _ rfl; (with_reducible repeat (first | refine xq ?_ _ | refine xr ?_ | refine xo ?_ _)); refine blk_far ?_ NB343_342.out _; (with_reducible repeat (first | refine xq ?_ _ | refine xr ?_ | refine xo ?_ _)); exact BK343.out) hb); have n6_ := xm (below_step bG hb); revert n0_ n1_ n2_ n3_ n4_ n5_ n6_; clear HO335 HO338 HO341 BK342 BK343 HB; intro HO335 HO338 HO341 HO346 BK342 BK343 HB; (try clear hb); (try clear hk); (try clear ho0)) | ((with_reducible refine gate_dst (N := 8) rfl ?_); (try (refine gate_guard (by rfl) ?_; dsimp only)); refine box_event ?hg (N := 8) ?hd (cs := #[.slice none 0 0]) (t := 25) ?hr ?_; (case hd => rfl); (case hg => rfl); (case hr => exact zB); intro gb348 hg w18 hbox hb; have n0_ := xm (Kd.R_below (rB HO335) hb); have n1_ := xm (Kd.R_below (rB HO338) hb); have n2_ := xm (Kd.S_below (tB HO341) hb); have n3_ := xm (Kd.R_below (rB HO346) hb); have n4_ := xm (blk_below (kB BK342) hb); have n5_ := xm (blk_below (kB BK343) hb); have n6_ := xm (below_step bG hb); have n7_ := xm (hbox); have n8_ := xm ((by rw [hg]; exact (xz bG) : w.heap.size ≤ gb348)); have n9_ := xm ((by rw [hg]; exact (xz bG) : w.heap.size ≤ gb348)); have n10_ := xm ((by rw [hg]; exact Nat.ne_of_lt (blk_lt (kB BK342)) : gb342 ≠ gb348)); have n11_ := xm ((by rw [hg]; exact Nat.ne_of_gt (blk_lt (kB BK342)) : gb348 ≠ gb342)); have n12_ := xm ((by rw [hg]; exact Nat.ne_of_lt (blk_lt (kB BK343)) : gb343 ≠ gb348)); have n13_ := xm ((by rw [hg]; exact Nat.ne_of_gt (blk_lt (kB BK343)) : gb348 ≠ gb343)); revert n0_ n1_ n2_ n3_ n4_ n5_ n6_ n7_ n8_ n9_ n10_ n11_ n12_ n13_; clear HO335 HO338 HO341 HO346 BK342 BK343 HB; intro HO335 HO338 HO341 HO346 BK342 BK343 HB BK348 GW348 GE348 NB342_348 NB348_342 NB343_348 NB348_343; clear hb hbox hg; obtain ⟨Ao19, co19, eo19⟩ := Kd.R_slice HO346.out; subst eo19; have hnb20 := NB348_342.out; have hnc20 := NB342_348.out; have hnb21 := NB348_343.out; have hnc21 := NB343_348.out; obtain ⟨hcz22_0, hfz22_0⟩ := cz1 BK348.out; obtain ⟨hcz23_0, hfz23_0⟩ := cz1 BK342.out; obtain ⟨hcz24_0, hfz24_0⟩ := cz1 BK343.out) | (go_at_call 6; (with_reducible refine (spec_JoinRows.calls k _ _ t333 _ _ t336 _ _ t339 t349 t352 _ ?side1 ?side2 ?side3 ?side4 ?side5 ?side6 A6.out).mono ?_); (case side1 => refine (Kd.R_reads' (e := 3) (base := w.heap.size) (ok := fun k_ => (some k_ ≠ (.slice Ao14 t336.length co14 : Value).ownBlock ∧ some k_ ≠ (.slice Ao19 t344.length co19 : Value).ownBlock)) (n := t333.length) (c := co11) ?_).2.2; exact (rF HO335 BK348 (.slice Ao19 t344.length co19))); (case side2 => exact (Kd.R_reads' HO335.out).2.1); (case side3 => refine (Kd.R_reads' (e := 3) (base := w.heap.size) (ok := fun k_ => (some k_ ≠ (.slice Ao11 t333.length co11 : Value).ownBlock ∧ some k_ ≠ (.slice Ao19 t344.length co19 : Value).ownBlock)) (n := t336.length) (c := co14) ?_).2.2; exact (rF HO338 BK348 (.slice Ao19 t344.length co19))); (case side4 => exact (Kd.R_reads' HO338.out).2.1); (case side5 => refine (Kd.S_reads' (e := 23) (base := w.heap.size) (ok := fun k_ => ((some k_ ≠ (.slice Ao11 t333.length co11 : Value).ownBlock ∧ some k_ ≠ (.slice Ao14 t336.length co14 : Value).ownBlock) ∧ some k_ ≠ (.slice Ao19 t344.length co19 : Value).ownBlock)) (n := t339.length) (c := co16) ?_).2.2; exact (by (with_reducible repeat (first | apply Kd.S_alloc | apply Kd.S_drewN | apply Kd.S_drew)); exact (Kd.S_mono (Kd.S_far (p := ⟨gb348, 0, none⟩) (Kd.S_types HO341.out BK348.out (by decide)) (fun _ hk => hk.2) (.slice Ao19 t344.length co19)) (fun _ h_ => h_.1)))); (case side6 => exact (Kd.S_reads' HO341.out).2.1); rintro e w25 ⟨v350, rfl, ho0, hb⟩; have n0_ := xm (Kd.R_elder' (rF HO335 BK348 (.slice Ao19 t344.length co19)) (Kd.R_base ho0) hb); have n1_ := xm (Kd.R_elder' (rF HO338 BK348 (.slice Ao19 t344.length co19)) (Kd.R_base ho0) hb); have n2_ := xm (Kd.S_elder' (by (with_reducible repeat (first | apply Kd.S_alloc | apply Kd.S_drewN | apply Kd.S_drew)); exact (Kd.S_mono (Kd.S_far (p := ⟨gb348, 0, none⟩) (Kd.S_types HO341.out BK348.out (by decide)) (fun _ hk => hk.2) (.slice Ao19 t344.length co19)) (fun _ h_ => h_.1))) (Kd.R_base ho0) hb); have n3_ := xm (Kd.R_elder' (rF HO346 BK348 (.slice Ao19 t344.length co19)) (Kd.R_base ho0) hb); have n4_ := xm (Kd.R_lower (Kd.R_new' (Kd.R_new' (Kd.R_new' ho0 (Kd.R_lt (rF HO335 BK348 (.slice Ao19 t344.length co19)))) (Kd.R_lt (rF HO338 BK348 (.slice Ao19 t344.length co19)))) (Kd.R_lt (rF HO346 BK348 (.slice Ao19 t344.length co19)))) (xz bG)); have n5_ := xm (blk_below (kF BK342 NB342_348) hb); have n6_ := xm (blk_below (kF BK343 NB343_348) hb); have n7_ := xm (blk_below (g := gb348) (o := .cells #[.slice Ao19 t344.length co19] 25 (0, 0)) (by (with_reducible repeat (first | refine xq ?_ _ | refine xr ?_ | refine xo ?_ _)); refine blk_put (cs := #[.slice none 0 0]) ?_ 0 _ rfl; (with_reducible repeat (first | refine xq ?_ _ | refine xr ?_ | refine xo ?_ _)); exact BK348.out) hb); have n8_ := xm (below_step bG hb); revert n0_ n1_ n2_ n3_ n4_ n5_ n6_ n7_ n8_; clear HO335 HO338 HO341 HO346 BK342 BK343 BK348 HB; intro HO335 HO338 HO341 HO346 HO351 BK342 BK343 BK348 HB; (try clear hb); (try clear hk); (try clear ho0)) | ((with_reducible refine gate_dst (N := 10) rfl ?_); (try (refine gate_guard (by rfl) ?_; dsimp only)); refine box_event ?hg (N := 10) ?hd (cs := #[.slice none 0 0]) (t := 25) ?hr ?_; (case hd => rfl); (case hg => rfl); (case hr => exact zB); intro gb353 hg w26 hbox hb; have n0_ := xm (Kd.R_below (rB HO335) hb); have n1_ := xm (Kd.R_below (rB HO338) hb); have n2_ := xm (Kd.S_below (tB HO341) hb); have n3_ := xm (Kd.R_below (rB HO346) hb); have n4_ := xm (Kd.R_below (rB HO351) hb); have n5_ := xm (blk_below (kB BK342) hb); have n6_ := xm (blk_below (kB BK343) hb); have n7_ := xm (blk_below (kB BK348) hb); have n8_ := xm (below_step bG hb); have n9_ := xm (hbox); have n10_ := xm ((by rw [hg]; exact (xz bG) : w.heap.size ≤ gb353)); have n11_ := xm ((by rw [hg]; exact (xz bG) : w.heap.size ≤ gb353)); have n12_ := xm ((by rw [hg]; exact Nat.ne_of_lt (blk_lt (kB BK342)) : gb342 ≠ gb353)); have n13_ := xm ((by rw [hg]; exact Nat.ne_of_gt (blk_lt (kB BK342)) : gb353 ≠ gb342)); have n14_ := xm ((by rw [hg]; exact Nat.ne_of_lt (blk_lt (kB BK343)) : gb343 ≠ gb353)); have n15_ := xm ((by rw [hg]; exact Nat.ne_of_gt (blk_lt (kB BK343)) : gb353 ≠ gb343)); have n16_ := xm ((by rw [hg]; exact Nat.ne_of_lt (blk_lt (kB BK348)) : gb348 ≠ gb353)); have n17_ := xm ((by rw [hg]; exact Nat.ne_of_gt (blk_lt (kB BK348)) : gb353 ≠ gb348)); revert n0_ n1_ n2_ n3_ n4_ n5_ n6_ n7_ n8_ n9_ n10_ n11_ n12_ n13_ n14_ n15_ n16_ n17_; clear HO335 HO338 HO341 HO346 HO351 BK342 BK343 BK348 HB; intro HO335 HO338 HO341 HO346 HO351 BK342 BK343 BK348 HB BK353 GW353 GE353 NB342_353 NB353_342 NB343_353 NB353_343 NB348_353 NB353_348; clear hb hbox hg; obtain ⟨Ao27, co27, eo27⟩ := Kd.R_slice HO351.out; subst eo27; have hnb28 := NB353_342.out; have hnc28 := NB342_353.out; have hnb29 := NB353_343.out; have hnc29 := NB343_353.out; have hnb30 := NB353_348.out; have hnc30 := NB348_353.out; obtain ⟨hcz31_0, hfz31_0⟩ := cz1 BK353.out))
  repeat (go_quiet (first | (go_at_call 4; (with_reducible refine (spec_DrawJoinRows.calls k _ _ l0 t333 t336 t339 _ ?side1 ?side2 A4.out).mono ?_); (case side1 => repeat (first | exact HR0.out | (with_reducible refine Kd.C_alloc ?_ _) | (with_reducible refine Kd.C_drewN ?_ _) | (with_reducible refine Kd.C_drew ?_))); (case side2 => exact HC0.out); rintro e w8 ⟨v334, v337, v340, rfl, ho0, ho1, ho2, hb⟩; have n0_ := xm (Kd.R_lower ho0 (xz bB)); have n1_ := xm (Kd.R_lower ho1 (xz bB)); have n2_ := xm (Kd.S_lower ho2 (xz bB)); have n3_ := xm (below_step bB hb); revert n0_ n1_ n2_ n3_; clear HB; intro HO335 HO338 HO341 HB; (try clear hb); (try clear hk); (try clear ho0); (try clear ho1); (try clear ho2)) | ((with_reducible refine gate_dst (N := 5) rfl ?_); (try (refine gate_guard (by rfl) ?_; dsimp only)); refine box_event ?hg (N := 5) ?hd (cs := #[.slice none 0 0]) (t := 25) ?hr ?_; (case hd => rfl); (case hg => rfl); (case hr => exact zB); intro gb342 hg w9 hbox hb; have n0_ := xm (Kd.R_below (rB HO335) hb); have n1_ := xm (Kd.R_below (rB HO338) hb); have n2_ := xm (Kd.S_below (tB HO341) hb); have n3_ := xm (below_step bB hb); have n4_ := xm (hbox); have n5_ := xm ((by rw [hg]; exact (xz bB) : w.heap.size ≤ gb342)); have n6_ := xm ((by rw [hg]; exact (xz bB) : w.heap.size ≤ gb342)); revert n0_ n1_ n2_ n3_ n4_ n5_ n6_; clear HO335 HO338 HO341 HB; intro HO335 HO338 HO341 HB BK342 GW342 GE342; clear hb hbox hg) | ((with_reducible refine gate_dst (N := 6) rfl ?_); (try (refine gate_guard (by rfl) ?_; dsimp only)); refine box_event ?hg (N := 6) ?hd (cs := #[.slice none 0 0]) (t := 25) ?hr ?_; (case hd => rfl); (case hg => rfl); (case hr => exact zB); intro gb343 hg w10 hbox hb; have n0_ := xm (Kd.R_below (rB HO335) hb); have n1_ := xm (Kd.R_below (rB HO338) hb); have n2_ := xm (Kd.S_below (tB HO341) hb); have n3_ := xm (blk_below (kB BK342) hb); have n4_ := xm (below_step bG hb); have n5_ := xm (hbox); have n6_ := xm ((by rw [hg]; exact (xz bG) : w.heap.size ≤ gb343)); have n7_ := xm ((by rw [hg]; exact (xz bG) : w.heap.size ≤ gb343)); have n8_ := xm ((by rw [hg]; exact Nat.ne_of_lt (blk_lt (kB BK342)) : gb342 ≠ gb343)); have n9_ := xm ((by rw [hg]; exact Nat.ne_of_gt (blk_lt (kB BK342)) : gb343 ≠ gb342)); revert n0_ n1_ n2_ n3_ n4_ n5_ n6_ n7_ n8_ n9_; clear HO335 HO338 HO341 BK342 HB; intro HO335 HO338 HO341 BK342 HB BK343 GW343 GE343 NB342_343 NB343_342; clear hb hbox hg; obtain ⟨Ao11, co11, eo11⟩ := Kd.R_slice HO335.out; subst eo11; have hnb12 := NB342_343.out; have hnc12 := NB343_342.out; obtain ⟨hcz13_0, hfz13_0⟩ := cz1 BK342.out; obtain ⟨Ao14, co14, eo14⟩ := Kd.R_slice HO338.out; subst eo14; obtain ⟨hcz15_0, hfz15_0⟩ := cz1 BK343.out; obtain ⟨Ao16, co16, eo16⟩ := Kd.S_slice HO341.out; subst eo16) | (go_at_call 5; (with_reducible refine (impl_JoinRows.calls k _ _ t333 _ _ t336 _ _ t339 t344 t347 _ ?side1 ?side2 ?side3 ?side4 ?side5 ?side6 A5.out).mono ?_); (case side1 => refine (Kd.R_reads' (e := 3) (base := w.heap.size) (ok := fun k_ => some k_ ≠ (.slice Ao14 t336.length co14 : Value).ownBlock) (n := t333.length) (c := co11) ?_).2.2; exact (by (with_reducible repeat (first | apply Kd.R_alloc | apply Kd.R_drewN | apply Kd.R_drew)); exact (Kd.R_mono (Kd.R_mono (Kd.R_far (p := ⟨gb343, 0, none⟩) (Kd.R_far (p := ⟨gb342, 0, none⟩) (Kd.R_types (Kd.R_types HO335.out BK342.out (by decide)) BK343.out (by decide)) (fun _ hk => hk.1.2) (.slice Ao11 t333.length co11)) (fun _ hk => hk.2) (.slice Ao14 t336.length co14)) (fun _ h_ => h_.1)) (fun _ h_ => h_.1)))); (case side2 => exact (Kd.R_reads' HO335.out).2.1); (case side3 => refine (Kd.R_reads' (e := 3) (base := w.heap.size) (ok := fun k_ => some k_ ≠ (.slice Ao11 t333.length co11 : Value).ownBlock) (n := t336.length) (c := co14) ?_).2.2; exact (by (with_reducible repeat (first | apply Kd.R_alloc | apply Kd.R_drewN | apply Kd.R_drew)); exact (Kd.R_mono (Kd.R_mono (Kd.R_far (p := ⟨gb343, 0, none⟩) (Kd.R_far (p := ⟨gb342, 0, none⟩) (Kd.R_types (Kd.R_types HO338.out BK342.out (by decide)) BK343.out (by decide)) (fun _ hk => hk.1.2) (.slice Ao11 t333.length co11)) (fun _ hk => hk.2) (.slice Ao14 t336.length co14)) (fun _ h_ => h_.1)) (fun _ h_ => h_.1)))); (case side4 => exact (Kd.R_reads' HO338.out).2.1); (case side5 => refine (Kd.S_reads' (e := 23) (base := w.heap.size) (ok := fun k_ => (some k_ ≠ (.slice Ao11 t333.length co11 : Value).ownBlock ∧ some k_ ≠ (.slice Ao14 t336.length co14 : Value).ownBlock)) (n := t339.length) (c := co16) ?_).2.2; exact (by (with_reducible repeat (first | apply Kd.S_alloc | apply Kd.S_drewN | apply Kd.S_drew)); exact (Kd.S_mono (Kd.S_mono (Kd.S_far (p := ⟨gb343, 0, none⟩) (Kd.S_far (p := ⟨gb342, 0, none⟩) (Kd.S_types (Kd.S_types HO341.out BK342.out (by decide)) BK343.out (by decide)) (fun _ hk => hk.1.2) (.slice Ao11 t333.length co11)) (fun _ hk => hk.2) (.slice Ao14 t336.length co14)) (fun _ h_ => h_.1)) (fun _ h_ => h_.1)))); (case side6 => exact (Kd.S_reads' HO341.out).2.1); rintro e w17 ⟨v345, rfl, ho0, hb⟩; have n0_ := xm (Kd.R_elder' (by (with_reducible repeat (first | apply Kd.R_alloc | apply Kd.R_drewN | apply Kd.R_drew)); exact (Kd.R_mono (Kd.R_mono (Kd.R_far (p := ⟨gb343, 0, none⟩) (Kd.R_far (p := ⟨gb342, 0, none⟩) (Kd.R_types (Kd.R_types HO335.out BK342.out (by decide)) BK343.out (by decide)) (fun _ hk => hk.1.2) (.slice Ao11 t333.length co11)) (fun _ hk => hk.2) (.slice Ao14 t336.length co14)) (fun _ h_ => h_.1)) (fun _ h_ => h_.1))) (Kd.R_base ho0) hb); have n1_ := xm (Kd.R_elder' (by (with_reducible repeat (first | apply Kd.R_alloc | apply Kd.R_drewN | apply Kd.R_drew)); exact (Kd.R_mono (Kd.R_mono (Kd.R_far (p := ⟨gb343, 0, none⟩) (Kd.R_far (p := ⟨gb342, 0, none⟩) (Kd.R_types (Kd.R_types HO338.out BK342.out (by decide)) BK343.out (by decide)) (fun _ hk => hk.1.2) (.slice Ao11 t333.length co11)) (fun _ hk => hk.2) (.slice Ao14 t336.length co14)) (fun _ h_ => h_.1)) (fun _ h_ => h_.1))) (Kd.R_base ho0) hb); have n2_ := xm (Kd.S_elder' (by (with_reducible repeat (first | apply Kd.S_alloc | apply Kd.S_drewN | apply Kd.S_drew)); exact (Kd.S_mono (Kd.S_mono (Kd.S_far (p := ⟨gb343, 0, none⟩) (Kd.S_far (p := ⟨gb342, 0, none⟩) (Kd.S_types (Kd.S_types HO341.out BK342.out (by decide)) BK343.out (by decide)) (fun _ hk => hk.1.2) (.slice Ao11 t333.length co11)) (fun _ hk => hk.2) (.slice Ao14 t336.length co14)) (fun _ h_ => h_.1)) (fun _ h_ => h_.1))) (Kd.R_base ho0) hb); have n3_ := xm (Kd.R_lower (Kd.R_new' (Kd.R_new' ho0 (Kd.R_lt (by (with_reducible repeat (first | apply Kd.R_alloc | apply Kd.R_drewN | apply Kd.R_drew)); exact (Kd.R_mono (Kd.R_mono (Kd.R_far (p := ⟨gb343, 0, none⟩) (Kd.R_far (p := ⟨gb342, 0, none⟩) (Kd.R_types (Kd.R_types HO335.out BK342.out (by decide)) BK343.out (by decide)) (fun _ hk => hk.1.2) (.slice Ao11 t333.length co11)) (fun _ hk => hk.2) (.slice Ao14 t336.length co14)) (fun _ h_ => h_.1)) (fun _ h_ => h_.1))))) (Kd.R_lt (by (with_reducible repeat (first | apply Kd.R_alloc | apply Kd.R_drewN | apply Kd.R_drew)); exact (Kd.R_mono (Kd.R_mono (Kd.R_far (p := ⟨gb343, 0, none⟩) (Kd.R_far (p := ⟨gb342, 0, none⟩) (Kd.R_types (Kd.R_types HO338.out BK342.out (by decide)) BK343.out (by decide)) (fun _ hk => hk.1.2) (.slice Ao11 t333.length co11)) (fun _ hk => hk.2) (.slice Ao14 t336.length co14)) (fun _ h_ => h_.1)) (fun _ h_ => h_.1))))) (xz bG)); have n4_ := xm (blk_below (g := gb342) (o := .cells #[.slice Ao11 t333.length co11] 25 (0, 0)) (by (with_reducible repeat (first | refine xq ?_ _ | refine xr ?_ | refine xo ?_ _)); refine blk_far ?_ NB342_343.out _; (with_reducible repeat (first | refine xq ?_ _ | refine xr ?_ | refine xo ?_ _)); refine blk_put (cs := #[.slice none 0 0]) ?_ 0 _ rfl; (with_reducible repeat (first | refine xq ?_ _ | refine xr ?_ | refine xo ?_ _)); exact BK342.out) hb); have n5_ := xm (blk_below (g := gb343) (o := .cells #[.slice Ao14 t336.length co14] 25 (0, 0)) (by (with_reducible repeat (first | refine xq ?_ _ | refine xr ?_ | refine xo ?_ _)); refine blk_put (cs := #[.slice none 0 0]) ?_ 0 _ rfl; (with_reducible repeat (first | refine xq ?_ _ | refine xr ?_ | refine xo ?_ _)); refine blk_far ?_ NB343_342.out _; (with_reducible repeat (first | refine xq ?_ _ | refine xr ?_ | refine xo ?_ _)); exact BK343.out) hb); have n6_ := xm (below_step bG hb); revert n0_ n1_ n2_ n3_ n4_ n5_ n6_; clear HO335 HO338 HO341 BK342 BK343 HB; intro HO335 HO338 HO341 HO346 BK342 BK343 HB; (try clear hb); (try clear hk); (try clear ho0)) | ((with_reducible refine gate_dst (N := 8) rfl ?_); (try (refine gate_guard (by rfl) ?_; dsimp only)); refine box_event ?hg (N := 8) ?hd (cs := #[.slice none 0 0]) (t := 25) ?hr ?_; (case hd => rfl); (case hg => rfl); (case hr => exact zB); intro gb348 hg w18 hbox hb; have n0_ := xm (Kd.R_below (rB HO335) hb); have n1_ := xm (Kd.R_below (rB HO338) hb); have n2_ := xm (Kd.S_below (tB HO341) hb); have n3_ := xm (Kd.R_below (rB HO346) hb); have n4_ := xm (blk_below (kB BK342) hb); have n5_ := xm (blk_below (kB BK343) hb); have n6_ := xm (below_step bG hb); have n7_ := xm (hbox); have n8_ := xm ((by rw [hg]; exact (xz bG) : w.heap.size ≤ gb348)); have n9_ := xm ((by rw [hg]; exact (xz bG) : w.heap.size ≤ gb348)); have n10_ := xm ((by rw [hg]; exact Nat.ne_of_lt (blk_lt (kB BK342)) : gb342 ≠ gb348)); have n11_ := xm ((by rw [hg]; exact Nat.ne_of_gt (blk_lt (kB BK342)) : gb348 ≠ gb342)); have n12_ := xm ((by rw [hg]; exact Nat.ne_of_lt (blk_lt (kB BK343)) : gb343 ≠ gb348)); have n13_ := xm ((by rw [hg]; exact Nat.ne_of_gt (blk_lt (kB BK343)) : gb348 ≠ gb343)); revert n0_ n1_ n2_ n3_ n4_ n5_ n6_ n7_ n8_ n9_ n10_ n11_ n12_ n13_; clear HO335 HO338 HO341 HO346 BK342 BK343 HB; intro HO335 HO338 HO341 HO346 BK342 BK343 HB BK348 GW348 GE348 NB342_348 NB348_342 NB343_348 NB348_343; clear hb hbox hg; obtain ⟨Ao19, co19, eo19⟩ := Kd.R_slice HO346.out; subst eo19; have hnb20 := NB348_342.out; have hnc20 := NB342_348.out; have hnb21 := NB348_343.out; have hnc21 := NB343_348.out; obtain ⟨hcz22_0, hfz22_0⟩ := cz1 BK348.out; obtain ⟨hcz23_0, hfz23_0⟩ := cz1 BK342.out; obtain ⟨hcz24_0, hfz24_0⟩ := cz1 BK343.out) | (go_at_call 6; (with_reducible refine (spec_JoinRows.calls k _ _ t333 _ _ t336 _ _ t339 t349 t352 _ ?side1 ?side2 ?side3 ?side4 ?side5 ?side6 A6.out).mono ?_); (case side1 => refine (Kd.R_reads' (e := 3) (base := w.heap.size) (ok := fun k_ => (some k_ ≠ (.slice Ao14 t336.length co14 : Value).ownBlock ∧ some k_ ≠ (.slice Ao19 t344.length co19 : Value).ownBlock)) (n := t333.length) (c := co11) ?_).2.2; exact (rF HO335 BK348 (.slice Ao19 t344.length co19))); (case side2 => exact (Kd.R_reads' HO335.out).2.1); (case side3 => refine (Kd.R_reads' (e := 3) (base := w.heap.size) (ok := fun k_ => (some k_ ≠ (.slice Ao11 t333.length co11 : Value).ownBlock ∧ some k_ ≠ (.slice Ao19 t344.length co19 : Value).ownBlock)) (n := t336.length) (c := co14) ?_).2.2; exact (rF HO338 BK348 (.slice Ao19 t344.length co19))); (case side4 => exact (Kd.R_reads' HO338.out).2.1); (case side5 => refine (Kd.S_reads' (e := 23) (base := w.heap.size) (ok := fun k_ => ((some k_ ≠ (.slice Ao11 t333.length co11 : Value).ownBlock ∧ some k_ ≠ (.slice Ao14 t336.length co14 : Value).ownBlock) ∧ some k_ ≠ (.slice Ao19 t344.length co19 : Value).ownBlock)) (n := t339.length) (c := co16) ?_).2.2; exact (by (with_reducible repeat (first | apply Kd.S_alloc | apply Kd.S_drewN | apply Kd.S_drew)); exact (Kd.S_mono (Kd.S_far (p := ⟨gb348, 0, none⟩) (Kd.S_types HO341.out BK348.out (by decide)) (fun _ hk => hk.2) (.slice Ao19 t344.length co19)) (fun _ h_ => h_.1)))); (case side6 => exact (Kd.S_reads' HO341.out).2.1); rintro e w25 ⟨v350, rfl, ho0, hb⟩; have n0_ := xm (Kd.R_elder' (rF HO335 BK348 (.slice Ao19 t344.length co19)) (Kd.R_base ho0) hb); have n1_ := xm (Kd.R_elder' (rF HO338 BK348 (.slice Ao19 t344.length co19)) (Kd.R_base ho0) hb); have n2_ := xm (Kd.S_elder' (by (with_reducible repeat (first | apply Kd.S_alloc | apply Kd.S_drewN | apply Kd.S_drew)); exact (Kd.S_mono (Kd.S_far (p := ⟨gb348, 0, none⟩) (Kd.S_types HO341.out BK348.out (by decide)) (fun _ hk => hk.2) (.slice Ao19 t344.length co19)) (fun _ h_ => h_.1))) (Kd.R_base ho0) hb); have n3_ := xm (Kd.R_elder' (rF HO346 BK348 (.slice Ao19 t344.length co19)) (Kd.R_base ho0) hb); have n4_ := xm (Kd.R_lower (Kd.R_new' (Kd.R_new' (Kd.R_new' ho0 (Kd.R_lt (rF HO335 BK348 (.slice Ao19 t344.length co19)))) (Kd.R_lt (rF HO338 BK348 (.slice Ao19 t344.length co19)))) (Kd.R_lt (rF HO346 BK348 (.slice Ao19 t344.length co19)))) (xz bG)); have n5_ := xm (blk_below (kF BK342 NB342_348) hb); have n6_ := xm (blk_below (kF BK343 NB343_348) hb); have n7_ := xm (blk_below (g := gb348) (o := .cells #[.slice Ao19 t344.length co19] 25 (0, 0)) (by (with_reducible repeat (first | refine xq ?_ _ | refine xr ?_ | refine xo ?_ _)); refine blk_put (cs := #[.slice none 0 0]) ?_ 0 _ rfl; (with_reducible repeat (first | refine xq ?_ _ | refine xr ?_ | refine xo ?_ _)); exact BK348.out) hb); have n8_ := xm (below_step bG hb); revert n0_ n1_ n2_ n3_ n4_ n5_ n6_ n7_ n8_; clear HO335 HO338 HO341 HO346 BK342 BK343 BK348 HB; intro HO335 HO338 HO341 HO346 HO351 BK342 BK343 BK348 HB; (try clear hb); (try clear hk); (try clear ho0)) | ((with_reducible refine gate_dst (N := 10) rfl ?_); (try (refine gate_guard (by rfl) ?_; dsimp only)); refine box_event ?hg (N := 10) ?hd (cs := #[.slice none 0 0]) (t := 25) ?hr ?_; (case hd => rfl); (case hg => rfl); (case hr => exact zB); intro gb353 hg w26 hbox hb; have n0_ := xm (Kd.R_below (rB HO335) hb); have n1_ := xm (Kd.R_below (rB HO338) hb); have n2_ := xm (Kd.S_below (tB HO341) hb); have n3_ := xm (Kd.R_below (rB HO346) hb); have n4_ := xm (Kd.R_below (rB HO351) hb); have n5_ := xm (blk_below (kB BK342) hb); have n6_ := xm (blk_below (kB BK343) hb); have n7_ := xm (blk_below (kB BK348) hb); have n8_ := xm (below_step bG hb); have n9_ := xm (hbox); have n10_ := xm ((by rw [hg]; exact (xz bG) : w.heap.size ≤ gb353)); have n11_ := xm ((by rw [hg]; exact (xz bG) : w.heap.size ≤ gb353)); have n12_ := xm ((by rw [hg]; exact Nat.ne_of_lt (blk_lt (kB BK342)) : gb342 ≠ gb353)); have n13_ := xm ((by rw [hg]; exact Nat.ne_of_gt (blk_lt (kB BK342)) : gb353 ≠ gb342)); have n14_ := xm ((by rw [hg]; exact Nat.ne_of_lt (blk_lt (kB BK343)) : gb343 ≠ gb353)); have n15_ := xm ((by rw [hg]; exact Nat.ne_of_gt (blk_lt (kB BK343)) : gb353 ≠ gb343)); have n16_ := xm ((by rw [hg]; exact Nat.ne_of_lt (blk_lt (kB BK348)) : gb348 ≠ gb353)); have n17_ := xm ((by rw [hg]; exact Nat.ne_of_gt (blk_lt (kB BK348)) : gb353 ≠ gb348)); revert n0_ n1_ n2_ n3_ n4_ n5_ n6_ n7_ n8_ n9_ n10_ n11_ n12_ n13_ n14_ n15_ n16_ n17_; clear HO335 HO338 HO341 HO346 HO351 BK342 BK343 BK348 HB; intro HO335 HO338 HO341 HO346 HO351 BK342 BK343 BK348 HB BK353 GW353 GE353 NB342_353 NB353_342 NB343_353 NB353_343 NB348_353 NB353_348; clear hb hbox hg; obtain ⟨Ao27, co27, eo27⟩ := Kd.R_slice HO351.out; subst eo27; have hnb28 := NB353_342.out; have hnc28 := NB342_353.out; have hnb29 := NB353_343.out; have hnc29 := NB343_353.out; have hnb30 := NB353_348.out; have hnc30 := NB348_353.out; obtain ⟨hcz31_0, hfz31_0⟩ := cz1 BK353.out)); go_upto_region 6 with (first | (go_at_call 4; (with_reducible refine (spec_DrawJoinRows.calls k _ _ l0 t333 t336 t339 _ ?side1 ?side2 A4.out).mono ?_); (case side1 => repeat (first | exact HR0.out | (with_reducible refine Kd.C_alloc ?_ _) | (with_reducible refine Kd.C_drewN ?_ _) | (with_reducible refine Kd.C_drew ?_))); (case side2 => exact HC0.out); rintro e w8 ⟨v334, v337, v340, rfl, ho0, ho1, ho2, hb⟩; have n0_ := xm (Kd.R_lower ho0 (xz bB)); have n1_ := xm (Kd.R_lower ho1 (xz bB)); have n2_ := xm (Kd.S_lower ho2 (xz bB)); have n3_ := xm (below_step bB hb); revert n0_ n1_ n2_ n3_; clear HB; intro HO335 HO338 HO341 HB; (try clear hb); (try clear hk); (try clear ho0); (try clear ho1); (try clear ho2)) | ((with_reducible refine gate_dst (N := 5) rfl ?_); (try (refine gate_guard (by rfl) ?_; dsimp only)); refine box_event ?hg (N := 5) ?hd (cs := #[.slice none 0 0]) (t := 25) ?hr ?_; (case hd => rfl); (case hg => rfl); (case hr => exact zB); intro gb342 hg w9 hbox hb; have n0_ := xm (Kd.R_below (rB HO335) hb); have n1_ := xm (Kd.R_below (rB HO338) hb); have n2_ := xm (Kd.S_below (tB HO341) hb); have n3_ := xm (below_step bB hb); have n4_ := xm (hbox); have n5_ := xm ((by rw [hg]; exact (xz bB) : w.heap.size ≤ gb342)); have n6_ := xm ((by rw [hg]; exact (xz bB) : w.heap.size ≤ gb342)); revert n0_ n1_ n2_ n3_ n4_ n5_ n6_; clear HO335 HO338 HO341 HB; intro HO335 HO338 HO341 HB BK342 GW342 GE342; clear hb hbox hg) | ((with_reducible refine gate_dst (N := 6) rfl ?_); (try (refine gate_guard (by rfl) ?_; dsimp only)); refine box_event ?hg (N := 6) ?hd (cs := #[.slice none 0 0]) (t := 25) ?hr ?_; (case hd => rfl); (case hg => rfl); (case hr => exact zB); intro gb343 hg w10 hbox hb; have n0_ := xm (Kd.R_below (rB HO335) hb); have n1_ := xm (Kd.R_below (rB HO338) hb); have n2_ := xm (Kd.S_below (tB HO341) hb); have n3_ := xm (blk_below (kB BK342) hb); have n4_ := xm (below_step bG hb); have n5_ := xm (hbox); have n6_ := xm ((by rw [hg]; exact (xz bG) : w.heap.size ≤ gb343)); have n7_ := xm ((by rw [hg]; exact (xz bG) : w.heap.size ≤ gb343)); have n8_ := xm ((by rw [hg]; exact Nat.ne_of_lt (blk_lt (kB BK342)) : gb342 ≠ gb343)); have n9_ := xm ((by rw [hg]; exact Nat.ne_of_gt (blk_lt (kB BK342)) : gb343 ≠ gb342)); revert n0_ n1_ n2_ n3_ n4_ n5_ n6_ n7_ n8_ n9_; clear HO335 HO338 HO341 BK342 HB; intro HO335 HO338 HO341 BK342 HB BK343 GW343 GE343 NB342_343 NB343_342; clear hb hbox hg; obtain ⟨Ao11, co11, eo11⟩ := Kd.R_slice HO335.out; subst eo11; have hnb12 := NB342_343.out; have hnc12 := NB343_342.out; obtain ⟨hcz13_0, hfz13_0⟩ := cz1 BK342.out; obtain ⟨Ao14, co14, eo14⟩ := Kd.R_slice HO338.out; subst eo14; obtain ⟨hcz15_0, hfz15_0⟩ := cz1 BK343.out; obtain ⟨Ao16, co16, eo16⟩ := Kd.S_slice HO341.out; subst eo16) | (go_at_call 5; (with_reducible refine (impl_JoinRows.calls k _ _ t333 _ _ t336 _ _ t339 t344 t347 _ ?side1 ?side2 ?side3 ?side4 ?side5 ?side6 A5.out).mono ?_); (case side1 => refine (Kd.R_reads' (e := 3) (base := w.heap.size) (ok := fun k_ => some k_ ≠ (.slice Ao14 t336.length co14 : Value).ownBlock) (n := t333.length) (c := co11) ?_).2.2; exact (by (with_reducible repeat (first | apply Kd.R_alloc | apply Kd.R_drewN | apply Kd.R_drew)); exact (Kd.R_mono (Kd.R_mono (Kd.R_far (p := ⟨gb343, 0, none⟩) (Kd.R_far (p := ⟨gb342, 0, none⟩) (Kd.R_types (Kd.R_types HO335.out BK342.out (by decide)) BK343.out (by decide)) (fun _ hk => hk.1.2) (.slice Ao11 t333.length co11)) (fun _ hk => hk.2) (.slice Ao14 t336.length co14)) (fun _ h_ => h_.1)) (fun _ h_ => h_.1)))); (case side2 => exact (Kd.R_reads' HO335.out).2.1); (case side3 => refine (Kd.R_reads' (e := 3) (base := w.heap.size) (ok := fun k_ => some k_ ≠ (.slice Ao11 t333.length co11 : Value).ownBlock) (n := t336.length) (c := co14) ?_).2.2; exact (by (with_reducible repeat (first | apply Kd.R_alloc | apply Kd.R_drewN | apply Kd.R_drew)); exact (Kd.R_mono (Kd.R_mono (Kd.R_far (p := ⟨gb343, 0, none⟩) (Kd.R_far (p := ⟨gb342, 0, none⟩) (Kd.R_types (Kd.R_types HO338.out BK342.out (by decide)) BK343.out (by decide)) (fun _ hk => hk.1.2) (.slice Ao11 t333.length co11)) (fun _ hk => hk.2) (.slice Ao14 t336.length co14)) (fun _ h_ => h_.1)) (fun _ h_ => h_.1)))); (case side4 => exact (Kd.R_reads' HO338.out).2.1); (case side5 => refine (Kd.S_reads' (e := 23) (base := w.heap.size) (ok := fun k_ => (some k_ ≠ (.slice Ao11 t333.length co11 : Value).ownBlock ∧ some k_ ≠ (.slice Ao14 t336.length co14 : Value).ownBlock)) (n := t339.length) (c := co16) ?_).2.2; exact (by (with_reducible repeat (first | apply Kd.S_alloc | apply Kd.S_drewN | apply Kd.S_drew)); exact (Kd.S_mono (Kd.S_mono (Kd.S_far (p := ⟨gb343, 0, none⟩) (Kd.S_far (p := ⟨gb342, 0, none⟩) (Kd.S_types (Kd.S_types HO341.out BK342.out (by decide)) BK343.out (by decide)) (fun _ hk => hk.1.2) (.slice Ao11 t333.length co11)) (fun _ hk => hk.2) (.slice Ao14 t336.length co14)) (fun _ h_ => h_.1)) (fun _ h_ => h_.1)))); (case side6 => exact (Kd.S_reads' HO341.out).2.1); rintro e w17 ⟨v345, rfl, ho0, hb⟩; have n0_ := xm (Kd.R_elder' (by (with_reducible repeat (first | apply Kd.R_alloc | apply Kd.R_drewN | apply Kd.R_drew)); exact (Kd.R_mono (Kd.R_mono (Kd.R_far (p := ⟨gb343, 0, none⟩) (Kd.R_far (p := ⟨gb342, 0, none⟩) (Kd.R_types (Kd.R_types HO335.out BK342.out (by decide)) BK343.out (by decide)) (fun _ hk => hk.1.2) (.slice Ao11 t333.length co11)) (fun _ hk => hk.2) (.slice Ao14 t336.length co14)) (fun _ h_ => h_.1)) (fun _ h_ => h_.1))) (Kd.R_base ho0) hb); have n1_ := xm (Kd.R_elder' (by (with_reducible repeat (first | apply Kd.R_alloc | apply Kd.R_drewN | apply Kd.R_drew)); exact (Kd.R_mono (Kd.R_mono (Kd.R_far (p := ⟨gb343, 0, none⟩) (Kd.R_far (p := ⟨gb342, 0, none⟩) (Kd.R_types (Kd.R_types HO338.out BK342.out (by decide)) BK343.out (by decide)) (fun _ hk => hk.1.2) (.slice Ao11 t333.length co11)) (fun _ hk => hk.2) (.slice Ao14 t336.length co14)) (fun _ h_ => h_.1)) (fun _ h_ => h_.1))) (Kd.R_base ho0) hb); have n2_ := xm (Kd.S_elder' (by (with_reducible repeat (first | apply Kd.S_alloc | apply Kd.S_drewN | apply Kd.S_drew)); exact (Kd.S_mono (Kd.S_mono (Kd.S_far (p := ⟨gb343, 0, none⟩) (Kd.S_far (p := ⟨gb342, 0, none⟩) (Kd.S_types (Kd.S_types HO341.out BK342.out (by decide)) BK343.out (by decide)) (fun _ hk => hk.1.2) (.slice Ao11 t333.length co11)) (fun _ hk => hk.2) (.slice Ao14 t336.length co14)) (fun _ h_ => h_.1)) (fun _ h_ => h_.1))) (Kd.R_base ho0) hb); have n3_ := xm (Kd.R_lower (Kd.R_new' (Kd.R_new' ho0 (Kd.R_lt (by (with_reducible repeat (first | apply Kd.R_alloc | apply Kd.R_drewN | apply Kd.R_drew)); exact (Kd.R_mono (Kd.R_mono (Kd.R_far (p := ⟨gb343, 0, none⟩) (Kd.R_far (p := ⟨gb342, 0, none⟩) (Kd.R_types (Kd.R_types HO335.out BK342.out (by decide)) BK343.out (by decide)) (fun _ hk => hk.1.2) (.slice Ao11 t333.length co11)) (fun _ hk => hk.2) (.slice Ao14 t336.length co14)) (fun _ h_ => h_.1)) (fun _ h_ => h_.1))))) (Kd.R_lt (by (with_reducible repeat (first | apply Kd.R_alloc | apply Kd.R_drewN | apply Kd.R_drew)); exact (Kd.R_mono (Kd.R_mono (Kd.R_far (p := ⟨gb343, 0, none⟩) (Kd.R_far (p := ⟨gb342, 0, none⟩) (Kd.R_types (Kd.R_types HO338.out BK342.out (by decide)) BK343.out (by decide)) (fun _ hk => hk.1.2) (.slice Ao11 t333.length co11)) (fun _ hk => hk.2) (.slice Ao14 t336.length co14)) (fun _ h_ => h_.1)) (fun _ h_ => h_.1))))) (xz bG)); have n4_ := xm (blk_below (g := gb342) (o := .cells #[.slice Ao11 t333.length co11] 25 (0, 0)) (by (with_reducible repeat (first | refine xq ?_ _ | refine xr ?_ | refine xo ?_ _)); refine blk_far ?_ NB342_343.out _; (with_reducible repeat (first | refine xq ?_ _ | refine xr ?_ | refine xo ?_ _)); refine blk_put (cs := #[.slice none 0 0]) ?_ 0 _ rfl; (with_reducible repeat (first | refine xq ?_ _ | refine xr ?_ | refine xo ?_ _)); exact BK342.out) hb); have n5_ := xm (blk_below (g := gb343) (o := .cells #[.slice Ao14 t336.length co14] 25 (0, 0)) (by (with_reducible repeat (first | refine xq ?_ _ | refine xr ?_ | refine xo ?_ _)); refine blk_put (cs := #[.slice none 0 0]) ?_ 0 _ rfl; (with_reducible repeat (first | refine xq ?_ _ | refine xr ?_ | refine xo ?_ _)); refine blk_far ?_ NB343_342.out _; (with_reducible repeat (first | refine xq ?_ _ | refine xr ?_ | refine xo ?_ _)); exact BK343.out) hb); have n6_ := xm (below_step bG hb); revert n0_ n1_ n2_ n3_ n4_ n5_ n6_; clear HO335 HO338 HO341 BK342 BK343 HB; intro HO335 HO338 HO341 HO346 BK342 BK343 HB; (try clear hb); (try clear hk); (try clear ho0)) | ((with_reducible refine gate_dst (N := 8) rfl ?_); (try (refine gate_guard (by rfl) ?_; dsimp only)); refine box_event ?hg (N := 8) ?hd (cs := #[.slice none 0 0]) (t := 25) ?hr ?_; (case hd => rfl); (case hg => rfl); (case hr => exact zB); intro gb348 hg w18 hbox hb; have n0_ := xm (Kd.R_below (rB HO335) hb); have n1_ := xm (Kd.R_below (rB HO338) hb); have n2_ := xm (Kd.S_below (tB HO341) hb); have n3_ := xm (Kd.R_below (rB HO346) hb); have n4_ := xm (blk_below (kB BK342) hb); have n5_ := xm (blk_below (kB BK343) hb); have n6_ := xm (below_step bG hb); have n7_ := xm (hbox); have n8_ := xm ((by rw [hg]; exact (xz bG) : w.heap.size ≤ gb348)); have n9_ := xm ((by rw [hg]; exact (xz bG) : w.heap.size ≤ gb348)); have n10_ := xm ((by rw [hg]; exact Nat.ne_of_lt (blk_lt (kB BK342)) : gb342 ≠ gb348)); have n11_ := xm ((by rw [hg]; exact Nat.ne_of_gt (blk_lt (kB BK342)) : gb348 ≠ gb342)); have n12_ := xm ((by rw [hg]; exact Nat.ne_of_lt (blk_lt (kB BK343)) : gb343 ≠ gb348)); have n13_ := xm ((by rw [hg]; exact Nat.ne_of_gt (blk_lt (kB BK343)) : gb348 ≠ gb343)); revert n0_ n1_ n2_ n3_ n4_ n5_ n6_ n7_ n8_ n9_ n10_ n11_ n12_ n13_; clear HO335 HO338 HO341 HO346 BK342 BK343 HB; intro HO335 HO338 HO341 HO346 BK342 BK343 HB BK348 GW348 GE348 NB342_348 NB348_342 NB343_348 NB348_343; clear hb hbox hg; obtain ⟨Ao19, co19, eo19⟩ := Kd.R_slice HO346.out; subst eo19; have hnb20 := NB348_342.out; have hnc20 := NB342_348.out; have hnb21 := NB348_343.out; have hnc21 := NB343_348.out; obtain ⟨hcz22_0, hfz22_0⟩ := cz1 BK348.out; obtain ⟨hcz23_0, hfz23_0⟩ := cz1 BK342.out; obtain ⟨hcz24_0, hfz24_0⟩ := cz1 BK343.out) | (go_at_call 6; (with_reducible refine (spec_JoinRows.calls k _ _ t333 _ _ t336 _ _ t339 t349 t352 _ ?side1 ?side2 ?side3 ?side4 ?side5 ?side6 A6.out).mono ?_); (case side1 => refine (Kd.R_reads' (e := 3) (base := w.heap.size) (ok := fun k_ => (some k_ ≠ (.slice Ao14 t336.length co14 : Value).ownBlock ∧ some k_ ≠ (.slice Ao19 t344.length co19 : Value).ownBlock)) (n := t333.length) (c := co11) ?_).2.2; exact (rF HO335 BK348 (.slice Ao19 t344.length co19))); (case side2 => exact (Kd.R_reads' HO335.out).2.1); (case side3 => refine (Kd.R_reads' (e := 3) (base := w.heap.size) (ok := fun k_ => (some k_ ≠ (.slice Ao11 t333.length co11 : Value).ownBlock ∧ some k_ ≠ (.slice Ao19 t344.length co19 : Value).ownBlock)) (n := t336.length) (c := co14) ?_).2.2; exact (rF HO338 BK348 (.slice Ao19 t344.length co19))); (case side4 => exact (Kd.R_reads' HO338.out).2.1); (case side5 => refine (Kd.S_reads' (e := 23) (base := w.heap.size) (ok := fun k_ => ((some k_ ≠ (.slice Ao11 t333.length co11 : Value).ownBlock ∧ some k_ ≠ (.slice Ao14 t336.length co14 : Value).ownBlock) ∧ some k_ ≠ (.slice Ao19 t344.length co19 : Value).ownBlock)) (n := t339.length) (c := co16) ?_).2.2; exact (by (with_reducible repeat (first | apply Kd.S_alloc | apply Kd.S_drewN | apply Kd.S_drew)); exact (Kd.S_mono (Kd.S_far (p := ⟨gb348, 0, none⟩) (Kd.S_types HO341.out BK348.out (by decide)) (fun _ hk => hk.2) (.slice Ao19 t344.length co19)) (fun _ h_ => h_.1)))); (case side6 => exact (Kd.S_reads' HO341.out).2.1); rintro e w25 ⟨v350, rfl, ho0, hb⟩; have n0_ := xm (Kd.R_elder' (rF HO335 BK348 (.slice Ao19 t344.length co19)) (Kd.R_base ho0) hb); have n1_ := xm (Kd.R_elder' (rF HO338 BK348 (.slice Ao19 t344.length co19)) (Kd.R_base ho0) hb); have n2_ := xm (Kd.S_elder' (by (with_reducible repeat (first | apply Kd.S_alloc | apply Kd.S_drewN | apply Kd.S_drew)); exact (Kd.S_mono (Kd.S_far (p := ⟨gb348, 0, none⟩) (Kd.S_types HO341.out BK348.out (by decide)) (fun _ hk => hk.2) (.slice Ao19 t344.length co19)) (fun _ h_ => h_.1))) (Kd.R_base ho0) hb); have n3_ := xm (Kd.R_elder' (rF HO346 BK348 (.slice Ao19 t344.length co19)) (Kd.R_base ho0) hb); have n4_ := xm (Kd.R_lower (Kd.R_new' (Kd.R_new' (Kd.R_new' ho0 (Kd.R_lt (rF HO335 BK348 (.slice Ao19 t344.length co19)))) (Kd.R_lt (rF HO338 BK348 (.slice Ao19 t344.length co19)))) (Kd.R_lt (rF HO346 BK348 (.slice Ao19 t344.length co19)))) (xz bG)); have n5_ := xm (blk_below (kF BK342 NB342_348) hb); have n6_ := xm (blk_below (kF BK343 NB343_348) hb); have n7_ := xm (blk_below (g := gb348) (o := .cells #[.slice Ao19 t344.length co19] 25 (0, 0)) (by (with_reducible repeat (first | refine xq ?_ _ | refine xr ?_ | refine xo ?_ _)); refine blk_put (cs := #[.slice none 0 0]) ?_ 0 _ rfl; (with_reducible repeat (first | refine xq ?_ _ | refine xr ?_ | refine xo ?_ _)); exact BK348.out) hb); have n8_ := xm (below_step bG hb); revert n0_ n1_ n2_ n3_ n4_ n5_ n6_ n7_ n8_; clear HO335 HO338 HO341 HO346 BK342 BK343 BK348 HB; intro HO335 HO338 HO341 HO346 HO351 BK342 BK343 BK348 HB; (try clear hb); (try clear hk); (try clear ho0)) | ((with_reducible refine gate_dst (N := 10) rfl ?_); (try (refine gate_guard (by rfl) ?_; dsimp only)); refine box_event ?hg (N := 10) ?hd (cs := #[.slice none 0 0]) (t := 25) ?hr ?_; (case hd => rfl); (case hg => rfl); (case hr => exact zB); intro gb353 hg w26 hbox hb; have n0_ := xm (Kd.R_below (rB HO335) hb); have n1_ := xm (Kd.R_below (rB HO338) hb); have n2_ := xm (Kd.S_below (tB HO341) hb); have n3_ := xm (Kd.R_below (rB HO346) hb); have n4_ := xm (Kd.R_below (rB HO351) hb); have n5_ := xm (blk_below (kB BK342) hb); have n6_ := xm (blk_below (kB BK343) hb); have n7_ := xm (blk_below (kB BK348) hb); have n8_ := xm (below_step bG hb); have n9_ := xm (hbox); have n10_ := xm ((by rw [hg]; exact (xz bG) : w.heap.size ≤ gb353)); have n11_ := xm ((by rw [hg]; exact (xz bG) : w.heap.size ≤ gb353)); have n12_ := xm ((by rw [hg]; exact Nat.ne_of_lt (blk_lt (kB BK342)) : gb342 ≠ gb353)); have n13_ := xm ((by rw [hg]; exact Nat.ne_of_gt (blk_lt (kB BK342)) : gb353 ≠ gb342)); have n14_ := xm ((by rw [hg]; exact Nat.ne_of_lt (blk_lt (kB BK343)) : gb343 ≠ gb353)); have n15_ := xm ((by rw [hg]; exact Nat.ne_of_gt (blk_lt (kB BK343)) : gb353 ≠ gb343)); have n16_ := xm ((by rw [hg]; exact Nat.ne_of_lt (blk_lt (kB BK348)) : gb348 ≠ gb353)); have n17_ := xm ((by rw [hg]; exact Nat.ne_of_gt (blk_lt (kB BK348)) : gb353 ≠ gb348)); revert n0_ n1_ n2_ n3_ n4_ n5_ n6_ n7_ n8_ n9_ n10_ n11_ n12_ n13_ n14_ n15_ n16_ n17_; clear HO335 HO338 HO341 HO346 HO351 BK342 BK343 BK348 HB; intro HO335 HO338 HO341 HO346 HO351 BK342 BK343 BK348 HB BK353 GW353 GE353 NB342_353 NB353_342 NB343_353 NB353_343 NB348_353 NB353_348; clear hb hbox hg; obtain ⟨Ao27, co27, eo27⟩ := Kd.R_slice HO351.out; subst eo27; have hnb28 := NB353_342.out; have hnc28 := NB342_353.out; have hnb29 := NB353_343.out; have hnc29 := NB343_353.out; have hnb30 := NB353_348.out; have hnc30 := NB348_353.out; obtain ⟨hcz31_0, hfz31_0⟩ := cz1 BK353.out)))
  (try simp only [Act.put, xi, xj, xk])
  go_cut [58] (fun v58 wc => ∃ (kq : Nat) (x58_6 : Bool), v58 = .bool x58_6 ∧ Aside0 (laws_FnRowJoins.j0 kq l1 t339 t347 x58_6 t333 t336 t344 = some true) ∧ Aside0 (kq ≤ k) ∧ Aside0 (Kd.S (Kd.slice 3 (Kd.int .i64)) 23 wc w.heap.size (fun k_ => some k_ ≠ ((.slice Ao11 t333.length co11) : Value).ownBlock ∧ some k_ ≠ ((.slice Ao14 t336.length co14) : Value).ownBlock ∧ some k_ ≠ ((.slice Ao19 t344.length co19) : Value).ownBlock ∧ some k_ ≠ ((.slice Ao27 t349.length co27) : Value).ownBlock) (.slice Ao16 t339.length co16) t339) ∧ Aside0 (Kd.R (Kd.int .i64) 3 wc w.heap.size (fun k_ => some k_ ≠ ((.slice Ao14 t336.length co14) : Value).ownBlock ∧ some k_ ≠ ((.slice Ao19 t344.length co19) : Value).ownBlock ∧ some k_ ≠ ((.slice Ao27 t349.length co27) : Value).ownBlock) (.slice Ao11 t333.length co11) t333) ∧ Aside0 (Kd.R (Kd.int .i64) 3 wc w.heap.size (fun k_ => some k_ ≠ ((.slice Ao11 t333.length co11) : Value).ownBlock ∧ some k_ ≠ ((.slice Ao19 t344.length co19) : Value).ownBlock ∧ some k_ ≠ ((.slice Ao27 t349.length co27) : Value).ownBlock) (.slice Ao14 t336.length co14) t336) ∧ Aside0 (Kd.R (Kd.int .i64) 3 wc w.heap.size (fun k_ => some k_ ≠ ((.slice Ao11 t333.length co11) : Value).ownBlock ∧ some k_ ≠ ((.slice Ao14 t336.length co14) : Value).ownBlock ∧ some k_ ≠ ((.slice Ao27 t349.length co27) : Value).ownBlock) (.slice Ao19 t344.length co19) t344) ∧ Aside0 (Kd.R (Kd.int .i64) 3 wc w.heap.size (fun k_ => some k_ ≠ ((.slice Ao11 t333.length co11) : Value).ownBlock ∧ some k_ ≠ ((.slice Ao14 t336.length co14) : Value).ownBlock ∧ some k_ ≠ ((.slice Ao19 t344.length co19) : Value).ownBlock) (.slice Ao27 t349.length co27) t349) ∧ Aside0 (wc.heap[gb342]? = some (.cells #[(.slice Ao11 t333.length co11)] 25 (0, 0))) ∧ Aside0 (wc.heap[gb343]? = some (.cells #[(.slice Ao14 t336.length co14)] 25 (0, 0))) ∧ Aside0 (wc.heap[gb348]? = some (.cells #[(.slice Ao19 t344.length co19)] 25 (0, 0))) ∧ Aside0 (wc.heap[gb353]? = some (.cells #[(.slice Ao27 t349.length co27)] 25 (0, 0))) ∧ Aside0 (Below w.heap.size w wc))
  case first =>
   as_aux_lemma =>
    have H := HC7.out
    clear HC7
    by_cases c32 : (t347 != t352) = true
    ·rw [if_pos c32] at H
     have c32b0 : (t347 != t352) = true := c32
     (try (have c32b1 : decide (t347 = t352) = false := by simpa using c32))
     (try (have c32b2 : (t347 == t352) = false := by simpa using c32))
     (try (have c32b3 : ¬ (t347 = t352) := by simpa using c32))
     clear c32
     (first | rw [c32b0] | (simp only [i64_w, i32_w]; rw [c32b0]) | skip)
     have H' := xm H
     clear H
     go_wp2
     repeat (go_quiet (fail); try go_wp2)
     go_meet
     case rel => exact ⟨_, (true), sB, H', ⟨by first | omega | exact Nat.le_refl _⟩, ⟨by (with_reducible repeat (first | apply Kd.S_alloc | apply Kd.S_drewN | apply Kd.S_drew)); exact Kd.S_mono (Kd.S_far (p := ⟨gb353, 0, none⟩) (Kd.S_types HO341.out BK353.out (by decide)) (fun _ hk => hk.2) (.slice Ao27 t349.length co27)) (fun _ hk => ⟨hk.1.1.1.1, ⟨hk.1.1.1.2, ⟨hk.1.1.2, hk.1.2⟩⟩⟩)⟩, ⟨by (with_reducible repeat (first | apply Kd.R_alloc | apply Kd.R_drewN | apply Kd.R_drew)); exact Kd.R_mono (Kd.R_far (p := ⟨gb353, 0, none⟩) (Kd.R_types HO335.out BK353.out (by decide)) (fun _ hk => hk.2) (.slice Ao27 t349.length co27)) (fun _ hk => ⟨hk.1.1.1, ⟨hk.1.1.2, hk.1.2⟩⟩)⟩, ⟨by (with_reducible repeat (first | apply Kd.R_alloc | apply Kd.R_drewN | apply Kd.R_drew)); exact Kd.R_mono (Kd.R_far (p := ⟨gb353, 0, none⟩) (Kd.R_types HO338.out BK353.out (by decide)) (fun _ hk => hk.2) (.slice Ao27 t349.length co27)) (fun _ hk => ⟨hk.1.1.1, ⟨hk.1.1.2, hk.1.2⟩⟩)⟩, ⟨by (with_reducible repeat (first | apply Kd.R_alloc | apply Kd.R_drewN | apply Kd.R_drew)); exact Kd.R_mono (Kd.R_far (p := ⟨gb353, 0, none⟩) (Kd.R_types HO346.out BK353.out (by decide)) (fun _ hk => hk.2) (.slice Ao27 t349.length co27)) (fun _ hk => ⟨hk.1.1.1.2, ⟨hk.1.1.2, hk.1.2⟩⟩)⟩, ⟨by (with_reducible repeat (first | apply Kd.R_alloc | apply Kd.R_drewN | apply Kd.R_drew)); exact Kd.R_mono (Kd.R_far (p := ⟨gb353, 0, none⟩) (Kd.R_types HO351.out BK353.out (by decide)) (fun _ hk => hk.2) (.slice Ao27 t349.length co27)) (fun _ hk => ⟨hk.1.1.1.2, ⟨hk.1.1.2, hk.1.2⟩⟩)⟩, ⟨by (with_reducible repeat (first | refine xq ?_ _ | refine xr ?_ | refine xo ?_ _)); refine blk_far ?_ NB342_353.out _; (with_reducible repeat (first | refine xq ?_ _ | refine xr ?_ | refine xo ?_ _)); exact BK342.out⟩, ⟨by (with_reducible repeat (first | refine xq ?_ _ | refine xr ?_ | refine xo ?_ _)); refine blk_far ?_ NB343_353.out _; (with_reducible repeat (first | refine xq ?_ _ | refine xr ?_ | refine xo ?_ _)); exact BK343.out⟩, ⟨by (with_reducible repeat (first | refine xq ?_ _ | refine xr ?_ | refine xo ?_ _)); refine blk_far ?_ NB348_353.out _; (with_reducible repeat (first | refine xq ?_ _ | refine xr ?_ | refine xo ?_ _)); exact BK348.out⟩, ⟨by (with_reducible repeat (first | refine xq ?_ _ | refine xr ?_ | refine xo ?_ _)); refine blk_put (cs := #[.slice none 0 0]) ?_ 0 _ rfl; (with_reducible repeat (first | refine xq ?_ _ | refine xr ?_ | refine xo ?_ _)); exact BK353.out⟩, ⟨bG⟩⟩
    ·rw [if_neg c32] at H
     have c32b0 : (t347 != t352) = false := by simpa using c32
     (try (have c32b1 : decide (t347 = t352) = true := by simpa using c32))
     (try (have c32b2 : (t347 == t352) = true := by simpa using c32))
     clear c32
     (first | rw [c32b0] | (simp only [i64_w, i32_w]; rw [c32b0]) | skip)
     replace H := Option.bind_eq_some_iff.mp H
     obtain ⟨t354, A330, H⟩ := H
     replace H : (laws_FnRowJoins.j0 k l1 t339 t347 (!t354) t333 t336 t344) = some true := H
     have A33 := xm A330
     clear A330
     have H' := xm H
     clear H
     have hnb34 := NB348_342.out
     have hnc34 := NB342_348.out
     have hnb35 := NB348_343.out
     have hnc35 := NB343_348.out
     have hnb36 := NB348_353.out
     have hnc36 := NB353_348.out
     obtain ⟨hcz37_0, hfz37_0⟩ := cz1 BK348.out
     have hnb38 := NB353_342.out
     have hnc38 := NB342_353.out
     have hnb39 := NB353_343.out
     have hnc39 := NB343_353.out
     obtain ⟨hcz40_0, hfz40_0⟩ := cz1 BK353.out
     go_wp2_with (first | (go_at_call 7; (with_reducible refine (laws_sameRow.calls k _ _ t344 _ _ t349 t354 _ ?side1 ?side2 ?side3 ?side4 A33.out).mono ?_); (case side1 => refine (Kd.R_reads' (e := 3) (base := w.heap.size) (ok := fun k_ => (((True ∧ some k_ ≠ (.slice Ao11 t333.length co11 : Value).ownBlock) ∧ some k_ ≠ (.slice Ao14 t336.length co14 : Value).ownBlock) ∧ some k_ ≠ (.slice Ao27 t349.length co27 : Value).ownBlock)) (n := t344.length) (c := co19) ?_).2.2; exact (rF HO346 BK353 (.slice Ao27 t349.length co27))); (case side2 => exact (Kd.R_reads' HO346.out).2.1); (case side3 => refine (Kd.R_reads' (e := 3) (base := w.heap.size) (ok := fun k_ => (((True ∧ some k_ ≠ (.slice Ao11 t333.length co11 : Value).ownBlock) ∧ some k_ ≠ (.slice Ao14 t336.length co14 : Value).ownBlock) ∧ some k_ ≠ (.slice Ao19 t344.length co19 : Value).ownBlock)) (n := t349.length) (c := co27) ?_).2.2; exact (rF HO351 BK353 (.slice Ao27 t349.length co27))); (case side4 => exact (Kd.R_reads' HO351.out).2.1); rintro e w41 ⟨rfl, hb⟩; have n0_ := xm (Kd.R_below (rF HO335 BK353 (.slice Ao27 t349.length co27)) hb); have n1_ := xm (Kd.R_below (rF HO338 BK353 (.slice Ao27 t349.length co27)) hb); have n2_ := xm (Kd.S_below (by (with_reducible repeat (first | apply Kd.S_alloc | apply Kd.S_drewN | apply Kd.S_drew)); exact (Kd.S_mono (Kd.S_far (p := ⟨gb353, 0, none⟩) (Kd.S_types HO341.out BK353.out (by decide)) (fun _ hk => hk.2) (.slice Ao27 t349.length co27)) (fun _ h_ => h_.1))) hb); have n3_ := xm (Kd.R_below (rF HO346 BK353 (.slice Ao27 t349.length co27)) hb); have n4_ := xm (Kd.R_below (rF HO351 BK353 (.slice Ao27 t349.length co27)) hb); have n5_ := xm (blk_below (kF BK342 NB342_353) hb); have n6_ := xm (blk_below (kF BK343 NB343_353) hb); have n7_ := xm (blk_below (kF BK348 NB348_353) hb); have n8_ := xm (blk_below (g := gb353) (o := .cells #[.slice Ao27 t349.length co27] 25 (0, 0)) (by (with_reducible repeat (first | refine xq ?_ _ | refine xr ?_ | refine xo ?_ _)); refine blk_put (cs := #[.slice none 0 0]) ?_ 0 _ rfl; (with_reducible repeat (first | refine xq ?_ _ | refine xr ?_ | refine xo ?_ _)); exact BK353.out) hb); have n9_ := xm (below_step bG hb); revert n0_ n1_ n2_ n3_ n4_ n5_ n6_ n7_ n8_ n9_; clear HO335 HO338 HO341 HO346 HO351 BK342 BK343 BK348 BK353 HB; intro HO335 HO338 HO341 HO346 HO351 BK342 BK343 BK348 BK353 HB; (try clear hb); (try clear hk)))
     repeat (go_quiet (first | (go_at_call 7; (with_reducible refine (laws_sameRow.calls k _ _ t344 _ _ t349 t354 _ ?side1 ?side2 ?side3 ?side4 A33.out).mono ?_); (case side1 => refine (Kd.R_reads' (e := 3) (base := w.heap.size) (ok := fun k_ => (((True ∧ some k_ ≠ (.slice Ao11 t333.length co11 : Value).ownBlock) ∧ some k_ ≠ (.slice Ao14 t336.length co14 : Value).ownBlock) ∧ some k_ ≠ (.slice Ao27 t349.length co27 : Value).ownBlock)) (n := t344.length) (c := co19) ?_).2.2; exact (rF HO346 BK353 (.slice Ao27 t349.length co27))); (case side2 => exact (Kd.R_reads' HO346.out).2.1); (case side3 => refine (Kd.R_reads' (e := 3) (base := w.heap.size) (ok := fun k_ => (((True ∧ some k_ ≠ (.slice Ao11 t333.length co11 : Value).ownBlock) ∧ some k_ ≠ (.slice Ao14 t336.length co14 : Value).ownBlock) ∧ some k_ ≠ (.slice Ao19 t344.length co19 : Value).ownBlock)) (n := t349.length) (c := co27) ?_).2.2; exact (rF HO351 BK353 (.slice Ao27 t349.length co27))); (case side4 => exact (Kd.R_reads' HO351.out).2.1); rintro e w41 ⟨rfl, hb⟩; have n0_ := xm (Kd.R_below (rF HO335 BK353 (.slice Ao27 t349.length co27)) hb); have n1_ := xm (Kd.R_below (rF HO338 BK353 (.slice Ao27 t349.length co27)) hb); have n2_ := xm (Kd.S_below (by (with_reducible repeat (first | apply Kd.S_alloc | apply Kd.S_drewN | apply Kd.S_drew)); exact (Kd.S_mono (Kd.S_far (p := ⟨gb353, 0, none⟩) (Kd.S_types HO341.out BK353.out (by decide)) (fun _ hk => hk.2) (.slice Ao27 t349.length co27)) (fun _ h_ => h_.1))) hb); have n3_ := xm (Kd.R_below (rF HO346 BK353 (.slice Ao27 t349.length co27)) hb); have n4_ := xm (Kd.R_below (rF HO351 BK353 (.slice Ao27 t349.length co27)) hb); have n5_ := xm (blk_below (kF BK342 NB342_353) hb); have n6_ := xm (blk_below (kF BK343 NB343_353) hb); have n7_ := xm (blk_below (kF BK348 NB348_353) hb); have n8_ := xm (blk_below (g := gb353) (o := .cells #[.slice Ao27 t349.length co27] 25 (0, 0)) (by (with_reducible repeat (first | refine xq ?_ _ | refine xr ?_ | refine xo ?_ _)); refine blk_put (cs := #[.slice none 0 0]) ?_ 0 _ rfl; (with_reducible repeat (first | refine xq ?_ _ | refine xr ?_ | refine xo ?_ _)); exact BK353.out) hb); have n9_ := xm (below_step bG hb); revert n0_ n1_ n2_ n3_ n4_ n5_ n6_ n7_ n8_ n9_; clear HO335 HO338 HO341 HO346 HO351 BK342 BK343 BK348 BK353 HB; intro HO335 HO338 HO341 HO346 HO351 BK342 BK343 BK348 BK353 HB; (try clear hb); (try clear hk))); try go_wp2_with (first | (go_at_call 7; (with_reducible refine (laws_sameRow.calls k _ _ t344 _ _ t349 t354 _ ?side1 ?side2 ?side3 ?side4 A33.out).mono ?_); (case side1 => refine (Kd.R_reads' (e := 3) (base := w.heap.size) (ok := fun k_ => (((True ∧ some k_ ≠ (.slice Ao11 t333.length co11 : Value).ownBlock) ∧ some k_ ≠ (.slice Ao14 t336.length co14 : Value).ownBlock) ∧ some k_ ≠ (.slice Ao27 t349.length co27 : Value).ownBlock)) (n := t344.length) (c := co19) ?_).2.2; exact (rF HO346 BK353 (.slice Ao27 t349.length co27))); (case side2 => exact (Kd.R_reads' HO346.out).2.1); (case side3 => refine (Kd.R_reads' (e := 3) (base := w.heap.size) (ok := fun k_ => (((True ∧ some k_ ≠ (.slice Ao11 t333.length co11 : Value).ownBlock) ∧ some k_ ≠ (.slice Ao14 t336.length co14 : Value).ownBlock) ∧ some k_ ≠ (.slice Ao19 t344.length co19 : Value).ownBlock)) (n := t349.length) (c := co27) ?_).2.2; exact (rF HO351 BK353 (.slice Ao27 t349.length co27))); (case side4 => exact (Kd.R_reads' HO351.out).2.1); rintro e w41 ⟨rfl, hb⟩; have n0_ := xm (Kd.R_below (rF HO335 BK353 (.slice Ao27 t349.length co27)) hb); have n1_ := xm (Kd.R_below (rF HO338 BK353 (.slice Ao27 t349.length co27)) hb); have n2_ := xm (Kd.S_below (by (with_reducible repeat (first | apply Kd.S_alloc | apply Kd.S_drewN | apply Kd.S_drew)); exact (Kd.S_mono (Kd.S_far (p := ⟨gb353, 0, none⟩) (Kd.S_types HO341.out BK353.out (by decide)) (fun _ hk => hk.2) (.slice Ao27 t349.length co27)) (fun _ h_ => h_.1))) hb); have n3_ := xm (Kd.R_below (rF HO346 BK353 (.slice Ao27 t349.length co27)) hb); have n4_ := xm (Kd.R_below (rF HO351 BK353 (.slice Ao27 t349.length co27)) hb); have n5_ := xm (blk_below (kF BK342 NB342_353) hb); have n6_ := xm (blk_below (kF BK343 NB343_353) hb); have n7_ := xm (blk_below (kF BK348 NB348_353) hb); have n8_ := xm (blk_below (g := gb353) (o := .cells #[.slice Ao27 t349.length co27] 25 (0, 0)) (by (with_reducible repeat (first | refine xq ?_ _ | refine xr ?_ | refine xo ?_ _)); refine blk_put (cs := #[.slice none 0 0]) ?_ 0 _ rfl; (with_reducible repeat (first | refine xq ?_ _ | refine xr ?_ | refine xo ?_ _)); exact BK353.out) hb); have n9_ := xm (below_step bG hb); revert n0_ n1_ n2_ n3_ n4_ n5_ n6_ n7_ n8_ n9_; clear HO335 HO338 HO341 HO346 HO351 BK342 BK343 BK348 BK353 HB; intro HO335 HO338 HO341 HO346 HO351 BK342 BK343 BK348 BK353 HB; (try clear hb); (try clear hk))))
     go_meet
     case rel => exact ⟨_, (!t354), sB, H', ⟨by first | omega | exact Nat.le_refl _⟩, ⟨by (with_reducible repeat (first | apply Kd.S_alloc | apply Kd.S_drewN | apply Kd.S_drew)); exact Kd.S_mono HO341.out (fun _ hk => ⟨hk.1.1.1, ⟨hk.1.1.2, ⟨hk.1.2, hk.2⟩⟩⟩)⟩, ⟨by (with_reducible repeat (first | apply Kd.R_alloc | apply Kd.R_drewN | apply Kd.R_drew)); exact Kd.R_mono HO335.out (fun _ hk => ⟨hk.1.1, ⟨hk.1.2, hk.2⟩⟩)⟩, ⟨by (with_reducible repeat (first | apply Kd.R_alloc | apply Kd.R_drewN | apply Kd.R_drew)); exact Kd.R_mono HO338.out (fun _ hk => ⟨hk.1.1, ⟨hk.1.2, hk.2⟩⟩)⟩, ⟨by (with_reducible repeat (first | apply Kd.R_alloc | apply Kd.R_drewN | apply Kd.R_drew)); exact Kd.R_mono HO346.out (fun _ hk => ⟨hk.1.1.2, ⟨hk.1.2, hk.2⟩⟩)⟩, ⟨by (with_reducible repeat (first | apply Kd.R_alloc | apply Kd.R_drewN | apply Kd.R_drew)); exact Kd.R_mono HO351.out (fun _ hk => ⟨hk.1.1.2, ⟨hk.1.2, hk.2⟩⟩)⟩, ⟨kB BK342⟩, ⟨kB BK343⟩, ⟨kB BK348⟩, ⟨kB BK353⟩, ⟨bG⟩⟩
  case rest =>
   clear HC7
   try clear c1
   try clear c2
   try clear p2
   try clear c3
   try clear c3b0
   try clear p6
   try clear c12
   try clear c20
   try clear c21
   try clear c28
   try clear c29
   try clear c30
   try clear c32
   try clear c32b0 c32b1 c32b2
   try clear c34
   try clear c35
   try clear c36
   try clear c38
   try clear c39
   try clear hcz13_0
   try clear hcz15_0
   try clear hcz22_0
   try clear hcz23_0
   try clear hcz24_0
   try clear hcz31_0
   try clear hcz37_0
   try clear hcz40_0
   try clear hfz13_0
   try clear hfz15_0
   try clear hfz22_0
   try clear hfz23_0
   try clear hfz24_0
   try clear hfz31_0
   try clear hfz37_0
   try clear hfz40_0
   obtain ⟨kq, x58_6, rfl, HA, HJ6, HO_7, HO_343000, HO_344000, HO_349000, HO_354000, BK342, BK343, BK348, BK353, HB⟩ := hcut
   cases kq with
   | zero => exact absurd HA.out (by simp [laws_FnRowJoins.j0])
   | succ kj6 =>
    have H := HA.out
    clear HA
    simp only [laws_FnRowJoins.j0] at H
    by_cases c42 : x58_6 = true
    ·subst c42
     have H1 : (some false) = some true := by first | (with_reducible rfl) | (rw [if_pos rfl] at H; exact H)
     clear H
     have H := H1
     clear H1
     exact absurd H (by simp)
    ·replace c42 := Bool.eq_false_iff.mpr c42
     subst c42
     have H1 : (if t347 = true then (laws_FnRowJoins.l0 kj6 l1 t339 ([] : List Int) (t333.length : Int) 0 t333 t336 t344) else (laws_FnRowJoins.j4 kj6 l1)) = some true := by first | (with_reducible rfl) | (rw [if_neg (show ¬ (false = true) by decide)] at H; exact H)
     clear H
     have H := H1
     clear H1
     have HC43 := xm H
     clear H
     go_upto_if 59 with (fail)
     repeat (go_quiet (fail); go_upto_if 59 with (fail))
     go_cut [] (fun wc => ∃ (kq : Nat), Aside0 (laws_FnRowJoins.j4 kq l1 = some true) ∧ Aside0 (kq ≤ kj6) ∧ Aside0 (Kd.R (Kd.int .i64) 3 wc w.heap.size (fun k_ => some k_ ≠ ((.slice Ao14 t336.length co14) : Value).ownBlock ∧ some k_ ≠ ((.slice Ao19 t344.length co19) : Value).ownBlock ∧ some k_ ≠ ((.slice Ao27 t349.length co27) : Value).ownBlock) (.slice Ao11 t333.length co11) t333) ∧ Aside0 (Kd.R (Kd.int .i64) 3 wc w.heap.size (fun k_ => some k_ ≠ ((.slice Ao11 t333.length co11) : Value).ownBlock ∧ some k_ ≠ ((.slice Ao19 t344.length co19) : Value).ownBlock ∧ some k_ ≠ ((.slice Ao27 t349.length co27) : Value).ownBlock) (.slice Ao14 t336.length co14) t336) ∧ Aside0 (Kd.R (Kd.int .i64) 3 wc w.heap.size (fun k_ => some k_ ≠ ((.slice Ao11 t333.length co11) : Value).ownBlock ∧ some k_ ≠ ((.slice Ao14 t336.length co14) : Value).ownBlock ∧ some k_ ≠ ((.slice Ao27 t349.length co27) : Value).ownBlock) (.slice Ao19 t344.length co19) t344) ∧ Aside0 (Kd.R (Kd.int .i64) 3 wc w.heap.size (fun k_ => some k_ ≠ ((.slice Ao11 t333.length co11) : Value).ownBlock ∧ some k_ ≠ ((.slice Ao14 t336.length co14) : Value).ownBlock ∧ some k_ ≠ ((.slice Ao19 t344.length co19) : Value).ownBlock) (.slice Ao27 t349.length co27) t349) ∧ Aside0 (wc.heap[gb342]? = some (.cells #[(.slice Ao11 t333.length co11)] 25 (0, 0))) ∧ Aside0 (wc.heap[gb343]? = some (.cells #[(.slice Ao14 t336.length co14)] 25 (0, 0))) ∧ Aside0 (wc.heap[gb348]? = some (.cells #[(.slice Ao19 t344.length co19)] 25 (0, 0))) ∧ Aside0 (wc.heap[gb353]? = some (.cells #[(.slice Ao27 t349.length co27)] 25 (0, 0))) ∧ Aside0 (Below w.heap.size w wc))
     case first =>
      as_aux_lemma =>
       have H := HC43.out
       clear HC43
       by_cases c44 : t347 = true
       ·subst c44
        have H1 : (laws_FnRowJoins.l0 kj6 l1 t339 ([] : List Int) (t333.length : Int) 0 t333 t336 t344) = some true := by first | (with_reducible rfl) | (rw [if_pos rfl] at H; exact H)
        clear H
        have H := H1
        clear H1
        have H' := xm H
        clear H
        have hnb45 := NB342_343.out
        have hnc45 := NB343_342.out
        have hnb46 := NB342_348.out
        have hnc46 := NB348_342.out
        have hnb47 := NB342_353.out
        have hnc47 := NB353_342.out
        obtain ⟨hcz48_0, hfz48_0⟩ := cz1 BK342.out
        go_wp2
        repeat (go_quiet (fail); try go_wp2)
        go_loopg [12, 63] kj6 (fun kq v12 v63 w' => ∃ (x12_2 : List Int) (x63_2 : Int), v63 = .int .i64 x63_2 ∧ Aside0 (laws_FnRowJoins.l0 kq l1 t339 x12_2 (t333.length : Int) x63_2 t333 t336 t344 = some true) ∧ Aside0 (kq ≤ kj6) ∧ Aside0 (Kd.S (Kd.slice 3 (Kd.int .i64)) 23 w' w.heap.size (fun k_ => some k_ ≠ (v12 : Value).ownBlock ∧ some k_ ≠ ((.slice Ao11 t333.length co11) : Value).ownBlock ∧ some k_ ≠ ((.slice Ao14 t336.length co14) : Value).ownBlock ∧ some k_ ≠ ((.slice Ao19 t344.length co19) : Value).ownBlock ∧ some k_ ≠ ((.slice Ao27 t349.length co27) : Value).ownBlock) (.slice Ao16 t339.length co16) t339) ∧ Aside0 (Kd.R (Kd.int .i64) 3 w' w.heap.size (fun k_ => some k_ ≠ ((.slice Ao11 t333.length co11) : Value).ownBlock ∧ some k_ ≠ ((.slice Ao14 t336.length co14) : Value).ownBlock ∧ some k_ ≠ ((.slice Ao19 t344.length co19) : Value).ownBlock ∧ some k_ ≠ ((.slice Ao27 t349.length co27) : Value).ownBlock) v12 x12_2) ∧ Aside0 (Kd.R (Kd.int .i64) 3 w' w.heap.size (fun k_ => some k_ ≠ (v12 : Value).ownBlock ∧ some k_ ≠ ((.slice Ao14 t336.length co14) : Value).ownBlock ∧ some k_ ≠ ((.slice Ao19 t344.length co19) : Value).ownBlock ∧ some k_ ≠ ((.slice Ao27 t349.length co27) : Value).ownBlock) (.slice Ao11 t333.length co11) t333) ∧ Aside0 (Kd.R (Kd.int .i64) 3 w' w.heap.size (fun k_ => some k_ ≠ (v12 : Value).ownBlock ∧ some k_ ≠ ((.slice Ao11 t333.length co11) : Value).ownBlock ∧ some k_ ≠ ((.slice Ao19 t344.length co19) : Value).ownBlock ∧ some k_ ≠ ((.slice Ao27 t349.length co27) : Value).ownBlock) (.slice Ao14 t336.length co14) t336) ∧ Aside0 (Kd.R (Kd.int .i64) 3 w' w.heap.size (fun k_ => some k_ ≠ (v12 : Value).ownBlock ∧ some k_ ≠ ((.slice Ao11 t333.length co11) : Value).ownBlock ∧ some k_ ≠ ((.slice Ao14 t336.length co14) : Value).ownBlock ∧ some k_ ≠ ((.slice Ao27 t349.length co27) : Value).ownBlock) (.slice Ao19 t344.length co19) t344) ∧ Aside0 (Kd.R (Kd.int .i64) 3 w' w.heap.size (fun k_ => some k_ ≠ (v12 : Value).ownBlock ∧ some k_ ≠ ((.slice Ao11 t333.length co11) : Value).ownBlock ∧ some k_ ≠ ((.slice Ao14 t336.length co14) : Value).ownBlock ∧ some k_ ≠ ((.slice Ao19 t344.length co19) : Value).ownBlock) (.slice Ao27 t349.length co27) t349) ∧ Aside0 (w'.heap[gb342]? = some (.cells #[(.slice Ao11 t333.length co11)] 25 (0, 0))) ∧ Aside0 (w'.heap[gb343]? = some (.cells #[(.slice Ao14 t336.length co14)] 25 (0, 0))) ∧ Aside0 (w'.heap[gb348]? = some (.cells #[(.slice Ao19 t344.length co19)] 25 (0, 0))) ∧ Aside0 (w'.heap[gb353]? = some (.cells #[(.slice Ao27 t349.length co27)] 25 (0, 0))) ∧ Aside0 (Below w.heap.size w w'))
        case atStart => exact ⟨(([] : List Int)), (0), sB, H', ⟨Nat.le_refl _⟩, ⟨by (with_reducible repeat (first | apply Kd.S_alloc | apply Kd.S_drewN | apply Kd.S_drew)); exact Kd.S_mono HO_7.out (fun _ hk => ⟨(by simp [Value.ownBlock]), ⟨hk.1, ⟨hk.2.1, ⟨hk.2.2.1, hk.2.2.2⟩⟩⟩⟩)⟩, ⟨by first | exact Kd.R_nil _ _ _ _ _ | exact Kd.N_nil _ _ _ _ _ | exact Kd.V_nil _ _ _ _ _ | exact Kd.Q_nil _ _ _ _ _ | exact Kd.S_nil _ _ _ _ _⟩, ⟨by (with_reducible repeat (first | apply Kd.R_alloc | apply Kd.R_drewN | apply Kd.R_drew)); exact Kd.R_mono HO_343000.out (fun _ hk => ⟨(by simp [Value.ownBlock]), ⟨hk.1, ⟨hk.2.1, hk.2.2⟩⟩⟩)⟩, ⟨by (with_reducible repeat (first | apply Kd.R_alloc | apply Kd.R_drewN | apply Kd.R_drew)); exact Kd.R_mono HO_344000.out (fun _ hk => ⟨(by simp [Value.ownBlock]), ⟨hk.1, ⟨hk.2.1, hk.2.2⟩⟩⟩)⟩, ⟨by (with_reducible repeat (first | apply Kd.R_alloc | apply Kd.R_drewN | apply Kd.R_drew)); exact Kd.R_mono HO_349000.out (fun _ hk => ⟨(by simp [Value.ownBlock]), ⟨hk.1, ⟨hk.2.1, hk.2.2⟩⟩⟩)⟩, ⟨by (with_reducible repeat (first | apply Kd.R_alloc | apply Kd.R_drewN | apply Kd.R_drew)); exact Kd.R_mono HO_354000.out (fun _ hk => ⟨(by simp [Value.ownBlock]), ⟨hk.1, ⟨hk.2.1, hk.2.2⟩⟩⟩)⟩, ⟨kB BK342⟩, ⟨kB BK343⟩, ⟨kB BK348⟩, ⟨kB BK353⟩, ⟨bG⟩⟩
        case round =>
         clear H'
         try clear c1
         try clear c2
         try clear p2
         try clear c3
         try clear c3b0
         try clear c4
         try clear p6
         try clear c12
         try clear c20
         try clear c21
         try clear c28
         try clear c29
         try clear c30
         try clear c32
         try clear c32b0 c32b1 c32b2
         try clear c34
         try clear c35
         try clear c36
         try clear c38
         try clear c39
         try clear c42
         try clear c44
         try clear c45
         try clear c46
         try clear c47
         try clear hcz13_0
         try clear hcz15_0
         try clear hcz22_0
         try clear hcz23_0
         try clear hcz24_0
         try clear hcz31_0
         try clear hcz37_0
         try clear hcz40_0
         try clear hcz48_0
         try clear hfz13_0
         try clear hfz15_0
         try clear hfz22_0
         try clear hfz23_0
         try clear hfz24_0
         try clear hfz31_0
         try clear hfz37_0
         try clear hfz40_0
         try clear hfz48_0
         try clear p2
         try clear p6
         obtain ⟨x12_2, x63_2, rfl, HA, HK2, HO_7, HO_12, HO_343000, HO_344000, HO_349000, HO_354000, BK342, BK343, BK348, BK353, HB⟩ := hrel
         cases gk with
         | zero => exact absurd HA.out (by simp [laws_FnRowJoins.l0])
         | succ k2 =>
          have H := HA.out
          clear HA
          simp only [laws_FnRowJoins.l0] at H
          by_cases c49 : x63_2 < (t333.length : Int)
          ·rw [if_pos c49] at H
           have c49b0 : decide (x63_2 < (t333.length : Int)) = true := decide_eq_true c49
           clear c49
           (first | rw [c49b0] | (simp only [i64_w, i32_w]; rw [c49b0]) | skip)
           by_cases c50 : x12_2.length < 17592186044416
           ·rw [if_pos c50] at H
            have LMc50 := xm c50
            clear c50
            obtain ⟨y355, hy355⟩ : ∃ y_ : List Int, y_ = (x12_2 ++ [x63_2]) := ⟨_, rfl⟩
            replace H : (laws_FnRowJoins.l0 k2 l1 t339 y355 (t333.length : Int) (wrap64 (x63_2 + 1)) t333 t336 t344) = some true := by first | (rw [hy355]; with_reducible exact H) | (have H2_ := (Option.bind_some _ _).symm.trans H; rw [hy355]; with_reducible exact H2_) | (have H2_ := (Option.bind_some _ _).symm.trans H; with_reducible exact H2_) | with_reducible exact H | (rw [hy355]; exact H) | exact H
            have Ny355 := xm hy355
            clear hy355
            have H' := xm H
            clear H
            go_wp2_with (first | ((with_reducible refine gate_builtin (b := .append) (xs := #[.tmp 66, .tmp 68]) rfl ?_); (try (refine gate_guard (by rfl) ?_; dsimp only)); at_builtin; refine Kd.R_append (Kd.int .i64) (w0 := w) w.heap.size rfl (.tmp 66) (.tmp 68) 23 3 (.int .i64 0) 8 rfl Try.underlying23 info3 rfl (by decide) (by omega) u12 x12_2 x63_2 [.int .i64 x63_2] (fun k_ => some k_ ≠ (.slice Ao11 t333.length co11 : Value).ownBlock ∧ some k_ ≠ (.slice Ao14 t336.length co14 : Value).ownBlock ∧ some k_ ≠ (.slice Ao19 t344.length co19 : Value).ownBlock ∧ some k_ ≠ (.slice Ao27 t349.length co27 : Value).ownBlock) (fun _ => False) rfl rfl ?aP (fun _ hk => hk.elim) ?aF ?aO ?aB ?aS ?aL ?_; (case aP => exact rfl); (case aB => exact bG); (case aF => exact (fun k_ hk => ⟨Kd.fresh' (Kd.R_lt (rB HO_343000)) k_ hk, Kd.fresh' (Kd.R_lt (rB HO_344000)) k_ hk, Kd.fresh' (Kd.R_lt (rB HO_349000)) k_ hk, Kd.fresh' (Kd.R_lt (rB HO_354000)) k_ hk⟩)); (case aO => exact (rB HO_12)); (case aS => exact (xz bG)); (case aL => have := LMc50.out; omega); intro v356 w51 ho hb hg hat; rw [← Ny355.out] at ho; have n0_ := xm (Kd.S_after (ok := (fun k_ => some k_ ≠ (.slice Ao11 t333.length co11 : Value).ownBlock ∧ some k_ ≠ (.slice Ao14 t336.length co14 : Value).ownBlock ∧ some k_ ≠ (.slice Ao19 t344.length co19 : Value).ownBlock ∧ some k_ ≠ (.slice Ao27 t349.length co27 : Value).ownBlock)) (by (with_reducible repeat (first | apply Kd.S_alloc | apply Kd.S_drewN | apply Kd.S_drew)); exact Kd.S_mono HO_7.out (fun _ hk => ⟨⟨hk.2.1, ⟨hk.2.2.1, ⟨hk.2.2.2.1, hk.2.2.2.2⟩⟩⟩, hk.1⟩)) hg hat); have n1_ := xm (Kd.R_after (ok := (fun k_ => some k_ ≠ (.slice Ao14 t336.length co14 : Value).ownBlock ∧ some k_ ≠ (.slice Ao19 t344.length co19 : Value).ownBlock ∧ some k_ ≠ (.slice Ao27 t349.length co27 : Value).ownBlock)) (by (with_reducible repeat (first | apply Kd.R_alloc | apply Kd.R_drewN | apply Kd.R_drew)); exact Kd.R_mono HO_343000.out (fun _ hk => ⟨⟨hk.2.1, ⟨hk.2.2.1, hk.2.2.2⟩⟩, hk.1⟩)) hg hat); have n2_ := xm (Kd.R_after (ok := (fun k_ => some k_ ≠ (.slice Ao11 t333.length co11 : Value).ownBlock ∧ some k_ ≠ (.slice Ao19 t344.length co19 : Value).ownBlock ∧ some k_ ≠ (.slice Ao27 t349.length co27 : Value).ownBlock)) (by (with_reducible repeat (first | apply Kd.R_alloc | apply Kd.R_drewN | apply Kd.R_drew)); exact Kd.R_mono HO_344000.out (fun _ hk => ⟨⟨hk.2.1, ⟨hk.2.2.1, hk.2.2.2⟩⟩, hk.1⟩)) hg hat); have n3_ := xm (Kd.R_after (ok := (fun k_ => some k_ ≠ (.slice Ao11 t333.length co11 : Value).ownBlock ∧ some k_ ≠ (.slice Ao14 t336.length co14 : Value).ownBlock ∧ some k_ ≠ (.slice Ao27 t349.length co27 : Value).ownBlock)) (by (with_reducible repeat (first | apply Kd.R_alloc | apply Kd.R_drewN | apply Kd.R_drew)); exact Kd.R_mono HO_349000.out (fun _ hk => ⟨⟨hk.2.1, ⟨hk.2.2.1, hk.2.2.2⟩⟩, hk.1⟩)) hg hat); have n4_ := xm (Kd.R_after (ok := (fun k_ => some k_ ≠ (.slice Ao11 t333.length co11 : Value).ownBlock ∧ some k_ ≠ (.slice Ao14 t336.length co14 : Value).ownBlock ∧ some k_ ≠ (.slice Ao19 t344.length co19 : Value).ownBlock)) (by (with_reducible repeat (first | apply Kd.R_alloc | apply Kd.R_drewN | apply Kd.R_drew)); exact Kd.R_mono HO_354000.out (fun _ hk => ⟨⟨hk.2.1, ⟨hk.2.2.1, hk.2.2.2⟩⟩, hk.1⟩)) hg hat); have n5_ := xm (blk_grown (kB BK342) hg (Kd.R_ne HO_12.out BK342.out (by decide))); have n6_ := xm (blk_grown (kB BK343) hg (Kd.R_ne HO_12.out BK343.out (by decide))); have n7_ := xm (blk_grown (kB BK348) hg (Kd.R_ne HO_12.out BK348.out (by decide))); have n8_ := xm (blk_grown (kB BK353) hg (Kd.R_ne HO_12.out BK353.out (by decide))); have n9_ := xm (hb); have n10_ := xm (ho); revert n0_ n1_ n2_ n3_ n4_ n5_ n6_ n7_ n8_ n9_ n10_; clear HO_7 HO_343000 HO_344000 HO_349000 HO_354000 BK342 BK343 BK348 BK353 HB HO_12; intro HO_7 HO_343000 HO_344000 HO_349000 HO_354000 BK342 BK343 BK348 BK353 HB HO357; clear ho hb hg hat))
            repeat (go_quiet (first | ((with_reducible refine gate_builtin (b := .append) (xs := #[.tmp 66, .tmp 68]) rfl ?_); (try (refine gate_guard (by rfl) ?_; dsimp only)); at_builtin; refine Kd.R_append (Kd.int .i64) (w0 := w) w.heap.size rfl (.tmp 66) (.tmp 68) 23 3 (.int .i64 0) 8 rfl Try.underlying23 info3 rfl (by decide) (by omega) u12 x12_2 x63_2 [.int .i64 x63_2] (fun k_ => some k_ ≠ (.slice Ao11 t333.length co11 : Value).ownBlock ∧ some k_ ≠ (.slice Ao14 t336.length co14 : Value).ownBlock ∧ some k_ ≠ (.slice Ao19 t344.length co19 : Value).ownBlock ∧ some k_ ≠ (.slice Ao27 t349.length co27 : Value).ownBlock) (fun _ => False) rfl rfl ?aP (fun _ hk => hk.elim) ?aF ?aO ?aB ?aS ?aL ?_; (case aP => exact rfl); (case aB => exact bG); (case aF => exact (fun k_ hk => ⟨Kd.fresh' (Kd.R_lt (rB HO_343000)) k_ hk, Kd.fresh' (Kd.R_lt (rB HO_344000)) k_ hk, Kd.fresh' (Kd.R_lt (rB HO_349000)) k_ hk, Kd.fresh' (Kd.R_lt (rB HO_354000)) k_ hk⟩)); (case aO => exact (rB HO_12)); (case aS => exact (xz bG)); (case aL => have := LMc50.out; omega); intro v356 w51 ho hb hg hat; rw [← Ny355.out] at ho; have n0_ := xm (Kd.S_after (ok := (fun k_ => some k_ ≠ (.slice Ao11 t333.length co11 : Value).ownBlock ∧ some k_ ≠ (.slice Ao14 t336.length co14 : Value).ownBlock ∧ some k_ ≠ (.slice Ao19 t344.length co19 : Value).ownBlock ∧ some k_ ≠ (.slice Ao27 t349.length co27 : Value).ownBlock)) (by (with_reducible repeat (first | apply Kd.S_alloc | apply Kd.S_drewN | apply Kd.S_drew)); exact Kd.S_mono HO_7.out (fun _ hk => ⟨⟨hk.2.1, ⟨hk.2.2.1, ⟨hk.2.2.2.1, hk.2.2.2.2⟩⟩⟩, hk.1⟩)) hg hat); have n1_ := xm (Kd.R_after (ok := (fun k_ => some k_ ≠ (.slice Ao14 t336.length co14 : Value).ownBlock ∧ some k_ ≠ (.slice Ao19 t344.length co19 : Value).ownBlock ∧ some k_ ≠ (.slice Ao27 t349.length co27 : Value).ownBlock)) (by (with_reducible repeat (first | apply Kd.R_alloc | apply Kd.R_drewN | apply Kd.R_drew)); exact Kd.R_mono HO_343000.out (fun _ hk => ⟨⟨hk.2.1, ⟨hk.2.2.1, hk.2.2.2⟩⟩, hk.1⟩)) hg hat); have n2_ := xm (Kd.R_after (ok := (fun k_ => some k_ ≠ (.slice Ao11 t333.length co11 : Value).ownBlock ∧ some k_ ≠ (.slice Ao19 t344.length co19 : Value).ownBlock ∧ some k_ ≠ (.slice Ao27 t349.length co27 : Value).ownBlock)) (by (with_reducible repeat (first | apply Kd.R_alloc | apply Kd.R_drewN | apply Kd.R_drew)); exact Kd.R_mono HO_344000.out (fun _ hk => ⟨⟨hk.2.1, ⟨hk.2.2.1, hk.2.2.2⟩⟩, hk.1⟩)) hg hat); have n3_ := xm (Kd.R_after (ok := (fun k_ => some k_ ≠ (.slice Ao11 t333.length co11 : Value).ownBlock ∧ some k_ ≠ (.slice Ao14 t336.length co14 : Value).ownBlock ∧ some k_ ≠ (.slice Ao27 t349.length co27 : Value).ownBlock)) (by (with_reducible repeat (first | apply Kd.R_alloc | apply Kd.R_drewN | apply Kd.R_drew)); exact Kd.R_mono HO_349000.out (fun _ hk => ⟨⟨hk.2.1, ⟨hk.2.2.1, hk.2.2.2⟩⟩, hk.1⟩)) hg hat); have n4_ := xm (Kd.R_after (ok := (fun k_ => some k_ ≠ (.slice Ao11 t333.length co11 : Value).ownBlock ∧ some k_ ≠ (.slice Ao14 t336.length co14 : Value).ownBlock ∧ some k_ ≠ (.slice Ao19 t344.length co19 : Value).ownBlock)) (by (with_reducible repeat (first | apply Kd.R_alloc | apply Kd.R_drewN | apply Kd.R_drew)); exact Kd.R_mono HO_354000.out (fun _ hk => ⟨⟨hk.2.1, ⟨hk.2.2.1, hk.2.2.2⟩⟩, hk.1⟩)) hg hat); have n5_ := xm (blk_grown (kB BK342) hg (Kd.R_ne HO_12.out BK342.out (by decide))); have n6_ := xm (blk_grown (kB BK343) hg (Kd.R_ne HO_12.out BK343.out (by decide))); have n7_ := xm (blk_grown (kB BK348) hg (Kd.R_ne HO_12.out BK348.out (by decide))); have n8_ := xm (blk_grown (kB BK353) hg (Kd.R_ne HO_12.out BK353.out (by decide))); have n9_ := xm (hb); have n10_ := xm (ho); revert n0_ n1_ n2_ n3_ n4_ n5_ n6_ n7_ n8_ n9_ n10_; clear HO_7 HO_343000 HO_344000 HO_349000 HO_354000 BK342 BK343 BK348 BK353 HB HO_12; intro HO_7 HO_343000 HO_344000 HO_349000 HO_354000 BK342 BK343 BK348 BK353 HB HO357; clear ho hb hg hat)); try go_wp2_with (first | ((with_reducible refine gate_builtin (b := .append) (xs := #[.tmp 66, .tmp 68]) rfl ?_); (try (refine gate_guard (by rfl) ?_; dsimp only)); at_builtin; refine Kd.R_append (Kd.int .i64) (w0 := w) w.heap.size rfl (.tmp 66) (.tmp 68) 23 3 (.int .i64 0) 8 rfl Try.underlying23 info3 rfl (by decide) (by omega) u12 x12_2 x63_2 [.int .i64 x63_2] (fun k_ => some k_ ≠ (.slice Ao11 t333.length co11 : Value).ownBlock ∧ some k_ ≠ (.slice Ao14 t336.length co14 : Value).ownBlock ∧ some k_ ≠ (.slice Ao19 t344.length co19 : Value).ownBlock ∧ some k_ ≠ (.slice Ao27 t349.length co27 : Value).ownBlock) (fun _ => False) rfl rfl ?aP (fun _ hk => hk.elim) ?aF ?aO ?aB ?aS ?aL ?_; (case aP => exact rfl); (case aB => exact bG); (case aF => exact (fun k_ hk => ⟨Kd.fresh' (Kd.R_lt (rB HO_343000)) k_ hk, Kd.fresh' (Kd.R_lt (rB HO_344000)) k_ hk, Kd.fresh' (Kd.R_lt (rB HO_349000)) k_ hk, Kd.fresh' (Kd.R_lt (rB HO_354000)) k_ hk⟩)); (case aO => exact (rB HO_12)); (case aS => exact (xz bG)); (case aL => have := LMc50.out; omega); intro v356 w51 ho hb hg hat; rw [← Ny355.out] at ho; have n0_ := xm (Kd.S_after (ok := (fun k_ => some k_ ≠ (.slice Ao11 t333.length co11 : Value).ownBlock ∧ some k_ ≠ (.slice Ao14 t336.length co14 : Value).ownBlock ∧ some k_ ≠ (.slice Ao19 t344.length co19 : Value).ownBlock ∧ some k_ ≠ (.slice Ao27 t349.length co27 : Value).ownBlock)) (by (with_reducible repeat (first | apply Kd.S_alloc | apply Kd.S_drewN | apply Kd.S_drew)); exact Kd.S_mono HO_7.out (fun _ hk => ⟨⟨hk.2.1, ⟨hk.2.2.1, ⟨hk.2.2.2.1, hk.2.2.2.2⟩⟩⟩, hk.1⟩)) hg hat); have n1_ := xm (Kd.R_after (ok := (fun k_ => some k_ ≠ (.slice Ao14 t336.length co14 : Value).ownBlock ∧ some k_ ≠ (.slice Ao19 t344.length co19 : Value).ownBlock ∧ some k_ ≠ (.slice Ao27 t349.length co27 : Value).ownBlock)) (by (with_reducible repeat (first | apply Kd.R_alloc | apply Kd.R_drewN | apply Kd.R_drew)); exact Kd.R_mono HO_343000.out (fun _ hk => ⟨⟨hk.2.1, ⟨hk.2.2.1, hk.2.2.2⟩⟩, hk.1⟩)) hg hat); have n2_ := xm (Kd.R_after (ok := (fun k_ => some k_ ≠ (.slice Ao11 t333.length co11 : Value).ownBlock ∧ some k_ ≠ (.slice Ao19 t344.length co19 : Value).ownBlock ∧ some k_ ≠ (.slice Ao27 t349.length co27 : Value).ownBlock)) (by (with_reducible repeat (first | apply Kd.R_alloc | apply Kd.R_drewN | apply Kd.R_drew)); exact Kd.R_mono HO_344000.out (fun _ hk => ⟨⟨hk.2.1, ⟨hk.2.2.1, hk.2.2.2⟩⟩, hk.1⟩)) hg hat); have n3_ := xm (Kd.R_after (ok := (fun k_ => some k_ ≠ (.slice Ao11 t333.length co11 : Value).ownBlock ∧ some k_ ≠ (.slice Ao14 t336.length co14 : Value).ownBlock ∧ some k_ ≠ (.slice Ao27 t349.length co27 : Value).ownBlock)) (by (with_reducible repeat (first | apply Kd.R_alloc | apply Kd.R_drewN | apply Kd.R_drew)); exact Kd.R_mono HO_349000.out (fun _ hk => ⟨⟨hk.2.1, ⟨hk.2.2.1, hk.2.2.2⟩⟩, hk.1⟩)) hg hat); have n4_ := xm (Kd.R_after (ok := (fun k_ => some k_ ≠ (.slice Ao11 t333.length co11 : Value).ownBlock ∧ some k_ ≠ (.slice Ao14 t336.length co14 : Value).ownBlock ∧ some k_ ≠ (.slice Ao19 t344.length co19 : Value).ownBlock)) (by (with_reducible repeat (first | apply Kd.R_alloc | apply Kd.R_drewN | apply Kd.R_drew)); exact Kd.R_mono HO_354000.out (fun _ hk => ⟨⟨hk.2.1, ⟨hk.2.2.1, hk.2.2.2⟩⟩, hk.1⟩)) hg hat); have n5_ := xm (blk_grown (kB BK342) hg (Kd.R_ne HO_12.out BK342.out (by decide))); have n6_ := xm (blk_grown (kB BK343) hg (Kd.R_ne HO_12.out BK343.out (by decide))); have n7_ := xm (blk_grown (kB BK348) hg (Kd.R_ne HO_12.out BK348.out (by decide))); have n8_ := xm (blk_grown (kB BK353) hg (Kd.R_ne HO_12.out BK353.out (by decide))); have n9_ := xm (hb); have n10_ := xm (ho); revert n0_ n1_ n2_ n3_ n4_ n5_ n6_ n7_ n8_ n9_ n10_; clear HO_7 HO_343000 HO_344000 HO_349000 HO_354000 BK342 BK343 BK348 BK353 HB HO_12; intro HO_7 HO_343000 HO_344000 HO_349000 HO_354000 BK342 BK343 BK348 BK353 HB HO357; clear ho hb hg hat)))
            go_roundg k2
            case measure => have := HJ6.out; have := HK2.out; omega
            case rel => exact ⟨(y355), (wrap64 (x63_2 + 1)), sB, H', ⟨by have := HJ6.out; have := HK2.out; omega⟩, ⟨by (with_reducible repeat (first | apply Kd.S_alloc | apply Kd.S_drewN | apply Kd.S_drew)); exact Kd.S_mono HO_7.out (fun _ hk => ⟨hk.2, ⟨hk.1.1, ⟨hk.1.2.1, ⟨hk.1.2.2.1, hk.1.2.2.2⟩⟩⟩⟩)⟩, ⟨rB HO357⟩, ⟨by (with_reducible repeat (first | apply Kd.R_alloc | apply Kd.R_drewN | apply Kd.R_drew)); exact Kd.R_mono HO_343000.out (fun _ hk => ⟨hk.2, ⟨hk.1.1, ⟨hk.1.2.1, hk.1.2.2⟩⟩⟩)⟩, ⟨by (with_reducible repeat (first | apply Kd.R_alloc | apply Kd.R_drewN | apply Kd.R_drew)); exact Kd.R_mono HO_344000.out (fun _ hk => ⟨hk.2, ⟨hk.1.1, ⟨hk.1.2.1, hk.1.2.2⟩⟩⟩)⟩, ⟨by (with_reducible repeat (first | apply Kd.R_alloc | apply Kd.R_drewN | apply Kd.R_drew)); exact Kd.R_mono HO_349000.out (fun _ hk => ⟨hk.2, ⟨hk.1.1, ⟨hk.1.2.1, hk.1.2.2⟩⟩⟩)⟩, ⟨by (with_reducible repeat (first | apply Kd.R_alloc | apply Kd.R_drewN | apply Kd.R_drew)); exact Kd.R_mono HO_354000.out (fun _ hk => ⟨hk.2, ⟨hk.1.1, ⟨hk.1.2.1, hk.1.2.2⟩⟩⟩)⟩, ⟨kB BK342⟩, ⟨kB BK343⟩, ⟨kB BK348⟩, ⟨kB BK353⟩, ⟨bG⟩⟩
           ·rw [if_neg c50] at H
            exact absurd H (by simp)
          ·rw [if_neg c49] at H
           have c49b0 : decide (x63_2 < (t333.length : Int)) = false := decide_eq_false c49
           clear c49
           (first | rw [c49b0] | (simp only [i64_w, i32_w]; rw [c49b0]) | skip)
           replace H := Option.bind_eq_some_iff.mp H
           obtain ⟨⟨t358, t361⟩, A520, H⟩ := H
           replace H : (if t361 = true then ((laws_sameRow.f k2 t358 t333).bind fun t363 => (if t363 = true then ((impl_GoodRow.f t344).bind fun t364 => (if t364 = true then (laws_FnRowJoins.j2 k2 l1 t339 (decide ((t344.length : Int) > (wrap64 ((t333.length : Int) + (t336.length : Int))))) t333 t336) else (laws_FnRowJoins.j2 k2 l1 t339 true t333 t336))) else (laws_FnRowJoins.j2 k2 l1 t339 true t333 t336))) else (laws_FnRowJoins.j2 k2 l1 t339 true t333 t336)) = some true := H
           have A52 := xm A520
           clear A520
           have HC53 := xm H
           clear H
           have hnb54 := NB348_342.out
           have hnc54 := NB342_348.out
           have hnb55 := NB348_343.out
           have hnc55 := NB343_348.out
           have hnb56 := NB348_353.out
           have hnc56 := NB353_348.out
           obtain ⟨hcz57_0, hfz57_0⟩ := cz1 BK348.out
           obtain ⟨Ao58, co58, eo58⟩ := Kd.R_slice HO_12.out
           subst eo58
           go_upto_region 16 with (first | (go_at_call 8; (with_reducible refine (impl_PickCells.calls k2 _ _ t344 _ _ x12_2 t358 t361 _ ?side1 ?side2 ?side3 ?side4 A52.out).mono ?_); (case side1 => repeat (first | exact (Kd.R_reads' HO_349000.out).2.2 | (with_reducible refine Kd.C_alloc ?_ _) | (with_reducible refine Kd.C_drewN ?_ _) | (with_reducible refine Kd.C_drew ?_))); (case side2 => exact (Kd.R_reads' HO_349000.out).2.1); (case side3 => repeat (first | exact (Kd.R_reads' HO_12.out).2.2 | (with_reducible refine Kd.C_alloc ?_ _) | (with_reducible refine Kd.C_drewN ?_ _) | (with_reducible refine Kd.C_drew ?_))); (case side4 => exact (Kd.R_reads' HO_12.out).2.1); rintro e w59 ⟨v359, rfl, ho0, hb⟩; have n0_ := xm (Kd.S_elder' (tB HO_7) (Kd.R_base ho0) hb); have n1_ := xm (Kd.R_elder' (rB HO_12) (Kd.R_base ho0) hb); have n2_ := xm (Kd.R_elder' (rB HO_343000) (Kd.R_base ho0) hb); have n3_ := xm (Kd.R_elder' (rB HO_344000) (Kd.R_base ho0) hb); have n4_ := xm (Kd.R_elder' (rB HO_349000) (Kd.R_base ho0) hb); have n5_ := xm (Kd.R_elder' (rB HO_354000) (Kd.R_base ho0) hb); have n6_ := xm (Kd.R_lower (Kd.R_new' (Kd.R_new' (Kd.R_new' (Kd.R_new' (Kd.R_new' ho0 (Kd.R_lt (rB HO_12))) (Kd.R_lt (rB HO_343000))) (Kd.R_lt (rB HO_344000))) (Kd.R_lt (rB HO_349000))) (Kd.R_lt (rB HO_354000))) (xz bG)); have n7_ := xm (blk_below (kB BK342) hb); have n8_ := xm (blk_below (kB BK343) hb); have n9_ := xm (blk_below (kB BK348) hb); have n10_ := xm (blk_below (kB BK353) hb); have n11_ := xm (below_step bG hb); revert n0_ n1_ n2_ n3_ n4_ n5_ n6_ n7_ n8_ n9_ n10_ n11_; clear HO_7 HO_12 HO_343000 HO_344000 HO_349000 HO_354000 BK342 BK343 BK348 BK353 HB; intro HO_7 HO_12 HO_343000 HO_344000 HO_349000 HO_354000 HO360 BK342 BK343 BK348 BK353 HB; (try clear hb); (try clear ho0)) | ((with_reducible refine gate_dst (N := 14) rfl ?_); (try (refine gate_guard (by rfl) ?_; dsimp only)); refine box_event ?hg (N := 14) ?hd (cs := #[.slice none 0 0]) (t := 25) ?hr ?_; (case hd => rfl); (case hg => rfl); (case hr => exact zB); intro gb362 hg w60 hbox hb; have n0_ := xm (Kd.S_below (tB HO_7) hb); have n1_ := xm (Kd.R_below (rB HO_12) hb); have n2_ := xm (Kd.R_below (rB HO_343000) hb); have n3_ := xm (Kd.R_below (rB HO_344000) hb); have n4_ := xm (Kd.R_below (rB HO_349000) hb); have n5_ := xm (Kd.R_below (rB HO_354000) hb); have n6_ := xm (Kd.R_below (rB HO360) hb); have n7_ := xm (blk_below (kB BK342) hb); have n8_ := xm (blk_below (kB BK343) hb); have n9_ := xm (blk_below (kB BK348) hb); have n10_ := xm (blk_below (kB BK353) hb); have n11_ := xm (below_step bG hb); have n12_ := xm (hbox); have n13_ := xm ((by rw [hg]; exact (xz bG) : w.heap.size ≤ gb362)); have n14_ := xm ((by rw [hg]; exact (xz bG) : w.heap.size ≤ gb362)); have n15_ := xm ((by rw [hg]; exact Nat.ne_of_lt (blk_lt (kB BK342)) : gb342 ≠ gb362)); have n16_ := xm ((by rw [hg]; exact Nat.ne_of_gt (blk_lt (kB BK342)) : gb362 ≠ gb342)); have n17_ := xm ((by rw [hg]; exact Nat.ne_of_lt (blk_lt (kB BK343)) : gb343 ≠ gb362)); have n18_ := xm ((by rw [hg]; exact Nat.ne_of_gt (blk_lt (kB BK343)) : gb362 ≠ gb343)); have n19_ := xm ((by rw [hg]; exact Nat.ne_of_lt (blk_lt (kB BK348)) : gb348 ≠ gb362)); have n20_ := xm ((by rw [hg]; exact Nat.ne_of_gt (blk_lt (kB BK348)) : gb362 ≠ gb348)); have n21_ := xm ((by rw [hg]; exact Nat.ne_of_lt (blk_lt (kB BK353)) : gb353 ≠ gb362)); have n22_ := xm ((by rw [hg]; exact Nat.ne_of_gt (blk_lt (kB BK353)) : gb362 ≠ gb353)); revert n0_ n1_ n2_ n3_ n4_ n5_ n6_ n7_ n8_ n9_ n10_ n11_ n12_ n13_ n14_ n15_ n16_ n17_ n18_ n19_ n20_ n21_ n22_; clear HO_7 HO_12 HO_343000 HO_344000 HO_349000 HO_354000 HO360 BK342 BK343 BK348 BK353 HB; intro HO_7 HO_12 HO_343000 HO_344000 HO_349000 HO_354000 HO360 BK342 BK343 BK348 BK353 HB BK362 GW362 GE362 NB342_362 NB362_342 NB343_362 NB362_343 NB348_362 NB362_348 NB353_362 NB362_353; clear hb hbox hg; obtain ⟨Ao61, co61, eo61⟩ := Kd.R_slice HO360.out; subst eo61; have hnb62 := NB362_342.out; have hnc62 := NB342_362.out; have hnb63 := NB362_343.out; have hnc63 := NB343_362.out; have hnb64 := NB362_348.out; have hnc64 := NB348_362.out; have hnb65 := NB362_353.out; have hnc65 := NB353_362.out; obtain ⟨hcz66_0, hfz66_0⟩ := cz1 BK362.out))
           repeat (go_quiet (first | (go_at_call 8; (with_reducible refine (impl_PickCells.calls k2 _ _ t344 _ _ x12_2 t358 t361 _ ?side1 ?side2 ?side3 ?side4 A52.out).mono ?_); (case side1 => repeat (first | exact (Kd.R_reads' HO_349000.out).2.2 | (with_reducible refine Kd.C_alloc ?_ _) | (with_reducible refine Kd.C_drewN ?_ _) | (with_reducible refine Kd.C_drew ?_))); (case side2 => exact (Kd.R_reads' HO_349000.out).2.1); (case side3 => repeat (first | exact (Kd.R_reads' HO_12.out).2.2 | (with_reducible refine Kd.C_alloc ?_ _) | (with_reducible refine Kd.C_drewN ?_ _) | (with_reducible refine Kd.C_drew ?_))); (case side4 => exact (Kd.R_reads' HO_12.out).2.1); rintro e w59 ⟨v359, rfl, ho0, hb⟩; have n0_ := xm (Kd.S_elder' (tB HO_7) (Kd.R_base ho0) hb); have n1_ := xm (Kd.R_elder' (rB HO_12) (Kd.R_base ho0) hb); have n2_ := xm (Kd.R_elder' (rB HO_343000) (Kd.R_base ho0) hb); have n3_ := xm (Kd.R_elder' (rB HO_344000) (Kd.R_base ho0) hb); have n4_ := xm (Kd.R_elder' (rB HO_349000) (Kd.R_base ho0) hb); have n5_ := xm (Kd.R_elder' (rB HO_354000) (Kd.R_base ho0) hb); have n6_ := xm (Kd.R_lower (Kd.R_new' (Kd.R_new' (Kd.R_new' (Kd.R_new' (Kd.R_new' ho0 (Kd.R_lt (rB HO_12))) (Kd.R_lt (rB HO_343000))) (Kd.R_lt (rB HO_344000))) (Kd.R_lt (rB HO_349000))) (Kd.R_lt (rB HO_354000))) (xz bG)); have n7_ := xm (blk_below (kB BK342) hb); have n8_ := xm (blk_below (kB BK343) hb); have n9_ := xm (blk_below (kB BK348) hb); have n10_ := xm (blk_below (kB BK353) hb); have n11_ := xm (below_step bG hb); revert n0_ n1_ n2_ n3_ n4_ n5_ n6_ n7_ n8_ n9_ n10_ n11_; clear HO_7 HO_12 HO_343000 HO_344000 HO_349000 HO_354000 BK342 BK343 BK348 BK353 HB; intro HO_7 HO_12 HO_343000 HO_344000 HO_349000 HO_354000 HO360 BK342 BK343 BK348 BK353 HB; (try clear hb); (try clear ho0)) | ((with_reducible refine gate_dst (N := 14) rfl ?_); (try (refine gate_guard (by rfl) ?_; dsimp only)); refine box_event ?hg (N := 14) ?hd (cs := #[.slice none 0 0]) (t := 25) ?hr ?_; (case hd => rfl); (case hg => rfl); (case hr => exact zB); intro gb362 hg w60 hbox hb; have n0_ := xm (Kd.S_below (tB HO_7) hb); have n1_ := xm (Kd.R_below (rB HO_12) hb); have n2_ := xm (Kd.R_below (rB HO_343000) hb); have n3_ := xm (Kd.R_below (rB HO_344000) hb); have n4_ := xm (Kd.R_below (rB HO_349000) hb); have n5_ := xm (Kd.R_below (rB HO_354000) hb); have n6_ := xm (Kd.R_below (rB HO360) hb); have n7_ := xm (blk_below (kB BK342) hb); have n8_ := xm (blk_below (kB BK343) hb); have n9_ := xm (blk_below (kB BK348) hb); have n10_ := xm (blk_below (kB BK353) hb); have n11_ := xm (below_step bG hb); have n12_ := xm (hbox); have n13_ := xm ((by rw [hg]; exact (xz bG) : w.heap.size ≤ gb362)); have n14_ := xm ((by rw [hg]; exact (xz bG) : w.heap.size ≤ gb362)); have n15_ := xm ((by rw [hg]; exact Nat.ne_of_lt (blk_lt (kB BK342)) : gb342 ≠ gb362)); have n16_ := xm ((by rw [hg]; exact Nat.ne_of_gt (blk_lt (kB BK342)) : gb362 ≠ gb342)); have n17_ := xm ((by rw [hg]; exact Nat.ne_of_lt (blk_lt (kB BK343)) : gb343 ≠ gb362)); have n18_ := xm ((by rw [hg]; exact Nat.ne_of_gt (blk_lt (kB BK343)) : gb362 ≠ gb343)); have n19_ := xm ((by rw [hg]; exact Nat.ne_of_lt (blk_lt (kB BK348)) : gb348 ≠ gb362)); have n20_ := xm ((by rw [hg]; exact Nat.ne_of_gt (blk_lt (kB BK348)) : gb362 ≠ gb348)); have n21_ := xm ((by rw [hg]; exact Nat.ne_of_lt (blk_lt (kB BK353)) : gb353 ≠ gb362)); have n22_ := xm ((by rw [hg]; exact Nat.ne_of_gt (blk_lt (kB BK353)) : gb362 ≠ gb353)); revert n0_ n1_ n2_ n3_ n4_ n5_ n6_ n7_ n8_ n9_ n10_ n11_ n12_ n13_ n14_ n15_ n16_ n17_ n18_ n19_ n20_ n21_ n22_; clear HO_7 HO_12 HO_343000 HO_344000 HO_349000 HO_354000 HO360 BK342 BK343 BK348 BK353 HB; intro HO_7 HO_12 HO_343000 HO_344000 HO_349000 HO_354000 HO360 BK342 BK343 BK348 BK353 HB BK362 GW362 GE362 NB342_362 NB362_342 NB343_362 NB362_343 NB348_362 NB362_348 NB353_362 NB362_353; clear hb hbox hg; obtain ⟨Ao61, co61, eo61⟩ := Kd.R_slice HO360.out; subst eo61; have hnb62 := NB362_342.out; have hnc62 := NB342_362.out; have hnb63 := NB362_343.out; have hnc63 := NB343_362.out; have hnb64 := NB362_348.out; have hnc64 := NB348_362.out; have hnb65 := NB362_353.out; have hnc65 := NB353_362.out; obtain ⟨hcz66_0, hfz66_0⟩ := cz1 BK362.out)); go_upto_region 16 with (first | (go_at_call 8; (with_reducible refine (impl_PickCells.calls k2 _ _ t344 _ _ x12_2 t358 t361 _ ?side1 ?side2 ?side3 ?side4 A52.out).mono ?_); (case side1 => repeat (first | exact (Kd.R_reads' HO_349000.out).2.2 | (with_reducible refine Kd.C_alloc ?_ _) | (with_reducible refine Kd.C_drewN ?_ _) | (with_reducible refine Kd.C_drew ?_))); (case side2 => exact (Kd.R_reads' HO_349000.out).2.1); (case side3 => repeat (first | exact (Kd.R_reads' HO_12.out).2.2 | (with_reducible refine Kd.C_alloc ?_ _) | (with_reducible refine Kd.C_drewN ?_ _) | (with_reducible refine Kd.C_drew ?_))); (case side4 => exact (Kd.R_reads' HO_12.out).2.1); rintro e w59 ⟨v359, rfl, ho0, hb⟩; have n0_ := xm (Kd.S_elder' (tB HO_7) (Kd.R_base ho0) hb); have n1_ := xm (Kd.R_elder' (rB HO_12) (Kd.R_base ho0) hb); have n2_ := xm (Kd.R_elder' (rB HO_343000) (Kd.R_base ho0) hb); have n3_ := xm (Kd.R_elder' (rB HO_344000) (Kd.R_base ho0) hb); have n4_ := xm (Kd.R_elder' (rB HO_349000) (Kd.R_base ho0) hb); have n5_ := xm (Kd.R_elder' (rB HO_354000) (Kd.R_base ho0) hb); have n6_ := xm (Kd.R_lower (Kd.R_new' (Kd.R_new' (Kd.R_new' (Kd.R_new' (Kd.R_new' ho0 (Kd.R_lt (rB HO_12))) (Kd.R_lt (rB HO_343000))) (Kd.R_lt (rB HO_344000))) (Kd.R_lt (rB HO_349000))) (Kd.R_lt (rB HO_354000))) (xz bG)); have n7_ := xm (blk_below (kB BK342) hb); have n8_ := xm (blk_below (kB BK343) hb); have n9_ := xm (blk_below (kB BK348) hb); have n10_ := xm (blk_below (kB BK353) hb); have n11_ := xm (below_step bG hb); revert n0_ n1_ n2_ n3_ n4_ n5_ n6_ n7_ n8_ n9_ n10_ n11_; clear HO_7 HO_12 HO_343000 HO_344000 HO_349000 HO_354000 BK342 BK343 BK348 BK353 HB; intro HO_7 HO_12 HO_343000 HO_344000 HO_349000 HO_354000 HO360 BK342 BK343 BK348 BK353 HB; (try clear hb); (try clear ho0)) | ((with_reducible refine gate_dst (N := 14) rfl ?_); (try (refine gate_guard (by rfl) ?_; dsimp only)); refine box_event ?hg (N := 14) ?hd (cs := #[.slice none 0 0]) (t := 25) ?hr ?_; (case hd => rfl); (case hg => rfl); (case hr => exact zB); intro gb362 hg w60 hbox hb; have n0_ := xm (Kd.S_below (tB HO_7) hb); have n1_ := xm (Kd.R_below (rB HO_12) hb); have n2_ := xm (Kd.R_below (rB HO_343000) hb); have n3_ := xm (Kd.R_below (rB HO_344000) hb); have n4_ := xm (Kd.R_below (rB HO_349000) hb); have n5_ := xm (Kd.R_below (rB HO_354000) hb); have n6_ := xm (Kd.R_below (rB HO360) hb); have n7_ := xm (blk_below (kB BK342) hb); have n8_ := xm (blk_below (kB BK343) hb); have n9_ := xm (blk_below (kB BK348) hb); have n10_ := xm (blk_below (kB BK353) hb); have n11_ := xm (below_step bG hb); have n12_ := xm (hbox); have n13_ := xm ((by rw [hg]; exact (xz bG) : w.heap.size ≤ gb362)); have n14_ := xm ((by rw [hg]; exact (xz bG) : w.heap.size ≤ gb362)); have n15_ := xm ((by rw [hg]; exact Nat.ne_of_lt (blk_lt (kB BK342)) : gb342 ≠ gb362)); have n16_ := xm ((by rw [hg]; exact Nat.ne_of_gt (blk_lt (kB BK342)) : gb362 ≠ gb342)); have n17_ := xm ((by rw [hg]; exact Nat.ne_of_lt (blk_lt (kB BK343)) : gb343 ≠ gb362)); have n18_ := xm ((by rw [hg]; exact Nat.ne_of_gt (blk_lt (kB BK343)) : gb362 ≠ gb343)); have n19_ := xm ((by rw [hg]; exact Nat.ne_of_lt (blk_lt (kB BK348)) : gb348 ≠ gb362)); have n20_ := xm ((by rw [hg]; exact Nat.ne_of_gt (blk_lt (kB BK348)) : gb362 ≠ gb348)); have n21_ := xm ((by rw [hg]; exact Nat.ne_of_lt (blk_lt (kB BK353)) : gb353 ≠ gb362)); have n22_ := xm ((by rw [hg]; exact Nat.ne_of_gt (blk_lt (kB BK353)) : gb362 ≠ gb353)); revert n0_ n1_ n2_ n3_ n4_ n5_ n6_ n7_ n8_ n9_ n10_ n11_ n12_ n13_ n14_ n15_ n16_ n17_ n18_ n19_ n20_ n21_ n22_; clear HO_7 HO_12 HO_343000 HO_344000 HO_349000 HO_354000 HO360 BK342 BK343 BK348 BK353 HB; intro HO_7 HO_12 HO_343000 HO_344000 HO_349000 HO_354000 HO360 BK342 BK343 BK348 BK353 HB BK362 GW362 GE362 NB342_362 NB362_342 NB343_362 NB362_343 NB348_362 NB362_348 NB353_362 NB362_353; clear hb hbox hg; obtain ⟨Ao61, co61, eo61⟩ := Kd.R_slice HO360.out; subst eo61; have hnb62 := NB362_342.out; have hnc62 := NB342_362.out; have hnb63 := NB362_343.out; have hnc63 := NB343_362.out; have hnb64 := NB362_348.out; have hnc64 := NB348_362.out; have hnb65 := NB362_353.out; have hnc65 := NB353_362.out; obtain ⟨hcz66_0, hfz66_0⟩ := cz1 BK362.out)))
           (try simp only [Act.put, xi, xj, xk])
           go_cut [102] (fun v102 wc => ∃ (kq : Nat) (x102_52 : Bool), v102 = .bool x102_52 ∧ Aside0 (laws_FnRowJoins.j2 kq l1 t339 x102_52 t333 t336 = some true) ∧ Aside0 (kq ≤ k2) ∧ Aside0 (Kd.S (Kd.slice 3 (Kd.int .i64)) 23 wc w.heap.size (fun k_ => some k_ ≠ ((.slice Ao11 t333.length co11) : Value).ownBlock ∧ some k_ ≠ ((.slice Ao14 t336.length co14) : Value).ownBlock ∧ some k_ ≠ ((.slice Ao19 t344.length co19) : Value).ownBlock ∧ some k_ ≠ ((.slice Ao27 t349.length co27) : Value).ownBlock ∧ some k_ ≠ ((.slice Ao61 t358.length co61) : Value).ownBlock) (.slice Ao16 t339.length co16) t339) ∧ Aside0 (Kd.R (Kd.int .i64) 3 wc w.heap.size (fun k_ => some k_ ≠ ((.slice Ao14 t336.length co14) : Value).ownBlock ∧ some k_ ≠ ((.slice Ao19 t344.length co19) : Value).ownBlock ∧ some k_ ≠ ((.slice Ao27 t349.length co27) : Value).ownBlock ∧ some k_ ≠ ((.slice Ao61 t358.length co61) : Value).ownBlock) (.slice Ao11 t333.length co11) t333) ∧ Aside0 (Kd.R (Kd.int .i64) 3 wc w.heap.size (fun k_ => some k_ ≠ ((.slice Ao11 t333.length co11) : Value).ownBlock ∧ some k_ ≠ ((.slice Ao19 t344.length co19) : Value).ownBlock ∧ some k_ ≠ ((.slice Ao27 t349.length co27) : Value).ownBlock ∧ some k_ ≠ ((.slice Ao61 t358.length co61) : Value).ownBlock) (.slice Ao14 t336.length co14) t336) ∧ Aside0 (Kd.R (Kd.int .i64) 3 wc w.heap.size (fun k_ => some k_ ≠ ((.slice Ao11 t333.length co11) : Value).ownBlock ∧ some k_ ≠ ((.slice Ao14 t336.length co14) : Value).ownBlock ∧ some k_ ≠ ((.slice Ao27 t349.length co27) : Value).ownBlock ∧ some k_ ≠ ((.slice Ao61 t358.length co61) : Value).ownBlock) (.slice Ao19 t344.length co19) t344) ∧ Aside0 (Kd.R (Kd.int .i64) 3 wc w.heap.size (fun k_ => some k_ ≠ ((.slice Ao11 t333.length co11) : Value).ownBlock ∧ some k_ ≠ ((.slice Ao14 t336.length co14) : Value).ownBlock ∧ some k_ ≠ ((.slice Ao19 t344.length co19) : Value).ownBlock ∧ some k_ ≠ ((.slice Ao61 t358.length co61) : Value).ownBlock) (.slice Ao27 t349.length co27) t349) ∧ Aside0 (Kd.R (Kd.int .i64) 3 wc w.heap.size (fun k_ => some k_ ≠ ((.slice Ao11 t333.length co11) : Value).ownBlock ∧ some k_ ≠ ((.slice Ao14 t336.length co14) : Value).ownBlock ∧ some k_ ≠ ((.slice Ao19 t344.length co19) : Value).ownBlock ∧ some k_ ≠ ((.slice Ao27 t349.length co27) : Value).ownBlock) (.slice Ao61 t358.length co61) t358) ∧ Aside0 (wc.heap[gb342]? = some (.cells #[(.slice Ao11 t333.length co11)] 25 (0, 0))) ∧ Aside0 (wc.heap[gb343]? = some (.cells #[(.slice Ao14 t336.length co14)] 25 (0, 0))) ∧ Aside0 (wc.heap[gb348]? = some (.cells #[(.slice Ao19 t344.length co19)] 25 (0, 0))) ∧ Aside0 (wc.heap[gb353]? = some (.cells #[(.slice Ao27 t349.length co27)] 25 (0, 0))) ∧ Aside0 (wc.heap[gb362]? = some (.cells #[(.slice Ao61 t358.length co61)] 25 (0, 0))) ∧ Aside0 (Below w.heap.size w wc))
           case first =>
            as_aux_lemma =>
             have H := HC53.out
             clear HC53
             by_cases c67 : t361 = true
             ·subst c67
              have H1 : ((laws_sameRow.f k2 t358 t333).bind fun t363 => (if t363 = true then ((impl_GoodRow.f t344).bind fun t364 => (if t364 = true then (laws_FnRowJoins.j2 k2 l1 t339 (decide ((t344.length : Int) > (wrap64 ((t333.length : Int) + (t336.length : Int))))) t333 t336) else (laws_FnRowJoins.j2 k2 l1 t339 true t333 t336))) else (laws_FnRowJoins.j2 k2 l1 t339 true t333 t336))) = some true := by first | (with_reducible rfl) | (rw [if_pos rfl] at H; exact H)
              clear H
              have H := H1
              clear H1
              replace H := Option.bind_eq_some_iff.mp H
              obtain ⟨t363, A680, H⟩ := H
              replace H : (if t363 = true then ((impl_GoodRow.f t344).bind fun t364 => (if t364 = true then (laws_FnRowJoins.j2 k2 l1 t339 (decide ((t344.length : Int) > (wrap64 ((t333.length : Int) + (t336.length : Int))))) t333 t336) else (laws_FnRowJoins.j2 k2 l1 t339 true t333 t336))) else (laws_FnRowJoins.j2 k2 l1 t339 true t333 t336)) = some true := H
              have A68 := xm A680
              clear A680
              by_cases c69 : t363 = true
              ·subst c69
               have H1 : ((impl_GoodRow.f t344).bind fun t364 => (if t364 = true then (laws_FnRowJoins.j2 k2 l1 t339 (decide ((t344.length : Int) > (wrap64 ((t333.length : Int) + (t336.length : Int))))) t333 t336) else (laws_FnRowJoins.j2 k2 l1 t339 true t333 t336))) = some true := by first | (with_reducible rfl) | (rw [if_pos rfl] at H; exact H)
               clear H
               have H := H1
               clear H1
               replace H := Option.bind_eq_some_iff.mp H
               obtain ⟨t364, A700, H⟩ := H
               replace H : (if t364 = true then (laws_FnRowJoins.j2 k2 l1 t339 (decide ((t344.length : Int) > (wrap64 ((t333.length : Int) + (t336.length : Int))))) t333 t336) else (laws_FnRowJoins.j2 k2 l1 t339 true t333 t336)) = some true := H
               have A70 := xm A700
               clear A700
               by_cases c71 : t364 = true
               ·subst c71
                have H1 : (laws_FnRowJoins.j2 k2 l1 t339 (decide ((t344.length : Int) > (wrap64 ((t333.length : Int) + (t336.length : Int))))) t333 t336) = some true := by first | (with_reducible rfl) | (rw [if_pos rfl] at H; exact H)
                clear H
                have H := H1
                clear H1
                have H' := xm H
                clear H
                have hnb72 := NB362_342.out
                have hnc72 := NB342_362.out
                have hnb73 := NB362_343.out
                have hnc73 := NB343_362.out
                have hnb74 := NB362_348.out
                have hnc74 := NB348_362.out
                have hnb75 := NB362_353.out
                have hnc75 := NB353_362.out
                obtain ⟨hcz76_0, hfz76_0⟩ := cz1 BK362.out
                have hnb77 := NB342_343.out
                have hnc77 := NB343_342.out
                have hnb78 := NB342_348.out
                have hnc78 := NB348_342.out
                have hnb79 := NB342_353.out
                have hnc79 := NB353_342.out
                obtain ⟨hcz80_0, hfz80_0⟩ := cz1 BK342.out
                go_wp2_with (first | (go_at_call 7; (with_reducible refine (laws_sameRow.calls k2 _ _ t358 _ _ t333 true _ ?side1 ?side2 ?side3 ?side4 A68.out).mono ?_); (case side1 => refine (Kd.R_reads' (e := 3) (base := w.heap.size) (ok := fun k_ => (((((True ∧ some k_ ≠ (.slice Ao58 x12_2.length co58 : Value).ownBlock) ∧ some k_ ≠ (.slice Ao11 t333.length co11 : Value).ownBlock) ∧ some k_ ≠ (.slice Ao14 t336.length co14 : Value).ownBlock) ∧ some k_ ≠ (.slice Ao19 t344.length co19 : Value).ownBlock) ∧ some k_ ≠ (.slice Ao27 t349.length co27 : Value).ownBlock)) (n := t358.length) (c := co61) ?_).2.2; exact (rF HO360 BK362 (.slice Ao61 t358.length co61))); (case side2 => exact (Kd.R_reads' HO360.out).2.1); (case side3 => refine (Kd.R_reads' (e := 3) (base := w.heap.size) (ok := fun k_ => ((some k_ ≠ (.slice Ao58 x12_2.length co58 : Value).ownBlock ∧ (some k_ ≠ (.slice Ao14 t336.length co14 : Value).ownBlock ∧ (some k_ ≠ (.slice Ao19 t344.length co19 : Value).ownBlock ∧ some k_ ≠ (.slice Ao27 t349.length co27 : Value).ownBlock))) ∧ some k_ ≠ (.slice Ao61 t358.length co61 : Value).ownBlock)) (n := t333.length) (c := co11) ?_).2.2; exact (rF HO_343000 BK362 (.slice Ao61 t358.length co61))); (case side4 => exact (Kd.R_reads' HO_343000.out).2.1); rintro e w81 ⟨rfl, hb⟩; have n0_ := xm (Kd.S_below (by (with_reducible repeat (first | apply Kd.S_alloc | apply Kd.S_drewN | apply Kd.S_drew)); exact (Kd.S_mono (Kd.S_far (p := ⟨gb362, 0, none⟩) (Kd.S_types HO_7.out BK362.out (by decide)) (fun _ hk => hk.2) (.slice Ao61 t358.length co61)) (fun _ h_ => h_.1))) hb); have n1_ := xm (Kd.R_below (rF HO_12 BK362 (.slice Ao61 t358.length co61)) hb); have n2_ := xm (Kd.R_below (rF HO_343000 BK362 (.slice Ao61 t358.length co61)) hb); have n3_ := xm (Kd.R_below (rF HO_344000 BK362 (.slice Ao61 t358.length co61)) hb); have n4_ := xm (Kd.R_below (rF HO_349000 BK362 (.slice Ao61 t358.length co61)) hb); have n5_ := xm (Kd.R_below (rF HO_354000 BK362 (.slice Ao61 t358.length co61)) hb); have n6_ := xm (Kd.R_below (rF HO360 BK362 (.slice Ao61 t358.length co61)) hb); have n7_ := xm (blk_below (kF BK342 NB342_362) hb); have n8_ := xm (blk_below (kF BK343 NB343_362) hb); have n9_ := xm (blk_below (kF BK348 NB348_362) hb); have n10_ := xm (blk_below (kF BK353 NB353_362) hb); have n11_ := xm (blk_below (g := gb362) (o := .cells #[.slice Ao61 t358.length co61] 25 (0, 0)) (by (with_reducible repeat (first | refine xq ?_ _ | refine xr ?_ | refine xo ?_ _)); refine blk_put (cs := #[.slice none 0 0]) ?_ 0 _ rfl; (with_reducible repeat (first | refine xq ?_ _ | refine xr ?_ | refine xo ?_ _)); exact BK362.out) hb); have n12_ := xm (below_step bG hb); revert n0_ n1_ n2_ n3_ n4_ n5_ n6_ n7_ n8_ n9_ n10_ n11_ n12_; clear HO_7 HO_12 HO_343000 HO_344000 HO_349000 HO_354000 HO360 BK342 BK343 BK348 BK353 BK362 HB; intro HO_7 HO_12 HO_343000 HO_344000 HO_349000 HO_354000 HO360 BK342 BK343 BK348 BK353 BK362 HB; (try clear hb); (try clear hk); have hnb82 := NB348_343.out; have hnc82 := NB343_348.out; have hnb83 := NB348_353.out; have hnc83 := NB353_348.out; obtain ⟨hcz84_0, hfz84_0⟩ := cz1 BK348.out) | (go_at_call 9; (with_reducible refine (impl_GoodRow.calls _ _ t344 true _ ?side1 ?side2 A70.out).mono ?_); (case side1 => repeat (first | exact (Kd.R_reads' HO_349000.out).2.2 | (with_reducible refine Kd.C_alloc ?_ _) | (with_reducible refine Kd.C_drewN ?_ _) | (with_reducible refine Kd.C_drew ?_))); (case side2 => exact (Kd.R_reads' HO_349000.out).2.1); rintro e w85 ⟨rfl, hb⟩; have n0_ := xm (Kd.S_below (tB HO_7) hb); have n1_ := xm (Kd.R_below (rB HO_12) hb); have n2_ := xm (Kd.R_below (rB HO_343000) hb); have n3_ := xm (Kd.R_below (rB HO_344000) hb); have n4_ := xm (Kd.R_below (rB HO_349000) hb); have n5_ := xm (Kd.R_below (rB HO_354000) hb); have n6_ := xm (Kd.R_below (rB HO360) hb); have n7_ := xm (blk_below (kB BK342) hb); have n8_ := xm (blk_below (kB BK343) hb); have n9_ := xm (blk_below (kB BK348) hb); have n10_ := xm (blk_below (kB BK353) hb); have n11_ := xm (blk_below (kB BK362) hb); have n12_ := xm (below_step bG hb); revert n0_ n1_ n2_ n3_ n4_ n5_ n6_ n7_ n8_ n9_ n10_ n11_ n12_; clear HO_7 HO_12 HO_343000 HO_344000 HO_349000 HO_354000 HO360 BK342 BK343 BK348 BK353 BK362 HB; intro HO_7 HO_12 HO_343000 HO_344000 HO_349000 HO_354000 HO360 BK342 BK343 BK348 BK353 BK362 HB; (try clear hb); obtain ⟨hcz86_0, hfz86_0⟩ := cz1 BK348.out; obtain ⟨hcz87_0, hfz87_0⟩ := cz1 BK342.out; have hnb88 := NB343_353.out; have hnc88 := NB353_343.out; obtain ⟨hcz89_0, hfz89_0⟩ := cz1 BK343.out))
                repeat (go_quiet (first | (go_at_call 7; (with_reducible refine (laws_sameRow.calls k2 _ _ t358 _ _ t333 true _ ?side1 ?side2 ?side3 ?side4 A68.out).mono ?_); (case side1 => refine (Kd.R_reads' (e := 3) (base := w.heap.size) (ok := fun k_ => (((((True ∧ some k_ ≠ (.slice Ao58 x12_2.length co58 : Value).ownBlock) ∧ some k_ ≠ (.slice Ao11 t333.length co11 : Value).ownBlock) ∧ some k_ ≠ (.slice Ao14 t336.length co14 : Value).ownBlock) ∧ some k_ ≠ (.slice Ao19 t344.length co19 : Value).ownBlock) ∧ some k_ ≠ (.slice Ao27 t349.length co27 : Value).ownBlock)) (n := t358.length) (c := co61) ?_).2.2; exact (rF HO360 BK362 (.slice Ao61 t358.length co61))); (case side2 => exact (Kd.R_reads' HO360.out).2.1); (case side3 => refine (Kd.R_reads' (e := 3) (base := w.heap.size) (ok := fun k_ => ((some k_ ≠ (.slice Ao58 x12_2.length co58 : Value).ownBlock ∧ (some k_ ≠ (.slice Ao14 t336.length co14 : Value).ownBlock ∧ (some k_ ≠ (.slice Ao19 t344.length co19 : Value).ownBlock ∧ some k_ ≠ (.slice Ao27 t349.length co27 : Value).ownBlock))) ∧ some k_ ≠ (.slice Ao61 t358.length co61 : Value).ownBlock)) (n := t333.length) (c := co11) ?_).2.2; exact (rF HO_343000 BK362 (.slice Ao61 t358.length co61))); (case side4 => exact (Kd.R_reads' HO_343000.out).2.1); rintro e w81 ⟨rfl, hb⟩; have n0_ := xm (Kd.S_below (by (with_reducible repeat (first | apply Kd.S_alloc | apply Kd.S_drewN | apply Kd.S_drew)); exact (Kd.S_mono (Kd.S_far (p := ⟨gb362, 0, none⟩) (Kd.S_types HO_7.out BK362.out (by decide)) (fun _ hk => hk.2) (.slice Ao61 t358.length co61)) (fun _ h_ => h_.1))) hb); have n1_ := xm (Kd.R_below (rF HO_12 BK362 (.slice Ao61 t358.length co61)) hb); have n2_ := xm (Kd.R_below (rF HO_343000 BK362 (.slice Ao61 t358.length co61)) hb); have n3_ := xm (Kd.R_below (rF HO_344000 BK362 (.slice Ao61 t358.length co61)) hb); have n4_ := xm (Kd.R_below (rF HO_349000 BK362 (.slice Ao61 t358.length co61)) hb); have n5_ := xm (Kd.R_below (rF HO_354000 BK362 (.slice Ao61 t358.length co61)) hb); have n6_ := xm (Kd.R_below (rF HO360 BK362 (.slice Ao61 t358.length co61)) hb); have n7_ := xm (blk_below (kF BK342 NB342_362) hb); have n8_ := xm (blk_below (kF BK343 NB343_362) hb); have n9_ := xm (blk_below (kF BK348 NB348_362) hb); have n10_ := xm (blk_below (kF BK353 NB353_362) hb); have n11_ := xm (blk_below (g := gb362) (o := .cells #[.slice Ao61 t358.length co61] 25 (0, 0)) (by (with_reducible repeat (first | refine xq ?_ _ | refine xr ?_ | refine xo ?_ _)); refine blk_put (cs := #[.slice none 0 0]) ?_ 0 _ rfl; (with_reducible repeat (first | refine xq ?_ _ | refine xr ?_ | refine xo ?_ _)); exact BK362.out) hb); have n12_ := xm (below_step bG hb); revert n0_ n1_ n2_ n3_ n4_ n5_ n6_ n7_ n8_ n9_ n10_ n11_ n12_; clear HO_7 HO_12 HO_343000 HO_344000 HO_349000 HO_354000 HO360 BK342 BK343 BK348 BK353 BK362 HB; intro HO_7 HO_12 HO_343000 HO_344000 HO_349000 HO_354000 HO360 BK342 BK343 BK348 BK353 BK362 HB; (try clear hb); (try clear hk); have hnb82 := NB348_343.out; have hnc82 := NB343_348.out; have hnb83 := NB348_353.out; have hnc83 := NB353_348.out; obtain ⟨hcz84_0, hfz84_0⟩ := cz1 BK348.out) | (go_at_call 9; (with_reducible refine (impl_GoodRow.calls _ _ t344 true _ ?side1 ?side2 A70.out).mono ?_); (case side1 => repeat (first | exact (Kd.R_reads' HO_349000.out).2.2 | (with_reducible refine Kd.C_alloc ?_ _) | (with_reducible refine Kd.C_drewN ?_ _) | (with_reducible refine Kd.C_drew ?_))); (case side2 => exact (Kd.R_reads' HO_349000.out).2.1); rintro e w85 ⟨rfl, hb⟩; have n0_ := xm (Kd.S_below (tB HO_7) hb); have n1_ := xm (Kd.R_below (rB HO_12) hb); have n2_ := xm (Kd.R_below (rB HO_343000) hb); have n3_ := xm (Kd.R_below (rB HO_344000) hb); have n4_ := xm (Kd.R_below (rB HO_349000) hb); have n5_ := xm (Kd.R_below (rB HO_354000) hb); have n6_ := xm (Kd.R_below (rB HO360) hb); have n7_ := xm (blk_below (kB BK342) hb); have n8_ := xm (blk_below (kB BK343) hb); have n9_ := xm (blk_below (kB BK348) hb); have n10_ := xm (blk_below (kB BK353) hb); have n11_ := xm (blk_below (kB BK362) hb); have n12_ := xm (below_step bG hb); revert n0_ n1_ n2_ n3_ n4_ n5_ n6_ n7_ n8_ n9_ n10_ n11_ n12_; clear HO_7 HO_12 HO_343000 HO_344000 HO_349000 HO_354000 HO360 BK342 BK343 BK348 BK353 BK362 HB; intro HO_7 HO_12 HO_343000 HO_344000 HO_349000 HO_354000 HO360 BK342 BK343 BK348 BK353 BK362 HB; (try clear hb); obtain ⟨hcz86_0, hfz86_0⟩ := cz1 BK348.out; obtain ⟨hcz87_0, hfz87_0⟩ := cz1 BK342.out; have hnb88 := NB343_353.out; have hnc88 := NB353_343.out; obtain ⟨hcz89_0, hfz89_0⟩ := cz1 BK343.out)); try go_wp2_with (first | (go_at_call 7; (with_reducible refine (laws_sameRow.calls k2 _ _ t358 _ _ t333 true _ ?side1 ?side2 ?side3 ?side4 A68.out).mono ?_); (case side1 => refine (Kd.R_reads' (e := 3) (base := w.heap.size) (ok := fun k_ => (((((True ∧ some k_ ≠ (.slice Ao58 x12_2.length co58 : Value).ownBlock) ∧ some k_ ≠ (.slice Ao11 t333.length co11 : Value).ownBlock) ∧ some k_ ≠ (.slice Ao14 t336.length co14 : Value).ownBlock) ∧ some k_ ≠ (.slice Ao19 t344.length co19 : Value).ownBlock) ∧ some k_ ≠ (.slice Ao27 t349.length co27 : Value).ownBlock)) (n := t358.length) (c := co61) ?_).2.2; exact (rF HO360 BK362 (.slice Ao61 t358.length co61))); (case side2 => exact (Kd.R_reads' HO360.out).2.1); (case side3 => refine (Kd.R_reads' (e := 3) (base := w.heap.size) (ok := fun k_ => ((some k_ ≠ (.slice Ao58 x12_2.length co58 : Value).ownBlock ∧ (some k_ ≠ (.slice Ao14 t336.length co14 : Value).ownBlock ∧ (some k_ ≠ (.slice Ao19 t344.length co19 : Value).ownBlock ∧ some k_ ≠ (.slice Ao27 t349.length co27 : Value).ownBlock))) ∧ some k_ ≠ (.slice Ao61 t358.length co61 : Value).ownBlock)) (n := t333.length) (c := co11) ?_).2.2; exact (rF HO_343000 BK362 (.slice Ao61 t358.length co61))); (case side4 => exact (Kd.R_reads' HO_343000.out).2.1); rintro e w81 ⟨rfl, hb⟩; have n0_ := xm (Kd.S_below (by (with_reducible repeat (first | apply Kd.S_alloc | apply Kd.S_drewN | apply Kd.S_drew)); exact (Kd.S_mono (Kd.S_far (p := ⟨gb362, 0, none⟩) (Kd.S_types HO_7.out BK362.out (by decide)) (fun _ hk => hk.2) (.slice Ao61 t358.length co61)) (fun _ h_ => h_.1))) hb); have n1_ := xm (Kd.R_below (rF HO_12 BK362 (.slice Ao61 t358.length co61)) hb); have n2_ := xm (Kd.R_below (rF HO_343000 BK362 (.slice Ao61 t358.length co61)) hb); have n3_ := xm (Kd.R_below (rF HO_344000 BK362 (.slice Ao61 t358.length co61)) hb); have n4_ := xm (Kd.R_below (rF HO_349000 BK362 (.slice Ao61 t358.length co61)) hb); have n5_ := xm (Kd.R_below (rF HO_354000 BK362 (.slice Ao61 t358.length co61)) hb); have n6_ := xm (Kd.R_below (rF HO360 BK362 (.slice Ao61 t358.length co61)) hb); have n7_ := xm (blk_below (kF BK342 NB342_362) hb); have n8_ := xm (blk_below (kF BK343 NB343_362) hb); have n9_ := xm (blk_below (kF BK348 NB348_362) hb); have n10_ := xm (blk_below (kF BK353 NB353_362) hb); have n11_ := xm (blk_below (g := gb362) (o := .cells #[.slice Ao61 t358.length co61] 25 (0, 0)) (by (with_reducible repeat (first | refine xq ?_ _ | refine xr ?_ | refine xo ?_ _)); refine blk_put (cs := #[.slice none 0 0]) ?_ 0 _ rfl; (with_reducible repeat (first | refine xq ?_ _ | refine xr ?_ | refine xo ?_ _)); exact BK362.out) hb); have n12_ := xm (below_step bG hb); revert n0_ n1_ n2_ n3_ n4_ n5_ n6_ n7_ n8_ n9_ n10_ n11_ n12_; clear HO_7 HO_12 HO_343000 HO_344000 HO_349000 HO_354000 HO360 BK342 BK343 BK348 BK353 BK362 HB; intro HO_7 HO_12 HO_343000 HO_344000 HO_349000 HO_354000 HO360 BK342 BK343 BK348 BK353 BK362 HB; (try clear hb); (try clear hk); have hnb82 := NB348_343.out; have hnc82 := NB343_348.out; have hnb83 := NB348_353.out; have hnc83 := NB353_348.out; obtain ⟨hcz84_0, hfz84_0⟩ := cz1 BK348.out) | (go_at_call 9; (with_reducible refine (impl_GoodRow.calls _ _ t344 true _ ?side1 ?side2 A70.out).mono ?_); (case side1 => repeat (first | exact (Kd.R_reads' HO_349000.out).2.2 | (with_reducible refine Kd.C_alloc ?_ _) | (with_reducible refine Kd.C_drewN ?_ _) | (with_reducible refine Kd.C_drew ?_))); (case side2 => exact (Kd.R_reads' HO_349000.out).2.1); rintro e w85 ⟨rfl, hb⟩; have n0_ := xm (Kd.S_below (tB HO_7) hb); have n1_ := xm (Kd.R_below (rB HO_12) hb); have n2_ := xm (Kd.R_below (rB HO_343000) hb); have n3_ := xm (Kd.R_below (rB HO_344000) hb); have n4_ := xm (Kd.R_below (rB HO_349000) hb); have n5_ := xm (Kd.R_below (rB HO_354000) hb); have n6_ := xm (Kd.R_below (rB HO360) hb); have n7_ := xm (blk_below (kB BK342) hb); have n8_ := xm (blk_below (kB BK343) hb); have n9_ := xm (blk_below (kB BK348) hb); have n10_ := xm (blk_below (kB BK353) hb); have n11_ := xm (blk_below (kB BK362) hb); have n12_ := xm (below_step bG hb); revert n0_ n1_ n2_ n3_ n4_ n5_ n6_ n7_ n8_ n9_ n10_ n11_ n12_; clear HO_7 HO_12 HO_343000 HO_344000 HO_349000 HO_354000 HO360 BK342 BK343 BK348 BK353 BK362 HB; intro HO_7 HO_12 HO_343000 HO_344000 HO_349000 HO_354000 HO360 BK342 BK343 BK348 BK353 BK362 HB; (try clear hb); obtain ⟨hcz86_0, hfz86_0⟩ := cz1 BK348.out; obtain ⟨hcz87_0, hfz87_0⟩ := cz1 BK342.out; have hnb88 := NB343_353.out; have hnc88 := NB353_343.out; obtain ⟨hcz89_0, hfz89_0⟩ := cz1 BK343.out)))
                go_meet
                case rel => exact ⟨_, (decide ((t344.length : Int) > (wrap64 ((t333.length : Int) + (t336.length : Int))))), sB, H', ⟨by have := HJ6.out; have := HK2.out; first | omega | exact Nat.le_refl _⟩, ⟨by (with_reducible repeat (first | apply Kd.S_alloc | apply Kd.S_drewN | apply Kd.S_drew)); exact Kd.S_mono HO_7.out (fun _ hk => ⟨hk.1.2.1, ⟨hk.1.2.2.1, ⟨hk.1.2.2.2.1, ⟨hk.1.2.2.2.2, hk.2⟩⟩⟩⟩)⟩, ⟨by (with_reducible repeat (first | apply Kd.R_alloc | apply Kd.R_drewN | apply Kd.R_drew)); exact Kd.R_mono HO_343000.out (fun _ hk => ⟨hk.1.2.1, ⟨hk.1.2.2.1, ⟨hk.1.2.2.2, hk.2⟩⟩⟩)⟩, ⟨by (with_reducible repeat (first | apply Kd.R_alloc | apply Kd.R_drewN | apply Kd.R_drew)); exact Kd.R_mono HO_344000.out (fun _ hk => ⟨hk.1.2.1, ⟨hk.1.2.2.1, ⟨hk.1.2.2.2, hk.2⟩⟩⟩)⟩, ⟨by (with_reducible repeat (first | apply Kd.R_alloc | apply Kd.R_drewN | apply Kd.R_drew)); exact Kd.R_mono HO_349000.out (fun _ hk => ⟨hk.1.2.1, ⟨hk.1.2.2.1, ⟨hk.1.2.2.2, hk.2⟩⟩⟩)⟩, ⟨by (with_reducible repeat (first | apply Kd.R_alloc | apply Kd.R_drewN | apply Kd.R_drew)); exact Kd.R_mono HO_354000.out (fun _ hk => ⟨hk.1.2.1, ⟨hk.1.2.2.1, ⟨hk.1.2.2.2, hk.2⟩⟩⟩)⟩, ⟨by (with_reducible repeat (first | apply Kd.R_alloc | apply Kd.R_drewN | apply Kd.R_drew)); exact Kd.R_mono HO360.out (fun _ hk => ⟨hk.1.1.1.2, ⟨hk.1.1.2, ⟨hk.1.2, hk.2⟩⟩⟩)⟩, ⟨kB BK342⟩, ⟨kB BK343⟩, ⟨kB BK348⟩, ⟨kB BK353⟩, ⟨kB BK362⟩, ⟨bG⟩⟩
               ·replace c71 := Bool.eq_false_iff.mpr c71
                subst c71
                have H1 : (laws_FnRowJoins.j2 k2 l1 t339 true t333 t336) = some true := by first | (with_reducible rfl) | (rw [if_neg (show ¬ (false = true) by decide)] at H; exact H)
                clear H
                have H := H1
                clear H1
                have H' := xm H
                clear H
                have hnb90 := NB362_342.out
                have hnc90 := NB342_362.out
                have hnb91 := NB362_343.out
                have hnc91 := NB343_362.out
                have hnb92 := NB362_348.out
                have hnc92 := NB348_362.out
                have hnb93 := NB362_353.out
                have hnc93 := NB353_362.out
                obtain ⟨hcz94_0, hfz94_0⟩ := cz1 BK362.out
                have hnb95 := NB342_343.out
                have hnc95 := NB343_342.out
                have hnb96 := NB342_348.out
                have hnc96 := NB348_342.out
                have hnb97 := NB342_353.out
                have hnc97 := NB353_342.out
                obtain ⟨hcz98_0, hfz98_0⟩ := cz1 BK342.out
                go_wp2_with (first | (go_at_call 7; (with_reducible refine (laws_sameRow.calls k2 _ _ t358 _ _ t333 true _ ?side1 ?side2 ?side3 ?side4 A68.out).mono ?_); (case side1 => refine (Kd.R_reads' (e := 3) (base := w.heap.size) (ok := fun k_ => (((((True ∧ some k_ ≠ (.slice Ao58 x12_2.length co58 : Value).ownBlock) ∧ some k_ ≠ (.slice Ao11 t333.length co11 : Value).ownBlock) ∧ some k_ ≠ (.slice Ao14 t336.length co14 : Value).ownBlock) ∧ some k_ ≠ (.slice Ao19 t344.length co19 : Value).ownBlock) ∧ some k_ ≠ (.slice Ao27 t349.length co27 : Value).ownBlock)) (n := t358.length) (c := co61) ?_).2.2; exact (rF HO360 BK362 (.slice Ao61 t358.length co61))); (case side2 => exact (Kd.R_reads' HO360.out).2.1); (case side3 => refine (Kd.R_reads' (e := 3) (base := w.heap.size) (ok := fun k_ => ((some k_ ≠ (.slice Ao58 x12_2.length co58 : Value).ownBlock ∧ (some k_ ≠ (.slice Ao14 t336.length co14 : Value).ownBlock ∧ (some k_ ≠ (.slice Ao19 t344.length co19 : Value).ownBlock ∧ some k_ ≠ (.slice Ao27 t349.length co27 : Value).ownBlock))) ∧ some k_ ≠ (.slice Ao61 t358.length co61 : Value).ownBlock)) (n := t333.length) (c := co11) ?_).2.2; exact (rF HO_343000 BK362 (.slice Ao61 t358.length co61))); (case side4 => exact (Kd.R_reads' HO_343000.out).2.1); rintro e w99 ⟨rfl, hb⟩; have n0_ := xm (Kd.S_below (by (with_reducible repeat (first | apply Kd.S_alloc | apply Kd.S_drewN | apply Kd.S_drew)); exact (Kd.S_mono (Kd.S_far (p := ⟨gb362, 0, none⟩) (Kd.S_types HO_7.out BK362.out (by decide)) (fun _ hk => hk.2) (.slice Ao61 t358.length co61)) (fun _ h_ => h_.1))) hb); have n1_ := xm (Kd.R_below (rF HO_12 BK362 (.slice Ao61 t358.length co61)) hb); have n2_ := xm (Kd.R_below (rF HO_343000 BK362 (.slice Ao61 t358.length co61)) hb); have n3_ := xm (Kd.R_below (rF HO_344000 BK362 (.slice Ao61 t358.length co61)) hb); have n4_ := xm (Kd.R_below (rF HO_349000 BK362 (.slice Ao61 t358.length co61)) hb); have n5_ := xm (Kd.R_below (rF HO_354000 BK362 (.slice Ao61 t358.length co61)) hb); have n6_ := xm (Kd.R_below (rF HO360 BK362 (.slice Ao61 t358.length co61)) hb); have n7_ := xm (blk_below (kF BK342 NB342_362) hb); have n8_ := xm (blk_below (kF BK343 NB343_362) hb); have n9_ := xm (blk_below (kF BK348 NB348_362) hb); have n10_ := xm (blk_below (kF BK353 NB353_362) hb); have n11_ := xm (blk_below (g := gb362) (o := .cells #[.slice Ao61 t358.length co61] 25 (0, 0)) (by (with_reducible repeat (first | refine xq ?_ _ | refine xr ?_ | refine xo ?_ _)); refine blk_put (cs := #[.slice none 0 0]) ?_ 0 _ rfl; (with_reducible repeat (first | refine xq ?_ _ | refine xr ?_ | refine xo ?_ _)); exact BK362.out) hb); have n12_ := xm (below_step bG hb); revert n0_ n1_ n2_ n3_ n4_ n5_ n6_ n7_ n8_ n9_ n10_ n11_ n12_; clear HO_7 HO_12 HO_343000 HO_344000 HO_349000 HO_354000 HO360 BK342 BK343 BK348 BK353 BK362 HB; intro HO_7 HO_12 HO_343000 HO_344000 HO_349000 HO_354000 HO360 BK342 BK343 BK348 BK353 BK362 HB; (try clear hb); (try clear hk); have hnb100 := NB348_343.out; have hnc100 := NB343_348.out; have hnb101 := NB348_353.out; have hnc101 := NB353_348.out; obtain ⟨hcz102_0, hfz102_0⟩ := cz1 BK348.out) | (go_at_call 9; (with_reducible refine (impl_GoodRow.calls _ _ t344 false _ ?side1 ?side2 A70.out).mono ?_); (case side1 => repeat (first | exact (Kd.R_reads' HO_349000.out).2.2 | (with_reducible refine Kd.C_alloc ?_ _) | (with_reducible refine Kd.C_drewN ?_ _) | (with_reducible refine Kd.C_drew ?_))); (case side2 => exact (Kd.R_reads' HO_349000.out).2.1); rintro e w103 ⟨rfl, hb⟩; have n0_ := xm (Kd.S_below (tB HO_7) hb); have n1_ := xm (Kd.R_below (rB HO_12) hb); have n2_ := xm (Kd.R_below (rB HO_343000) hb); have n3_ := xm (Kd.R_below (rB HO_344000) hb); have n4_ := xm (Kd.R_below (rB HO_349000) hb); have n5_ := xm (Kd.R_below (rB HO_354000) hb); have n6_ := xm (Kd.R_below (rB HO360) hb); have n7_ := xm (blk_below (kB BK342) hb); have n8_ := xm (blk_below (kB BK343) hb); have n9_ := xm (blk_below (kB BK348) hb); have n10_ := xm (blk_below (kB BK353) hb); have n11_ := xm (blk_below (kB BK362) hb); have n12_ := xm (below_step bG hb); revert n0_ n1_ n2_ n3_ n4_ n5_ n6_ n7_ n8_ n9_ n10_ n11_ n12_; clear HO_7 HO_12 HO_343000 HO_344000 HO_349000 HO_354000 HO360 BK342 BK343 BK348 BK353 BK362 HB; intro HO_7 HO_12 HO_343000 HO_344000 HO_349000 HO_354000 HO360 BK342 BK343 BK348 BK353 BK362 HB; (try clear hb)))
                repeat (go_quiet (first | (go_at_call 7; (with_reducible refine (laws_sameRow.calls k2 _ _ t358 _ _ t333 true _ ?side1 ?side2 ?side3 ?side4 A68.out).mono ?_); (case side1 => refine (Kd.R_reads' (e := 3) (base := w.heap.size) (ok := fun k_ => (((((True ∧ some k_ ≠ (.slice Ao58 x12_2.length co58 : Value).ownBlock) ∧ some k_ ≠ (.slice Ao11 t333.length co11 : Value).ownBlock) ∧ some k_ ≠ (.slice Ao14 t336.length co14 : Value).ownBlock) ∧ some k_ ≠ (.slice Ao19 t344.length co19 : Value).ownBlock) ∧ some k_ ≠ (.slice Ao27 t349.length co27 : Value).ownBlock)) (n := t358.length) (c := co61) ?_).2.2; exact (rF HO360 BK362 (.slice Ao61 t358.length co61))); (case side2 => exact (Kd.R_reads' HO360.out).2.1); (case side3 => refine (Kd.R_reads' (e := 3) (base := w.heap.size) (ok := fun k_ => ((some k_ ≠ (.slice Ao58 x12_2.length co58 : Value).ownBlock ∧ (some k_ ≠ (.slice Ao14 t336.length co14 : Value).ownBlock ∧ (some k_ ≠ (.slice Ao19 t344.length co19 : Value).ownBlock ∧ some k_ ≠ (.slice Ao27 t349.length co27 : Value).ownBlock))) ∧ some k_ ≠ (.slice Ao61 t358.length co61 : Value).ownBlock)) (n := t333.length) (c := co11) ?_).2.2; exact (rF HO_343000 BK362 (.slice Ao61 t358.length co61))); (case side4 => exact (Kd.R_reads' HO_343000.out).2.1); rintro e w99 ⟨rfl, hb⟩; have n0_ := xm (Kd.S_below (by (with_reducible repeat (first | apply Kd.S_alloc | apply Kd.S_drewN | apply Kd.S_drew)); exact (Kd.S_mono (Kd.S_far (p := ⟨gb362, 0, none⟩) (Kd.S_types HO_7.out BK362.out (by decide)) (fun _ hk => hk.2) (.slice Ao61 t358.length co61)) (fun _ h_ => h_.1))) hb); have n1_ := xm (Kd.R_below (rF HO_12 BK362 (.slice Ao61 t358.length co61)) hb); have n2_ := xm (Kd.R_below (rF HO_343000 BK362 (.slice Ao61 t358.length co61)) hb); have n3_ := xm (Kd.R_below (rF HO_344000 BK362 (.slice Ao61 t358.length co61)) hb); have n4_ := xm (Kd.R_below (rF HO_349000 BK362 (.slice Ao61 t358.length co61)) hb); have n5_ := xm (Kd.R_below (rF HO_354000 BK362 (.slice Ao61 t358.length co61)) hb); have n6_ := xm (Kd.R_below (rF HO360 BK362 (.slice Ao61 t358.length co61)) hb); have n7_ := xm (blk_below (kF BK342 NB342_362) hb); have n8_ := xm (blk_below (kF BK343 NB343_362) hb); have n9_ := xm (blk_below (kF BK348 NB348_362) hb); have n10_ := xm (blk_below (kF BK353 NB353_362) hb); have n11_ := xm (blk_below (g := gb362) (o := .cells #[.slice Ao61 t358.length co61] 25 (0, 0)) (by (with_reducible repeat (first | refine xq ?_ _ | refine xr ?_ | refine xo ?_ _)); refine blk_put (cs := #[.slice none 0 0]) ?_ 0 _ rfl; (with_reducible repeat (first | refine xq ?_ _ | refine xr ?_ | refine xo ?_ _)); exact BK362.out) hb); have n12_ := xm (below_step bG hb); revert n0_ n1_ n2_ n3_ n4_ n5_ n6_ n7_ n8_ n9_ n10_ n11_ n12_; clear HO_7 HO_12 HO_343000 HO_344000 HO_349000 HO_354000 HO360 BK342 BK343 BK348 BK353 BK362 HB; intro HO_7 HO_12 HO_343000 HO_344000 HO_349000 HO_354000 HO360 BK342 BK343 BK348 BK353 BK362 HB; (try clear hb); (try clear hk); have hnb100 := NB348_343.out; have hnc100 := NB343_348.out; have hnb101 := NB348_353.out; have hnc101 := NB353_348.out; obtain ⟨hcz102_0, hfz102_0⟩ := cz1 BK348.out) | (go_at_call 9; (with_reducible refine (impl_GoodRow.calls _ _ t344 false _ ?side1 ?side2 A70.out).mono ?_); (case side1 => repeat (first | exact (Kd.R_reads' HO_349000.out).2.2 | (with_reducible refine Kd.C_alloc ?_ _) | (with_reducible refine Kd.C_drewN ?_ _) | (with_reducible refine Kd.C_drew ?_))); (case side2 => exact (Kd.R_reads' HO_349000.out).2.1); rintro e w103 ⟨rfl, hb⟩; have n0_ := xm (Kd.S_below (tB HO_7) hb); have n1_ := xm (Kd.R_below (rB HO_12) hb); have n2_ := xm (Kd.R_below (rB HO_343000) hb); have n3_ := xm (Kd.R_below (rB HO_344000) hb); have n4_ := xm (Kd.R_below (rB HO_349000) hb); have n5_ := xm (Kd.R_below (rB HO_354000) hb); have n6_ := xm (Kd.R_below (rB HO360) hb); have n7_ := xm (blk_below (kB BK342) hb); have n8_ := xm (blk_below (kB BK343) hb); have n9_ := xm (blk_below (kB BK348) hb); have n10_ := xm (blk_below (kB BK353) hb); have n11_ := xm (blk_below (kB BK362) hb); have n12_ := xm (below_step bG hb); revert n0_ n1_ n2_ n3_ n4_ n5_ n6_ n7_ n8_ n9_ n10_ n11_ n12_; clear HO_7 HO_12 HO_343000 HO_344000 HO_349000 HO_354000 HO360 BK342 BK343 BK348 BK353 BK362 HB; intro HO_7 HO_12 HO_343000 HO_344000 HO_349000 HO_354000 HO360 BK342 BK343 BK348 BK353 BK362 HB; (try clear hb))); try go_wp2_with (first | (go_at_call 7; (with_reducible refine (laws_sameRow.calls k2 _ _ t358 _ _ t333 true _ ?side1 ?side2 ?side3 ?side4 A68.out).mono ?_); (case side1 => refine (Kd.R_reads' (e := 3) (base := w.heap.size) (ok := fun k_ => (((((True ∧ some k_ ≠ (.slice Ao58 x12_2.length co58 : Value).ownBlock) ∧ some k_ ≠ (.slice Ao11 t333.length co11 : Value).ownBlock) ∧ some k_ ≠ (.slice Ao14 t336.length co14 : Value).ownBlock) ∧ some k_ ≠ (.slice Ao19 t344.length co19 : Value).ownBlock) ∧ some k_ ≠ (.slice Ao27 t349.length co27 : Value).ownBlock)) (n := t358.length) (c := co61) ?_).2.2; exact (rF HO360 BK362 (.slice Ao61 t358.length co61))); (case side2 => exact (Kd.R_reads' HO360.out).2.1); (case side3 => refine (Kd.R_reads' (e := 3) (base := w.heap.size) (ok := fun k_ => ((some k_ ≠ (.slice Ao58 x12_2.length co58 : Value).ownBlock ∧ (some k_ ≠ (.slice Ao14 t336.length co14 : Value).ownBlock ∧ (some k_ ≠ (.slice Ao19 t344.length co19 : Value).ownBlock ∧ some k_ ≠ (.slice Ao27 t349.length co27 : Value).ownBlock))) ∧ some k_ ≠ (.slice Ao61 t358.length co61 : Value).ownBlock)) (n := t333.length) (c := co11) ?_).2.2; exact (rF HO_343000 BK362 (.slice Ao61 t358.length co61))); (case side4 => exact (Kd.R_reads' HO_343000.out).2.1); rintro e w99 ⟨rfl, hb⟩; have n0_ := xm (Kd.S_below (by (with_reducible repeat (first | apply Kd.S_alloc | apply Kd.S_drewN | apply Kd.S_drew)); exact (Kd.S_mono (Kd.S_far (p := ⟨gb362, 0, none⟩) (Kd.S_types HO_7.out BK362.out (by decide)) (fun _ hk => hk.2) (.slice Ao61 t358.length co61)) (fun _ h_ => h_.1))) hb); have n1_ := xm (Kd.R_below (rF HO_12 BK362 (.slice Ao61 t358.length co61)) hb); have n2_ := xm (Kd.R_below (rF HO_343000 BK362 (.slice Ao61 t358.length co61)) hb); have n3_ := xm (Kd.R_below (rF HO_344000 BK362 (.slice Ao61 t358.length co61)) hb); have n4_ := xm (Kd.R_below (rF HO_349000 BK362 (.slice Ao61 t358.length co61)) hb); have n5_ := xm (Kd.R_below (rF HO_354000 BK362 (.slice Ao61 t358.length co61)) hb); have n6_ := xm (Kd.R_below (rF HO360 BK362 (.slice Ao61 t358.length co61)) hb); have n7_ := xm (blk_below (kF BK342 NB342_362) hb); have n8_ := xm (blk_below (kF BK343 NB343_362) hb); have n9_ := xm (blk_below (kF BK348 NB348_362) hb); have n10_ := xm (blk_below (kF BK353 NB353_362) hb); have n11_ := xm (blk_below (g := gb362) (o := .cells #[.slice Ao61 t358.length co61] 25 (0, 0)) (by (with_reducible repeat (first | refine xq ?_ _ | refine xr ?_ | refine xo ?_ _)); refine blk_put (cs := #[.slice none 0 0]) ?_ 0 _ rfl; (with_reducible repeat (first | refine xq ?_ _ | refine xr ?_ | refine xo ?_ _)); exact BK362.out) hb); have n12_ := xm (below_step bG hb); revert n0_ n1_ n2_ n3_ n4_ n5_ n6_ n7_ n8_ n9_ n10_ n11_ n12_; clear HO_7 HO_12 HO_343000 HO_344000 HO_349000 HO_354000 HO360 BK342 BK343 BK348 BK353 BK362 HB; intro HO_7 HO_12 HO_343000 HO_344000 HO_349000 HO_354000 HO360 BK342 BK343 BK348 BK353 BK362 HB; (try clear hb); (try clear hk); have hnb100 := NB348_343.out; have hnc100 := NB343_348.out; have hnb101 := NB348_353.out; have hnc101 := NB353_348.out; obtain ⟨hcz102_0, hfz102_0⟩ := cz1 BK348.out) | (go_at_call 9; (with_reducible refine (impl_GoodRow.calls _ _ t344 false _ ?side1 ?side2 A70.out).mono ?_); (case side1 => repeat (first | exact (Kd.R_reads' HO_349000.out).2.2 | (with_reducible refine Kd.C_alloc ?_ _) | (with_reducible refine Kd.C_drewN ?_ _) | (with_reducible refine Kd.C_drew ?_))); (case side2 => exact (Kd.R_reads' HO_349000.out).2.1); rintro e w103 ⟨rfl, hb⟩; have n0_ := xm (Kd.S_below (tB HO_7) hb); have n1_ := xm (Kd.R_below (rB HO_12) hb); have n2_ := xm (Kd.R_below (rB HO_343000) hb); have n3_ := xm (Kd.R_below (rB HO_344000) hb); have n4_ := xm (Kd.R_below (rB HO_349000) hb); have n5_ := xm (Kd.R_below (rB HO_354000) hb); have n6_ := xm (Kd.R_below (rB HO360) hb); have n7_ := xm (blk_below (kB BK342) hb); have n8_ := xm (blk_below (kB BK343) hb); have n9_ := xm (blk_below (kB BK348) hb); have n10_ := xm (blk_below (kB BK353) hb); have n11_ := xm (blk_below (kB BK362) hb); have n12_ := xm (below_step bG hb); revert n0_ n1_ n2_ n3_ n4_ n5_ n6_ n7_ n8_ n9_ n10_ n11_ n12_; clear HO_7 HO_12 HO_343000 HO_344000 HO_349000 HO_354000 HO360 BK342 BK343 BK348 BK353 BK362 HB; intro HO_7 HO_12 HO_343000 HO_344000 HO_349000 HO_354000 HO360 BK342 BK343 BK348 BK353 BK362 HB; (try clear hb))))
                go_meet
                case rel => exact ⟨_, (true), sB, H', ⟨by have := HJ6.out; have := HK2.out; first | omega | exact Nat.le_refl _⟩, ⟨by (with_reducible repeat (first | apply Kd.S_alloc | apply Kd.S_drewN | apply Kd.S_drew)); exact Kd.S_mono HO_7.out (fun _ hk => ⟨hk.1.2.1, ⟨hk.1.2.2.1, ⟨hk.1.2.2.2.1, ⟨hk.1.2.2.2.2, hk.2⟩⟩⟩⟩)⟩, ⟨by (with_reducible repeat (first | apply Kd.R_alloc | apply Kd.R_drewN | apply Kd.R_drew)); exact Kd.R_mono HO_343000.out (fun _ hk => ⟨hk.1.2.1, ⟨hk.1.2.2.1, ⟨hk.1.2.2.2, hk.2⟩⟩⟩)⟩, ⟨by (with_reducible repeat (first | apply Kd.R_alloc | apply Kd.R_drewN | apply Kd.R_drew)); exact Kd.R_mono HO_344000.out (fun _ hk => ⟨hk.1.2.1, ⟨hk.1.2.2.1, ⟨hk.1.2.2.2, hk.2⟩⟩⟩)⟩, ⟨by (with_reducible repeat (first | apply Kd.R_alloc | apply Kd.R_drewN | apply Kd.R_drew)); exact Kd.R_mono HO_349000.out (fun _ hk => ⟨hk.1.2.1, ⟨hk.1.2.2.1, ⟨hk.1.2.2.2, hk.2⟩⟩⟩)⟩, ⟨by (with_reducible repeat (first | apply Kd.R_alloc | apply Kd.R_drewN | apply Kd.R_drew)); exact Kd.R_mono HO_354000.out (fun _ hk => ⟨hk.1.2.1, ⟨hk.1.2.2.1, ⟨hk.1.2.2.2, hk.2⟩⟩⟩)⟩, ⟨by (with_reducible repeat (first | apply Kd.R_alloc | apply Kd.R_drewN | apply Kd.R_drew)); exact Kd.R_mono HO360.out (fun _ hk => ⟨hk.1.1.1.2, ⟨hk.1.1.2, ⟨hk.1.2, hk.2⟩⟩⟩)⟩, ⟨kB BK342⟩, ⟨kB BK343⟩, ⟨kB BK348⟩, ⟨kB BK353⟩, ⟨kB BK362⟩, ⟨bG⟩⟩
              ·replace c69 := Bool.eq_false_iff.mpr c69
               subst c69
               have H1 : (laws_FnRowJoins.j2 k2 l1 t339 true t333 t336) = some true := by first | (with_reducible rfl) | (rw [if_neg (show ¬ (false = true) by decide)] at H; exact H)
               clear H
               have H := H1
               clear H1
               have H' := xm H
               clear H
               have hnb104 := NB362_342.out
               have hnc104 := NB342_362.out
               have hnb105 := NB362_343.out
               have hnc105 := NB343_362.out
               have hnb106 := NB362_348.out
               have hnc106 := NB348_362.out
               have hnb107 := NB362_353.out
               have hnc107 := NB353_362.out
               obtain ⟨hcz108_0, hfz108_0⟩ := cz1 BK362.out
               have hnb109 := NB342_343.out
               have hnc109 := NB343_342.out
               have hnb110 := NB342_348.out
               have hnc110 := NB348_342.out
               have hnb111 := NB342_353.out
               have hnc111 := NB353_342.out
               obtain ⟨hcz112_0, hfz112_0⟩ := cz1 BK342.out
               go_wp2_with (first | (go_at_call 7; (with_reducible refine (laws_sameRow.calls k2 _ _ t358 _ _ t333 false _ ?side1 ?side2 ?side3 ?side4 A68.out).mono ?_); (case side1 => refine (Kd.R_reads' (e := 3) (base := w.heap.size) (ok := fun k_ => (((((True ∧ some k_ ≠ (.slice Ao58 x12_2.length co58 : Value).ownBlock) ∧ some k_ ≠ (.slice Ao11 t333.length co11 : Value).ownBlock) ∧ some k_ ≠ (.slice Ao14 t336.length co14 : Value).ownBlock) ∧ some k_ ≠ (.slice Ao19 t344.length co19 : Value).ownBlock) ∧ some k_ ≠ (.slice Ao27 t349.length co27 : Value).ownBlock)) (n := t358.length) (c := co61) ?_).2.2; exact (rF HO360 BK362 (.slice Ao61 t358.length co61))); (case side2 => exact (Kd.R_reads' HO360.out).2.1); (case side3 => refine (Kd.R_reads' (e := 3) (base := w.heap.size) (ok := fun k_ => ((some k_ ≠ (.slice Ao58 x12_2.length co58 : Value).ownBlock ∧ (some k_ ≠ (.slice Ao14 t336.length co14 : Value).ownBlock ∧ (some k_ ≠ (.slice Ao19 t344.length co19 : Value).ownBlock ∧ some k_ ≠ (.slice Ao27 t349.length co27 : Value).ownBlock))) ∧ some k_ ≠ (.slice Ao61 t358.length co61 : Value).ownBlock)) (n := t333.length) (c := co11) ?_).2.2; exact (rF HO_343000 BK362 (.slice Ao61 t358.length co61))); (case side4 => exact (Kd.R_reads' HO_343000.out).2.1); rintro e w113 ⟨rfl, hb⟩; have n0_ := xm (Kd.S_below (by (with_reducible repeat (first | apply Kd.S_alloc | apply Kd.S_drewN | apply Kd.S_drew)); exact (Kd.S_mono (Kd.S_far (p := ⟨gb362, 0, none⟩) (Kd.S_types HO_7.out BK362.out (by decide)) (fun _ hk => hk.2) (.slice Ao61 t358.length co61)) (fun _ h_ => h_.1))) hb); have n1_ := xm (Kd.R_below (rF HO_12 BK362 (.slice Ao61 t358.length co61)) hb); have n2_ := xm (Kd.R_below (rF HO_343000 BK362 (.slice Ao61 t358.length co61)) hb); have n3_ := xm (Kd.R_below (rF HO_344000 BK362 (.slice Ao61 t358.length co61)) hb); have n4_ := xm (Kd.R_below (rF HO_349000 BK362 (.slice Ao61 t358.length co61)) hb); have n5_ := xm (Kd.R_below (rF HO_354000 BK362 (.slice Ao61 t358.length co61)) hb); have n6_ := xm (Kd.R_below (rF HO360 BK362 (.slice Ao61 t358.length co61)) hb); have n7_ := xm (blk_below (kF BK342 NB342_362) hb); have n8_ := xm (blk_below (kF BK343 NB343_362) hb); have n9_ := xm (blk_below (kF BK348 NB348_362) hb); have n10_ := xm (blk_below (kF BK353 NB353_362) hb); have n11_ := xm (blk_below (g := gb362) (o := .cells #[.slice Ao61 t358.length co61] 25 (0, 0)) (by (with_reducible repeat (first | refine xq ?_ _ | refine xr ?_ | refine xo ?_ _)); refine blk_put (cs := #[.slice none 0 0]) ?_ 0 _ rfl; (with_reducible repeat (first | refine xq ?_ _ | refine xr ?_ | refine xo ?_ _)); exact BK362.out) hb); have n12_ := xm (below_step bG hb); revert n0_ n1_ n2_ n3_ n4_ n5_ n6_ n7_ n8_ n9_ n10_ n11_ n12_; clear HO_7 HO_12 HO_343000 HO_344000 HO_349000 HO_354000 HO360 BK342 BK343 BK348 BK353 BK362 HB; intro HO_7 HO_12 HO_343000 HO_344000 HO_349000 HO_354000 HO360 BK342 BK343 BK348 BK353 BK362 HB; (try clear hb); (try clear hk)))
               repeat (go_quiet (first | (go_at_call 7; (with_reducible refine (laws_sameRow.calls k2 _ _ t358 _ _ t333 false _ ?side1 ?side2 ?side3 ?side4 A68.out).mono ?_); (case side1 => refine (Kd.R_reads' (e := 3) (base := w.heap.size) (ok := fun k_ => (((((True ∧ some k_ ≠ (.slice Ao58 x12_2.length co58 : Value).ownBlock) ∧ some k_ ≠ (.slice Ao11 t333.length co11 : Value).ownBlock) ∧ some k_ ≠ (.slice Ao14 t336.length co14 : Value).ownBlock) ∧ some k_ ≠ (.slice Ao19 t344.length co19 : Value).ownBlock) ∧ some k_ ≠ (.slice Ao27 t349.length co27 : Value).ownBlock)) (n := t358.length) (c := co61) ?_).2.2; exact (rF HO360 BK362 (.slice Ao61 t358.length co61))); (case side2 => exact (Kd.R_reads' HO360.out).2.1); (case side3 => refine (Kd.R_reads' (e := 3) (base := w.heap.size) (ok := fun k_ => ((some k_ ≠ (.slice Ao58 x12_2.length co58 : Value).ownBlock ∧ (some k_ ≠ (.slice Ao14 t336.length co14 : Value).ownBlock ∧ (some k_ ≠ (.slice Ao19 t344.length co19 : Value).ownBlock ∧ some k_ ≠ (.slice Ao27 t349.length co27 : Value).ownBlock))) ∧ some k_ ≠ (.slice Ao61 t358.length co61 : Value).ownBlock)) (n := t333.length) (c := co11) ?_).2.2; exact (rF HO_343000 BK362 (.slice Ao61 t358.length co61))); (case side4 => exact (Kd.R_reads' HO_343000.out).2.1); rintro e w113 ⟨rfl, hb⟩; have n0_ := xm (Kd.S_below (by (with_reducible repeat (first | apply Kd.S_alloc | apply Kd.S_drewN | apply Kd.S_drew)); exact (Kd.S_mono (Kd.S_far (p := ⟨gb362, 0, none⟩) (Kd.S_types HO_7.out BK362.out (by decide)) (fun _ hk => hk.2) (.slice Ao61 t358.length co61)) (fun _ h_ => h_.1))) hb); have n1_ := xm (Kd.R_below (rF HO_12 BK362 (.slice Ao61 t358.length co61)) hb); have n2_ := xm (Kd.R_below (rF HO_343000 BK362 (.slice Ao61 t358.length co61)) hb); have n3_ := xm (Kd.R_below (rF HO_344000 BK362 (.slice Ao61 t358.length co61)) hb); have n4_ := xm (Kd.R_below (rF HO_349000 BK362 (.slice Ao61 t358.length co61)) hb); have n5_ := xm (Kd.R_below (rF HO_354000 BK362 (.slice Ao61 t358.length co61)) hb); have n6_ := xm (Kd.R_below (rF HO360 BK362 (.slice Ao61 t358.length co61)) hb); have n7_ := xm (blk_below (kF BK342 NB342_362) hb); have n8_ := xm (blk_below (kF BK343 NB343_362) hb); have n9_ := xm (blk_below (kF BK348 NB348_362) hb); have n10_ := xm (blk_below (kF BK353 NB353_362) hb); have n11_ := xm (blk_below (g := gb362) (o := .cells #[.slice Ao61 t358.length co61] 25 (0, 0)) (by (with_reducible repeat (first | refine xq ?_ _ | refine xr ?_ | refine xo ?_ _)); refine blk_put (cs := #[.slice none 0 0]) ?_ 0 _ rfl; (with_reducible repeat (first | refine xq ?_ _ | refine xr ?_ | refine xo ?_ _)); exact BK362.out) hb); have n12_ := xm (below_step bG hb); revert n0_ n1_ n2_ n3_ n4_ n5_ n6_ n7_ n8_ n9_ n10_ n11_ n12_; clear HO_7 HO_12 HO_343000 HO_344000 HO_349000 HO_354000 HO360 BK342 BK343 BK348 BK353 BK362 HB; intro HO_7 HO_12 HO_343000 HO_344000 HO_349000 HO_354000 HO360 BK342 BK343 BK348 BK353 BK362 HB; (try clear hb); (try clear hk))); try go_wp2_with (first | (go_at_call 7; (with_reducible refine (laws_sameRow.calls k2 _ _ t358 _ _ t333 false _ ?side1 ?side2 ?side3 ?side4 A68.out).mono ?_); (case side1 => refine (Kd.R_reads' (e := 3) (base := w.heap.size) (ok := fun k_ => (((((True ∧ some k_ ≠ (.slice Ao58 x12_2.length co58 : Value).ownBlock) ∧ some k_ ≠ (.slice Ao11 t333.length co11 : Value).ownBlock) ∧ some k_ ≠ (.slice Ao14 t336.length co14 : Value).ownBlock) ∧ some k_ ≠ (.slice Ao19 t344.length co19 : Value).ownBlock) ∧ some k_ ≠ (.slice Ao27 t349.length co27 : Value).ownBlock)) (n := t358.length) (c := co61) ?_).2.2; exact (rF HO360 BK362 (.slice Ao61 t358.length co61))); (case side2 => exact (Kd.R_reads' HO360.out).2.1); (case side3 => refine (Kd.R_reads' (e := 3) (base := w.heap.size) (ok := fun k_ => ((some k_ ≠ (.slice Ao58 x12_2.length co58 : Value).ownBlock ∧ (some k_ ≠ (.slice Ao14 t336.length co14 : Value).ownBlock ∧ (some k_ ≠ (.slice Ao19 t344.length co19 : Value).ownBlock ∧ some k_ ≠ (.slice Ao27 t349.length co27 : Value).ownBlock))) ∧ some k_ ≠ (.slice Ao61 t358.length co61 : Value).ownBlock)) (n := t333.length) (c := co11) ?_).2.2; exact (rF HO_343000 BK362 (.slice Ao61 t358.length co61))); (case side4 => exact (Kd.R_reads' HO_343000.out).2.1); rintro e w113 ⟨rfl, hb⟩; have n0_ := xm (Kd.S_below (by (with_reducible repeat (first | apply Kd.S_alloc | apply Kd.S_drewN | apply Kd.S_drew)); exact (Kd.S_mono (Kd.S_far (p := ⟨gb362, 0, none⟩) (Kd.S_types HO_7.out BK362.out (by decide)) (fun _ hk => hk.2) (.slice Ao61 t358.length co61)) (fun _ h_ => h_.1))) hb); have n1_ := xm (Kd.R_below (rF HO_12 BK362 (.slice Ao61 t358.length co61)) hb); have n2_ := xm (Kd.R_below (rF HO_343000 BK362 (.slice Ao61 t358.length co61)) hb); have n3_ := xm (Kd.R_below (rF HO_344000 BK362 (.slice Ao61 t358.length co61)) hb); have n4_ := xm (Kd.R_below (rF HO_349000 BK362 (.slice Ao61 t358.length co61)) hb); have n5_ := xm (Kd.R_below (rF HO_354000 BK362 (.slice Ao61 t358.length co61)) hb); have n6_ := xm (Kd.R_below (rF HO360 BK362 (.slice Ao61 t358.length co61)) hb); have n7_ := xm (blk_below (kF BK342 NB342_362) hb); have n8_ := xm (blk_below (kF BK343 NB343_362) hb); have n9_ := xm (blk_below (kF BK348 NB348_362) hb); have n10_ := xm (blk_below (kF BK353 NB353_362) hb); have n11_ := xm (blk_below (g := gb362) (o := .cells #[.slice Ao61 t358.length co61] 25 (0, 0)) (by (with_reducible repeat (first | refine xq ?_ _ | refine xr ?_ | refine xo ?_ _)); refine blk_put (cs := #[.slice none 0 0]) ?_ 0 _ rfl; (with_reducible repeat (first | refine xq ?_ _ | refine xr ?_ | refine xo ?_ _)); exact BK362.out) hb); have n12_ := xm (below_step bG hb); revert n0_ n1_ n2_ n3_ n4_ n5_ n6_ n7_ n8_ n9_ n10_ n11_ n12_; clear HO_7 HO_12 HO_343000 HO_344000 HO_349000 HO_354000 HO360 BK342 BK343 BK348 BK353 BK362 HB; intro HO_7 HO_12 HO_343000 HO_344000 HO_349000 HO_354000 HO360 BK342 BK343 BK348 BK353 BK362 HB; (try clear hb); (try clear hk))))
               go_meet
               case rel => exact ⟨_, (true), sB, H', ⟨by have := HJ6.out; have := HK2.out; first | omega | exact Nat.le_refl _⟩, ⟨by (with_reducible repeat (first | apply Kd.S_alloc | apply Kd.S_drewN | apply Kd.S_drew)); exact Kd.S_mono HO_7.out (fun _ hk => ⟨hk.1.2.1, ⟨hk.1.2.2.1, ⟨hk.1.2.2.2.1, ⟨hk.1.2.2.2.2, hk.2⟩⟩⟩⟩)⟩, ⟨by (with_reducible repeat (first | apply Kd.R_alloc | apply Kd.R_drewN | apply Kd.R_drew)); exact Kd.R_mono HO_343000.out (fun _ hk => ⟨hk.1.2.1, ⟨hk.1.2.2.1, ⟨hk.1.2.2.2, hk.2⟩⟩⟩)⟩, ⟨by (with_reducible repeat (first | apply Kd.R_alloc | apply Kd.R_drewN | apply Kd.R_drew)); exact Kd.R_mono HO_344000.out (fun _ hk => ⟨hk.1.2.1, ⟨hk.1.2.2.1, ⟨hk.1.2.2.2, hk.2⟩⟩⟩)⟩, ⟨by (with_reducible repeat (first | apply Kd.R_alloc | apply Kd.R_drewN | apply Kd.R_drew)); exact Kd.R_mono HO_349000.out (fun _ hk => ⟨hk.1.2.1, ⟨hk.1.2.2.1, ⟨hk.1.2.2.2, hk.2⟩⟩⟩)⟩, ⟨by (with_reducible repeat (first | apply Kd.R_alloc | apply Kd.R_drewN | apply Kd.R_drew)); exact Kd.R_mono HO_354000.out (fun _ hk => ⟨hk.1.2.1, ⟨hk.1.2.2.1, ⟨hk.1.2.2.2, hk.2⟩⟩⟩)⟩, ⟨by (with_reducible repeat (first | apply Kd.R_alloc | apply Kd.R_drewN | apply Kd.R_drew)); exact Kd.R_mono HO360.out (fun _ hk => ⟨hk.1.1.1.2, ⟨hk.1.1.2, ⟨hk.1.2, hk.2⟩⟩⟩)⟩, ⟨kB BK342⟩, ⟨kB BK343⟩, ⟨kB BK348⟩, ⟨kB BK353⟩, ⟨kB BK362⟩, ⟨bG⟩⟩
             ·replace c67 := Bool.eq_false_iff.mpr c67
              subst c67
              have H1 : (laws_FnRowJoins.j2 k2 l1 t339 true t333 t336) = some true := by first | (with_reducible rfl) | (rw [if_neg (show ¬ (false = true) by decide)] at H; exact H)
              clear H
              have H := H1
              clear H1
              have H' := xm H
              clear H
              go_wp2
              repeat (go_quiet (fail); try go_wp2)
              go_meet
              case rel => exact ⟨_, (true), sB, H', ⟨by have := HJ6.out; have := HK2.out; first | omega | exact Nat.le_refl _⟩, ⟨by (with_reducible repeat (first | apply Kd.S_alloc | apply Kd.S_drewN | apply Kd.S_drew)); exact Kd.S_mono (Kd.S_far (p := ⟨gb362, 0, none⟩) (Kd.S_types HO_7.out BK362.out (by decide)) (fun _ hk => hk.2) (.slice Ao61 t358.length co61)) (fun _ hk => ⟨hk.1.1.2.1, ⟨hk.1.1.2.2.1, ⟨hk.1.1.2.2.2.1, ⟨hk.1.1.2.2.2.2, hk.1.2⟩⟩⟩⟩)⟩, ⟨by (with_reducible repeat (first | apply Kd.R_alloc | apply Kd.R_drewN | apply Kd.R_drew)); exact Kd.R_mono (Kd.R_far (p := ⟨gb362, 0, none⟩) (Kd.R_types HO_343000.out BK362.out (by decide)) (fun _ hk => hk.2) (.slice Ao61 t358.length co61)) (fun _ hk => ⟨hk.1.1.2.1, ⟨hk.1.1.2.2.1, ⟨hk.1.1.2.2.2, hk.1.2⟩⟩⟩)⟩, ⟨by (with_reducible repeat (first | apply Kd.R_alloc | apply Kd.R_drewN | apply Kd.R_drew)); exact Kd.R_mono (Kd.R_far (p := ⟨gb362, 0, none⟩) (Kd.R_types HO_344000.out BK362.out (by decide)) (fun _ hk => hk.2) (.slice Ao61 t358.length co61)) (fun _ hk => ⟨hk.1.1.2.1, ⟨hk.1.1.2.2.1, ⟨hk.1.1.2.2.2, hk.1.2⟩⟩⟩)⟩, ⟨by (with_reducible repeat (first | apply Kd.R_alloc | apply Kd.R_drewN | apply Kd.R_drew)); exact Kd.R_mono (Kd.R_far (p := ⟨gb362, 0, none⟩) (Kd.R_types HO_349000.out BK362.out (by decide)) (fun _ hk => hk.2) (.slice Ao61 t358.length co61)) (fun _ hk => ⟨hk.1.1.2.1, ⟨hk.1.1.2.2.1, ⟨hk.1.1.2.2.2, hk.1.2⟩⟩⟩)⟩, ⟨by (with_reducible repeat (first | apply Kd.R_alloc | apply Kd.R_drewN | apply Kd.R_drew)); exact Kd.R_mono (Kd.R_far (p := ⟨gb362, 0, none⟩) (Kd.R_types HO_354000.out BK362.out (by decide)) (fun _ hk => hk.2) (.slice Ao61 t358.length co61)) (fun _ hk => ⟨hk.1.1.2.1, ⟨hk.1.1.2.2.1, ⟨hk.1.1.2.2.2, hk.1.2⟩⟩⟩)⟩, ⟨by (with_reducible repeat (first | apply Kd.R_alloc | apply Kd.R_drewN | apply Kd.R_drew)); exact Kd.R_mono (Kd.R_far (p := ⟨gb362, 0, none⟩) (Kd.R_types HO360.out BK362.out (by decide)) (fun _ hk => hk.2) (.slice Ao61 t358.length co61)) (fun _ hk => ⟨hk.1.1.1.1.2, ⟨hk.1.1.1.2, ⟨hk.1.1.2, hk.1.2⟩⟩⟩)⟩, ⟨by (with_reducible repeat (first | refine xq ?_ _ | refine xr ?_ | refine xo ?_ _)); refine blk_far ?_ NB342_362.out _; (with_reducible repeat (first | refine xq ?_ _ | refine xr ?_ | refine xo ?_ _)); exact BK342.out⟩, ⟨by (with_reducible repeat (first | refine xq ?_ _ | refine xr ?_ | refine xo ?_ _)); refine blk_far ?_ NB343_362.out _; (with_reducible repeat (first | refine xq ?_ _ | refine xr ?_ | refine xo ?_ _)); exact BK343.out⟩, ⟨by (with_reducible repeat (first | refine xq ?_ _ | refine xr ?_ | refine xo ?_ _)); refine blk_far ?_ NB348_362.out _; (with_reducible repeat (first | refine xq ?_ _ | refine xr ?_ | refine xo ?_ _)); exact BK348.out⟩, ⟨by (with_reducible repeat (first | refine xq ?_ _ | refine xr ?_ | refine xo ?_ _)); refine blk_far ?_ NB353_362.out _; (with_reducible repeat (first | refine xq ?_ _ | refine xr ?_ | refine xo ?_ _)); exact BK353.out⟩, ⟨by (with_reducible repeat (first | refine xq ?_ _ | refine xr ?_ | refine xo ?_ _)); refine blk_put (cs := #[.slice none 0 0]) ?_ 0 _ rfl; (with_reducible repeat (first | refine xq ?_ _ | refine xr ?_ | refine xo ?_ _)); exact BK362.out⟩, ⟨bG⟩⟩
           case rest =>
            clear HC53
            try clear c1
            try clear c2
            try clear p2
            try clear c3
            try clear c3b0
            try clear c4
            try clear c5
            try clear c6
            try clear p6
            try clear c7
            try clear c8
            try clear c9
            try clear c10
            try clear c11
            try clear c12
            try clear c20
            try clear c21
            try clear c28
            try clear c29
            try clear c30
            try clear c32
            try clear c32b0 c32b1 c32b2
            try clear c34
            try clear c35
            try clear c36
            try clear c38
            try clear c39
            try clear c42
            try clear c44
            try clear c45
            try clear c46
            try clear c47
            try clear c49
            try clear c49b0
            try clear c50
            try clear c54
            try clear c55
            try clear c56
            try clear c62
            try clear c63
            try clear c64
            try clear p64
            try clear c65
            try clear c67
            try clear c69
            try clear c71
            try clear c72
            try clear c73
            try clear c74
            try clear c75
            try clear c77
            try clear c78
            try clear c79
            try clear c82
            try clear c83
            try clear c88
            try clear c90
            try clear c91
            try clear c92
            try clear c93
            try clear c95
            try clear c96
            try clear c97
            try clear c100
            try clear c101
            try clear c104
            try clear c105
            try clear c106
            try clear c107
            try clear c109
            try clear c110
            try clear c111
            try clear hcz102_0
            try clear hcz108_0
            try clear hcz112_0
            try clear hcz13_0
            try clear hcz15_0
            try clear hcz22_0
            try clear hcz23_0
            try clear hcz24_0
            try clear hcz31_0
            try clear hcz37_0
            try clear hcz40_0
            try clear hcz48_0
            try clear hcz57_0
            try clear hcz66_0
            try clear hcz76_0
            try clear hcz80_0
            try clear hcz84_0
            try clear hcz86_0
            try clear hcz87_0
            try clear hcz89_0
            try clear hcz94_0
            try clear hcz98_0
            try clear hfz102_0
            try clear hfz108_0
            try clear hfz112_0
            try clear hfz13_0
            try clear hfz15_0
            try clear hfz22_0
            try clear hfz23_0
            try clear hfz24_0
            try clear hfz31_0
            try clear hfz37_0
            try clear hfz40_0
            try clear hfz48_0
            try clear hfz57_0
            try clear hfz66_0
            try clear hfz76_0
            try clear hfz80_0
            try clear hfz84_0
            try clear hfz86_0
            try clear hfz87_0
            try clear hfz89_0
            try clear hfz94_0
            try clear hfz98_0
            try clear p2
            try clear p6
            obtain ⟨kq, x102_52, rfl, HA, HJ52, HO_7, HO_343000, HO_344000, HO_349000, HO_354000, HO_363000, BK342, BK343, BK348, BK353, BK362, HB⟩ := hcut
            cases kq with
            | zero => exact absurd HA.out (by simp [laws_FnRowJoins.j2])
            | succ kj52 =>
             have H := HA.out
             clear HA
             simp only [laws_FnRowJoins.j2] at H
             by_cases c114 : x102_52 = true
             ·subst c114
              have H1 : (some false) = some true := by first | (with_reducible rfl) | (rw [if_pos rfl] at H; exact H)
              clear H
              have H := H1
              clear H1
              exact absurd H (by simp)
             ·replace c114 := Bool.eq_false_iff.mpr c114
              subst c114
              have H1 : (laws_FnRowJoins.l1 kj52 l1 t339 (t339.length : Int) 0 t333 t336) = some true := by first | (with_reducible rfl) | (rw [if_neg (show ¬ (false = true) by decide)] at H; exact H)
              clear H
              have H := H1
              clear H1
              have H' := xm H
              clear H
              go_wp2
              repeat (go_quiet (fail); try go_wp2)
              go_loopg [105] kj52 (fun kq v105 w' => ∃ (x105_4 : Int), v105 = .int .i64 x105_4 ∧ Aside0 (laws_FnRowJoins.l1 kq l1 t339 (t339.length : Int) x105_4 t333 t336 = some true) ∧ Aside0 (kq ≤ kj52) ∧ Aside0 (Kd.S (Kd.slice 3 (Kd.int .i64)) 23 w' w.heap.size (fun k_ => some k_ ≠ ((.slice Ao11 t333.length co11) : Value).ownBlock ∧ some k_ ≠ ((.slice Ao14 t336.length co14) : Value).ownBlock ∧ some k_ ≠ ((.slice Ao19 t344.length co19) : Value).ownBlock ∧ some k_ ≠ ((.slice Ao27 t349.length co27) : Value).ownBlock ∧ some k_ ≠ ((.slice Ao61 t358.length co61) : Value).ownBlock) (.slice Ao16 t339.length co16) t339) ∧ Aside0 (Kd.R (Kd.int .i64) 3 w' w.heap.size (fun k_ => some k_ ≠ ((.slice Ao14 t336.length co14) : Value).ownBlock ∧ some k_ ≠ ((.slice Ao19 t344.length co19) : Value).ownBlock ∧ some k_ ≠ ((.slice Ao27 t349.length co27) : Value).ownBlock ∧ some k_ ≠ ((.slice Ao61 t358.length co61) : Value).ownBlock) (.slice Ao11 t333.length co11) t333) ∧ Aside0 (Kd.R (Kd.int .i64) 3 w' w.heap.size (fun k_ => some k_ ≠ ((.slice Ao11 t333.length co11) : Value).ownBlock ∧ some k_ ≠ ((.slice Ao19 t344.length co19) : Value).ownBlock ∧ some k_ ≠ ((.slice Ao27 t349.length co27) : Value).ownBlock ∧ some k_ ≠ ((.slice Ao61 t358.length co61) : Value).ownBlock) (.slice Ao14 t336.length co14) t336) ∧ Aside0 (Kd.R (Kd.int .i64) 3 w' w.heap.size (fun k_ => some k_ ≠ ((.slice Ao11 t333.length co11) : Value).ownBlock ∧ some k_ ≠ ((.slice Ao14 t336.length co14) : Value).ownBlock ∧ some k_ ≠ ((.slice Ao27 t349.length co27) : Value).ownBlock ∧ some k_ ≠ ((.slice Ao61 t358.length co61) : Value).ownBlock) (.slice Ao19 t344.length co19) t344) ∧ Aside0 (Kd.R (Kd.int .i64) 3 w' w.heap.size (fun k_ => some k_ ≠ ((.slice Ao11 t333.length co11) : Value).ownBlock ∧ some k_ ≠ ((.slice Ao14 t336.length co14) : Value).ownBlock ∧ some k_ ≠ ((.slice Ao19 t344.length co19) : Value).ownBlock ∧ some k_ ≠ ((.slice Ao61 t358.length co61) : Value).ownBlock) (.slice Ao27 t349.length co27) t349) ∧ Aside0 (Kd.R (Kd.int .i64) 3 w' w.heap.size (fun k_ => some k_ ≠ ((.slice Ao11 t333.length co11) : Value).ownBlock ∧ some k_ ≠ ((.slice Ao14 t336.length co14) : Value).ownBlock ∧ some k_ ≠ ((.slice Ao19 t344.length co19) : Value).ownBlock ∧ some k_ ≠ ((.slice Ao27 t349.length co27) : Value).ownBlock) (.slice Ao61 t358.length co61) t358) ∧ Aside0 (w'.heap[gb342]? = some (.cells #[(.slice Ao11 t333.length co11)] 25 (0, 0))) ∧ Aside0 (w'.heap[gb343]? = some (.cells #[(.slice Ao14 t336.length co14)] 25 (0, 0))) ∧ Aside0 (w'.heap[gb348]? = some (.cells #[(.slice Ao19 t344.length co19)] 25 (0, 0))) ∧ Aside0 (w'.heap[gb353]? = some (.cells #[(.slice Ao27 t349.length co27)] 25 (0, 0))) ∧ Aside0 (w'.heap[gb362]? = some (.cells #[(.slice Ao61 t358.length co61)] 25 (0, 0))) ∧ Aside0 (Below w.heap.size w w'))
              case atStart => exact ⟨(0), sB, H', ⟨Nat.le_refl _⟩, ⟨tB HO_7⟩, ⟨rB HO_343000⟩, ⟨rB HO_344000⟩, ⟨rB HO_349000⟩, ⟨rB HO_354000⟩, ⟨rB HO_363000⟩, ⟨kB BK342⟩, ⟨kB BK343⟩, ⟨kB BK348⟩, ⟨kB BK353⟩, ⟨kB BK362⟩, ⟨bG⟩⟩
              case round =>
               clear H'
               try clear c1
               try clear c2
               try clear p2
               try clear c3
               try clear c3b0
               try clear c4
               try clear c5
               try clear c6
               try clear p6
               try clear c7
               try clear c8
               try clear c9
               try clear c10
               try clear c11
               try clear c12
               try clear c20
               try clear c21
               try clear c28
               try clear c29
               try clear c30
               try clear c32
               try clear c32b0 c32b1 c32b2
               try clear c34
               try clear c35
               try clear c36
               try clear c38
               try clear c39
               try clear c42
               try clear c44
               try clear c45
               try clear c46
               try clear c47
               try clear c49
               try clear c49b0
               try clear c50
               try clear c54
               try clear c55
               try clear c56
               try clear c62
               try clear c63
               try clear c64
               try clear p64
               try clear c65
               try clear c67
               try clear c69
               try clear c71
               try clear c72
               try clear c73
               try clear c74
               try clear c75
               try clear c77
               try clear c78
               try clear c79
               try clear c82
               try clear c83
               try clear c88
               try clear c90
               try clear c91
               try clear c92
               try clear c93
               try clear c95
               try clear c96
               try clear c97
               try clear c100
               try clear c101
               try clear c104
               try clear c105
               try clear c106
               try clear c107
               try clear c109
               try clear c110
               try clear c111
               try clear c114
               try clear hcz102_0
               try clear hcz108_0
               try clear hcz112_0
               try clear hcz13_0
               try clear hcz15_0
               try clear hcz22_0
               try clear hcz23_0
               try clear hcz24_0
               try clear hcz31_0
               try clear hcz37_0
               try clear hcz40_0
               try clear hcz48_0
               try clear hcz57_0
               try clear hcz66_0
               try clear hcz76_0
               try clear hcz80_0
               try clear hcz84_0
               try clear hcz86_0
               try clear hcz87_0
               try clear hcz89_0
               try clear hcz94_0
               try clear hcz98_0
               try clear hfz102_0
               try clear hfz108_0
               try clear hfz112_0
               try clear hfz13_0
               try clear hfz15_0
               try clear hfz22_0
               try clear hfz23_0
               try clear hfz24_0
               try clear hfz31_0
               try clear hfz37_0
               try clear hfz40_0
               try clear hfz48_0
               try clear hfz57_0
               try clear hfz66_0
               try clear hfz76_0
               try clear hfz80_0
               try clear hfz84_0
               try clear hfz86_0
               try clear hfz87_0
               try clear hfz89_0
               try clear hfz94_0
               try clear hfz98_0
               try clear p2
               try clear p6
               try clear p64
               obtain ⟨x105_4, rfl, HA, HK4, HO_103, HO_343000, HO_344000, HO_349000, HO_354000, HO_363000, BK342, BK343, BK348, BK353, BK362, HB⟩ := hrel
               cases gk with
               | zero => exact absurd HA.out (by simp [laws_FnRowJoins.l1])
               | succ k4 =>
                have H := HA.out
                clear HA
                simp only [laws_FnRowJoins.l1] at H
                by_cases c115 : x105_4 < (t339.length : Int)
                ·rw [if_pos c115] at H
                 have c115b0 : decide (x105_4 < (t339.length : Int)) = true := decide_eq_true c115
                 clear c115
                 by_cases c116 : 0 ≤ x105_4
                 ·rw [if_pos c116] at H
                  have c116b0 : decide (0 ≤ x105_4) = true := decide_eq_true c116
                  clear c116
                  by_cases c117 : x105_4 < (t339.length : Int)
                  ·rw [if_pos c117] at H
                   have c117b0 : decide (x105_4 < (t339.length : Int)) = true := decide_eq_true c117
                   clear c117
                   by_cases c118 : 0 < ((rd_L2 t339 x105_4).length : Int)
                   ·rw [if_pos c118] at H
                    have c118b0 : decide (0 < ((rd_L2 t339 x105_4).length : Int)) = true := decide_eq_true c118
                    have c118b1 : decide (0 < (rd_L2 t339 x105_4).length) = true := decide_eq_true (by omega)
                    clear c118
                    by_cases c119 : 0 ≤ (rd (rd_L2 t339 x105_4) 0)
                    ·rw [if_pos c119] at H
                     have c119b0 : decide (0 ≤ (rd (rd_L2 t339 x105_4) 0)) = true := decide_eq_true c119
                     clear c119
                     by_cases c120 : (rd (rd_L2 t339 x105_4) 0) < (t333.length : Int)
                     ·rw [if_pos c120] at H
                      have c120b0 : decide ((rd (rd_L2 t339 x105_4) 0) < (t333.length : Int)) = true := decide_eq_true c120
                      clear c120
                      by_cases c121 : 1 < ((rd_L2 t339 x105_4).length : Int)
                      ·rw [if_pos c121] at H
                       have c121b0 : decide (1 < ((rd_L2 t339 x105_4).length : Int)) = true := decide_eq_true c121
                       have c121b1 : decide (1 < (rd_L2 t339 x105_4).length) = true := decide_eq_true (by omega)
                       clear c121
                       by_cases c122 : 0 ≤ (rd (rd_L2 t339 x105_4) 1)
                       ·rw [if_pos c122] at H
                        have c122b0 : decide (0 ≤ (rd (rd_L2 t339 x105_4) 1)) = true := decide_eq_true c122
                        clear c122
                        by_cases c123 : (rd (rd_L2 t339 x105_4) 1) < (t336.length : Int)
                        ·rw [if_pos c123] at H
                         have c123b0 : decide ((rd (rd_L2 t339 x105_4) 1) < (t336.length : Int)) = true := decide_eq_true c123
                         clear c123
                         by_cases c124 : (rd t333 (rd (rd_L2 t339 x105_4) 0)) = (rd t336 (rd (rd_L2 t339 x105_4) 1))
                         ·rw [if_pos c124] at H
                          have c124b0 : ((rd t333 (rd (rd_L2 t339 x105_4) 0)) == (rd t336 (rd (rd_L2 t339 x105_4) 1))) = true := beq_iff_eq.mpr c124
                          have c124b1 : ((rd t333 (rd (rd_L2 t339 x105_4) 0)) != (rd t336 (rd (rd_L2 t339 x105_4) 1))) = false := bne_eq_false_iff_eq.mpr c124
                          clear c124
                          have H' := xm H
                          clear H
                          have p365 : 0 ≤ (x105_4 : Int) := of_decide_eq_true aB
                          have q365 : x105_4 < (t339.length : Int) := of_decide_eq_true aB
                          obtain ⟨ad365, A365_0, c365_0, e365, hx365_0, hl365_0, hi365_0⟩ := at_L2 (Kd.S_reads' HO_103.out).2.2 x105_4 p365 q365
                          cases e365
                          obtain ⟨ce365, hce365, hMe365, hcc365⟩ := Kd.S_get HO_103.out [] x105_4 p365 (by first | exact q365 | exact of_decide_eq_true aB | (have e_ := (Kd.S_reads' HO_103.out).1; omega))
                          obtain ⟨ve365_0, rfl, ge365_0⟩ := hMe365
                          have hv365_0 := hcc365 0 _ rfl
                          rw [Nat.add_zero, show ((Kd.slice 3 (Kd.int .i64))).sz = 1 from rfl, Nat.mul_one] at hv365_0
                          replace hv365_0 := Option.some.inj (hv365_0.symm.trans hx365_0)
                          rw [hv365_0] at ge365_0
                          have HL365_0 := xm (show Kd.R (Kd.int .i64) 3 _ _ _ _ (rd_L2 t339 x105_4) from ge365_0)
                          clear hv365_0 ge365_0
                          clear hcc365 hce365
                          have HR365_0 := xm hi365_0
                          have HC365_0 := xm hl365_0
                          clear hi365_0 hl365_0
                          replace p365 := eq_true p365
                          replace q365 := eq_true q365
                          have hnb125 := NB342_343.out
                          have hnc125 := NB343_342.out
                          have hnb126 := NB342_348.out
                          have hnc126 := NB348_342.out
                          have hnb127 := NB342_353.out
                          have hnc127 := NB353_342.out
                          have hnb128 := NB342_362.out
                          have hnc128 := NB362_342.out
                          obtain ⟨hcz129_0, hfz129_0⟩ := cz1 BK342.out
                          have p366 : 0 ≤ (0 : Int) := (by omega)
                          have q366 : 0 < ((rd_L2 t339 x105_4).length : Int) := of_decide_eq_true aB
                          obtain ⟨ad366, e366, hx366_0⟩ := Kd.at_int (by repeat (first | (with_reducible exact HR365_0.out) | (with_reducible refine Kd.C_alloc ?_ _) | (with_reducible refine Kd.C_drewN ?_ _) | (with_reducible refine Kd.C_drew ?_) | exact HR365_0.out)) 0 p366 q366
                          cases e366
                          have qi366 : (0 < (rd_L2 t339 x105_4).length) = True := eq_true (by omega)
                          (try rw [show ((0 : Int)).toNat = 0 from rfl] at hx366_0)
                          (try rw [Addr.add_zero'] at hx366_0)
                          replace p366 := eq_true p366
                          replace q366 := eq_true q366
                          have p367 : 0 ≤ ((rd (rd_L2 t339 x105_4) 0) : Int) := of_decide_eq_true aB
                          have q367 : (rd (rd_L2 t339 x105_4) 0) < (t333.length : Int) := of_decide_eq_true aB
                          obtain ⟨ad367, e367, hx367_0⟩ := Kd.at_int (Kd.R_reads' HO_343000.out).2.2 (rd (rd_L2 t339 x105_4) 0) p367 q367
                          cases e367
                          replace p367 := eq_true p367
                          replace q367 := eq_true q367
                          have hnb130 := NB343_348.out
                          have hnc130 := NB348_343.out
                          have hnb131 := NB343_353.out
                          have hnc131 := NB353_343.out
                          have hnb132 := NB343_362.out
                          have hnc132 := NB362_343.out
                          obtain ⟨hcz133_0, hfz133_0⟩ := cz1 BK343.out
                          have p368 : 0 ≤ (1 : Int) := (by omega)
                          have q368 : 1 < ((rd_L2 t339 x105_4).length : Int) := of_decide_eq_true aB
                          obtain ⟨ad368, e368, hx368_0⟩ := Kd.at_int (by repeat (first | (with_reducible exact HR365_0.out) | (with_reducible refine Kd.C_alloc ?_ _) | (with_reducible refine Kd.C_drewN ?_ _) | (with_reducible refine Kd.C_drew ?_) | exact HR365_0.out)) 1 p368 q368
                          obtain rfl : ad366 = ad368 := (by injection e368)
                          (try simp only [show (1 : Int).toNat = 1 from rfl, Nat.reduceMul, Nat.reduceEqDiff, Go.Addr.add, ↓reduceIte] at hx368_0)
                          have qi368 : (1 < (rd_L2 t339 x105_4).length) = True := eq_true (by omega)
                          (try rw [show ((1 : Int)).toNat = 1 from rfl] at hx368_0)
                          replace p368 := eq_true p368
                          replace q368 := eq_true q368
                          have p369 : 0 ≤ ((rd (rd_L2 t339 x105_4) 1) : Int) := of_decide_eq_true aB
                          have q369 : (rd (rd_L2 t339 x105_4) 1) < (t336.length : Int) := of_decide_eq_true aB
                          obtain ⟨ad369, e369, hx369_0⟩ := Kd.at_int (Kd.R_reads' HO_344000.out).2.2 (rd (rd_L2 t339 x105_4) 1) p369 q369
                          cases e369
                          replace p369 := eq_true p369
                          replace q369 := eq_true q369
                          go_wp2
                          repeat (go_quiet (fail); try go_wp2)
                          go_roundg k4
                          case measure => have := HJ6.out; have := HK2.out; have := HJ52.out; have := HK4.out; omega
                          case rel => exact ⟨(wrap64 (x105_4 + 1)), sB, H', ⟨by have := HJ6.out; have := HK2.out; have := HJ52.out; have := HK4.out; omega⟩, ⟨tB HO_103⟩, ⟨rB HO_343000⟩, ⟨rB HO_344000⟩, ⟨rB HO_349000⟩, ⟨rB HO_354000⟩, ⟨rB HO_363000⟩, ⟨kB BK342⟩, ⟨kB BK343⟩, ⟨kB BK348⟩, ⟨kB BK353⟩, ⟨kB BK362⟩, ⟨bG⟩⟩
                         ·rw [if_neg c124] at H
                          have c124b0 : ((rd t333 (rd (rd_L2 t339 x105_4) 0)) == (rd t336 (rd (rd_L2 t339 x105_4) 1))) = false := beq_eq_false_iff_ne.mpr c124
                          have c124b1 : ((rd t333 (rd (rd_L2 t339 x105_4) 0)) != (rd t336 (rd (rd_L2 t339 x105_4) 1))) = true := bne_iff_ne.mpr c124
                          exact absurd H (by simp)
                        ·rw [if_neg c123] at H
                         exact absurd H (by simp)
                       ·rw [if_neg c122] at H
                        exact absurd H (by simp)
                      ·rw [if_neg c121] at H
                       exact absurd H (by simp)
                     ·rw [if_neg c120] at H
                      exact absurd H (by simp)
                    ·rw [if_neg c119] at H
                     exact absurd H (by simp)
                   ·rw [if_neg c118] at H
                    exact absurd H (by simp)
                  ·rw [if_neg c117] at H
                   exact absurd H (by simp)
                 ·rw [if_neg c116] at H
                  exact absurd H (by simp)
                ·rw [if_neg c115] at H
                 have c115b0 : decide (x105_4 < (t339.length : Int)) = false := decide_eq_false c115
                 clear c115
                 have H' := xm H
                 clear H
                 go_wp2
                 repeat (go_quiet (fail); try go_wp2)
                 go_meet
                 case rel => exact ⟨_, H', ⟨by have := HJ6.out; have := HK2.out; have := HJ52.out; have := HK4.out; first | omega | exact Nat.le_refl _⟩, ⟨by (with_reducible repeat (first | apply Kd.R_alloc | apply Kd.R_drewN | apply Kd.R_drew)); exact Kd.R_mono HO_343000.out (fun _ hk => ⟨hk.1, ⟨hk.2.1, hk.2.2.1⟩⟩)⟩, ⟨by (with_reducible repeat (first | apply Kd.R_alloc | apply Kd.R_drewN | apply Kd.R_drew)); exact Kd.R_mono HO_344000.out (fun _ hk => ⟨hk.1, ⟨hk.2.1, hk.2.2.1⟩⟩)⟩, ⟨by (with_reducible repeat (first | apply Kd.R_alloc | apply Kd.R_drewN | apply Kd.R_drew)); exact Kd.R_mono HO_349000.out (fun _ hk => ⟨hk.1, ⟨hk.2.1, hk.2.2.1⟩⟩)⟩, ⟨by (with_reducible repeat (first | apply Kd.R_alloc | apply Kd.R_drewN | apply Kd.R_drew)); exact Kd.R_mono HO_354000.out (fun _ hk => ⟨hk.1, ⟨hk.2.1, hk.2.2.1⟩⟩)⟩, ⟨kB BK342⟩, ⟨kB BK343⟩, ⟨kB BK348⟩, ⟨kB BK353⟩, ⟨bG⟩⟩
       ·replace c44 := Bool.eq_false_iff.mpr c44
        subst c44
        have H1 : (laws_FnRowJoins.j4 kj6 l1) = some true := by first | (with_reducible rfl) | (rw [if_neg (show ¬ (false = true) by decide)] at H; exact H)
        clear H
        have H := H1
        clear H1
        have H' := xm H
        clear H
        go_wp2
        repeat (go_quiet (fail); try go_wp2)
        go_meet
        case rel => exact ⟨_, H', ⟨by have := HJ6.out; first | omega | exact Nat.le_refl _⟩, ⟨rB HO_343000⟩, ⟨rB HO_344000⟩, ⟨rB HO_349000⟩, ⟨rB HO_354000⟩, ⟨kB BK342⟩, ⟨kB BK343⟩, ⟨kB BK348⟩, ⟨kB BK353⟩, ⟨bG⟩⟩
     case rest =>
      clear HC43
      try clear c1
      try clear c2
      try clear p2
      try clear c3
      try clear c3b0
      try clear p3
      try clear q3
      try clear hx3
      try clear qi3
      try clear c4
      try clear c5
      try clear c6
      try clear p6
      try clear c7
      try clear c8
      try clear c9
      try clear c10
      try clear c11
      try clear c12
      try clear c13
      try clear c20
      try clear c21
      try clear c28
      try clear c29
      try clear c30
      try clear c32
      try clear c32b0 c32b1 c32b2
      try clear c34
      try clear c35
      try clear c36
      try clear p36
      try clear q36
      try clear hx36
      try clear qi36
      try clear c38
      try clear c39
      try clear c42
      try clear c44
      try clear c45
      try clear c46
      try clear c47
      try clear c49
      try clear c49b0
      try clear c50
      try clear c54
      try clear c55
      try clear c56
      try clear c62
      try clear c63
      try clear c64
      try clear p64
      try clear c65
      try clear c67
      try clear c69
      try clear c71
      try clear c72
      try clear c73
      try clear c74
      try clear c75
      try clear c77
      try clear c78
      try clear c79
      try clear c82
      try clear c83
      try clear c88
      try clear c90
      try clear c91
      try clear c92
      try clear c93
      try clear c95
      try clear c96
      try clear c97
      try clear c100
      try clear c101
      try clear c104
      try clear c105
      try clear c106
      try clear c107
      try clear c109
      try clear c110
      try clear c111
      try clear c114
      try clear c115
      try clear c115b0
      try clear c116
      try clear c116b0
      try clear c117
      try clear c117b0
      try clear c118
      try clear c118b0 c118b1
      try clear c119
      try clear c119b0
      try clear c120
      try clear c120b0
      try clear c121
      try clear c121b0 c121b1
      try clear c122
      try clear c122b0
      try clear c123
      try clear c123b0
      try clear c124
      try clear c124b0 c124b1
      try clear c125
      try clear c126
      try clear c127
      try clear c128
      try clear c130
      try clear c131
      try clear c132
      try clear hcz102_0
      try clear hcz108_0
      try clear hcz112_0
      try clear hcz129_0
      try clear hcz133_0
      try clear hcz13_0
      try clear hcz15_0
      try clear hcz22_0
      try clear hcz23_0
      try clear hcz24_0
      try clear hcz31_0
      try clear hcz37_0
      try clear hcz40_0
      try clear hcz48_0
      try clear hcz57_0
      try clear hcz66_0
      try clear hcz76_0
      try clear hcz80_0
      try clear hcz84_0
      try clear hcz86_0
      try clear hcz87_0
      try clear hcz89_0
      try clear hcz94_0
      try clear hcz98_0
      try clear hfz102_0
      try clear hfz108_0
      try clear hfz112_0
      try clear hfz129_0
      try clear hfz133_0
      try clear hfz13_0
      try clear hfz15_0
      try clear hfz22_0
      try clear hfz23_0
      try clear hfz24_0
      try clear hfz31_0
      try clear hfz37_0
      try clear hfz40_0
      try clear hfz48_0
      try clear hfz57_0
      try clear hfz66_0
      try clear hfz76_0
      try clear hfz80_0
      try clear hfz84_0
      try clear hfz86_0
      try clear hfz87_0
      try clear hfz89_0
      try clear hfz94_0
      try clear hfz98_0
      try clear hx365_0
      try clear hx366_0
      try clear hx367_0
      try clear hx368_0
      try clear hx369_0
      try clear p2
      try clear p365
      try clear p366
      try clear p367
      try clear p368
      try clear p369
      try clear p6
      try clear p64
      try clear q365
      try clear q366
      try clear q367
      try clear q368
      try clear q369
      obtain ⟨kq, HA, HJ42, HO_343000, HO_344000, HO_349000, HO_354000, BK342, BK343, BK348, BK353, HB⟩ := hcut
      cases kq with
      | zero => exact absurd HA.out (by simp [laws_FnRowJoins.j4])
      | succ kj42 =>
       have H := HA.out
       clear HA
       simp only [laws_FnRowJoins.j4] at H
       replace H := Option.bind_eq_some_iff.mp H
       obtain ⟨⟨t370, t373⟩, A1340, H⟩ := H
       replace H : ((impl_PickCells.f kj42 t370 t373).bind fun bt377 => ((spec_PickCells.f kj42 t370 t373).bind fun bt382 => (if (bt377.2 == bt382.2) = true then ((laws_sameRow.f kj42 bt377.1 bt382.1).bind fun t387 => (some t387)) else (some false)))) = some true := H
       have A134 := xm A1340
       clear A1340
       replace H := Option.bind_eq_some_iff.mp H
       obtain ⟨⟨t377, t380⟩, A1350, H⟩ := H
       replace H : ((spec_PickCells.f kj42 t370 t373).bind fun bt382 => (if (t380 == bt382.2) = true then ((laws_sameRow.f kj42 t377 bt382.1).bind fun t387 => (some t387)) else (some false))) = some true := H
       have A135 := xm A1350
       clear A1350
       replace H := Option.bind_eq_some_iff.mp H
       obtain ⟨⟨t382, t385⟩, A1360, H⟩ := H
       replace H : (if (t380 == t385) = true then ((laws_sameRow.f kj42 t377 t382).bind fun t387 => (some t387)) else (some false)) = some true := H
       have A136 := xm A1360
       clear A1360
       by_cases c137 : (t380 == t385) = true
       ·rw [if_pos c137] at H
        have c137b0 : (t380 == t385) = true := c137
        (try (have c137b1 : decide (t380 = t385) = true := by simpa using c137))
        (try (have c137b2 : (t380 == t385) = true := by simpa using c137))
        clear c137
        replace H := Option.bind_eq_some_iff.mp H
        obtain ⟨t387, A1380, H⟩ := H
        replace H : (some t387) = some true := H
        have A138 := xm A1380
        clear A1380
        have hlaw_ := xm (Option.some.inj H : t387 = true)
        clear H
        go_wp2_with (first | (go_at_call 10; (with_reducible refine (spec_DrawPickCells.calls kj42 _ _ l1 t370 t373 _ ?side1 ?side2 A134.out).mono ?_); (case side1 => exact cB (Kd.C_below HR1.out HB.out)); (case side2 => exact HC1.out); rintro e w139 ⟨v371, v374, rfl, ho0, ho1, hb⟩; have n0_ := xm (Kd.R_mono (Kd.R_told (Kd.R_told (Kd.R_old (rB HO_343000) hb) (Kd.R_base ho0)) (Kd.R_base ho1)) (fun _ h_ => h_.1)); have n1_ := xm (Kd.R_mono (Kd.R_told (Kd.R_told (Kd.R_old (rB HO_344000) hb) (Kd.R_base ho0)) (Kd.R_base ho1)) (fun _ h_ => h_.1)); have n2_ := xm (Kd.R_mono (Kd.R_told (Kd.R_told (Kd.R_old (rB HO_349000) hb) (Kd.R_base ho0)) (Kd.R_base ho1)) (fun _ h_ => h_.1)); have n3_ := xm (Kd.R_mono (Kd.R_told (Kd.R_told (Kd.R_old (rB HO_354000) hb) (Kd.R_base ho0)) (Kd.R_base ho1)) (fun _ h_ => h_.1)); have n4_ := xm (Kd.R_lower (Kd.R_new' (Kd.R_new' (Kd.R_new' (Kd.R_new' ho0 (Kd.R_lt (rB HO_343000))) (Kd.R_lt (rB HO_344000))) (Kd.R_lt (rB HO_349000))) (Kd.R_lt (rB HO_354000))) (xz bG)); have n5_ := xm (Kd.R_lower (Kd.R_new' (Kd.R_new' (Kd.R_new' (Kd.R_new' ho1 (Kd.R_lt (rB HO_343000))) (Kd.R_lt (rB HO_344000))) (Kd.R_lt (rB HO_349000))) (Kd.R_lt (rB HO_354000))) (xz bG)); have n6_ := xm (blk_below (kB BK342) hb); have n7_ := xm (blk_below (kB BK343) hb); have n8_ := xm (blk_below (kB BK348) hb); have n9_ := xm (blk_below (kB BK353) hb); have n10_ := xm (below_step bG hb); revert n0_ n1_ n2_ n3_ n4_ n5_ n6_ n7_ n8_ n9_ n10_; clear HO_343000 HO_344000 HO_349000 HO_354000 BK342 BK343 BK348 BK353 HB; intro HO_343000 HO_344000 HO_349000 HO_354000 HO372 HO375 BK342 BK343 BK348 BK353 HB; (try clear hb); (try clear ho0); (try clear ho1)) | ((with_reducible refine gate_dst (N := 18) rfl ?_); (try (refine gate_guard (by rfl) ?_; dsimp only)); refine box_event ?hg (N := 18) ?hd (cs := #[.slice none 0 0]) (t := 25) ?hr ?_; (case hd => rfl); (case hg => rfl); (case hr => exact zB); intro gb376 hg w140 hbox hb; have n0_ := xm (Kd.R_below (rB HO_343000) hb); have n1_ := xm (Kd.R_below (rB HO_344000) hb); have n2_ := xm (Kd.R_below (rB HO_349000) hb); have n3_ := xm (Kd.R_below (rB HO_354000) hb); have n4_ := xm (Kd.R_below (rB HO372) hb); have n5_ := xm (Kd.R_below (rB HO375) hb); have n6_ := xm (blk_below (kB BK342) hb); have n7_ := xm (blk_below (kB BK343) hb); have n8_ := xm (blk_below (kB BK348) hb); have n9_ := xm (blk_below (kB BK353) hb); have n10_ := xm (below_step bG hb); have n11_ := xm (hbox); have n12_ := xm ((by rw [hg]; exact (xz bG) : w.heap.size ≤ gb376)); have n13_ := xm ((by rw [hg]; exact (xz bG) : w.heap.size ≤ gb376)); have n14_ := xm ((by rw [hg]; exact Nat.ne_of_lt (blk_lt (kB BK342)) : gb342 ≠ gb376)); have n15_ := xm ((by rw [hg]; exact Nat.ne_of_gt (blk_lt (kB BK342)) : gb376 ≠ gb342)); have n16_ := xm ((by rw [hg]; exact Nat.ne_of_lt (blk_lt (kB BK343)) : gb343 ≠ gb376)); have n17_ := xm ((by rw [hg]; exact Nat.ne_of_gt (blk_lt (kB BK343)) : gb376 ≠ gb343)); have n18_ := xm ((by rw [hg]; exact Nat.ne_of_lt (blk_lt (kB BK348)) : gb348 ≠ gb376)); have n19_ := xm ((by rw [hg]; exact Nat.ne_of_gt (blk_lt (kB BK348)) : gb376 ≠ gb348)); have n20_ := xm ((by rw [hg]; exact Nat.ne_of_lt (blk_lt (kB BK353)) : gb353 ≠ gb376)); have n21_ := xm ((by rw [hg]; exact Nat.ne_of_gt (blk_lt (kB BK353)) : gb376 ≠ gb353)); revert n0_ n1_ n2_ n3_ n4_ n5_ n6_ n7_ n8_ n9_ n10_ n11_ n12_ n13_ n14_ n15_ n16_ n17_ n18_ n19_ n20_ n21_; clear HO_343000 HO_344000 HO_349000 HO_354000 HO372 HO375 BK342 BK343 BK348 BK353 HB; intro HO_343000 HO_344000 HO_349000 HO_354000 HO372 HO375 BK342 BK343 BK348 BK353 HB BK376 GW376 GE376 NB342_376 NB376_342 NB343_376 NB376_343 NB348_376 NB376_348 NB353_376 NB376_353; clear hb hbox hg; obtain ⟨Ao141, co141, eo141⟩ := Kd.R_slice HO372.out; subst eo141; have hnb142 := NB376_342.out; have hnc142 := NB342_376.out; have hnb143 := NB376_343.out; have hnc143 := NB343_376.out; have hnb144 := NB376_348.out; have hnc144 := NB348_376.out; have hnb145 := NB376_353.out; have hnc145 := NB353_376.out; obtain ⟨hcz146_0, hfz146_0⟩ := cz1 BK376.out; obtain ⟨Ao147, co147, eo147⟩ := Kd.R_slice HO375.out; subst eo147) | (go_at_call 8; (with_reducible refine (impl_PickCells.calls kj42 _ _ t370 _ _ t373 t377 t380 _ ?side1 ?side2 ?side3 ?side4 A135.out).mono ?_); (case side1 => refine (Kd.R_reads' (e := 3) (base := w.heap.size) (ok := fun k_ => ((((some k_ ≠ (.slice Ao147 t373.length co147 : Value).ownBlock ∧ some k_ ≠ (.slice Ao11 t333.length co11 : Value).ownBlock) ∧ some k_ ≠ (.slice Ao14 t336.length co14 : Value).ownBlock) ∧ some k_ ≠ (.slice Ao19 t344.length co19 : Value).ownBlock) ∧ some k_ ≠ (.slice Ao27 t349.length co27 : Value).ownBlock)) (n := t370.length) (c := co141) ?_).2.2; exact (rF HO372 BK376 (.slice Ao141 t370.length co141))); (case side2 => exact (Kd.R_reads' HO372.out).2.1); (case side3 => refine (Kd.R_reads' (e := 3) (base := w.heap.size) (ok := fun k_ => ((((some k_ ≠ (.slice Ao141 t370.length co141 : Value).ownBlock ∧ some k_ ≠ (.slice Ao11 t333.length co11 : Value).ownBlock) ∧ some k_ ≠ (.slice Ao14 t336.length co14 : Value).ownBlock) ∧ some k_ ≠ (.slice Ao19 t344.length co19 : Value).ownBlock) ∧ some k_ ≠ (.slice Ao27 t349.length co27 : Value).ownBlock)) (n := t373.length) (c := co147) ?_).2.2; exact (rF HO375 BK376 (.slice Ao141 t370.length co141))); (case side4 => exact (Kd.R_reads' HO375.out).2.1); rintro e w148 ⟨v378, rfl, ho0, hb⟩; have n0_ := xm (Kd.R_elder' (rF HO_343000 BK376 (.slice Ao141 t370.length co141)) (Kd.R_base ho0) hb); have n1_ := xm (Kd.R_elder' (rF HO_344000 BK376 (.slice Ao141 t370.length co141)) (Kd.R_base ho0) hb); have n2_ := xm (Kd.R_elder' (rF HO_349000 BK376 (.slice Ao141 t370.length co141)) (Kd.R_base ho0) hb); have n3_ := xm (Kd.R_elder' (rF HO_354000 BK376 (.slice Ao141 t370.length co141)) (Kd.R_base ho0) hb); have n4_ := xm (Kd.R_elder' (rF HO372 BK376 (.slice Ao141 t370.length co141)) (Kd.R_base ho0) hb); have n5_ := xm (Kd.R_elder' (rF HO375 BK376 (.slice Ao141 t370.length co141)) (Kd.R_base ho0) hb); have n6_ := xm (Kd.R_lower (Kd.R_new' (Kd.R_new' (Kd.R_new' (Kd.R_new' (Kd.R_new' (Kd.R_new' ho0 (Kd.R_lt (rF HO_343000 BK376 (.slice Ao141 t370.length co141)))) (Kd.R_lt (rF HO_344000 BK376 (.slice Ao141 t370.length co141)))) (Kd.R_lt (rF HO_349000 BK376 (.slice Ao141 t370.length co141)))) (Kd.R_lt (rF HO_354000 BK376 (.slice Ao141 t370.length co141)))) (Kd.R_lt (rF HO372 BK376 (.slice Ao141 t370.length co141)))) (Kd.R_lt (rF HO375 BK376 (.slice Ao141 t370.length co141)))) (xz bG)); have n7_ := xm (blk_below (kF BK342 NB342_376) hb); have n8_ := xm (blk_below (kF BK343 NB343_376) hb); have n9_ := xm (blk_below (kF BK348 NB348_376) hb); have n10_ := xm (blk_below (kF BK353 NB353_376) hb); have n11_ := xm (blk_below (g := gb376) (o := .cells #[.slice Ao141 t370.length co141] 25 (0, 0)) (by (with_reducible repeat (first | refine xq ?_ _ | refine xr ?_ | refine xo ?_ _)); refine blk_put (cs := #[.slice none 0 0]) ?_ 0 _ rfl; (with_reducible repeat (first | refine xq ?_ _ | refine xr ?_ | refine xo ?_ _)); exact BK376.out) hb); have n12_ := xm (below_step bG hb); revert n0_ n1_ n2_ n3_ n4_ n5_ n6_ n7_ n8_ n9_ n10_ n11_ n12_; clear HO_343000 HO_344000 HO_349000 HO_354000 HO372 HO375 BK342 BK343 BK348 BK353 BK376 HB; intro HO_343000 HO_344000 HO_349000 HO_354000 HO372 HO375 HO379 BK342 BK343 BK348 BK353 BK376 HB; (try clear hb); (try clear ho0)) | ((with_reducible refine gate_dst (N := 20) rfl ?_); (try (refine gate_guard (by rfl) ?_; dsimp only)); refine box_event ?hg (N := 20) ?hd (cs := #[.slice none 0 0]) (t := 25) ?hr ?_; (case hd => rfl); (case hg => rfl); (case hr => exact zB); intro gb381 hg w149 hbox hb; have n0_ := xm (Kd.R_below (rB HO_343000) hb); have n1_ := xm (Kd.R_below (rB HO_344000) hb); have n2_ := xm (Kd.R_below (rB HO_349000) hb); have n3_ := xm (Kd.R_below (rB HO_354000) hb); have n4_ := xm (Kd.R_below (rB HO372) hb); have n5_ := xm (Kd.R_below (rB HO375) hb); have n6_ := xm (Kd.R_below (rB HO379) hb); have n7_ := xm (blk_below (kB BK342) hb); have n8_ := xm (blk_below (kB BK343) hb); have n9_ := xm (blk_below (kB BK348) hb); have n10_ := xm (blk_below (kB BK353) hb); have n11_ := xm (blk_below (kB BK376) hb); have n12_ := xm (below_step bG hb); have n13_ := xm (hbox); have n14_ := xm ((by rw [hg]; exact (xz bG) : w.heap.size ≤ gb381)); have n15_ := xm ((by rw [hg]; exact (xz bG) : w.heap.size ≤ gb381)); have n16_ := xm ((by rw [hg]; exact Nat.ne_of_lt (blk_lt (kB BK342)) : gb342 ≠ gb381)); have n17_ := xm ((by rw [hg]; exact Nat.ne_of_gt (blk_lt (kB BK342)) : gb381 ≠ gb342)); have n18_ := xm ((by rw [hg]; exact Nat.ne_of_lt (blk_lt (kB BK343)) : gb343 ≠ gb381)); have n19_ := xm ((by rw [hg]; exact Nat.ne_of_gt (blk_lt (kB BK343)) : gb381 ≠ gb343)); have n20_ := xm ((by rw [hg]; exact Nat.ne_of_lt (blk_lt (kB BK348)) : gb348 ≠ gb381)); have n21_ := xm ((by rw [hg]; exact Nat.ne_of_gt (blk_lt (kB BK348)) : gb381 ≠ gb348)); have n22_ := xm ((by rw [hg]; exact Nat.ne_of_lt (blk_lt (kB BK353)) : gb353 ≠ gb381)); have n23_ := xm ((by rw [hg]; exact Nat.ne_of_gt (blk_lt (kB BK353)) : gb381 ≠ gb353)); have n24_ := xm ((by rw [hg]; exact Nat.ne_of_lt (blk_lt (kB BK376)) : gb376 ≠ gb381)); have n25_ := xm ((by rw [hg]; exact Nat.ne_of_gt (blk_lt (kB BK376)) : gb381 ≠ gb376)); revert n0_ n1_ n2_ n3_ n4_ n5_ n6_ n7_ n8_ n9_ n10_ n11_ n12_ n13_ n14_ n15_ n16_ n17_ n18_ n19_ n20_ n21_ n22_ n23_ n24_ n25_; clear HO_343000 HO_344000 HO_349000 HO_354000 HO372 HO375 HO379 BK342 BK343 BK348 BK353 BK376 HB; intro HO_343000 HO_344000 HO_349000 HO_354000 HO372 HO375 HO379 BK342 BK343 BK348 BK353 BK376 HB BK381 GW381 GE381 NB342_381 NB381_342 NB343_381 NB381_343 NB348_381 NB381_348 NB353_381 NB381_353 NB376_381 NB381_376; clear hb hbox hg; obtain ⟨Ao150, co150, eo150⟩ := Kd.R_slice HO379.out; subst eo150; have hnb151 := NB381_342.out; have hnc151 := NB342_381.out; have hnb152 := NB381_343.out; have hnc152 := NB343_381.out; have hnb153 := NB381_348.out; have hnc153 := NB348_381.out; have hnb154 := NB381_353.out; have hnc154 := NB353_381.out; have hnb155 := NB381_376.out; have hnc155 := NB376_381.out; obtain ⟨hcz156_0, hfz156_0⟩ := cz1 BK381.out; obtain ⟨hcz157_0, hfz157_0⟩ := cz1 BK376.out) | (go_at_call 11; (with_reducible refine (spec_PickCells.calls kj42 _ _ t370 _ _ t373 t382 t385 _ ?side1 ?side2 ?side3 ?side4 A136.out).mono ?_); (case side1 => refine (Kd.R_reads' (e := 3) (base := w.heap.size) (ok := fun k_ => (((((some k_ ≠ (.slice Ao147 t373.length co147 : Value).ownBlock ∧ some k_ ≠ (.slice Ao11 t333.length co11 : Value).ownBlock) ∧ some k_ ≠ (.slice Ao14 t336.length co14 : Value).ownBlock) ∧ some k_ ≠ (.slice Ao19 t344.length co19 : Value).ownBlock) ∧ some k_ ≠ (.slice Ao27 t349.length co27 : Value).ownBlock) ∧ some k_ ≠ (.slice Ao150 t377.length co150 : Value).ownBlock)) (n := t370.length) (c := co141) ?_).2.2; exact (rF HO372 BK381 (.slice Ao150 t377.length co150))); (case side2 => exact (Kd.R_reads' HO372.out).2.1); (case side3 => refine (Kd.R_reads' (e := 3) (base := w.heap.size) (ok := fun k_ => (((((some k_ ≠ (.slice Ao141 t370.length co141 : Value).ownBlock ∧ some k_ ≠ (.slice Ao11 t333.length co11 : Value).ownBlock) ∧ some k_ ≠ (.slice Ao14 t336.length co14 : Value).ownBlock) ∧ some k_ ≠ (.slice Ao19 t344.length co19 : Value).ownBlock) ∧ some k_ ≠ (.slice Ao27 t349.length co27 : Value).ownBlock) ∧ some k_ ≠ (.slice Ao150 t377.length co150 : Value).ownBlock)) (n := t373.length) (c := co147) ?_).2.2; exact (rF HO375 BK381 (.slice Ao150 t377.length co150))); (case side4 => exact (Kd.R_reads' HO375.out).2.1); rintro e w158 ⟨v383, rfl, ho0, hb⟩; have n0_ := xm (Kd.R_elder' (rF HO_343000 BK381 (.slice Ao150 t377.length co150)) (Kd.R_base ho0) hb); have n1_ := xm (Kd.R_elder' (rF HO_344000 BK381 (.slice Ao150 t377.length co150)) (Kd.R_base ho0) hb); have n2_ := xm (Kd.R_elder' (rF HO_349000 BK381 (.slice Ao150 t377.length co150)) (Kd.R_base ho0) hb); have n3_ := xm (Kd.R_elder' (rF HO_354000 BK381 (.slice Ao150 t377.length co150)) (Kd.R_base ho0) hb); have n4_ := xm (Kd.R_elder' (rF HO372 BK381 (.slice Ao150 t377.length co150)) (Kd.R_base ho0) hb); have n5_ := xm (Kd.R_elder' (rF HO375 BK381 (.slice Ao150 t377.length co150)) (Kd.R_base ho0) hb); have n6_ := xm (Kd.R_elder' (rF HO379 BK381 (.slice Ao150 t377.length co150)) (Kd.R_base ho0) hb); have n7_ := xm (Kd.R_lower (Kd.R_new' (Kd.R_new' (Kd.R_new' (Kd.R_new' (Kd.R_new' (Kd.R_new' (Kd.R_new' ho0 (Kd.R_lt (rF HO_343000 BK381 (.slice Ao150 t377.length co150)))) (Kd.R_lt (rF HO_344000 BK381 (.slice Ao150 t377.length co150)))) (Kd.R_lt (rF HO_349000 BK381 (.slice Ao150 t377.length co150)))) (Kd.R_lt (rF HO_354000 BK381 (.slice Ao150 t377.length co150)))) (Kd.R_lt (rF HO372 BK381 (.slice Ao150 t377.length co150)))) (Kd.R_lt (rF HO375 BK381 (.slice Ao150 t377.length co150)))) (Kd.R_lt (rF HO379 BK381 (.slice Ao150 t377.length co150)))) (xz bG)); have n8_ := xm (blk_below (kF BK342 NB342_381) hb); have n9_ := xm (blk_below (kF BK343 NB343_381) hb); have n10_ := xm (blk_below (kF BK348 NB348_381) hb); have n11_ := xm (blk_below (kF BK353 NB353_381) hb); have n12_ := xm (blk_below (kF BK376 NB376_381) hb); have n13_ := xm (blk_below (g := gb381) (o := .cells #[.slice Ao150 t377.length co150] 25 (0, 0)) (by (with_reducible repeat (first | refine xq ?_ _ | refine xr ?_ | refine xo ?_ _)); refine blk_put (cs := #[.slice none 0 0]) ?_ 0 _ rfl; (with_reducible repeat (first | refine xq ?_ _ | refine xr ?_ | refine xo ?_ _)); exact BK381.out) hb); have n14_ := xm (below_step bG hb); revert n0_ n1_ n2_ n3_ n4_ n5_ n6_ n7_ n8_ n9_ n10_ n11_ n12_ n13_ n14_; clear HO_343000 HO_344000 HO_349000 HO_354000 HO372 HO375 HO379 BK342 BK343 BK348 BK353 BK376 BK381 HB; intro HO_343000 HO_344000 HO_349000 HO_354000 HO372 HO375 HO379 HO384 BK342 BK343 BK348 BK353 BK376 BK381 HB; (try clear hb); (try clear ho0)) | ((with_reducible refine gate_dst (N := 22) rfl ?_); (try (refine gate_guard (by rfl) ?_; dsimp only)); refine box_event ?hg (N := 22) ?hd (cs := #[.slice none 0 0]) (t := 25) ?hr ?_; (case hd => rfl); (case hg => rfl); (case hr => exact zB); intro gb386 hg w159 hbox hb; have n0_ := xm (Kd.R_below (rB HO_343000) hb); have n1_ := xm (Kd.R_below (rB HO_344000) hb); have n2_ := xm (Kd.R_below (rB HO_349000) hb); have n3_ := xm (Kd.R_below (rB HO_354000) hb); have n4_ := xm (Kd.R_below (rB HO372) hb); have n5_ := xm (Kd.R_below (rB HO375) hb); have n6_ := xm (Kd.R_below (rB HO379) hb); have n7_ := xm (Kd.R_below (rB HO384) hb); have n8_ := xm (blk_below (kB BK342) hb); have n9_ := xm (blk_below (kB BK343) hb); have n10_ := xm (blk_below (kB BK348) hb); have n11_ := xm (blk_below (kB BK353) hb); have n12_ := xm (blk_below (kB BK376) hb); have n13_ := xm (blk_below (kB BK381) hb); have n14_ := xm (below_step bG hb); have n15_ := xm (hbox); have n16_ := xm ((by rw [hg]; exact (xz bG) : w.heap.size ≤ gb386)); have n17_ := xm ((by rw [hg]; exact (xz bG) : w.heap.size ≤ gb386)); have n18_ := xm ((by rw [hg]; exact Nat.ne_of_lt (blk_lt (kB BK342)) : gb342 ≠ gb386)); have n19_ := xm ((by rw [hg]; exact Nat.ne_of_gt (blk_lt (kB BK342)) : gb386 ≠ gb342)); have n20_ := xm ((by rw [hg]; exact Nat.ne_of_lt (blk_lt (kB BK343)) : gb343 ≠ gb386)); have n21_ := xm ((by rw [hg]; exact Nat.ne_of_gt (blk_lt (kB BK343)) : gb386 ≠ gb343)); have n22_ := xm ((by rw [hg]; exact Nat.ne_of_lt (blk_lt (kB BK348)) : gb348 ≠ gb386)); have n23_ := xm ((by rw [hg]; exact Nat.ne_of_gt (blk_lt (kB BK348)) : gb386 ≠ gb348)); have n24_ := xm ((by rw [hg]; exact Nat.ne_of_lt (blk_lt (kB BK353)) : gb353 ≠ gb386)); have n25_ := xm ((by rw [hg]; exact Nat.ne_of_gt (blk_lt (kB BK353)) : gb386 ≠ gb353)); have n26_ := xm ((by rw [hg]; exact Nat.ne_of_lt (blk_lt (kB BK376)) : gb376 ≠ gb386)); have n27_ := xm ((by rw [hg]; exact Nat.ne_of_gt (blk_lt (kB BK376)) : gb386 ≠ gb376)); have n28_ := xm ((by rw [hg]; exact Nat.ne_of_lt (blk_lt (kB BK381)) : gb381 ≠ gb386)); have n29_ := xm ((by rw [hg]; exact Nat.ne_of_gt (blk_lt (kB BK381)) : gb386 ≠ gb381)); revert n0_ n1_ n2_ n3_ n4_ n5_ n6_ n7_ n8_ n9_ n10_ n11_ n12_ n13_ n14_ n15_ n16_ n17_ n18_ n19_ n20_ n21_ n22_ n23_ n24_ n25_ n26_ n27_ n28_ n29_; clear HO_343000 HO_344000 HO_349000 HO_354000 HO372 HO375 HO379 HO384 BK342 BK343 BK348 BK353 BK376 BK381 HB; intro HO_343000 HO_344000 HO_349000 HO_354000 HO372 HO375 HO379 HO384 BK342 BK343 BK348 BK353 BK376 BK381 HB BK386 GW386 GE386 NB342_386 NB386_342 NB343_386 NB386_343 NB348_386 NB386_348 NB353_386 NB386_353 NB376_386 NB386_376 NB381_386 NB386_381; clear hb hbox hg; obtain ⟨Ao160, co160, eo160⟩ := Kd.R_slice HO384.out; subst eo160; have hnb161 := NB386_342.out; have hnc161 := NB342_386.out; have hnb162 := NB386_343.out; have hnc162 := NB343_386.out; have hnb163 := NB386_348.out; have hnc163 := NB348_386.out; have hnb164 := NB386_353.out; have hnc164 := NB353_386.out; have hnb165 := NB386_376.out; have hnc165 := NB376_386.out; have hnb166 := NB386_381.out; have hnc166 := NB381_386.out; obtain ⟨hcz167_0, hfz167_0⟩ := cz1 BK386.out; obtain ⟨hcz168_0, hfz168_0⟩ := cz1 BK381.out) | (go_at_call 7; (with_reducible refine (laws_sameRow.calls kj42 _ _ t377 _ _ t382 t387 _ ?side1 ?side2 ?side3 ?side4 A138.out).mono ?_); (case side1 => refine (Kd.R_reads' (e := 3) (base := w.heap.size) (ok := fun k_ => (((((((True ∧ some k_ ≠ (.slice Ao11 t333.length co11 : Value).ownBlock) ∧ some k_ ≠ (.slice Ao14 t336.length co14 : Value).ownBlock) ∧ some k_ ≠ (.slice Ao19 t344.length co19 : Value).ownBlock) ∧ some k_ ≠ (.slice Ao27 t349.length co27 : Value).ownBlock) ∧ some k_ ≠ (.slice Ao141 t370.length co141 : Value).ownBlock) ∧ some k_ ≠ (.slice Ao147 t373.length co147 : Value).ownBlock) ∧ some k_ ≠ (.slice Ao160 t382.length co160 : Value).ownBlock)) (n := t377.length) (c := co150) ?_).2.2; exact (rF HO379 BK386 (.slice Ao160 t382.length co160))); (case side2 => exact (Kd.R_reads' HO379.out).2.1); (case side3 => refine (Kd.R_reads' (e := 3) (base := w.heap.size) (ok := fun k_ => (((((((True ∧ some k_ ≠ (.slice Ao11 t333.length co11 : Value).ownBlock) ∧ some k_ ≠ (.slice Ao14 t336.length co14 : Value).ownBlock) ∧ some k_ ≠ (.slice Ao19 t344.length co19 : Value).ownBlock) ∧ some k_ ≠ (.slice Ao27 t349.length co27 : Value).ownBlock) ∧ some k_ ≠ (.slice Ao141 t370.length co141 : Value).ownBlock) ∧ some k_ ≠ (.slice Ao147 t373.length co147 : Value).ownBlock) ∧ some k_ ≠ (.slice Ao150 t377.length co150 : Value).ownBlock)) (n := t382.length) (c := co160) ?_).2.2; exact (rF HO384 BK386 (.slice Ao160 t382.length co160))); (case side4 => exact (Kd.R_reads' HO384.out).2.1); rintro e w169 ⟨rfl, hb⟩; have n0_ := xm (Kd.R_below (rF HO_343000 BK386 (.slice Ao160 t382.length co160)) hb); have n1_ := xm (Kd.R_below (rF HO_344000 BK386 (.slice Ao160 t382.length co160)) hb); have n2_ := xm (Kd.R_below (rF HO_349000 BK386 (.slice Ao160 t382.length co160)) hb); have n3_ := xm (Kd.R_below (rF HO_354000 BK386 (.slice Ao160 t382.length co160)) hb); have n4_ := xm (Kd.R_below (rF HO372 BK386 (.slice Ao160 t382.length co160)) hb); have n5_ := xm (Kd.R_below (rF HO375 BK386 (.slice Ao160 t382.length co160)) hb); have n6_ := xm (Kd.R_below (rF HO379 BK386 (.slice Ao160 t382.length co160)) hb); have n7_ := xm (Kd.R_below (rF HO384 BK386 (.slice Ao160 t382.length co160)) hb); have n8_ := xm (blk_below (kF BK342 NB342_386) hb); have n9_ := xm (blk_below (kF BK343 NB343_386) hb); have n10_ := xm (blk_below (kF BK348 NB348_386) hb); have n11_ := xm (blk_below (kF BK353 NB353_386) hb); have n12_ := xm (blk_below (kF BK376 NB376_386) hb); have n13_ := xm (blk_below (kF BK381 NB381_386) hb); have n14_ := xm (blk_below (g := gb386) (o := .cells #[.slice Ao160 t382.length co160] 25 (0, 0)) (by (with_reducible repeat (first | refine xq ?_ _ | refine xr ?_ | refine xo ?_ _)); refine blk_put (cs := #[.slice none 0 0]) ?_ 0 _ rfl; (with_reducible repeat (first | refine xq ?_ _ | refine xr ?_ | refine xo ?_ _)); exact BK386.out) hb); have n15_ := xm (below_step bG hb); revert n0_ n1_ n2_ n3_ n4_ n5_ n6_ n7_ n8_ n9_ n10_ n11_ n12_ n13_ n14_ n15_; clear HO_343000 HO_344000 HO_349000 HO_354000 HO372 HO375 HO379 HO384 BK342 BK343 BK348 BK353 BK376 BK381 BK386 HB; intro HO_343000 HO_344000 HO_349000 HO_354000 HO372 HO375 HO379 HO384 BK342 BK343 BK348 BK353 BK376 BK381 BK386 HB; (try clear hb)))
        repeat (go_quiet (first | (go_at_call 10; (with_reducible refine (spec_DrawPickCells.calls kj42 _ _ l1 t370 t373 _ ?side1 ?side2 A134.out).mono ?_); (case side1 => exact cB (Kd.C_below HR1.out HB.out)); (case side2 => exact HC1.out); rintro e w139 ⟨v371, v374, rfl, ho0, ho1, hb⟩; have n0_ := xm (Kd.R_mono (Kd.R_told (Kd.R_told (Kd.R_old (rB HO_343000) hb) (Kd.R_base ho0)) (Kd.R_base ho1)) (fun _ h_ => h_.1)); have n1_ := xm (Kd.R_mono (Kd.R_told (Kd.R_told (Kd.R_old (rB HO_344000) hb) (Kd.R_base ho0)) (Kd.R_base ho1)) (fun _ h_ => h_.1)); have n2_ := xm (Kd.R_mono (Kd.R_told (Kd.R_told (Kd.R_old (rB HO_349000) hb) (Kd.R_base ho0)) (Kd.R_base ho1)) (fun _ h_ => h_.1)); have n3_ := xm (Kd.R_mono (Kd.R_told (Kd.R_told (Kd.R_old (rB HO_354000) hb) (Kd.R_base ho0)) (Kd.R_base ho1)) (fun _ h_ => h_.1)); have n4_ := xm (Kd.R_lower (Kd.R_new' (Kd.R_new' (Kd.R_new' (Kd.R_new' ho0 (Kd.R_lt (rB HO_343000))) (Kd.R_lt (rB HO_344000))) (Kd.R_lt (rB HO_349000))) (Kd.R_lt (rB HO_354000))) (xz bG)); have n5_ := xm (Kd.R_lower (Kd.R_new' (Kd.R_new' (Kd.R_new' (Kd.R_new' ho1 (Kd.R_lt (rB HO_343000))) (Kd.R_lt (rB HO_344000))) (Kd.R_lt (rB HO_349000))) (Kd.R_lt (rB HO_354000))) (xz bG)); have n6_ := xm (blk_below (kB BK342) hb); have n7_ := xm (blk_below (kB BK343) hb); have n8_ := xm (blk_below (kB BK348) hb); have n9_ := xm (blk_below (kB BK353) hb); have n10_ := xm (below_step bG hb); revert n0_ n1_ n2_ n3_ n4_ n5_ n6_ n7_ n8_ n9_ n10_; clear HO_343000 HO_344000 HO_349000 HO_354000 BK342 BK343 BK348 BK353 HB; intro HO_343000 HO_344000 HO_349000 HO_354000 HO372 HO375 BK342 BK343 BK348 BK353 HB; (try clear hb); (try clear ho0); (try clear ho1)) | ((with_reducible refine gate_dst (N := 18) rfl ?_); (try (refine gate_guard (by rfl) ?_; dsimp only)); refine box_event ?hg (N := 18) ?hd (cs := #[.slice none 0 0]) (t := 25) ?hr ?_; (case hd => rfl); (case hg => rfl); (case hr => exact zB); intro gb376 hg w140 hbox hb; have n0_ := xm (Kd.R_below (rB HO_343000) hb); have n1_ := xm (Kd.R_below (rB HO_344000) hb); have n2_ := xm (Kd.R_below (rB HO_349000) hb); have n3_ := xm (Kd.R_below (rB HO_354000) hb); have n4_ := xm (Kd.R_below (rB HO372) hb); have n5_ := xm (Kd.R_below (rB HO375) hb); have n6_ := xm (blk_below (kB BK342) hb); have n7_ := xm (blk_below (kB BK343) hb); have n8_ := xm (blk_below (kB BK348) hb); have n9_ := xm (blk_below (kB BK353) hb); have n10_ := xm (below_step bG hb); have n11_ := xm (hbox); have n12_ := xm ((by rw [hg]; exact (xz bG) : w.heap.size ≤ gb376)); have n13_ := xm ((by rw [hg]; exact (xz bG) : w.heap.size ≤ gb376)); have n14_ := xm ((by rw [hg]; exact Nat.ne_of_lt (blk_lt (kB BK342)) : gb342 ≠ gb376)); have n15_ := xm ((by rw [hg]; exact Nat.ne_of_gt (blk_lt (kB BK342)) : gb376 ≠ gb342)); have n16_ := xm ((by rw [hg]; exact Nat.ne_of_lt (blk_lt (kB BK343)) : gb343 ≠ gb376)); have n17_ := xm ((by rw [hg]; exact Nat.ne_of_gt (blk_lt (kB BK343)) : gb376 ≠ gb343)); have n18_ := xm ((by rw [hg]; exact Nat.ne_of_lt (blk_lt (kB BK348)) : gb348 ≠ gb376)); have n19_ := xm ((by rw [hg]; exact Nat.ne_of_gt (blk_lt (kB BK348)) : gb376 ≠ gb348)); have n20_ := xm ((by rw [hg]; exact Nat.ne_of_lt (blk_lt (kB BK353)) : gb353 ≠ gb376)); have n21_ := xm ((by rw [hg]; exact Nat.ne_of_gt (blk_lt (kB BK353)) : gb376 ≠ gb353)); revert n0_ n1_ n2_ n3_ n4_ n5_ n6_ n7_ n8_ n9_ n10_ n11_ n12_ n13_ n14_ n15_ n16_ n17_ n18_ n19_ n20_ n21_; clear HO_343000 HO_344000 HO_349000 HO_354000 HO372 HO375 BK342 BK343 BK348 BK353 HB; intro HO_343000 HO_344000 HO_349000 HO_354000 HO372 HO375 BK342 BK343 BK348 BK353 HB BK376 GW376 GE376 NB342_376 NB376_342 NB343_376 NB376_343 NB348_376 NB376_348 NB353_376 NB376_353; clear hb hbox hg; obtain ⟨Ao141, co141, eo141⟩ := Kd.R_slice HO372.out; subst eo141; have hnb142 := NB376_342.out; have hnc142 := NB342_376.out; have hnb143 := NB376_343.out; have hnc143 := NB343_376.out; have hnb144 := NB376_348.out; have hnc144 := NB348_376.out; have hnb145 := NB376_353.out; have hnc145 := NB353_376.out; obtain ⟨hcz146_0, hfz146_0⟩ := cz1 BK376.out; obtain ⟨Ao147, co147, eo147⟩ := Kd.R_slice HO375.out; subst eo147) | (go_at_call 8; (with_reducible refine (impl_PickCells.calls kj42 _ _ t370 _ _ t373 t377 t380 _ ?side1 ?side2 ?side3 ?side4 A135.out).mono ?_); (case side1 => refine (Kd.R_reads' (e := 3) (base := w.heap.size) (ok := fun k_ => ((((some k_ ≠ (.slice Ao147 t373.length co147 : Value).ownBlock ∧ some k_ ≠ (.slice Ao11 t333.length co11 : Value).ownBlock) ∧ some k_ ≠ (.slice Ao14 t336.length co14 : Value).ownBlock) ∧ some k_ ≠ (.slice Ao19 t344.length co19 : Value).ownBlock) ∧ some k_ ≠ (.slice Ao27 t349.length co27 : Value).ownBlock)) (n := t370.length) (c := co141) ?_).2.2; exact (rF HO372 BK376 (.slice Ao141 t370.length co141))); (case side2 => exact (Kd.R_reads' HO372.out).2.1); (case side3 => refine (Kd.R_reads' (e := 3) (base := w.heap.size) (ok := fun k_ => ((((some k_ ≠ (.slice Ao141 t370.length co141 : Value).ownBlock ∧ some k_ ≠ (.slice Ao11 t333.length co11 : Value).ownBlock) ∧ some k_ ≠ (.slice Ao14 t336.length co14 : Value).ownBlock) ∧ some k_ ≠ (.slice Ao19 t344.length co19 : Value).ownBlock) ∧ some k_ ≠ (.slice Ao27 t349.length co27 : Value).ownBlock)) (n := t373.length) (c := co147) ?_).2.2; exact (rF HO375 BK376 (.slice Ao141 t370.length co141))); (case side4 => exact (Kd.R_reads' HO375.out).2.1); rintro e w148 ⟨v378, rfl, ho0, hb⟩; have n0_ := xm (Kd.R_elder' (rF HO_343000 BK376 (.slice Ao141 t370.length co141)) (Kd.R_base ho0) hb); have n1_ := xm (Kd.R_elder' (rF HO_344000 BK376 (.slice Ao141 t370.length co141)) (Kd.R_base ho0) hb); have n2_ := xm (Kd.R_elder' (rF HO_349000 BK376 (.slice Ao141 t370.length co141)) (Kd.R_base ho0) hb); have n3_ := xm (Kd.R_elder' (rF HO_354000 BK376 (.slice Ao141 t370.length co141)) (Kd.R_base ho0) hb); have n4_ := xm (Kd.R_elder' (rF HO372 BK376 (.slice Ao141 t370.length co141)) (Kd.R_base ho0) hb); have n5_ := xm (Kd.R_elder' (rF HO375 BK376 (.slice Ao141 t370.length co141)) (Kd.R_base ho0) hb); have n6_ := xm (Kd.R_lower (Kd.R_new' (Kd.R_new' (Kd.R_new' (Kd.R_new' (Kd.R_new' (Kd.R_new' ho0 (Kd.R_lt (rF HO_343000 BK376 (.slice Ao141 t370.length co141)))) (Kd.R_lt (rF HO_344000 BK376 (.slice Ao141 t370.length co141)))) (Kd.R_lt (rF HO_349000 BK376 (.slice Ao141 t370.length co141)))) (Kd.R_lt (rF HO_354000 BK376 (.slice Ao141 t370.length co141)))) (Kd.R_lt (rF HO372 BK376 (.slice Ao141 t370.length co141)))) (Kd.R_lt (rF HO375 BK376 (.slice Ao141 t370.length co141)))) (xz bG)); have n7_ := xm (blk_below (kF BK342 NB342_376) hb); have n8_ := xm (blk_below (kF BK343 NB343_376) hb); have n9_ := xm (blk_below (kF BK348 NB348_376) hb); have n10_ := xm (blk_below (kF BK353 NB353_376) hb); have n11_ := xm (blk_below (g := gb376) (o := .cells #[.slice Ao141 t370.length co141] 25 (0, 0)) (by (with_reducible repeat (first | refine xq ?_ _ | refine xr ?_ | refine xo ?_ _)); refine blk_put (cs := #[.slice none 0 0]) ?_ 0 _ rfl; (with_reducible repeat (first | refine xq ?_ _ | refine xr ?_ | refine xo ?_ _)); exact BK376.out) hb); have n12_ := xm (below_step bG hb); revert n0_ n1_ n2_ n3_ n4_ n5_ n6_ n7_ n8_ n9_ n10_ n11_ n12_; clear HO_343000 HO_344000 HO_349000 HO_354000 HO372 HO375 BK342 BK343 BK348 BK353 BK376 HB; intro HO_343000 HO_344000 HO_349000 HO_354000 HO372 HO375 HO379 BK342 BK343 BK348 BK353 BK376 HB; (try clear hb); (try clear ho0)) | ((with_reducible refine gate_dst (N := 20) rfl ?_); (try (refine gate_guard (by rfl) ?_; dsimp only)); refine box_event ?hg (N := 20) ?hd (cs := #[.slice none 0 0]) (t := 25) ?hr ?_; (case hd => rfl); (case hg => rfl); (case hr => exact zB); intro gb381 hg w149 hbox hb; have n0_ := xm (Kd.R_below (rB HO_343000) hb); have n1_ := xm (Kd.R_below (rB HO_344000) hb); have n2_ := xm (Kd.R_below (rB HO_349000) hb); have n3_ := xm (Kd.R_below (rB HO_354000) hb); have n4_ := xm (Kd.R_below (rB HO372) hb); have n5_ := xm (Kd.R_below (rB HO375) hb); have n6_ := xm (Kd.R_below (rB HO379) hb); have n7_ := xm (blk_below (kB BK342) hb); have n8_ := xm (blk_below (kB BK343) hb); have n9_ := xm (blk_below (kB BK348) hb); have n10_ := xm (blk_below (kB BK353) hb); have n11_ := xm (blk_below (kB BK376) hb); have n12_ := xm (below_step bG hb); have n13_ := xm (hbox); have n14_ := xm ((by rw [hg]; exact (xz bG) : w.heap.size ≤ gb381)); have n15_ := xm ((by rw [hg]; exact (xz bG) : w.heap.size ≤ gb381)); have n16_ := xm ((by rw [hg]; exact Nat.ne_of_lt (blk_lt (kB BK342)) : gb342 ≠ gb381)); have n17_ := xm ((by rw [hg]; exact Nat.ne_of_gt (blk_lt (kB BK342)) : gb381 ≠ gb342)); have n18_ := xm ((by rw [hg]; exact Nat.ne_of_lt (blk_lt (kB BK343)) : gb343 ≠ gb381)); have n19_ := xm ((by rw [hg]; exact Nat.ne_of_gt (blk_lt (kB BK343)) : gb381 ≠ gb343)); have n20_ := xm ((by rw [hg]; exact Nat.ne_of_lt (blk_lt (kB BK348)) : gb348 ≠ gb381)); have n21_ := xm ((by rw [hg]; exact Nat.ne_of_gt (blk_lt (kB BK348)) : gb381 ≠ gb348)); have n22_ := xm ((by rw [hg]; exact Nat.ne_of_lt (blk_lt (kB BK353)) : gb353 ≠ gb381)); have n23_ := xm ((by rw [hg]; exact Nat.ne_of_gt (blk_lt (kB BK353)) : gb381 ≠ gb353)); have n24_ := xm ((by rw [hg]; exact Nat.ne_of_lt (blk_lt (kB BK376)) : gb376 ≠ gb381)); have n25_ := xm ((by rw [hg]; exact Nat.ne_of_gt (blk_lt (kB BK376)) : gb381 ≠ gb376)); revert n0_ n1_ n2_ n3_ n4_ n5_ n6_ n7_ n8_ n9_ n10_ n11_ n12_ n13_ n14_ n15_ n16_ n17_ n18_ n19_ n20_ n21_ n22_ n23_ n24_ n25_; clear HO_343000 HO_344000 HO_349000 HO_354000 HO372 HO375 HO379 BK342 BK343 BK348 BK353 BK376 HB; intro HO_343000 HO_344000 HO_349000 HO_354000 HO372 HO375 HO379 BK342 BK343 BK348 BK353 BK376 HB BK381 GW381 GE381 NB342_381 NB381_342 NB343_381 NB381_343 NB348_381 NB381_348 NB353_381 NB381_353 NB376_381 NB381_376; clear hb hbox hg; obtain ⟨Ao150, co150, eo150⟩ := Kd.R_slice HO379.out; subst eo150; have hnb151 := NB381_342.out; have hnc151 := NB342_381.out; have hnb152 := NB381_343.out; have hnc152 := NB343_381.out; have hnb153 := NB381_348.out; have hnc153 := NB348_381.out; have hnb154 := NB381_353.out; have hnc154 := NB353_381.out; have hnb155 := NB381_376.out; have hnc155 := NB376_381.out; obtain ⟨hcz156_0, hfz156_0⟩ := cz1 BK381.out; obtain ⟨hcz157_0, hfz157_0⟩ := cz1 BK376.out) | (go_at_call 11; (with_reducible refine (spec_PickCells.calls kj42 _ _ t370 _ _ t373 t382 t385 _ ?side1 ?side2 ?side3 ?side4 A136.out).mono ?_); (case side1 => refine (Kd.R_reads' (e := 3) (base := w.heap.size) (ok := fun k_ => (((((some k_ ≠ (.slice Ao147 t373.length co147 : Value).ownBlock ∧ some k_ ≠ (.slice Ao11 t333.length co11 : Value).ownBlock) ∧ some k_ ≠ (.slice Ao14 t336.length co14 : Value).ownBlock) ∧ some k_ ≠ (.slice Ao19 t344.length co19 : Value).ownBlock) ∧ some k_ ≠ (.slice Ao27 t349.length co27 : Value).ownBlock) ∧ some k_ ≠ (.slice Ao150 t377.length co150 : Value).ownBlock)) (n := t370.length) (c := co141) ?_).2.2; exact (rF HO372 BK381 (.slice Ao150 t377.length co150))); (case side2 => exact (Kd.R_reads' HO372.out).2.1); (case side3 => refine (Kd.R_reads' (e := 3) (base := w.heap.size) (ok := fun k_ => (((((some k_ ≠ (.slice Ao141 t370.length co141 : Value).ownBlock ∧ some k_ ≠ (.slice Ao11 t333.length co11 : Value).ownBlock) ∧ some k_ ≠ (.slice Ao14 t336.length co14 : Value).ownBlock) ∧ some k_ ≠ (.slice Ao19 t344.length co19 : Value).ownBlock) ∧ some k_ ≠ (.slice Ao27 t349.length co27 : Value).ownBlock) ∧ some k_ ≠ (.slice Ao150 t377.length co150 : Value).ownBlock)) (n := t373.length) (c := co147) ?_).2.2; exact (rF HO375 BK381 (.slice Ao150 t377.length co150))); (case side4 => exact (Kd.R_reads' HO375.out).2.1); rintro e w158 ⟨v383, rfl, ho0, hb⟩; have n0_ := xm (Kd.R_elder' (rF HO_343000 BK381 (.slice Ao150 t377.length co150)) (Kd.R_base ho0) hb); have n1_ := xm (Kd.R_elder' (rF HO_344000 BK381 (.slice Ao150 t377.length co150)) (Kd.R_base ho0) hb); have n2_ := xm (Kd.R_elder' (rF HO_349000 BK381 (.slice Ao150 t377.length co150)) (Kd.R_base ho0) hb); have n3_ := xm (Kd.R_elder' (rF HO_354000 BK381 (.slice Ao150 t377.length co150)) (Kd.R_base ho0) hb); have n4_ := xm (Kd.R_elder' (rF HO372 BK381 (.slice Ao150 t377.length co150)) (Kd.R_base ho0) hb); have n5_ := xm (Kd.R_elder' (rF HO375 BK381 (.slice Ao150 t377.length co150)) (Kd.R_base ho0) hb); have n6_ := xm (Kd.R_elder' (rF HO379 BK381 (.slice Ao150 t377.length co150)) (Kd.R_base ho0) hb); have n7_ := xm (Kd.R_lower (Kd.R_new' (Kd.R_new' (Kd.R_new' (Kd.R_new' (Kd.R_new' (Kd.R_new' (Kd.R_new' ho0 (Kd.R_lt (rF HO_343000 BK381 (.slice Ao150 t377.length co150)))) (Kd.R_lt (rF HO_344000 BK381 (.slice Ao150 t377.length co150)))) (Kd.R_lt (rF HO_349000 BK381 (.slice Ao150 t377.length co150)))) (Kd.R_lt (rF HO_354000 BK381 (.slice Ao150 t377.length co150)))) (Kd.R_lt (rF HO372 BK381 (.slice Ao150 t377.length co150)))) (Kd.R_lt (rF HO375 BK381 (.slice Ao150 t377.length co150)))) (Kd.R_lt (rF HO379 BK381 (.slice Ao150 t377.length co150)))) (xz bG)); have n8_ := xm (blk_below (kF BK342 NB342_381) hb); have n9_ := xm (blk_below (kF BK343 NB343_381) hb); have n10_ := xm (blk_below (kF BK348 NB348_381) hb); have n11_ := xm (blk_below (kF BK353 NB353_381) hb); have n12_ := xm (blk_below (kF BK376 NB376_381) hb); have n13_ := xm (blk_below (g := gb381) (o := .cells #[.slice Ao150 t377.length co150] 25 (0, 0)) (by (with_reducible repeat (first | refine xq ?_ _ | refine xr ?_ | refine xo ?_ _)); refine blk_put (cs := #[.slice none 0 0]) ?_ 0 _ rfl; (with_reducible repeat (first | refine xq ?_ _ | refine xr ?_ | refine xo ?_ _)); exact BK381.out) hb); have n14_ := xm (below_step bG hb); revert n0_ n1_ n2_ n3_ n4_ n5_ n6_ n7_ n8_ n9_ n10_ n11_ n12_ n13_ n14_; clear HO_343000 HO_344000 HO_349000 HO_354000 HO372 HO375 HO379 BK342 BK343 BK348 BK353 BK376 BK381 HB; intro HO_343000 HO_344000 HO_349000 HO_354000 HO372 HO375 HO379 HO384 BK342 BK343 BK348 BK353 BK376 BK381 HB; (try clear hb); (try clear ho0)) | ((with_reducible refine gate_dst (N := 22) rfl ?_); (try (refine gate_guard (by rfl) ?_; dsimp only)); refine box_event ?hg (N := 22) ?hd (cs := #[.slice none 0 0]) (t := 25) ?hr ?_; (case hd => rfl); (case hg => rfl); (case hr => exact zB); intro gb386 hg w159 hbox hb; have n0_ := xm (Kd.R_below (rB HO_343000) hb); have n1_ := xm (Kd.R_below (rB HO_344000) hb); have n2_ := xm (Kd.R_below (rB HO_349000) hb); have n3_ := xm (Kd.R_below (rB HO_354000) hb); have n4_ := xm (Kd.R_below (rB HO372) hb); have n5_ := xm (Kd.R_below (rB HO375) hb); have n6_ := xm (Kd.R_below (rB HO379) hb); have n7_ := xm (Kd.R_below (rB HO384) hb); have n8_ := xm (blk_below (kB BK342) hb); have n9_ := xm (blk_below (kB BK343) hb); have n10_ := xm (blk_below (kB BK348) hb); have n11_ := xm (blk_below (kB BK353) hb); have n12_ := xm (blk_below (kB BK376) hb); have n13_ := xm (blk_below (kB BK381) hb); have n14_ := xm (below_step bG hb); have n15_ := xm (hbox); have n16_ := xm ((by rw [hg]; exact (xz bG) : w.heap.size ≤ gb386)); have n17_ := xm ((by rw [hg]; exact (xz bG) : w.heap.size ≤ gb386)); have n18_ := xm ((by rw [hg]; exact Nat.ne_of_lt (blk_lt (kB BK342)) : gb342 ≠ gb386)); have n19_ := xm ((by rw [hg]; exact Nat.ne_of_gt (blk_lt (kB BK342)) : gb386 ≠ gb342)); have n20_ := xm ((by rw [hg]; exact Nat.ne_of_lt (blk_lt (kB BK343)) : gb343 ≠ gb386)); have n21_ := xm ((by rw [hg]; exact Nat.ne_of_gt (blk_lt (kB BK343)) : gb386 ≠ gb343)); have n22_ := xm ((by rw [hg]; exact Nat.ne_of_lt (blk_lt (kB BK348)) : gb348 ≠ gb386)); have n23_ := xm ((by rw [hg]; exact Nat.ne_of_gt (blk_lt (kB BK348)) : gb386 ≠ gb348)); have n24_ := xm ((by rw [hg]; exact Nat.ne_of_lt (blk_lt (kB BK353)) : gb353 ≠ gb386)); have n25_ := xm ((by rw [hg]; exact Nat.ne_of_gt (blk_lt (kB BK353)) : gb386 ≠ gb353)); have n26_ := xm ((by rw [hg]; exact Nat.ne_of_lt (blk_lt (kB BK376)) : gb376 ≠ gb386)); have n27_ := xm ((by rw [hg]; exact Nat.ne_of_gt (blk_lt (kB BK376)) : gb386 ≠ gb376)); have n28_ := xm ((by rw [hg]; exact Nat.ne_of_lt (blk_lt (kB BK381)) : gb381 ≠ gb386)); have n29_ := xm ((by rw [hg]; exact Nat.ne_of_gt (blk_lt (kB BK381)) : gb386 ≠ gb381)); revert n0_ n1_ n2_ n3_ n4_ n5_ n6_ n7_ n8_ n9_ n10_ n11_ n12_ n13_ n14_ n15_ n16_ n17_ n18_ n19_ n20_ n21_ n22_ n23_ n24_ n25_ n26_ n27_ n28_ n29_; clear HO_343000 HO_344000 HO_349000 HO_354000 HO372 HO375 HO379 HO384 BK342 BK343 BK348 BK353 BK376 BK381 HB; intro HO_343000 HO_344000 HO_349000 HO_354000 HO372 HO375 HO379 HO384 BK342 BK343 BK348 BK353 BK376 BK381 HB BK386 GW386 GE386 NB342_386 NB386_342 NB343_386 NB386_343 NB348_386 NB386_348 NB353_386 NB386_353 NB376_386 NB386_376 NB381_386 NB386_381; clear hb hbox hg; obtain ⟨Ao160, co160, eo160⟩ := Kd.R_slice HO384.out; subst eo160; have hnb161 := NB386_342.out; have hnc161 := NB342_386.out; have hnb162 := NB386_343.out; have hnc162 := NB343_386.out; have hnb163 := NB386_348.out; have hnc163 := NB348_386.out; have hnb164 := NB386_353.out; have hnc164 := NB353_386.out; have hnb165 := NB386_376.out; have hnc165 := NB376_386.out; have hnb166 := NB386_381.out; have hnc166 := NB381_386.out; obtain ⟨hcz167_0, hfz167_0⟩ := cz1 BK386.out; obtain ⟨hcz168_0, hfz168_0⟩ := cz1 BK381.out) | (go_at_call 7; (with_reducible refine (laws_sameRow.calls kj42 _ _ t377 _ _ t382 t387 _ ?side1 ?side2 ?side3 ?side4 A138.out).mono ?_); (case side1 => refine (Kd.R_reads' (e := 3) (base := w.heap.size) (ok := fun k_ => (((((((True ∧ some k_ ≠ (.slice Ao11 t333.length co11 : Value).ownBlock) ∧ some k_ ≠ (.slice Ao14 t336.length co14 : Value).ownBlock) ∧ some k_ ≠ (.slice Ao19 t344.length co19 : Value).ownBlock) ∧ some k_ ≠ (.slice Ao27 t349.length co27 : Value).ownBlock) ∧ some k_ ≠ (.slice Ao141 t370.length co141 : Value).ownBlock) ∧ some k_ ≠ (.slice Ao147 t373.length co147 : Value).ownBlock) ∧ some k_ ≠ (.slice Ao160 t382.length co160 : Value).ownBlock)) (n := t377.length) (c := co150) ?_).2.2; exact (rF HO379 BK386 (.slice Ao160 t382.length co160))); (case side2 => exact (Kd.R_reads' HO379.out).2.1); (case side3 => refine (Kd.R_reads' (e := 3) (base := w.heap.size) (ok := fun k_ => (((((((True ∧ some k_ ≠ (.slice Ao11 t333.length co11 : Value).ownBlock) ∧ some k_ ≠ (.slice Ao14 t336.length co14 : Value).ownBlock) ∧ some k_ ≠ (.slice Ao19 t344.length co19 : Value).ownBlock) ∧ some k_ ≠ (.slice Ao27 t349.length co27 : Value).ownBlock) ∧ some k_ ≠ (.slice Ao141 t370.length co141 : Value).ownBlock) ∧ some k_ ≠ (.slice Ao147 t373.length co147 : Value).ownBlock) ∧ some k_ ≠ (.slice Ao150 t377.length co150 : Value).ownBlock)) (n := t382.length) (c := co160) ?_).2.2; exact (rF HO384 BK386 (.slice Ao160 t382.length co160))); (case side4 => exact (Kd.R_reads' HO384.out).2.1); rintro e w169 ⟨rfl, hb⟩; have n0_ := xm (Kd.R_below (rF HO_343000 BK386 (.slice Ao160 t382.length co160)) hb); have n1_ := xm (Kd.R_below (rF HO_344000 BK386 (.slice Ao160 t382.length co160)) hb); have n2_ := xm (Kd.R_below (rF HO_349000 BK386 (.slice Ao160 t382.length co160)) hb); have n3_ := xm (Kd.R_below (rF HO_354000 BK386 (.slice Ao160 t382.length co160)) hb); have n4_ := xm (Kd.R_below (rF HO372 BK386 (.slice Ao160 t382.length co160)) hb); have n5_ := xm (Kd.R_below (rF HO375 BK386 (.slice Ao160 t382.length co160)) hb); have n6_ := xm (Kd.R_below (rF HO379 BK386 (.slice Ao160 t382.length co160)) hb); have n7_ := xm (Kd.R_below (rF HO384 BK386 (.slice Ao160 t382.length co160)) hb); have n8_ := xm (blk_below (kF BK342 NB342_386) hb); have n9_ := xm (blk_below (kF BK343 NB343_386) hb); have n10_ := xm (blk_below (kF BK348 NB348_386) hb); have n11_ := xm (blk_below (kF BK353 NB353_386) hb); have n12_ := xm (blk_below (kF BK376 NB376_386) hb); have n13_ := xm (blk_below (kF BK381 NB381_386) hb); have n14_ := xm (blk_below (g := gb386) (o := .cells #[.slice Ao160 t382.length co160] 25 (0, 0)) (by (with_reducible repeat (first | refine xq ?_ _ | refine xr ?_ | refine xo ?_ _)); refine blk_put (cs := #[.slice none 0 0]) ?_ 0 _ rfl; (with_reducible repeat (first | refine xq ?_ _ | refine xr ?_ | refine xo ?_ _)); exact BK386.out) hb); have n15_ := xm (below_step bG hb); revert n0_ n1_ n2_ n3_ n4_ n5_ n6_ n7_ n8_ n9_ n10_ n11_ n12_ n13_ n14_ n15_; clear HO_343000 HO_344000 HO_349000 HO_354000 HO372 HO375 HO379 HO384 BK342 BK343 BK348 BK353 BK376 BK381 BK386 HB; intro HO_343000 HO_344000 HO_349000 HO_354000 HO372 HO375 HO379 HO384 BK342 BK343 BK348 BK353 BK376 BK381 BK386 HB; (try clear hb))); try go_wp2_with (first | (go_at_call 10; (with_reducible refine (spec_DrawPickCells.calls kj42 _ _ l1 t370 t373 _ ?side1 ?side2 A134.out).mono ?_); (case side1 => exact cB (Kd.C_below HR1.out HB.out)); (case side2 => exact HC1.out); rintro e w139 ⟨v371, v374, rfl, ho0, ho1, hb⟩; have n0_ := xm (Kd.R_mono (Kd.R_told (Kd.R_told (Kd.R_old (rB HO_343000) hb) (Kd.R_base ho0)) (Kd.R_base ho1)) (fun _ h_ => h_.1)); have n1_ := xm (Kd.R_mono (Kd.R_told (Kd.R_told (Kd.R_old (rB HO_344000) hb) (Kd.R_base ho0)) (Kd.R_base ho1)) (fun _ h_ => h_.1)); have n2_ := xm (Kd.R_mono (Kd.R_told (Kd.R_told (Kd.R_old (rB HO_349000) hb) (Kd.R_base ho0)) (Kd.R_base ho1)) (fun _ h_ => h_.1)); have n3_ := xm (Kd.R_mono (Kd.R_told (Kd.R_told (Kd.R_old (rB HO_354000) hb) (Kd.R_base ho0)) (Kd.R_base ho1)) (fun _ h_ => h_.1)); have n4_ := xm (Kd.R_lower (Kd.R_new' (Kd.R_new' (Kd.R_new' (Kd.R_new' ho0 (Kd.R_lt (rB HO_343000))) (Kd.R_lt (rB HO_344000))) (Kd.R_lt (rB HO_349000))) (Kd.R_lt (rB HO_354000))) (xz bG)); have n5_ := xm (Kd.R_lower (Kd.R_new' (Kd.R_new' (Kd.R_new' (Kd.R_new' ho1 (Kd.R_lt (rB HO_343000))) (Kd.R_lt (rB HO_344000))) (Kd.R_lt (rB HO_349000))) (Kd.R_lt (rB HO_354000))) (xz bG)); have n6_ := xm (blk_below (kB BK342) hb); have n7_ := xm (blk_below (kB BK343) hb); have n8_ := xm (blk_below (kB BK348) hb); have n9_ := xm (blk_below (kB BK353) hb); have n10_ := xm (below_step bG hb); revert n0_ n1_ n2_ n3_ n4_ n5_ n6_ n7_ n8_ n9_ n10_; clear HO_343000 HO_344000 HO_349000 HO_354000 BK342 BK343 BK348 BK353 HB; intro HO_343000 HO_344000 HO_349000 HO_354000 HO372 HO375 BK342 BK343 BK348 BK353 HB; (try clear hb); (try clear ho0); (try clear ho1)) | ((with_reducible refine gate_dst (N := 18) rfl ?_); (try (refine gate_guard (by rfl) ?_; dsimp only)); refine box_event ?hg (N := 18) ?hd (cs := #[.slice none 0 0]) (t := 25) ?hr ?_; (case hd => rfl); (case hg => rfl); (case hr => exact zB); intro gb376 hg w140 hbox hb; have n0_ := xm (Kd.R_below (rB HO_343000) hb); have n1_ := xm (Kd.R_below (rB HO_344000) hb); have n2_ := xm (Kd.R_below (rB HO_349000) hb); have n3_ := xm (Kd.R_below (rB HO_354000) hb); have n4_ := xm (Kd.R_below (rB HO372) hb); have n5_ := xm (Kd.R_below (rB HO375) hb); have n6_ := xm (blk_below (kB BK342) hb); have n7_ := xm (blk_below (kB BK343) hb); have n8_ := xm (blk_below (kB BK348) hb); have n9_ := xm (blk_below (kB BK353) hb); have n10_ := xm (below_step bG hb); have n11_ := xm (hbox); have n12_ := xm ((by rw [hg]; exact (xz bG) : w.heap.size ≤ gb376)); have n13_ := xm ((by rw [hg]; exact (xz bG) : w.heap.size ≤ gb376)); have n14_ := xm ((by rw [hg]; exact Nat.ne_of_lt (blk_lt (kB BK342)) : gb342 ≠ gb376)); have n15_ := xm ((by rw [hg]; exact Nat.ne_of_gt (blk_lt (kB BK342)) : gb376 ≠ gb342)); have n16_ := xm ((by rw [hg]; exact Nat.ne_of_lt (blk_lt (kB BK343)) : gb343 ≠ gb376)); have n17_ := xm ((by rw [hg]; exact Nat.ne_of_gt (blk_lt (kB BK343)) : gb376 ≠ gb343)); have n18_ := xm ((by rw [hg]; exact Nat.ne_of_lt (blk_lt (kB BK348)) : gb348 ≠ gb376)); have n19_ := xm ((by rw [hg]; exact Nat.ne_of_gt (blk_lt (kB BK348)) : gb376 ≠ gb348)); have n20_ := xm ((by rw [hg]; exact Nat.ne_of_lt (blk_lt (kB BK353)) : gb353 ≠ gb376)); have n21_ := xm ((by rw [hg]; exact Nat.ne_of_gt (blk_lt (kB BK353)) : gb376 ≠ gb353)); revert n0_ n1_ n2_ n3_ n4_ n5_ n6_ n7_ n8_ n9_ n10_ n11_ n12_ n13_ n14_ n15_ n16_ n17_ n18_ n19_ n20_ n21_; clear HO_343000 HO_344000 HO_349000 HO_354000 HO372 HO375 BK342 BK343 BK348 BK353 HB; intro HO_343000 HO_344000 HO_349000 HO_354000 HO372 HO375 BK342 BK343 BK348 BK353 HB BK376 GW376 GE376 NB342_376 NB376_342 NB343_376 NB376_343 NB348_376 NB376_348 NB353_376 NB376_353; clear hb hbox hg; obtain ⟨Ao141, co141, eo141⟩ := Kd.R_slice HO372.out; subst eo141; have hnb142 := NB376_342.out; have hnc142 := NB342_376.out; have hnb143 := NB376_343.out; have hnc143 := NB343_376.out; have hnb144 := NB376_348.out; have hnc144 := NB348_376.out; have hnb145 := NB376_353.out; have hnc145 := NB353_376.out; obtain ⟨hcz146_0, hfz146_0⟩ := cz1 BK376.out; obtain ⟨Ao147, co147, eo147⟩ := Kd.R_slice HO375.out; subst eo147) | (go_at_call 8; (with_reducible refine (impl_PickCells.calls kj42 _ _ t370 _ _ t373 t377 t380 _ ?side1 ?side2 ?side3 ?side4 A135.out).mono ?_); (case side1 => refine (Kd.R_reads' (e := 3) (base := w.heap.size) (ok := fun k_ => ((((some k_ ≠ (.slice Ao147 t373.length co147 : Value).ownBlock ∧ some k_ ≠ (.slice Ao11 t333.length co11 : Value).ownBlock) ∧ some k_ ≠ (.slice Ao14 t336.length co14 : Value).ownBlock) ∧ some k_ ≠ (.slice Ao19 t344.length co19 : Value).ownBlock) ∧ some k_ ≠ (.slice Ao27 t349.length co27 : Value).ownBlock)) (n := t370.length) (c := co141) ?_).2.2; exact (rF HO372 BK376 (.slice Ao141 t370.length co141))); (case side2 => exact (Kd.R_reads' HO372.out).2.1); (case side3 => refine (Kd.R_reads' (e := 3) (base := w.heap.size) (ok := fun k_ => ((((some k_ ≠ (.slice Ao141 t370.length co141 : Value).ownBlock ∧ some k_ ≠ (.slice Ao11 t333.length co11 : Value).ownBlock) ∧ some k_ ≠ (.slice Ao14 t336.length co14 : Value).ownBlock) ∧ some k_ ≠ (.slice Ao19 t344.length co19 : Value).ownBlock) ∧ some k_ ≠ (.slice Ao27 t349.length co27 : Value).ownBlock)) (n := t373.length) (c := co147) ?_).2.2; exact (rF HO375 BK376 (.slice Ao141 t370.length co141))); (case side4 => exact (Kd.R_reads' HO375.out).2.1); rintro e w148 ⟨v378, rfl, ho0, hb⟩; have n0_ := xm (Kd.R_elder' (rF HO_343000 BK376 (.slice Ao141 t370.length co141)) (Kd.R_base ho0) hb); have n1_ := xm (Kd.R_elder' (rF HO_344000 BK376 (.slice Ao141 t370.length co141)) (Kd.R_base ho0) hb); have n2_ := xm (Kd.R_elder' (rF HO_349000 BK376 (.slice Ao141 t370.length co141)) (Kd.R_base ho0) hb); have n3_ := xm (Kd.R_elder' (rF HO_354000 BK376 (.slice Ao141 t370.length co141)) (Kd.R_base ho0) hb); have n4_ := xm (Kd.R_elder' (rF HO372 BK376 (.slice Ao141 t370.length co141)) (Kd.R_base ho0) hb); have n5_ := xm (Kd.R_elder' (rF HO375 BK376 (.slice Ao141 t370.length co141)) (Kd.R_base ho0) hb); have n6_ := xm (Kd.R_lower (Kd.R_new' (Kd.R_new' (Kd.R_new' (Kd.R_new' (Kd.R_new' (Kd.R_new' ho0 (Kd.R_lt (rF HO_343000 BK376 (.slice Ao141 t370.length co141)))) (Kd.R_lt (rF HO_344000 BK376 (.slice Ao141 t370.length co141)))) (Kd.R_lt (rF HO_349000 BK376 (.slice Ao141 t370.length co141)))) (Kd.R_lt (rF HO_354000 BK376 (.slice Ao141 t370.length co141)))) (Kd.R_lt (rF HO372 BK376 (.slice Ao141 t370.length co141)))) (Kd.R_lt (rF HO375 BK376 (.slice Ao141 t370.length co141)))) (xz bG)); have n7_ := xm (blk_below (kF BK342 NB342_376) hb); have n8_ := xm (blk_below (kF BK343 NB343_376) hb); have n9_ := xm (blk_below (kF BK348 NB348_376) hb); have n10_ := xm (blk_below (kF BK353 NB353_376) hb); have n11_ := xm (blk_below (g := gb376) (o := .cells #[.slice Ao141 t370.length co141] 25 (0, 0)) (by (with_reducible repeat (first | refine xq ?_ _ | refine xr ?_ | refine xo ?_ _)); refine blk_put (cs := #[.slice none 0 0]) ?_ 0 _ rfl; (with_reducible repeat (first | refine xq ?_ _ | refine xr ?_ | refine xo ?_ _)); exact BK376.out) hb); have n12_ := xm (below_step bG hb); revert n0_ n1_ n2_ n3_ n4_ n5_ n6_ n7_ n8_ n9_ n10_ n11_ n12_; clear HO_343000 HO_344000 HO_349000 HO_354000 HO372 HO375 BK342 BK343 BK348 BK353 BK376 HB; intro HO_343000 HO_344000 HO_349000 HO_354000 HO372 HO375 HO379 BK342 BK343 BK348 BK353 BK376 HB; (try clear hb); (try clear ho0)) | ((with_reducible refine gate_dst (N := 20) rfl ?_); (try (refine gate_guard (by rfl) ?_; dsimp only)); refine box_event ?hg (N := 20) ?hd (cs := #[.slice none 0 0]) (t := 25) ?hr ?_; (case hd => rfl); (case hg => rfl); (case hr => exact zB); intro gb381 hg w149 hbox hb; have n0_ := xm (Kd.R_below (rB HO_343000) hb); have n1_ := xm (Kd.R_below (rB HO_344000) hb); have n2_ := xm (Kd.R_below (rB HO_349000) hb); have n3_ := xm (Kd.R_below (rB HO_354000) hb); have n4_ := xm (Kd.R_below (rB HO372) hb); have n5_ := xm (Kd.R_below (rB HO375) hb); have n6_ := xm (Kd.R_below (rB HO379) hb); have n7_ := xm (blk_below (kB BK342) hb); have n8_ := xm (blk_below (kB BK343) hb); have n9_ := xm (blk_below (kB BK348) hb); have n10_ := xm (blk_below (kB BK353) hb); have n11_ := xm (blk_below (kB BK376) hb); have n12_ := xm (below_step bG hb); have n13_ := xm (hbox); have n14_ := xm ((by rw [hg]; exact (xz bG) : w.heap.size ≤ gb381)); have n15_ := xm ((by rw [hg]; exact (xz bG) : w.heap.size ≤ gb381)); have n16_ := xm ((by rw [hg]; exact Nat.ne_of_lt (blk_lt (kB BK342)) : gb342 ≠ gb381)); have n17_ := xm ((by rw [hg]; exact Nat.ne_of_gt (blk_lt (kB BK342)) : gb381 ≠ gb342)); have n18_ := xm ((by rw [hg]; exact Nat.ne_of_lt (blk_lt (kB BK343)) : gb343 ≠ gb381)); have n19_ := xm ((by rw [hg]; exact Nat.ne_of_gt (blk_lt (kB BK343)) : gb381 ≠ gb343)); have n20_ := xm ((by rw [hg]; exact Nat.ne_of_lt (blk_lt (kB BK348)) : gb348 ≠ gb381)); have n21_ := xm ((by rw [hg]; exact Nat.ne_of_gt (blk_lt (kB BK348)) : gb381 ≠ gb348)); have n22_ := xm ((by rw [hg]; exact Nat.ne_of_lt (blk_lt (kB BK353)) : gb353 ≠ gb381)); have n23_ := xm ((by rw [hg]; exact Nat.ne_of_gt (blk_lt (kB BK353)) : gb381 ≠ gb353)); have n24_ := xm ((by rw [hg]; exact Nat.ne_of_lt (blk_lt (kB BK376)) : gb376 ≠ gb381)); have n25_ := xm ((by rw [hg]; exact Nat.ne_of_gt (blk_lt (kB BK376)) : gb381 ≠ gb376)); revert n0_ n1_ n2_ n3_ n4_ n5_ n6_ n7_ n8_ n9_ n10_ n11_ n12_ n13_ n14_ n15_ n16_ n17_ n18_ n19_ n20_ n21_ n22_ n23_ n24_ n25_; clear HO_343000 HO_344000 HO_349000 HO_354000 HO372 HO375 HO379 BK342 BK343 BK348 BK353 BK376 HB; intro HO_343000 HO_344000 HO_349000 HO_354000 HO372 HO375 HO379 BK342 BK343 BK348 BK353 BK376 HB BK381 GW381 GE381 NB342_381 NB381_342 NB343_381 NB381_343 NB348_381 NB381_348 NB353_381 NB381_353 NB376_381 NB381_376; clear hb hbox hg; obtain ⟨Ao150, co150, eo150⟩ := Kd.R_slice HO379.out; subst eo150; have hnb151 := NB381_342.out; have hnc151 := NB342_381.out; have hnb152 := NB381_343.out; have hnc152 := NB343_381.out; have hnb153 := NB381_348.out; have hnc153 := NB348_381.out; have hnb154 := NB381_353.out; have hnc154 := NB353_381.out; have hnb155 := NB381_376.out; have hnc155 := NB376_381.out; obtain ⟨hcz156_0, hfz156_0⟩ := cz1 BK381.out; obtain ⟨hcz157_0, hfz157_0⟩ := cz1 BK376.out) | (go_at_call 11; (with_reducible refine (spec_PickCells.calls kj42 _ _ t370 _ _ t373 t382 t385 _ ?side1 ?side2 ?side3 ?side4 A136.out).mono ?_); (case side1 => refine (Kd.R_reads' (e := 3) (base := w.heap.size) (ok := fun k_ => (((((some k_ ≠ (.slice Ao147 t373.length co147 : Value).ownBlock ∧ some k_ ≠ (.slice Ao11 t333.length co11 : Value).ownBlock) ∧ some k_ ≠ (.slice Ao14 t336.length co14 : Value).ownBlock) ∧ some k_ ≠ (.slice Ao19 t344.length co19 : Value).ownBlock) ∧ some k_ ≠ (.slice Ao27 t349.length co27 : Value).ownBlock) ∧ some k_ ≠ (.slice Ao150 t377.length co150 : Value).ownBlock)) (n := t370.length) (c := co141) ?_).2.2; exact (rF HO372 BK381 (.slice Ao150 t377.length co150))); (case side2 => exact (Kd.R_reads' HO372.out).2.1); (case side3 => refine (Kd.R_reads' (e := 3) (base := w.heap.size) (ok := fun k_ => (((((some k_ ≠ (.slice Ao141 t370.length co141 : Value).ownBlock ∧ some k_ ≠ (.slice Ao11 t333.length co11 : Value).ownBlock) ∧ some k_ ≠ (.slice Ao14 t336.length co14 : Value).ownBlock) ∧ some k_ ≠ (.slice Ao19 t344.length co19 : Value).ownBlock) ∧ some k_ ≠ (.slice Ao27 t349.length co27 : Value).ownBlock) ∧ some k_ ≠ (.slice Ao150 t377.length co150 : Value).ownBlock)) (n := t373.length) (c := co147) ?_).2.2; exact (rF HO375 BK381 (.slice Ao150 t377.length co150))); (case side4 => exact (Kd.R_reads' HO375.out).2.1); rintro e w158 ⟨v383, rfl, ho0, hb⟩; have n0_ := xm (Kd.R_elder' (rF HO_343000 BK381 (.slice Ao150 t377.length co150)) (Kd.R_base ho0) hb); have n1_ := xm (Kd.R_elder' (rF HO_344000 BK381 (.slice Ao150 t377.length co150)) (Kd.R_base ho0) hb); have n2_ := xm (Kd.R_elder' (rF HO_349000 BK381 (.slice Ao150 t377.length co150)) (Kd.R_base ho0) hb); have n3_ := xm (Kd.R_elder' (rF HO_354000 BK381 (.slice Ao150 t377.length co150)) (Kd.R_base ho0) hb); have n4_ := xm (Kd.R_elder' (rF HO372 BK381 (.slice Ao150 t377.length co150)) (Kd.R_base ho0) hb); have n5_ := xm (Kd.R_elder' (rF HO375 BK381 (.slice Ao150 t377.length co150)) (Kd.R_base ho0) hb); have n6_ := xm (Kd.R_elder' (rF HO379 BK381 (.slice Ao150 t377.length co150)) (Kd.R_base ho0) hb); have n7_ := xm (Kd.R_lower (Kd.R_new' (Kd.R_new' (Kd.R_new' (Kd.R_new' (Kd.R_new' (Kd.R_new' (Kd.R_new' ho0 (Kd.R_lt (rF HO_343000 BK381 (.slice Ao150 t377.length co150)))) (Kd.R_lt (rF HO_344000 BK381 (.slice Ao150 t377.length co150)))) (Kd.R_lt (rF HO_349000 BK381 (.slice Ao150 t377.length co150)))) (Kd.R_lt (rF HO_354000 BK381 (.slice Ao150 t377.length co150)))) (Kd.R_lt (rF HO372 BK381 (.slice Ao150 t377.length co150)))) (Kd.R_lt (rF HO375 BK381 (.slice Ao150 t377.length co150)))) (Kd.R_lt (rF HO379 BK381 (.slice Ao150 t377.length co150)))) (xz bG)); have n8_ := xm (blk_below (kF BK342 NB342_381) hb); have n9_ := xm (blk_below (kF BK343 NB343_381) hb); have n10_ := xm (blk_below (kF BK348 NB348_381) hb); have n11_ := xm (blk_below (kF BK353 NB353_381) hb); have n12_ := xm (blk_below (kF BK376 NB376_381) hb); have n13_ := xm (blk_below (g := gb381) (o := .cells #[.slice Ao150 t377.length co150] 25 (0, 0)) (by (with_reducible repeat (first | refine xq ?_ _ | refine xr ?_ | refine xo ?_ _)); refine blk_put (cs := #[.slice none 0 0]) ?_ 0 _ rfl; (with_reducible repeat (first | refine xq ?_ _ | refine xr ?_ | refine xo ?_ _)); exact BK381.out) hb); have n14_ := xm (below_step bG hb); revert n0_ n1_ n2_ n3_ n4_ n5_ n6_ n7_ n8_ n9_ n10_ n11_ n12_ n13_ n14_; clear HO_343000 HO_344000 HO_349000 HO_354000 HO372 HO375 HO379 BK342 BK343 BK348 BK353 BK376 BK381 HB; intro HO_343000 HO_344000 HO_349000 HO_354000 HO372 HO375 HO379 HO384 BK342 BK343 BK348 BK353 BK376 BK381 HB; (try clear hb); (try clear ho0)) | ((with_reducible refine gate_dst (N := 22) rfl ?_); (try (refine gate_guard (by rfl) ?_; dsimp only)); refine box_event ?hg (N := 22) ?hd (cs := #[.slice none 0 0]) (t := 25) ?hr ?_; (case hd => rfl); (case hg => rfl); (case hr => exact zB); intro gb386 hg w159 hbox hb; have n0_ := xm (Kd.R_below (rB HO_343000) hb); have n1_ := xm (Kd.R_below (rB HO_344000) hb); have n2_ := xm (Kd.R_below (rB HO_349000) hb); have n3_ := xm (Kd.R_below (rB HO_354000) hb); have n4_ := xm (Kd.R_below (rB HO372) hb); have n5_ := xm (Kd.R_below (rB HO375) hb); have n6_ := xm (Kd.R_below (rB HO379) hb); have n7_ := xm (Kd.R_below (rB HO384) hb); have n8_ := xm (blk_below (kB BK342) hb); have n9_ := xm (blk_below (kB BK343) hb); have n10_ := xm (blk_below (kB BK348) hb); have n11_ := xm (blk_below (kB BK353) hb); have n12_ := xm (blk_below (kB BK376) hb); have n13_ := xm (blk_below (kB BK381) hb); have n14_ := xm (below_step bG hb); have n15_ := xm (hbox); have n16_ := xm ((by rw [hg]; exact (xz bG) : w.heap.size ≤ gb386)); have n17_ := xm ((by rw [hg]; exact (xz bG) : w.heap.size ≤ gb386)); have n18_ := xm ((by rw [hg]; exact Nat.ne_of_lt (blk_lt (kB BK342)) : gb342 ≠ gb386)); have n19_ := xm ((by rw [hg]; exact Nat.ne_of_gt (blk_lt (kB BK342)) : gb386 ≠ gb342)); have n20_ := xm ((by rw [hg]; exact Nat.ne_of_lt (blk_lt (kB BK343)) : gb343 ≠ gb386)); have n21_ := xm ((by rw [hg]; exact Nat.ne_of_gt (blk_lt (kB BK343)) : gb386 ≠ gb343)); have n22_ := xm ((by rw [hg]; exact Nat.ne_of_lt (blk_lt (kB BK348)) : gb348 ≠ gb386)); have n23_ := xm ((by rw [hg]; exact Nat.ne_of_gt (blk_lt (kB BK348)) : gb386 ≠ gb348)); have n24_ := xm ((by rw [hg]; exact Nat.ne_of_lt (blk_lt (kB BK353)) : gb353 ≠ gb386)); have n25_ := xm ((by rw [hg]; exact Nat.ne_of_gt (blk_lt (kB BK353)) : gb386 ≠ gb353)); have n26_ := xm ((by rw [hg]; exact Nat.ne_of_lt (blk_lt (kB BK376)) : gb376 ≠ gb386)); have n27_ := xm ((by rw [hg]; exact Nat.ne_of_gt (blk_lt (kB BK376)) : gb386 ≠ gb376)); have n28_ := xm ((by rw [hg]; exact Nat.ne_of_lt (blk_lt (kB BK381)) : gb381 ≠ gb386)); have n29_ := xm ((by rw [hg]; exact Nat.ne_of_gt (blk_lt (kB BK381)) : gb386 ≠ gb381)); revert n0_ n1_ n2_ n3_ n4_ n5_ n6_ n7_ n8_ n9_ n10_ n11_ n12_ n13_ n14_ n15_ n16_ n17_ n18_ n19_ n20_ n21_ n22_ n23_ n24_ n25_ n26_ n27_ n28_ n29_; clear HO_343000 HO_344000 HO_349000 HO_354000 HO372 HO375 HO379 HO384 BK342 BK343 BK348 BK353 BK376 BK381 HB; intro HO_343000 HO_344000 HO_349000 HO_354000 HO372 HO375 HO379 HO384 BK342 BK343 BK348 BK353 BK376 BK381 HB BK386 GW386 GE386 NB342_386 NB386_342 NB343_386 NB386_343 NB348_386 NB386_348 NB353_386 NB386_353 NB376_386 NB386_376 NB381_386 NB386_381; clear hb hbox hg; obtain ⟨Ao160, co160, eo160⟩ := Kd.R_slice HO384.out; subst eo160; have hnb161 := NB386_342.out; have hnc161 := NB342_386.out; have hnb162 := NB386_343.out; have hnc162 := NB343_386.out; have hnb163 := NB386_348.out; have hnc163 := NB348_386.out; have hnb164 := NB386_353.out; have hnc164 := NB353_386.out; have hnb165 := NB386_376.out; have hnc165 := NB376_386.out; have hnb166 := NB386_381.out; have hnc166 := NB381_386.out; obtain ⟨hcz167_0, hfz167_0⟩ := cz1 BK386.out; obtain ⟨hcz168_0, hfz168_0⟩ := cz1 BK381.out) | (go_at_call 7; (with_reducible refine (laws_sameRow.calls kj42 _ _ t377 _ _ t382 t387 _ ?side1 ?side2 ?side3 ?side4 A138.out).mono ?_); (case side1 => refine (Kd.R_reads' (e := 3) (base := w.heap.size) (ok := fun k_ => (((((((True ∧ some k_ ≠ (.slice Ao11 t333.length co11 : Value).ownBlock) ∧ some k_ ≠ (.slice Ao14 t336.length co14 : Value).ownBlock) ∧ some k_ ≠ (.slice Ao19 t344.length co19 : Value).ownBlock) ∧ some k_ ≠ (.slice Ao27 t349.length co27 : Value).ownBlock) ∧ some k_ ≠ (.slice Ao141 t370.length co141 : Value).ownBlock) ∧ some k_ ≠ (.slice Ao147 t373.length co147 : Value).ownBlock) ∧ some k_ ≠ (.slice Ao160 t382.length co160 : Value).ownBlock)) (n := t377.length) (c := co150) ?_).2.2; exact (rF HO379 BK386 (.slice Ao160 t382.length co160))); (case side2 => exact (Kd.R_reads' HO379.out).2.1); (case side3 => refine (Kd.R_reads' (e := 3) (base := w.heap.size) (ok := fun k_ => (((((((True ∧ some k_ ≠ (.slice Ao11 t333.length co11 : Value).ownBlock) ∧ some k_ ≠ (.slice Ao14 t336.length co14 : Value).ownBlock) ∧ some k_ ≠ (.slice Ao19 t344.length co19 : Value).ownBlock) ∧ some k_ ≠ (.slice Ao27 t349.length co27 : Value).ownBlock) ∧ some k_ ≠ (.slice Ao141 t370.length co141 : Value).ownBlock) ∧ some k_ ≠ (.slice Ao147 t373.length co147 : Value).ownBlock) ∧ some k_ ≠ (.slice Ao150 t377.length co150 : Value).ownBlock)) (n := t382.length) (c := co160) ?_).2.2; exact (rF HO384 BK386 (.slice Ao160 t382.length co160))); (case side4 => exact (Kd.R_reads' HO384.out).2.1); rintro e w169 ⟨rfl, hb⟩; have n0_ := xm (Kd.R_below (rF HO_343000 BK386 (.slice Ao160 t382.length co160)) hb); have n1_ := xm (Kd.R_below (rF HO_344000 BK386 (.slice Ao160 t382.length co160)) hb); have n2_ := xm (Kd.R_below (rF HO_349000 BK386 (.slice Ao160 t382.length co160)) hb); have n3_ := xm (Kd.R_below (rF HO_354000 BK386 (.slice Ao160 t382.length co160)) hb); have n4_ := xm (Kd.R_below (rF HO372 BK386 (.slice Ao160 t382.length co160)) hb); have n5_ := xm (Kd.R_below (rF HO375 BK386 (.slice Ao160 t382.length co160)) hb); have n6_ := xm (Kd.R_below (rF HO379 BK386 (.slice Ao160 t382.length co160)) hb); have n7_ := xm (Kd.R_below (rF HO384 BK386 (.slice Ao160 t382.length co160)) hb); have n8_ := xm (blk_below (kF BK342 NB342_386) hb); have n9_ := xm (blk_below (kF BK343 NB343_386) hb); have n10_ := xm (blk_below (kF BK348 NB348_386) hb); have n11_ := xm (blk_below (kF BK353 NB353_386) hb); have n12_ := xm (blk_below (kF BK376 NB376_386) hb); have n13_ := xm (blk_below (kF BK381 NB381_386) hb); have n14_ := xm (blk_below (g := gb386) (o := .cells #[.slice Ao160 t382.length co160] 25 (0, 0)) (by (with_reducible repeat (first | refine xq ?_ _ | refine xr ?_ | refine xo ?_ _)); refine blk_put (cs := #[.slice none 0 0]) ?_ 0 _ rfl; (with_reducible repeat (first | refine xq ?_ _ | refine xr ?_ | refine xo ?_ _)); exact BK386.out) hb); have n15_ := xm (below_step bG hb); revert n0_ n1_ n2_ n3_ n4_ n5_ n6_ n7_ n8_ n9_ n10_ n11_ n12_ n13_ n14_ n15_; clear HO_343000 HO_344000 HO_349000 HO_354000 HO372 HO375 HO379 HO384 BK342 BK343 BK348 BK353 BK376 BK381 BK386 HB; intro HO_343000 HO_344000 HO_349000 HO_354000 HO372 HO375 HO379 HO384 BK342 BK343 BK348 BK353 BK376 BK381 BK386 HB; (try clear hb))))
        go_ret
        exact ⟨(by rw [hlaw_.out]; rfl), bG⟩
       ·rw [if_neg c137] at H
        have c137b0 : (t380 == t385) = false := by simpa using c137
        (try (have c137b1 : decide (t380 = t385) = false := by simpa using c137))
        (try (have c137b2 : (t380 == t385) = false := by simpa using c137))
        (try (have c137b3 : ¬ (t380 = t385) := by simpa using c137))
        clear c137
        exact absurd H (by simp)

/-- THE ONE PURE STATEMENT of laws_FnRowJoins. -/
def laws_FnRowJoins.Pure : Prop := ∀ x0 : List Int, (x0.length ≤ 9223372036854775807 ∧ ∀ x0_ ∈ x0, (0 ≤ x0_ ∧ x0_ ≤ 255)) → ∀ x1 : List Int, (x1.length ≤ 9223372036854775807 ∧ ∀ x0_ ∈ x1, (0 ≤ x0_ ∧ x0_ ≤ 255)) → ∃ k, laws_FnRowJoins.f k x0 x1 = some true

end Go.Proofs.Ytmelechhnimlnaa.G
