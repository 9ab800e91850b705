/- Written by a program of this claim's own, out of the translation: functions of the program as plain functions, and that the calls answer as these. No conditions. -/
import Derived.Test.YtaddemalepndfaiG0
import Derived.Test.YtaddemalepndfaiG2
import Derived.Test.YtaddemalepndfaiG3
import Derived.Test.YtaddemalepndfaiG4
import Derived.Test.YtaddemalepndfaiG5
import Derived.Test.YtaddemalepndfaiG6
import Derived.Test.YtaddemalepndfaiG8
namespace Go.Proofs.Ytaddemalepndfai.G
open Go.RowKit Go.Proofs.Ytaddemalepndfai.X Go.Proofs.YtaddemalepndfaiW.PrintWords Go.Proofs.YtaddemalepndfaiW.PrintLast Go.Proofs.YtaddemalepndfaiW.PrintMore
attribute [local go_sem] max2_int min2_int max_two min_two max_three min_three max_four min_four   -- for this text's walks alone
set_option linter.unusedVariables false
set_option linter.unusedSimpArgs false

/-! ### laws_FnRowBytes: function 3 -/
mutual
def laws_FnRowBytes.j0 : Nat → List Int → Int → Bool → ByteArray → Bool → Bool → List Int → List Int → Option (Bool)
 | 0, _, _, _, _, _, _, _, _ => none
 | k + 1, x1, x7, x8, x11, x12, x82, x244000, x245000 => if x82 = true then (some false) else (if x8 = true then ((impl_CompareRows.f k x245000 x244000).bind fun bt254 => (if bt254.2 = true then (if bt254.1 = (wrap64 (-x7)) then ((laws_sameRow.f k x244000 x245000).bind fun t256 => (if ((x7 == 0) != t256) = true then (some false) else (laws_FnRowBytes.j1 k x1 x11 x12 x244000))) else (some false)) else (some false))) else (laws_FnRowBytes.j1 k x1 x11 x12 x244000))
def laws_FnRowBytes.j1 : Nat → List Int → ByteArray → Bool → List Int → Option (Bool)
 | 0, _, _, _, _ => none
 | k + 1, x1, x11, x12, x244000 => if x12 = true then ((impl_ReadRow.f k x11).bind fun bt257 => (if bt257.2 = true then ((laws_sameRow.f k bt257.1 x244000).bind fun t262 => (if t262 = true then (laws_FnRowBytes.j2 k x1) else (some false))) else (some false))) else (laws_FnRowBytes.j2 k x1)
def laws_FnRowBytes.j2 : Nat → List Int → Option (Bool)
 | 0, _ => none
 | k + 1, x1 => (spec_DrawReadRow.f k x1).bind fun t263 => ((impl_ReadRow.f k t263).bind fun bt264 => ((spec_ReadRow.f k t263).bind fun bt269 => (if (bt264.2 != bt269.2) = true then (some false) else ((laws_sameRow.f k bt264.1 bt269.1).bind fun t274 => (if t274 = true then ((impl_RowBytes.f k bt264.1).bind fun bt275 => (if bt264.2 = true then (if bt275.2 = true then (some (bt275.1.toList == t263.toList)) else (some false)) else (some true))) else (some false))))))
end
def laws_FnRowBytes.f (k : Nat) (l0 : List Int) (l1 : List Int) : Option (Bool) := if (wrap64 ((l0.length : Int) + (l1.length : Int))) > 1048576 then (some true) else ((spec_DrawCompareRows.f k l0).bind fun bt237 => ((impl_CompareRows.f k bt237.1 bt237.2).bind fun bt245 => ((spec_CompareRows.f k bt237.1 bt237.2).bind fun bt247 => ((impl_RowBytes.f k bt237.1).bind fun bt249 => ((spec_RowBytes.f k bt237.1).bind fun bt251 => (if (bt245.2 != bt247.2) = true then (laws_FnRowBytes.j0 k l1 bt245.1 bt245.2 bt249.1 bt249.2 true bt237.1 bt237.2) else (if bt245.1 = bt247.1 then (if (bt249.2 != bt251.2) = true then (laws_FnRowBytes.j0 k l1 bt245.1 bt245.2 bt249.1 bt249.2 true bt237.1 bt237.2) else (if bt249.1.toList = bt251.1.toList then ((impl_GoodRow.f bt237.1).bind fun t253 => (laws_FnRowBytes.j0 k l1 bt245.1 bt245.2 bt249.1 bt249.2 (t253 != bt251.2) bt237.1 bt237.2)) else (laws_FnRowBytes.j0 k l1 bt245.1 bt245.2 bt249.1 bt249.2 true bt237.1 bt237.2))) else (laws_FnRowBytes.j0 k l1 bt245.1 bt245.2 bt249.1 bt249.2 true bt237.1 bt237.2))))))))
theorem laws_FnRowBytes.mono_l : ∀ k, (∀ y0 y1 y2 y3 y4 y5 y6 y7, LeO (laws_FnRowBytes.j0 k y0 y1 y2 y3 y4 y5 y6 y7) (laws_FnRowBytes.j0 (k + 1) y0 y1 y2 y3 y4 y5 y6 y7)) ∧ (∀ y0 y1 y2 y3, LeO (laws_FnRowBytes.j1 k y0 y1 y2 y3) (laws_FnRowBytes.j1 (k + 1) y0 y1 y2 y3)) ∧ (∀ y0, LeO (laws_FnRowBytes.j2 k y0) (laws_FnRowBytes.j2 (k + 1) y0))
 | 0 => ⟨fun _ _ _ _ _ _ _ _ r h => by simp [laws_FnRowBytes.j0] at h, fun _ _ _ _ r h => by simp [laws_FnRowBytes.j1] at h, fun _ r h => by simp [laws_FnRowBytes.j2] at h⟩
 | k + 1 => by
  obtain ⟨ih0, ih1, ih2⟩ := laws_FnRowBytes.mono_l k
  refine ⟨?_, ?_, ?_⟩
  ·intro y0 y1 y2 y3 y4 y5 y6 y7
   unfold laws_FnRowBytes.j0
   repeat' first
   | (with_reducible exact ih0 _ _ _ _ _ _ _ _)
   | (with_reducible exact ih1 _ _ _ _)
   | (with_reducible exact ih2 _)
   | (with_reducible exact impl_CompareRows.mono _ _ _)
   | (with_reducible exact impl_ReadRow.mono _ _)
   | (with_reducible exact impl_RowBytes.mono _ _)
   | (with_reducible exact laws_sameRow.mono _ _ _)
   | (with_reducible exact spec_CompareRows.mono _ _ _)
   | (with_reducible exact spec_DrawCompareRows.mono _ _)
   | (with_reducible exact spec_DrawReadRow.mono _ _)
   | (with_reducible exact spec_ReadRow.mono _ _)
   | (with_reducible exact spec_RowBytes.mono _ _)
   | (with_reducible exact LeO.refl _)
   | (with_reducible exact LeO.none _)
   | (with_reducible refine LeO.ite ?_ ?_)
   | (with_reducible refine LeO.bind ?_ (fun _ => ?_))
   | exact ih0 _ _ _ _ _ _ _ _
   | exact ih1 _ _ _ _
   | exact ih2 _
   | exact impl_CompareRows.mono _ _ _
   | exact impl_ReadRow.mono _ _
   | exact impl_RowBytes.mono _ _
   | exact laws_sameRow.mono _ _ _
   | exact spec_CompareRows.mono _ _ _
   | exact spec_DrawCompareRows.mono _ _
   | exact spec_DrawReadRow.mono _ _
   | exact spec_ReadRow.mono _ _
   | exact spec_RowBytes.mono _ _
   | exact LeO.none _
   | refine LeO.ite ?_ ?_
   | refine LeO.bind ?_ (fun _ => ?_)
  ·intro y0 y1 y2 y3
   unfold laws_FnRowBytes.j1
   repeat' first
   | (with_reducible exact ih0 _ _ _ _ _ _ _ _)
   | (with_reducible exact ih1 _ _ _ _)
   | (with_reducible exact ih2 _)
   | (with_reducible exact impl_CompareRows.mono _ _ _)
   | (with_reducible exact impl_ReadRow.mono _ _)
   | (with_reducible exact impl_RowBytes.mono _ _)
   | (with_reducible exact laws_sameRow.mono _ _ _)
   | (with_reducible exact spec_CompareRows.mono _ _ _)
   | (with_reducible exact spec_DrawCompareRows.mono _ _)
   | (with_reducible exact spec_DrawReadRow.mono _ _)
   | (with_reducible exact spec_ReadRow.mono _ _)
   | (with_reducible exact spec_RowBytes.mono _ _)
   | (with_reducible exact LeO.refl _)
   | (with_reducible exact LeO.none _)
   | (with_reducible refine LeO.ite ?_ ?_)
   | (with_reducible refine LeO.bind ?_ (fun _ => ?_))
   | exact ih0 _ _ _ _ _ _ _ _
   | exact ih1 _ _ _ _
   | exact ih2 _
   | exact impl_CompareRows.mono _ _ _
   | exact impl_ReadRow.mono _ _
   | exact impl_RowBytes.mono _ _
   | exact laws_sameRow.mono _ _ _
   | exact spec_CompareRows.mono _ _ _
   | exact spec_DrawCompareRows.mono _ _
   | exact spec_DrawReadRow.mono _ _
   | exact spec_ReadRow.mono _ _
   | exact spec_RowBytes.mono _ _
   | exact LeO.none _
   | refine LeO.ite ?_ ?_
   | refine LeO.bind ?_ (fun _ => ?_)
  ·intro y0
   unfold laws_FnRowBytes.j2
   repeat' first
   | (with_reducible exact ih0 _ _ _ _ _ _ _ _)
   | (with_reducible exact ih1 _ _ _ _)
   | (with_reducible exact ih2 _)
   | (with_reducible exact impl_CompareRows.mono _ _ _)
   | (with_reducible exact impl_ReadRow.mono _ _)
   | (with_reducible exact impl_RowBytes.mono _ _)
   | (with_reducible exact laws_sameRow.mono _ _ _)
   | (with_reducible exact spec_CompareRows.mono _ _ _)
   | (with_reducible exact spec_DrawCompareRows.mono _ _)
   | (with_reducible exact spec_DrawReadRow.mono _ _)
   | (with_reducible exact spec_ReadRow.mono _ _)
   | (with_reducible exact spec_RowBytes.mono _ _)
   | (with_reducible exact LeO.refl _)
   | (with_reducible exact LeO.none _)
   | (with_reducible refine LeO.ite ?_ ?_)
   | (with_reducible refine LeO.bind ?_ (fun _ => ?_))
   | exact ih0 _ _ _ _ _ _ _ _
   | exact ih1 _ _ _ _
   | exact ih2 _
   | exact impl_CompareRows.mono _ _ _
   | exact impl_ReadRow.mono _ _
   | exact impl_RowBytes.mono _ _
   | exact laws_sameRow.mono _ _ _
   | exact spec_CompareRows.mono _ _ _
   | exact spec_DrawCompareRows.mono _ _
   | exact spec_DrawReadRow.mono _ _
   | exact spec_ReadRow.mono _ _
   | exact spec_RowBytes.mono _ _
   | exact LeO.none _
   | refine LeO.ite ?_ ?_
   | refine LeO.bind ?_ (fun _ => ?_)
theorem laws_FnRowBytes.mono : ∀ a0 a1 k, LeO (laws_FnRowBytes.f k a0 a1) (laws_FnRowBytes.f (k + 1) a0 a1) := by
 intro a0 a1 k
 obtain ⟨ih0, ih1, ih2⟩ := laws_FnRowBytes.mono_l k
 unfold laws_FnRowBytes.f
 repeat' first
   | (with_reducible exact ih0 _ _ _ _ _ _ _ _)
   | (with_reducible exact ih1 _ _ _ _)
   | (with_reducible exact ih2 _)
   | (with_reducible exact impl_CompareRows.mono _ _ _)
   | (with_reducible exact impl_ReadRow.mono _ _)
   | (with_reducible exact impl_RowBytes.mono _ _)
   | (with_reducible exact laws_sameRow.mono _ _ _)
   | (with_reducible exact spec_CompareRows.mono _ _ _)
   | (with_reducible exact spec_DrawCompareRows.mono _ _)
   | (with_reducible exact spec_DrawReadRow.mono _ _)
   | (with_reducible exact spec_ReadRow.mono _ _)
   | (with_reducible exact spec_RowBytes.mono _ _)
   | (with_reducible exact LeO.refl _)
   | (with_reducible exact LeO.none _)
   | (with_reducible refine LeO.ite ?_ ?_)
   | (with_reducible refine LeO.bind ?_ (fun _ => ?_))
   | exact ih0 _ _ _ _ _ _ _ _
   | exact ih1 _ _ _ _
   | exact ih2 _
   | exact impl_CompareRows.mono _ _ _
   | exact impl_ReadRow.mono _ _
   | exact impl_RowBytes.mono _ _
   | exact laws_sameRow.mono _ _ _
   | exact spec_CompareRows.mono _ _ _
   | exact spec_DrawCompareRows.mono _ _
   | exact spec_DrawReadRow.mono _ _
   | exact spec_ReadRow.mono _ _
   | exact spec_RowBytes.mono _ _
   | exact LeO.none _
   | refine LeO.ite ?_ ?_
   | refine LeO.bind ?_ (fun _ => ?_)
set_option maxHeartbeats 8000000 in
set_option maxRecDepth 100000 in
theorem laws_FnRowBytes.calls (k : Nat) (A0 : Option Addr) (c0 : Nat) (l0 : List Int) (A1 : Option Addr) (c1 : Nat) (l1 : List Int) (w : World) (hr0 : Kd.C (Kd.int .u8) w A0 l0.length l0) (hc0 : l0.length ≤ c0) (hr1 : Kd.C (Kd.int .u8) w A1 l1.length l1) (hc1 : l1.length ≤ c1) (h : laws_FnRowBytes.f k l0 l1 = some true) :
  Calls Try.prog 3 #[.slice A0 l0.length c0, .slice A1 l1.length c1] w fun e w' => e = .returned (.bool true) ∧ Below w.heap.size w w' := by
 have hu25 := Try.underlying25
 have HR0 := xm hr0
 have HC0 := xm hc0
 clear hr0 hc0
 have HR1 := xm hr1
 have HC1 := xm hc1
 clear hr1 hc1
 have HB := xm (Below.refl w.heap.size w)
 have H : (if (wrap64 ((l0.length : Int) + (l1.length : Int))) > 1048576 then (some true) else ((spec_DrawCompareRows.f k l0).bind fun bt237 => ((impl_CompareRows.f k bt237.1 bt237.2).bind fun bt245 => ((spec_CompareRows.f k bt237.1 bt237.2).bind fun bt247 => ((impl_RowBytes.f k bt237.1).bind fun bt249 => ((spec_RowBytes.f k bt237.1).bind fun bt251 => (if (bt245.2 != bt247.2) = true then (laws_FnRowBytes.j0 k l1 bt245.1 bt245.2 bt249.1 bt249.2 true bt237.1 bt237.2) else (if bt245.1 = bt247.1 then (if (bt249.2 != bt251.2) = true then (laws_FnRowBytes.j0 k l1 bt245.1 bt245.2 bt249.1 bt249.2 true bt237.1 bt237.2) else (if bt249.1.toList = bt251.1.toList then ((impl_GoodRow.f bt237.1).bind fun t253 => (laws_FnRowBytes.j0 k l1 bt245.1 bt245.2 bt249.1 bt249.2 (t253 != bt251.2) bt237.1 bt237.2)) else (laws_FnRowBytes.j0 k l1 bt245.1 bt245.2 bt249.1 bt249.2 true bt237.1 bt237.2))) else (laws_FnRowBytes.j0 k l1 bt245.1 bt245.2 bt249.1 bt249.2 true bt237.1 bt237.2))))))))) = some true := h
 clear h
 by_cases c3 : (wrap64 ((l0.length : Int) + (l1.length : Int))) > 1048576
 ·rw [if_pos c3] at H
  have c3b0 : decide (1048576 < (wrap64 ((l0.length : Int) + (l1.length : Int)))) = true := decide_eq_true c3
  clear c3
  clear H
  go_enter Try.func3, Try.ntmps3
  go_wp2
  go_ret
  exact ⟨eB, bG⟩
 ·rw [if_neg c3] at H
  have c3b0 : decide (1048576 < (wrap64 ((l0.length : Int) + (l1.length : Int)))) = false := decide_eq_false c3
  clear c3
  replace H := Option.bind_eq_some_iff.mp H
  obtain ⟨⟨t237, t240⟩, A40, H⟩ := H
  replace H : ((impl_CompareRows.f k t237 t240).bind fun bt245 => ((spec_CompareRows.f k t237 t240).bind fun bt247 => ((impl_RowBytes.f k t237).bind fun bt249 => ((spec_RowBytes.f k t237).bind fun bt251 => (if (bt245.2 != bt247.2) = true then (laws_FnRowBytes.j0 k l1 bt245.1 bt245.2 bt249.1 bt249.2 true t237 t240) else (if bt245.1 = bt247.1 then (if (bt249.2 != bt251.2) = true then (laws_FnRowBytes.j0 k l1 bt245.1 bt245.2 bt249.1 bt249.2 true t237 t240) else (if bt249.1.toList = bt251.1.toList then ((impl_GoodRow.f t237).bind fun t253 => (laws_FnRowBytes.j0 k l1 bt245.1 bt245.2 bt249.1 bt249.2 (t253 != bt251.2) t237 t240)) else (laws_FnRowBytes.j0 k l1 bt245.1 bt245.2 bt249.1 bt249.2 true t237 t240))) else (laws_FnRowBytes.j0 k l1 bt245.1 bt245.2 bt249.1 bt249.2 true t237 t240))))))) = some true := H
  have A4 := xm A40
  clear A40
  replace H := Option.bind_eq_some_iff.mp H
  obtain ⟨⟨t245, t246⟩, A50, H⟩ := H
  replace H : ((spec_CompareRows.f k t237 t240).bind fun bt247 => ((impl_RowBytes.f k t237).bind fun bt249 => ((spec_RowBytes.f k t237).bind fun bt251 => (if (t246 != bt247.2) = true then (laws_FnRowBytes.j0 k l1 t245 t246 bt249.1 bt249.2 true t237 t240) else (if t245 = bt247.1 then (if (bt249.2 != bt251.2) = true then (laws_FnRowBytes.j0 k l1 t245 t246 bt249.1 bt249.2 true t237 t240) else (if bt249.1.toList = bt251.1.toList then ((impl_GoodRow.f t237).bind fun t253 => (laws_FnRowBytes.j0 k l1 t245 t246 bt249.1 bt249.2 (t253 != bt251.2) t237 t240)) else (laws_FnRowBytes.j0 k l1 t245 t246 bt249.1 bt249.2 true t237 t240))) else (laws_FnRowBytes.j0 k l1 t245 t246 bt249.1 bt249.2 true t237 t240)))))) = some true := H
  have A5 := xm A50
  clear A50
  replace H := Option.bind_eq_some_iff.mp H
  obtain ⟨⟨t247, t248⟩, A60, H⟩ := H
  replace H : ((impl_RowBytes.f k t237).bind fun bt249 => ((spec_RowBytes.f k t237).bind fun bt251 => (if (t246 != t248) = true then (laws_FnRowBytes.j0 k l1 t245 t246 bt249.1 bt249.2 true t237 t240) else (if t245 = t247 then (if (bt249.2 != bt251.2) = true then (laws_FnRowBytes.j0 k l1 t245 t246 bt249.1 bt249.2 true t237 t240) else (if bt249.1.toList = bt251.1.toList then ((impl_GoodRow.f t237).bind fun t253 => (laws_FnRowBytes.j0 k l1 t245 t246 bt249.1 bt249.2 (t253 != bt251.2) t237 t240)) else (laws_FnRowBytes.j0 k l1 t245 t246 bt249.1 bt249.2 true t237 t240))) else (laws_FnRowBytes.j0 k l1 t245 t246 bt249.1 bt249.2 true t237 t240))))) = some true := H
  have A6 := xm A60
  clear A60
  replace H := Option.bind_eq_some_iff.mp H
  obtain ⟨⟨t249, t250⟩, A70, H⟩ := H
  replace H : ((spec_RowBytes.f k t237).bind fun bt251 => (if (t246 != t248) = true then (laws_FnRowBytes.j0 k l1 t245 t246 t249 t250 true t237 t240) else (if t245 = t247 then (if (t250 != bt251.2) = true then (laws_FnRowBytes.j0 k l1 t245 t246 t249 t250 true t237 t240) else (if t249.toList = bt251.1.toList then ((impl_GoodRow.f t237).bind fun t253 => (laws_FnRowBytes.j0 k l1 t245 t246 t249 t250 (t253 != bt251.2) t237 t240)) else (laws_FnRowBytes.j0 k l1 t245 t246 t249 t250 true t237 t240))) else (laws_FnRowBytes.j0 k l1 t245 t246 t249 t250 true t237 t240)))) = some true := H
  have A7 := xm A70
  clear A70
  replace H := Option.bind_eq_some_iff.mp H
  obtain ⟨⟨t251, t252⟩, A80, H⟩ := H
  replace H : (if (t246 != t248) = true then (laws_FnRowBytes.j0 k l1 t245 t246 t249 t250 true t237 t240) else (if t245 = t247 then (if (t250 != t252) = true then (laws_FnRowBytes.j0 k l1 t245 t246 t249 t250 true t237 t240) else (if t249.toList = t251.toList then ((impl_GoodRow.f t237).bind fun t253 => (laws_FnRowBytes.j0 k l1 t245 t246 t249 t250 (t253 != t252) t237 t240)) else (laws_FnRowBytes.j0 k l1 t245 t246 t249 t250 true t237 t240))) else (laws_FnRowBytes.j0 k l1 t245 t246 t249 t250 true t237 t240))) = some true := H
  have A8 := xm A80
  clear A80
  have HC9 := xm H
  clear H
  go_enter Try.func3, Try.ntmps3
  go_upto_region 8 with (first | ((with_reducible refine gate_callee (f := 4) rfl ?_); refine goesL_ (some 34) rfl rfl Try.func4 (by kernel_rfl) rfl #[.slice A0 l0.length c0] rfl mB ?_; (with_reducible refine (spec_DrawCompareRows.calls k _ _ l0 t237 t240 _ ?side1 ?side2 A4.out).mono ?_); (case side1 => repeat (first | exact HR0.out | (with_reducible refine Kd.C_alloc ?_ _) | (with_reducible refine Kd.C_drewN ?_ _) | (with_reducible refine Kd.C_drew ?_))); (case side2 => exact HC0.out); rintro e w10 ⟨v238, v241, rfl, ho0, ho1, hb⟩; refine ⟨_, rfl, ?_⟩; have n0_ := xm (Kd.R_lower ho0 (xz bB)); have n1_ := xm (Kd.R_lower ho1 (xz bB)); have n2_ := xm (below_step bB hb); revert n0_ n1_ n2_; clear HB; intro HO239 HO242 HB; (try clear hb); (try clear hk); (try clear ho0); (try clear ho1)) | ((with_reducible refine gate_dst (N := 5) rfl ?_); refine box_event ?hg (N := 5) ?hd (cs := #[.slice none 0 0]) (t := 25) ?hr ?_; (case hd => rfl); (case hg => rfl); (case hr => exact zB); intro gb243 hg w11 hbox hb; have n0_ := xm (Kd.R_below (rB HO239) hb); have n1_ := xm (Kd.R_below (rB HO242) hb); have n2_ := xm (below_step bB hb); have n3_ := xm (hbox); have n4_ := xm ((by rw [hg]; exact (xz bB) : w.heap.size ≤ gb243)); have n5_ := xm ((by rw [hg]; exact (xz bB) : w.heap.size ≤ gb243)); revert n0_ n1_ n2_ n3_ n4_ n5_; clear HO239 HO242 HB; intro HO239 HO242 HB BK243 GW243 GE243; clear hb hbox hg) | ((with_reducible refine gate_dst (N := 6) rfl ?_); refine box_event ?hg (N := 6) ?hd (cs := #[.slice none 0 0]) (t := 25) ?hr ?_; (case hd => rfl); (case hg => rfl); (case hr => exact zB); intro gb244 hg w12 hbox hb; have n0_ := xm (Kd.R_below (rB HO239) hb); have n1_ := xm (Kd.R_below (rB HO242) hb); have n2_ := xm (blk_below (kB BK243) hb); have n3_ := xm (below_step bG hb); have n4_ := xm (hbox); have n5_ := xm ((by rw [hg]; exact (xz bG) : w.heap.size ≤ gb244)); have n6_ := xm ((by rw [hg]; exact (xz bG) : w.heap.size ≤ gb244)); have n7_ := xm ((by rw [hg]; exact Nat.ne_of_lt (blk_lt (kB BK243)) : gb243 ≠ gb244)); have n8_ := xm ((by rw [hg]; exact Nat.ne_of_gt (blk_lt (kB BK243)) : gb244 ≠ gb243)); revert n0_ n1_ n2_ n3_ n4_ n5_ n6_ n7_ n8_; clear HO239 HO242 BK243 HB; intro HO239 HO242 BK243 HB BK244 GW244 GE244 NB243_244 NB244_243; clear hb hbox hg; obtain ⟨Ao13, co13, eo13⟩ := Kd.R_slice HO239.out; subst eo13; have hnb14 := NB243_244.out; have hnc14 := NB244_243.out; obtain ⟨hcz15_0, hfz15_0⟩ := cz1 BK243.out; obtain ⟨Ao16, co16, eo16⟩ := Kd.R_slice HO242.out; subst eo16; obtain ⟨hcz17_0, hfz17_0⟩ := cz1 BK244.out) | ((with_reducible refine gate_callee (f := 5) rfl ?_); refine goesL_ (some 40) rfl rfl Try.func5 (by kernel_rfl) rfl #[.agg #[.slice Ao13 t237.length co13], .agg #[.slice Ao16 t240.length co16]] rfl mB ?_; (with_reducible refine (impl_CompareRows.calls k _ _ t237 _ _ t240 t245 t246 _ ?side1 ?side2 ?side3 ?side4 A5.out).mono ?_); (case side1 => refine (Kd.R_reads' (e := 3) (base := w.heap.size) (ok := fun k_ => True) (n := t237.length) (c := co13) ?_).2.2; exact (by (with_reducible repeat (first | apply Kd.R_alloc | apply Kd.R_drewN | apply Kd.R_drew)); exact (Kd.R_mono (Kd.R_mono (Kd.R_far (p := ⟨gb244, 0, none⟩) (Kd.R_far (p := ⟨gb243, 0, none⟩) (Kd.R_types (Kd.R_types HO239.out BK243.out (by decide)) BK244.out (by decide)) (fun _ hk => hk.1.2) (.slice Ao13 t237.length co13)) (fun _ hk => hk.2) (.slice Ao16 t240.length co16)) (fun _ h_ => h_.1)) (fun _ h_ => h_.1)))); (case side2 => exact (Kd.R_reads' HO239.out).2.1); (case side3 => refine (Kd.R_reads' (e := 3) (base := w.heap.size) (ok := fun k_ => True) (n := t240.length) (c := co16) ?_).2.2; exact (by (with_reducible repeat (first | apply Kd.R_alloc | apply Kd.R_drewN | apply Kd.R_drew)); exact (Kd.R_mono (Kd.R_mono (Kd.R_far (p := ⟨gb244, 0, none⟩) (Kd.R_far (p := ⟨gb243, 0, none⟩) (Kd.R_types (Kd.R_types HO242.out BK243.out (by decide)) BK244.out (by decide)) (fun _ hk => hk.1.2) (.slice Ao13 t237.length co13)) (fun _ hk => hk.2) (.slice Ao16 t240.length co16)) (fun _ h_ => h_.1)) (fun _ h_ => h_.1)))); (case side4 => exact (Kd.R_reads' HO242.out).2.1); rintro e w18 ⟨rfl, hb⟩; refine ⟨_, rfl, ?_⟩; have n0_ := xm (Kd.R_below (by (with_reducible repeat (first | apply Kd.R_alloc | apply Kd.R_drewN | apply Kd.R_drew)); exact (Kd.R_mono (Kd.R_mono (Kd.R_far (p := ⟨gb244, 0, none⟩) (Kd.R_far (p := ⟨gb243, 0, none⟩) (Kd.R_types (Kd.R_types HO239.out BK243.out (by decide)) BK244.out (by decide)) (fun _ hk => hk.1.2) (.slice Ao13 t237.length co13)) (fun _ hk => hk.2) (.slice Ao16 t240.length co16)) (fun _ h_ => h_.1)) (fun _ h_ => h_.1))) hb); have n1_ := xm (Kd.R_below (by (with_reducible repeat (first | apply Kd.R_alloc | apply Kd.R_drewN | apply Kd.R_drew)); exact (Kd.R_mono (Kd.R_mono (Kd.R_far (p := ⟨gb244, 0, none⟩) (Kd.R_far (p := ⟨gb243, 0, none⟩) (Kd.R_types (Kd.R_types HO242.out BK243.out (by decide)) BK244.out (by decide)) (fun _ hk => hk.1.2) (.slice Ao13 t237.length co13)) (fun _ hk => hk.2) (.slice Ao16 t240.length co16)) (fun _ h_ => h_.1)) (fun _ h_ => h_.1))) hb); have n2_ := xm (blk_below (g := gb243) (o := .cells #[.slice Ao13 t237.length co13] 25 (0, 0)) (by (with_reducible repeat (first | refine xq ?_ _ | refine xr ?_ | refine xo ?_ _)); refine blk_far ?_ NB243_244.out _; (with_reducible repeat (first | refine xq ?_ _ | refine xr ?_ | refine xo ?_ _)); refine blk_put (cs := #[.slice none 0 0]) ?_ 0 _ rfl; (with_reducible repeat (first | refine xq ?_ _ | refine xr ?_ | refine xo ?_ _)); exact BK243.out) hb); have n3_ := xm (blk_below (g := gb244) (o := .cells #[.slice Ao16 t240.length co16] 25 (0, 0)) (by (with_reducible repeat (first | refine xq ?_ _ | refine xr ?_ | refine xo ?_ _)); refine blk_put (cs := #[.slice none 0 0]) ?_ 0 _ rfl; (with_reducible repeat (first | refine xq ?_ _ | refine xr ?_ | refine xo ?_ _)); refine blk_far ?_ NB244_243.out _; (with_reducible repeat (first | refine xq ?_ _ | refine xr ?_ | refine xo ?_ _)); exact BK244.out) hb); have n4_ := xm (below_step bG hb); revert n0_ n1_ n2_ n3_ n4_; clear HO239 HO242 BK243 BK244 HB; intro HO239 HO242 BK243 BK244 HB; (try clear hb); (try clear hk); obtain ⟨hcz19_0, hfz19_0⟩ := cz1 BK243.out; obtain ⟨hcz20_0, hfz20_0⟩ := cz1 BK244.out) | ((with_reducible refine gate_callee (f := 6) rfl ?_); refine goesL_ (some 46) rfl rfl Try.func6 (by kernel_rfl) rfl #[.agg #[.slice Ao13 t237.length co13], .agg #[.slice Ao16 t240.length co16]] rfl mB ?_; (with_reducible refine (spec_CompareRows.calls k _ _ t237 _ _ t240 t247 t248 _ ?side1 ?side2 ?side3 ?side4 A6.out).mono ?_); (case side1 => repeat (first | exact (Kd.R_reads' HO239.out).2.2 | (with_reducible refine Kd.C_alloc ?_ _) | (with_reducible refine Kd.C_drewN ?_ _) | (with_reducible refine Kd.C_drew ?_))); (case side2 => exact (Kd.R_reads' HO239.out).2.1); (case side3 => repeat (first | exact (Kd.R_reads' HO242.out).2.2 | (with_reducible refine Kd.C_alloc ?_ _) | (with_reducible refine Kd.C_drewN ?_ _) | (with_reducible refine Kd.C_drew ?_))); (case side4 => exact (Kd.R_reads' HO242.out).2.1); rintro e w21 ⟨rfl, hb⟩; refine ⟨_, rfl, ?_⟩; have n0_ := xm (Kd.R_below (rB HO239) hb); have n1_ := xm (Kd.R_below (rB HO242) hb); have n2_ := xm (blk_below (kB BK243) hb); have n3_ := xm (blk_below (kB BK244) hb); have n4_ := xm (below_step bG hb); revert n0_ n1_ n2_ n3_ n4_; clear HO239 HO242 BK243 BK244 HB; intro HO239 HO242 BK243 BK244 HB; (try clear hb); obtain ⟨hcz22_0, hfz22_0⟩ := cz1 BK243.out) | ((with_reducible refine gate_callee (f := 7) rfl ?_); refine goesL_ (some 51) rfl rfl Try.func7 (by kernel_rfl) rfl #[.agg #[.slice Ao13 t237.length co13]] rfl mB ?_; (with_reducible refine (impl_RowBytes.calls k _ _ t237 t249 t250 _ ?side1 ?side2 A7.out).mono ?_); (case side1 => repeat (first | exact (Kd.R_reads' HO239.out).2.2 | (with_reducible refine Kd.C_alloc ?_ _) | (with_reducible refine Kd.C_drewN ?_ _) | (with_reducible refine Kd.C_drew ?_))); (case side2 => exact (Kd.R_reads' HO239.out).2.1); rintro e w23 ⟨rfl, hb⟩; refine ⟨_, rfl, ?_⟩; have n0_ := xm (Kd.R_below (rB HO239) hb); have n1_ := xm (Kd.R_below (rB HO242) hb); have n2_ := xm (blk_below (kB BK243) hb); have n3_ := xm (blk_below (kB BK244) hb); have n4_ := xm (below_step bG hb); revert n0_ n1_ n2_ n3_ n4_; clear HO239 HO242 BK243 BK244 HB; intro HO239 HO242 BK243 BK244 HB; (try clear hb); obtain ⟨hcz24_0, hfz24_0⟩ := cz1 BK243.out) | ((with_reducible refine gate_callee (f := 8) rfl ?_); refine goesL_ (some 56) rfl rfl Try.func8 (by kernel_rfl) rfl #[.agg #[.slice Ao13 t237.length co13]] rfl mB ?_; (with_reducible refine (spec_RowBytes.calls k _ _ t237 t251 t252 _ ?side1 ?side2 A8.out).mono ?_); (case side1 => repeat (first | exact (Kd.R_reads' HO239.out).2.2 | (with_reducible refine Kd.C_alloc ?_ _) | (with_reducible refine Kd.C_drewN ?_ _) | (with_reducible refine Kd.C_drew ?_))); (case side2 => exact (Kd.R_reads' HO239.out).2.1); rintro e w25 ⟨rfl, hb⟩; refine ⟨_, rfl, ?_⟩; have n0_ := xm (Kd.R_below (rB HO239) hb); have n1_ := xm (Kd.R_below (rB HO242) hb); have n2_ := xm (blk_below (kB BK243) hb); have n3_ := xm (blk_below (kB BK244) hb); have n4_ := xm (below_step bG hb); revert n0_ n1_ n2_ n3_ n4_; clear HO239 HO242 BK243 BK244 HB; intro HO239 HO242 BK243 BK244 HB; (try clear hb)))
  (try simp only [Act.put, xi, xj, xk])
  go_cut [82] (fun v82 wc => ∃ (kq : Nat) (x82_8 : Bool), v82 = .bool x82_8 ∧ Aside0 (laws_FnRowBytes.j0 kq l1 t245 t246 t249 t250 x82_8 t237 t240 = some true) ∧ Aside0 (kq ≤ k) ∧ Aside0 (Kd.R (Kd.int .i64) 3 wc w.heap.size (fun k_ => True) (.slice Ao13 t237.length co13) t237) ∧ Aside0 (Kd.R (Kd.int .i64) 3 wc w.heap.size (fun k_ => True) (.slice Ao16 t240.length co16) t240) ∧ Aside0 (wc.heap[gb243]? = some (.cells #[(.slice Ao13 t237.length co13)] 25 (0, 0))) ∧ Aside0 (wc.heap[gb244]? = some (.cells #[(.slice Ao16 t240.length co16)] 25 (0, 0))) ∧ Aside0 (Below w.heap.size w wc))
  case first =>
   have H := HC9.out
   clear HC9
   by_cases c26 : (t246 != t248) = true
   ·rw [if_pos c26] at H
    have c26b0 : (t246 != t248) = true := c26
    (try (have c26b1 : decide (t246 = t248) = false := by simpa using c26))
    (try (have c26b2 : (t246 == t248) = false := by simpa using c26))
    (try (have c26b3 : ¬ (t246 = t248) := by simpa using c26))
    clear c26
    (first | rw [c26b0] | (simp only [i64_w, i32_w]; rw [c26b0]) | skip)
    have H' := xm H
    clear H
    go_wp2
    go_meet
    case rel => exact ⟨_, (true), sB, H', ⟨by first | omega | exact Nat.le_refl _⟩, ⟨rB HO239⟩, ⟨rB HO242⟩, ⟨kB BK243⟩, ⟨kB BK244⟩, ⟨bG⟩⟩
   ·rw [if_neg c26] at H
    have c26b0 : (t246 != t248) = false := by simpa using c26
    (try (have c26b1 : decide (t246 = t248) = true := by simpa using c26))
    (try (have c26b2 : (t246 == t248) = true := by simpa using c26))
    clear c26
    (first | rw [c26b0] | (simp only [i64_w, i32_w]; rw [c26b0]) | skip)
    by_cases c27 : t245 = t247
    ·rw [if_pos c27] at H
     have c27b0 : (t245 == t247) = true := beq_iff_eq.mpr c27
     have c27b1 : (t245 != t247) = false := bne_eq_false_iff_eq.mpr c27
     clear c27
     by_cases c28 : (t250 != t252) = true
     ·rw [if_pos c28] at H
      have c28b0 : (t250 != t252) = true := c28
      (try (have c28b1 : decide (t250 = t252) = false := by simpa using c28))
      (try (have c28b2 : (t250 == t252) = false := by simpa using c28))
      (try (have c28b3 : ¬ (t250 = t252) := by simpa using c28))
      clear c28
      have H' := xm H
      clear H
      go_wp2
      go_meet
      case rel => exact ⟨_, (true), sB, H', ⟨by first | omega | exact Nat.le_refl _⟩, ⟨rB HO239⟩, ⟨rB HO242⟩, ⟨kB BK243⟩, ⟨kB BK244⟩, ⟨bG⟩⟩
     ·rw [if_neg c28] at H
      have c28b0 : (t250 != t252) = false := by simpa using c28
      (try (have c28b1 : decide (t250 = t252) = true := by simpa using c28))
      (try (have c28b2 : (t250 == t252) = true := by simpa using c28))
      clear c28
      by_cases c29 : t249.toList = t251.toList
      ·rw [if_pos c29] at H
       have c29b0 : (t249.toList == t251.toList) = true := beq_iff_eq.mpr c29
       have c29b1 : (t249.toList != t251.toList) = false := bne_eq_false_iff_eq.mpr c29
       clear c29
       replace H := Option.bind_eq_some_iff.mp H
       obtain ⟨t253, A300, H⟩ := H
       replace H : (laws_FnRowBytes.j0 k l1 t245 t246 t249 t250 (t253 != t252) t237 t240) = some true := H
       have A30 := xm A300
       clear A300
       have H' := xm H
       clear H
       have hnb31 := NB243_244.out
       have hnc31 := NB244_243.out
       obtain ⟨hcz32_0, hfz32_0⟩ := cz1 BK243.out
       go_wp2_with (first | (go_at_call 9; (with_reducible refine (impl_GoodRow.calls _ _ t237 t253 _ ?side1 ?side2 A30.out).mono ?_); (case side1 => repeat (first | exact (Kd.R_reads' HO239.out).2.2 | (with_reducible refine Kd.C_alloc ?_ _) | (with_reducible refine Kd.C_drewN ?_ _) | (with_reducible refine Kd.C_drew ?_))); (case side2 => exact (Kd.R_reads' HO239.out).2.1); rintro e w33 ⟨rfl, hb⟩; have n0_ := xm (Kd.R_below (rB HO239) hb); have n1_ := xm (Kd.R_below (rB HO242) hb); have n2_ := xm (blk_below (kB BK243) hb); have n3_ := xm (blk_below (kB BK244) hb); have n4_ := xm (below_step bG hb); revert n0_ n1_ n2_ n3_ n4_; clear HO239 HO242 BK243 BK244 HB; intro HO239 HO242 BK243 BK244 HB; (try clear hb)))
       go_meet
       case rel => exact ⟨_, ((t253 != t252)), sB, H', ⟨by first | omega | exact Nat.le_refl _⟩, ⟨rB HO239⟩, ⟨rB HO242⟩, ⟨kB BK243⟩, ⟨kB BK244⟩, ⟨bG⟩⟩
      ·rw [if_neg c29] at H
       have c29b0 : (t249.toList == t251.toList) = false := beq_eq_false_iff_ne.mpr c29
       have c29b1 : (t249.toList != t251.toList) = true := bne_iff_ne.mpr c29
       have H' := xm H
       clear H
       go_wp2
       go_meet
       case rel => exact ⟨_, (true), sB, H', ⟨by first | omega | exact Nat.le_refl _⟩, ⟨rB HO239⟩, ⟨rB HO242⟩, ⟨kB BK243⟩, ⟨kB BK244⟩, ⟨bG⟩⟩
    ·rw [if_neg c27] at H
     have c27b0 : (t245 == t247) = false := beq_eq_false_iff_ne.mpr c27
     have c27b1 : (t245 != t247) = true := bne_iff_ne.mpr c27
     have H' := xm H
     clear H
     go_wp2
     go_meet
     case rel => exact ⟨_, (true), sB, H', ⟨by first | omega | exact Nat.le_refl _⟩, ⟨rB HO239⟩, ⟨rB HO242⟩, ⟨kB BK243⟩, ⟨kB BK244⟩, ⟨bG⟩⟩
  case rest =>
   clear HC9
   try clear c1
   try clear c2
   try clear p2
   try clear c3
   try clear c3b0
   try clear c4
   try clear c5
   try clear c6
   try clear p6
   try clear c7
   try clear c8
   try clear c14
   try clear c26
   try clear c26b0 c26b1 c26b2
   try clear c27
   try clear c27b0 c27b1
   try clear c28
   try clear c28b0 c28b1 c28b2
   try clear c29
   try clear c29b0 c29b1
   try clear c31
   try clear hcz15_0
   try clear hcz17_0
   try clear hcz19_0
   try clear hcz20_0
   try clear hcz22_0
   try clear hcz24_0
   try clear hcz32_0
   try clear hfz15_0
   try clear hfz17_0
   try clear hfz19_0
   try clear hfz20_0
   try clear hfz22_0
   try clear hfz24_0
   try clear hfz32_0
   obtain ⟨kq, x82_8, rfl, HA, HJ8, HO_244000, HO_245000, BK243, BK244, HB⟩ := hcut
   cases kq with
   | zero => exact absurd HA.out (by simp [laws_FnRowBytes.j0])
   | succ kj8 =>
    have H := HA.out
    clear HA
    simp only [laws_FnRowBytes.j0] at H
    by_cases c34 : x82_8 = true
    ·subst c34
     have H1 : (some false) = some true := by first | (with_reducible rfl) | (rw [if_pos rfl] at H; exact H)
     clear H
     have H := H1
     clear H1
     exact absurd H (by simp)
    ·replace c34 := Bool.eq_false_iff.mpr c34
     subst c34
     have H1 : (if t246 = true then ((impl_CompareRows.f kj8 t240 t237).bind fun bt254 => (if bt254.2 = true then (if bt254.1 = (wrap64 (-t245)) then ((laws_sameRow.f kj8 t237 t240).bind fun t256 => (if ((t245 == 0) != t256) = true then (some false) else (laws_FnRowBytes.j1 kj8 l1 t249 t250 t237))) else (some false)) else (some false))) else (laws_FnRowBytes.j1 kj8 l1 t249 t250 t237)) = some true := by first | (with_reducible rfl) | (rw [if_neg (show ¬ (false = true) by decide)] at H; exact H)
     clear H
     have H := H1
     clear H1
     have HC35 := xm H
     clear H
     go_upto_if 83 with (fail)
     go_cut [] (fun wc => ∃ (kq : Nat), Aside0 (laws_FnRowBytes.j1 kq l1 t249 t250 t237 = some true) ∧ Aside0 (kq ≤ kj8) ∧ Aside0 (Kd.R (Kd.int .i64) 3 wc w.heap.size (fun k_ => True) (.slice Ao13 t237.length co13) t237) ∧ Aside0 (Kd.R (Kd.int .i64) 3 wc w.heap.size (fun k_ => True) (.slice Ao16 t240.length co16) t240) ∧ Aside0 (wc.heap[gb243]? = some (.cells #[(.slice Ao13 t237.length co13)] 25 (0, 0))) ∧ Aside0 (wc.heap[gb244]? = some (.cells #[(.slice Ao16 t240.length co16)] 25 (0, 0))) ∧ Aside0 (Below w.heap.size w wc))
     case first =>
      have H := HC35.out
      clear HC35
      by_cases c36 : t246 = true
      ·subst c36
       have H1 : ((impl_CompareRows.f kj8 t240 t237).bind fun bt254 => (if bt254.2 = true then (if bt254.1 = (wrap64 (-t245)) then ((laws_sameRow.f kj8 t237 t240).bind fun t256 => (if ((t245 == 0) != t256) = true then (some false) else (laws_FnRowBytes.j1 kj8 l1 t249 t250 t237))) else (some false)) else (some false))) = some true := by first | (with_reducible rfl) | (rw [if_pos rfl] at H; exact H)
       clear H
       have H := H1
       clear H1
       replace H := Option.bind_eq_some_iff.mp H
       obtain ⟨⟨t254, t255⟩, A370, H⟩ := H
       replace H : (if t255 = true then (if t254 = (wrap64 (-t245)) then ((laws_sameRow.f kj8 t237 t240).bind fun t256 => (if ((t245 == 0) != t256) = true then (some false) else (laws_FnRowBytes.j1 kj8 l1 t249 t250 t237))) else (some false)) else (some false)) = some true := H
       have A37 := xm A370
       clear A370
       by_cases c38 : t255 = true
       ·subst c38
        have H1 : (if t254 = (wrap64 (-t245)) then ((laws_sameRow.f kj8 t237 t240).bind fun t256 => (if ((t245 == 0) != t256) = true then (some false) else (laws_FnRowBytes.j1 kj8 l1 t249 t250 t237))) else (some false)) = some true := by first | (with_reducible rfl) | (rw [if_pos rfl] at H; exact H)
        clear H
        have H := H1
        clear H1
        by_cases c39 : t254 = (wrap64 (-t245))
        ·rw [if_pos c39] at H
         have c39b0 : (t254 == (wrap64 (-t245))) = true := beq_iff_eq.mpr c39
         have c39b1 : (t254 != (wrap64 (-t245))) = false := bne_eq_false_iff_eq.mpr c39
         clear c39
         (first | rw [c39b0] | (simp only [i64_w, i32_w]; rw [c39b0]) | skip)
         replace H := Option.bind_eq_some_iff.mp H
         obtain ⟨t256, A400, H⟩ := H
         replace H : (if ((t245 == 0) != t256) = true then (some false) else (laws_FnRowBytes.j1 kj8 l1 t249 t250 t237)) = some true := H
         have A40 := xm A400
         clear A400
         by_cases c41 : ((t245 == 0) != t256) = true
         ·rw [if_pos c41] at H
          have c41b0 : ((t245 == 0) != t256) = true := c41
          (try (have c41b1 : decide ((t245 == 0) = t256) = false := by simpa using c41))
          (try (have c41b2 : ((t245 == 0) == t256) = false := by simpa using c41))
          (try (have c41b3 : ¬ ((t245 == 0) = t256) := by simpa using c41))
          clear c41
          exact absurd H (by simp)
         ·rw [if_neg c41] at H
          have c41b0 : ((t245 == 0) != t256) = false := by simpa using c41
          (try (have c41b1 : decide ((t245 == 0) = t256) = true := by simpa using c41))
          (try (have c41b2 : ((t245 == 0) == t256) = true := by simpa using c41))
          clear c41
          have H' := xm H
          clear H
          have hnb42 := NB244_243.out
          have hnc42 := NB243_244.out
          obtain ⟨hcz43_0, hfz43_0⟩ := cz1 BK244.out
          obtain ⟨hcz44_0, hfz44_0⟩ := cz1 BK243.out
          go_wp2_with (first | ((with_reducible refine gate_callee (f := 5) rfl ?_); refine goesL_ (some 87) rfl rfl Try.func5 (by kernel_rfl) rfl #[.agg #[.slice Ao16 t240.length co16], .agg #[.slice Ao13 t237.length co13]] rfl mB ?_; (with_reducible refine (impl_CompareRows.calls kj8 _ _ t240 _ _ t237 t254 true _ ?side1 ?side2 ?side3 ?side4 A37.out).mono ?_); (case side1 => repeat (first | exact (Kd.R_reads' HO_245000.out).2.2 | (with_reducible refine Kd.C_alloc ?_ _) | (with_reducible refine Kd.C_drewN ?_ _) | (with_reducible refine Kd.C_drew ?_))); (case side2 => exact (Kd.R_reads' HO_245000.out).2.1); (case side3 => repeat (first | exact (Kd.R_reads' HO_244000.out).2.2 | (with_reducible refine Kd.C_alloc ?_ _) | (with_reducible refine Kd.C_drewN ?_ _) | (with_reducible refine Kd.C_drew ?_))); (case side4 => exact (Kd.R_reads' HO_244000.out).2.1); rintro e w45 ⟨rfl, hb⟩; refine ⟨_, rfl, ?_⟩; have n0_ := xm (Kd.R_below (rB HO_244000) hb); have n1_ := xm (Kd.R_below (rB HO_245000) hb); have n2_ := xm (blk_below (kB BK243) hb); have n3_ := xm (blk_below (kB BK244) hb); have n4_ := xm (below_step bG hb); revert n0_ n1_ n2_ n3_ n4_; clear HO_244000 HO_245000 BK243 BK244 HB; intro HO_244000 HO_245000 BK243 BK244 HB; (try clear hb); obtain ⟨hcz46_0, hfz46_0⟩ := cz1 BK243.out; obtain ⟨hcz47_0, hfz47_0⟩ := cz1 BK244.out) | (go_at_call 10; (with_reducible refine (laws_sameRow.calls kj8 _ _ t237 _ _ t240 t256 _ ?side1 ?side2 ?side3 ?side4 A40.out).mono ?_); (case side1 => repeat (first | exact (Kd.R_reads' HO_244000.out).2.2 | (with_reducible refine Kd.C_alloc ?_ _) | (with_reducible refine Kd.C_drewN ?_ _) | (with_reducible refine Kd.C_drew ?_))); (case side2 => exact (Kd.R_reads' HO_244000.out).2.1); (case side3 => repeat (first | exact (Kd.R_reads' HO_245000.out).2.2 | (with_reducible refine Kd.C_alloc ?_ _) | (with_reducible refine Kd.C_drewN ?_ _) | (with_reducible refine Kd.C_drew ?_))); (case side4 => exact (Kd.R_reads' HO_245000.out).2.1); rintro e w48 ⟨rfl, hb⟩; have n0_ := xm (Kd.R_below (rB HO_244000) hb); have n1_ := xm (Kd.R_below (rB HO_245000) hb); have n2_ := xm (blk_below (kB BK243) hb); have n3_ := xm (blk_below (kB BK244) hb); have n4_ := xm (below_step bG hb); revert n0_ n1_ n2_ n3_ n4_; clear HO_244000 HO_245000 BK243 BK244 HB; intro HO_244000 HO_245000 BK243 BK244 HB; (try clear hb)))
          go_meet
          case rel => exact ⟨_, H', ⟨by have := HJ8.out; first | omega | exact Nat.le_refl _⟩, ⟨rB HO_244000⟩, ⟨rB HO_245000⟩, ⟨kB BK243⟩, ⟨kB BK244⟩, ⟨bG⟩⟩
        ·rw [if_neg c39] at H
         have c39b0 : (t254 == (wrap64 (-t245))) = false := beq_eq_false_iff_ne.mpr c39
         have c39b1 : (t254 != (wrap64 (-t245))) = true := bne_iff_ne.mpr c39
         (first | rw [c39b0] | (simp only [i64_w, i32_w]; rw [c39b0]) | skip)
         exact absurd H (by simp)
       ·replace c38 := Bool.eq_false_iff.mpr c38
        subst c38
        have H1 : (some false) = some true := by first | (with_reducible rfl) | (rw [if_neg (show ¬ (false = true) by decide)] at H; exact H)
        clear H
        have H := H1
        clear H1
        exact absurd H (by simp)
      ·replace c36 := Bool.eq_false_iff.mpr c36
       subst c36
       have H1 : (laws_FnRowBytes.j1 kj8 l1 t249 t250 t237) = some true := by first | (with_reducible rfl) | (rw [if_neg (show ¬ (false = true) by decide)] at H; exact H)
       clear H
       have H := H1
       clear H1
       have H' := xm H
       clear H
       go_wp2
       go_meet
       case rel => exact ⟨_, H', ⟨by have := HJ8.out; first | omega | exact Nat.le_refl _⟩, ⟨rB HO_244000⟩, ⟨rB HO_245000⟩, ⟨kB BK243⟩, ⟨kB BK244⟩, ⟨bG⟩⟩
     case rest =>
      clear HC35
      try clear c1
      try clear c2
      try clear p2
      try clear c3
      try clear c3b0
      try clear c4
      try clear c5
      try clear c6
      try clear p6
      try clear c7
      try clear c8
      try clear c14
      try clear c26
      try clear c26b0 c26b1 c26b2
      try clear c27
      try clear c27b0 c27b1
      try clear c28
      try clear c28b0 c28b1 c28b2
      try clear c29
      try clear c29b0 c29b1
      try clear c31
      try clear c34
      try clear c36
      try clear c38
      try clear c39
      try clear c39b0 c39b1
      try clear c41
      try clear c41b0 c41b1 c41b2
      try clear c42
      try clear hcz15_0
      try clear hcz17_0
      try clear hcz19_0
      try clear hcz20_0
      try clear hcz22_0
      try clear hcz24_0
      try clear hcz32_0
      try clear hcz43_0
      try clear hcz44_0
      try clear hcz46_0
      try clear hcz47_0
      try clear hfz15_0
      try clear hfz17_0
      try clear hfz19_0
      try clear hfz20_0
      try clear hfz22_0
      try clear hfz24_0
      try clear hfz32_0
      try clear hfz43_0
      try clear hfz44_0
      try clear hfz46_0
      try clear hfz47_0
      try clear p2
      try clear p6
      obtain ⟨kq, HA, HJ34, HO_244000, HO_245000, BK243, BK244, HB⟩ := hcut
      cases kq with
      | zero => exact absurd HA.out (by simp [laws_FnRowBytes.j1])
      | succ kj34 =>
       have H := HA.out
       clear HA
       simp only [laws_FnRowBytes.j1] at H
       have HC49 := xm H
       clear H
       go_upto_if 106 with (fail)
       go_cut [] (fun wc => ∃ (kq : Nat), Aside0 (laws_FnRowBytes.j2 kq l1 = some true) ∧ Aside0 (kq ≤ kj34) ∧ Aside0 (Kd.R (Kd.int .i64) 3 wc w.heap.size (fun k_ => True) (.slice Ao13 t237.length co13) t237) ∧ Aside0 (Kd.R (Kd.int .i64) 3 wc w.heap.size (fun k_ => True) (.slice Ao16 t240.length co16) t240) ∧ Aside0 (wc.heap[gb243]? = some (.cells #[(.slice Ao13 t237.length co13)] 25 (0, 0))) ∧ Aside0 (wc.heap[gb244]? = some (.cells #[(.slice Ao16 t240.length co16)] 25 (0, 0))) ∧ Aside0 (Below w.heap.size w wc))
       case first =>
        have H := HC49.out
        clear HC49
        by_cases c50 : t250 = true
        ·subst c50
         have H1 : ((impl_ReadRow.f kj34 t249).bind fun bt257 => (if bt257.2 = true then ((laws_sameRow.f kj34 bt257.1 t237).bind fun t262 => (if t262 = true then (laws_FnRowBytes.j2 kj34 l1) else (some false))) else (some false))) = some true := by first | (with_reducible rfl) | (rw [if_pos rfl] at H; exact H)
         clear H
         have H := H1
         clear H1
         replace H := Option.bind_eq_some_iff.mp H
         obtain ⟨⟨t257, t260⟩, A510, H⟩ := H
         replace H : (if t260 = true then ((laws_sameRow.f kj34 t257 t237).bind fun t262 => (if t262 = true then (laws_FnRowBytes.j2 kj34 l1) else (some false))) else (some false)) = some true := H
         have A51 := xm A510
         clear A510
         by_cases c52 : t260 = true
         ·subst c52
          have H1 : ((laws_sameRow.f kj34 t257 t237).bind fun t262 => (if t262 = true then (laws_FnRowBytes.j2 kj34 l1) else (some false))) = some true := by first | (with_reducible rfl) | (rw [if_pos rfl] at H; exact H)
          clear H
          have H := H1
          clear H1
          replace H := Option.bind_eq_some_iff.mp H
          obtain ⟨t262, A530, H⟩ := H
          replace H : (if t262 = true then (laws_FnRowBytes.j2 kj34 l1) else (some false)) = some true := H
          have A53 := xm A530
          clear A530
          by_cases c54 : t262 = true
          ·subst c54
           have H1 : (laws_FnRowBytes.j2 kj34 l1) = some true := by first | (with_reducible rfl) | (rw [if_pos rfl] at H; exact H)
           clear H
           have H := H1
           clear H1
           have H' := xm H
           clear H
           go_wp2_with (first | ((with_reducible refine gate_callee (f := 11) rfl ?_); refine goesL_ (some 109) rfl rfl Try.func11 (by kernel_rfl) rfl #[.string t249] rfl mB ?_; (with_reducible refine (impl_ReadRow.calls kj34 t249 t257 true _ A51.out).mono ?_); rintro e w55 ⟨v258, rfl, ho0, hb⟩; refine ⟨_, rfl, ?_⟩; have n0_ := xm (Kd.R_elder' (rB HO_244000) (Kd.R_base ho0) hb); have n1_ := xm (Kd.R_elder' (rB HO_245000) (Kd.R_base ho0) hb); have n2_ := xm (Kd.R_lower (Kd.R_new' (Kd.R_new' ho0 (Kd.R_lt (rB HO_244000))) (Kd.R_lt (rB HO_245000))) (xz bG)); have n3_ := xm (blk_below (kB BK243) hb); have n4_ := xm (blk_below (kB BK244) hb); have n5_ := xm (below_step bG hb); revert n0_ n1_ n2_ n3_ n4_ n5_; clear HO_244000 HO_245000 BK243 BK244 HB; intro HO_244000 HO_245000 HO259 BK243 BK244 HB; (try clear hb); (try clear hk); (try clear ho0)) | ((with_reducible refine gate_dst (N := 17) rfl ?_); refine box_event ?hg (N := 17) ?hd (cs := #[.slice none 0 0]) (t := 25) ?hr ?_; (case hd => rfl); (case hg => rfl); (case hr => exact zB); intro gb261 hg w56 hbox hb; have n0_ := xm (Kd.R_below (rB HO_244000) hb); have n1_ := xm (Kd.R_below (rB HO_245000) hb); have n2_ := xm (Kd.R_below (rB HO259) hb); have n3_ := xm (blk_below (kB BK243) hb); have n4_ := xm (blk_below (kB BK244) hb); have n5_ := xm (below_step bG hb); have n6_ := xm (hbox); have n7_ := xm ((by rw [hg]; exact (xz bG) : w.heap.size ≤ gb261)); have n8_ := xm ((by rw [hg]; exact (xz bG) : w.heap.size ≤ gb261)); have n9_ := xm ((by rw [hg]; exact Nat.ne_of_lt (blk_lt (kB BK243)) : gb243 ≠ gb261)); have n10_ := xm ((by rw [hg]; exact Nat.ne_of_gt (blk_lt (kB BK243)) : gb261 ≠ gb243)); have n11_ := xm ((by rw [hg]; exact Nat.ne_of_lt (blk_lt (kB BK244)) : gb244 ≠ gb261)); have n12_ := xm ((by rw [hg]; exact Nat.ne_of_gt (blk_lt (kB BK244)) : gb261 ≠ gb244)); revert n0_ n1_ n2_ n3_ n4_ n5_ n6_ n7_ n8_ n9_ n10_ n11_ n12_; clear HO_244000 HO_245000 HO259 BK243 BK244 HB; intro HO_244000 HO_245000 HO259 BK243 BK244 HB BK261 GW261 GE261 NB243_261 NB261_243 NB244_261 NB261_244; clear hb hbox hg; obtain ⟨Ao57, co57, eo57⟩ := Kd.R_slice HO259.out; subst eo57; have hnb58 := NB261_243.out; have hnc58 := NB243_261.out; have hnb59 := NB261_244.out; have hnc59 := NB244_261.out; obtain ⟨hcz60_0, hfz60_0⟩ := cz1 BK261.out; have hnb61 := NB243_244.out; have hnc61 := NB244_243.out; obtain ⟨hcz62_0, hfz62_0⟩ := cz1 BK243.out) | (go_at_call 10; (with_reducible refine (laws_sameRow.calls kj34 _ _ t257 _ _ t237 true _ ?side1 ?side2 ?side3 ?side4 A53.out).mono ?_); (case side1 => refine (Kd.R_reads' (e := 3) (base := w.heap.size) (ok := fun k_ => ((True ∧ some k_ ≠ (.slice Ao13 t237.length co13 : Value).ownBlock) ∧ some k_ ≠ (.slice Ao16 t240.length co16 : Value).ownBlock)) (n := t257.length) (c := co57) ?_).2.2; exact (by (with_reducible repeat (first | apply Kd.R_alloc | apply Kd.R_drewN | apply Kd.R_drew)); exact (Kd.R_mono (Kd.R_far (p := ⟨gb261, 0, none⟩) (Kd.R_types HO259.out BK261.out (by decide)) (fun _ hk => hk.2) (.slice Ao57 t257.length co57)) (fun _ h_ => h_.1)))); (case side2 => exact (Kd.R_reads' HO259.out).2.1); (case side3 => refine (Kd.R_reads' (e := 3) (base := w.heap.size) (ok := fun k_ => (True ∧ some k_ ≠ (.slice Ao57 t257.length co57 : Value).ownBlock)) (n := t237.length) (c := co13) ?_).2.2; exact (by (with_reducible repeat (first | apply Kd.R_alloc | apply Kd.R_drewN | apply Kd.R_drew)); exact (Kd.R_mono (Kd.R_far (p := ⟨gb261, 0, none⟩) (Kd.R_types HO_244000.out BK261.out (by decide)) (fun _ hk => hk.2) (.slice Ao57 t257.length co57)) (fun _ h_ => h_.1)))); (case side4 => exact (Kd.R_reads' HO_244000.out).2.1); rintro e w63 ⟨rfl, hb⟩; have n0_ := xm (Kd.R_below (by (with_reducible repeat (first | apply Kd.R_alloc | apply Kd.R_drewN | apply Kd.R_drew)); exact (Kd.R_mono (Kd.R_far (p := ⟨gb261, 0, none⟩) (Kd.R_types HO_244000.out BK261.out (by decide)) (fun _ hk => hk.2) (.slice Ao57 t257.length co57)) (fun _ h_ => h_.1))) hb); have n1_ := xm (Kd.R_below (by (with_reducible repeat (first | apply Kd.R_alloc | apply Kd.R_drewN | apply Kd.R_drew)); exact (Kd.R_mono (Kd.R_far (p := ⟨gb261, 0, none⟩) (Kd.R_types HO_245000.out BK261.out (by decide)) (fun _ hk => hk.2) (.slice Ao57 t257.length co57)) (fun _ h_ => h_.1))) hb); have n2_ := xm (Kd.R_below (by (with_reducible repeat (first | apply Kd.R_alloc | apply Kd.R_drewN | apply Kd.R_drew)); exact (Kd.R_mono (Kd.R_far (p := ⟨gb261, 0, none⟩) (Kd.R_types HO259.out BK261.out (by decide)) (fun _ hk => hk.2) (.slice Ao57 t257.length co57)) (fun _ h_ => h_.1))) hb); have n3_ := xm (blk_below (g := gb243) (o := .cells #[.slice Ao13 t237.length co13] 25 (0, 0)) (by (with_reducible repeat (first | refine xq ?_ _ | refine xr ?_ | refine xo ?_ _)); refine blk_far ?_ NB243_261.out _; (with_reducible repeat (first | refine xq ?_ _ | refine xr ?_ | refine xo ?_ _)); exact BK243.out) hb); have n4_ := xm (blk_below (g := gb244) (o := .cells #[.slice Ao16 t240.length co16] 25 (0, 0)) (by (with_reducible repeat (first | refine xq ?_ _ | refine xr ?_ | refine xo ?_ _)); refine blk_far ?_ NB244_261.out _; (with_reducible repeat (first | refine xq ?_ _ | refine xr ?_ | refine xo ?_ _)); exact BK244.out) hb); have n5_ := xm (blk_below (g := gb261) (o := .cells #[.slice Ao57 t257.length co57] 25 (0, 0)) (by (with_reducible repeat (first | refine xq ?_ _ | refine xr ?_ | refine xo ?_ _)); refine blk_put (cs := #[.slice none 0 0]) ?_ 0 _ rfl; (with_reducible repeat (first | refine xq ?_ _ | refine xr ?_ | refine xo ?_ _)); exact BK261.out) hb); have n6_ := xm (below_step bG hb); revert n0_ n1_ n2_ n3_ n4_ n5_ n6_; clear HO_244000 HO_245000 HO259 BK243 BK244 BK261 HB; intro HO_244000 HO_245000 HO259 BK243 BK244 BK261 HB; (try clear hb); (try clear hk)))
           go_meet
           case rel => exact ⟨_, H', ⟨by have := HJ8.out; have := HJ34.out; first | omega | exact Nat.le_refl _⟩, ⟨by (with_reducible repeat (first | apply Kd.R_alloc | apply Kd.R_drewN | apply Kd.R_drew)); exact Kd.R_mono HO_244000.out (fun _ hk => hk.1)⟩, ⟨by (with_reducible repeat (first | apply Kd.R_alloc | apply Kd.R_drewN | apply Kd.R_drew)); exact Kd.R_mono HO_245000.out (fun _ hk => hk.1)⟩, ⟨kB BK243⟩, ⟨kB BK244⟩, ⟨bG⟩⟩
          ·replace c54 := Bool.eq_false_iff.mpr c54
           subst c54
           have H1 : (some false) = some true := by first | (with_reducible rfl) | (rw [if_neg (show ¬ (false = true) by decide)] at H; exact H)
           clear H
           have H := H1
           clear H1
           exact absurd H (by simp)
         ·replace c52 := Bool.eq_false_iff.mpr c52
          subst c52
          have H1 : (some false) = some true := by first | (with_reducible rfl) | (rw [if_neg (show ¬ (false = true) by decide)] at H; exact H)
          clear H
          have H := H1
          clear H1
          exact absurd H (by simp)
        ·replace c50 := Bool.eq_false_iff.mpr c50
         subst c50
         have H1 : (laws_FnRowBytes.j2 kj34 l1) = some true := by first | (with_reducible rfl) | (rw [if_neg (show ¬ (false = true) by decide)] at H; exact H)
         clear H
         have H := H1
         clear H1
         have H' := xm H
         clear H
         go_wp2
         go_meet
         case rel => exact ⟨_, H', ⟨by have := HJ8.out; have := HJ34.out; first | omega | exact Nat.le_refl _⟩, ⟨rB HO_244000⟩, ⟨rB HO_245000⟩, ⟨kB BK243⟩, ⟨kB BK244⟩, ⟨bG⟩⟩
       case rest =>
        clear HC49
        try clear c1
        try clear c2
        try clear p2
        try clear c3
        try clear c3b0
        try clear c4
        try clear c5
        try clear c6
        try clear p6
        try clear c7
        try clear c8
        try clear c11
        try clear c14
        try clear c26
        try clear c26b0 c26b1 c26b2
        try clear c27
        try clear c27b0 c27b1
        try clear c28
        try clear c28b0 c28b1 c28b2
        try clear c29
        try clear c29b0 c29b1
        try clear c31
        try clear c34
        try clear c36
        try clear c38
        try clear c39
        try clear c39b0 c39b1
        try clear c41
        try clear c41b0 c41b1 c41b2
        try clear c42
        try clear c50
        try clear c52
        try clear c54
        try clear c58
        try clear c59
        try clear c61
        try clear hcz15_0
        try clear hcz17_0
        try clear hcz19_0
        try clear hcz20_0
        try clear hcz22_0
        try clear hcz24_0
        try clear hcz32_0
        try clear hcz43_0
        try clear hcz44_0
        try clear hcz46_0
        try clear hcz47_0
        try clear hcz60_0
        try clear hcz62_0
        try clear hfz15_0
        try clear hfz17_0
        try clear hfz19_0
        try clear hfz20_0
        try clear hfz22_0
        try clear hfz24_0
        try clear hfz32_0
        try clear hfz43_0
        try clear hfz44_0
        try clear hfz46_0
        try clear hfz47_0
        try clear hfz60_0
        try clear hfz62_0
        try clear p2
        try clear p6
        obtain ⟨kq, HA, HJ48, HO_244000, HO_245000, BK243, BK244, HB⟩ := hcut
        cases kq with
        | zero => exact absurd HA.out (by simp [laws_FnRowBytes.j2])
        | succ kj48 =>
         have H := HA.out
         clear HA
         simp only [laws_FnRowBytes.j2] at H
         replace H := Option.bind_eq_some_iff.mp H
         obtain ⟨t263, A640, H⟩ := H
         replace H : ((impl_ReadRow.f kj48 t263).bind fun bt264 => ((spec_ReadRow.f kj48 t263).bind fun bt269 => (if (bt264.2 != bt269.2) = true then (some false) else ((laws_sameRow.f kj48 bt264.1 bt269.1).bind fun t274 => (if t274 = true then ((impl_RowBytes.f kj48 bt264.1).bind fun bt275 => (if bt264.2 = true then (if bt275.2 = true then (some (bt275.1.toList == t263.toList)) else (some false)) else (some true))) else (some false)))))) = some true := H
         have A64 := xm A640
         clear A640
         replace H := Option.bind_eq_some_iff.mp H
         obtain ⟨⟨t264, t267⟩, A650, H⟩ := H
         replace H : ((spec_ReadRow.f kj48 t263).bind fun bt269 => (if (t267 != bt269.2) = true then (some false) else ((laws_sameRow.f kj48 t264 bt269.1).bind fun t274 => (if t274 = true then ((impl_RowBytes.f kj48 t264).bind fun bt275 => (if t267 = true then (if bt275.2 = true then (some (bt275.1.toList == t263.toList)) else (some false)) else (some true))) else (some false))))) = some true := H
         have A65 := xm A650
         clear A650
         replace H := Option.bind_eq_some_iff.mp H
         obtain ⟨⟨t269, t272⟩, A660, H⟩ := H
         replace H : (if (t267 != t272) = true then (some false) else ((laws_sameRow.f kj48 t264 t269).bind fun t274 => (if t274 = true then ((impl_RowBytes.f kj48 t264).bind fun bt275 => (if t267 = true then (if bt275.2 = true then (some (bt275.1.toList == t263.toList)) else (some false)) else (some true))) else (some false)))) = some true := H
         have A66 := xm A660
         clear A660
         by_cases c67 : (t267 != t272) = true
         ·rw [if_pos c67] at H
          have c67b0 : (t267 != t272) = true := c67
          (try (have c67b1 : decide (t267 = t272) = false := by simpa using c67))
          (try (have c67b2 : (t267 == t272) = false := by simpa using c67))
          (try (have c67b3 : ¬ (t267 = t272) := by simpa using c67))
          clear c67
          exact absurd H (by simp)
         ·rw [if_neg c67] at H
          have c67b0 : (t267 != t272) = false := by simpa using c67
          (try (have c67b1 : decide (t267 = t272) = true := by simpa using c67))
          (try (have c67b2 : (t267 == t272) = true := by simpa using c67))
          clear c67
          replace H := Option.bind_eq_some_iff.mp H
          obtain ⟨t274, A680, H⟩ := H
          replace H : (if t274 = true then ((impl_RowBytes.f kj48 t264).bind fun bt275 => (if t267 = true then (if bt275.2 = true then (some (bt275.1.toList == t263.toList)) else (some false)) else (some true))) else (some false)) = some true := H
          have A68 := xm A680
          clear A680
          by_cases c69 : t274 = true
          ·subst c69
           have H1 : ((impl_RowBytes.f kj48 t264).bind fun bt275 => (if t267 = true then (if bt275.2 = true then (some (bt275.1.toList == t263.toList)) else (some false)) else (some true))) = some true := by first | (with_reducible rfl) | (rw [if_pos rfl] at H; exact H)
           clear H
           have H := H1
           clear H1
           replace H := Option.bind_eq_some_iff.mp H
           obtain ⟨⟨t275, t276⟩, A700, H⟩ := H
           replace H : (if t267 = true then (if t276 = true then (some (t275.toList == t263.toList)) else (some false)) else (some true)) = some true := H
           have A70 := xm A700
           clear A700
           by_cases c71 : t267 = true
           ·subst c71
            have H1 : (if t276 = true then (some (t275.toList == t263.toList)) else (some false)) = some true := by first | (with_reducible rfl) | (rw [if_pos rfl] at H; exact H)
            clear H
            have H := H1
            clear H1
            by_cases c72 : t276 = true
            ·subst c72
             have H1 : (some (t275.toList == t263.toList)) = some true := by first | (with_reducible rfl) | (rw [if_pos rfl] at H; exact H)
             clear H
             have H := H1
             clear H1
             have hlaw_ : (t275.toList == t263.toList) = true := Option.some.inj H
             clear H
             go_wp2_with (first | ((with_reducible refine gate_callee (f := 12) rfl ?_); refine goesL_ (some 121) rfl rfl Try.func12 (by kernel_rfl) rfl #[.slice A1 l1.length c1] rfl mB ?_; (with_reducible refine (spec_DrawReadRow.calls kj48 _ _ l1 t263 _ ?side1 ?side2 A64.out).mono ?_); (case side1 => exact cB (Kd.C_below HR1.out HB.out)); (case side2 => exact HC1.out); rintro e w73 ⟨rfl, hb⟩; refine ⟨_, rfl, ?_⟩; have n0_ := xm (Kd.R_below (rB HO_244000) hb); have n1_ := xm (Kd.R_below (rB HO_245000) hb); have n2_ := xm (blk_below (kB BK243) hb); have n3_ := xm (blk_below (kB BK244) hb); have n4_ := xm (below_step bG hb); revert n0_ n1_ n2_ n3_ n4_; clear HO_244000 HO_245000 BK243 BK244 HB; intro HO_244000 HO_245000 BK243 BK244 HB; (try clear hb)) | ((with_reducible refine gate_callee (f := 11) rfl ?_); refine goesL_ (some 124) rfl rfl Try.func11 (by kernel_rfl) rfl #[.string t263] rfl mB ?_; (with_reducible refine (impl_ReadRow.calls kj48 t263 t264 true _ A65.out).mono ?_); rintro e w74 ⟨v265, rfl, ho0, hb⟩; refine ⟨_, rfl, ?_⟩; have n0_ := xm (Kd.R_elder' (rB HO_244000) (Kd.R_base ho0) hb); have n1_ := xm (Kd.R_elder' (rB HO_245000) (Kd.R_base ho0) hb); have n2_ := xm (Kd.R_lower (Kd.R_new' (Kd.R_new' ho0 (Kd.R_lt (rB HO_244000))) (Kd.R_lt (rB HO_245000))) (xz bG)); have n3_ := xm (blk_below (kB BK243) hb); have n4_ := xm (blk_below (kB BK244) hb); have n5_ := xm (below_step bG hb); revert n0_ n1_ n2_ n3_ n4_ n5_; clear HO_244000 HO_245000 BK243 BK244 HB; intro HO_244000 HO_245000 HO266 BK243 BK244 HB; (try clear hb); (try clear ho0)) | ((with_reducible refine gate_dst (N := 20) rfl ?_); refine box_event ?hg (N := 20) ?hd (cs := #[.slice none 0 0]) (t := 25) ?hr ?_; (case hd => rfl); (case hg => rfl); (case hr => exact zB); intro gb268 hg w75 hbox hb; have n0_ := xm (Kd.R_below (rB HO_244000) hb); have n1_ := xm (Kd.R_below (rB HO_245000) hb); have n2_ := xm (Kd.R_below (rB HO266) hb); have n3_ := xm (blk_below (kB BK243) hb); have n4_ := xm (blk_below (kB BK244) hb); have n5_ := xm (below_step bG hb); have n6_ := xm (hbox); have n7_ := xm ((by rw [hg]; exact (xz bG) : w.heap.size ≤ gb268)); have n8_ := xm ((by rw [hg]; exact (xz bG) : w.heap.size ≤ gb268)); have n9_ := xm ((by rw [hg]; exact Nat.ne_of_lt (blk_lt (kB BK243)) : gb243 ≠ gb268)); have n10_ := xm ((by rw [hg]; exact Nat.ne_of_gt (blk_lt (kB BK243)) : gb268 ≠ gb243)); have n11_ := xm ((by rw [hg]; exact Nat.ne_of_lt (blk_lt (kB BK244)) : gb244 ≠ gb268)); have n12_ := xm ((by rw [hg]; exact Nat.ne_of_gt (blk_lt (kB BK244)) : gb268 ≠ gb244)); revert n0_ n1_ n2_ n3_ n4_ n5_ n6_ n7_ n8_ n9_ n10_ n11_ n12_; clear HO_244000 HO_245000 HO266 BK243 BK244 HB; intro HO_244000 HO_245000 HO266 BK243 BK244 HB BK268 GW268 GE268 NB243_268 NB268_243 NB244_268 NB268_244; clear hb hbox hg; obtain ⟨Ao76, co76, eo76⟩ := Kd.R_slice HO266.out; subst eo76; have hnb77 := NB268_243.out; have hnc77 := NB243_268.out; have hnb78 := NB268_244.out; have hnc78 := NB244_268.out; obtain ⟨hcz79_0, hfz79_0⟩ := cz1 BK268.out) | ((with_reducible refine gate_callee (f := 13) rfl ?_); refine goesL_ (some 129) rfl rfl Try.func13 (by kernel_rfl) rfl #[.string t263] rfl mB ?_; (with_reducible refine (spec_ReadRow.calls kj48 t263 t269 t272 _ A66.out).mono ?_); rintro e w80 ⟨v270, rfl, ho0, hb⟩; refine ⟨_, rfl, ?_⟩; have n0_ := xm (Kd.R_elder' (by (with_reducible repeat (first | apply Kd.R_alloc | apply Kd.R_drewN | apply Kd.R_drew)); exact (Kd.R_mono (Kd.R_far (p := ⟨gb268, 0, none⟩) (Kd.R_types HO_244000.out BK268.out (by decide)) (fun _ hk => hk.2) (.slice Ao76 t264.length co76)) (fun _ h_ => h_.1))) (Kd.R_base ho0) hb); have n1_ := xm (Kd.R_elder' (by (with_reducible repeat (first | apply Kd.R_alloc | apply Kd.R_drewN | apply Kd.R_drew)); exact (Kd.R_mono (Kd.R_far (p := ⟨gb268, 0, none⟩) (Kd.R_types HO_245000.out BK268.out (by decide)) (fun _ hk => hk.2) (.slice Ao76 t264.length co76)) (fun _ h_ => h_.1))) (Kd.R_base ho0) hb); have n2_ := xm (Kd.R_elder' (by (with_reducible repeat (first | apply Kd.R_alloc | apply Kd.R_drewN | apply Kd.R_drew)); exact (Kd.R_mono (Kd.R_far (p := ⟨gb268, 0, none⟩) (Kd.R_types HO266.out BK268.out (by decide)) (fun _ hk => hk.2) (.slice Ao76 t264.length co76)) (fun _ h_ => h_.1))) (Kd.R_base ho0) hb); have n3_ := xm (Kd.R_lower (Kd.R_new' (Kd.R_new' (Kd.R_new' ho0 (Kd.R_lt (by (with_reducible repeat (first | apply Kd.R_alloc | apply Kd.R_drewN | apply Kd.R_drew)); exact (Kd.R_mono (Kd.R_far (p := ⟨gb268, 0, none⟩) (Kd.R_types HO_244000.out BK268.out (by decide)) (fun _ hk => hk.2) (.slice Ao76 t264.length co76)) (fun _ h_ => h_.1))))) (Kd.R_lt (by (with_reducible repeat (first | apply Kd.R_alloc | apply Kd.R_drewN | apply Kd.R_drew)); exact (Kd.R_mono (Kd.R_far (p := ⟨gb268, 0, none⟩) (Kd.R_types HO_245000.out BK268.out (by decide)) (fun _ hk => hk.2) (.slice Ao76 t264.length co76)) (fun _ h_ => h_.1))))) (Kd.R_lt (by (with_reducible repeat (first | apply Kd.R_alloc | apply Kd.R_drewN | apply Kd.R_drew)); exact (Kd.R_mono (Kd.R_far (p := ⟨gb268, 0, none⟩) (Kd.R_types HO266.out BK268.out (by decide)) (fun _ hk => hk.2) (.slice Ao76 t264.length co76)) (fun _ h_ => h_.1))))) (xz bG)); have n4_ := xm (blk_below (g := gb243) (o := .cells #[.slice Ao13 t237.length co13] 25 (0, 0)) (by (with_reducible repeat (first | refine xq ?_ _ | refine xr ?_ | refine xo ?_ _)); refine blk_far ?_ NB243_268.out _; (with_reducible repeat (first | refine xq ?_ _ | refine xr ?_ | refine xo ?_ _)); exact BK243.out) hb); have n5_ := xm (blk_below (g := gb244) (o := .cells #[.slice Ao16 t240.length co16] 25 (0, 0)) (by (with_reducible repeat (first | refine xq ?_ _ | refine xr ?_ | refine xo ?_ _)); refine blk_far ?_ NB244_268.out _; (with_reducible repeat (first | refine xq ?_ _ | refine xr ?_ | refine xo ?_ _)); exact BK244.out) hb); have n6_ := xm (blk_below (g := gb268) (o := .cells #[.slice Ao76 t264.length co76] 25 (0, 0)) (by (with_reducible repeat (first | refine xq ?_ _ | refine xr ?_ | refine xo ?_ _)); refine blk_put (cs := #[.slice none 0 0]) ?_ 0 _ rfl; (with_reducible repeat (first | refine xq ?_ _ | refine xr ?_ | refine xo ?_ _)); exact BK268.out) hb); have n7_ := xm (below_step bG hb); revert n0_ n1_ n2_ n3_ n4_ n5_ n6_ n7_; clear HO_244000 HO_245000 HO266 BK243 BK244 BK268 HB; intro HO_244000 HO_245000 HO266 HO271 BK243 BK244 BK268 HB; (try clear hb); (try clear hk); (try clear ho0)) | ((with_reducible refine gate_dst (N := 22) rfl ?_); refine box_event ?hg (N := 22) ?hd (cs := #[.slice none 0 0]) (t := 25) ?hr ?_; (case hd => rfl); (case hg => rfl); (case hr => exact zB); intro gb273 hg w81 hbox hb; have n0_ := xm (Kd.R_below (rB HO_244000) hb); have n1_ := xm (Kd.R_below (rB HO_245000) hb); have n2_ := xm (Kd.R_below (rB HO266) hb); have n3_ := xm (Kd.R_below (rB HO271) hb); have n4_ := xm (blk_below (kB BK243) hb); have n5_ := xm (blk_below (kB BK244) hb); have n6_ := xm (blk_below (kB BK268) hb); have n7_ := xm (below_step bG hb); have n8_ := xm (hbox); have n9_ := xm ((by rw [hg]; exact (xz bG) : w.heap.size ≤ gb273)); have n10_ := xm ((by rw [hg]; exact (xz bG) : w.heap.size ≤ gb273)); have n11_ := xm ((by rw [hg]; exact Nat.ne_of_lt (blk_lt (kB BK243)) : gb243 ≠ gb273)); have n12_ := xm ((by rw [hg]; exact Nat.ne_of_gt (blk_lt (kB BK243)) : gb273 ≠ gb243)); have n13_ := xm ((by rw [hg]; exact Nat.ne_of_lt (blk_lt (kB BK244)) : gb244 ≠ gb273)); have n14_ := xm ((by rw [hg]; exact Nat.ne_of_gt (blk_lt (kB BK244)) : gb273 ≠ gb244)); have n15_ := xm ((by rw [hg]; exact Nat.ne_of_lt (blk_lt (kB BK268)) : gb268 ≠ gb273)); have n16_ := xm ((by rw [hg]; exact Nat.ne_of_gt (blk_lt (kB BK268)) : gb273 ≠ gb268)); revert n0_ n1_ n2_ n3_ n4_ n5_ n6_ n7_ n8_ n9_ n10_ n11_ n12_ n13_ n14_ n15_ n16_; clear HO_244000 HO_245000 HO266 HO271 BK243 BK244 BK268 HB; intro HO_244000 HO_245000 HO266 HO271 BK243 BK244 BK268 HB BK273 GW273 GE273 NB243_273 NB273_243 NB244_273 NB273_244 NB268_273 NB273_268; clear hb hbox hg; obtain ⟨Ao82, co82, eo82⟩ := Kd.R_slice HO271.out; subst eo82; have hnb83 := NB273_243.out; have hnc83 := NB243_273.out; have hnb84 := NB273_244.out; have hnc84 := NB244_273.out; have hnb85 := NB273_268.out; have hnc85 := NB268_273.out; obtain ⟨hcz86_0, hfz86_0⟩ := cz1 BK273.out; obtain ⟨hcz87_0, hfz87_0⟩ := cz1 BK268.out) | (go_at_call 10; (with_reducible refine (laws_sameRow.calls kj48 _ _ t264 _ _ t269 true _ ?side1 ?side2 ?side3 ?side4 A68.out).mono ?_); (case side1 => refine (Kd.R_reads' (e := 3) (base := w.heap.size) (ok := fun k_ => (((True ∧ some k_ ≠ (.slice Ao13 t237.length co13 : Value).ownBlock) ∧ some k_ ≠ (.slice Ao16 t240.length co16 : Value).ownBlock) ∧ some k_ ≠ (.slice Ao82 t269.length co82 : Value).ownBlock)) (n := t264.length) (c := co76) ?_).2.2; exact (by (with_reducible repeat (first | apply Kd.R_alloc | apply Kd.R_drewN | apply Kd.R_drew)); exact (Kd.R_mono (Kd.R_far (p := ⟨gb273, 0, none⟩) (Kd.R_types HO266.out BK273.out (by decide)) (fun _ hk => hk.2) (.slice Ao82 t269.length co82)) (fun _ h_ => h_.1)))); (case side2 => exact (Kd.R_reads' HO266.out).2.1); (case side3 => refine (Kd.R_reads' (e := 3) (base := w.heap.size) (ok := fun k_ => (((True ∧ some k_ ≠ (.slice Ao13 t237.length co13 : Value).ownBlock) ∧ some k_ ≠ (.slice Ao16 t240.length co16 : Value).ownBlock) ∧ some k_ ≠ (.slice Ao76 t264.length co76 : Value).ownBlock)) (n := t269.length) (c := co82) ?_).2.2; exact (by (with_reducible repeat (first | apply Kd.R_alloc | apply Kd.R_drewN | apply Kd.R_drew)); exact (Kd.R_mono (Kd.R_far (p := ⟨gb273, 0, none⟩) (Kd.R_types HO271.out BK273.out (by decide)) (fun _ hk => hk.2) (.slice Ao82 t269.length co82)) (fun _ h_ => h_.1)))); (case side4 => exact (Kd.R_reads' HO271.out).2.1); rintro e w88 ⟨rfl, hb⟩; have n0_ := xm (Kd.R_below (by (with_reducible repeat (first | apply Kd.R_alloc | apply Kd.R_drewN | apply Kd.R_drew)); exact (Kd.R_mono (Kd.R_far (p := ⟨gb273, 0, none⟩) (Kd.R_types HO_244000.out BK273.out (by decide)) (fun _ hk => hk.2) (.slice Ao82 t269.length co82)) (fun _ h_ => h_.1))) hb); have n1_ := xm (Kd.R_below (by (with_reducible repeat (first | apply Kd.R_alloc | apply Kd.R_drewN | apply Kd.R_drew)); exact (Kd.R_mono (Kd.R_far (p := ⟨gb273, 0, none⟩) (Kd.R_types HO_245000.out BK273.out (by decide)) (fun _ hk => hk.2) (.slice Ao82 t269.length co82)) (fun _ h_ => h_.1))) hb); have n2_ := xm (Kd.R_below (by (with_reducible repeat (first | apply Kd.R_alloc | apply Kd.R_drewN | apply Kd.R_drew)); exact (Kd.R_mono (Kd.R_far (p := ⟨gb273, 0, none⟩) (Kd.R_types HO266.out BK273.out (by decide)) (fun _ hk => hk.2) (.slice Ao82 t269.length co82)) (fun _ h_ => h_.1))) hb); have n3_ := xm (Kd.R_below (by (with_reducible repeat (first | apply Kd.R_alloc | apply Kd.R_drewN | apply Kd.R_drew)); exact (Kd.R_mono (Kd.R_far (p := ⟨gb273, 0, none⟩) (Kd.R_types HO271.out BK273.out (by decide)) (fun _ hk => hk.2) (.slice Ao82 t269.length co82)) (fun _ h_ => h_.1))) hb); have n4_ := xm (blk_below (g := gb243) (o := .cells #[.slice Ao13 t237.length co13] 25 (0, 0)) (by (with_reducible repeat (first | refine xq ?_ _ | refine xr ?_ | refine xo ?_ _)); refine blk_far ?_ NB243_273.out _; (with_reducible repeat (first | refine xq ?_ _ | refine xr ?_ | refine xo ?_ _)); exact BK243.out) hb); have n5_ := xm (blk_below (g := gb244) (o := .cells #[.slice Ao16 t240.length co16] 25 (0, 0)) (by (with_reducible repeat (first | refine xq ?_ _ | refine xr ?_ | refine xo ?_ _)); refine blk_far ?_ NB244_273.out _; (with_reducible repeat (first | refine xq ?_ _ | refine xr ?_ | refine xo ?_ _)); exact BK244.out) hb); have n6_ := xm (blk_below (g := gb268) (o := .cells #[.slice Ao76 t264.length co76] 25 (0, 0)) (by (with_reducible repeat (first | refine xq ?_ _ | refine xr ?_ | refine xo ?_ _)); refine blk_far ?_ NB268_273.out _; (with_reducible repeat (first | refine xq ?_ _ | refine xr ?_ | refine xo ?_ _)); exact BK268.out) hb); have n7_ := xm (blk_below (g := gb273) (o := .cells #[.slice Ao82 t269.length co82] 25 (0, 0)) (by (with_reducible repeat (first | refine xq ?_ _ | refine xr ?_ | refine xo ?_ _)); refine blk_put (cs := #[.slice none 0 0]) ?_ 0 _ rfl; (with_reducible repeat (first | refine xq ?_ _ | refine xr ?_ | refine xo ?_ _)); exact BK273.out) hb); have n8_ := xm (below_step bG hb); revert n0_ n1_ n2_ n3_ n4_ n5_ n6_ n7_ n8_; clear HO_244000 HO_245000 HO266 HO271 BK243 BK244 BK268 BK273 HB; intro HO_244000 HO_245000 HO266 HO271 BK243 BK244 BK268 BK273 HB; (try clear hb); (try clear hk); obtain ⟨hcz89_0, hfz89_0⟩ := cz1 BK268.out) | ((with_reducible refine gate_callee (f := 7) rfl ?_); refine goesL_ (some 143) rfl rfl Try.func7 (by kernel_rfl) rfl #[.agg #[.slice Ao76 t264.length co76]] rfl mB ?_; (with_reducible refine (impl_RowBytes.calls kj48 _ _ t264 t275 true _ ?side1 ?side2 A70.out).mono ?_); (case side1 => repeat (first | exact (Kd.R_reads' HO266.out).2.2 | (with_reducible refine Kd.C_alloc ?_ _) | (with_reducible refine Kd.C_drewN ?_ _) | (with_reducible refine Kd.C_drew ?_))); (case side2 => exact (Kd.R_reads' HO266.out).2.1); rintro e w90 ⟨rfl, hb⟩; refine ⟨_, rfl, ?_⟩; have n0_ := xm (Kd.R_below (rB HO_244000) hb); have n1_ := xm (Kd.R_below (rB HO_245000) hb); have n2_ := xm (Kd.R_below (rB HO266) hb); have n3_ := xm (Kd.R_below (rB HO271) hb); have n4_ := xm (blk_below (kB BK243) hb); have n5_ := xm (blk_below (kB BK244) hb); have n6_ := xm (blk_below (kB BK268) hb); have n7_ := xm (blk_below (kB BK273) hb); have n8_ := xm (below_step bG hb); revert n0_ n1_ n2_ n3_ n4_ n5_ n6_ n7_ n8_; clear HO_244000 HO_245000 HO266 HO271 BK243 BK244 BK268 BK273 HB; intro HO_244000 HO_245000 HO266 HO271 BK243 BK244 BK268 BK273 HB; (try clear hb)))
             go_ret
             exact ⟨eB, bG⟩
            ·replace c72 := Bool.eq_false_iff.mpr c72
             subst c72
             have H1 : (some false) = some true := by first | (with_reducible rfl) | (rw [if_neg (show ¬ (false = true) by decide)] at H; exact H)
             clear H
             have H := H1
             clear H1
             exact absurd H (by simp)
           ·replace c71 := Bool.eq_false_iff.mpr c71
            subst c71
            have H1 : (some true) = some true := by first | (with_reducible rfl) | (rw [if_neg (show ¬ (false = true) by decide)] at H; exact H)
            clear H
            have H := H1
            clear H1
            clear H
            go_wp2_with (first | ((with_reducible refine gate_callee (f := 12) rfl ?_); refine goesL_ (some 121) rfl rfl Try.func12 (by kernel_rfl) rfl #[.slice A1 l1.length c1] rfl mB ?_; (with_reducible refine (spec_DrawReadRow.calls kj48 _ _ l1 t263 _ ?side1 ?side2 A64.out).mono ?_); (case side1 => exact cB (Kd.C_below HR1.out HB.out)); (case side2 => exact HC1.out); rintro e w91 ⟨rfl, hb⟩; refine ⟨_, rfl, ?_⟩; have n0_ := xm (Kd.R_below (rB HO_244000) hb); have n1_ := xm (Kd.R_below (rB HO_245000) hb); have n2_ := xm (blk_below (kB BK243) hb); have n3_ := xm (blk_below (kB BK244) hb); have n4_ := xm (below_step bG hb); revert n0_ n1_ n2_ n3_ n4_; clear HO_244000 HO_245000 BK243 BK244 HB; intro HO_244000 HO_245000 BK243 BK244 HB; (try clear hb)) | ((with_reducible refine gate_callee (f := 11) rfl ?_); refine goesL_ (some 124) rfl rfl Try.func11 (by kernel_rfl) rfl #[.string t263] rfl mB ?_; (with_reducible refine (impl_ReadRow.calls kj48 t263 t264 false _ A65.out).mono ?_); rintro e w92 ⟨v265, rfl, ho0, hb⟩; refine ⟨_, rfl, ?_⟩; have n0_ := xm (Kd.R_elder' (rB HO_244000) (Kd.R_base ho0) hb); have n1_ := xm (Kd.R_elder' (rB HO_245000) (Kd.R_base ho0) hb); have n2_ := xm (Kd.R_lower (Kd.R_new' (Kd.R_new' ho0 (Kd.R_lt (rB HO_244000))) (Kd.R_lt (rB HO_245000))) (xz bG)); have n3_ := xm (blk_below (kB BK243) hb); have n4_ := xm (blk_below (kB BK244) hb); have n5_ := xm (below_step bG hb); revert n0_ n1_ n2_ n3_ n4_ n5_; clear HO_244000 HO_245000 BK243 BK244 HB; intro HO_244000 HO_245000 HO266 BK243 BK244 HB; (try clear hb); (try clear ho0)) | ((with_reducible refine gate_dst (N := 20) rfl ?_); refine box_event ?hg (N := 20) ?hd (cs := #[.slice none 0 0]) (t := 25) ?hr ?_; (case hd => rfl); (case hg => rfl); (case hr => exact zB); intro gb268 hg w93 hbox hb; have n0_ := xm (Kd.R_below (rB HO_244000) hb); have n1_ := xm (Kd.R_below (rB HO_245000) hb); have n2_ := xm (Kd.R_below (rB HO266) hb); have n3_ := xm (blk_below (kB BK243) hb); have n4_ := xm (blk_below (kB BK244) hb); have n5_ := xm (below_step bG hb); have n6_ := xm (hbox); have n7_ := xm ((by rw [hg]; exact (xz bG) : w.heap.size ≤ gb268)); have n8_ := xm ((by rw [hg]; exact (xz bG) : w.heap.size ≤ gb268)); have n9_ := xm ((by rw [hg]; exact Nat.ne_of_lt (blk_lt (kB BK243)) : gb243 ≠ gb268)); have n10_ := xm ((by rw [hg]; exact Nat.ne_of_gt (blk_lt (kB BK243)) : gb268 ≠ gb243)); have n11_ := xm ((by rw [hg]; exact Nat.ne_of_lt (blk_lt (kB BK244)) : gb244 ≠ gb268)); have n12_ := xm ((by rw [hg]; exact Nat.ne_of_gt (blk_lt (kB BK244)) : gb268 ≠ gb244)); revert n0_ n1_ n2_ n3_ n4_ n5_ n6_ n7_ n8_ n9_ n10_ n11_ n12_; clear HO_244000 HO_245000 HO266 BK243 BK244 HB; intro HO_244000 HO_245000 HO266 BK243 BK244 HB BK268 GW268 GE268 NB243_268 NB268_243 NB244_268 NB268_244; clear hb hbox hg; obtain ⟨Ao94, co94, eo94⟩ := Kd.R_slice HO266.out; subst eo94; have hnb95 := NB268_243.out; have hnc95 := NB243_268.out; have hnb96 := NB268_244.out; have hnc96 := NB244_268.out; obtain ⟨hcz97_0, hfz97_0⟩ := cz1 BK268.out) | ((with_reducible refine gate_callee (f := 13) rfl ?_); refine goesL_ (some 129) rfl rfl Try.func13 (by kernel_rfl) rfl #[.string t263] rfl mB ?_; (with_reducible refine (spec_ReadRow.calls kj48 t263 t269 t272 _ A66.out).mono ?_); rintro e w98 ⟨v270, rfl, ho0, hb⟩; refine ⟨_, rfl, ?_⟩; have n0_ := xm (Kd.R_elder' (by (with_reducible repeat (first | apply Kd.R_alloc | apply Kd.R_drewN | apply Kd.R_drew)); exact (Kd.R_mono (Kd.R_far (p := ⟨gb268, 0, none⟩) (Kd.R_types HO_244000.out BK268.out (by decide)) (fun _ hk => hk.2) (.slice Ao94 t264.length co94)) (fun _ h_ => h_.1))) (Kd.R_base ho0) hb); have n1_ := xm (Kd.R_elder' (by (with_reducible repeat (first | apply Kd.R_alloc | apply Kd.R_drewN | apply Kd.R_drew)); exact (Kd.R_mono (Kd.R_far (p := ⟨gb268, 0, none⟩) (Kd.R_types HO_245000.out BK268.out (by decide)) (fun _ hk => hk.2) (.slice Ao94 t264.length co94)) (fun _ h_ => h_.1))) (Kd.R_base ho0) hb); have n2_ := xm (Kd.R_elder' (by (with_reducible repeat (first | apply Kd.R_alloc | apply Kd.R_drewN | apply Kd.R_drew)); exact (Kd.R_mono (Kd.R_far (p := ⟨gb268, 0, none⟩) (Kd.R_types HO266.out BK268.out (by decide)) (fun _ hk => hk.2) (.slice Ao94 t264.length co94)) (fun _ h_ => h_.1))) (Kd.R_base ho0) hb); have n3_ := xm (Kd.R_lower (Kd.R_new' (Kd.R_new' (Kd.R_new' ho0 (Kd.R_lt (by (with_reducible repeat (first | apply Kd.R_alloc | apply Kd.R_drewN | apply Kd.R_drew)); exact (Kd.R_mono (Kd.R_far (p := ⟨gb268, 0, none⟩) (Kd.R_types HO_244000.out BK268.out (by decide)) (fun _ hk => hk.2) (.slice Ao94 t264.length co94)) (fun _ h_ => h_.1))))) (Kd.R_lt (by (with_reducible repeat (first | apply Kd.R_alloc | apply Kd.R_drewN | apply Kd.R_drew)); exact (Kd.R_mono (Kd.R_far (p := ⟨gb268, 0, none⟩) (Kd.R_types HO_245000.out BK268.out (by decide)) (fun _ hk => hk.2) (.slice Ao94 t264.length co94)) (fun _ h_ => h_.1))))) (Kd.R_lt (by (with_reducible repeat (first | apply Kd.R_alloc | apply Kd.R_drewN | apply Kd.R_drew)); exact (Kd.R_mono (Kd.R_far (p := ⟨gb268, 0, none⟩) (Kd.R_types HO266.out BK268.out (by decide)) (fun _ hk => hk.2) (.slice Ao94 t264.length co94)) (fun _ h_ => h_.1))))) (xz bG)); have n4_ := xm (blk_below (g := gb243) (o := .cells #[.slice Ao13 t237.length co13] 25 (0, 0)) (by (with_reducible repeat (first | refine xq ?_ _ | refine xr ?_ | refine xo ?_ _)); refine blk_far ?_ NB243_268.out _; (with_reducible repeat (first | refine xq ?_ _ | refine xr ?_ | refine xo ?_ _)); exact BK243.out) hb); have n5_ := xm (blk_below (g := gb244) (o := .cells #[.slice Ao16 t240.length co16] 25 (0, 0)) (by (with_reducible repeat (first | refine xq ?_ _ | refine xr ?_ | refine xo ?_ _)); refine blk_far ?_ NB244_268.out _; (with_reducible repeat (first | refine xq ?_ _ | refine xr ?_ | refine xo ?_ _)); exact BK244.out) hb); have n6_ := xm (blk_below (g := gb268) (o := .cells #[.slice Ao94 t264.length co94] 25 (0, 0)) (by (with_reducible repeat (first | refine xq ?_ _ | refine xr ?_ | refine xo ?_ _)); refine blk_put (cs := #[.slice none 0 0]) ?_ 0 _ rfl; (with_reducible repeat (first | refine xq ?_ _ | refine xr ?_ | refine xo ?_ _)); exact BK268.out) hb); have n7_ := xm (below_step bG hb); revert n0_ n1_ n2_ n3_ n4_ n5_ n6_ n7_; clear HO_244000 HO_245000 HO266 BK243 BK244 BK268 HB; intro HO_244000 HO_245000 HO266 HO271 BK243 BK244 BK268 HB; (try clear hb); (try clear hk); (try clear ho0)) | ((with_reducible refine gate_dst (N := 22) rfl ?_); refine box_event ?hg (N := 22) ?hd (cs := #[.slice none 0 0]) (t := 25) ?hr ?_; (case hd => rfl); (case hg => rfl); (case hr => exact zB); intro gb273 hg w99 hbox hb; have n0_ := xm (Kd.R_below (rB HO_244000) hb); have n1_ := xm (Kd.R_below (rB HO_245000) hb); have n2_ := xm (Kd.R_below (rB HO266) hb); have n3_ := xm (Kd.R_below (rB HO271) hb); have n4_ := xm (blk_below (kB BK243) hb); have n5_ := xm (blk_below (kB BK244) hb); have n6_ := xm (blk_below (kB BK268) hb); have n7_ := xm (below_step bG hb); have n8_ := xm (hbox); have n9_ := xm ((by rw [hg]; exact (xz bG) : w.heap.size ≤ gb273)); have n10_ := xm ((by rw [hg]; exact (xz bG) : w.heap.size ≤ gb273)); have n11_ := xm ((by rw [hg]; exact Nat.ne_of_lt (blk_lt (kB BK243)) : gb243 ≠ gb273)); have n12_ := xm ((by rw [hg]; exact Nat.ne_of_gt (blk_lt (kB BK243)) : gb273 ≠ gb243)); have n13_ := xm ((by rw [hg]; exact Nat.ne_of_lt (blk_lt (kB BK244)) : gb244 ≠ gb273)); have n14_ := xm ((by rw [hg]; exact Nat.ne_of_gt (blk_lt (kB BK244)) : gb273 ≠ gb244)); have n15_ := xm ((by rw [hg]; exact Nat.ne_of_lt (blk_lt (kB BK268)) : gb268 ≠ gb273)); have n16_ := xm ((by rw [hg]; exact Nat.ne_of_gt (blk_lt (kB BK268)) : gb273 ≠ gb268)); revert n0_ n1_ n2_ n3_ n4_ n5_ n6_ n7_ n8_ n9_ n10_ n11_ n12_ n13_ n14_ n15_ n16_; clear HO_244000 HO_245000 HO266 HO271 BK243 BK244 BK268 HB; intro HO_244000 HO_245000 HO266 HO271 BK243 BK244 BK268 HB BK273 GW273 GE273 NB243_273 NB273_243 NB244_273 NB273_244 NB268_273 NB273_268; clear hb hbox hg; obtain ⟨Ao100, co100, eo100⟩ := Kd.R_slice HO271.out; subst eo100; have hnb101 := NB273_243.out; have hnc101 := NB243_273.out; have hnb102 := NB273_244.out; have hnc102 := NB244_273.out; have hnb103 := NB273_268.out; have hnc103 := NB268_273.out; obtain ⟨hcz104_0, hfz104_0⟩ := cz1 BK273.out; obtain ⟨hcz105_0, hfz105_0⟩ := cz1 BK268.out) | (go_at_call 10; (with_reducible refine (laws_sameRow.calls kj48 _ _ t264 _ _ t269 true _ ?side1 ?side2 ?side3 ?side4 A68.out).mono ?_); (case side1 => refine (Kd.R_reads' (e := 3) (base := w.heap.size) (ok := fun k_ => (((True ∧ some k_ ≠ (.slice Ao13 t237.length co13 : Value).ownBlock) ∧ some k_ ≠ (.slice Ao16 t240.length co16 : Value).ownBlock) ∧ some k_ ≠ (.slice Ao100 t269.length co100 : Value).ownBlock)) (n := t264.length) (c := co94) ?_).2.2; exact (by (with_reducible repeat (first | apply Kd.R_alloc | apply Kd.R_drewN | apply Kd.R_drew)); exact (Kd.R_mono (Kd.R_far (p := ⟨gb273, 0, none⟩) (Kd.R_types HO266.out BK273.out (by decide)) (fun _ hk => hk.2) (.slice Ao100 t269.length co100)) (fun _ h_ => h_.1)))); (case side2 => exact (Kd.R_reads' HO266.out).2.1); (case side3 => refine (Kd.R_reads' (e := 3) (base := w.heap.size) (ok := fun k_ => (((True ∧ some k_ ≠ (.slice Ao13 t237.length co13 : Value).ownBlock) ∧ some k_ ≠ (.slice Ao16 t240.length co16 : Value).ownBlock) ∧ some k_ ≠ (.slice Ao94 t264.length co94 : Value).ownBlock)) (n := t269.length) (c := co100) ?_).2.2; exact (by (with_reducible repeat (first | apply Kd.R_alloc | apply Kd.R_drewN | apply Kd.R_drew)); exact (Kd.R_mono (Kd.R_far (p := ⟨gb273, 0, none⟩) (Kd.R_types HO271.out BK273.out (by decide)) (fun _ hk => hk.2) (.slice Ao100 t269.length co100)) (fun _ h_ => h_.1)))); (case side4 => exact (Kd.R_reads' HO271.out).2.1); rintro e w106 ⟨rfl, hb⟩; have n0_ := xm (Kd.R_below (by (with_reducible repeat (first | apply Kd.R_alloc | apply Kd.R_drewN | apply Kd.R_drew)); exact (Kd.R_mono (Kd.R_far (p := ⟨gb273, 0, none⟩) (Kd.R_types HO_244000.out BK273.out (by decide)) (fun _ hk => hk.2) (.slice Ao100 t269.length co100)) (fun _ h_ => h_.1))) hb); have n1_ := xm (Kd.R_below (by (with_reducible repeat (first | apply Kd.R_alloc | apply Kd.R_drewN | apply Kd.R_drew)); exact (Kd.R_mono (Kd.R_far (p := ⟨gb273, 0, none⟩) (Kd.R_types HO_245000.out BK273.out (by decide)) (fun _ hk => hk.2) (.slice Ao100 t269.length co100)) (fun _ h_ => h_.1))) hb); have n2_ := xm (Kd.R_below (by (with_reducible repeat (first | apply Kd.R_alloc | apply Kd.R_drewN | apply Kd.R_drew)); exact (Kd.R_mono (Kd.R_far (p := ⟨gb273, 0, none⟩) (Kd.R_types HO266.out BK273.out (by decide)) (fun _ hk => hk.2) (.slice Ao100 t269.length co100)) (fun _ h_ => h_.1))) hb); have n3_ := xm (Kd.R_below (by (with_reducible repeat (first | apply Kd.R_alloc | apply Kd.R_drewN | apply Kd.R_drew)); exact (Kd.R_mono (Kd.R_far (p := ⟨gb273, 0, none⟩) (Kd.R_types HO271.out BK273.out (by decide)) (fun _ hk => hk.2) (.slice Ao100 t269.length co100)) (fun _ h_ => h_.1))) hb); have n4_ := xm (blk_below (g := gb243) (o := .cells #[.slice Ao13 t237.length co13] 25 (0, 0)) (by (with_reducible repeat (first | refine xq ?_ _ | refine xr ?_ | refine xo ?_ _)); refine blk_far ?_ NB243_273.out _; (with_reducible repeat (first | refine xq ?_ _ | refine xr ?_ | refine xo ?_ _)); exact BK243.out) hb); have n5_ := xm (blk_below (g := gb244) (o := .cells #[.slice Ao16 t240.length co16] 25 (0, 0)) (by (with_reducible repeat (first | refine xq ?_ _ | refine xr ?_ | refine xo ?_ _)); refine blk_far ?_ NB244_273.out _; (with_reducible repeat (first | refine xq ?_ _ | refine xr ?_ | refine xo ?_ _)); exact BK244.out) hb); have n6_ := xm (blk_below (g := gb268) (o := .cells #[.slice Ao94 t264.length co94] 25 (0, 0)) (by (with_reducible repeat (first | refine xq ?_ _ | refine xr ?_ | refine xo ?_ _)); refine blk_far ?_ NB268_273.out _; (with_reducible repeat (first | refine xq ?_ _ | refine xr ?_ | refine xo ?_ _)); exact BK268.out) hb); have n7_ := xm (blk_below (g := gb273) (o := .cells #[.slice Ao100 t269.length co100] 25 (0, 0)) (by (with_reducible repeat (first | refine xq ?_ _ | refine xr ?_ | refine xo ?_ _)); refine blk_put (cs := #[.slice none 0 0]) ?_ 0 _ rfl; (with_reducible repeat (first | refine xq ?_ _ | refine xr ?_ | refine xo ?_ _)); exact BK273.out) hb); have n8_ := xm (below_step bG hb); revert n0_ n1_ n2_ n3_ n4_ n5_ n6_ n7_ n8_; clear HO_244000 HO_245000 HO266 HO271 BK243 BK244 BK268 BK273 HB; intro HO_244000 HO_245000 HO266 HO271 BK243 BK244 BK268 BK273 HB; (try clear hb); (try clear hk); obtain ⟨hcz107_0, hfz107_0⟩ := cz1 BK268.out) | ((with_reducible refine gate_callee (f := 7) rfl ?_); refine goesL_ (some 143) rfl rfl Try.func7 (by kernel_rfl) rfl #[.agg #[.slice Ao94 t264.length co94]] rfl mB ?_; (with_reducible refine (impl_RowBytes.calls kj48 _ _ t264 t275 t276 _ ?side1 ?side2 A70.out).mono ?_); (case side1 => repeat (first | exact (Kd.R_reads' HO266.out).2.2 | (with_reducible refine Kd.C_alloc ?_ _) | (with_reducible refine Kd.C_drewN ?_ _) | (with_reducible refine Kd.C_drew ?_))); (case side2 => exact (Kd.R_reads' HO266.out).2.1); rintro e w108 ⟨rfl, hb⟩; refine ⟨_, rfl, ?_⟩; have n0_ := xm (Kd.R_below (rB HO_244000) hb); have n1_ := xm (Kd.R_below (rB HO_245000) hb); have n2_ := xm (Kd.R_below (rB HO266) hb); have n3_ := xm (Kd.R_below (rB HO271) hb); have n4_ := xm (blk_below (kB BK243) hb); have n5_ := xm (blk_below (kB BK244) hb); have n6_ := xm (blk_below (kB BK268) hb); have n7_ := xm (blk_below (kB BK273) hb); have n8_ := xm (below_step bG hb); revert n0_ n1_ n2_ n3_ n4_ n5_ n6_ n7_ n8_; clear HO_244000 HO_245000 HO266 HO271 BK243 BK244 BK268 BK273 HB; intro HO_244000 HO_245000 HO266 HO271 BK243 BK244 BK268 BK273 HB; (try clear hb)))
            go_ret
            exact ⟨eB, bG⟩
          ·replace c69 := Bool.eq_false_iff.mpr c69
           subst c69
           have H1 : (some false) = some true := by first | (with_reducible rfl) | (rw [if_neg (show ¬ (false = true) by decide)] at H; exact H)
           clear H
           have H := H1
           clear H1
           exact absurd H (by simp)

/-- THE ONE PURE STATEMENT of laws_FnRowBytes. -/
def laws_FnRowBytes.Pure : Prop := ∀ x0 : List Int, (x0.length ≤ 9223372036854775807 ∧ ∀ x0_ ∈ x0, (0 ≤ x0_ ∧ x0_ ≤ 255)) → ∀ x1 : List Int, (x1.length ≤ 9223372036854775807 ∧ ∀ x0_ ∈ x1, (0 ≤ x0_ ∧ x0_ ≤ 255)) → ∃ k, laws_FnRowBytes.f k x0 x1 = some true

end Go.Proofs.Ytaddemalepndfai.G
