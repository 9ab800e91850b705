/- Written by a program of this claim's own, out of the translation: functions of the program as plain functions, and that the calls answer as these. No conditions. -/
import Derived.Test.YtcbikaoackbbjaaG0
import Derived.Test.YtcbikaoackbbjaaG5
import Derived.Test.YtcbikaoackbbjaaG6
namespace Go.Proofs.Ytcbikaoackbbjaa.G
open Go.RowKit Go.Proofs.Ytcbikaoackbbjaa.X Go.Proofs.YtcbikaoackbbjaaW.PrintWords Go.Proofs.YtcbikaoackbbjaaW.PrintLast Go.Proofs.YtcbikaoackbbjaaW.PrintMore
attribute [local go_sem] max2_int min2_int max_two min_two max_three min_three max_four min_four   -- for this text's walks alone
set_option linter.unusedVariables false
set_option linter.unusedSimpArgs false

/-! ### impl_joined: function 119 -/
def impl_joined.f (k : Nat) (l0_0 : List Int) (l1_0 : List Int) (l2 : List (List Int)) : Option (List Int × Bool) := (impl_areAll_Lint__impl_joined_1.f l2 l0_0 l1_0).bind fun t220 => (if t220 = true then ((impl_unpaired.f k (l1_0.length : Int) l2).bind fun t221 => ((impl_Row_picked.f k l1_0 t221).bind fun t224 => ((slices_Concat_Lint_int.f k (([l0_0, t224] : List (List Int)))).bind fun t230 => (some (t230, true))))) else (some (([] : List Int), false)))
theorem impl_joined.mono : ∀ a0 a1 a2 k, LeO (impl_joined.f k a0 a1 a2) (impl_joined.f (k + 1) a0 a1 a2) := by
 intro a0 a1 a2 k
 unfold impl_joined.f
 repeat' first
   | (with_reducible exact impl_Row_picked.mono _ _ _)
   | (with_reducible exact impl_unpaired.mono _ _ _)
   | (with_reducible exact slices_Concat_Lint_int.mono _ _)
   | (with_reducible exact LeO.refl _)
   | (with_reducible exact LeO.none _)
   | (with_reducible refine LeO.ite ?_ ?_)
   | (with_reducible refine LeO.bind ?_ (fun _ => ?_))
   | exact impl_Row_picked.mono _ _ _
   | exact impl_unpaired.mono _ _ _
   | exact slices_Concat_Lint_int.mono _ _
   | exact LeO.none _
   | refine LeO.ite ?_ ?_
   | refine LeO.bind ?_ (fun _ => ?_)
def impl_joined.T3 : Bool × List (List Nat × List Nat) := (true, [([], []), ([0], [0]), ([], []), ([], []), ([3], [3]), ([4], [4]), ([], []), ([5, 6], [5, 6]), ([2, 7, 7], [2, 7]), ([8], [8]), ([1, 9], [1, 9]), ([10, 8], [10]), ([11], [11]), ([12, 11, 0, 1, 2, 3, 4, 5, 6, 7, 8, 9, 10, 11, 12], [12]), ([13, 0, 1, 2, 3, 4, 5, 6, 7, 8, 9, 10, 11, 12, 13], [])])
def impl_joined.B3 : List Nat := [0, 1, 0, 0, 8, 24, 0, 120, 252, 508, 1023, 2047, 4095, 8191, 16383]
theorem impl_joined.tab3 : rtab .any (opsOf Try.f119 3) = impl_joined.T3 := by kernel_rfl
theorem impl_joined.bits3 : waitsOk impl_joined.T3.2 impl_joined.B3 = true := by kernel_rfl
set_option maxHeartbeats 8000000 in
set_option maxRecDepth 100000 in
theorem impl_joined.calls (k : Nat) (P0_0_ : Nat → Prop) (A0_0 : Option Addr) (c0_0 : Nat) (l0_0 : List Int) (A1_0 : Option Addr) (c1_0 : Nat) (l1_0 : List Int) (A2 : Option Addr) (c2 : Nat) (l2 : List (List Int)) (r1 : List Int) (r2 : Bool) (w : World) (hs0_0 : Kd.V (Kd.int .i64) 3 w w.heap.size (fun k_ => P0_0_ k_) (.slice A0_0 l0_0.length c0_0) l0_0) (hr1_0 : Kd.C (Kd.int .i64) w A1_0 l1_0.length l1_0) (hc1_0 : l1_0.length ≤ c1_0) (hr2 : Kd.C (Kd.slice 3 (Kd.int .i64)) w A2 l2.length l2) (hc2 : l2.length ≤ c2) (h : impl_joined.f k l0_0 l1_0 l2 = some (r1, r2)) :
  Calls Try.prog 119 #[.agg #[.slice A0_0 l0_0.length c0_0], .agg #[.slice A1_0 l1_0.length c1_0], .slice A2 l2.length c2] w fun e w' => ∃ v0_ : Value, e = .returned (.tuple #[.agg #[v0_], .bool r2]) ∧ Kd.R (Kd.int .i64) 3 w' w.heap.size (fun k_ => (w.heap.size ≤ k_)) v0_ r1 ∧ Below w.heap.size w w' := by
 have hu26 := Try.underlying26
 have HO0_0 := xm (show Kd.V (Kd.int .i64) 3 w w.heap.size (fun k_ => (P0_0_ k_ ∨ w.heap.size ≤ k_)) (.slice A0_0 l0_0.length c0_0) l0_0 from Kd.V_mono hs0_0 (fun k_ hk => .inl hk))
 have HR1_0 := xm hr1_0
 have HC1_0 := xm hc1_0
 clear hr1_0 hc1_0
 have HR2 := xm hr2
 have HC2 := xm hc2
 clear hr2 hc2
 have HB := xm (Below.refl w.heap.size w)
 have H : ((impl_areAll_Lint__impl_joined_1.f l2 l0_0 l1_0).bind fun t220 => (if t220 = true then ((impl_unpaired.f k (l1_0.length : Int) l2).bind fun t221 => ((impl_Row_picked.f k l1_0 t221).bind fun t224 => ((slices_Concat_Lint_int.f k (([l0_0, t224] : List (List Int)))).bind fun t230 => (some (t230, true))))) else (some (([] : List Int), false)))) = some (r1, r2) := h
 clear h
 replace H := Option.bind_eq_some_iff.mp H
 obtain ⟨t220, A40, H⟩ := H
 replace H : (if t220 = true then ((impl_unpaired.f k (l1_0.length : Int) l2).bind fun t221 => ((impl_Row_picked.f k l1_0 t221).bind fun t224 => ((slices_Concat_Lint_int.f k (([l0_0, t224] : List (List Int)))).bind fun t230 => (some (t230, true))))) else (some (([] : List Int), false))) = some (r1, r2) := H
 have A4 := xm A40
 clear A40
 by_cases c5 : t220 = true
 ·subst c5
  have H1 : ((impl_unpaired.f k (l1_0.length : Int) l2).bind fun t221 => ((impl_Row_picked.f k l1_0 t221).bind fun t224 => ((slices_Concat_Lint_int.f k (([l0_0, t224] : List (List Int)))).bind fun t230 => (some (t230, true))))) = some (r1, r2) := by first | (with_reducible rfl) | (rw [if_pos rfl] at H; exact H)
  clear H
  have H := H1
  clear H1
  replace H := Option.bind_eq_some_iff.mp H
  obtain ⟨t221, A60, H⟩ := H
  replace H : ((impl_Row_picked.f k l1_0 t221).bind fun t224 => ((slices_Concat_Lint_int.f k (([l0_0, t224] : List (List Int)))).bind fun t230 => (some (t230, true)))) = some (r1, r2) := H
  have A6 := xm A60
  clear A60
  replace H := Option.bind_eq_some_iff.mp H
  obtain ⟨t224, A70, H⟩ := H
  replace H : ((slices_Concat_Lint_int.f k (([l0_0, t224] : List (List Int)))).bind fun t230 => (some (t230, true))) = some (r1, r2) := H
  have A7 := xm A70
  clear A70
  obtain ⟨y227, hy227⟩ : ∃ y_ : List (List Int), y_ = (([l0_0, t224] : List (List Int))) := ⟨_, rfl⟩
  replace H : ((slices_Concat_Lint_int.f k y227).bind fun t230 => (some (t230, true))) = some (r1, r2) := by first | (rw [hy227]; with_reducible exact H) | (have H2_ := (Option.bind_some _ _).symm.trans H; rw [hy227]; with_reducible exact H2_) | (have H2_ := (Option.bind_some _ _).symm.trans H; with_reducible exact H2_) | with_reducible exact H | (rw [hy227]; exact H) | exact H
  have Ny227 := xm hy227
  clear hy227
  replace H := Option.bind_eq_some_iff.mp H
  obtain ⟨t230, A80, H⟩ := H
  replace H : (some (t230, true)) = some (r1, r2) := H
  have A8 := xm A80
  clear A80
  simp only [Option.some.injEq, Prod.mk.injEq] at H
  obtain ⟨rfl, rfl⟩ := H
  go_enter Try.func119, Try.ntmps119
  try go_wp2_with (first | ((with_reducible refine gate_dst (N := 3) rfl ?_); refine box_event ?hg (N := 3) ?hd (cs := #[.slice A0_0 l0_0.length c0_0]) (t := 26) ?hr ?_; (case hd => rfl); (case hg => rfl); (case hr => exact zB); intro gb217 hg w9 hbox hb; have n0_ := xm (Kd.V_below (Kd.V_elderB (by (with_reducible repeat (first | apply Kd.V_alloc | apply Kd.V_drewN | apply Kd.V_drew)); exact HO0_0.out) gb217 (Nat.le_of_eq hg.symm)) hb); have n1_ := xm (below_step bB hb); have n2_ := xm (hbox); have n3_ := xm ((by rw [hg]; exact (xz bB) : w.heap.size ≤ gb217)); have n4_ := xm ((by rw [hg]; exact (xz bB) : w.heap.size ≤ gb217)); clear HO0_0; clear HB; have HO0_0 := n0_; have HB := n1_; have BK217 := n2_; have GW217 := n3_; have GE217 := n4_; clear n0_ n1_ n2_ n3_ n4_; clear hb hbox hg) | ((with_reducible refine gate_dst (N := 4) rfl ?_); refine box_event ?hg (N := 4) ?hd (cs := #[.slice A1_0 l1_0.length c1_0]) (t := 26) ?hr ?_; (case hd => rfl); (case hg => rfl); (case hr => exact zB); intro gb218 hg w10 hbox hb; have n0_ := xm (Kd.V_below (Kd.V_elderB (by (with_reducible repeat (first | apply Kd.V_alloc | apply Kd.V_drewN | apply Kd.V_drew)); exact HO0_0.out) gb218 (Nat.le_of_eq hg.symm)) hb); have n1_ := xm (blk_below (kB BK217) hb); have n2_ := xm (below_step bG hb); have n3_ := xm (hbox); have n4_ := xm ((by rw [hg]; exact (xz bG) : w.heap.size ≤ gb218)); have n5_ := xm ((by rw [hg]; exact (xz bG) : w.heap.size ≤ gb218)); have n6_ := xm ((by rw [hg]; exact Nat.ne_of_lt (blk_lt (kB BK217)) : gb217 ≠ gb218)); have n7_ := xm ((by rw [hg]; exact Nat.ne_of_gt (blk_lt (kB BK217)) : gb218 ≠ gb217)); clear HO0_0; clear BK217; clear HB; have HO0_0 := n0_; have BK217 := n1_; have HB := n2_; have BK218 := n3_; have GW218 := n4_; have GE218 := n5_; have NB217_218 := n6_; have NB218_217 := n7_; clear n0_ n1_ n2_ n3_ n4_ n5_ n6_ n7_; clear hb hbox hg) | ((with_reducible refine gate_dst (N := 6) rfl ?_); refine box_event ?hg (N := 6) ?hd (cs := #[.slice none 0 0]) (t := 26) ?hr ?_; (case hd => rfl); (case hg => rfl); (case hr => exact zB); intro gb219 hg w11 hbox hb; have n0_ := xm (Kd.V_below (Kd.V_elderB (by (with_reducible repeat (first | apply Kd.V_alloc | apply Kd.V_drewN | apply Kd.V_drew)); exact HO0_0.out) gb219 (Nat.le_of_eq hg.symm)) hb); have n1_ := xm (blk_below (kB BK217) hb); have n2_ := xm (blk_below (kB BK218) hb); have n3_ := xm (below_step bG hb); have n4_ := xm (hbox); have n5_ := xm ((by rw [hg]; exact (xz bG) : w.heap.size ≤ gb219)); have n6_ := xm ((by rw [hg]; exact (xz bG) : w.heap.size ≤ gb219)); have n7_ := xm ((by rw [hg]; exact Nat.ne_of_lt (blk_lt (kB BK217)) : gb217 ≠ gb219)); have n8_ := xm ((by rw [hg]; exact Nat.ne_of_gt (blk_lt (kB BK217)) : gb219 ≠ gb217)); have n9_ := xm ((by rw [hg]; exact Nat.ne_of_lt (blk_lt (kB BK218)) : gb218 ≠ gb219)); have n10_ := xm ((by rw [hg]; exact Nat.ne_of_gt (blk_lt (kB BK218)) : gb219 ≠ gb218)); clear HO0_0; clear BK217; clear BK218; clear HB; have HO0_0 := n0_; have BK217 := n1_; have BK218 := n2_; have HB := n3_; have BK219 := n4_; have GW219 := n5_; have GE219 := n6_; have NB217_219 := n7_; have NB219_217 := n8_; have NB218_219 := n9_; have NB219_218 := n10_; clear n0_ n1_ n2_ n3_ n4_ n5_ n6_ n7_ n8_ n9_ n10_; clear hb hbox hg) | ((with_reducible refine gate_callee (f := 148) rfl ?_); refine goesL_ (some 10) rfl rfl Try.func148 (by kernel_rfl) rfl #[.slice A2 l2.length c2, .func (.func 150) #[] #[.pointer (some ⟨gb217, 0, none⟩), .pointer (some ⟨gb218, 0, none⟩)]] rfl mB ?_; (with_reducible refine (impl_areAll_Lint__impl_joined_1.calls _ _ l2 gb217 A0_0 c0_0 l0_0 gb218 A1_0 c1_0 l1_0 true _ ?side1 ?side2 ?side3 ?side4 ?side5 ?side6 ?side7 ?side8 A4.out).mono ?_); (case side1 => exact cB (Kd.C_below HR2.out HB.out)); (case side2 => exact HC2.out); (case side3 => repeat (first | exact (Kd.V_reads' HO0_0.out).2.2 | (with_reducible refine Kd.C_alloc ?_ _) | (with_reducible refine Kd.C_drewN ?_ _) | (with_reducible refine Kd.C_drew ?_))); (case side4 => exact (Kd.V_reads' HO0_0.out).2.1); (case side5 => exact cB (Kd.C_below HR1_0.out HB.out)); (case side6 => exact HC1_0.out); (case side7 => exact by (with_reducible repeat (first | refine xq ?_ _ | refine xr ?_ | refine xo ?_ _)); exact BK217.out); (case side8 => exact by (with_reducible repeat (first | refine xq ?_ _ | refine xr ?_ | refine xo ?_ _)); exact BK218.out); rintro e w12 ⟨rfl, hb⟩; refine ⟨_, rfl, ?_⟩; have n0_ := xm (Kd.V_below (by (with_reducible repeat (first | apply Kd.V_alloc | apply Kd.V_drewN | apply Kd.V_drew)); exact HO0_0.out) hb); have n1_ := xm (blk_below (kB BK217) hb); have n2_ := xm (blk_below (kB BK218) hb); have n3_ := xm (blk_below (kB BK219) hb); have n4_ := xm (below_step bG hb); clear HO0_0; clear BK217; clear BK218; clear BK219; clear HB; have HO0_0 := n0_; have BK217 := n1_; have BK218 := n2_; have BK219 := n3_; have HB := n4_; clear n0_ n1_ n2_ n3_ n4_; (try clear hb); (try clear hb2); (try clear hk); (try clear hi)))
  have n0_ := xm (Kd.V_drew HO0_0.out)
  have n1_ := xm (xr BK217.out)
  have n2_ := xm (xr BK218.out)
  have n3_ := xm (xr BK219.out)
  have n4_ := xm (xd HB.out)
  clear HO0_0
  clear BK217
  clear BK218
  clear BK219
  clear HB
  have HO0_0 := n0_
  have BK217 := n1_
  have BK218 := n2_
  have BK219 := n3_
  have HB := n4_
  clear n0_ n1_ n2_ n3_ n4_
  refine start_ (n := 15) (S := fun w' => w'.cell? ⟨gb217, 0, none⟩ = some (.slice A0_0 l0_0.length c0_0) ∧ w'.cell? ⟨gb218, 0, none⟩ = some (.slice A1_0 l1_0.length c1_0)) (ds := []) #[Z,Z,Z,Z,Z,Z,Z,Z,Z,Z,Z,Z,Z,Z,Z] (by kernel_rfl) rfl rfl ⟨(xc BK217.out 0).trans rfl, (xc BK218.out 0).trans rfl⟩ (fun hHeld => ?_); refine with_tabW impl_joined.tab3 impl_joined.bits3 (fun HT_ HW_ => ?_)
  generalize w12.drew = w13 at HO0_0 BK217 BK218 BK219 HB hHeld ⊢
  refine px 0 15 1 (any_of HT_.out (by kernel_rfl)) ?_
  refine px 3 15 9 (any_of HT_.out (by kernel_rfl)) ?_
  refine px 6 15 73 (any_of HT_.out (by kernel_rfl)) ?_
  refine tx 1 15 75 rfl rfl (take_ofW HT_.out HW_.out (by kernel_rfl)) hHeld (by rintro w' ⟨s0, s1⟩; go_simp; with_reducible rfl) ?_
  refine tx 2 15 79 rfl rfl (take_ofW HT_.out HW_.out (by kernel_rfl)) hHeld (by rintro w' ⟨s0, s1⟩; go_simp; with_reducible rfl) ?_
  refine tx 4 15 95 rfl rfl (take_ofW HT_.out HW_.out (by kernel_rfl)) hHeld (by rintro w' ⟨s0, s1⟩; go_simp; with_reducible rfl) ?_
  refine px 5 15 127 (any_of HT_.out (by kernel_rfl)) ?_
  refine one_ (i := 7) (N := some 20) #[Y,Y,Y,Y,Y,Y,Y,Y,Z,Z,Z,Z,Z,Z,Z] rfl rfl (one_of HT_.out (by kernel_rfl)) (by decide) (fun K hK => ?_)
  refine goes_ Try.func151 (by kernel_rfl) rfl #[.int .i64 (l1_0.length : Int), .slice A2 l2.length c2] (by rfl) rfl rfl mB ?_
  with_reducible refine (impl_unpaired.calls k (l1_0.length : Int) _ _ l2 t221 _ ?side1 ?side2 A6.out).mono ?_
  (case side1 => exact cB (Kd.C_below HR2.out HB.out))
  (case side2 => exact HC2.out)
  rintro e w14 ⟨v222, rfl, ho0, hb⟩
  refine ⟨_, rfl, ?_⟩
  have n0_ := xm (Kd.V_elder' (by (with_reducible repeat (first | apply Kd.V_alloc | apply Kd.V_drewN | apply Kd.V_drew)); exact HO0_0.out) (Kd.R_base ho0) hb)
  have n1_ := xm (Kd.R_lower (Kd.R_newM (M := fun k_ => (w.heap.size ≤ k_)) ho0 (xz bG) (fun k_ h_ => h_)) (xz bG))
  have n2_ := xm (blk_below (kB BK217) hb)
  have n3_ := xm (blk_below (kB BK218) hb)
  have n4_ := xm (blk_below (kB BK219) hb)
  have n5_ := xm (below_step bG hb)
  clear HO0_0
  clear BK217
  clear BK218
  clear BK219
  clear HB
  have HO0_0 := n0_
  have HO223 := n1_
  have BK217 := n2_
  have BK218 := n3_
  have BK219 := n4_
  have HB := n5_
  clear n0_ n1_ n2_ n3_ n4_ n5_
  (try clear hb)
  (try clear hb2)
  (try clear hk)
  (try clear hi)
  (try clear ho0)
  obtain ⟨Ao15, co15, eo15⟩ := Kd.R_slice HO223.out
  (first | subst eo15 | (injection eo15 with f1_ f2_ f3_; have f4_ := f1_.symm; have f5_ := f3_.symm; clear f1_ f2_ f3_; subst f4_; subst f5_))
  refine hK.out _ _ ⟨(xc BK217.out 0).trans rfl, (xc BK218.out 0).trans rfl⟩ (fun hHeld => ?_)
  clear hK K
  refine norm_ (a' := ?_) ?_ ?_
  rotate_left
  ·show Act.put _ (some 20) _ = _
   simp only [Act.put, xi, xj, xk, i64_w, i32_w]
   rfl
  refine one_ (i := 8) (N := some 21) #[Y,Y,Y,Y,Y,Y,Y,Y,Y,Z,Z,Z,Z,Z,Z] rfl rfl (one_of HT_.out (by kernel_rfl)) (by decide) (fun K hK => ?_)
  refine goes_ Try.func86 (by kernel_rfl) rfl #[.agg #[.slice A1_0 l1_0.length c1_0], .slice Ao15 t221.length co15] (by rfl) rfl rfl mB ?_
  with_reducible refine (impl_Row_picked.calls k _ _ l1_0 _ _ t221 t224 _ ?side1 ?side2 ?side3 ?side4 A7.out).mono ?_
  (case side1 => exact cB (Kd.C_below HR1_0.out HB.out))
  (case side2 => exact HC1_0.out)
  (case side3 => repeat (first | exact (Kd.R_reads' HO223.out).2.2 | (with_reducible refine Kd.C_alloc ?_ _) | (with_reducible refine Kd.C_drewN ?_ _) | (with_reducible refine Kd.C_drew ?_)))
  (case side4 => exact (Kd.R_reads' HO223.out).2.1)
  rintro e w16 ⟨v225, rfl, ho0, hb⟩
  refine ⟨_, rfl, ?_⟩
  have n0_ := xm (Kd.V_elder' (by (with_reducible repeat (first | apply Kd.V_alloc | apply Kd.V_drewN | apply Kd.V_drew)); exact HO0_0.out) (Kd.R_base ho0) hb)
  have n1_ := xm (Kd.R_elder' (rB HO223) (Kd.R_base ho0) hb)
  have n2_ := xm (Kd.R_lower (Kd.R_new' (Kd.R_newM (M := fun k_ => (w.heap.size ≤ k_)) ho0 (xz bG) (fun k_ h_ => h_)) (Kd.R_lt (rB HO223))) (xz bG))
  have n3_ := xm (blk_below (kB BK217) hb)
  have n4_ := xm (blk_below (kB BK218) hb)
  have n5_ := xm (blk_below (kB BK219) hb)
  have n6_ := xm (below_step bG hb)
  clear HO0_0
  clear HO223
  clear BK217
  clear BK218
  clear BK219
  clear HB
  have HO0_0 := n0_
  have HO223 := n1_
  have HO226 := n2_
  have BK217 := n3_
  have BK218 := n4_
  have BK219 := n5_
  have HB := n6_
  clear n0_ n1_ n2_ n3_ n4_ n5_ n6_
  (try clear hb)
  (try clear hb2)
  (try clear hk)
  (try clear hi)
  (try clear ho0)
  obtain ⟨Ao17, co17, eo17⟩ := Kd.R_slice HO226.out
  (first | subst eo17 | (injection eo17 with f1_ f2_ f3_; have f4_ := f1_.symm; have f5_ := f3_.symm; clear f1_ f2_ f3_; subst f4_; subst f5_))
  refine hK.out _ _ ⟨(xc BK217.out 0).trans rfl, (xc BK218.out 0).trans rfl⟩ (fun hHeld => ?_)
  clear hK K
  refine norm_ (a' := ?_) ?_ ?_
  rotate_left
  ·show Act.put _ (some 21) _ = _
   simp only [Act.put, xi, xj, xk, i64_w, i32_w]
   rfl
  refine px (v := .slice Ao17 t224.length co17) 9 15 1023 (any_of HT_.out (by kernel_rfl)) ?_ (hy := fun w' => by go_simp; simp only [Instr.field, underlying, hu26, Sem.run_bind, Sem.run_pure]; first | rfl | (simp [asAgg, part, hu26]; done) | (simp [asAgg, part, hu26]; rfl) | (simp [asAgg]; rfl))
  refine one_ (i := 10) (N := some 23) #[Y,Y,Y,Y,Y,Y,Y,Y,Y,Y,Y,Z,Z,Z,Z] rfl rfl (one_of HT_.out (by kernel_rfl)) (by decide) (fun K hK => ?_)
  refine Kd.N_lit_step (Kd.slice 3 (Kd.int .i64)) _ 22 ?hg (N' := 23) ?hd (xs := ([l0_0, t224] : List (List Int))) (inner := [.slice A0_0 l0_0.length c0_0, .slice Ao17 t224.length co17]) (ok := (fun k_ => (P0_0_ k_ ∨ w.heap.size ≤ k_) ∧ some k_ ≠ (.slice Ao15 t221.length co15 : Value).ownBlock ∧ k_ ≠ gb217 ∧ k_ ≠ gb218 ∧ k_ ≠ gb219)) (okp := (fun k_ => (P0_0_ k_ ∨ w.heap.size ≤ k_) ∧ some k_ ≠ (.slice Ao15 t221.length co15 : Value).ownBlock ∧ k_ ≠ gb217 ∧ k_ ≠ gb218 ∧ k_ ≠ gb219)) ?hr ?hp (fun _ hk => hk) ((show ∀ k_, w16.heap.size ≤ k_ → (fun k_ => (P0_0_ k_ ∨ w.heap.size ≤ k_) ∧ some k_ ≠ (.slice Ao15 t221.length co15 : Value).ownBlock ∧ k_ ≠ gb217 ∧ k_ ≠ gb218 ∧ k_ ≠ gb219) k_ from fun k_ hk => ⟨(.inr (Nat.le_trans (xz bG) hk)), Kd.fresh' (Kd.R_lt (rB HO223)) k_ hk, Kd.freshB (kB BK217) k_ hk, Kd.freshB (kB BK218) k_ hk, Kd.freshB (kB BK219) k_ hk⟩) _ (Nat.le_refl _)) (Below.refl _ _) (Nat.le_refl _) (by simp) ?_; (case hd => rfl); (case hg => rfl); (case hr => exact zB); (case hp => exact (Reps.one (show Kd.FK (Kd.slice 3 (Kd.int .i64)) _ _ l0_0 [.slice A0_0 l0_0.length c0_0] from (Kd.FK_slice_mk (Kd.V_reads' (Kd.V_mono (ok' := (fun k_ => (P0_0_ k_ ∨ w.heap.size ≤ k_) ∧ some k_ ≠ (.slice Ao15 t221.length co15 : Value).ownBlock ∧ k_ ≠ gb217 ∧ k_ ≠ gb218 ∧ k_ ≠ gb219)) (HO0_0.out) (fun k_ hk => ⟨hk.1.1.1.1.1, ⟨hk.1.2, ⟨hk.1.1.1.1.2, ⟨hk.1.1.1.2, hk.1.1.2⟩⟩⟩⟩))).2.1 (Kd.V_F (Kd.V_mono (ok' := (fun k_ => (P0_0_ k_ ∨ w.heap.size ≤ k_) ∧ some k_ ≠ (.slice Ao15 t221.length co15 : Value).ownBlock ∧ k_ ≠ gb217 ∧ k_ ≠ gb218 ∧ k_ ≠ gb219)) (HO0_0.out) (fun k_ hk => ⟨hk.1.1.1.1.1, ⟨hk.1.2, ⟨hk.1.1.1.1.2, ⟨hk.1.1.1.2, hk.1.1.2⟩⟩⟩⟩))))) (Reps.one (show Kd.FK (Kd.slice 3 (Kd.int .i64)) _ _ t224 [.slice Ao17 t224.length co17] from (Kd.FK_slice_mk (Kd.R_reads' (Kd.R_mono (ok' := (fun k_ => (P0_0_ k_ ∨ w.heap.size ≤ k_) ∧ some k_ ≠ (.slice Ao15 t221.length co15 : Value).ownBlock ∧ k_ ≠ gb217 ∧ k_ ≠ gb218 ∧ k_ ≠ gb219)) (Kd.R_types (Kd.R_types (Kd.R_types (HO226.out) BK217.out (by decide)) BK218.out (by decide)) BK219.out (by decide)) (fun k_ hk => ⟨(.inr (hk.1.1.1.1.1)), ⟨hk.1.1.1.2, ⟨hk.1.1.2, ⟨hk.1.2, hk.2⟩⟩⟩⟩))).2.1 (Kd.R_F (Kd.R_mono (ok' := (fun k_ => (P0_0_ k_ ∨ w.heap.size ≤ k_) ∧ some k_ ≠ (.slice Ao15 t221.length co15 : Value).ownBlock ∧ k_ ≠ gb217 ∧ k_ ≠ gb218 ∧ k_ ≠ gb219)) (Kd.R_types (Kd.R_types (Kd.R_types (HO226.out) BK217.out (by decide)) BK218.out (by decide)) BK219.out (by decide)) (fun k_ hk => ⟨(.inr (hk.1.1.1.1.1)), ⟨hk.1.1.1.2, ⟨hk.1.1.2, ⟨hk.1.2, hk.2⟩⟩⟩⟩))))) (Reps.none _ _))))
  intro v228 w18 ho19 hb hg_ hnew_
  clear hg_ hnew_
  (first | rw [← Ny227.out] at ho19 | (simp only [Int.reduceToNat] at ho19; rw [← Ny227.out] at ho19))
  have n0_ := xm (Kd.V_elder' (by (with_reducible repeat (first | apply Kd.V_alloc | apply Kd.V_drewN | apply Kd.V_drew)); exact HO0_0.out) (Kd.N_base ho19) hb)
  have n1_ := xm (Kd.R_below (rB HO223) hb)
  have n2_ := xm (Kd.N_lower ho19 (xz bG))
  have n3_ := xm (blk_below (kB BK217) hb)
  have n4_ := xm (blk_below (kB BK218) hb)
  have n5_ := xm (blk_below (kB BK219) hb)
  have n6_ := xm (below_step bG hb)
  clear HO0_0
  clear HO223
  clear BK217
  clear BK218
  clear BK219
  clear HB
  clear HO226
  have HO0_0 := n0_
  have HO223 := n1_
  have HO229 := n2_
  have BK217 := n3_
  have BK218 := n4_
  have BK219 := n5_
  have HB := n6_
  clear n0_ n1_ n2_ n3_ n4_ n5_ n6_
  clear hb ho19
  obtain ⟨Ao20, co20, eo20⟩ := Kd.N_slice HO229.out
  (first | subst eo20 | (injection eo20 with f1_ f2_ f3_; have f4_ := f1_.symm; have f5_ := f3_.symm; clear f1_ f2_ f3_; subst f4_; subst f5_))
  refine hK.out _ _ ⟨(xc BK217.out 0).trans rfl, (xc BK218.out 0).trans rfl⟩ (fun hHeld => ?_)
  clear hK K
  refine norm_ (a' := ?_) ?_ ?_
  rotate_left
  ·show Act.put _ (some 23) _ = _
   simp only [Act.put, xi, xj, xk, i64_w, i32_w]
   rfl
  refine one_ (i := 11) (N := some 24) #[Y,Y,Y,Y,Y,Y,Y,Y,Y,Y,Y,Y,Z,Z,Z] rfl rfl (one_of HT_.out (by kernel_rfl)) (by decide) (fun K hK => ?_)
  refine goes_ Try.func135 (by kernel_rfl) rfl #[.slice Ao20 y227.length co20] (by rfl) rfl rfl mB ?_
  with_reducible refine (slices_Concat_Lint_int.calls k _ _ y227 t230 _ ?side1 ?side2 A8.out).mono ?_
  (case side1 => repeat (first | exact (Kd.N_reads' HO229.out).2.2 | (with_reducible refine Kd.C_alloc ?_ _) | (with_reducible refine Kd.C_drewN ?_ _) | (with_reducible refine Kd.C_drew ?_)))
  (case side2 => exact (Kd.N_reads' HO229.out).2.1)
  rintro e w21 ⟨v231, rfl, ho0, hb⟩
  refine ⟨_, rfl, ?_⟩
  have n0_ := xm (Kd.V_elder' (by (with_reducible repeat (first | apply Kd.V_alloc | apply Kd.V_drewN | apply Kd.V_drew)); exact HO0_0.out) (Kd.R_base ho0) hb)
  have n1_ := xm (Kd.R_elder' (rB HO223) (Kd.R_base ho0) hb)
  have n2_ := xm (Kd.N_elder' (by (with_reducible repeat (first | apply Kd.N_alloc | apply Kd.N_drewN | apply Kd.N_drew)); exact HO229.out) (Kd.R_base ho0) hb)
  have n3_ := xm (Kd.R_lower (Kd.R_new' (Kd.R_newM (M := fun k_ => (w.heap.size ≤ k_)) ho0 (xz bG) (fun k_ h_ => h_)) (Kd.R_lt (rB HO223))) (xz bG))
  have n4_ := xm (blk_below (kB BK217) hb)
  have n5_ := xm (blk_below (kB BK218) hb)
  have n6_ := xm (blk_below (kB BK219) hb)
  have n7_ := xm (below_step bG hb)
  clear HO0_0
  clear HO223
  clear HO229
  clear BK217
  clear BK218
  clear BK219
  clear HB
  have HO0_0 := n0_
  have HO223 := n1_
  have HO229 := n2_
  have HO232 := n3_
  have BK217 := n4_
  have BK218 := n5_
  have BK219 := n6_
  have HB := n7_
  clear n0_ n1_ n2_ n3_ n4_ n5_ n6_ n7_
  (try clear hb)
  (try clear hb2)
  (try clear hk)
  (try clear hi)
  (try clear ho0)
  obtain ⟨Ao22, co22, eo22⟩ := Kd.R_slice HO232.out
  (first | subst eo22 | (injection eo22 with f1_ f2_ f3_; have f4_ := f1_.symm; have f5_ := f3_.symm; clear f1_ f2_ f3_; subst f4_; subst f5_))
  refine hK.out _ _ ⟨(xc BK217.out 0).trans rfl, (xc BK218.out 0).trans rfl⟩ (fun hHeld => ?_)
  clear hK K
  refine norm_ (a' := ?_) ?_ ?_
  rotate_left
  ·show Act.put _ (some 24) _ = _
   simp only [Act.put, xi, xj, xk, i64_w, i32_w]
   rfl
  refine px 12 15 8191 (any_of HT_.out (by kernel_rfl)) ?_
  refine one_ (i := 13) (N := none) #[Y,Y,Y,Y,Y,Y,Y,Y,Y,Y,Y,Y,Y,Y,Z] rfl rfl (one_of HT_.out (by kernel_rfl)) (by decide) (fun K hK => ?_)
  have hs23 : w21.cell? ⟨gb219, 0, none⟩ = some (.slice none 0 0) := (xc BK219.out 0).trans rfl
  have hfs23 := xf BK219.out 0
  have hns23_0 := NB217_219.out
  have hns23_1 := NB218_219.out
  have hms23_0 := NB219_217.out
  have hms23_1 := NB219_218.out
  refine skip_ (w1 := ?_) (by rfl) rfl ?_ ?_
  rotate_left
  ·go_simp
   rfl
  refine hK.out _ _ ⟨((cell_far (p := ⟨gb219, _, none⟩) NB217_219.out _).trans (hHeld.1)), ((cell_far (p := ⟨gb219, _, none⟩) NB218_219.out _).trans (hHeld.2))⟩ (fun hHeld => ?_)
  clear hK K
  refine px 14 15 32767 (any_of HT_.out (by kernel_rfl)) ?_
  refine done_ (done_of HT_.out (by kernel_rfl)) ?_
  try go_wp2
  refine bodyPost_ret (results_ct rfl _ _ gb219 26 #[.slice Ao22 t230.length co22] (0, 0) _ rfl (by (with_reducible repeat (first | refine xq ?_ _ | refine xr ?_ | refine xo ?_ _)); refine blk_put (cs := #[.slice none 0 0]) ?_ 0 _ rfl; (with_reducible repeat (first | refine xq ?_ _ | refine xr ?_ | refine xo ?_ _)); exact BK219.out) Try.underlying26 rfl (by kernel_rfl)) rfl ?_
  exact ⟨_, by first | rfl | (simp [errW_none, errW_some] <;> rfl) | (simp [*, errW_none, errW_some] <;> rfl), by (with_reducible repeat (first | apply Kd.R_alloc | apply Kd.R_drewN | apply Kd.R_drew)); exact Kd.R_mono (Kd.R_far (p := ⟨gb219, 0, none⟩) (Kd.R_types HO232.out BK219.out (by decide)) (fun _ hk => hk.2) (.slice Ao22 t230.length co22)) (fun _ hk => hk.1.1.1), by repeat (first | (with_reducible first | exact HB.out | apply xa | apply xn | apply xd | refine xt ?_ GE217.out | refine xt ?_ GE218.out | refine xt ?_ GE219.out) | exact HB.out)⟩
 ·replace c5 := Bool.eq_false_iff.mpr c5
  subst c5
  have H1 : (some (([] : List Int), false)) = some (r1, r2) := by first | (with_reducible rfl) | (rw [if_neg (show ¬ (false = true) by decide)] at H; exact H)
  clear H
  have H := H1
  clear H1
  simp only [Option.some.injEq, Prod.mk.injEq] at H
  obtain ⟨rfl, rfl⟩ := H
  go_enter Try.func119, Try.ntmps119
  go_wp2_with (first | ((with_reducible refine gate_dst (N := 3) rfl ?_); refine box_event ?hg (N := 3) ?hd (cs := #[.slice A0_0 l0_0.length c0_0]) (t := 26) ?hr ?_; (case hd => rfl); (case hg => rfl); (case hr => exact zB); intro gb217 hg w24 hbox hb; have n0_ := xm (Kd.V_below (Kd.V_elderB (by (with_reducible repeat (first | apply Kd.V_alloc | apply Kd.V_drewN | apply Kd.V_drew)); exact HO0_0.out) gb217 (Nat.le_of_eq hg.symm)) hb); have n1_ := xm (below_step bB hb); have n2_ := xm (hbox); have n3_ := xm ((by rw [hg]; exact (xz bB) : w.heap.size ≤ gb217)); have n4_ := xm ((by rw [hg]; exact (xz bB) : w.heap.size ≤ gb217)); clear HO0_0; clear HB; have HO0_0 := n0_; have HB := n1_; have BK217 := n2_; have GW217 := n3_; have GE217 := n4_; clear n0_ n1_ n2_ n3_ n4_; clear hb hbox hg) | ((with_reducible refine gate_dst (N := 4) rfl ?_); refine box_event ?hg (N := 4) ?hd (cs := #[.slice A1_0 l1_0.length c1_0]) (t := 26) ?hr ?_; (case hd => rfl); (case hg => rfl); (case hr => exact zB); intro gb218 hg w25 hbox hb; have n0_ := xm (Kd.V_below (Kd.V_elderB (by (with_reducible repeat (first | apply Kd.V_alloc | apply Kd.V_drewN | apply Kd.V_drew)); exact HO0_0.out) gb218 (Nat.le_of_eq hg.symm)) hb); have n1_ := xm (blk_below (kB BK217) hb); have n2_ := xm (below_step bG hb); have n3_ := xm (hbox); have n4_ := xm ((by rw [hg]; exact (xz bG) : w.heap.size ≤ gb218)); have n5_ := xm ((by rw [hg]; exact (xz bG) : w.heap.size ≤ gb218)); have n6_ := xm ((by rw [hg]; exact Nat.ne_of_lt (blk_lt (kB BK217)) : gb217 ≠ gb218)); have n7_ := xm ((by rw [hg]; exact Nat.ne_of_gt (blk_lt (kB BK217)) : gb218 ≠ gb217)); clear HO0_0; clear BK217; clear HB; have HO0_0 := n0_; have BK217 := n1_; have HB := n2_; have BK218 := n3_; have GW218 := n4_; have GE218 := n5_; have NB217_218 := n6_; have NB218_217 := n7_; clear n0_ n1_ n2_ n3_ n4_ n5_ n6_ n7_; clear hb hbox hg) | ((with_reducible refine gate_dst (N := 6) rfl ?_); refine box_event ?hg (N := 6) ?hd (cs := #[.slice none 0 0]) (t := 26) ?hr ?_; (case hd => rfl); (case hg => rfl); (case hr => exact zB); intro gb219 hg w26 hbox hb; have n0_ := xm (Kd.V_below (Kd.V_elderB (by (with_reducible repeat (first | apply Kd.V_alloc | apply Kd.V_drewN | apply Kd.V_drew)); exact HO0_0.out) gb219 (Nat.le_of_eq hg.symm)) hb); have n1_ := xm (blk_below (kB BK217) hb); have n2_ := xm (blk_below (kB BK218) hb); have n3_ := xm (below_step bG hb); have n4_ := xm (hbox); have n5_ := xm ((by rw [hg]; exact (xz bG) : w.heap.size ≤ gb219)); have n6_ := xm ((by rw [hg]; exact (xz bG) : w.heap.size ≤ gb219)); have n7_ := xm ((by rw [hg]; exact Nat.ne_of_lt (blk_lt (kB BK217)) : gb217 ≠ gb219)); have n8_ := xm ((by rw [hg]; exact Nat.ne_of_gt (blk_lt (kB BK217)) : gb219 ≠ gb217)); have n9_ := xm ((by rw [hg]; exact Nat.ne_of_lt (blk_lt (kB BK218)) : gb218 ≠ gb219)); have n10_ := xm ((by rw [hg]; exact Nat.ne_of_gt (blk_lt (kB BK218)) : gb219 ≠ gb218)); clear HO0_0; clear BK217; clear BK218; clear HB; have HO0_0 := n0_; have BK217 := n1_; have BK218 := n2_; have HB := n3_; have BK219 := n4_; have GW219 := n5_; have GE219 := n6_; have NB217_219 := n7_; have NB219_217 := n8_; have NB218_219 := n9_; have NB219_218 := n10_; clear n0_ n1_ n2_ n3_ n4_ n5_ n6_ n7_ n8_ n9_ n10_; clear hb hbox hg) | ((with_reducible refine gate_callee (f := 148) rfl ?_); refine goesL_ (some 10) rfl rfl Try.func148 (by kernel_rfl) rfl #[.slice A2 l2.length c2, .func (.func 150) #[] #[.pointer (some ⟨gb217, 0, none⟩), .pointer (some ⟨gb218, 0, none⟩)]] rfl mB ?_; (with_reducible refine (impl_areAll_Lint__impl_joined_1.calls _ _ l2 gb217 A0_0 c0_0 l0_0 gb218 A1_0 c1_0 l1_0 false _ ?side1 ?side2 ?side3 ?side4 ?side5 ?side6 ?side7 ?side8 A4.out).mono ?_); (case side1 => exact cB (Kd.C_below HR2.out HB.out)); (case side2 => exact HC2.out); (case side3 => repeat (first | exact (Kd.V_reads' HO0_0.out).2.2 | (with_reducible refine Kd.C_alloc ?_ _) | (with_reducible refine Kd.C_drewN ?_ _) | (with_reducible refine Kd.C_drew ?_))); (case side4 => exact (Kd.V_reads' HO0_0.out).2.1); (case side5 => exact cB (Kd.C_below HR1_0.out HB.out)); (case side6 => exact HC1_0.out); (case side7 => exact by (with_reducible repeat (first | refine xq ?_ _ | refine xr ?_ | refine xo ?_ _)); exact BK217.out); (case side8 => exact by (with_reducible repeat (first | refine xq ?_ _ | refine xr ?_ | refine xo ?_ _)); exact BK218.out); rintro e w27 ⟨rfl, hb⟩; refine ⟨_, rfl, ?_⟩; have n0_ := xm (Kd.V_below (by (with_reducible repeat (first | apply Kd.V_alloc | apply Kd.V_drewN | apply Kd.V_drew)); exact HO0_0.out) hb); have n1_ := xm (blk_below (kB BK217) hb); have n2_ := xm (blk_below (kB BK218) hb); have n3_ := xm (blk_below (kB BK219) hb); have n4_ := xm (below_step bG hb); clear HO0_0; clear BK217; clear BK218; clear BK219; clear HB; have HO0_0 := n0_; have BK217 := n1_; have BK218 := n2_; have BK219 := n3_; have HB := n4_; clear n0_ n1_ n2_ n3_ n4_; (try clear hb); (try clear hb2); (try clear hk); (try clear hi); have hnb28 := NB219_217.out; have hnc28 := NB217_219.out; have hnb29 := NB219_218.out; have hnc29 := NB218_219.out; obtain ⟨hcz30_0, hfz30_0⟩ := cz1 BK219.out))
  refine bodyPost_ret (results_ct rfl _ _ gb219 26 #[.slice none 0 0] (0, 0) _ rfl (by (with_reducible repeat (first | refine xq ?_ _ | refine xr ?_ | refine xo ?_ _)); refine blk_put (cs := #[.slice none 0 0]) ?_ 0 _ rfl; (with_reducible repeat (first | refine xq ?_ _ | refine xr ?_ | refine xo ?_ _)); exact BK219.out) Try.underlying26 rfl (by kernel_rfl)) rfl ?_
  exact ⟨_, by first | rfl | (simp [errW_none, errW_some] <;> rfl) | (simp [*, errW_none, errW_some] <;> rfl), by first | exact Kd.R_nil _ _ _ _ _ | exact Kd.N_nil _ _ _ _ _ | exact Kd.V_nil _ _ _ _ _ | exact Kd.Q_nil _ _ _ _ _ | exact Kd.S_nil _ _ _ _ _, by repeat (first | (with_reducible first | exact HB.out | apply xa | apply xn | apply xd | refine xt ?_ GE217.out | refine xt ?_ GE218.out | refine xt ?_ GE219.out) | exact HB.out)⟩

end Go.Proofs.Ytcbikaoackbbjaa.G
