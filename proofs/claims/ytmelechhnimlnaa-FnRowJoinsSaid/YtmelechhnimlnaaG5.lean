/- Written by a program of this claim's own, out of the translation: functions of the program as plain functions, and that the calls answer as these. No conditions. -/
import Derived.Test.YtmelechhnimlnaaG0
import Derived.Test.YtmelechhnimlnaaG3
import Derived.Test.YtmelechhnimlnaaG4
namespace Go.Proofs.Ytmelechhnimlnaa.G
open Go.RowKit Go.Proofs.Ytmelechhnimlnaa.X Go.Proofs.YtmelechhnimlnaaW.PrintWords Go.Proofs.YtmelechhnimlnaaW.PrintLast Go.Proofs.YtmelechhnimlnaaW.PrintMore
attribute [local go_sem] max2_int min2_int max_two min_two max_three min_three max_four min_four   -- for this text's walks alone
set_option linter.unusedVariables false
set_option linter.unusedSimpArgs false

/-! ### impl_joined: function 16 -/
def impl_joined.f (k : Nat) (l0_0 : List Int) (l1_0 : List Int) (l2 : List (List Int)) : Option (List Int × Bool) := (impl_areAll_Lint__impl_joined_1.f l2 l0_0 l1_0).bind fun t215 => (if t215 = true then ((impl_unpaired.f k (l1_0.length : Int) l2).bind fun t216 => ((impl_Row_picked.f k l1_0 t216).bind fun t219 => ((slices_Concat_Lint_int.f k (([l0_0, t219] : List (List Int)))).bind fun t225 => (some (t225, true))))) else (some (([] : List Int), false)))
theorem impl_joined.mono : ∀ a0 a1 a2 k, LeO (impl_joined.f k a0 a1 a2) (impl_joined.f (k + 1) a0 a1 a2) := by
 intro a0 a1 a2 k
 unfold impl_joined.f
 repeat' first
   | (with_reducible exact impl_Row_picked.mono _ _ _)
   | (with_reducible exact impl_unpaired.mono _ _ _)
   | (with_reducible exact slices_Concat_Lint_int.mono _ _)
   | (with_reducible exact LeO.refl _)
   | (with_reducible exact LeO.none _)
   | (with_reducible refine LeO.ite ?_ ?_)
   | (with_reducible refine LeO.bind ?_ (fun _ => ?_))
   | exact impl_Row_picked.mono _ _ _
   | exact impl_unpaired.mono _ _ _
   | exact slices_Concat_Lint_int.mono _ _
   | exact LeO.none _
   | refine LeO.ite ?_ ?_
   | refine LeO.bind ?_ (fun _ => ?_)
def impl_joined.T3 : Bool × List (List Nat × List Nat) := (true, [([], []), ([0], [0]), ([], []), ([], []), ([3], [3]), ([4], [4]), ([], []), ([5, 6], [5, 6]), ([2, 7, 7], [2, 7]), ([8], [8]), ([1, 9], [1, 9]), ([10, 8], [10]), ([11], [11]), ([12, 11, 0, 1, 2, 3, 4, 5, 6, 7, 8, 9, 10, 11, 12], [12]), ([13, 0, 1, 2, 3, 4, 5, 6, 7, 8, 9, 10, 11, 12, 13], [])])
def impl_joined.B3 : List Nat := [0, 1, 0, 0, 8, 24, 0, 120, 252, 508, 1023, 2047, 4095, 8191, 16383]
theorem impl_joined.tab3 : rtab .any (opsOf Try.f16 3) = impl_joined.T3 := by kernel_rfl
theorem impl_joined.bits3 : waitsOk impl_joined.T3.2 impl_joined.B3 = true := by kernel_rfl
set_option maxHeartbeats 8000000 in
set_option maxRecDepth 100000 in
theorem impl_joined.calls (k : Nat) (P0_0_ : Nat → Prop) (A0_0 : Option Addr) (c0_0 : Nat) (l0_0 : List Int) (A1_0 : Option Addr) (c1_0 : Nat) (l1_0 : List Int) (A2 : Option Addr) (c2 : Nat) (l2 : List (List Int)) (r1 : List Int) (r2 : Bool) (w : World) (hs0_0 : Kd.V (Kd.int .i64) 3 w w.heap.size (fun k_ => P0_0_ k_) (.slice A0_0 l0_0.length c0_0) l0_0) (hr1_0 : Kd.C (Kd.int .i64) w A1_0 l1_0.length l1_0) (hc1_0 : l1_0.length ≤ c1_0) (hr2 : Kd.C (Kd.slice 3 (Kd.int .i64)) w A2 l2.length l2) (hc2 : l2.length ≤ c2) (h : impl_joined.f k l0_0 l1_0 l2 = some (r1, r2)) :
  Calls Try.prog 16 #[.agg #[.slice A0_0 l0_0.length c0_0], .agg #[.slice A1_0 l1_0.length c1_0], .slice A2 l2.length c2] w fun e w' => ∃ v0_ : Value, e = .returned (.tuple #[.agg #[v0_], .bool r2]) ∧ Kd.R (Kd.int .i64) 3 w' w.heap.size (fun k_ => (w.heap.size ≤ k_)) v0_ r1 ∧ Below w.heap.size w w' := by
 have hu25 := Try.underlying25
 have HO0_0 := xm (show Kd.V (Kd.int .i64) 3 w w.heap.size (fun k_ => (P0_0_ k_ ∨ w.heap.size ≤ k_)) (.slice A0_0 l0_0.length c0_0) l0_0 from Kd.V_mono hs0_0 (fun k_ hk => .inl hk))
 have HR1_0 := xm hr1_0
 have HC1_0 := xm hc1_0
 clear hr1_0 hc1_0
 have HR2 := xm hr2
 have HC2 := xm hc2
 clear hr2 hc2
 have HB := xm (Below.refl w.heap.size w)
 have H : ((impl_areAll_Lint__impl_joined_1.f l2 l0_0 l1_0).bind fun t215 => (if t215 = true then ((impl_unpaired.f k (l1_0.length : Int) l2).bind fun t216 => ((impl_Row_picked.f k l1_0 t216).bind fun t219 => ((slices_Concat_Lint_int.f k (([l0_0, t219] : List (List Int)))).bind fun t225 => (some (t225, true))))) else (some (([] : List Int), false)))) = some (r1, r2) := h
 clear h
 replace H := Option.bind_eq_some_iff.mp H
 obtain ⟨t215, A40, H⟩ := H
 replace H : (if t215 = true then ((impl_unpaired.f k (l1_0.length : Int) l2).bind fun t216 => ((impl_Row_picked.f k l1_0 t216).bind fun t219 => ((slices_Concat_Lint_int.f k (([l0_0, t219] : List (List Int)))).bind fun t225 => (some (t225, true))))) else (some (([] : List Int), false))) = some (r1, r2) := H
 have A4 := xm A40
 clear A40
 by_cases c5 : t215 = true
 ·subst c5
  have H1 : ((impl_unpaired.f k (l1_0.length : Int) l2).bind fun t216 => ((impl_Row_picked.f k l1_0 t216).bind fun t219 => ((slices_Concat_Lint_int.f k (([l0_0, t219] : List (List Int)))).bind fun t225 => (some (t225, true))))) = some (r1, r2) := by first | (with_reducible rfl) | (rw [if_pos rfl] at H; exact H)
  clear H
  have H := H1
  clear H1
  replace H := Option.bind_eq_some_iff.mp H
  obtain ⟨t216, A60, H⟩ := H
  replace H : ((impl_Row_picked.f k l1_0 t216).bind fun t219 => ((slices_Concat_Lint_int.f k (([l0_0, t219] : List (List Int)))).bind fun t225 => (some (t225, true)))) = some (r1, r2) := H
  have A6 := xm A60
  clear A60
  replace H := Option.bind_eq_some_iff.mp H
  obtain ⟨t219, A70, H⟩ := H
  replace H : ((slices_Concat_Lint_int.f k (([l0_0, t219] : List (List Int)))).bind fun t225 => (some (t225, true))) = some (r1, r2) := H
  have A7 := xm A70
  clear A70
  obtain ⟨y222, hy222⟩ : ∃ y_ : List (List Int), y_ = (([l0_0, t219] : List (List Int))) := ⟨_, rfl⟩
  replace H : ((slices_Concat_Lint_int.f k y222).bind fun t225 => (some (t225, true))) = some (r1, r2) := by first | (rw [hy222]; with_reducible exact H) | (have H2_ := (Option.bind_some _ _).symm.trans H; rw [hy222]; with_reducible exact H2_) | (have H2_ := (Option.bind_some _ _).symm.trans H; with_reducible exact H2_) | with_reducible exact H | (rw [hy222]; exact H) | exact H
  have Ny222 := xm hy222
  clear hy222
  replace H := Option.bind_eq_some_iff.mp H
  obtain ⟨t225, A80, H⟩ := H
  replace H : (some (t225, true)) = some (r1, r2) := H
  have A8 := xm A80
  clear A80
  simp only [Option.some.injEq, Prod.mk.injEq] at H
  obtain ⟨rfl, rfl⟩ := H
  go_enter Try.func16, Try.ntmps16
  try go_wp2_with (first | ((with_reducible refine gate_dst (N := 3) rfl ?_); refine box_event ?hg (N := 3) ?hd (cs := #[.slice A0_0 l0_0.length c0_0]) (t := 25) ?hr ?_; (case hd => rfl); (case hg => rfl); (case hr => exact zB); intro gb212 hg w9 hbox hb; have n0_ := xm (Kd.V_below (Kd.V_elderB (by (with_reducible repeat (first | apply Kd.V_alloc | apply Kd.V_drewN | apply Kd.V_drew)); exact HO0_0.out) gb212 (Nat.le_of_eq hg.symm)) hb); have n1_ := xm (below_step bB hb); have n2_ := xm (hbox); have n3_ := xm ((by rw [hg]; exact (xz bB) : w.heap.size ≤ gb212)); have n4_ := xm ((by rw [hg]; exact (xz bB) : w.heap.size ≤ gb212)); revert n0_ n1_ n2_ n3_ n4_; clear HO0_0 HB; intro HO0_0 HB BK212 GW212 GE212; clear hb hbox hg) | ((with_reducible refine gate_dst (N := 4) rfl ?_); refine box_event ?hg (N := 4) ?hd (cs := #[.slice A1_0 l1_0.length c1_0]) (t := 25) ?hr ?_; (case hd => rfl); (case hg => rfl); (case hr => exact zB); intro gb213 hg w10 hbox hb; have n0_ := xm (Kd.V_below (Kd.V_elderB (by (with_reducible repeat (first | apply Kd.V_alloc | apply Kd.V_drewN | apply Kd.V_drew)); exact HO0_0.out) gb213 (Nat.le_of_eq hg.symm)) hb); have n1_ := xm (blk_below (kB BK212) hb); have n2_ := xm (below_step bG hb); have n3_ := xm (hbox); have n4_ := xm ((by rw [hg]; exact (xz bG) : w.heap.size ≤ gb213)); have n5_ := xm ((by rw [hg]; exact (xz bG) : w.heap.size ≤ gb213)); have n6_ := xm ((by rw [hg]; exact Nat.ne_of_lt (blk_lt (kB BK212)) : gb212 ≠ gb213)); have n7_ := xm ((by rw [hg]; exact Nat.ne_of_gt (blk_lt (kB BK212)) : gb213 ≠ gb212)); revert n0_ n1_ n2_ n3_ n4_ n5_ n6_ n7_; clear HO0_0 BK212 HB; intro HO0_0 BK212 HB BK213 GW213 GE213 NB212_213 NB213_212; clear hb hbox hg) | ((with_reducible refine gate_dst (N := 6) rfl ?_); refine box_event ?hg (N := 6) ?hd (cs := #[.slice none 0 0]) (t := 25) ?hr ?_; (case hd => rfl); (case hg => rfl); (case hr => exact zB); intro gb214 hg w11 hbox hb; have n0_ := xm (Kd.V_below (Kd.V_elderB (by (with_reducible repeat (first | apply Kd.V_alloc | apply Kd.V_drewN | apply Kd.V_drew)); exact HO0_0.out) gb214 (Nat.le_of_eq hg.symm)) hb); have n1_ := xm (blk_below (kB BK212) hb); have n2_ := xm (blk_below (kB BK213) hb); have n3_ := xm (below_step bG hb); have n4_ := xm (hbox); have n5_ := xm ((by rw [hg]; exact (xz bG) : w.heap.size ≤ gb214)); have n6_ := xm ((by rw [hg]; exact (xz bG) : w.heap.size ≤ gb214)); have n7_ := xm ((by rw [hg]; exact Nat.ne_of_lt (blk_lt (kB BK212)) : gb212 ≠ gb214)); have n8_ := xm ((by rw [hg]; exact Nat.ne_of_gt (blk_lt (kB BK212)) : gb214 ≠ gb212)); have n9_ := xm ((by rw [hg]; exact Nat.ne_of_lt (blk_lt (kB BK213)) : gb213 ≠ gb214)); have n10_ := xm ((by rw [hg]; exact Nat.ne_of_gt (blk_lt (kB BK213)) : gb214 ≠ gb213)); revert n0_ n1_ n2_ n3_ n4_ n5_ n6_ n7_ n8_ n9_ n10_; clear HO0_0 BK212 BK213 HB; intro HO0_0 BK212 BK213 HB BK214 GW214 GE214 NB212_214 NB214_212 NB213_214 NB214_213; clear hb hbox hg) | ((with_reducible refine gate_callee (f := 32) rfl ?_); refine goesL_ (some 10) rfl rfl Try.func32 (by kernel_rfl) rfl #[.slice A2 l2.length c2, .func (.func 35) #[] #[.pointer (some ⟨gb212, 0, none⟩), .pointer (some ⟨gb213, 0, none⟩)]] rfl mB ?_; (with_reducible refine (impl_areAll_Lint__impl_joined_1.calls _ _ l2 gb212 A0_0 c0_0 l0_0 gb213 A1_0 c1_0 l1_0 true _ ?side1 ?side2 ?side3 ?side4 ?side5 ?side6 ?side7 ?side8 A4.out).mono ?_); (case side1 => exact cB (Kd.C_below HR2.out HB.out)); (case side2 => exact HC2.out); (case side3 => repeat (first | exact (Kd.V_reads' HO0_0.out).2.2 | (with_reducible refine Kd.C_alloc ?_ _) | (with_reducible refine Kd.C_drewN ?_ _) | (with_reducible refine Kd.C_drew ?_))); (case side4 => exact (Kd.V_reads' HO0_0.out).2.1); (case side5 => exact cB (Kd.C_below HR1_0.out HB.out)); (case side6 => exact HC1_0.out); (case side7 => exact by (with_reducible repeat (first | refine xq ?_ _ | refine xr ?_ | refine xo ?_ _)); exact BK212.out); (case side8 => exact by (with_reducible repeat (first | refine xq ?_ _ | refine xr ?_ | refine xo ?_ _)); exact BK213.out); rintro e w12 ⟨rfl, hb⟩; refine ⟨_, rfl, ?_⟩; have n0_ := xm (Kd.V_below (by (with_reducible repeat (first | apply Kd.V_alloc | apply Kd.V_drewN | apply Kd.V_drew)); exact HO0_0.out) hb); have n1_ := xm (blk_below (kB BK212) hb); have n2_ := xm (blk_below (kB BK213) hb); have n3_ := xm (blk_below (kB BK214) hb); have n4_ := xm (below_step bG hb); revert n0_ n1_ n2_ n3_ n4_; clear HO0_0 BK212 BK213 BK214 HB; intro HO0_0 BK212 BK213 BK214 HB; (try clear hb)))
  have n0_ := xm (Kd.V_drew HO0_0.out)
  have n1_ := xm (xr BK212.out)
  have n2_ := xm (xr BK213.out)
  have n3_ := xm (xr BK214.out)
  have n4_ := xm (xd HB.out)
  revert n0_ n1_ n2_ n3_ n4_; clear HO0_0 BK212 BK213 BK214 HB; intro HO0_0 BK212 BK213 BK214 HB
  refine start_ (n := 15) (S := fun w' => w'.cell? ⟨gb212, 0, none⟩ = some (.slice A0_0 l0_0.length c0_0) ∧ w'.cell? ⟨gb213, 0, none⟩ = some (.slice A1_0 l1_0.length c1_0)) (ds := []) #[Z,Z,Z,Z,Z,Z,Z,Z,Z,Z,Z,Z,Z,Z,Z] (by kernel_rfl) rfl rfl ⟨(xc BK212.out 0).trans rfl, (xc BK213.out 0).trans rfl⟩ (fun hHeld => ?_); refine with_tabW impl_joined.tab3 impl_joined.bits3 (fun HT_ HW_ => ?_)
  generalize w12.drew = w13 at HO0_0 BK212 BK213 BK214 HB hHeld ⊢
  refine pu 0 15 1 ?_
  refine pu 3 15 9 ?_
  refine pu 6 15 73 ?_
  refine tx 1 15 75 rfl rfl (take_ofW HT_.out HW_.out (by kernel_rfl)) hHeld (by rintro w' ⟨s0, s1⟩; go_simp; with_reducible rfl) ?_
  refine tx 2 15 79 rfl rfl (take_ofW HT_.out HW_.out (by kernel_rfl)) hHeld (by rintro w' ⟨s0, s1⟩; go_simp; with_reducible rfl) ?_
  refine tx 4 15 95 rfl rfl (take_ofW HT_.out HW_.out (by kernel_rfl)) hHeld (by rintro w' ⟨s0, s1⟩; go_simp; with_reducible rfl) ?_
  refine pu 5 15 127 ?_
  refine one_ (i := 7) (N := some 20) #[Y,Y,Y,Y,Y,Y,Y,Y,Z,Z,Z,Z,Z,Z,Z] rfl rfl (one_of HT_.out (by kernel_rfl)) (by decide) (fun K hK => ?_)
  refine goes_ Try.func37 (by kernel_rfl) rfl #[.int .i64 (l1_0.length : Int), .slice A2 l2.length c2] (by rfl) rfl rfl mB ?_
  with_reducible refine (impl_unpaired.calls k (l1_0.length : Int) _ _ l2 t216 _ ?side1 ?side2 A6.out).mono ?_
  (case side1 => exact cB (Kd.C_below HR2.out HB.out))
  (case side2 => exact HC2.out)
  rintro e w14 ⟨v217, rfl, ho0, hb⟩
  refine ⟨_, rfl, ?_⟩
  have n0_ := xm (Kd.V_elder' (by (with_reducible repeat (first | apply Kd.V_alloc | apply Kd.V_drewN | apply Kd.V_drew)); exact HO0_0.out) (Kd.R_base ho0) hb)
  have n1_ := xm (Kd.R_lower (Kd.R_newM (M := fun k_ => (w.heap.size ≤ k_)) ho0 (xz bG) (fun k_ h_ => h_)) (xz bG))
  have n2_ := xm (blk_below (kB BK212) hb)
  have n3_ := xm (blk_below (kB BK213) hb)
  have n4_ := xm (blk_below (kB BK214) hb)
  have n5_ := xm (below_step bG hb)
  revert n0_ n1_ n2_ n3_ n4_ n5_; clear HO0_0 BK212 BK213 BK214 HB; intro HO0_0 HO218 BK212 BK213 BK214 HB
  (try clear hb)
  (try clear hb2)
  (try clear hk)
  (try clear hi)
  (try clear ho0)
  obtain ⟨Ao15, co15, eo15⟩ := Kd.R_slice HO218.out
  (first | subst eo15 | (injection eo15 with f1_ f2_ f3_; have f4_ := f1_.symm; have f5_ := f3_.symm; clear f1_ f2_ f3_; subst f4_; subst f5_))
  refine hK.out _ _ ⟨(xc BK212.out 0).trans rfl, (xc BK213.out 0).trans rfl⟩ (fun hHeld => nC ?_)
  clear hK K
  refine one_ (i := 8) (N := some 21) #[Y,Y,Y,Y,Y,Y,Y,Y,Y,Z,Z,Z,Z,Z,Z] rfl rfl (one_of HT_.out (by kernel_rfl)) (by decide) (fun K hK => ?_)
  refine goes_ Try.func22 (by kernel_rfl) rfl #[.agg #[.slice A1_0 l1_0.length c1_0], .slice Ao15 t216.length co15] (by rfl) rfl rfl mB ?_
  with_reducible refine (impl_Row_picked.calls k _ _ l1_0 _ _ t216 t219 _ ?side1 ?side2 ?side3 ?side4 A7.out).mono ?_
  (case side1 => exact cB (Kd.C_below HR1_0.out HB.out))
  (case side2 => exact HC1_0.out)
  (case side3 => repeat (first | exact (Kd.R_reads' HO218.out).2.2 | (with_reducible refine Kd.C_alloc ?_ _) | (with_reducible refine Kd.C_drewN ?_ _) | (with_reducible refine Kd.C_drew ?_)))
  (case side4 => exact (Kd.R_reads' HO218.out).2.1)
  rintro e w16 ⟨v220, rfl, ho0, hb⟩
  refine ⟨_, rfl, ?_⟩
  have n0_ := xm (Kd.V_elder' (by (with_reducible repeat (first | apply Kd.V_alloc | apply Kd.V_drewN | apply Kd.V_drew)); exact HO0_0.out) (Kd.R_base ho0) hb)
  have n1_ := xm (Kd.R_elder' (rB HO218) (Kd.R_base ho0) hb)
  have n2_ := xm (Kd.R_lower (Kd.R_new' (Kd.R_newM (M := fun k_ => (w.heap.size ≤ k_)) ho0 (xz bG) (fun k_ h_ => h_)) (Kd.R_lt (rB HO218))) (xz bG))
  have n3_ := xm (blk_below (kB BK212) hb)
  have n4_ := xm (blk_below (kB BK213) hb)
  have n5_ := xm (blk_below (kB BK214) hb)
  have n6_ := xm (below_step bG hb)
  revert n0_ n1_ n2_ n3_ n4_ n5_ n6_; clear HO0_0 HO218 BK212 BK213 BK214 HB; intro HO0_0 HO218 HO221 BK212 BK213 BK214 HB
  (try clear hb)
  (try clear hb2)
  (try clear hk)
  (try clear hi)
  (try clear ho0)
  obtain ⟨Ao17, co17, eo17⟩ := Kd.R_slice HO221.out
  (first | subst eo17 | (injection eo17 with f1_ f2_ f3_; have f4_ := f1_.symm; have f5_ := f3_.symm; clear f1_ f2_ f3_; subst f4_; subst f5_))
  refine hK.out _ _ ⟨(xc BK212.out 0).trans rfl, (xc BK213.out 0).trans rfl⟩ (fun hHeld => nC ?_)
  clear hK K
  refine px (v := .slice Ao17 t219.length co17) 9 15 1023 (any_of HT_.out (by kernel_rfl)) ?_ (hy := fun w' => by go_simp; simp only [Instr.field, underlying, hu25, Sem.run_bind, Sem.run_pure]; first | rfl | (simp [asAgg, part, hu25]; done) | (simp [asAgg, part, hu25]; rfl) | (simp [asAgg]; rfl))
  refine one_ (i := 10) (N := some 23) #[Y,Y,Y,Y,Y,Y,Y,Y,Y,Y,Y,Z,Z,Z,Z] rfl rfl (one_of HT_.out (by kernel_rfl)) (by decide) (fun K hK => ?_)
  refine Kd.N_lit_step (Kd.slice 3 (Kd.int .i64)) _ 23 ?hg (N' := 23) ?hd (xs := ([l0_0, t219] : List (List Int))) (inner := [.slice A0_0 l0_0.length c0_0, .slice Ao17 t219.length co17]) (ok := (fun k_ => (P0_0_ k_ ∨ w.heap.size ≤ k_) ∧ some k_ ≠ (.slice Ao15 t216.length co15 : Value).ownBlock ∧ k_ ≠ gb212 ∧ k_ ≠ gb213 ∧ k_ ≠ gb214)) (okp := (fun k_ => (P0_0_ k_ ∨ w.heap.size ≤ k_) ∧ some k_ ≠ (.slice Ao15 t216.length co15 : Value).ownBlock ∧ k_ ≠ gb212 ∧ k_ ≠ gb213 ∧ k_ ≠ gb214)) ?hr ?hp (fun _ hk => hk) ((show ∀ k_, w16.heap.size ≤ k_ → (fun k_ => (P0_0_ k_ ∨ w.heap.size ≤ k_) ∧ some k_ ≠ (.slice Ao15 t216.length co15 : Value).ownBlock ∧ k_ ≠ gb212 ∧ k_ ≠ gb213 ∧ k_ ≠ gb214) k_ from fun k_ hk => ⟨(.inr (Nat.le_trans (xz bG) hk)), Kd.fresh' (Kd.R_lt (rB HO218)) k_ hk, Kd.freshB (kB BK212) k_ hk, Kd.freshB (kB BK213) k_ hk, Kd.freshB (kB BK214) k_ hk⟩) _ (Nat.le_refl _)) (Below.refl _ _) (Nat.le_refl _) (by simp) ?_; (case hd => rfl); (case hg => rfl); (case hr => exact zB); (case hp => exact (Reps.one (show Kd.FK (Kd.slice 3 (Kd.int .i64)) _ _ l0_0 [.slice A0_0 l0_0.length c0_0] from (Kd.FK_slice_mk (Kd.V_reads' (Kd.V_mono (ok' := (fun k_ => (P0_0_ k_ ∨ w.heap.size ≤ k_) ∧ some k_ ≠ (.slice Ao15 t216.length co15 : Value).ownBlock ∧ k_ ≠ gb212 ∧ k_ ≠ gb213 ∧ k_ ≠ gb214)) (HO0_0.out) (fun k_ hk => ⟨hk.1.1.1.1.1, ⟨hk.1.2, ⟨hk.1.1.1.1.2, ⟨hk.1.1.1.2, hk.1.1.2⟩⟩⟩⟩))).2.1 (Kd.V_F (Kd.V_mono (ok' := (fun k_ => (P0_0_ k_ ∨ w.heap.size ≤ k_) ∧ some k_ ≠ (.slice Ao15 t216.length co15 : Value).ownBlock ∧ k_ ≠ gb212 ∧ k_ ≠ gb213 ∧ k_ ≠ gb214)) (HO0_0.out) (fun k_ hk => ⟨hk.1.1.1.1.1, ⟨hk.1.2, ⟨hk.1.1.1.1.2, ⟨hk.1.1.1.2, hk.1.1.2⟩⟩⟩⟩))))) (Reps.one (show Kd.FK (Kd.slice 3 (Kd.int .i64)) _ _ t219 [.slice Ao17 t219.length co17] from (Kd.FK_slice_mk (Kd.R_reads' (Kd.R_mono (ok' := (fun k_ => (P0_0_ k_ ∨ w.heap.size ≤ k_) ∧ some k_ ≠ (.slice Ao15 t216.length co15 : Value).ownBlock ∧ k_ ≠ gb212 ∧ k_ ≠ gb213 ∧ k_ ≠ gb214)) (Kd.R_types (Kd.R_types (Kd.R_types (HO221.out) BK212.out (by decide)) BK213.out (by decide)) BK214.out (by decide)) (fun k_ hk => ⟨(.inr (hk.1.1.1.1.1)), ⟨hk.1.1.1.2, ⟨hk.1.1.2, ⟨hk.1.2, hk.2⟩⟩⟩⟩))).2.1 (Kd.R_F (Kd.R_mono (ok' := (fun k_ => (P0_0_ k_ ∨ w.heap.size ≤ k_) ∧ some k_ ≠ (.slice Ao15 t216.length co15 : Value).ownBlock ∧ k_ ≠ gb212 ∧ k_ ≠ gb213 ∧ k_ ≠ gb214)) (Kd.R_types (Kd.R_types (Kd.R_types (HO221.out) BK212.out (by decide)) BK213.out (by decide)) BK214.out (by decide)) (fun k_ hk => ⟨(.inr (hk.1.1.1.1.1)), ⟨hk.1.1.1.2, ⟨hk.1.1.2, ⟨hk.1.2, hk.2⟩⟩⟩⟩))))) (Reps.none _ _))))
  intro v223 w18 ho19 hb hg_ hnew_
  clear hg_ hnew_
  (first | rw [← Ny222.out] at ho19 | (simp only [Int.reduceToNat] at ho19; rw [← Ny222.out] at ho19))
  have n0_ := xm (Kd.V_elder' (by (with_reducible repeat (first | apply Kd.V_alloc | apply Kd.V_drewN | apply Kd.V_drew)); exact HO0_0.out) (Kd.N_base ho19) hb)
  have n1_ := xm (Kd.R_below (rB HO218) hb)
  have n2_ := xm (Kd.N_lower ho19 (xz bG))
  have n3_ := xm (blk_below (kB BK212) hb)
  have n4_ := xm (blk_below (kB BK213) hb)
  have n5_ := xm (blk_below (kB BK214) hb)
  have n6_ := xm (below_step bG hb)
  revert n0_ n1_ n2_ n3_ n4_ n5_ n6_; clear HO0_0 HO218 BK212 BK213 BK214 HB HO221; intro HO0_0 HO218 HO224 BK212 BK213 BK214 HB
  clear hb ho19
  obtain ⟨Ao20, co20, eo20⟩ := Kd.N_slice HO224.out
  (first | subst eo20 | (injection eo20 with f1_ f2_ f3_; have f4_ := f1_.symm; have f5_ := f3_.symm; clear f1_ f2_ f3_; subst f4_; subst f5_))
  refine hK.out _ _ ⟨(xc BK212.out 0).trans rfl, (xc BK213.out 0).trans rfl⟩ (fun hHeld => nC ?_)
  clear hK K
  refine one_ (i := 11) (N := some 24) #[Y,Y,Y,Y,Y,Y,Y,Y,Y,Y,Y,Y,Z,Z,Z] rfl rfl (one_of HT_.out (by kernel_rfl)) (by decide) (fun K hK => ?_)
  refine goes_ Try.func36 (by kernel_rfl) rfl #[.slice Ao20 y222.length co20] (by rfl) rfl rfl mB ?_
  with_reducible refine (slices_Concat_Lint_int.calls k _ _ y222 t225 _ ?side1 ?side2 A8.out).mono ?_
  (case side1 => repeat (first | exact (Kd.N_reads' HO224.out).2.2 | (with_reducible refine Kd.C_alloc ?_ _) | (with_reducible refine Kd.C_drewN ?_ _) | (with_reducible refine Kd.C_drew ?_)))
  (case side2 => exact (Kd.N_reads' HO224.out).2.1)
  rintro e w21 ⟨v226, rfl, ho0, hb⟩
  refine ⟨_, rfl, ?_⟩
  have n0_ := xm (Kd.V_elder' (by (with_reducible repeat (first | apply Kd.V_alloc | apply Kd.V_drewN | apply Kd.V_drew)); exact HO0_0.out) (Kd.R_base ho0) hb)
  have n1_ := xm (Kd.R_elder' (rB HO218) (Kd.R_base ho0) hb)
  have n2_ := xm (Kd.N_elder' (by (with_reducible repeat (first | apply Kd.N_alloc | apply Kd.N_drewN | apply Kd.N_drew)); exact HO224.out) (Kd.R_base ho0) hb)
  have n3_ := xm (Kd.R_lower (Kd.R_new' (Kd.R_newM (M := fun k_ => (w.heap.size ≤ k_)) ho0 (xz bG) (fun k_ h_ => h_)) (Kd.R_lt (rB HO218))) (xz bG))
  have n4_ := xm (blk_below (kB BK212) hb)
  have n5_ := xm (blk_below (kB BK213) hb)
  have n6_ := xm (blk_below (kB BK214) hb)
  have n7_ := xm (below_step bG hb)
  revert n0_ n1_ n2_ n3_ n4_ n5_ n6_ n7_; clear HO0_0 HO218 HO224 BK212 BK213 BK214 HB; intro HO0_0 HO218 HO224 HO227 BK212 BK213 BK214 HB
  (try clear hb)
  (try clear hb2)
  (try clear hk)
  (try clear hi)
  (try clear ho0)
  obtain ⟨Ao22, co22, eo22⟩ := Kd.R_slice HO227.out
  (first | subst eo22 | (injection eo22 with f1_ f2_ f3_; have f4_ := f1_.symm; have f5_ := f3_.symm; clear f1_ f2_ f3_; subst f4_; subst f5_))
  refine hK.out _ _ ⟨(xc BK212.out 0).trans rfl, (xc BK213.out 0).trans rfl⟩ (fun hHeld => nC ?_)
  clear hK K
  refine pu 12 15 8191 ?_
  refine one_ (i := 13) (N := none) #[Y,Y,Y,Y,Y,Y,Y,Y,Y,Y,Y,Y,Y,Y,Z] rfl rfl (one_of HT_.out (by kernel_rfl)) (by decide) (fun K hK => ?_)
  have hs23 : w21.cell? ⟨gb214, 0, none⟩ = some (.slice none 0 0) := (xc BK214.out 0).trans rfl
  have hfs23 := xf BK214.out 0
  have hns23_0 := NB212_214.out
  have hns23_1 := NB213_214.out
  have hms23_0 := NB214_212.out
  have hms23_1 := NB214_213.out
  refine skip_ (w1 := ?_) (by rfl) rfl ?_ ?_
  rotate_left
  ·go_simp
   rfl
  refine hK.out _ _ ⟨((cell_far (p := ⟨gb214, _, none⟩) NB212_214.out _).trans (hHeld.1)), ((cell_far (p := ⟨gb214, _, none⟩) NB213_214.out _).trans (hHeld.2))⟩ (fun hHeld => ?_)
  clear hK K
  refine pu 14 15 32767 ?_
  refine done_ (done_of HT_.out (by kernel_rfl)) ?_
  try go_wp2
  refine bodyPost_ret (results_ct rfl _ _ gb214 25 #[.slice Ao22 t225.length co22] (0, 0) _ rfl (by (with_reducible repeat (first | refine xq ?_ _ | refine xr ?_ | refine xo ?_ _)); refine blk_put (cs := #[.slice none 0 0]) ?_ 0 _ rfl; (with_reducible repeat (first | refine xq ?_ _ | refine xr ?_ | refine xo ?_ _)); exact BK214.out) Try.underlying25 rfl (by kernel_rfl)) rfl ?_
  exact ⟨_, eB, by (with_reducible repeat (first | apply Kd.R_alloc | apply Kd.R_drewN | apply Kd.R_drew)); exact Kd.R_mono (Kd.R_far (p := ⟨gb214, 0, none⟩) (Kd.R_types HO227.out BK214.out (by decide)) (fun _ hk => hk.2) (.slice Ao22 t225.length co22)) (fun _ hk => hk.1.1.1), bG⟩
 ·replace c5 := Bool.eq_false_iff.mpr c5
  subst c5
  have H1 : (some (([] : List Int), false)) = some (r1, r2) := by first | (with_reducible rfl) | (rw [if_neg (show ¬ (false = true) by decide)] at H; exact H)
  clear H
  have H := H1
  clear H1
  simp only [Option.some.injEq, Prod.mk.injEq] at H
  obtain ⟨rfl, rfl⟩ := H
  go_enter Try.func16, Try.ntmps16
  go_wp2_with (first | ((with_reducible refine gate_dst (N := 3) rfl ?_); refine box_event ?hg (N := 3) ?hd (cs := #[.slice A0_0 l0_0.length c0_0]) (t := 25) ?hr ?_; (case hd => rfl); (case hg => rfl); (case hr => exact zB); intro gb212 hg w24 hbox hb; have n0_ := xm (Kd.V_below (Kd.V_elderB (by (with_reducible repeat (first | apply Kd.V_alloc | apply Kd.V_drewN | apply Kd.V_drew)); exact HO0_0.out) gb212 (Nat.le_of_eq hg.symm)) hb); have n1_ := xm (below_step bB hb); have n2_ := xm (hbox); have n3_ := xm ((by rw [hg]; exact (xz bB) : w.heap.size ≤ gb212)); have n4_ := xm ((by rw [hg]; exact (xz bB) : w.heap.size ≤ gb212)); revert n0_ n1_ n2_ n3_ n4_; clear HO0_0 HB; intro HO0_0 HB BK212 GW212 GE212; clear hb hbox hg) | ((with_reducible refine gate_dst (N := 4) rfl ?_); refine box_event ?hg (N := 4) ?hd (cs := #[.slice A1_0 l1_0.length c1_0]) (t := 25) ?hr ?_; (case hd => rfl); (case hg => rfl); (case hr => exact zB); intro gb213 hg w25 hbox hb; have n0_ := xm (Kd.V_below (Kd.V_elderB (by (with_reducible repeat (first | apply Kd.V_alloc | apply Kd.V_drewN | apply Kd.V_drew)); exact HO0_0.out) gb213 (Nat.le_of_eq hg.symm)) hb); have n1_ := xm (blk_below (kB BK212) hb); have n2_ := xm (below_step bG hb); have n3_ := xm (hbox); have n4_ := xm ((by rw [hg]; exact (xz bG) : w.heap.size ≤ gb213)); have n5_ := xm ((by rw [hg]; exact (xz bG) : w.heap.size ≤ gb213)); have n6_ := xm ((by rw [hg]; exact Nat.ne_of_lt (blk_lt (kB BK212)) : gb212 ≠ gb213)); have n7_ := xm ((by rw [hg]; exact Nat.ne_of_gt (blk_lt (kB BK212)) : gb213 ≠ gb212)); revert n0_ n1_ n2_ n3_ n4_ n5_ n6_ n7_; clear HO0_0 BK212 HB; intro HO0_0 BK212 HB BK213 GW213 GE213 NB212_213 NB213_212; clear hb hbox hg) | ((with_reducible refine gate_dst (N := 6) rfl ?_); refine box_event ?hg (N := 6) ?hd (cs := #[.slice none 0 0]) (t := 25) ?hr ?_; (case hd => rfl); (case hg => rfl); (case hr => exact zB); intro gb214 hg w26 hbox hb; have n0_ := xm (Kd.V_below (Kd.V_elderB (by (with_reducible repeat (first | apply Kd.V_alloc | apply Kd.V_drewN | apply Kd.V_drew)); exact HO0_0.out) gb214 (Nat.le_of_eq hg.symm)) hb); have n1_ := xm (blk_below (kB BK212) hb); have n2_ := xm (blk_below (kB BK213) hb); have n3_ := xm (below_step bG hb); have n4_ := xm (hbox); have n5_ := xm ((by rw [hg]; exact (xz bG) : w.heap.size ≤ gb214)); have n6_ := xm ((by rw [hg]; exact (xz bG) : w.heap.size ≤ gb214)); have n7_ := xm ((by rw [hg]; exact Nat.ne_of_lt (blk_lt (kB BK212)) : gb212 ≠ gb214)); have n8_ := xm ((by rw [hg]; exact Nat.ne_of_gt (blk_lt (kB BK212)) : gb214 ≠ gb212)); have n9_ := xm ((by rw [hg]; exact Nat.ne_of_lt (blk_lt (kB BK213)) : gb213 ≠ gb214)); have n10_ := xm ((by rw [hg]; exact Nat.ne_of_gt (blk_lt (kB BK213)) : gb214 ≠ gb213)); revert n0_ n1_ n2_ n3_ n4_ n5_ n6_ n7_ n8_ n9_ n10_; clear HO0_0 BK212 BK213 HB; intro HO0_0 BK212 BK213 HB BK214 GW214 GE214 NB212_214 NB214_212 NB213_214 NB214_213; clear hb hbox hg) | ((with_reducible refine gate_callee (f := 32) rfl ?_); refine goesL_ (some 10) rfl rfl Try.func32 (by kernel_rfl) rfl #[.slice A2 l2.length c2, .func (.func 35) #[] #[.pointer (some ⟨gb212, 0, none⟩), .pointer (some ⟨gb213, 0, none⟩)]] rfl mB ?_; (with_reducible refine (impl_areAll_Lint__impl_joined_1.calls _ _ l2 gb212 A0_0 c0_0 l0_0 gb213 A1_0 c1_0 l1_0 false _ ?side1 ?side2 ?side3 ?side4 ?side5 ?side6 ?side7 ?side8 A4.out).mono ?_); (case side1 => exact cB (Kd.C_below HR2.out HB.out)); (case side2 => exact HC2.out); (case side3 => repeat (first | exact (Kd.V_reads' HO0_0.out).2.2 | (with_reducible refine Kd.C_alloc ?_ _) | (with_reducible refine Kd.C_drewN ?_ _) | (with_reducible refine Kd.C_drew ?_))); (case side4 => exact (Kd.V_reads' HO0_0.out).2.1); (case side5 => exact cB (Kd.C_below HR1_0.out HB.out)); (case side6 => exact HC1_0.out); (case side7 => exact by (with_reducible repeat (first | refine xq ?_ _ | refine xr ?_ | refine xo ?_ _)); exact BK212.out); (case side8 => exact by (with_reducible repeat (first | refine xq ?_ _ | refine xr ?_ | refine xo ?_ _)); exact BK213.out); rintro e w27 ⟨rfl, hb⟩; refine ⟨_, rfl, ?_⟩; have n0_ := xm (Kd.V_below (by (with_reducible repeat (first | apply Kd.V_alloc | apply Kd.V_drewN | apply Kd.V_drew)); exact HO0_0.out) hb); have n1_ := xm (blk_below (kB BK212) hb); have n2_ := xm (blk_below (kB BK213) hb); have n3_ := xm (blk_below (kB BK214) hb); have n4_ := xm (below_step bG hb); revert n0_ n1_ n2_ n3_ n4_; clear HO0_0 BK212 BK213 BK214 HB; intro HO0_0 BK212 BK213 BK214 HB; (try clear hb); have hnb28 := NB214_212.out; have hnc28 := NB212_214.out; have hnb29 := NB214_213.out; have hnc29 := NB213_214.out; obtain ⟨hcz30_0, hfz30_0⟩ := cz1 BK214.out))
  refine bodyPost_ret (results_ct rfl _ _ gb214 25 #[.slice none 0 0] (0, 0) _ rfl (by (with_reducible repeat (first | refine xq ?_ _ | refine xr ?_ | refine xo ?_ _)); refine blk_put (cs := #[.slice none 0 0]) ?_ 0 _ rfl; (with_reducible repeat (first | refine xq ?_ _ | refine xr ?_ | refine xo ?_ _)); exact BK214.out) Try.underlying25 rfl (by kernel_rfl)) rfl ?_
  exact ⟨_, eB, by first | exact Kd.R_nil _ _ _ _ _ | exact Kd.N_nil _ _ _ _ _ | exact Kd.V_nil _ _ _ _ _ | exact Kd.Q_nil _ _ _ _ _ | exact Kd.S_nil _ _ _ _ _, bG⟩

end Go.Proofs.Ytmelechhnimlnaa.G
