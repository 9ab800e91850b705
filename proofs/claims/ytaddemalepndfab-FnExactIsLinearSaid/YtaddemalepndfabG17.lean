/- Written by a program of this claim's own, out of the translation: functions of the program as plain functions, and that the calls answer as these. No conditions. -/
import Derived.Test.YtaddemalepndfabG0
import Derived.Test.YtaddemalepndfabG1
import Derived.Test.YtaddemalepndfabG6
import Derived.Test.YtaddemalepndfabG7
import Derived.Test.YtaddemalepndfabG13
import Derived.Test.YtaddemalepndfabG16
namespace Go.Proofs.Ytaddemalepndfab.G
open Go.RowKit Go.Proofs.Ytaddemalepndfab.X Go.Proofs.YtaddemalepndfabW.PrintWords Go.Proofs.YtaddemalepndfabW.PrintLast Go.Proofs.YtaddemalepndfabW.PrintMore
attribute [local go_sem] max2_int min2_int max_two min_two max_three min_three max_four min_four   -- for this text's walks alone
set_option linter.unusedVariables false
set_option linter.unusedSimpArgs false

/-! ### laws_FnExactIsLinear: function 3 -/
def laws_FnExactIsLinear.f (k : Nat) (l0_0 : List Int) (l0_1 : List (S52)) : Option (Bool) := (laws_szView.f k l0_0 l0_1 1048576).bind fun t307 => (if t307 < 0 then (some true) else ((laws_toView.f k l0_0 l0_1).bind fun bt308 => ((spec_IsLinear.f k bt308.1 bt308.2).bind fun bt314 => ((laws_toView.f k l0_0 l0_1).bind fun bt316 => ((impl_IsLinear.f k bt316.1 bt316.2).bind fun bt323 => (if (bt323.1 != bt314.1) = true then (some false) else (if (bt323.2 != bt314.2) = true then (some false) else ((laws_toView.f k l0_0 l0_1).bind fun bt325 => ((laws_eqView.f k bt316.1 bt316.2 bt325.1 bt325.2).bind fun t331 => (if t331 = true then (some true) else (some false)))))))))))
theorem laws_FnExactIsLinear.mono : ∀ a0 a1 k, LeO (laws_FnExactIsLinear.f k a0 a1) (laws_FnExactIsLinear.f (k + 1) a0 a1) := by
 intro a0 a1 k
 unfold laws_FnExactIsLinear.f
 repeat' first
   | (with_reducible exact impl_IsLinear.mono _ _ _)
   | (with_reducible exact laws_eqView.mono _ _ _ _ _)
   | (with_reducible exact laws_szView.mono _ _ _ _)
   | (with_reducible exact laws_toView.mono _ _ _)
   | (with_reducible exact spec_IsLinear.mono _ _ _)
   | (with_reducible exact LeO.refl _)
   | (with_reducible exact LeO.none _)
   | (with_reducible refine LeO.ite ?_ ?_)
   | (with_reducible refine LeO.bind ?_ (fun _ => ?_))
   | exact impl_IsLinear.mono _ _ _
   | exact laws_eqView.mono _ _ _ _ _
   | exact laws_szView.mono _ _ _ _
   | exact laws_toView.mono _ _ _
   | exact spec_IsLinear.mono _ _ _
   | exact LeO.none _
   | refine LeO.ite ?_ ?_
   | refine LeO.bind ?_ (fun _ => ?_)
set_option maxHeartbeats 8000000 in
set_option maxRecDepth 100000 in
theorem laws_FnExactIsLinear.calls (k : Nat) (A0_0 : Option Addr) (c0_0 : Nat) (l0_0 : List Int) (A0_1 : Option Addr) (c0_1 : Nat) (l0_1 : List (S52)) (w : World) (hr0_0 : Kd.C (Kd.int .i64) w A0_0 l0_0.length l0_0) (hc0_0 : l0_0.length ≤ c0_0) (hr0_1 : Kd.C k52 w A0_1 l0_1.length l0_1) (hc0_1 : l0_1.length ≤ c0_1) (h : laws_FnExactIsLinear.f k l0_0 l0_1 = some true) :
  Calls Try.prog 3 #[.agg #[.slice A0_0 l0_0.length c0_0, .slice A0_1 l0_1.length c0_1]] w fun e w' => e = .returned (.bool true) ∧ Below w.heap.size w w' := by
 have hu25 := Try.underlying25
 have hu31 := Try.underlying31
 have HR0_0 := xm hr0_0
 have HC0_0 := xm hc0_0
 clear hr0_0 hc0_0
 have HR0_1 := xm hr0_1
 have HC0_1 := xm hc0_1
 clear hr0_1 hc0_1
 have HB := xm (Below.refl w.heap.size w)
 have H : ((laws_szView.f k l0_0 l0_1 1048576).bind fun t307 => (if t307 < 0 then (some true) else ((laws_toView.f k l0_0 l0_1).bind fun bt308 => ((spec_IsLinear.f k bt308.1 bt308.2).bind fun bt314 => ((laws_toView.f k l0_0 l0_1).bind fun bt316 => ((impl_IsLinear.f k bt316.1 bt316.2).bind fun bt323 => (if (bt323.1 != bt314.1) = true then (some false) else (if (bt323.2 != bt314.2) = true then (some false) else ((laws_toView.f k l0_0 l0_1).bind fun bt325 => ((laws_eqView.f k bt316.1 bt316.2 bt325.1 bt325.2).bind fun t331 => (if t331 = true then (some true) else (some false)))))))))))) = some true := h
 clear h
 replace H := Option.bind_eq_some_iff.mp H
 obtain ⟨t307, A20, H⟩ := H
 (try dsimp only at H)
 have A2 := xm A20
 clear A20
 by_cases c3 : t307 < 0
 ·rw [if_pos c3] at H
  have c3b0 : decide (t307 < 0) = true := decide_eq_true c3
  clear c3
  clear H
  go_enter Try.func3, Try.ntmps3
  go_wp2_with (first | ((with_reducible refine gate_dst (N := 1) rfl ?_); refine box_event ?hg (N := 1) ?hd (cs := #[.slice A0_0 l0_0.length c0_0, .slice A0_1 l0_1.length c0_1]) (t := 25) ?hr ?_; (case hd => rfl); (case hg => rfl); (case hr => exact zB); intro gb306 hg w4 hbox hb; have n0_ := xm (below_step bB hb); have n1_ := xm (hbox); have n2_ := xm ((by rw [hg]; exact (xz bB) : w.heap.size ≤ gb306)); have n3_ := xm ((by rw [hg]; exact (xz bB) : w.heap.size ≤ gb306)); revert n0_ n1_ n2_ n3_; clear HB; intro HB BK306 GW306 GE306; clear hb hbox hg; obtain ⟨hcz5_0, hcz5_1, hfz5_0, hfz5_1⟩ := cz2 BK306.out) | ((with_reducible refine gate_callee (f := 4) rfl ?_); refine goesL_ (some 11) rfl rfl Try.func4 (by kernel_rfl) rfl #[.agg #[.slice A0_0 l0_0.length c0_0, .slice A0_1 l0_1.length c0_1], .int .i64 1048576] rfl mB ?_; (with_reducible refine (laws_szView.calls k _ _ l0_0 _ _ l0_1 1048576 t307 _ ?side1 ?side2 ?side3 ?side4 A2.out).mono ?_); (case side1 => exact cB (Kd.C_below HR0_0.out HB.out)); (case side2 => exact HC0_0.out); (case side3 => exact cB (Kd.C_below HR0_1.out HB.out)); (case side4 => exact HC0_1.out); rintro e w6 ⟨rfl, hb⟩; refine ⟨_, rfl, ?_⟩; have n0_ := xm (blk_below (kB BK306) hb); have n1_ := xm (below_step bG hb); revert n0_ n1_; clear BK306 HB; intro BK306 HB; (try clear hb); (try clear hb2); (try clear hk); (try clear hi)))
  go_ret
  exact ⟨by first | rfl | (simp [errW_none, errW_some] <;> rfl) | (simp [*, errW_none, errW_some] <;> rfl), by repeat (first | (with_reducible first | exact HB.out | apply xa | apply xn | apply xd | refine xt ?_ GE306.out) | exact HB.out)⟩
 ·rw [if_neg c3] at H
  have c3b0 : decide (t307 < 0) = false := decide_eq_false c3
  clear c3
  replace H := Option.bind_eq_some_iff.mp H
  obtain ⟨⟨t308, t311⟩, A70, H⟩ := H
  (try dsimp only at H)
  have A7 := xm A70
  clear A70
  replace H := Option.bind_eq_some_iff.mp H
  obtain ⟨⟨t314, t315⟩, A80, H⟩ := H
  (try dsimp only at H)
  have A8 := xm A80
  clear A80
  replace H := Option.bind_eq_some_iff.mp H
  obtain ⟨⟨t316, t319⟩, A90, H⟩ := H
  (try dsimp only at H)
  have A9 := xm A90
  clear A90
  replace H := Option.bind_eq_some_iff.mp H
  obtain ⟨⟨t323, t324⟩, A100, H⟩ := H
  (try dsimp only at H)
  have A10 := xm A100
  clear A100
  by_cases c11 : (t323 != t314) = true
  ·rw [if_pos c11] at H
   have c11b0 : (t323 != t314) = true := c11
   (try (have c11b1 : decide (t323 = t314) = false := by simpa using c11))
   (try (have c11b2 : (t323 == t314) = false := by simpa using c11))
   (try (have c11b3 : ¬ (t323 = t314) := by simpa using c11))
   clear c11
   exact absurd H (by simp)
  ·rw [if_neg c11] at H
   have c11b0 : (t323 != t314) = false := by simpa using c11
   (try (have c11b1 : decide (t323 = t314) = true := by simpa using c11))
   (try (have c11b2 : (t323 == t314) = true := by simpa using c11))
   clear c11
   by_cases c12 : (t324 != t315) = true
   ·rw [if_pos c12] at H
    have c12b0 : (t324 != t315) = true := c12
    (try (have c12b1 : decide (t324 = t315) = false := by simpa using c12))
    (try (have c12b2 : (t324 == t315) = false := by simpa using c12))
    (try (have c12b3 : ¬ (t324 = t315) := by simpa using c12))
    clear c12
    exact absurd H (by simp)
   ·rw [if_neg c12] at H
    have c12b0 : (t324 != t315) = false := by simpa using c12
    (try (have c12b1 : decide (t324 = t315) = true := by simpa using c12))
    (try (have c12b2 : (t324 == t315) = true := by simpa using c12))
    clear c12
    replace H := Option.bind_eq_some_iff.mp H
    obtain ⟨⟨t325, t328⟩, A130, H⟩ := H
    (try dsimp only at H)
    have A13 := xm A130
    clear A130
    replace H := Option.bind_eq_some_iff.mp H
    obtain ⟨t331, A140, H⟩ := H
    (try dsimp only at H)
    have A14 := xm A140
    clear A140
    by_cases c15 : t331 = true
    ·subst c15
     have H1 : (some true) = some true := by first | (with_reducible rfl) | (rw [if_pos rfl] at H; exact H)
     clear H
     have H := H1
     clear H1
     clear H
     go_enter Try.func3, Try.ntmps3
     try go_wp2_with (first | ((with_reducible refine gate_dst (N := 1) rfl ?_); refine box_event ?hg (N := 1) ?hd (cs := #[.slice A0_0 l0_0.length c0_0, .slice A0_1 l0_1.length c0_1]) (t := 25) ?hr ?_; (case hd => rfl); (case hg => rfl); (case hr => exact zB); intro gb306 hg w16 hbox hb; have n0_ := xm (below_step bB hb); have n1_ := xm (hbox); have n2_ := xm ((by rw [hg]; exact (xz bB) : w.heap.size ≤ gb306)); have n3_ := xm ((by rw [hg]; exact (xz bB) : w.heap.size ≤ gb306)); revert n0_ n1_ n2_ n3_; clear HB; intro HB BK306 GW306 GE306; clear hb hbox hg; obtain ⟨hcz17_0, hcz17_1, hfz17_0, hfz17_1⟩ := cz2 BK306.out) | ((with_reducible refine gate_callee (f := 4) rfl ?_); refine goesL_ (some 11) rfl rfl Try.func4 (by kernel_rfl) rfl #[.agg #[.slice A0_0 l0_0.length c0_0, .slice A0_1 l0_1.length c0_1], .int .i64 1048576] rfl mB ?_; (with_reducible refine (laws_szView.calls k _ _ l0_0 _ _ l0_1 1048576 t307 _ ?side1 ?side2 ?side3 ?side4 A2.out).mono ?_); (case side1 => exact cB (Kd.C_below HR0_0.out HB.out)); (case side2 => exact HC0_0.out); (case side3 => exact cB (Kd.C_below HR0_1.out HB.out)); (case side4 => exact HC0_1.out); rintro e w18 ⟨rfl, hb⟩; refine ⟨_, rfl, ?_⟩; have n0_ := xm (blk_below (kB BK306) hb); have n1_ := xm (below_step bG hb); revert n0_ n1_; clear BK306 HB; intro BK306 HB; (try clear hb); (try clear hb2); (try clear hk); (try clear hi); obtain ⟨hcz19_0, hcz19_1, hfz19_0, hfz19_1⟩ := cz2 BK306.out) | ((with_reducible refine gate_callee (f := 6) rfl ?_); refine goesL_ (some 16) rfl rfl Try.func6 (by kernel_rfl) rfl #[.agg #[.slice A0_0 l0_0.length c0_0, .slice A0_1 l0_1.length c0_1]] rfl mB ?_; (with_reducible refine (laws_toView.calls k _ _ l0_0 _ _ l0_1 t308 t311 _ ?side1 ?side2 ?side3 ?side4 A7.out).mono ?_); (case side1 => exact cB (Kd.C_below HR0_0.out HB.out)); (case side2 => exact HC0_0.out); (case side3 => exact cB (Kd.C_below HR0_1.out HB.out)); (case side4 => exact HC0_1.out); rintro e w20 ⟨v309, v312, rfl, ho0, ho1, hb⟩; refine ⟨_, rfl, ?_⟩; have n0_ := xm (Kd.R_lower ho0 (xz bG)); have n1_ := xm (Kd.R_lower ho1 (xz bG)); have n2_ := xm (blk_below (kB BK306) hb); have n3_ := xm (below_step bG hb); revert n0_ n1_ n2_ n3_; clear BK306 HB; intro HO310 HO313 BK306 HB; (try clear hb); (try clear hb2); (try clear hk); (try clear hi); (try clear ho0); (try clear ho1); obtain ⟨Ao21, co21, eo21⟩ := Kd.R_slice HO310.out; subst eo21; obtain ⟨Ao22, co22, eo22⟩ := Kd.R_slice HO313.out; subst eo22) | ((with_reducible refine gate_callee (f := 5) rfl ?_); refine goesL_ (some 17) rfl rfl Try.func5 (by kernel_rfl) rfl #[.agg #[.slice Ao21 t308.length co21, .slice Ao22 t311.length co22]] rfl mB ?_; (with_reducible refine (spec_IsLinear.calls k _ _ t308 _ _ t311 t314 t315 _ ?side1 ?side2 ?side3 ?side4 A8.out).mono ?_); (case side1 => repeat (first | exact (Kd.R_reads' HO310.out).2.2 | (with_reducible refine Kd.C_alloc ?_ _) | (with_reducible refine Kd.C_drewN ?_ _) | (with_reducible refine Kd.C_drew ?_))); (case side2 => exact (Kd.R_reads' HO310.out).2.1); (case side3 => repeat (first | exact (Kd.R_reads' HO313.out).2.2 | (with_reducible refine Kd.C_alloc ?_ _) | (with_reducible refine Kd.C_drewN ?_ _) | (with_reducible refine Kd.C_drew ?_))); (case side4 => exact (Kd.R_reads' HO313.out).2.1); rintro e w23 ⟨rfl, hb⟩; refine ⟨_, rfl, ?_⟩; have n0_ := xm (Kd.R_below (rB HO310) hb); have n1_ := xm (Kd.R_below (rB HO313) hb); have n2_ := xm (blk_below (kB BK306) hb); have n3_ := xm (below_step bG hb); revert n0_ n1_ n2_ n3_; clear HO310 HO313 BK306 HB; intro HO310 HO313 BK306 HB; (try clear hb); (try clear hb2); (try clear hk); (try clear hi); obtain ⟨hcz24_0, hcz24_1, hfz24_0, hfz24_1⟩ := cz2 BK306.out) | ((with_reducible refine gate_callee (f := 6) rfl ?_); refine goesL_ (some 21) rfl rfl Try.func6 (by kernel_rfl) rfl #[.agg #[.slice A0_0 l0_0.length c0_0, .slice A0_1 l0_1.length c0_1]] rfl mB ?_; (with_reducible refine (laws_toView.calls k _ _ l0_0 _ _ l0_1 t316 t319 _ ?side1 ?side2 ?side3 ?side4 A9.out).mono ?_); (case side1 => exact cB (Kd.C_below HR0_0.out HB.out)); (case side2 => exact HC0_0.out); (case side3 => exact cB (Kd.C_below HR0_1.out HB.out)); (case side4 => exact HC0_1.out); rintro e w25 ⟨v317, v320, rfl, ho0, ho1, hb⟩; refine ⟨_, rfl, ?_⟩; have n0_ := xm (Kd.R_elder' (rB HO310) (Kd.R_base ho0) hb); have n1_ := xm (Kd.R_mono (Kd.R_told (Kd.R_told (Kd.R_old (rB HO313) hb) (Kd.R_base ho0)) (Kd.R_base ho1)) (fun _ h_ => h_.1)); have n2_ := xm (Kd.R_lower (Kd.R_new' ho0 (Kd.R_lt (rB HO310))) (xz bG)); have n3_ := xm (Kd.R_lower (Kd.R_new' (Kd.R_new' ho1 (Kd.R_lt (rB HO310))) (Kd.R_lt (rB HO313))) (xz bG)); have n4_ := xm (blk_below (kB BK306) hb); have n5_ := xm (below_step bG hb); revert n0_ n1_ n2_ n3_ n4_ n5_; clear HO310 HO313 BK306 HB; intro HO310 HO313 HO318 HO321 BK306 HB; (try clear hb); (try clear hb2); (try clear hk); (try clear hi); (try clear ho0); (try clear ho1)) | ((with_reducible refine gate_dst (N := 6) rfl ?_); refine box_event ?hg (N := 6) ?hd (cs := #[.slice none 0 0, .slice none 0 0]) (t := 31) ?hr ?_; (case hd => rfl); (case hg => rfl); (case hr => exact zB); intro gb322 hg w26 hbox hb; have n0_ := xm (Kd.R_below (rB HO310) hb); have n1_ := xm (Kd.R_below (rB HO313) hb); have n2_ := xm (Kd.R_below (rB HO318) hb); have n3_ := xm (Kd.R_below (rB HO321) hb); have n4_ := xm (blk_below (kB BK306) hb); have n5_ := xm (below_step bG hb); have n6_ := xm (hbox); have n7_ := xm ((by rw [hg]; exact (xz bG) : w.heap.size ≤ gb322)); have n8_ := xm ((by rw [hg]; exact (xz bG) : w.heap.size ≤ gb322)); have n9_ := xm ((by rw [hg]; exact Nat.ne_of_lt (blk_lt (kB BK306)) : gb306 ≠ gb322)); have n10_ := xm ((by rw [hg]; exact Nat.ne_of_gt (blk_lt (kB BK306)) : gb322 ≠ gb306)); revert n0_ n1_ n2_ n3_ n4_ n5_ n6_ n7_ n8_ n9_ n10_; clear HO310 HO313 HO318 HO321 BK306 HB; intro HO310 HO313 HO318 HO321 BK306 HB BK322 GW322 GE322 NB306_322 NB322_306; clear hb hbox hg; obtain ⟨Ao27, co27, eo27⟩ := Kd.R_slice HO318.out; subst eo27; have hnb28 := NB322_306.out; have hnc28 := NB306_322.out; obtain ⟨hcz29_0, hcz29_1, hfz29_0, hfz29_1⟩ := cz2 BK322.out; obtain ⟨Ao30, co30, eo30⟩ := Kd.R_slice HO321.out; subst eo30) | ((with_reducible refine gate_callee (f := 7) rfl ?_); refine goesL_ (some 24) rfl rfl Try.func7 (by kernel_rfl) rfl #[.agg #[.slice Ao27 t316.length co27, .slice Ao30 t319.length co30]] rfl mB ?_; (with_reducible refine (impl_IsLinear.calls k _ _ t316 _ _ t319 t323 t324 _ ?side1 ?side2 ?side3 ?side4 A10.out).mono ?_); (case side1 => refine (Kd.R_reads' (e := 3) (base := w.heap.size) (ok := fun k_ => (True ∧ some k_ ≠ (.slice Ao21 t308.length co21 : Value).ownBlock)) (n := t316.length) (c := co27) ?_).2.2; exact (by (with_reducible repeat (first | apply Kd.R_alloc | apply Kd.R_drewN | apply Kd.R_drew)); exact (Kd.R_mono (Kd.R_far (p := ⟨gb322, 1, none⟩) (Kd.R_far (p := ⟨gb322, 0, none⟩) (Kd.R_types HO318.out BK322.out (by decide)) (fun _ hk => hk.2) (.slice Ao27 t316.length co27)) (fun _ hk => hk.2) (.slice Ao30 t319.length co30)) (fun _ h_ => h_.1)))); (case side2 => exact (Kd.R_reads' HO318.out).2.1); (case side3 => refine (Kd.R_reads' (e := 42) (base := w.heap.size) (ok := fun k_ => ((some k_ ≠ (.slice Ao27 t316.length co27 : Value).ownBlock ∧ some k_ ≠ (.slice Ao21 t308.length co21 : Value).ownBlock) ∧ some k_ ≠ (.slice Ao22 t311.length co22 : Value).ownBlock)) (n := t319.length) (c := co30) ?_).2.2; exact (by (with_reducible repeat (first | apply Kd.R_alloc | apply Kd.R_drewN | apply Kd.R_drew)); exact (Kd.R_mono (Kd.R_far (p := ⟨gb322, 1, none⟩) (Kd.R_far (p := ⟨gb322, 0, none⟩) (Kd.R_types HO321.out BK322.out (by decide)) (fun _ hk => hk.2) (.slice Ao27 t316.length co27)) (fun _ hk => hk.2) (.slice Ao30 t319.length co30)) (fun _ h_ => h_.1)))); (case side4 => exact (Kd.R_reads' HO321.out).2.1); rintro e w31 ⟨rfl, hb⟩; refine ⟨_, rfl, ?_⟩; have n0_ := xm (Kd.R_below (by (with_reducible repeat (first | apply Kd.R_alloc | apply Kd.R_drewN | apply Kd.R_drew)); exact (Kd.R_mono (Kd.R_far (p := ⟨gb322, 1, none⟩) (Kd.R_far (p := ⟨gb322, 0, none⟩) (Kd.R_types HO310.out BK322.out (by decide)) (fun _ hk => hk.2) (.slice Ao27 t316.length co27)) (fun _ hk => hk.2) (.slice Ao30 t319.length co30)) (fun _ h_ => h_.1))) hb); have n1_ := xm (Kd.R_below (by (with_reducible repeat (first | apply Kd.R_alloc | apply Kd.R_drewN | apply Kd.R_drew)); exact (Kd.R_mono (Kd.R_far (p := ⟨gb322, 1, none⟩) (Kd.R_far (p := ⟨gb322, 0, none⟩) (Kd.R_types HO313.out BK322.out (by decide)) (fun _ hk => hk.2) (.slice Ao27 t316.length co27)) (fun _ hk => hk.2) (.slice Ao30 t319.length co30)) (fun _ h_ => h_.1))) hb); have n2_ := xm (Kd.R_below (by (with_reducible repeat (first | apply Kd.R_alloc | apply Kd.R_drewN | apply Kd.R_drew)); exact (Kd.R_mono (Kd.R_far (p := ⟨gb322, 1, none⟩) (Kd.R_far (p := ⟨gb322, 0, none⟩) (Kd.R_types HO318.out BK322.out (by decide)) (fun _ hk => hk.2) (.slice Ao27 t316.length co27)) (fun _ hk => hk.2) (.slice Ao30 t319.length co30)) (fun _ h_ => h_.1))) hb); have n3_ := xm (Kd.R_below (by (with_reducible repeat (first | apply Kd.R_alloc | apply Kd.R_drewN | apply Kd.R_drew)); exact (Kd.R_mono (Kd.R_far (p := ⟨gb322, 1, none⟩) (Kd.R_far (p := ⟨gb322, 0, none⟩) (Kd.R_types HO321.out BK322.out (by decide)) (fun _ hk => hk.2) (.slice Ao27 t316.length co27)) (fun _ hk => hk.2) (.slice Ao30 t319.length co30)) (fun _ h_ => h_.1))) hb); have n4_ := xm (blk_below (g := gb306) (o := .cells #[.slice A0_0 l0_0.length c0_0, .slice A0_1 l0_1.length c0_1] 25 (0, 0)) (by (with_reducible repeat (first | refine xq ?_ _ | refine xr ?_ | refine xo ?_ _)); refine blk_far ?_ NB306_322.out _; (with_reducible repeat (first | refine xq ?_ _ | refine xr ?_ | refine xo ?_ _)); refine blk_far ?_ NB306_322.out _; (with_reducible repeat (first | refine xq ?_ _ | refine xr ?_ | refine xo ?_ _)); exact BK306.out) hb); have n5_ := xm (blk_below (g := gb322) (o := .cells #[.slice Ao27 t316.length co27, .slice Ao30 t319.length co30] 31 (0, 0)) (by (with_reducible repeat (first | refine xq ?_ _ | refine xr ?_ | refine xo ?_ _)); refine blk_put (cs := #[.slice Ao27 t316.length co27, .slice none 0 0]) ?_ 1 _ rfl; (with_reducible repeat (first | refine xq ?_ _ | refine xr ?_ | refine xo ?_ _)); refine blk_put (cs := #[.slice none 0 0, .slice none 0 0]) ?_ 0 _ rfl; (with_reducible repeat (first | refine xq ?_ _ | refine xr ?_ | refine xo ?_ _)); exact BK322.out) hb); have n6_ := xm (below_step bG hb); revert n0_ n1_ n2_ n3_ n4_ n5_ n6_; clear HO310 HO313 HO318 HO321 BK306 BK322 HB; intro HO310 HO313 HO318 HO321 BK306 BK322 HB; (try clear hb); (try clear hb2); (try clear hk); (try clear hi)))
     have n0_ := xm (Kd.R_drew HO310.out)
     have n1_ := xm (Kd.R_drew HO313.out)
     have n2_ := xm (Kd.R_drew HO318.out)
     have n3_ := xm (Kd.R_drew HO321.out)
     have n4_ := xm (xr BK306.out)
     have n5_ := xm (xr BK322.out)
     have n6_ := xm (xd HB.out)
     revert n0_ n1_ n2_ n3_ n4_ n5_ n6_; clear HO310 HO313 HO318 HO321 BK306 BK322 HB; intro HO310 HO313 HO318 HO321 BK306 BK322 HB
     refine start_ (n := 5) (S := fun w' => w'.cell? ⟨gb322, 0, none⟩ = some (.slice Ao27 t316.length co27) ∧ w'.cell? ⟨gb322, 1, none⟩ = some (.slice Ao30 t319.length co30) ∧ w'.cell? ⟨gb306, 0, none⟩ = some (.slice A0_0 l0_0.length c0_0) ∧ w'.cell? ⟨gb306, 1, none⟩ = some (.slice A0_1 l0_1.length c0_1)) (ds := []) #[false, false, false, false, false] (by kernel_rfl) rfl rfl ⟨(xc BK322.out 0).trans rfl, (xc BK322.out 1).trans rfl, (xc BK306.out 0).trans rfl, (xc BK306.out 1).trans rfl⟩ (fun hHeld => ?_)
     generalize w31.drew = w32 at HO310 HO313 HO318 HO321 BK306 BK322 HB hHeld ⊢
     refine tx 0 5 1 rfl rfl (by kernel_rfl) hHeld (by rintro w' ⟨s0, s1, s2, s3⟩; go_simp; with_reducible rfl) ?_
     refine tx 1 5 3 rfl rfl (by kernel_rfl) hHeld (by rintro w' ⟨s0, s1, s2, s3⟩; go_simp; with_reducible rfl) ?_
     refine one_ (i := 2) (N := some 37) #[true, true, true, false, false] rfl rfl (by kernel_rfl) (by decide) (fun K hK => ?_)
     refine goes_ Try.func6 (by kernel_rfl) rfl #[.agg #[.slice A0_0 l0_0.length c0_0, .slice A0_1 l0_1.length c0_1]] (by rfl) rfl rfl mB ?_
     with_reducible refine (laws_toView.calls k _ _ l0_0 _ _ l0_1 t325 t328 _ ?side1 ?side2 ?side3 ?side4 A13.out).mono ?_
     (case side1 => exact cB (Kd.C_below HR0_0.out HB.out))
     (case side2 => exact HC0_0.out)
     (case side3 => exact cB (Kd.C_below HR0_1.out HB.out))
     (case side4 => exact HC0_1.out)
     rintro e w33 ⟨v326, v329, rfl, ho0, ho1, hb⟩
     refine ⟨_, rfl, ?_⟩
     have n0_ := xm (Kd.R_elder' (rB HO310) (Kd.R_base ho0) hb)
     have n1_ := xm (Kd.R_mono (Kd.R_told (Kd.R_told (Kd.R_old (rB HO313) hb) (Kd.R_base ho0)) (Kd.R_base ho1)) (fun _ h_ => h_.1))
     have n2_ := xm (Kd.R_elder' (rB HO318) (Kd.R_base ho0) hb)
     have n3_ := xm (Kd.R_mono (Kd.R_told (Kd.R_told (Kd.R_old (rB HO321) hb) (Kd.R_base ho0)) (Kd.R_base ho1)) (fun _ h_ => h_.1))
     have n4_ := xm (Kd.R_lower (Kd.R_new' (Kd.R_new' ho0 (Kd.R_lt (rB HO310))) (Kd.R_lt (rB HO318))) (xz bG))
     have n5_ := xm (Kd.R_lower (Kd.R_new' (Kd.R_new' (Kd.R_new' (Kd.R_new' ho1 (Kd.R_lt (rB HO310))) (Kd.R_lt (rB HO313))) (Kd.R_lt (rB HO318))) (Kd.R_lt (rB HO321))) (xz bG))
     have n6_ := xm (blk_below (kB BK306) hb)
     have n7_ := xm (blk_below (kB BK322) hb)
     have n8_ := xm (below_step bG hb)
     revert n0_ n1_ n2_ n3_ n4_ n5_ n6_ n7_ n8_; clear HO310 HO313 HO318 HO321 BK306 BK322 HB; intro HO310 HO313 HO318 HO321 HO327 HO330 BK306 BK322 HB
     (try clear hb)
     (try clear hb2)
     (try clear hk)
     (try clear hi)
     (try clear ho0)
     (try clear ho1)
     obtain ⟨Ao34, co34, eo34⟩ := Kd.R_slice HO327.out
     (first | subst eo34 | (injection eo34 with f1_ f2_ f3_; have f4_ := f1_.symm; have f5_ := f3_.symm; clear f1_ f2_ f3_; subst f4_; subst f5_))
     obtain ⟨Ao35, co35, eo35⟩ := Kd.R_slice HO330.out
     (first | subst eo35 | (injection eo35 with f1_ f2_ f3_; have f4_ := f1_.symm; have f5_ := f3_.symm; clear f1_ f2_ f3_; subst f4_; subst f5_))
     refine hK.out _ _ ⟨(xc BK322.out 0).trans rfl, (xc BK322.out 1).trans rfl, (xc BK306.out 0).trans rfl, (xc BK306.out 1).trans rfl⟩ (fun hHeld => nC ?_)
     clear hK K
     refine one_ (i := 3) (N := some 38) #[true, true, true, true, false] rfl rfl (by kernel_rfl) (by decide) (fun K hK => ?_)
     refine goes_ Try.func8 (by kernel_rfl) rfl #[.agg #[.slice Ao27 t316.length co27, .slice Ao30 t319.length co30], .agg #[.slice Ao34 t325.length co34, .slice Ao35 t328.length co35]] (by rfl) rfl rfl mB ?_
     with_reducible refine (laws_eqView.calls k _ _ t316 _ _ t319 _ _ t325 _ _ t328 true _ ?side1 ?side2 ?side3 ?side4 ?side5 ?side6 ?side7 ?side8 A14.out).mono ?_
     (case side1 => repeat (first | exact (Kd.R_reads' HO318.out).2.2 | (with_reducible refine Kd.C_alloc ?_ _) | (with_reducible refine Kd.C_drewN ?_ _) | (with_reducible refine Kd.C_drew ?_)))
     (case side2 => exact (Kd.R_reads' HO318.out).2.1)
     (case side3 => repeat (first | exact (Kd.R_reads' HO321.out).2.2 | (with_reducible refine Kd.C_alloc ?_ _) | (with_reducible refine Kd.C_drewN ?_ _) | (with_reducible refine Kd.C_drew ?_)))
     (case side4 => exact (Kd.R_reads' HO321.out).2.1)
     (case side5 => repeat (first | exact (Kd.R_reads' HO327.out).2.2 | (with_reducible refine Kd.C_alloc ?_ _) | (with_reducible refine Kd.C_drewN ?_ _) | (with_reducible refine Kd.C_drew ?_)))
     (case side6 => exact (Kd.R_reads' HO327.out).2.1)
     (case side7 => repeat (first | exact (Kd.R_reads' HO330.out).2.2 | (with_reducible refine Kd.C_alloc ?_ _) | (with_reducible refine Kd.C_drewN ?_ _) | (with_reducible refine Kd.C_drew ?_)))
     (case side8 => exact (Kd.R_reads' HO330.out).2.1)
     rintro e w36 ⟨rfl, hb⟩
     refine ⟨_, rfl, ?_⟩
     have n0_ := xm (Kd.R_below (rB HO310) hb)
     have n1_ := xm (Kd.R_below (rB HO313) hb)
     have n2_ := xm (Kd.R_below (rB HO318) hb)
     have n3_ := xm (Kd.R_below (rB HO321) hb)
     have n4_ := xm (Kd.R_below (rB HO327) hb)
     have n5_ := xm (Kd.R_below (rB HO330) hb)
     have n6_ := xm (blk_below (kB BK306) hb)
     have n7_ := xm (blk_below (kB BK322) hb)
     have n8_ := xm (below_step bG hb)
     revert n0_ n1_ n2_ n3_ n4_ n5_ n6_ n7_ n8_; clear HO310 HO313 HO318 HO321 HO327 HO330 BK306 BK322 HB; intro HO310 HO313 HO318 HO321 HO327 HO330 BK306 BK322 HB
     (try clear hb)
     (try clear hb2)
     (try clear hk)
     (try clear hi)
     refine hK.out _ _ ⟨(xc BK322.out 0).trans rfl, (xc BK322.out 1).trans rfl, (xc BK306.out 0).trans rfl, (xc BK306.out 1).trans rfl⟩ (fun hHeld => nC ?_)
     clear hK K
     refine px 4 5 31 (by kernel_rfl) ?_
     refine done_ (by kernel_rfl) ?_
     try go_wp2
     go_ret
     exact ⟨by first | rfl | (simp [errW_none, errW_some] <;> rfl) | (simp [*, errW_none, errW_some] <;> rfl), by repeat (first | (with_reducible first | exact HB.out | apply xa | apply xn | apply xd | refine xt ?_ GE306.out | refine xt ?_ GE322.out) | exact HB.out)⟩
    ·replace c15 := Bool.eq_false_iff.mpr c15
     subst c15
     have H1 : (some false) = some true := by first | (with_reducible rfl) | (rw [if_neg (show ¬ (false = true) by decide)] at H; exact H)
     clear H
     have H := H1
     clear H1
     exact absurd H (by simp)

/-- THE ONE PURE STATEMENT of laws_FnExactIsLinear. -/
def laws_FnExactIsLinear.Pure : Prop := ∀ x0 : S25, wf25 x0 → ∃ k, laws_FnExactIsLinear.f k x0.f0 x0.f1 = some true

end Go.Proofs.Ytaddemalepndfab.G
