/- Written by a program of this claim's own, out of the translation: functions of the program as plain functions, and that the calls answer as these. No conditions. -/
import Derived.Test.YtpbpglbldgpckaaG0
import Derived.Test.YtpbpglbldgpckaaG23
import Derived.Test.YtpbpglbldgpckaaG24
import Derived.Test.YtpbpglbldgpckaaG31
import Derived.Test.YtpbpglbldgpckaaG33
import Derived.Test.YtpbpglbldgpckaaG38
namespace Go.Proofs.Ytpbpglbldgpckaa.G
open Go.RowKit Go.Proofs.Ytpbpglbldgpckaa.X Go.Proofs.YtpbpglbldgpckaaW.PrintWords Go.Proofs.YtpbpglbldgpckaaW.PrintLast Go.Proofs.YtpbpglbldgpckaaW.PrintMore
attribute [local go_sem] max2_int min2_int max_two min_two max_three min_three max_four min_four   -- for this text's walks alone
set_option linter.unusedVariables false
set_option linter.unusedSimpArgs false

/-! ### laws_FnExactSlideOver: function 6 -/
def laws_FnExactSlideOver.f (k : Nat) (l0 : List (S45)) (a1 : Int) : Option (Bool) := (laws_szMapS.f l0 1048576).bind fun t448 => (if t448 < 0 then (some true) else ((laws_toMapS.f k l0).bind fun t449 => ((spec_SlideOver.f k t449 a1).bind fun bt452 => ((laws_toMapS.f k l0).bind fun t456 => ((impl_SlideOver.f k t456 a1).bind fun bt459 => ((laws_eqMapS.f k bt459.1 bt452.1).bind fun t463 => (if t463 = true then (if (bt459.2 != bt452.2) = true then (some false) else ((laws_toMapS.f k l0).bind fun t464 => ((laws_eqMapS.f k t456 t464).bind fun t467 => (if t467 = true then ((laws_markMapS.f k t456 1).bind fun bt468 => (if bt468.1 < 0 then (some false) else ((laws_eqMapS.f k bt459.1 bt452.1).bind fun t470 => (if t470 = true then ((laws_markMapS.f k bt459.1 1).bind fun bt471 => ((laws_heldMapS.f k bt471.2 1).bind fun t473 => (if t473 < 0 then (some false) else (if t473 = bt471.1 then ((laws_toMapS.f k l0).bind fun t474 => ((impl_SlideOver.f k t474 a1).bind fun bt477 => ((laws_eqMapS.f k bt477.1 bt452.1).bind fun t481 => (if t481 = true then (if (bt477.2 != bt452.2) = true then (some false) else ((laws_heldMapS.f k bt471.2 1).bind fun t482 => (if t482 < 0 then (some false) else (if t482 = bt471.1 then (some true) else (some false))))) else (some false))))) else (some false))))) else (some false))))) else (some false))))) else (some false))))))))
theorem laws_FnExactSlideOver.mono : ∀ a0 a1 k, LeO (laws_FnExactSlideOver.f k a0 a1) (laws_FnExactSlideOver.f (k + 1) a0 a1) := by
 intro a0 a1 k
 unfold laws_FnExactSlideOver.f
 repeat' first
   | (with_reducible exact impl_SlideOver.mono _ _ _)
   | (with_reducible exact laws_eqMapS.mono _ _ _)
   | (with_reducible exact laws_heldMapS.mono _ _ _)
   | (with_reducible exact laws_markMapS.mono _ _ _)
   | (with_reducible exact laws_toMapS.mono _ _)
   | (with_reducible exact spec_SlideOver.mono _ _ _)
   | (with_reducible exact LeO.refl _)
   | (with_reducible exact LeO.none _)
   | (with_reducible refine LeO.ite ?_ ?_)
   | (with_reducible refine LeO.bind ?_ (fun _ => ?_))
   | exact impl_SlideOver.mono _ _ _
   | exact laws_eqMapS.mono _ _ _
   | exact laws_heldMapS.mono _ _ _
   | exact laws_markMapS.mono _ _ _
   | exact laws_toMapS.mono _ _
   | exact spec_SlideOver.mono _ _ _
   | exact LeO.none _
   | refine LeO.ite ?_ ?_
   | refine LeO.bind ?_ (fun _ => ?_)
set_option maxHeartbeats 8000000 in
set_option maxRecDepth 100000 in
theorem laws_FnExactSlideOver.calls (k : Nat) (A0 : Option Addr) (c0 : Nat) (l0 : List (S45)) (a1 : Int) (w : World) (hr0 : Kd.C k45 w A0 l0.length l0) (hc0 : l0.length ≤ c0) (h : laws_FnExactSlideOver.f k l0 a1 = some true) :
  Calls Try.prog 6 #[.slice A0 l0.length c0, .int .i64 a1] w fun e w' => e = .returned (.bool true) ∧ Below w.heap.size w w' := by
 have HR0 := xm hr0
 have HC0 := xm hc0
 clear hr0 hc0
 have HB := xm (Below.refl w.heap.size w)
 have H : ((laws_szMapS.f l0 1048576).bind fun t448 => (if t448 < 0 then (some true) else ((laws_toMapS.f k l0).bind fun t449 => ((spec_SlideOver.f k t449 a1).bind fun bt452 => ((laws_toMapS.f k l0).bind fun t456 => ((impl_SlideOver.f k t456 a1).bind fun bt459 => ((laws_eqMapS.f k bt459.1 bt452.1).bind fun t463 => (if t463 = true then (if (bt459.2 != bt452.2) = true then (some false) else ((laws_toMapS.f k l0).bind fun t464 => ((laws_eqMapS.f k t456 t464).bind fun t467 => (if t467 = true then ((laws_markMapS.f k t456 1).bind fun bt468 => (if bt468.1 < 0 then (some false) else ((laws_eqMapS.f k bt459.1 bt452.1).bind fun t470 => (if t470 = true then ((laws_markMapS.f k bt459.1 1).bind fun bt471 => ((laws_heldMapS.f k bt471.2 1).bind fun t473 => (if t473 < 0 then (some false) else (if t473 = bt471.1 then ((laws_toMapS.f k l0).bind fun t474 => ((impl_SlideOver.f k t474 a1).bind fun bt477 => ((laws_eqMapS.f k bt477.1 bt452.1).bind fun t481 => (if t481 = true then (if (bt477.2 != bt452.2) = true then (some false) else ((laws_heldMapS.f k bt471.2 1).bind fun t482 => (if t482 < 0 then (some false) else (if t482 = bt471.1 then (some true) else (some false))))) else (some false))))) else (some false))))) else (some false))))) else (some false))))) else (some false))))))))) = some true := h
 clear h
 replace H := Option.bind_eq_some_iff.mp H
 obtain ⟨t448, A30, H⟩ := H
 (try dsimp only at H)
 have A3 := xm A30
 clear A30
 by_cases c4 : t448 < 0
 ·rw [if_pos c4] at H
  have c4b0 : decide (t448 < 0) = true := decide_eq_true c4
  clear c4
  clear H
  go_enter Try.func6, Try.ntmps6
  go_wp2_with (first | ((with_reducible refine gate_callee (f := 38) rfl ?_); refine goesL_ (some 18) rfl rfl Try.func38 (by kernel_rfl) rfl #[.slice A0 l0.length c0, .int .i64 1048576] rfl (by (try simp only [List.map_toArray, List.map_cons, List.map_nil]); first | done | rfl | (simp only [List.length_drop, List.length_take]; rfl)) ?_; (with_reducible refine (laws_szMapS.calls _ _ l0 1048576 t448 _ ?side1 ?side2 A3.out).mono ?_); (case side1 => repeat (first | exact HR0.out | (with_reducible refine Kd.C_alloc ?_ _) | (with_reducible refine Kd.C_drewN ?_ _) | (with_reducible refine Kd.C_drew ?_))); (case side2 => exact HC0.out); rintro e w' ⟨rfl, ⟨nd, rfl⟩⟩; refine ⟨_, rfl, ?_⟩))
  go_ret
  exact ⟨by first | rfl | (simp [errW_none, errW_some] <;> rfl) | (simp [*, errW_none, errW_some] <;> rfl), by repeat (first | (with_reducible first | exact HB.out | apply xa | apply xn | apply xd) | exact HB.out)⟩
 ·rw [if_neg c4] at H
  have c4b0 : decide (t448 < 0) = false := decide_eq_false c4
  clear c4
  replace H := Option.bind_eq_some_iff.mp H
  obtain ⟨t449, A50, H⟩ := H
  (try dsimp only at H)
  have A5 := xm A50
  clear A50
  replace H := Option.bind_eq_some_iff.mp H
  obtain ⟨⟨t452, t453⟩, A60, H⟩ := H
  (try dsimp only at H)
  have A6 := xm A60
  clear A60
  replace H := Option.bind_eq_some_iff.mp H
  obtain ⟨t456, A70, H⟩ := H
  (try dsimp only at H)
  have A7 := xm A70
  clear A70
  replace H := Option.bind_eq_some_iff.mp H
  obtain ⟨⟨t459, t460⟩, A80, H⟩ := H
  (try dsimp only at H)
  have A8 := xm A80
  clear A80
  replace H := Option.bind_eq_some_iff.mp H
  obtain ⟨t463, A90, H⟩ := H
  (try dsimp only at H)
  have A9 := xm A90
  clear A90
  by_cases c10 : t463 = true
  ·subst c10
   have H1 : (if (t460 != t453) = true then (some false) else ((laws_toMapS.f k l0).bind fun t464 => ((laws_eqMapS.f k t456 t464).bind fun t467 => (if t467 = true then ((laws_markMapS.f k t456 1).bind fun bt468 => (if bt468.1 < 0 then (some false) else ((laws_eqMapS.f k t459 t452).bind fun t470 => (if t470 = true then ((laws_markMapS.f k t459 1).bind fun bt471 => ((laws_heldMapS.f k bt471.2 1).bind fun t473 => (if t473 < 0 then (some false) else (if t473 = bt471.1 then ((laws_toMapS.f k l0).bind fun t474 => ((impl_SlideOver.f k t474 a1).bind fun bt477 => ((laws_eqMapS.f k bt477.1 t452).bind fun t481 => (if t481 = true then (if (bt477.2 != t453) = true then (some false) else ((laws_heldMapS.f k bt471.2 1).bind fun t482 => (if t482 < 0 then (some false) else (if t482 = bt471.1 then (some true) else (some false))))) else (some false))))) else (some false))))) else (some false))))) else (some false))))) = some true := by first | (with_reducible rfl) | (rw [if_pos rfl] at H; exact H)
   clear H
   have H := H1
   clear H1
   by_cases c11 : (t460 != t453) = true
   ·rw [if_pos c11] at H
    have c11b0 : (t460 != t453) = true := c11
    (try (have c11b1 : decide (t460 = t453) = false := by simpa using c11))
    (try (have c11b2 : (t460 == t453) = false := by simpa using c11))
    (try (have c11b3 : ¬ (t460 = t453) := by simpa using c11))
    clear c11
    exact absurd H (by simp)
   ·rw [if_neg c11] at H
    have c11b0 : (t460 != t453) = false := by simpa using c11
    (try (have c11b1 : decide (t460 = t453) = true := by simpa using c11))
    (try (have c11b2 : (t460 == t453) = true := by simpa using c11))
    clear c11
    replace H := Option.bind_eq_some_iff.mp H
    obtain ⟨t464, A120, H⟩ := H
    (try dsimp only at H)
    have A12 := xm A120
    clear A120
    replace H := Option.bind_eq_some_iff.mp H
    obtain ⟨t467, A130, H⟩ := H
    (try dsimp only at H)
    have A13 := xm A130
    clear A130
    by_cases c14 : t467 = true
    ·subst c14
     have H1 : ((laws_markMapS.f k t456 1).bind fun bt468 => (if bt468.1 < 0 then (some false) else ((laws_eqMapS.f k t459 t452).bind fun t470 => (if t470 = true then ((laws_markMapS.f k t459 1).bind fun bt471 => ((laws_heldMapS.f k bt471.2 1).bind fun t473 => (if t473 < 0 then (some false) else (if t473 = bt471.1 then ((laws_toMapS.f k l0).bind fun t474 => ((impl_SlideOver.f k t474 a1).bind fun bt477 => ((laws_eqMapS.f k bt477.1 t452).bind fun t481 => (if t481 = true then (if (bt477.2 != t453) = true then (some false) else ((laws_heldMapS.f k bt471.2 1).bind fun t482 => (if t482 < 0 then (some false) else (if t482 = bt471.1 then (some true) else (some false))))) else (some false))))) else (some false))))) else (some false))))) = some true := by first | (with_reducible rfl) | (rw [if_pos rfl] at H; exact H)
     clear H
     have H := H1
     clear H1
     replace H := Option.bind_eq_some_iff.mp H
     obtain ⟨⟨t468, t469⟩, A150, H⟩ := H
     (try dsimp only at H)
     have A15 := xm A150
     clear A150
     by_cases c16 : t468 < 0
     ·rw [if_pos c16] at H
      have c16b0 : decide (t468 < 0) = true := decide_eq_true c16
      clear c16
      exact absurd H (by simp)
     ·rw [if_neg c16] at H
      have c16b0 : decide (t468 < 0) = false := decide_eq_false c16
      clear c16
      replace H := Option.bind_eq_some_iff.mp H
      obtain ⟨t470, A170, H⟩ := H
      (try dsimp only at H)
      have A17 := xm A170
      clear A170
      by_cases c18 : t470 = true
      ·subst c18
       have H1 : ((laws_markMapS.f k t459 1).bind fun bt471 => ((laws_heldMapS.f k bt471.2 1).bind fun t473 => (if t473 < 0 then (some false) else (if t473 = bt471.1 then ((laws_toMapS.f k l0).bind fun t474 => ((impl_SlideOver.f k t474 a1).bind fun bt477 => ((laws_eqMapS.f k bt477.1 t452).bind fun t481 => (if t481 = true then (if (bt477.2 != t453) = true then (some false) else ((laws_heldMapS.f k bt471.2 1).bind fun t482 => (if t482 < 0 then (some false) else (if t482 = bt471.1 then (some true) else (some false))))) else (some false))))) else (some false))))) = some true := by first | (with_reducible rfl) | (rw [if_pos rfl] at H; exact H)
       clear H
       have H := H1
       clear H1
       replace H := Option.bind_eq_some_iff.mp H
       obtain ⟨⟨t471, t472⟩, A190, H⟩ := H
       (try dsimp only at H)
       have A19 := xm A190
       clear A190
       replace H := Option.bind_eq_some_iff.mp H
       obtain ⟨t473, A200, H⟩ := H
       (try dsimp only at H)
       have A20 := xm A200
       clear A200
       by_cases c21 : t473 < 0
       ·rw [if_pos c21] at H
        have c21b0 : decide (t473 < 0) = true := decide_eq_true c21
        clear c21
        exact absurd H (by simp)
       ·rw [if_neg c21] at H
        have c21b0 : decide (t473 < 0) = false := decide_eq_false c21
        clear c21
        by_cases c22 : t473 = t471
        ·rw [if_pos c22] at H
         have c22b0 : (t473 == t471) = true := beq_iff_eq.mpr c22
         have c22b1 : (t473 != t471) = false := bne_eq_false_iff_eq.mpr c22
         clear c22
         replace H := Option.bind_eq_some_iff.mp H
         obtain ⟨t474, A230, H⟩ := H
         (try dsimp only at H)
         have A23 := xm A230
         clear A230
         replace H := Option.bind_eq_some_iff.mp H
         obtain ⟨⟨t477, t478⟩, A240, H⟩ := H
         (try dsimp only at H)
         have A24 := xm A240
         clear A240
         replace H := Option.bind_eq_some_iff.mp H
         obtain ⟨t481, A250, H⟩ := H
         (try dsimp only at H)
         have A25 := xm A250
         clear A250
         by_cases c26 : t481 = true
         ·subst c26
          have H1 : (if (t478 != t453) = true then (some false) else ((laws_heldMapS.f k t472 1).bind fun t482 => (if t482 < 0 then (some false) else (if t482 = t471 then (some true) else (some false))))) = some true := by first | (with_reducible rfl) | (rw [if_pos rfl] at H; exact H)
          clear H
          have H := H1
          clear H1
          by_cases c27 : (t478 != t453) = true
          ·rw [if_pos c27] at H
           have c27b0 : (t478 != t453) = true := c27
           (try (have c27b1 : decide (t478 = t453) = false := by simpa using c27))
           (try (have c27b2 : (t478 == t453) = false := by simpa using c27))
           (try (have c27b3 : ¬ (t478 = t453) := by simpa using c27))
           clear c27
           exact absurd H (by simp)
          ·rw [if_neg c27] at H
           have c27b0 : (t478 != t453) = false := by simpa using c27
           (try (have c27b1 : decide (t478 = t453) = true := by simpa using c27))
           (try (have c27b2 : (t478 == t453) = true := by simpa using c27))
           clear c27
           replace H := Option.bind_eq_some_iff.mp H
           obtain ⟨t482, A280, H⟩ := H
           (try dsimp only at H)
           have A28 := xm A280
           clear A280
           by_cases c29 : t482 < 0
           ·rw [if_pos c29] at H
            have c29b0 : decide (t482 < 0) = true := decide_eq_true c29
            clear c29
            exact absurd H (by simp)
           ·rw [if_neg c29] at H
            have c29b0 : decide (t482 < 0) = false := decide_eq_false c29
            clear c29
            by_cases c30 : t482 = t471
            ·rw [if_pos c30] at H
             have c30b0 : (t482 == t471) = true := beq_iff_eq.mpr c30
             have c30b1 : (t482 != t471) = false := bne_eq_false_iff_eq.mpr c30
             clear c30
             clear H
             go_enter Try.func6, Try.ntmps6
             go_wp2_with (first | ((with_reducible refine gate_callee (f := 38) rfl ?_); refine goesL_ (some 18) rfl rfl Try.func38 (by kernel_rfl) rfl #[.slice A0 l0.length c0, .int .i64 1048576] rfl (by (try simp only [List.map_toArray, List.map_cons, List.map_nil]); first | done | rfl | (simp only [List.length_drop, List.length_take]; rfl)) ?_; (with_reducible refine (laws_szMapS.calls _ _ l0 1048576 t448 _ ?side1 ?side2 A3.out).mono ?_); (case side1 => repeat (first | exact HR0.out | (with_reducible refine Kd.C_alloc ?_ _) | (with_reducible refine Kd.C_drewN ?_ _) | (with_reducible refine Kd.C_drew ?_))); (case side2 => exact HC0.out); rintro e w' ⟨rfl, ⟨nd, rfl⟩⟩; refine ⟨_, rfl, ?_⟩) | ((with_reducible refine gate_callee (f := 40) rfl ?_); refine goesL_ (some 23) rfl rfl Try.func40 (by kernel_rfl) rfl #[.slice A0 l0.length c0] rfl (by (try simp only [List.map_toArray, List.map_cons, List.map_nil]); first | done | rfl | (simp only [List.length_drop, List.length_take]; rfl)) ?_; (with_reducible refine (laws_toMapS.calls k _ _ l0 t449 _ ?side1 ?side2 A5.out).mono ?_); (case side1 => repeat (first | exact HR0.out | (with_reducible refine Kd.C_alloc ?_ _) | (with_reducible refine Kd.C_drewN ?_ _) | (with_reducible refine Kd.C_drew ?_))); (case side2 => exact HC0.out); rintro e w31 ⟨v450, rfl, ho0, hb⟩; refine ⟨_, rfl, ?_⟩; have n0_ := xm (Kd.R_lower ho0 (xz (by repeat (first | (with_reducible first | exact HB.out | apply xa | apply xn | apply xd) | exact HB.out)))); have n1_ := xm (below_step (by repeat (first | (with_reducible first | exact HB.out | apply xa | apply xn | apply xd) | exact HB.out)) hb); clear HB; have HO451 := n0_; have HB := n1_; clear n0_ n1_; (try clear hb); (try clear hb2); (try clear hk); (try clear hi); (try clear ho0); obtain ⟨Ao32, co32, eo32⟩ := Kd.R_slice HO451.out; subst eo32) | ((with_reducible refine gate_callee (f := 39) rfl ?_); refine goesL_ (some 25) rfl rfl Try.func39 (by kernel_rfl) rfl #[.slice Ao32 t449.length co32, .int .i64 a1] rfl (by (try simp only [List.map_toArray, List.map_cons, List.map_nil]); first | done | rfl | (simp only [List.length_drop, List.length_take]; rfl)) ?_; (with_reducible refine (spec_SlideOver.calls k _ _ t449 a1 t452 t453 _ ?side1 ?side2 A6.out).mono ?_); (case side1 => repeat (first | exact (Kd.R_reads' HO451.out).2.2 | (with_reducible refine Kd.C_alloc ?_ _) | (with_reducible refine Kd.C_drewN ?_ _) | (with_reducible refine Kd.C_drew ?_))); (case side2 => exact (Kd.R_reads' HO451.out).2.1); rintro e w33 ⟨v454, rfl, ho0, hb⟩; refine ⟨_, rfl, ?_⟩; have n0_ := xm (Kd.R_elder' (by (with_reducible repeat (first | apply Kd.R_alloc | apply Kd.R_drewN | apply Kd.R_drew)); exact HO451.out) (Kd.R_base ho0) hb); have n1_ := xm (Kd.R_lower (Kd.R_new' ho0 (Kd.R_lt (by (with_reducible repeat (first | apply Kd.R_alloc | apply Kd.R_drewN | apply Kd.R_drew)); exact HO451.out))) (xz (by repeat (first | (with_reducible first | exact HB.out | apply xa | apply xn | apply xd) | exact HB.out)))); have n2_ := xm (below_step (by repeat (first | (with_reducible first | exact HB.out | apply xa | apply xn | apply xd) | exact HB.out)) hb); clear HO451; clear HB; have HO451 := n0_; have HO455 := n1_; have HB := n2_; clear n0_ n1_ n2_; (try clear hb); (try clear hb2); (try clear hk); (try clear hi); (try clear ho0)) | ((with_reducible refine gate_callee (f := 40) rfl ?_); refine goesL_ (some 29) rfl rfl Try.func40 (by kernel_rfl) rfl #[.slice A0 l0.length c0] rfl (by (try simp only [List.map_toArray, List.map_cons, List.map_nil]); first | done | rfl | (simp only [List.length_drop, List.length_take]; rfl)) ?_; (with_reducible refine (laws_toMapS.calls k _ _ l0 t456 _ ?side1 ?side2 A7.out).mono ?_); (case side1 => repeat (first | exact (Kd.C_below HR0.out HB.out) | (with_reducible refine Kd.C_alloc ?_ _) | (with_reducible refine Kd.C_drewN ?_ _) | (with_reducible refine Kd.C_drew ?_))); (case side2 => exact HC0.out); rintro e w34 ⟨v457, rfl, ho0, hb⟩; refine ⟨_, rfl, ?_⟩; have n0_ := xm (Kd.R_elder' (by (with_reducible repeat (first | apply Kd.R_alloc | apply Kd.R_drewN | apply Kd.R_drew)); exact HO451.out) (Kd.R_base ho0) hb); have n1_ := xm (Kd.R_elder' (by (with_reducible repeat (first | apply Kd.R_alloc | apply Kd.R_drewN | apply Kd.R_drew)); exact HO455.out) (Kd.R_base ho0) hb); have n2_ := xm (Kd.R_lower (Kd.R_new' (Kd.R_new' ho0 (Kd.R_lt (by (with_reducible repeat (first | apply Kd.R_alloc | apply Kd.R_drewN | apply Kd.R_drew)); exact HO451.out))) (Kd.R_lt (by (with_reducible repeat (first | apply Kd.R_alloc | apply Kd.R_drewN | apply Kd.R_drew)); exact HO455.out))) (xz (by repeat (first | (with_reducible first | exact HB.out | apply xa | apply xn | apply xd) | exact HB.out)))); have n3_ := xm (below_step (by repeat (first | (with_reducible first | exact HB.out | apply xa | apply xn | apply xd) | exact HB.out)) hb); clear HO451; clear HO455; clear HB; have HO451 := n0_; have HO455 := n1_; have HO458 := n2_; have HB := n3_; clear n0_ n1_ n2_ n3_; (try clear hb); (try clear hb2); (try clear hk); (try clear hi); (try clear ho0); obtain ⟨Ao35, co35, eo35⟩ := Kd.R_slice HO458.out; subst eo35) | ((with_reducible refine gate_callee (f := 41) rfl ?_); refine goesL_ (some 33) rfl rfl Try.func41 (by kernel_rfl) rfl #[.slice Ao35 t456.length co35, .int .i64 a1] rfl (by (try simp only [List.map_toArray, List.map_cons, List.map_nil]); first | done | rfl | (simp only [List.length_drop, List.length_take]; rfl)) ?_; (with_reducible refine (impl_SlideOver.calls k _ _ t456 a1 t459 t460 _ ?side1 ?side2 A8.out).mono ?_); (case side1 => repeat (first | exact (Kd.R_reads' HO458.out).2.2 | (with_reducible refine Kd.C_alloc ?_ _) | (with_reducible refine Kd.C_drewN ?_ _) | (with_reducible refine Kd.C_drew ?_))); (case side2 => exact (Kd.R_reads' HO458.out).2.1); rintro e w36 ⟨v461, rfl, ho0, hb⟩; refine ⟨_, rfl, ?_⟩; have n0_ := xm (Kd.R_elder' (by (with_reducible repeat (first | apply Kd.R_alloc | apply Kd.R_drewN | apply Kd.R_drew)); exact HO451.out) (Kd.R_base ho0) hb); have n1_ := xm (Kd.R_elder' (by (with_reducible repeat (first | apply Kd.R_alloc | apply Kd.R_drewN | apply Kd.R_drew)); exact HO455.out) (Kd.R_base ho0) hb); have n2_ := xm (Kd.R_elder' (by (with_reducible repeat (first | apply Kd.R_alloc | apply Kd.R_drewN | apply Kd.R_drew)); exact HO458.out) (Kd.R_base ho0) hb); have n3_ := xm (Kd.R_lower (Kd.R_new' (Kd.R_new' (Kd.R_new' ho0 (Kd.R_lt (by (with_reducible repeat (first | apply Kd.R_alloc | apply Kd.R_drewN | apply Kd.R_drew)); exact HO451.out))) (Kd.R_lt (by (with_reducible repeat (first | apply Kd.R_alloc | apply Kd.R_drewN | apply Kd.R_drew)); exact HO455.out))) (Kd.R_lt (by (with_reducible repeat (first | apply Kd.R_alloc | apply Kd.R_drewN | apply Kd.R_drew)); exact HO458.out))) (xz (by repeat (first | (with_reducible first | exact HB.out | apply xa | apply xn | apply xd) | exact HB.out)))); have n4_ := xm (below_step (by repeat (first | (with_reducible first | exact HB.out | apply xa | apply xn | apply xd) | exact HB.out)) hb); clear HO451; clear HO455; clear HO458; clear HB; have HO451 := n0_; have HO455 := n1_; have HO458 := n2_; have HO462 := n3_; have HB := n4_; clear n0_ n1_ n2_ n3_ n4_; (try clear hb); (try clear hb2); (try clear hk); (try clear hi); (try clear ho0); obtain ⟨Ao37, co37, eo37⟩ := Kd.R_slice HO462.out; subst eo37; obtain ⟨Ao38, co38, eo38⟩ := Kd.R_slice HO455.out; subst eo38) | ((with_reducible refine gate_callee (f := 42) rfl ?_); refine goesL_ (some 38) rfl rfl Try.func42 (by kernel_rfl) rfl #[.slice Ao37 t459.length co37, .slice Ao38 t452.length co38] rfl (by (try simp only [List.map_toArray, List.map_cons, List.map_nil]); first | done | rfl | (simp only [List.length_drop, List.length_take]; rfl)) ?_; (with_reducible refine (laws_eqMapS.calls k _ _ t459 _ _ t452 true _ ?side1 ?side2 ?side3 ?side4 A9.out).mono ?_); (case side1 => repeat (first | exact (Kd.R_reads' HO462.out).2.2 | (with_reducible refine Kd.C_alloc ?_ _) | (with_reducible refine Kd.C_drewN ?_ _) | (with_reducible refine Kd.C_drew ?_))); (case side2 => exact (Kd.R_reads' HO462.out).2.1); (case side3 => repeat (first | exact (Kd.R_reads' HO455.out).2.2 | (with_reducible refine Kd.C_alloc ?_ _) | (with_reducible refine Kd.C_drewN ?_ _) | (with_reducible refine Kd.C_drew ?_))); (case side4 => exact (Kd.R_reads' HO455.out).2.1); rintro e w39 ⟨rfl, hb⟩; refine ⟨_, rfl, ?_⟩; have n0_ := xm (Kd.R_below (by (with_reducible repeat (first | apply Kd.R_alloc | apply Kd.R_drewN | apply Kd.R_drew)); exact HO451.out) hb); have n1_ := xm (Kd.R_below (by (with_reducible repeat (first | apply Kd.R_alloc | apply Kd.R_drewN | apply Kd.R_drew)); exact HO455.out) hb); have n2_ := xm (Kd.R_below (by (with_reducible repeat (first | apply Kd.R_alloc | apply Kd.R_drewN | apply Kd.R_drew)); exact HO458.out) hb); have n3_ := xm (Kd.R_below (by (with_reducible repeat (first | apply Kd.R_alloc | apply Kd.R_drewN | apply Kd.R_drew)); exact HO462.out) hb); have n4_ := xm (below_step (by repeat (first | (with_reducible first | exact HB.out | apply xa | apply xn | apply xd) | exact HB.out)) hb); clear HO451; clear HO455; clear HO458; clear HO462; clear HB; have HO451 := n0_; have HO455 := n1_; have HO458 := n2_; have HO462 := n3_; have HB := n4_; clear n0_ n1_ n2_ n3_ n4_; (try clear hb); (try clear hb2); (try clear hk); (try clear hi)) | ((with_reducible refine gate_callee (f := 40) rfl ?_); refine goesL_ (some 47) rfl rfl Try.func40 (by kernel_rfl) rfl #[.slice A0 l0.length c0] rfl (by (try simp only [List.map_toArray, List.map_cons, List.map_nil]); first | done | rfl | (simp only [List.length_drop, List.length_take]; rfl)) ?_; (with_reducible refine (laws_toMapS.calls k _ _ l0 t464 _ ?side1 ?side2 A12.out).mono ?_); (case side1 => repeat (first | exact (Kd.C_below HR0.out HB.out) | (with_reducible refine Kd.C_alloc ?_ _) | (with_reducible refine Kd.C_drewN ?_ _) | (with_reducible refine Kd.C_drew ?_))); (case side2 => exact HC0.out); rintro e w40 ⟨v465, rfl, ho0, hb⟩; refine ⟨_, rfl, ?_⟩; have n0_ := xm (Kd.R_elder' (by (with_reducible repeat (first | apply Kd.R_alloc | apply Kd.R_drewN | apply Kd.R_drew)); exact HO451.out) (Kd.R_base ho0) hb); have n1_ := xm (Kd.R_elder' (by (with_reducible repeat (first | apply Kd.R_alloc | apply Kd.R_drewN | apply Kd.R_drew)); exact HO455.out) (Kd.R_base ho0) hb); have n2_ := xm (Kd.R_elder' (by (with_reducible repeat (first | apply Kd.R_alloc | apply Kd.R_drewN | apply Kd.R_drew)); exact HO458.out) (Kd.R_base ho0) hb); have n3_ := xm (Kd.R_elder' (by (with_reducible repeat (first | apply Kd.R_alloc | apply Kd.R_drewN | apply Kd.R_drew)); exact HO462.out) (Kd.R_base ho0) hb); have n4_ := xm (Kd.R_lower (Kd.R_new' (Kd.R_new' (Kd.R_new' (Kd.R_new' ho0 (Kd.R_lt (by (with_reducible repeat (first | apply Kd.R_alloc | apply Kd.R_drewN | apply Kd.R_drew)); exact HO451.out))) (Kd.R_lt (by (with_reducible repeat (first | apply Kd.R_alloc | apply Kd.R_drewN | apply Kd.R_drew)); exact HO455.out))) (Kd.R_lt (by (with_reducible repeat (first | apply Kd.R_alloc | apply Kd.R_drewN | apply Kd.R_drew)); exact HO458.out))) (Kd.R_lt (by (with_reducible repeat (first | apply Kd.R_alloc | apply Kd.R_drewN | apply Kd.R_drew)); exact HO462.out))) (xz (by repeat (first | (with_reducible first | exact HB.out | apply xa | apply xn | apply xd) | exact HB.out)))); have n5_ := xm (below_step (by repeat (first | (with_reducible first | exact HB.out | apply xa | apply xn | apply xd) | exact HB.out)) hb); clear HO451; clear HO455; clear HO458; clear HO462; clear HB; have HO451 := n0_; have HO455 := n1_; have HO458 := n2_; have HO462 := n3_; have HO466 := n4_; have HB := n5_; clear n0_ n1_ n2_ n3_ n4_ n5_; (try clear hb); (try clear hb2); (try clear hk); (try clear hi); (try clear ho0); obtain ⟨Ao41, co41, eo41⟩ := Kd.R_slice HO466.out; subst eo41) | ((with_reducible refine gate_callee (f := 42) rfl ?_); refine goesL_ (some 48) rfl rfl Try.func42 (by kernel_rfl) rfl #[.slice Ao35 t456.length co35, .slice Ao41 t464.length co41] rfl (by (try simp only [List.map_toArray, List.map_cons, List.map_nil]); first | done | rfl | (simp only [List.length_drop, List.length_take]; rfl)) ?_; (with_reducible refine (laws_eqMapS.calls k _ _ t456 _ _ t464 true _ ?side1 ?side2 ?side3 ?side4 A13.out).mono ?_); (case side1 => repeat (first | exact (Kd.R_reads' HO458.out).2.2 | (with_reducible refine Kd.C_alloc ?_ _) | (with_reducible refine Kd.C_drewN ?_ _) | (with_reducible refine Kd.C_drew ?_))); (case side2 => exact (Kd.R_reads' HO458.out).2.1); (case side3 => repeat (first | exact (Kd.R_reads' HO466.out).2.2 | (with_reducible refine Kd.C_alloc ?_ _) | (with_reducible refine Kd.C_drewN ?_ _) | (with_reducible refine Kd.C_drew ?_))); (case side4 => exact (Kd.R_reads' HO466.out).2.1); rintro e w42 ⟨rfl, hb⟩; refine ⟨_, rfl, ?_⟩; have n0_ := xm (Kd.R_below (by (with_reducible repeat (first | apply Kd.R_alloc | apply Kd.R_drewN | apply Kd.R_drew)); exact HO451.out) hb); have n1_ := xm (Kd.R_below (by (with_reducible repeat (first | apply Kd.R_alloc | apply Kd.R_drewN | apply Kd.R_drew)); exact HO455.out) hb); have n2_ := xm (Kd.R_below (by (with_reducible repeat (first | apply Kd.R_alloc | apply Kd.R_drewN | apply Kd.R_drew)); exact HO458.out) hb); have n3_ := xm (Kd.R_below (by (with_reducible repeat (first | apply Kd.R_alloc | apply Kd.R_drewN | apply Kd.R_drew)); exact HO462.out) hb); have n4_ := xm (Kd.R_below (by (with_reducible repeat (first | apply Kd.R_alloc | apply Kd.R_drewN | apply Kd.R_drew)); exact HO466.out) hb); have n5_ := xm (below_step (by repeat (first | (with_reducible first | exact HB.out | apply xa | apply xn | apply xd) | exact HB.out)) hb); clear HO451; clear HO455; clear HO458; clear HO462; clear HO466; clear HB; have HO451 := n0_; have HO455 := n1_; have HO458 := n2_; have HO462 := n3_; have HO466 := n4_; have HB := n5_; clear n0_ n1_ n2_ n3_ n4_ n5_; (try clear hb); (try clear hb2); (try clear hk); (try clear hi)) | ((with_reducible refine gate_callee (f := 43) rfl ?_); refine goesL_ (some 52) rfl rfl Try.func43 (by kernel_rfl) rfl #[.slice Ao35 t456.length co35, .int .i64 1] rfl (by (try simp only [List.map_toArray, List.map_cons, List.map_nil]); first | done | rfl | (simp only [List.length_drop, List.length_take]; rfl)) ?_; (with_reducible refine (laws_markMapS.calls k (fun k_ => some k_ = (.slice Ao35 t456.length co35 : Value).ownBlock) (.slice Ao35 t456.length co35) t456 1 t468 t469 w _ ?side1 ?side2 A15.out).mono ?_); (case side1 => repeat (first | (with_reducible first | exact HB.out | apply xa | apply xn | apply xd) | exact HB.out)); (case side2 => exact Kd.R_tight rfl HO458.out); rintro e w43 ⟨rfl, hy0, hb, hkp⟩; refine ⟨_, rfl, ?_⟩; have n0_ := xm (Kd.R_mono (ok' := fun k_ => some k_ ≠ (.slice Ao38 t452.length co38 : Value).ownBlock ∧ some k_ ≠ (.slice Ao35 t456.length co35 : Value).ownBlock ∧ some k_ ≠ (.slice Ao37 t459.length co37 : Value).ownBlock ∧ some k_ ≠ (.slice Ao41 t464.length co41 : Value).ownBlock) (Kd.R_keptB (HO451.out) hkp (fun k_ hk_ hs_ => (hk_.1.1.2) hs_)) (fun k_ hk_ => ⟨hk_.1.1.1.1.2, hk_.1.1.1.2, hk_.1.1.2, hk_.1.2⟩)); have n1_ := xm (Kd.R_mono (ok' := fun k_ => some k_ ≠ (.slice Ao32 t449.length co32 : Value).ownBlock ∧ some k_ ≠ (.slice Ao35 t456.length co35 : Value).ownBlock ∧ some k_ ≠ (.slice Ao37 t459.length co37 : Value).ownBlock ∧ some k_ ≠ (.slice Ao41 t464.length co41 : Value).ownBlock) (Kd.R_keptB (HO455.out) hkp (fun k_ hk_ hs_ => (hk_.1.1.2) hs_)) (fun k_ hk_ => ⟨hk_.1.1.1.1.2, hk_.1.1.1.2, hk_.1.1.2, hk_.1.2⟩)); have n2_ := xm (Kd.R_reok rfl hy0 (fun k_ e_ => HO458.out.1 k_ e_)); have n3_ := xm (Kd.R_mono (ok' := fun k_ => some k_ ≠ (.slice Ao32 t449.length co32 : Value).ownBlock ∧ some k_ ≠ (.slice Ao38 t452.length co38 : Value).ownBlock ∧ some k_ ≠ (.slice Ao35 t456.length co35 : Value).ownBlock ∧ some k_ ≠ (.slice Ao41 t464.length co41 : Value).ownBlock) (Kd.R_keptB (HO462.out) hkp (fun k_ hk_ hs_ => (hk_.1.2) hs_)) (fun k_ hk_ => ⟨hk_.1.1.1.1.2, hk_.1.1.1.2, hk_.1.1.2, hk_.1.2⟩)); have n4_ := xm (Kd.R_mono (ok' := fun k_ => some k_ ≠ (.slice Ao32 t449.length co32 : Value).ownBlock ∧ some k_ ≠ (.slice Ao38 t452.length co38 : Value).ownBlock ∧ some k_ ≠ (.slice Ao35 t456.length co35 : Value).ownBlock ∧ some k_ ≠ (.slice Ao37 t459.length co37 : Value).ownBlock) (Kd.R_keptB (HO466.out) hkp (fun k_ hk_ hs_ => (hk_.1.2) hs_)) (fun k_ hk_ => ⟨hk_.1.1.1.1.2, hk_.1.1.1.2, hk_.1.1.2, hk_.1.2⟩)); have n5_ := xm (hb); clear HO451; clear HO455; clear HO458; clear HO462; clear HO466; clear HB; have HO451 := n0_; have HO455 := n1_; have HO458 := n2_; have HO462 := n3_; have HO466 := n4_; have HB := n5_; clear n0_ n1_ n2_ n3_ n4_ n5_; (try clear hb); (try clear hkp); (try clear hy0)) | (go_at_call 42; (with_reducible refine (laws_eqMapS.calls k _ _ t459 _ _ t452 true _ ?side1 ?side2 ?side3 ?side4 A17.out).mono ?_); (case side1 => repeat (first | exact (Kd.R_reads' HO462.out).2.2 | (with_reducible refine Kd.C_alloc ?_ _) | (with_reducible refine Kd.C_drewN ?_ _) | (with_reducible refine Kd.C_drew ?_))); (case side2 => exact (Kd.R_reads' HO462.out).2.1); (case side3 => repeat (first | exact (Kd.R_reads' HO455.out).2.2 | (with_reducible refine Kd.C_alloc ?_ _) | (with_reducible refine Kd.C_drewN ?_ _) | (with_reducible refine Kd.C_drew ?_))); (case side4 => exact (Kd.R_reads' HO455.out).2.1); rintro e w44 ⟨rfl, hb⟩; have n0_ := xm (Kd.R_below (by (with_reducible repeat (first | apply Kd.R_alloc | apply Kd.R_drewN | apply Kd.R_drew)); exact HO451.out) hb); have n1_ := xm (Kd.R_below (by (with_reducible repeat (first | apply Kd.R_alloc | apply Kd.R_drewN | apply Kd.R_drew)); exact HO455.out) hb); have n2_ := xm (Kd.R_below (by (with_reducible repeat (first | apply Kd.R_alloc | apply Kd.R_drewN | apply Kd.R_drew)); exact HO458.out) hb); have n3_ := xm (Kd.R_below (by (with_reducible repeat (first | apply Kd.R_alloc | apply Kd.R_drewN | apply Kd.R_drew)); exact HO462.out) hb); have n4_ := xm (Kd.R_below (by (with_reducible repeat (first | apply Kd.R_alloc | apply Kd.R_drewN | apply Kd.R_drew)); exact HO466.out) hb); have n5_ := xm (below_step (by repeat (first | (with_reducible first | exact HB.out | apply xa | apply xn | apply xd) | exact HB.out)) hb); clear HO451; clear HO455; clear HO458; clear HO462; clear HO466; clear HB; have HO451 := n0_; have HO455 := n1_; have HO458 := n2_; have HO462 := n3_; have HO466 := n4_; have HB := n5_; clear n0_ n1_ n2_ n3_ n4_ n5_; (try clear hb); (try clear hb2); (try clear hk); (try clear hi)) | ((with_reducible refine gate_callee (f := 43) rfl ?_); refine goesL_ (some 68) rfl rfl Try.func43 (by kernel_rfl) rfl #[.slice Ao37 t459.length co37, .int .i64 1] rfl (by (try simp only [List.map_toArray, List.map_cons, List.map_nil]); first | done | rfl | (simp only [List.length_drop, List.length_take]; rfl)) ?_; (with_reducible refine (laws_markMapS.calls k (fun k_ => some k_ = (.slice Ao37 t459.length co37 : Value).ownBlock) (.slice Ao37 t459.length co37) t459 1 t471 t472 w _ ?side1 ?side2 A19.out).mono ?_); (case side1 => repeat (first | (with_reducible first | exact HB.out | apply xa | apply xn | apply xd) | exact HB.out)); (case side2 => exact Kd.R_tight rfl HO462.out); rintro e w45 ⟨rfl, hy0, hb, hkp⟩; refine ⟨_, rfl, ?_⟩; have n0_ := xm (Kd.R_mono (ok' := fun k_ => some k_ ≠ (.slice Ao38 t452.length co38 : Value).ownBlock ∧ some k_ ≠ (.slice Ao35 t456.length co35 : Value).ownBlock ∧ some k_ ≠ (.slice Ao37 t459.length co37 : Value).ownBlock ∧ some k_ ≠ (.slice Ao41 t464.length co41 : Value).ownBlock) (Kd.R_keptB (HO451.out) hkp (fun k_ hk_ hs_ => (hk_.2.2.1) hs_)) (fun k_ hk_ => ⟨hk_.1.1, hk_.1.2.1, hk_.1.2.2.1, hk_.1.2.2.2⟩)); have n1_ := xm (Kd.R_mono (ok' := fun k_ => some k_ ≠ (.slice Ao32 t449.length co32 : Value).ownBlock ∧ some k_ ≠ (.slice Ao35 t456.length co35 : Value).ownBlock ∧ some k_ ≠ (.slice Ao37 t459.length co37 : Value).ownBlock ∧ some k_ ≠ (.slice Ao41 t464.length co41 : Value).ownBlock) (Kd.R_keptB (HO455.out) hkp (fun k_ hk_ hs_ => (hk_.2.2.1) hs_)) (fun k_ hk_ => ⟨hk_.1.1, hk_.1.2.1, hk_.1.2.2.1, hk_.1.2.2.2⟩)); have n2_ := xm (Kd.R_mono (ok' := fun k_ => some k_ ≠ (.slice Ao32 t449.length co32 : Value).ownBlock ∧ some k_ ≠ (.slice Ao38 t452.length co38 : Value).ownBlock ∧ some k_ ≠ (.slice Ao37 t459.length co37 : Value).ownBlock ∧ some k_ ≠ (.slice Ao41 t464.length co41 : Value).ownBlock) (Kd.R_keptB (HO458.out) hkp (fun k_ hk_ hs_ => (hk_.1.2) hs_)) (fun k_ hk_ => ⟨hk_.1.1.1.1.2, hk_.1.1.1.2, hk_.1.1.2, hk_.1.2⟩)); have n3_ := xm (Kd.R_reok rfl hy0 (fun k_ e_ => HO462.out.1 k_ e_)); have n4_ := xm (Kd.R_mono (ok' := fun k_ => some k_ ≠ (.slice Ao32 t449.length co32 : Value).ownBlock ∧ some k_ ≠ (.slice Ao38 t452.length co38 : Value).ownBlock ∧ some k_ ≠ (.slice Ao35 t456.length co35 : Value).ownBlock ∧ some k_ ≠ (.slice Ao37 t459.length co37 : Value).ownBlock) (Kd.R_keptB (HO466.out) hkp (fun k_ hk_ hs_ => (hk_.2.2.2) hs_)) (fun k_ hk_ => ⟨hk_.1.1, hk_.1.2.1, hk_.1.2.2.1, hk_.1.2.2.2⟩)); have n5_ := xm (hb); clear HO451; clear HO455; clear HO458; clear HO462; clear HO466; clear HB; have HO451 := n0_; have HO455 := n1_; have HO458 := n2_; have HO462 := n3_; have HO466 := n4_; have HB := n5_; clear n0_ n1_ n2_ n3_ n4_ n5_; (try clear hb); (try clear hkp); (try clear hy0)) | ((with_reducible refine gate_callee (f := 44) rfl ?_); refine goesL_ (some 71) rfl rfl Try.func44 (by kernel_rfl) rfl #[.slice Ao37 t472.length co37, .int .i64 1] rfl (by (try simp only [List.map_toArray, List.map_cons, List.map_nil]); first | done | (rw [show t472.length = t459.length from (Kd.R_reads' HO462.out).1.symm] <;> rfl) | rfl | (simp only [List.length_drop, List.length_take]; rfl)) ?_; (with_reducible refine (laws_heldMapS.calls k _ _ t472 1 t473 _ ?side1 ?side2 A20.out).mono ?_); (case side1 => repeat (first | exact (Kd.R_reads' HO462.out).2.2 | (with_reducible refine Kd.C_alloc ?_ _) | (with_reducible refine Kd.C_drewN ?_ _) | (with_reducible refine Kd.C_drew ?_))); (case side2 => rw [show t472.length = t459.length from (Kd.R_reads' HO462.out).1.symm]; exact (Kd.R_reads' HO462.out).2.1); rintro e w' ⟨rfl, ⟨nd, rfl⟩⟩; refine ⟨_, rfl, ?_⟩) | ((with_reducible refine gate_callee (f := 40) rfl ?_); refine goesL_ (some 79) rfl rfl Try.func40 (by kernel_rfl) rfl #[.slice A0 l0.length c0] rfl (by (try simp only [List.map_toArray, List.map_cons, List.map_nil]); first | done | rfl | (simp only [List.length_drop, List.length_take]; rfl)) ?_; (with_reducible refine (laws_toMapS.calls k _ _ l0 t474 _ ?side1 ?side2 A23.out).mono ?_); (case side1 => repeat (first | exact (Kd.C_below HR0.out (by repeat (first | (with_reducible first | exact HB.out | apply xa | apply xn | apply xd) | exact HB.out))) | (with_reducible refine Kd.C_alloc ?_ _) | (with_reducible refine Kd.C_drewN ?_ _) | (with_reducible refine Kd.C_drew ?_))); (case side2 => exact HC0.out); rintro e w46 ⟨v475, rfl, ho0, hb⟩; refine ⟨_, rfl, ?_⟩; have n0_ := xm (Kd.R_elder' (by (with_reducible repeat (first | apply Kd.R_alloc | apply Kd.R_drewN | apply Kd.R_drew)); exact HO451.out) (Kd.R_base ho0) hb); have n1_ := xm (Kd.R_elder' (by (with_reducible repeat (first | apply Kd.R_alloc | apply Kd.R_drewN | apply Kd.R_drew)); exact HO455.out) (Kd.R_base ho0) hb); have n2_ := xm (Kd.R_elder' (by (with_reducible repeat (first | apply Kd.R_alloc | apply Kd.R_drewN | apply Kd.R_drew)); exact HO458.out) (Kd.R_base ho0) hb); have n3_ := xm (Kd.R_elder' (by (with_reducible repeat (first | apply Kd.R_alloc | apply Kd.R_drewN | apply Kd.R_drew)); exact HO462.out) (Kd.R_base ho0) hb); have n4_ := xm (Kd.R_elder' (by (with_reducible repeat (first | apply Kd.R_alloc | apply Kd.R_drewN | apply Kd.R_drew)); exact HO466.out) (Kd.R_base ho0) hb); have n5_ := xm (Kd.R_lower (Kd.R_new' (Kd.R_new' (Kd.R_new' (Kd.R_new' (Kd.R_new' ho0 (Kd.R_lt (by (with_reducible repeat (first | apply Kd.R_alloc | apply Kd.R_drewN | apply Kd.R_drew)); exact HO451.out))) (Kd.R_lt (by (with_reducible repeat (first | apply Kd.R_alloc | apply Kd.R_drewN | apply Kd.R_drew)); exact HO455.out))) (Kd.R_lt (by (with_reducible repeat (first | apply Kd.R_alloc | apply Kd.R_drewN | apply Kd.R_drew)); exact HO458.out))) (Kd.R_lt (by (with_reducible repeat (first | apply Kd.R_alloc | apply Kd.R_drewN | apply Kd.R_drew)); exact HO462.out))) (Kd.R_lt (by (with_reducible repeat (first | apply Kd.R_alloc | apply Kd.R_drewN | apply Kd.R_drew)); exact HO466.out))) (xz (by repeat (first | (with_reducible first | exact HB.out | apply xa | apply xn | apply xd) | exact HB.out)))); have n6_ := xm (below_step (by repeat (first | (with_reducible first | exact HB.out | apply xa | apply xn | apply xd) | exact HB.out)) hb); clear HO451; clear HO455; clear HO458; clear HO462; clear HO466; clear HB; have HO451 := n0_; have HO455 := n1_; have HO458 := n2_; have HO462 := n3_; have HO466 := n4_; have HO476 := n5_; have HB := n6_; clear n0_ n1_ n2_ n3_ n4_ n5_ n6_; (try clear hb); (try clear hb2); (try clear hk); (try clear hi); (try clear ho0); obtain ⟨Ao47, co47, eo47⟩ := Kd.R_slice HO476.out; subst eo47) | ((with_reducible refine gate_callee (f := 41) rfl ?_); refine goesL_ (some 81) rfl rfl Try.func41 (by kernel_rfl) rfl #[.slice Ao47 t474.length co47, .int .i64 a1] rfl (by (try simp only [List.map_toArray, List.map_cons, List.map_nil]); first | done | rfl | (simp only [List.length_drop, List.length_take]; rfl)) ?_; (with_reducible refine (impl_SlideOver.calls k _ _ t474 a1 t477 t478 _ ?side1 ?side2 A24.out).mono ?_); (case side1 => repeat (first | exact (Kd.R_reads' HO476.out).2.2 | (with_reducible refine Kd.C_alloc ?_ _) | (with_reducible refine Kd.C_drewN ?_ _) | (with_reducible refine Kd.C_drew ?_))); (case side2 => exact (Kd.R_reads' HO476.out).2.1); rintro e w48 ⟨v479, rfl, ho0, hb⟩; refine ⟨_, rfl, ?_⟩; have n0_ := xm (Kd.R_elder' (by (with_reducible repeat (first | apply Kd.R_alloc | apply Kd.R_drewN | apply Kd.R_drew)); exact HO451.out) (Kd.R_base ho0) hb); have n1_ := xm (Kd.R_elder' (by (with_reducible repeat (first | apply Kd.R_alloc | apply Kd.R_drewN | apply Kd.R_drew)); exact HO455.out) (Kd.R_base ho0) hb); have n2_ := xm (Kd.R_elder' (by (with_reducible repeat (first | apply Kd.R_alloc | apply Kd.R_drewN | apply Kd.R_drew)); exact HO458.out) (Kd.R_base ho0) hb); have n3_ := xm (Kd.R_elder' (by (with_reducible repeat (first | apply Kd.R_alloc | apply Kd.R_drewN | apply Kd.R_drew)); exact HO462.out) (Kd.R_base ho0) hb); have n4_ := xm (Kd.R_elder' (by (with_reducible repeat (first | apply Kd.R_alloc | apply Kd.R_drewN | apply Kd.R_drew)); exact HO466.out) (Kd.R_base ho0) hb); have n5_ := xm (Kd.R_elder' (by (with_reducible repeat (first | apply Kd.R_alloc | apply Kd.R_drewN | apply Kd.R_drew)); exact HO476.out) (Kd.R_base ho0) hb); have n6_ := xm (Kd.R_lower (Kd.R_new' (Kd.R_new' (Kd.R_new' (Kd.R_new' (Kd.R_new' (Kd.R_new' ho0 (Kd.R_lt (by (with_reducible repeat (first | apply Kd.R_alloc | apply Kd.R_drewN | apply Kd.R_drew)); exact HO451.out))) (Kd.R_lt (by (with_reducible repeat (first | apply Kd.R_alloc | apply Kd.R_drewN | apply Kd.R_drew)); exact HO455.out))) (Kd.R_lt (by (with_reducible repeat (first | apply Kd.R_alloc | apply Kd.R_drewN | apply Kd.R_drew)); exact HO458.out))) (Kd.R_lt (by (with_reducible repeat (first | apply Kd.R_alloc | apply Kd.R_drewN | apply Kd.R_drew)); exact HO462.out))) (Kd.R_lt (by (with_reducible repeat (first | apply Kd.R_alloc | apply Kd.R_drewN | apply Kd.R_drew)); exact HO466.out))) (Kd.R_lt (by (with_reducible repeat (first | apply Kd.R_alloc | apply Kd.R_drewN | apply Kd.R_drew)); exact HO476.out))) (xz (by repeat (first | (with_reducible first | exact HB.out | apply xa | apply xn | apply xd) | exact HB.out)))); have n7_ := xm (below_step (by repeat (first | (with_reducible first | exact HB.out | apply xa | apply xn | apply xd) | exact HB.out)) hb); clear HO451; clear HO455; clear HO458; clear HO462; clear HO466; clear HO476; clear HB; have HO451 := n0_; have HO455 := n1_; have HO458 := n2_; have HO462 := n3_; have HO466 := n4_; have HO476 := n5_; have HO480 := n6_; have HB := n7_; clear n0_ n1_ n2_ n3_ n4_ n5_ n6_ n7_; (try clear hb); (try clear hb2); (try clear hk); (try clear hi); (try clear ho0); obtain ⟨Ao49, co49, eo49⟩ := Kd.R_slice HO480.out; subst eo49) | ((with_reducible refine gate_callee (f := 42) rfl ?_); refine goesL_ (some 86) rfl rfl Try.func42 (by kernel_rfl) rfl #[.slice Ao49 t477.length co49, .slice Ao38 t452.length co38] rfl (by (try simp only [List.map_toArray, List.map_cons, List.map_nil]); first | done | rfl | (simp only [List.length_drop, List.length_take]; rfl)) ?_; (with_reducible refine (laws_eqMapS.calls k _ _ t477 _ _ t452 true _ ?side1 ?side2 ?side3 ?side4 A25.out).mono ?_); (case side1 => repeat (first | exact (Kd.R_reads' HO480.out).2.2 | (with_reducible refine Kd.C_alloc ?_ _) | (with_reducible refine Kd.C_drewN ?_ _) | (with_reducible refine Kd.C_drew ?_))); (case side2 => exact (Kd.R_reads' HO480.out).2.1); (case side3 => repeat (first | exact (Kd.R_reads' HO455.out).2.2 | (with_reducible refine Kd.C_alloc ?_ _) | (with_reducible refine Kd.C_drewN ?_ _) | (with_reducible refine Kd.C_drew ?_))); (case side4 => exact (Kd.R_reads' HO455.out).2.1); rintro e w50 ⟨rfl, hb⟩; refine ⟨_, rfl, ?_⟩; have n0_ := xm (Kd.R_below (by (with_reducible repeat (first | apply Kd.R_alloc | apply Kd.R_drewN | apply Kd.R_drew)); exact HO451.out) hb); have n1_ := xm (Kd.R_below (by (with_reducible repeat (first | apply Kd.R_alloc | apply Kd.R_drewN | apply Kd.R_drew)); exact HO455.out) hb); have n2_ := xm (Kd.R_below (by (with_reducible repeat (first | apply Kd.R_alloc | apply Kd.R_drewN | apply Kd.R_drew)); exact HO458.out) hb); have n3_ := xm (Kd.R_below (by (with_reducible repeat (first | apply Kd.R_alloc | apply Kd.R_drewN | apply Kd.R_drew)); exact HO462.out) hb); have n4_ := xm (Kd.R_below (by (with_reducible repeat (first | apply Kd.R_alloc | apply Kd.R_drewN | apply Kd.R_drew)); exact HO466.out) hb); have n5_ := xm (Kd.R_below (by (with_reducible repeat (first | apply Kd.R_alloc | apply Kd.R_drewN | apply Kd.R_drew)); exact HO476.out) hb); have n6_ := xm (Kd.R_below (by (with_reducible repeat (first | apply Kd.R_alloc | apply Kd.R_drewN | apply Kd.R_drew)); exact HO480.out) hb); have n7_ := xm (below_step (by repeat (first | (with_reducible first | exact HB.out | apply xa | apply xn | apply xd) | exact HB.out)) hb); clear HO451; clear HO455; clear HO458; clear HO462; clear HO466; clear HO476; clear HO480; clear HB; have HO451 := n0_; have HO455 := n1_; have HO458 := n2_; have HO462 := n3_; have HO466 := n4_; have HO476 := n5_; have HO480 := n6_; have HB := n7_; clear n0_ n1_ n2_ n3_ n4_ n5_ n6_ n7_; (try clear hb); (try clear hb2); (try clear hk); (try clear hi)) | ((with_reducible refine gate_callee (f := 44) rfl ?_); refine goesL_ (some 95) rfl rfl Try.func44 (by kernel_rfl) rfl #[.slice Ao37 t472.length co37, .int .i64 1] rfl (by (try simp only [List.map_toArray, List.map_cons, List.map_nil]); first | done | (rw [show t472.length = t459.length from (Kd.R_reads' HO462.out).1.symm] <;> rfl) | rfl | (simp only [List.length_drop, List.length_take]; rfl)) ?_; (with_reducible refine (laws_heldMapS.calls k _ _ t472 1 t482 _ ?side1 ?side2 A28.out).mono ?_); (case side1 => repeat (first | exact (Kd.R_reads' HO462.out).2.2 | (with_reducible refine Kd.C_alloc ?_ _) | (with_reducible refine Kd.C_drewN ?_ _) | (with_reducible refine Kd.C_drew ?_))); (case side2 => rw [show t472.length = t459.length from (Kd.R_reads' HO462.out).1.symm]; exact (Kd.R_reads' HO462.out).2.1); rintro e w' ⟨rfl, ⟨nd, rfl⟩⟩; refine ⟨_, rfl, ?_⟩))
             go_ret
             exact ⟨by first | rfl | (simp [errW_none, errW_some] <;> rfl) | (simp [*, errW_none, errW_some] <;> rfl), by repeat (first | (with_reducible first | exact HB.out | apply xa | apply xn | apply xd) | exact HB.out)⟩
            ·rw [if_neg c30] at H
             have c30b0 : (t482 == t471) = false := beq_eq_false_iff_ne.mpr c30
             have c30b1 : (t482 != t471) = true := bne_iff_ne.mpr c30
             exact absurd H (by simp)
         ·replace c26 := Bool.eq_false_iff.mpr c26
          subst c26
          have H1 : (some false) = some true := by first | (with_reducible rfl) | (rw [if_neg (show ¬ (false = true) by decide)] at H; exact H)
          clear H
          have H := H1
          clear H1
          exact absurd H (by simp)
        ·rw [if_neg c22] at H
         have c22b0 : (t473 == t471) = false := beq_eq_false_iff_ne.mpr c22
         have c22b1 : (t473 != t471) = true := bne_iff_ne.mpr c22
         exact absurd H (by simp)
      ·replace c18 := Bool.eq_false_iff.mpr c18
       subst c18
       have H1 : (some false) = some true := by first | (with_reducible rfl) | (rw [if_neg (show ¬ (false = true) by decide)] at H; exact H)
       clear H
       have H := H1
       clear H1
       exact absurd H (by simp)
    ·replace c14 := Bool.eq_false_iff.mpr c14
     subst c14
     have H1 : (some false) = some true := by first | (with_reducible rfl) | (rw [if_neg (show ¬ (false = true) by decide)] at H; exact H)
     clear H
     have H := H1
     clear H1
     exact absurd H (by simp)
  ·replace c10 := Bool.eq_false_iff.mpr c10
   subst c10
   have H1 : (some false) = some true := by first | (with_reducible rfl) | (rw [if_neg (show ¬ (false = true) by decide)] at H; exact H)
   clear H
   have H := H1
   clear H1
   exact absurd H (by simp)

/-- THE ONE PURE STATEMENT of laws_FnExactSlideOver. -/
def laws_FnExactSlideOver.Pure : Prop := ∀ x0 : List (S45), (x0.length ≤ 9223372036854775807 ∧ ∀ x0_ ∈ x0, wf45 x0_) → ∀ x1 : Int, (-9223372036854775808 ≤ x1 ∧ x1 ≤ 9223372036854775807) → ∃ k, laws_FnExactSlideOver.f k x0 x1 = some true

end Go.Proofs.Ytpbpglbldgpckaa.G
