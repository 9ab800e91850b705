/- Written by a program of this claim's own, out of the translation: functions of the program as plain functions, and that the calls answer as these. No conditions. -/
import Derived.Test.YtmelechhnimlnadG0
import Derived.Test.YtmelechhnimlnadG1
import Derived.Test.YtmelechhnimlnadG8
import Derived.Test.YtmelechhnimlnadG9
import Derived.Test.YtmelechhnimlnadG14
import Derived.Test.YtmelechhnimlnadG15
namespace Go.Proofs.Ytmelechhnimlnad.G
open Go.RowKit Go.Proofs.Ytmelechhnimlnad.X Go.Proofs.YtmelechhnimlnadW.PrintWords Go.Proofs.YtmelechhnimlnadW.PrintLast Go.Proofs.YtmelechhnimlnadW.PrintMore
attribute [local go_sem] max2_int min2_int max_two min_two max_three min_three max_four min_four   -- for this text's walks alone
set_option linter.unusedVariables false
set_option linter.unusedSimpArgs false

/-! ### laws_eqIntSS: function 11 -/
def laws_eqIntSS.l0 : Nat → List (List Int) → List (List Int) → Int → Option (Bool)
 | 0, _, _, _ => none
 | k + 1, x0, x1, x5 => if x5 < (x0.length : Int) then (if 0 ≤ x5 then (if x5 < (x1.length : Int) then ((laws_eqIntS.f k (rd_L1 x0 x5) (rd_L1 x1 x5)).bind fun t364 => (if t364 = true then (laws_eqIntSS.l0 k x0 x1 (wrap64 (x5 + 1))) else (some false))) else (none)) else (none)) else (some true)
def laws_eqIntSS.f (k : Nat) (l0 : List (List Int)) (l1 : List (List Int)) : Option (Bool) := if (l0.length : Int) = (l1.length : Int) then (laws_eqIntSS.l0 k l0 l1 0) else (some false)
theorem laws_eqIntSS.mono_l : ∀ k, (∀ y0 y1 y2, LeO (laws_eqIntSS.l0 k y0 y1 y2) (laws_eqIntSS.l0 (k + 1) y0 y1 y2))
 | 0 => fun _ _ _ r h => by simp [laws_eqIntSS.l0] at h
 | k + 1 => by
  have ih0 := laws_eqIntSS.mono_l k
  ·intro y0 y1 y2
   unfold laws_eqIntSS.l0
   repeat' first
   | (with_reducible exact ih0 _ _ _)
   | (with_reducible exact laws_eqIntS.mono _ _ _)
   | (with_reducible exact LeO.refl _)
   | (with_reducible exact LeO.none _)
   | (with_reducible refine LeO.ite ?_ ?_)
   | (with_reducible refine LeO.bind ?_ (fun _ => ?_))
   | exact ih0 _ _ _
   | exact laws_eqIntS.mono _ _ _
   | exact LeO.none _
   | refine LeO.ite ?_ ?_
   | refine LeO.bind ?_ (fun _ => ?_)
theorem laws_eqIntSS.mono : ∀ a0 a1 k, LeO (laws_eqIntSS.f k a0 a1) (laws_eqIntSS.f (k + 1) a0 a1) := by
 intro a0 a1 k
 have ih0 := laws_eqIntSS.mono_l k
 unfold laws_eqIntSS.f
 repeat' first
   | (with_reducible exact ih0 _ _ _)
   | (with_reducible exact laws_eqIntS.mono _ _ _)
   | (with_reducible exact LeO.refl _)
   | (with_reducible exact LeO.none _)
   | (with_reducible refine LeO.ite ?_ ?_)
   | (with_reducible refine LeO.bind ?_ (fun _ => ?_))
   | exact ih0 _ _ _
   | exact laws_eqIntS.mono _ _ _
   | exact LeO.none _
   | refine LeO.ite ?_ ?_
   | refine LeO.bind ?_ (fun _ => ?_)
set_option maxHeartbeats 8000000 in
set_option maxRecDepth 100000 in
theorem laws_eqIntSS.calls (k : Nat) (A0 : Option Addr) (c0 : Nat) (l0 : List (List Int)) (A1 : Option Addr) (c1 : Nat) (l1 : List (List Int)) (r : Bool) (w : World) (hr0 : Kd.C (Kd.slice 3 (Kd.int .i64)) w A0 l0.length l0) (hc0 : l0.length ≤ c0) (hr1 : Kd.C (Kd.slice 3 (Kd.int .i64)) w A1 l1.length l1) (hc1 : l1.length ≤ c1) (h : laws_eqIntSS.f k l0 l1 = some r) :
  Calls Try.prog 11 #[.slice A0 l0.length c0, .slice A1 l1.length c1] w fun e w' => e = .returned (.bool r) ∧ Drawn0 w w' := by
 have HR0 := xm hr0
 have HC0 := xm hc0
 clear hr0 hc0
 have HR1 := xm hr1
 have HC1 := xm hc1
 clear hr1 hc1
 have H : (if (l0.length : Int) = (l1.length : Int) then (laws_eqIntSS.l0 k l0 l1 0) else (some false)) = some r := h
 clear h
 by_cases c3 : (l0.length : Int) = (l1.length : Int)
 ·rw [if_pos c3] at H
  have c3b0 : ((l0.length : Int) == (l1.length : Int)) = true := beq_iff_eq.mpr c3
  have c3b1 : ((l0.length : Int) != (l1.length : Int)) = false := bne_eq_false_iff_eq.mpr c3
  have c3b2 : (l0.length == l1.length) = true := by first | simpa using c3 | (simp at c3 ⊢; omega)
  clear c3
  have H' := xm H
  clear H
  go_enter Try.func11, Try.ntmps11
  go_wp2
  repeat (go_quiet (fail); try go_wp2)
  go_loopg [5] k (fun kq v5 w' => ∃ (x5_1 : Int), v5 = .int .i64 x5_1 ∧ Aside0 (laws_eqIntSS.l0 kq l0 l1 x5_1 = some r) ∧ Aside0 (kq ≤ k) ∧ Drawn0 w w')
  case atStart => exact ⟨(0), sB, H', ⟨Nat.le_refl _⟩, by repeat (first | exact Drawn0.refl _ | apply Drawn0.step)⟩
  case round =>
   clear H'
   try clear c1
   try clear p2
   try clear c3
   try clear c3b0 c3b1 c3b2
   obtain ⟨x5_1, rfl, HA, HK1, ⟨m1, rfl⟩⟩ := hrel
   cases gk with
   | zero => exact absurd HA.out (by simp [laws_eqIntSS.l0])
   | succ k1 =>
    have H := HA.out
    clear HA
    simp only [laws_eqIntSS.l0] at H
    by_cases c4 : x5_1 < (l0.length : Int)
    ·rw [if_pos c4] at H
     have c4b0 : decide (x5_1 < (l0.length : Int)) = true := decide_eq_true c4
     clear c4
     by_cases c5 : 0 ≤ x5_1
     ·rw [if_pos c5] at H
      have c5b0 : decide (0 ≤ x5_1) = true := decide_eq_true c5
      clear c5
      by_cases c6 : x5_1 < (l1.length : Int)
      ·rw [if_pos c6] at H
       have c6b0 : decide (x5_1 < (l1.length : Int)) = true := decide_eq_true c6
       clear c6
       replace H := Option.bind_eq_some_iff.mp H
       obtain ⟨t364, A70, H⟩ := H
       replace H : (if t364 = true then (laws_eqIntSS.l0 k1 l0 l1 (wrap64 (x5_1 + 1))) else (some false)) = some r := H
       have A7 := xm A70
       clear A70
       by_cases c8 : t364 = true
       ·subst c8
        have H1 : (laws_eqIntSS.l0 k1 l0 l1 (wrap64 (x5_1 + 1))) = some r := by first | (with_reducible rfl) | (rw [if_pos rfl] at H; exact H)
        clear H
        have H := H1
        clear H1
        have H' := xm H
        clear H
        have p362 : 0 ≤ (x5_1 : Int) := of_decide_eq_true aB
        have q362 : x5_1 < (l0.length : Int) := of_decide_eq_true aB
        obtain ⟨ad362, A362_0, c362_0, e362, hx362_0, hl362_0, hi362_0⟩ := at_L1 HR0.out x5_1 p362 q362
        cases e362
        have HR362_0 := xm hi362_0
        have HC362_0 := xm hl362_0
        clear hi362_0 hl362_0
        replace p362 := eq_true p362
        replace q362 := eq_true q362
        have p363 : 0 ≤ (x5_1 : Int) := of_decide_eq_true aB
        have q363 : x5_1 < (l1.length : Int) := of_decide_eq_true aB
        obtain ⟨ad363, A363_0, c363_0, e363, hx363_0, hl363_0, hi363_0⟩ := at_L1 HR1.out x5_1 p363 q363
        cases e363
        have HR363_0 := xm hi363_0
        have HC363_0 := xm hl363_0
        clear hi363_0 hl363_0
        replace p363 := eq_true p363
        replace q363 := eq_true q363
        go_wp2_with (first | (go_at_call 29; (with_reducible refine (laws_eqIntS.calls k1 _ _ (rd_L1 l0 x5_1) _ _ (rd_L1 l1 x5_1) true _ ?side1 ?side2 ?side3 ?side4 A7.out).mono ?_); (case side1 => repeat (first | exact HR362_0.out | (with_reducible refine Kd.C_alloc ?_ _) | (with_reducible refine Kd.C_drewN ?_ _) | (with_reducible refine Kd.C_drew ?_))); (case side2 => exact HC362_0.out); (case side3 => repeat (first | exact HR363_0.out | (with_reducible refine Kd.C_alloc ?_ _) | (with_reducible refine Kd.C_drewN ?_ _) | (with_reducible refine Kd.C_drew ?_))); (case side4 => exact HC363_0.out); rintro e w' ⟨rfl, ⟨nd, rfl⟩⟩; (try first | exact ⟨rfl, _, World.drewN_drewN _ _ _⟩ | exact ⟨rfl, _, Eq.trans (World.drewN_drewN _ _ _) (congrArg (World.drewN _) (Nat.add_assoc _ _ _))⟩)))
        repeat (go_quiet (first | (go_at_call 29; (with_reducible refine (laws_eqIntS.calls k1 _ _ (rd_L1 l0 x5_1) _ _ (rd_L1 l1 x5_1) true _ ?side1 ?side2 ?side3 ?side4 A7.out).mono ?_); (case side1 => repeat (first | exact HR362_0.out | (with_reducible refine Kd.C_alloc ?_ _) | (with_reducible refine Kd.C_drewN ?_ _) | (with_reducible refine Kd.C_drew ?_))); (case side2 => exact HC362_0.out); (case side3 => repeat (first | exact HR363_0.out | (with_reducible refine Kd.C_alloc ?_ _) | (with_reducible refine Kd.C_drewN ?_ _) | (with_reducible refine Kd.C_drew ?_))); (case side4 => exact HC363_0.out); rintro e w' ⟨rfl, ⟨nd, rfl⟩⟩; (try first | exact ⟨rfl, _, World.drewN_drewN _ _ _⟩ | exact ⟨rfl, _, Eq.trans (World.drewN_drewN _ _ _) (congrArg (World.drewN _) (Nat.add_assoc _ _ _))⟩))); try go_wp2_with (first | (go_at_call 29; (with_reducible refine (laws_eqIntS.calls k1 _ _ (rd_L1 l0 x5_1) _ _ (rd_L1 l1 x5_1) true _ ?side1 ?side2 ?side3 ?side4 A7.out).mono ?_); (case side1 => repeat (first | exact HR362_0.out | (with_reducible refine Kd.C_alloc ?_ _) | (with_reducible refine Kd.C_drewN ?_ _) | (with_reducible refine Kd.C_drew ?_))); (case side2 => exact HC362_0.out); (case side3 => repeat (first | exact HR363_0.out | (with_reducible refine Kd.C_alloc ?_ _) | (with_reducible refine Kd.C_drewN ?_ _) | (with_reducible refine Kd.C_drew ?_))); (case side4 => exact HC363_0.out); rintro e w' ⟨rfl, ⟨nd, rfl⟩⟩; (try first | exact ⟨rfl, _, World.drewN_drewN _ _ _⟩ | exact ⟨rfl, _, Eq.trans (World.drewN_drewN _ _ _) (congrArg (World.drewN _) (Nat.add_assoc _ _ _))⟩))))
        go_roundg k1
        case measure => have := HK1.out; omega
        case rel => exact ⟨(wrap64 (x5_1 + 1)), sB, H', ⟨by have := HK1.out; omega⟩, by repeat (first | exact Drawn0.refl _ | apply Drawn0.step)⟩
       ·replace c8 := Bool.eq_false_iff.mpr c8
        subst c8
        have H1 : (some false) = some r := by first | (with_reducible rfl) | (rw [if_neg (show ¬ (false = true) by decide)] at H; exact H)
        clear H
        have H := H1
        clear H1
        obtain rfl := Option.some.inj H
        have p362 : 0 ≤ (x5_1 : Int) := of_decide_eq_true aB
        have q362 : x5_1 < (l0.length : Int) := of_decide_eq_true aB
        obtain ⟨ad362, A362_0, c362_0, e362, hx362_0, hl362_0, hi362_0⟩ := at_L1 HR0.out x5_1 p362 q362
        cases e362
        have HR362_0 := xm hi362_0
        have HC362_0 := xm hl362_0
        clear hi362_0 hl362_0
        replace p362 := eq_true p362
        replace q362 := eq_true q362
        have p363 : 0 ≤ (x5_1 : Int) := of_decide_eq_true aB
        have q363 : x5_1 < (l1.length : Int) := of_decide_eq_true aB
        obtain ⟨ad363, A363_0, c363_0, e363, hx363_0, hl363_0, hi363_0⟩ := at_L1 HR1.out x5_1 p363 q363
        cases e363
        have HR363_0 := xm hi363_0
        have HC363_0 := xm hl363_0
        clear hi363_0 hl363_0
        replace p363 := eq_true p363
        replace q363 := eq_true q363
        go_wp2_with (first | (go_at_call 29; (with_reducible refine (laws_eqIntS.calls k1 _ _ (rd_L1 l0 x5_1) _ _ (rd_L1 l1 x5_1) false _ ?side1 ?side2 ?side3 ?side4 A7.out).mono ?_); (case side1 => repeat (first | exact HR362_0.out | (with_reducible refine Kd.C_alloc ?_ _) | (with_reducible refine Kd.C_drewN ?_ _) | (with_reducible refine Kd.C_drew ?_))); (case side2 => exact HC362_0.out); (case side3 => repeat (first | exact HR363_0.out | (with_reducible refine Kd.C_alloc ?_ _) | (with_reducible refine Kd.C_drewN ?_ _) | (with_reducible refine Kd.C_drew ?_))); (case side4 => exact HC363_0.out); rintro e w' ⟨rfl, ⟨nd, rfl⟩⟩; (try first | exact ⟨rfl, _, World.drewN_drewN _ _ _⟩ | exact ⟨rfl, _, Eq.trans (World.drewN_drewN _ _ _) (congrArg (World.drewN _) (Nat.add_assoc _ _ _))⟩)))
        repeat (go_quiet (first | (go_at_call 29; (with_reducible refine (laws_eqIntS.calls k1 _ _ (rd_L1 l0 x5_1) _ _ (rd_L1 l1 x5_1) false _ ?side1 ?side2 ?side3 ?side4 A7.out).mono ?_); (case side1 => repeat (first | exact HR362_0.out | (with_reducible refine Kd.C_alloc ?_ _) | (with_reducible refine Kd.C_drewN ?_ _) | (with_reducible refine Kd.C_drew ?_))); (case side2 => exact HC362_0.out); (case side3 => repeat (first | exact HR363_0.out | (with_reducible refine Kd.C_alloc ?_ _) | (with_reducible refine Kd.C_drewN ?_ _) | (with_reducible refine Kd.C_drew ?_))); (case side4 => exact HC363_0.out); rintro e w' ⟨rfl, ⟨nd, rfl⟩⟩; (try first | exact ⟨rfl, _, World.drewN_drewN _ _ _⟩ | exact ⟨rfl, _, Eq.trans (World.drewN_drewN _ _ _) (congrArg (World.drewN _) (Nat.add_assoc _ _ _))⟩))); try go_wp2_with (first | (go_at_call 29; (with_reducible refine (laws_eqIntS.calls k1 _ _ (rd_L1 l0 x5_1) _ _ (rd_L1 l1 x5_1) false _ ?side1 ?side2 ?side3 ?side4 A7.out).mono ?_); (case side1 => repeat (first | exact HR362_0.out | (with_reducible refine Kd.C_alloc ?_ _) | (with_reducible refine Kd.C_drewN ?_ _) | (with_reducible refine Kd.C_drew ?_))); (case side2 => exact HC362_0.out); (case side3 => repeat (first | exact HR363_0.out | (with_reducible refine Kd.C_alloc ?_ _) | (with_reducible refine Kd.C_drewN ?_ _) | (with_reducible refine Kd.C_drew ?_))); (case side4 => exact HC363_0.out); rintro e w' ⟨rfl, ⟨nd, rfl⟩⟩; (try first | exact ⟨rfl, _, World.drewN_drewN _ _ _⟩ | exact ⟨rfl, _, Eq.trans (World.drewN_drewN _ _ _) (congrArg (World.drewN _) (Nat.add_assoc _ _ _))⟩))))
        go_ret
        exact ⟨sB, dB⟩
      ·rw [if_neg c6] at H
       exact absurd H (by simp)
     ·rw [if_neg c5] at H
      exact absurd H (by simp)
    ·rw [if_neg c4] at H
     have c4b0 : decide (x5_1 < (l0.length : Int)) = false := decide_eq_false c4
     clear c4
     obtain rfl := Option.some.inj H
     go_wp2
     repeat (go_quiet (fail); try go_wp2)
     go_ret
     exact ⟨sB, dB⟩
 ·rw [if_neg c3] at H
  have c3b0 : ((l0.length : Int) == (l1.length : Int)) = false := beq_eq_false_iff_ne.mpr c3
  have c3b1 : ((l0.length : Int) != (l1.length : Int)) = true := bne_iff_ne.mpr c3
  have c3b2 : (l0.length == l1.length) = false := by first | simpa using c3 | (simp at c3 ⊢; omega)
  obtain rfl := Option.some.inj H
  go_enter Try.func11, Try.ntmps11
  go_wp2
  repeat (go_quiet (fail); try go_wp2)
  go_ret
  exact ⟨sB, dB⟩

/-! ### laws_FnExactIsLossless: function 3 -/
def laws_FnExactIsLossless.f (k : Nat) (l0 : List (S37)) (l1 : List (List Int)) (a2 : Int) : Option (Bool) := (laws_szDependS.f k l0 1048576).bind fun t365 => (if t365 < 0 then (some true) else ((laws_szIntSS.f k l1 t365).bind fun t366 => (if t366 < 0 then (some true) else ((laws_toDependS.f k l0).bind fun t367 => ((laws_toIntSS.f k l1).bind fun t370 => ((spec_IsLossless.f k t367 t370 a2).bind fun bt373 => ((laws_toDependS.f k l0).bind fun t375 => ((laws_toIntSS.f k l1).bind fun t378 => ((impl_IsLossless.f k t375 t378 a2).bind fun bt381 => (if (bt381.1 != bt373.1) = true then (some false) else (if (bt381.2 != bt373.2) = true then (some false) else ((laws_toDependS.f k l0).bind fun t383 => ((laws_eqDependS.f k t375 t383).bind fun t386 => (if t386 = true then ((laws_toIntSS.f k l1).bind fun t387 => ((laws_eqIntSS.f k t378 t387).bind fun t390 => (if t390 = true then (some true) else (some false)))) else (some false)))))))))))))))
theorem laws_FnExactIsLossless.mono : ∀ a0 a1 a2 k, LeO (laws_FnExactIsLossless.f k a0 a1 a2) (laws_FnExactIsLossless.f (k + 1) a0 a1 a2) := by
 intro a0 a1 a2 k
 unfold laws_FnExactIsLossless.f
 repeat' first
   | (with_reducible exact impl_IsLossless.mono _ _ _ _)
   | (with_reducible exact laws_eqDependS.mono _ _ _)
   | (with_reducible exact laws_eqIntSS.mono _ _ _)
   | (with_reducible exact laws_szDependS.mono _ _ _)
   | (with_reducible exact laws_szIntSS.mono _ _ _)
   | (with_reducible exact laws_toDependS.mono _ _)
   | (with_reducible exact laws_toIntSS.mono _ _)
   | (with_reducible exact spec_IsLossless.mono _ _ _ _)
   | (with_reducible exact LeO.refl _)
   | (with_reducible exact LeO.none _)
   | (with_reducible refine LeO.ite ?_ ?_)
   | (with_reducible refine LeO.bind ?_ (fun _ => ?_))
   | exact impl_IsLossless.mono _ _ _ _
   | exact laws_eqDependS.mono _ _ _
   | exact laws_eqIntSS.mono _ _ _
   | exact laws_szDependS.mono _ _ _
   | exact laws_szIntSS.mono _ _ _
   | exact laws_toDependS.mono _ _
   | exact laws_toIntSS.mono _ _
   | exact spec_IsLossless.mono _ _ _ _
   | exact LeO.none _
   | refine LeO.ite ?_ ?_
   | refine LeO.bind ?_ (fun _ => ?_)
set_option maxHeartbeats 8000000 in
set_option maxRecDepth 100000 in
theorem laws_FnExactIsLossless.calls (k : Nat) (A0 : Option Addr) (c0 : Nat) (l0 : List (S37)) (A1 : Option Addr) (c1 : Nat) (l1 : List (List Int)) (a2 : Int) (w : World) (hr0 : Kd.C k37 w A0 l0.length l0) (hc0 : l0.length ≤ c0) (hr1 : Kd.C (Kd.slice 3 (Kd.int .i64)) w A1 l1.length l1) (hc1 : l1.length ≤ c1) (h : laws_FnExactIsLossless.f k l0 l1 a2 = some true) :
  Calls Try.prog 3 #[.slice A0 l0.length c0, .slice A1 l1.length c1, .int .i64 a2] w fun e w' => e = .returned (.bool true) ∧ Below w.heap.size w w' := by
 have HR0 := xm hr0
 have HC0 := xm hc0
 clear hr0 hc0
 have HR1 := xm hr1
 have HC1 := xm hc1
 clear hr1 hc1
 have HB := xm (Below.refl w.heap.size w)
 have H : ((laws_szDependS.f k l0 1048576).bind fun t365 => (if t365 < 0 then (some true) else ((laws_szIntSS.f k l1 t365).bind fun t366 => (if t366 < 0 then (some true) else ((laws_toDependS.f k l0).bind fun t367 => ((laws_toIntSS.f k l1).bind fun t370 => ((spec_IsLossless.f k t367 t370 a2).bind fun bt373 => ((laws_toDependS.f k l0).bind fun t375 => ((laws_toIntSS.f k l1).bind fun t378 => ((impl_IsLossless.f k t375 t378 a2).bind fun bt381 => (if (bt381.1 != bt373.1) = true then (some false) else (if (bt381.2 != bt373.2) = true then (some false) else ((laws_toDependS.f k l0).bind fun t383 => ((laws_eqDependS.f k t375 t383).bind fun t386 => (if t386 = true then ((laws_toIntSS.f k l1).bind fun t387 => ((laws_eqIntSS.f k t378 t387).bind fun t390 => (if t390 = true then (some true) else (some false)))) else (some false)))))))))))))))) = some true := h
 clear h
 replace H := Option.bind_eq_some_iff.mp H
 obtain ⟨t365, A40, H⟩ := H
 (try dsimp only at H)
 have A4 := xm A40
 clear A40
 by_cases c5 : t365 < 0
 ·rw [if_pos c5] at H
  have c5b0 : decide (t365 < 0) = true := decide_eq_true c5
  clear c5
  clear H
  go_enter Try.func3, Try.ntmps3
  go_wp2_with (first | ((with_reducible refine gate_callee (f := 4) rfl ?_); refine goesL_ (some 16) rfl rfl Try.func4 (by kernel_rfl) rfl #[.slice A0 l0.length c0, .int .i64 1048576] rfl mB ?_; (with_reducible refine (laws_szDependS.calls k _ _ l0 1048576 t365 _ ?side1 ?side2 A4.out).mono ?_); (case side1 => repeat (first | exact HR0.out | (with_reducible refine Kd.C_alloc ?_ _) | (with_reducible refine Kd.C_drewN ?_ _) | (with_reducible refine Kd.C_drew ?_))); (case side2 => exact HC0.out); rintro e w6 ⟨rfl, hb⟩; refine ⟨_, rfl, ?_⟩; have n0_ := xm (below_step bB hb); revert n0_; clear HB; intro HB; (try clear hb)))
  go_ret
  exact ⟨eB, bG⟩
 ·rw [if_neg c5] at H
  have c5b0 : decide (t365 < 0) = false := decide_eq_false c5
  clear c5
  replace H := Option.bind_eq_some_iff.mp H
  obtain ⟨t366, A70, H⟩ := H
  (try dsimp only at H)
  have A7 := xm A70
  clear A70
  by_cases c8 : t366 < 0
  ·rw [if_pos c8] at H
   have c8b0 : decide (t366 < 0) = true := decide_eq_true c8
   clear c8
   clear H
   go_enter Try.func3, Try.ntmps3
   go_wp2_with (first | ((with_reducible refine gate_callee (f := 4) rfl ?_); refine goesL_ (some 16) rfl rfl Try.func4 (by kernel_rfl) rfl #[.slice A0 l0.length c0, .int .i64 1048576] rfl mB ?_; (with_reducible refine (laws_szDependS.calls k _ _ l0 1048576 t365 _ ?side1 ?side2 A4.out).mono ?_); (case side1 => repeat (first | exact HR0.out | (with_reducible refine Kd.C_alloc ?_ _) | (with_reducible refine Kd.C_drewN ?_ _) | (with_reducible refine Kd.C_drew ?_))); (case side2 => exact HC0.out); rintro e w9 ⟨rfl, hb⟩; refine ⟨_, rfl, ?_⟩; have n0_ := xm (below_step bB hb); revert n0_; clear HB; intro HB; (try clear hb)) | ((with_reducible refine gate_callee (f := 5) rfl ?_); refine goesL_ (some 21) rfl rfl Try.func5 (by kernel_rfl) rfl #[.slice A1 l1.length c1, .int .i64 t365] rfl mB ?_; (with_reducible refine (laws_szIntSS.calls k _ _ l1 t365 t366 _ ?side1 ?side2 A7.out).mono ?_); (case side1 => exact cB (Kd.C_below HR1.out HB.out)); (case side2 => exact HC1.out); rintro e w' ⟨rfl, ⟨nd, rfl⟩⟩; refine ⟨_, rfl, ?_⟩))
   go_ret
   exact ⟨eB, bG⟩
  ·rw [if_neg c8] at H
   have c8b0 : decide (t366 < 0) = false := decide_eq_false c8
   clear c8
   replace H := Option.bind_eq_some_iff.mp H
   obtain ⟨t367, A100, H⟩ := H
   (try dsimp only at H)
   have A10 := xm A100
   clear A100
   replace H := Option.bind_eq_some_iff.mp H
   obtain ⟨t370, A110, H⟩ := H
   (try dsimp only at H)
   have A11 := xm A110
   clear A110
   replace H := Option.bind_eq_some_iff.mp H
   obtain ⟨⟨t373, t374⟩, A120, H⟩ := H
   (try dsimp only at H)
   have A12 := xm A120
   clear A120
   replace H := Option.bind_eq_some_iff.mp H
   obtain ⟨t375, A130, H⟩ := H
   (try dsimp only at H)
   have A13 := xm A130
   clear A130
   replace H := Option.bind_eq_some_iff.mp H
   obtain ⟨t378, A140, H⟩ := H
   (try dsimp only at H)
   have A14 := xm A140
   clear A140
   replace H := Option.bind_eq_some_iff.mp H
   obtain ⟨⟨t381, t382⟩, A150, H⟩ := H
   (try dsimp only at H)
   have A15 := xm A150
   clear A150
   by_cases c16 : (t381 != t373) = true
   ·rw [if_pos c16] at H
    have c16b0 : (t381 != t373) = true := c16
    (try (have c16b1 : decide (t381 = t373) = false := by simpa using c16))
    (try (have c16b2 : (t381 == t373) = false := by simpa using c16))
    (try (have c16b3 : ¬ (t381 = t373) := by simpa using c16))
    clear c16
    exact absurd H (by simp)
   ·rw [if_neg c16] at H
    have c16b0 : (t381 != t373) = false := by simpa using c16
    (try (have c16b1 : decide (t381 = t373) = true := by simpa using c16))
    (try (have c16b2 : (t381 == t373) = true := by simpa using c16))
    clear c16
    by_cases c17 : (t382 != t374) = true
    ·rw [if_pos c17] at H
     have c17b0 : (t382 != t374) = true := c17
     (try (have c17b1 : decide (t382 = t374) = false := by simpa using c17))
     (try (have c17b2 : (t382 == t374) = false := by simpa using c17))
     (try (have c17b3 : ¬ (t382 = t374) := by simpa using c17))
     clear c17
     exact absurd H (by simp)
    ·rw [if_neg c17] at H
     have c17b0 : (t382 != t374) = false := by simpa using c17
     (try (have c17b1 : decide (t382 = t374) = true := by simpa using c17))
     (try (have c17b2 : (t382 == t374) = true := by simpa using c17))
     clear c17
     replace H := Option.bind_eq_some_iff.mp H
     obtain ⟨t383, A180, H⟩ := H
     (try dsimp only at H)
     have A18 := xm A180
     clear A180
     replace H := Option.bind_eq_some_iff.mp H
     obtain ⟨t386, A190, H⟩ := H
     (try dsimp only at H)
     have A19 := xm A190
     clear A190
     by_cases c20 : t386 = true
     ·subst c20
      have H1 : ((laws_toIntSS.f k l1).bind fun t387 => ((laws_eqIntSS.f k t378 t387).bind fun t390 => (if t390 = true then (some true) else (some false)))) = some true := by first | (with_reducible rfl) | (rw [if_pos rfl] at H; exact H)
      clear H
      have H := H1
      clear H1
      replace H := Option.bind_eq_some_iff.mp H
      obtain ⟨t387, A210, H⟩ := H
      (try dsimp only at H)
      have A21 := xm A210
      clear A210
      replace H := Option.bind_eq_some_iff.mp H
      obtain ⟨t390, A220, H⟩ := H
      (try dsimp only at H)
      have A22 := xm A220
      clear A220
      by_cases c23 : t390 = true
      ·subst c23
       have H1 : (some true) = some true := by first | (with_reducible rfl) | (rw [if_pos rfl] at H; exact H)
       clear H
       have H := H1
       clear H1
       clear H
       go_enter Try.func3, Try.ntmps3
       go_wp2_with (first | ((with_reducible refine gate_callee (f := 4) rfl ?_); refine goesL_ (some 16) rfl rfl Try.func4 (by kernel_rfl) rfl #[.slice A0 l0.length c0, .int .i64 1048576] rfl mB ?_; (with_reducible refine (laws_szDependS.calls k _ _ l0 1048576 t365 _ ?side1 ?side2 A4.out).mono ?_); (case side1 => repeat (first | exact HR0.out | (with_reducible refine Kd.C_alloc ?_ _) | (with_reducible refine Kd.C_drewN ?_ _) | (with_reducible refine Kd.C_drew ?_))); (case side2 => exact HC0.out); rintro e w24 ⟨rfl, hb⟩; refine ⟨_, rfl, ?_⟩; have n0_ := xm (below_step bB hb); revert n0_; clear HB; intro HB; (try clear hb)) | ((with_reducible refine gate_callee (f := 5) rfl ?_); refine goesL_ (some 21) rfl rfl Try.func5 (by kernel_rfl) rfl #[.slice A1 l1.length c1, .int .i64 t365] rfl mB ?_; (with_reducible refine (laws_szIntSS.calls k _ _ l1 t365 t366 _ ?side1 ?side2 A7.out).mono ?_); (case side1 => exact cB (Kd.C_below HR1.out HB.out)); (case side2 => exact HC1.out); rintro e w' ⟨rfl, ⟨nd, rfl⟩⟩; refine ⟨_, rfl, ?_⟩) | ((with_reducible refine gate_callee (f := 7) rfl ?_); refine goesL_ (some 26) rfl rfl Try.func7 (by kernel_rfl) rfl #[.slice A0 l0.length c0] rfl mB ?_; (with_reducible refine (laws_toDependS.calls k _ _ l0 t367 _ ?side1 ?side2 A10.out).mono ?_); (case side1 => repeat (first | exact (Kd.C_below HR0.out bB) | (with_reducible refine Kd.C_alloc ?_ _) | (with_reducible refine Kd.C_drewN ?_ _) | (with_reducible refine Kd.C_drew ?_))); (case side2 => exact HC0.out); rintro e w25 ⟨v368, rfl, ho0, hb⟩; refine ⟨_, rfl, ?_⟩; have n0_ := xm (Kd.S_lower ho0 (xz bB)); have n1_ := xm (below_step bB hb); revert n0_ n1_; clear HB; intro HO369 HB; (try clear hb); (try clear ho0)) | ((with_reducible refine gate_callee (f := 8) rfl ?_); refine goesL_ (some 28) rfl rfl Try.func8 (by kernel_rfl) rfl #[.slice A1 l1.length c1] rfl mB ?_; (with_reducible refine (laws_toIntSS.calls k _ _ l1 t370 _ ?side1 ?side2 A11.out).mono ?_); (case side1 => exact cB (Kd.C_below HR1.out HB.out)); (case side2 => exact HC1.out); rintro e w26 ⟨v371, rfl, ho0, hb⟩; refine ⟨_, rfl, ?_⟩; have n0_ := xm (Kd.S_below (tB HO369) hb); have n1_ := xm (Kd.S_lower ho0 (xz bB)); have n2_ := xm (below_step bB hb); revert n0_ n1_ n2_; clear HO369 HB; intro HO369 HO372 HB; (try clear hb); (try clear ho0); obtain ⟨Ao27, co27, eo27⟩ := Kd.S_slice HO369.out; subst eo27; obtain ⟨Ao28, co28, eo28⟩ := Kd.S_slice HO372.out; subst eo28) | ((with_reducible refine gate_callee (f := 6) rfl ?_); refine goesL_ (some 30) rfl rfl Try.func6 (by kernel_rfl) rfl #[.slice Ao27 t367.length co27, .slice Ao28 t370.length co28, .int .i64 a2] rfl mB ?_; (with_reducible refine (spec_IsLossless.calls k _ _ t367 _ _ t370 a2 t373 t374 _ ?side1 ?side2 ?side3 ?side4 A12.out).mono ?_); (case side1 => repeat (first | exact (Kd.S_reads' HO369.out).2.2 | (with_reducible refine Kd.C_alloc ?_ _) | (with_reducible refine Kd.C_drewN ?_ _) | (with_reducible refine Kd.C_drew ?_))); (case side2 => exact (Kd.S_reads' HO369.out).2.1); (case side3 => repeat (first | exact (Kd.S_reads' HO372.out).2.2 | (with_reducible refine Kd.C_alloc ?_ _) | (with_reducible refine Kd.C_drewN ?_ _) | (with_reducible refine Kd.C_drew ?_))); (case side4 => exact (Kd.S_reads' HO372.out).2.1); rintro e w29 ⟨rfl, hb⟩; refine ⟨_, rfl, ?_⟩; have n0_ := xm (Kd.S_below (tB HO369) hb); have n1_ := xm (Kd.S_below (tB HO372) hb); have n2_ := xm (below_step bB hb); revert n0_ n1_ n2_; clear HO369 HO372 HB; intro HO369 HO372 HB; (try clear hb)) | ((with_reducible refine gate_callee (f := 7) rfl ?_); refine goesL_ (some 34) rfl rfl Try.func7 (by kernel_rfl) rfl #[.slice A0 l0.length c0] rfl mB ?_; (with_reducible refine (laws_toDependS.calls k _ _ l0 t375 _ ?side1 ?side2 A13.out).mono ?_); (case side1 => exact cB (Kd.C_below HR0.out HB.out)); (case side2 => exact HC0.out); rintro e w30 ⟨v376, rfl, ho0, hb⟩; refine ⟨_, rfl, ?_⟩; have n0_ := xm (Kd.S_elder' (tB HO369) (Kd.S_base ho0) hb); have n1_ := xm (Kd.S_below (tB HO372) hb); have n2_ := xm (Kd.S_lower (Kd.S_new' ho0 (Kd.S_lt (tB HO369))) (xz bB)); have n3_ := xm (below_step bB hb); revert n0_ n1_ n2_ n3_; clear HO369 HO372 HB; intro HO369 HO372 HO377 HB; (try clear hb); (try clear ho0)) | ((with_reducible refine gate_callee (f := 8) rfl ?_); refine goesL_ (some 36) rfl rfl Try.func8 (by kernel_rfl) rfl #[.slice A1 l1.length c1] rfl mB ?_; (with_reducible refine (laws_toIntSS.calls k _ _ l1 t378 _ ?side1 ?side2 A14.out).mono ?_); (case side1 => exact cB (Kd.C_below HR1.out HB.out)); (case side2 => exact HC1.out); rintro e w31 ⟨v379, rfl, ho0, hb⟩; refine ⟨_, rfl, ?_⟩; have n0_ := xm (Kd.S_below (tB HO369) hb); have n1_ := xm (Kd.S_elder' (tB HO372) (Kd.S_base ho0) hb); have n2_ := xm (Kd.S_below (tB HO377) hb); have n3_ := xm (Kd.S_lower (Kd.S_new' ho0 (Kd.S_lt (tB HO372))) (xz bB)); have n4_ := xm (below_step bB hb); revert n0_ n1_ n2_ n3_ n4_; clear HO369 HO372 HO377 HB; intro HO369 HO372 HO377 HO380 HB; (try clear hb); (try clear ho0); obtain ⟨Ao32, co32, eo32⟩ := Kd.S_slice HO377.out; subst eo32; obtain ⟨Ao33, co33, eo33⟩ := Kd.S_slice HO380.out; subst eo33) | ((with_reducible refine gate_callee (f := 9) rfl ?_); refine goesL_ (some 41) rfl rfl Try.func9 (by kernel_rfl) rfl #[.slice Ao32 t375.length co32, .slice Ao33 t378.length co33, .int .i64 a2] rfl mB ?_; (with_reducible refine (impl_IsLossless.calls k _ _ t375 _ _ t378 a2 t381 t382 _ ?side1 ?side2 ?side3 ?side4 A15.out).mono ?_); (case side1 => repeat (first | exact (Kd.S_reads' HO377.out).2.2 | (with_reducible refine Kd.C_alloc ?_ _) | (with_reducible refine Kd.C_drewN ?_ _) | (with_reducible refine Kd.C_drew ?_))); (case side2 => exact (Kd.S_reads' HO377.out).2.1); (case side3 => repeat (first | exact (Kd.S_reads' HO380.out).2.2 | (with_reducible refine Kd.C_alloc ?_ _) | (with_reducible refine Kd.C_drewN ?_ _) | (with_reducible refine Kd.C_drew ?_))); (case side4 => exact (Kd.S_reads' HO380.out).2.1); rintro e w34 ⟨rfl, hb⟩; refine ⟨_, rfl, ?_⟩; have n0_ := xm (Kd.S_below (tB HO369) hb); have n1_ := xm (Kd.S_below (tB HO372) hb); have n2_ := xm (Kd.S_below (tB HO377) hb); have n3_ := xm (Kd.S_below (tB HO380) hb); have n4_ := xm (below_step bB hb); revert n0_ n1_ n2_ n3_ n4_; clear HO369 HO372 HO377 HO380 HB; intro HO369 HO372 HO377 HO380 HB; (try clear hb)) | ((with_reducible refine gate_callee (f := 7) rfl ?_); refine goesL_ (some 54) rfl rfl Try.func7 (by kernel_rfl) rfl #[.slice A0 l0.length c0] rfl mB ?_; (with_reducible refine (laws_toDependS.calls k _ _ l0 t383 _ ?side1 ?side2 A18.out).mono ?_); (case side1 => exact cB (Kd.C_below HR0.out HB.out)); (case side2 => exact HC0.out); rintro e w35 ⟨v384, rfl, ho0, hb⟩; refine ⟨_, rfl, ?_⟩; have n0_ := xm (Kd.S_elder' (tB HO369) (Kd.S_base ho0) hb); have n1_ := xm (Kd.S_below (tB HO372) hb); have n2_ := xm (Kd.S_elder' (tB HO377) (Kd.S_base ho0) hb); have n3_ := xm (Kd.S_below (tB HO380) hb); have n4_ := xm (Kd.S_lower (Kd.S_new' (Kd.S_new' ho0 (Kd.S_lt (tB HO369))) (Kd.S_lt (tB HO377))) (xz bB)); have n5_ := xm (below_step bB hb); revert n0_ n1_ n2_ n3_ n4_ n5_; clear HO369 HO372 HO377 HO380 HB; intro HO369 HO372 HO377 HO380 HO385 HB; (try clear hb); (try clear ho0); obtain ⟨Ao36, co36, eo36⟩ := Kd.S_slice HO385.out; subst eo36) | ((with_reducible refine gate_callee (f := 10) rfl ?_); refine goesL_ (some 55) rfl rfl Try.func10 (by kernel_rfl) rfl #[.slice Ao32 t375.length co32, .slice Ao36 t383.length co36] rfl mB ?_; (with_reducible refine (laws_eqDependS.calls k _ _ t375 _ _ t383 true _ ?side1 ?side2 ?side3 ?side4 A19.out).mono ?_); (case side1 => repeat (first | exact (Kd.S_reads' HO377.out).2.2 | (with_reducible refine Kd.C_alloc ?_ _) | (with_reducible refine Kd.C_drewN ?_ _) | (with_reducible refine Kd.C_drew ?_))); (case side2 => exact (Kd.S_reads' HO377.out).2.1); (case side3 => repeat (first | exact (Kd.S_reads' HO385.out).2.2 | (with_reducible refine Kd.C_alloc ?_ _) | (with_reducible refine Kd.C_drewN ?_ _) | (with_reducible refine Kd.C_drew ?_))); (case side4 => exact (Kd.S_reads' HO385.out).2.1); rintro e w37 ⟨rfl, hb⟩; refine ⟨_, rfl, ?_⟩; have n0_ := xm (Kd.S_below (tB HO369) hb); have n1_ := xm (Kd.S_below (tB HO372) hb); have n2_ := xm (Kd.S_below (tB HO377) hb); have n3_ := xm (Kd.S_below (tB HO380) hb); have n4_ := xm (Kd.S_below (tB HO385) hb); have n5_ := xm (below_step bB hb); revert n0_ n1_ n2_ n3_ n4_ n5_; clear HO369 HO372 HO377 HO380 HO385 HB; intro HO369 HO372 HO377 HO380 HO385 HB; (try clear hb)) | ((with_reducible refine gate_callee (f := 8) rfl ?_); refine goesL_ (some 59) rfl rfl Try.func8 (by kernel_rfl) rfl #[.slice A1 l1.length c1] rfl mB ?_; (with_reducible refine (laws_toIntSS.calls k _ _ l1 t387 _ ?side1 ?side2 A21.out).mono ?_); (case side1 => exact cB (Kd.C_below HR1.out HB.out)); (case side2 => exact HC1.out); rintro e w38 ⟨v388, rfl, ho0, hb⟩; refine ⟨_, rfl, ?_⟩; have n0_ := xm (Kd.S_below (tB HO369) hb); have n1_ := xm (Kd.S_elder' (tB HO372) (Kd.S_base ho0) hb); have n2_ := xm (Kd.S_below (tB HO377) hb); have n3_ := xm (Kd.S_elder' (tB HO380) (Kd.S_base ho0) hb); have n4_ := xm (Kd.S_below (tB HO385) hb); have n5_ := xm (Kd.S_lower (Kd.S_new' (Kd.S_new' ho0 (Kd.S_lt (tB HO372))) (Kd.S_lt (tB HO380))) (xz bB)); have n6_ := xm (below_step bB hb); revert n0_ n1_ n2_ n3_ n4_ n5_ n6_; clear HO369 HO372 HO377 HO380 HO385 HB; intro HO369 HO372 HO377 HO380 HO385 HO389 HB; (try clear hb); (try clear ho0); obtain ⟨Ao39, co39, eo39⟩ := Kd.S_slice HO389.out; subst eo39) | ((with_reducible refine gate_callee (f := 11) rfl ?_); refine goesL_ (some 60) rfl rfl Try.func11 (by kernel_rfl) rfl #[.slice Ao33 t378.length co33, .slice Ao39 t387.length co39] rfl mB ?_; (with_reducible refine (laws_eqIntSS.calls k _ _ t378 _ _ t387 true _ ?side1 ?side2 ?side3 ?side4 A22.out).mono ?_); (case side1 => repeat (first | exact (Kd.S_reads' HO380.out).2.2 | (with_reducible refine Kd.C_alloc ?_ _) | (with_reducible refine Kd.C_drewN ?_ _) | (with_reducible refine Kd.C_drew ?_))); (case side2 => exact (Kd.S_reads' HO380.out).2.1); (case side3 => repeat (first | exact (Kd.S_reads' HO389.out).2.2 | (with_reducible refine Kd.C_alloc ?_ _) | (with_reducible refine Kd.C_drewN ?_ _) | (with_reducible refine Kd.C_drew ?_))); (case side4 => exact (Kd.S_reads' HO389.out).2.1); rintro e w' ⟨rfl, ⟨nd, rfl⟩⟩; refine ⟨_, rfl, ?_⟩))
       go_ret
       exact ⟨eB, bG⟩
      ·replace c23 := Bool.eq_false_iff.mpr c23
       subst c23
       have H1 : (some false) = some true := by first | (with_reducible rfl) | (rw [if_neg (show ¬ (false = true) by decide)] at H; exact H)
       clear H
       have H := H1
       clear H1
       exact absurd H (by simp)
     ·replace c20 := Bool.eq_false_iff.mpr c20
      subst c20
      have H1 : (some false) = some true := by first | (with_reducible rfl) | (rw [if_neg (show ¬ (false = true) by decide)] at H; exact H)
      clear H
      have H := H1
      clear H1
      exact absurd H (by simp)

/-- THE ONE PURE STATEMENT of laws_FnExactIsLossless. -/
def laws_FnExactIsLossless.Pure : Prop := ∀ x0 : List (S37), (x0.length ≤ 9223372036854775807 ∧ ∀ x0_ ∈ x0, wf37 x0_) → ∀ x1 : List (List Int), (x1.length ≤ 9223372036854775807 ∧ ∀ x0_ ∈ x1, (x0_.length ≤ 9223372036854775807 ∧ ∀ x1_ ∈ x0_, (-9223372036854775808 ≤ x1_ ∧ x1_ ≤ 9223372036854775807))) → ∀ x2 : Int, (-9223372036854775808 ≤ x2 ∧ x2 ≤ 9223372036854775807) → ∃ k, laws_FnExactIsLossless.f k x0 x1 x2 = some true

end Go.Proofs.Ytmelechhnimlnad.G
