/- Written by a program of this claim's own, out of the translation: functions of the program as plain functions, and that the calls answer as these. No conditions. -/
import Derived.Test.YtpbpglbldgpckaaG0
import Derived.Test.YtpbpglbldgpckaaG1
import Derived.Test.YtpbpglbldgpckaaG3
import Derived.Test.YtpbpglbldgpckaaG5
import Derived.Test.YtpbpglbldgpckaaG7
namespace Go.Proofs.Ytpbpglbldgpckaa.G
open Go.RowKit Go.Proofs.Ytpbpglbldgpckaa.X Go.Proofs.YtpbpglbldgpckaaW.PrintWords Go.Proofs.YtpbpglbldgpckaaW.PrintLast Go.Proofs.YtpbpglbldgpckaaW.PrintMore
attribute [local go_sem] max2_int min2_int max_two min_two max_three min_three max_four min_four   -- for this text's walks alone
set_option linter.unusedVariables false
set_option linter.unusedSimpArgs false

/-! ### laws_heldIntS: function 62 -/
def laws_heldIntS.l0 : Nat → List Int → Int → Int → Option (Int)
 | 0, _, _, _ => none
 | k + 1, x0, x1, x5 => if x5 < (x0.length : Int) then (if 0 ≤ x5 then (if (rd x0 x5) = x1 then (laws_heldIntS.l0 k x0 (wrap64 (x1 + 1)) (wrap64 (x5 + 1))) else (some (-1))) else (none)) else (some x1)
def laws_heldIntS.f (k : Nat) (l0 : List Int) (a1 : Int) : Option (Int) := laws_heldIntS.l0 k l0 a1 0
theorem laws_heldIntS.mono_l : ∀ k, (∀ y0 y1 y2, LeO (laws_heldIntS.l0 k y0 y1 y2) (laws_heldIntS.l0 (k + 1) y0 y1 y2))
 | 0 => fun _ _ _ r h => by simp [laws_heldIntS.l0] at h
 | k + 1 => by
  have ih0 := laws_heldIntS.mono_l k
  ·intro y0 y1 y2
   unfold laws_heldIntS.l0
   repeat' first
   | (with_reducible exact ih0 _ _ _)
   | (with_reducible exact LeO.refl _)
   | (with_reducible exact LeO.none _)
   | (with_reducible refine LeO.ite ?_ ?_)
   | (with_reducible refine LeO.bind ?_ (fun _ => ?_))
   | exact ih0 _ _ _
   | exact LeO.none _
   | refine LeO.ite ?_ ?_
   | refine LeO.bind ?_ (fun _ => ?_)
theorem laws_heldIntS.mono : ∀ a0 a1 k, LeO (laws_heldIntS.f k a0 a1) (laws_heldIntS.f (k + 1) a0 a1) := by
 intro a0 a1 k
 have ih0 := laws_heldIntS.mono_l k
 unfold laws_heldIntS.f
 repeat' first
   | (with_reducible exact ih0 _ _ _)
   | (with_reducible exact LeO.refl _)
   | (with_reducible exact LeO.none _)
   | (with_reducible refine LeO.ite ?_ ?_)
   | (with_reducible refine LeO.bind ?_ (fun _ => ?_))
   | exact ih0 _ _ _
   | exact LeO.none _
   | refine LeO.ite ?_ ?_
   | refine LeO.bind ?_ (fun _ => ?_)
set_option maxHeartbeats 8000000 in
set_option maxRecDepth 100000 in
theorem laws_heldIntS.calls (k : Nat) (A0 : Option Addr) (c0 : Nat) (l0 : List Int) (a1 : Int) (r : Int) (w : World) (hr0 : Kd.C (Kd.int .i64) w A0 l0.length l0) (hc0 : l0.length ≤ c0) (h : laws_heldIntS.f k l0 a1 = some r) :
  Calls Try.prog 62 #[.slice A0 l0.length c0, .int .i64 a1] w fun e w' => e = .returned (.int .i64 r) ∧ Drawn0 w w' := by
 have HR0 := xm hr0
 have HC0 := xm hc0
 clear hr0 hc0
 have H : (laws_heldIntS.l0 k l0 a1 0) = some r := h
 clear h
 have H' := xm H
 clear H
 go_enter Try.func62, Try.ntmps62
 go_wp2
 go_loopg [1, 5] k (fun kq v1 v5 w' => ∃ (x1_1 : Int) (x5_1 : Int), v1 = .int .i64 x1_1 ∧ v5 = .int .i64 x5_1 ∧ Aside0 (laws_heldIntS.l0 kq l0 x1_1 x5_1 = some r) ∧ Aside0 (kq ≤ k) ∧ Drawn0 w w')
 case atStart => exact ⟨(a1), (0), (by first | rfl | (simp; done) | (simp [*]; done)), (by first | rfl | (simp; done) | (simp [*]; done)), H', ⟨Nat.le_refl _⟩, by repeat (first | exact Drawn0.refl _ | apply Drawn0.step)⟩
 case round =>
  clear H'
  try clear p2
  obtain ⟨x1_1, x5_1, rfl, rfl, HA, HK1, ⟨m1, rfl⟩⟩ := hrel
  cases gk with
  | zero => exact absurd HA.out (by simp [laws_heldIntS.l0])
  | succ k1 =>
   have H := HA.out
   clear HA
   simp only [laws_heldIntS.l0] at H
   by_cases c3 : x5_1 < (l0.length : Int)
   ·rw [if_pos c3] at H
    have c3b0 : decide (x5_1 < (l0.length : Int)) = true := decide_eq_true c3
    clear c3
    by_cases c4 : 0 ≤ x5_1
    ·rw [if_pos c4] at H
     have c4b0 : decide (0 ≤ x5_1) = true := decide_eq_true c4
     clear c4
     by_cases c5 : (rd l0 x5_1) = x1_1
     ·rw [if_pos c5] at H
      have c5b0 : ((rd l0 x5_1) == x1_1) = true := beq_iff_eq.mpr c5
      have c5b1 : ((rd l0 x5_1) != x1_1) = false := bne_eq_false_iff_eq.mpr c5
      clear c5
      have H' := xm H
      clear H
      have p196 : 0 ≤ (x5_1 : Int) := of_decide_eq_true aB
      have q196 : x5_1 < (l0.length : Int) := of_decide_eq_true aB
      obtain ⟨ad196, e196, hx196_0⟩ := Kd.at_int HR0.out x5_1 p196 q196
      cases e196
      replace p196 := eq_true p196
      replace q196 := eq_true q196
      go_wp2
      go_roundg k1
      case measure => have := HK1.out; omega
      case rel => exact ⟨(wrap64 (x1_1 + 1)), (wrap64 (x5_1 + 1)), (by first | rfl | (simp; done) | (simp [*]; done)), (by first | rfl | (simp; done) | (simp [*]; done)), H', ⟨by have := HK1.out; omega⟩, by repeat (first | exact Drawn0.refl _ | apply Drawn0.step)⟩
     ·rw [if_neg c5] at H
      have c5b0 : ((rd l0 x5_1) == x1_1) = false := beq_eq_false_iff_ne.mpr c5
      have c5b1 : ((rd l0 x5_1) != x1_1) = true := bne_iff_ne.mpr c5
      obtain rfl := Option.some.inj H
      have p196 : 0 ≤ (x5_1 : Int) := of_decide_eq_true aB
      have q196 : x5_1 < (l0.length : Int) := of_decide_eq_true aB
      obtain ⟨ad196, e196, hx196_0⟩ := Kd.at_int HR0.out x5_1 p196 q196
      cases e196
      replace p196 := eq_true p196
      replace q196 := eq_true q196
      go_wp2
      go_ret
      exact ⟨by first | rfl | (simp; done) | (simp [*]; done), by repeat (first | exact Drawn0.refl _ | apply Drawn0.step)⟩
    ·rw [if_neg c4] at H
     exact absurd H (by simp)
   ·rw [if_neg c3] at H
    have c3b0 : decide (x5_1 < (l0.length : Int)) = false := decide_eq_false c3
    clear c3
    obtain rfl := Option.some.inj H
    go_wp2
    go_ret
    exact ⟨by first | rfl | (simp; done) | (simp [*]; done), by repeat (first | exact Drawn0.refl _ | apply Drawn0.step)⟩

/-! ### laws_heldWireS: function 141 -/
def laws_heldWireS.l0 : Nat → List (S140) → Int → Int → Option (Int)
 | 0, _, _, _ => none
 | k + 1, x0, x1, x5 => if x5 < (x0.length : Int) then (if 0 ≤ x5 then ((laws_heldIntS.f k ((rd_T140 x0 x5).f0) x1).bind fun t198 => (if t198 < 0 then (some (-1)) else ((laws_heldIntS.f k ((rd_T140 x0 x5).f1) t198).bind fun t200 => (if t200 < 0 then (some (-1)) else (if (((rd_T140 x0 x5).f2) != ((Int.tmod t200 3) == 0)) = true then (some (-1)) else (laws_heldWireS.l0 k x0 (wrap64 (t200 + 1)) (wrap64 (x5 + 1)))))))) else (none)) else (some x1)
def laws_heldWireS.f (k : Nat) (l0 : List (S140)) (a1 : Int) : Option (Int) := laws_heldWireS.l0 k l0 a1 0
theorem laws_heldWireS.mono_l : ∀ k, (∀ y0 y1 y2, LeO (laws_heldWireS.l0 k y0 y1 y2) (laws_heldWireS.l0 (k + 1) y0 y1 y2))
 | 0 => fun _ _ _ r h => by simp [laws_heldWireS.l0] at h
 | k + 1 => by
  have ih0 := laws_heldWireS.mono_l k
  ·intro y0 y1 y2
   unfold laws_heldWireS.l0
   repeat' first
   | (with_reducible exact ih0 _ _ _)
   | (with_reducible exact laws_heldIntS.mono _ _ _)
   | (with_reducible exact LeO.refl _)
   | (with_reducible exact LeO.none _)
   | (with_reducible refine LeO.ite ?_ ?_)
   | (with_reducible refine LeO.bind ?_ (fun _ => ?_))
   | exact ih0 _ _ _
   | exact laws_heldIntS.mono _ _ _
   | exact LeO.none _
   | refine LeO.ite ?_ ?_
   | refine LeO.bind ?_ (fun _ => ?_)
theorem laws_heldWireS.mono : ∀ a0 a1 k, LeO (laws_heldWireS.f k a0 a1) (laws_heldWireS.f (k + 1) a0 a1) := by
 intro a0 a1 k
 have ih0 := laws_heldWireS.mono_l k
 unfold laws_heldWireS.f
 repeat' first
   | (with_reducible exact ih0 _ _ _)
   | (with_reducible exact laws_heldIntS.mono _ _ _)
   | (with_reducible exact LeO.refl _)
   | (with_reducible exact LeO.none _)
   | (with_reducible refine LeO.ite ?_ ?_)
   | (with_reducible refine LeO.bind ?_ (fun _ => ?_))
   | exact ih0 _ _ _
   | exact laws_heldIntS.mono _ _ _
   | exact LeO.none _
   | refine LeO.ite ?_ ?_
   | refine LeO.bind ?_ (fun _ => ?_)
set_option maxHeartbeats 8000000 in
set_option maxRecDepth 100000 in
theorem laws_heldWireS.calls (k : Nat) (A0 : Option Addr) (c0 : Nat) (l0 : List (S140)) (a1 : Int) (r : Int) (w : World) (hr0 : Kd.C k140 w A0 l0.length l0) (hc0 : l0.length ≤ c0) (h : laws_heldWireS.f k l0 a1 = some r) :
  Calls Try.prog 141 #[.slice A0 l0.length c0, .int .i64 a1] w fun e w' => e = .returned (.int .i64 r) ∧ Drawn0 w w' := by
 have HR0 := xm hr0
 have HC0 := xm hc0
 clear hr0 hc0
 have H : (laws_heldWireS.l0 k l0 a1 0) = some r := h
 clear h
 have H' := xm H
 clear H
 go_enter Try.func141, Try.ntmps141
 go_wp2
 go_loopg [1, 5] k (fun kq v1 v5 w' => ∃ (x1_1 : Int) (x5_1 : Int), v1 = .int .i64 x1_1 ∧ v5 = .int .i64 x5_1 ∧ Aside0 (laws_heldWireS.l0 kq l0 x1_1 x5_1 = some r) ∧ Aside0 (kq ≤ k) ∧ Drawn0 w w')
 case atStart => exact ⟨(a1), (0), (by first | rfl | (simp; done) | (simp [*]; done)), (by first | rfl | (simp; done) | (simp [*]; done)), H', ⟨Nat.le_refl _⟩, by repeat (first | exact Drawn0.refl _ | apply Drawn0.step)⟩
 case round =>
  clear H'
  try clear c1
  try clear p2
  obtain ⟨x1_1, x5_1, rfl, rfl, HA, HK1, ⟨m1, rfl⟩⟩ := hrel
  cases gk with
  | zero => exact absurd HA.out (by simp [laws_heldWireS.l0])
  | succ k1 =>
   have H := HA.out
   clear HA
   simp only [laws_heldWireS.l0] at H
   by_cases c3 : x5_1 < (l0.length : Int)
   ·rw [if_pos c3] at H
    have c3b0 : decide (x5_1 < (l0.length : Int)) = true := decide_eq_true c3
    clear c3
    by_cases c4 : 0 ≤ x5_1
    ·rw [if_pos c4] at H
     have c4b0 : decide (0 ≤ x5_1) = true := decide_eq_true c4
     clear c4
     replace H := Option.bind_eq_some_iff.mp H
     obtain ⟨t198, A50, H⟩ := H
     replace H : (if t198 < 0 then (some (-1)) else ((laws_heldIntS.f k1 ((rd_T140 l0 x5_1).f1) t198).bind fun t200 => (if t200 < 0 then (some (-1)) else (if (((rd_T140 l0 x5_1).f2) != ((Int.tmod t200 3) == 0)) = true then (some (-1)) else (laws_heldWireS.l0 k1 l0 (wrap64 (t200 + 1)) (wrap64 (x5_1 + 1))))))) = some r := H
     have A5 := xm A50
     clear A50
     by_cases c6 : t198 < 0
     ·rw [if_pos c6] at H
      have c6b0 : decide (t198 < 0) = true := decide_eq_true c6
      clear c6
      obtain rfl := Option.some.inj H
      have p197 : 0 ≤ (x5_1 : Int) := of_decide_eq_true aB
      have q197 : x5_1 < (l0.length : Int) := of_decide_eq_true aB
      obtain ⟨ad197, A197_0, c197_0, A197_1, c197_1, e197, hx197_0, hx197_1, hx197_2, hl197_0, hi197_0, hl197_1, hi197_1⟩ := at_T140 HR0.out x5_1 p197 q197
      cases e197
      have HR197_0 := xm hi197_0
      have HC197_0 := xm hl197_0
      clear hi197_0 hl197_0
      have HR197_1 := xm hi197_1
      have HC197_1 := xm hl197_1
      clear hi197_1 hl197_1
      replace p197 := eq_true p197
      replace q197 := eq_true q197
      go_wp2_with (first | ((with_reducible refine gate_callee (f := 62) rfl ?_); refine goesL_ (some 18) rfl rfl Try.func62 (by kernel_rfl) rfl #[.slice A197_0 ((rd_T140 l0 x5_1).f0).length c197_0, .int .i64 x1_1] rfl mB ?_; (with_reducible refine (laws_heldIntS.calls k1 _ _ ((rd_T140 l0 x5_1).f0) x1_1 t198 _ ?side1 ?side2 A5.out).mono ?_); (case side1 => repeat (first | exact HR197_0.out | (with_reducible refine Kd.C_alloc ?_ _) | (with_reducible refine Kd.C_drewN ?_ _) | (with_reducible refine Kd.C_drew ?_))); (case side2 => exact HC197_0.out); rintro e w' ⟨rfl, ⟨nd, rfl⟩⟩; refine ⟨_, rfl, ?_⟩))
      go_ret
      exact ⟨by first | rfl | (simp; done) | (simp [*]; done), by repeat (first | exact Drawn0.refl _ | apply Drawn0.step)⟩
     ·rw [if_neg c6] at H
      have c6b0 : decide (t198 < 0) = false := decide_eq_false c6
      clear c6
      replace H := Option.bind_eq_some_iff.mp H
      obtain ⟨t200, A70, H⟩ := H
      replace H : (if t200 < 0 then (some (-1)) else (if (((rd_T140 l0 x5_1).f2) != ((Int.tmod t200 3) == 0)) = true then (some (-1)) else (laws_heldWireS.l0 k1 l0 (wrap64 (t200 + 1)) (wrap64 (x5_1 + 1))))) = some r := H
      have A7 := xm A70
      clear A70
      by_cases c8 : t200 < 0
      ·rw [if_pos c8] at H
       have c8b0 : decide (t200 < 0) = true := decide_eq_true c8
       clear c8
       obtain rfl := Option.some.inj H
       have p197 : 0 ≤ (x5_1 : Int) := of_decide_eq_true aB
       have q197 : x5_1 < (l0.length : Int) := of_decide_eq_true aB
       obtain ⟨ad197, A197_0, c197_0, A197_1, c197_1, e197, hx197_0, hx197_1, hx197_2, hl197_0, hi197_0, hl197_1, hi197_1⟩ := at_T140 HR0.out x5_1 p197 q197
       cases e197
       have HR197_0 := xm hi197_0
       have HC197_0 := xm hl197_0
       clear hi197_0 hl197_0
       have HR197_1 := xm hi197_1
       have HC197_1 := xm hl197_1
       clear hi197_1 hl197_1
       replace p197 := eq_true p197
       replace q197 := eq_true q197
       go_wp2_with (first | ((with_reducible refine gate_callee (f := 62) rfl ?_); refine goesL_ (some 18) rfl rfl Try.func62 (by kernel_rfl) rfl #[.slice A197_0 ((rd_T140 l0 x5_1).f0).length c197_0, .int .i64 x1_1] rfl mB ?_; (with_reducible refine (laws_heldIntS.calls k1 _ _ ((rd_T140 l0 x5_1).f0) x1_1 t198 _ ?side1 ?side2 A5.out).mono ?_); (case side1 => repeat (first | exact HR197_0.out | (with_reducible refine Kd.C_alloc ?_ _) | (with_reducible refine Kd.C_drewN ?_ _) | (with_reducible refine Kd.C_drew ?_))); (case side2 => exact HC197_0.out); rintro e w' ⟨rfl, ⟨nd, rfl⟩⟩; refine ⟨_, rfl, ?_⟩; have p199 : 0 ≤ (x5_1 : Int) := of_decide_eq_true aB; have q199 : x5_1 < (l0.length : Int) := of_decide_eq_true aB; obtain ⟨ad199, A199_0, c199_0, A199_1, c199_1, e199, hx199_0, hx199_1, hx199_2, hl199_0, hi199_0, hl199_1, hi199_1⟩ := at_T140 HR0.out x5_1 p199 q199; obtain rfl : ad197 = ad199 := (by injection e199); have HR199_0 := xm hi199_0; have HC199_0 := xm hl199_0; clear hi199_0 hl199_0; have HR199_1 := xm hi199_1; have HC199_1 := xm hl199_1; clear hi199_1 hl199_1; replace p199 := eq_true p199; replace q199 := eq_true q199; have ea_ := Option.some.inj (hx197_0.symm.trans hx199_0); injection ea_ with ea_ en_ ec_; subst ea_; subst ec_; clear en_; have ea_ := Option.some.inj (hx197_1.symm.trans hx199_1); injection ea_ with ea_ en_ ec_; subst ea_; subst ec_; clear en_) | ((with_reducible refine gate_callee (f := 62) rfl ?_); refine goesL_ (some 27) rfl rfl Try.func62 (by kernel_rfl) rfl #[.slice A197_1 ((rd_T140 l0 x5_1).f1).length c197_1, .int .i64 t198] rfl mB ?_; (with_reducible refine (laws_heldIntS.calls k1 _ _ ((rd_T140 l0 x5_1).f1) t198 t200 _ ?side1 ?side2 A7.out).mono ?_); (case side1 => repeat (first | exact HR199_1.out | (with_reducible refine Kd.C_alloc ?_ _) | (with_reducible refine Kd.C_drewN ?_ _) | (with_reducible refine Kd.C_drew ?_))); (case side2 => exact HC199_1.out); rintro e w' ⟨rfl, ⟨nd, rfl⟩⟩; refine ⟨_, rfl, ?_⟩))
       go_ret
       exact ⟨by first | rfl | (simp; done) | (simp [*]; done), by repeat (first | exact Drawn0.refl _ | apply Drawn0.step)⟩
      ·rw [if_neg c8] at H
       have c8b0 : decide (t200 < 0) = false := decide_eq_false c8
       clear c8
       by_cases c9 : (((rd_T140 l0 x5_1).f2) != ((Int.tmod t200 3) == 0)) = true
       ·rw [if_pos c9] at H
        have c9b0 : (((rd_T140 l0 x5_1).f2) != ((Int.tmod t200 3) == 0)) = true := c9
        (try (have c9b1 : decide (((rd_T140 l0 x5_1).f2) = ((Int.tmod t200 3) == 0)) = false := by simpa using c9))
        (try (have c9b2 : (((rd_T140 l0 x5_1).f2) == ((Int.tmod t200 3) == 0)) = false := by simpa using c9))
        (try (have c9b3 : ¬ (((rd_T140 l0 x5_1).f2) = ((Int.tmod t200 3) == 0)) := by simpa using c9))
        clear c9
        obtain rfl := Option.some.inj H
        have p197 : 0 ≤ (x5_1 : Int) := of_decide_eq_true aB
        have q197 : x5_1 < (l0.length : Int) := of_decide_eq_true aB
        obtain ⟨ad197, A197_0, c197_0, A197_1, c197_1, e197, hx197_0, hx197_1, hx197_2, hl197_0, hi197_0, hl197_1, hi197_1⟩ := at_T140 HR0.out x5_1 p197 q197
        cases e197
        have HR197_0 := xm hi197_0
        have HC197_0 := xm hl197_0
        clear hi197_0 hl197_0
        have HR197_1 := xm hi197_1
        have HC197_1 := xm hl197_1
        clear hi197_1 hl197_1
        replace p197 := eq_true p197
        replace q197 := eq_true q197
        go_wp2_with (first | ((with_reducible refine gate_callee (f := 62) rfl ?_); refine goesL_ (some 18) rfl rfl Try.func62 (by kernel_rfl) rfl #[.slice A197_0 ((rd_T140 l0 x5_1).f0).length c197_0, .int .i64 x1_1] rfl mB ?_; (with_reducible refine (laws_heldIntS.calls k1 _ _ ((rd_T140 l0 x5_1).f0) x1_1 t198 _ ?side1 ?side2 A5.out).mono ?_); (case side1 => repeat (first | exact HR197_0.out | (with_reducible refine Kd.C_alloc ?_ _) | (with_reducible refine Kd.C_drewN ?_ _) | (with_reducible refine Kd.C_drew ?_))); (case side2 => exact HC197_0.out); rintro e w' ⟨rfl, ⟨nd, rfl⟩⟩; refine ⟨_, rfl, ?_⟩; have p199 : 0 ≤ (x5_1 : Int) := of_decide_eq_true aB; have q199 : x5_1 < (l0.length : Int) := of_decide_eq_true aB; obtain ⟨ad199, A199_0, c199_0, A199_1, c199_1, e199, hx199_0, hx199_1, hx199_2, hl199_0, hi199_0, hl199_1, hi199_1⟩ := at_T140 HR0.out x5_1 p199 q199; obtain rfl : ad197 = ad199 := (by injection e199); have HR199_0 := xm hi199_0; have HC199_0 := xm hl199_0; clear hi199_0 hl199_0; have HR199_1 := xm hi199_1; have HC199_1 := xm hl199_1; clear hi199_1 hl199_1; replace p199 := eq_true p199; replace q199 := eq_true q199; have ea_ := Option.some.inj (hx197_0.symm.trans hx199_0); injection ea_ with ea_ en_ ec_; subst ea_; subst ec_; clear en_; have ea_ := Option.some.inj (hx197_1.symm.trans hx199_1); injection ea_ with ea_ en_ ec_; subst ea_; subst ec_; clear en_) | ((with_reducible refine gate_callee (f := 62) rfl ?_); refine goesL_ (some 27) rfl rfl Try.func62 (by kernel_rfl) rfl #[.slice A197_1 ((rd_T140 l0 x5_1).f1).length c197_1, .int .i64 t198] rfl mB ?_; (with_reducible refine (laws_heldIntS.calls k1 _ _ ((rd_T140 l0 x5_1).f1) t198 t200 _ ?side1 ?side2 A7.out).mono ?_); (case side1 => repeat (first | exact HR199_1.out | (with_reducible refine Kd.C_alloc ?_ _) | (with_reducible refine Kd.C_drewN ?_ _) | (with_reducible refine Kd.C_drew ?_))); (case side2 => exact HC199_1.out); rintro e w' ⟨rfl, ⟨nd, rfl⟩⟩; refine ⟨_, rfl, ?_⟩; have p201 : 0 ≤ (x5_1 : Int) := of_decide_eq_true aB; have q201 : x5_1 < (l0.length : Int) := of_decide_eq_true aB; obtain ⟨ad201, A201_0, c201_0, A201_1, c201_1, e201, hx201_0, hx201_1, hx201_2, hl201_0, hi201_0, hl201_1, hi201_1⟩ := at_T140 HR0.out x5_1 p201 q201; obtain rfl : ad197 = ad201 := (by injection e201); have HR201_0 := xm hi201_0; have HC201_0 := xm hl201_0; clear hi201_0 hl201_0; have HR201_1 := xm hi201_1; have HC201_1 := xm hl201_1; clear hi201_1 hl201_1; replace p201 := eq_true p201; replace q201 := eq_true q201; have ea_ := Option.some.inj (hx197_0.symm.trans hx201_0); injection ea_ with ea_ en_ ec_; subst ea_; subst ec_; clear en_; have ea_ := Option.some.inj (hx197_1.symm.trans hx201_1); injection ea_ with ea_ en_ ec_; subst ea_; subst ec_; clear en_))
        go_ret
        exact ⟨by first | rfl | (simp; done) | (simp [*]; done), by repeat (first | exact Drawn0.refl _ | apply Drawn0.step)⟩
       ·rw [if_neg c9] at H
        have c9b0 : (((rd_T140 l0 x5_1).f2) != ((Int.tmod t200 3) == 0)) = false := by simpa using c9
        (try (have c9b1 : decide (((rd_T140 l0 x5_1).f2) = ((Int.tmod t200 3) == 0)) = true := by simpa using c9))
        (try (have c9b2 : (((rd_T140 l0 x5_1).f2) == ((Int.tmod t200 3) == 0)) = true := by simpa using c9))
        clear c9
        have H' := xm H
        clear H
        have p197 : 0 ≤ (x5_1 : Int) := of_decide_eq_true aB
        have q197 : x5_1 < (l0.length : Int) := of_decide_eq_true aB
        obtain ⟨ad197, A197_0, c197_0, A197_1, c197_1, e197, hx197_0, hx197_1, hx197_2, hl197_0, hi197_0, hl197_1, hi197_1⟩ := at_T140 HR0.out x5_1 p197 q197
        cases e197
        have HR197_0 := xm hi197_0
        have HC197_0 := xm hl197_0
        clear hi197_0 hl197_0
        have HR197_1 := xm hi197_1
        have HC197_1 := xm hl197_1
        clear hi197_1 hl197_1
        replace p197 := eq_true p197
        replace q197 := eq_true q197
        go_wp2_with (first | ((with_reducible refine gate_callee (f := 62) rfl ?_); refine goesL_ (some 18) rfl rfl Try.func62 (by kernel_rfl) rfl #[.slice A197_0 ((rd_T140 l0 x5_1).f0).length c197_0, .int .i64 x1_1] rfl mB ?_; (with_reducible refine (laws_heldIntS.calls k1 _ _ ((rd_T140 l0 x5_1).f0) x1_1 t198 _ ?side1 ?side2 A5.out).mono ?_); (case side1 => repeat (first | exact HR197_0.out | (with_reducible refine Kd.C_alloc ?_ _) | (with_reducible refine Kd.C_drewN ?_ _) | (with_reducible refine Kd.C_drew ?_))); (case side2 => exact HC197_0.out); rintro e w' ⟨rfl, ⟨nd, rfl⟩⟩; refine ⟨_, rfl, ?_⟩; have p199 : 0 ≤ (x5_1 : Int) := of_decide_eq_true aB; have q199 : x5_1 < (l0.length : Int) := of_decide_eq_true aB; obtain ⟨ad199, A199_0, c199_0, A199_1, c199_1, e199, hx199_0, hx199_1, hx199_2, hl199_0, hi199_0, hl199_1, hi199_1⟩ := at_T140 HR0.out x5_1 p199 q199; obtain rfl : ad197 = ad199 := (by injection e199); have HR199_0 := xm hi199_0; have HC199_0 := xm hl199_0; clear hi199_0 hl199_0; have HR199_1 := xm hi199_1; have HC199_1 := xm hl199_1; clear hi199_1 hl199_1; replace p199 := eq_true p199; replace q199 := eq_true q199; have ea_ := Option.some.inj (hx197_0.symm.trans hx199_0); injection ea_ with ea_ en_ ec_; subst ea_; subst ec_; clear en_; have ea_ := Option.some.inj (hx197_1.symm.trans hx199_1); injection ea_ with ea_ en_ ec_; subst ea_; subst ec_; clear en_) | ((with_reducible refine gate_callee (f := 62) rfl ?_); refine goesL_ (some 27) rfl rfl Try.func62 (by kernel_rfl) rfl #[.slice A197_1 ((rd_T140 l0 x5_1).f1).length c197_1, .int .i64 t198] rfl mB ?_; (with_reducible refine (laws_heldIntS.calls k1 _ _ ((rd_T140 l0 x5_1).f1) t198 t200 _ ?side1 ?side2 A7.out).mono ?_); (case side1 => repeat (first | exact HR199_1.out | (with_reducible refine Kd.C_alloc ?_ _) | (with_reducible refine Kd.C_drewN ?_ _) | (with_reducible refine Kd.C_drew ?_))); (case side2 => exact HC199_1.out); rintro e w' ⟨rfl, ⟨nd, rfl⟩⟩; refine ⟨_, rfl, ?_⟩; have p201 : 0 ≤ (x5_1 : Int) := of_decide_eq_true aB; have q201 : x5_1 < (l0.length : Int) := of_decide_eq_true aB; obtain ⟨ad201, A201_0, c201_0, A201_1, c201_1, e201, hx201_0, hx201_1, hx201_2, hl201_0, hi201_0, hl201_1, hi201_1⟩ := at_T140 HR0.out x5_1 p201 q201; obtain rfl : ad197 = ad201 := (by injection e201); have HR201_0 := xm hi201_0; have HC201_0 := xm hl201_0; clear hi201_0 hl201_0; have HR201_1 := xm hi201_1; have HC201_1 := xm hl201_1; clear hi201_1 hl201_1; replace p201 := eq_true p201; replace q201 := eq_true q201; have ea_ := Option.some.inj (hx197_0.symm.trans hx201_0); injection ea_ with ea_ en_ ec_; subst ea_; subst ec_; clear en_; have ea_ := Option.some.inj (hx197_1.symm.trans hx201_1); injection ea_ with ea_ en_ ec_; subst ea_; subst ec_; clear en_))
        go_roundg k1
        case measure => have := HK1.out; omega
        case rel => exact ⟨(wrap64 (t200 + 1)), (wrap64 (x5_1 + 1)), (by first | rfl | (simp; done) | (simp [*]; done)), (by first | rfl | (simp; done) | (simp [*]; done)), H', ⟨by have := HK1.out; omega⟩, by repeat (first | exact Drawn0.refl _ | apply Drawn0.step)⟩
    ·rw [if_neg c4] at H
     exact absurd H (by simp)
   ·rw [if_neg c3] at H
    have c3b0 : decide (x5_1 < (l0.length : Int)) = false := decide_eq_false c3
    clear c3
    obtain rfl := Option.some.inj H
    go_wp2
    go_ret
    exact ⟨by first | rfl | (simp; done) | (simp [*]; done), by repeat (first | exact Drawn0.refl _ | apply Drawn0.step)⟩

/-! ### laws_heldSnap: function 79 -/
def laws_heldSnap.f (k : Nat) (l0_0 : List (S138)) (l0_1 : List (S140)) (a1 : Int) : Option (Int) := (laws_heldProcS.f k l0_0 a1).bind fun t203 => (if t203 < 0 then (some (-1)) else ((laws_heldWireS.f k l0_1 t203).bind fun t204 => (if t204 < 0 then (some (-1)) else (some t204))))
theorem laws_heldSnap.mono : ∀ a0 a1 a2 k, LeO (laws_heldSnap.f k a0 a1 a2) (laws_heldSnap.f (k + 1) a0 a1 a2) := by
 intro a0 a1 a2 k
 unfold laws_heldSnap.f
 repeat' first
   | (with_reducible exact laws_heldProcS.mono _ _ _)
   | (with_reducible exact laws_heldWireS.mono _ _ _)
   | (with_reducible exact LeO.refl _)
   | (with_reducible exact LeO.none _)
   | (with_reducible refine LeO.ite ?_ ?_)
   | (with_reducible refine LeO.bind ?_ (fun _ => ?_))
   | exact laws_heldProcS.mono _ _ _
   | exact laws_heldWireS.mono _ _ _
   | exact LeO.none _
   | refine LeO.ite ?_ ?_
   | refine LeO.bind ?_ (fun _ => ?_)
set_option maxHeartbeats 8000000 in
set_option maxRecDepth 100000 in
theorem laws_heldSnap.calls (k : Nat) (A0_0 : Option Addr) (c0_0 : Nat) (l0_0 : List (S138)) (A0_1 : Option Addr) (c0_1 : Nat) (l0_1 : List (S140)) (a1 : Int) (r : Int) (w : World) (hr0_0 : Kd.C k138 w A0_0 l0_0.length l0_0) (hc0_0 : l0_0.length ≤ c0_0) (hr0_1 : Kd.C k140 w A0_1 l0_1.length l0_1) (hc0_1 : l0_1.length ≤ c0_1) (h : laws_heldSnap.f k l0_0 l0_1 a1 = some r) :
  Calls Try.prog 79 #[.agg #[.slice A0_0 l0_0.length c0_0, .slice A0_1 l0_1.length c0_1], .int .i64 a1] w fun e w' => e = .returned (.int .i64 r) ∧ Below w.heap.size w w' := by
 have hu85 := Try.underlying85
 have HR0_0 := xm hr0_0
 have HC0_0 := xm hc0_0
 clear hr0_0 hc0_0
 have HR0_1 := xm hr0_1
 have HC0_1 := xm hc0_1
 clear hr0_1 hc0_1
 have HB := xm (Below.refl w.heap.size w)
 have H : ((laws_heldProcS.f k l0_0 a1).bind fun t203 => (if t203 < 0 then (some (-1)) else ((laws_heldWireS.f k l0_1 t203).bind fun t204 => (if t204 < 0 then (some (-1)) else (some t204))))) = some r := h
 clear h
 replace H := Option.bind_eq_some_iff.mp H
 obtain ⟨t203, A30, H⟩ := H
 replace H : (if t203 < 0 then (some (-1)) else ((laws_heldWireS.f k l0_1 t203).bind fun t204 => (if t204 < 0 then (some (-1)) else (some t204)))) = some r := H
 have A3 := xm A30
 clear A30
 by_cases c4 : t203 < 0
 ·rw [if_pos c4] at H
  have c4b0 : decide (t203 < 0) = true := decide_eq_true c4
  clear c4
  obtain rfl := Option.some.inj H
  go_enter Try.func79, Try.ntmps79
  go_wp2_with (first | ((with_reducible refine gate_dst (N := 2) rfl ?_); refine box_event ?hg (N := 2) ?hd (cs := #[.slice A0_0 l0_0.length c0_0, .slice A0_1 l0_1.length c0_1]) (t := 85) ?hr ?_; (case hd => rfl); (case hg => rfl); (case hr => exact zB); intro gb202 hg w5 hbox hb; have n0_ := xm (below_step bB hb); have n1_ := xm (hbox); have n2_ := xm ((by rw [hg]; exact (xz bB) : w.heap.size ≤ gb202)); have n3_ := xm ((by rw [hg]; exact (xz bB) : w.heap.size ≤ gb202)); clear HB; have HB := n0_; have BK202 := n1_; have GW202 := n2_; have GE202 := n3_; clear n0_ n1_ n2_ n3_; clear hb hbox hg; obtain ⟨hcz6_0, hcz6_1, hfz6_0, hfz6_1⟩ := cz2 BK202.out) | ((with_reducible refine gate_callee (f := 140) rfl ?_); refine goesL_ (some 8) rfl rfl Try.func140 (by kernel_rfl) rfl #[.slice A0_0 l0_0.length c0_0, .int .i64 a1] rfl mB ?_; (with_reducible refine (laws_heldProcS.calls k _ _ l0_0 a1 t203 _ ?side1 ?side2 A3.out).mono ?_); (case side1 => exact cB (Kd.C_below HR0_0.out HB.out)); (case side2 => exact HC0_0.out); rintro e w' ⟨rfl, ⟨nd, rfl⟩⟩; refine ⟨_, rfl, ?_⟩))
  go_ret
  exact ⟨by first | rfl | (simp [errW_none, errW_some] <;> rfl) | (simp [*, errW_none, errW_some] <;> rfl), by repeat (first | (with_reducible first | exact HB.out | apply xa | apply xn | apply xd | refine xt ?_ GE202.out) | exact HB.out)⟩
 ·rw [if_neg c4] at H
  have c4b0 : decide (t203 < 0) = false := decide_eq_false c4
  clear c4
  replace H := Option.bind_eq_some_iff.mp H
  obtain ⟨t204, A70, H⟩ := H
  replace H : (if t204 < 0 then (some (-1)) else (some t204)) = some r := H
  have A7 := xm A70
  clear A70
  by_cases c8 : t204 < 0
  ·rw [if_pos c8] at H
   have c8b0 : decide (t204 < 0) = true := decide_eq_true c8
   clear c8
   obtain rfl := Option.some.inj H
   go_enter Try.func79, Try.ntmps79
   go_wp2_with (first | ((with_reducible refine gate_dst (N := 2) rfl ?_); refine box_event ?hg (N := 2) ?hd (cs := #[.slice A0_0 l0_0.length c0_0, .slice A0_1 l0_1.length c0_1]) (t := 85) ?hr ?_; (case hd => rfl); (case hg => rfl); (case hr => exact zB); intro gb202 hg w9 hbox hb; have n0_ := xm (below_step bB hb); have n1_ := xm (hbox); have n2_ := xm ((by rw [hg]; exact (xz bB) : w.heap.size ≤ gb202)); have n3_ := xm ((by rw [hg]; exact (xz bB) : w.heap.size ≤ gb202)); clear HB; have HB := n0_; have BK202 := n1_; have GW202 := n2_; have GE202 := n3_; clear n0_ n1_ n2_ n3_; clear hb hbox hg; obtain ⟨hcz10_0, hcz10_1, hfz10_0, hfz10_1⟩ := cz2 BK202.out) | ((with_reducible refine gate_callee (f := 140) rfl ?_); refine goesL_ (some 8) rfl rfl Try.func140 (by kernel_rfl) rfl #[.slice A0_0 l0_0.length c0_0, .int .i64 a1] rfl mB ?_; (with_reducible refine (laws_heldProcS.calls k _ _ l0_0 a1 t203 _ ?side1 ?side2 A3.out).mono ?_); (case side1 => exact cB (Kd.C_below HR0_0.out HB.out)); (case side2 => exact HC0_0.out); rintro e w' ⟨rfl, ⟨nd, rfl⟩⟩; refine ⟨_, rfl, ?_⟩) | ((with_reducible refine gate_callee (f := 141) rfl ?_); refine goesL_ (some 14) rfl rfl Try.func141 (by kernel_rfl) rfl #[.slice A0_1 l0_1.length c0_1, .int .i64 t203] rfl mB ?_; (with_reducible refine (laws_heldWireS.calls k _ _ l0_1 t203 t204 _ ?side1 ?side2 A7.out).mono ?_); (case side1 => repeat (first | exact (Kd.C_below HR0_1.out bG) | (with_reducible refine Kd.C_alloc ?_ _) | (with_reducible refine Kd.C_drewN ?_ _) | (with_reducible refine Kd.C_drew ?_))); (case side2 => exact HC0_1.out); rintro e w' ⟨rfl, ⟨nd, rfl⟩⟩; refine ⟨_, rfl, ?_⟩))
   go_ret
   exact ⟨by first | rfl | (simp [errW_none, errW_some] <;> rfl) | (simp [*, errW_none, errW_some] <;> rfl), by repeat (first | (with_reducible first | exact HB.out | apply xa | apply xn | apply xd | refine xt ?_ GE202.out) | exact HB.out)⟩
  ·rw [if_neg c8] at H
   have c8b0 : decide (t204 < 0) = false := decide_eq_false c8
   clear c8
   obtain rfl := Option.some.inj H
   go_enter Try.func79, Try.ntmps79
   go_wp2_with (first | ((with_reducible refine gate_dst (N := 2) rfl ?_); refine box_event ?hg (N := 2) ?hd (cs := #[.slice A0_0 l0_0.length c0_0, .slice A0_1 l0_1.length c0_1]) (t := 85) ?hr ?_; (case hd => rfl); (case hg => rfl); (case hr => exact zB); intro gb202 hg w11 hbox hb; have n0_ := xm (below_step bB hb); have n1_ := xm (hbox); have n2_ := xm ((by rw [hg]; exact (xz bB) : w.heap.size ≤ gb202)); have n3_ := xm ((by rw [hg]; exact (xz bB) : w.heap.size ≤ gb202)); clear HB; have HB := n0_; have BK202 := n1_; have GW202 := n2_; have GE202 := n3_; clear n0_ n1_ n2_ n3_; clear hb hbox hg; obtain ⟨hcz12_0, hcz12_1, hfz12_0, hfz12_1⟩ := cz2 BK202.out) | ((with_reducible refine gate_callee (f := 140) rfl ?_); refine goesL_ (some 8) rfl rfl Try.func140 (by kernel_rfl) rfl #[.slice A0_0 l0_0.length c0_0, .int .i64 a1] rfl mB ?_; (with_reducible refine (laws_heldProcS.calls k _ _ l0_0 a1 t203 _ ?side1 ?side2 A3.out).mono ?_); (case side1 => exact cB (Kd.C_below HR0_0.out HB.out)); (case side2 => exact HC0_0.out); rintro e w' ⟨rfl, ⟨nd, rfl⟩⟩; refine ⟨_, rfl, ?_⟩) | ((with_reducible refine gate_callee (f := 141) rfl ?_); refine goesL_ (some 14) rfl rfl Try.func141 (by kernel_rfl) rfl #[.slice A0_1 l0_1.length c0_1, .int .i64 t203] rfl mB ?_; (with_reducible refine (laws_heldWireS.calls k _ _ l0_1 t203 t204 _ ?side1 ?side2 A7.out).mono ?_); (case side1 => repeat (first | exact (Kd.C_below HR0_1.out bG) | (with_reducible refine Kd.C_alloc ?_ _) | (with_reducible refine Kd.C_drewN ?_ _) | (with_reducible refine Kd.C_drew ?_))); (case side2 => exact HC0_1.out); rintro e w' ⟨rfl, ⟨nd, rfl⟩⟩; refine ⟨_, rfl, ?_⟩))
   go_ret
   exact ⟨by first | rfl | (simp [errW_none, errW_some] <;> rfl) | (simp [*, errW_none, errW_some] <;> rfl), by repeat (first | (with_reducible first | exact HB.out | apply xa | apply xn | apply xd | refine xt ?_ GE202.out) | exact HB.out)⟩

/-! ### laws_FnExactNewSnap: function 16 -/
def laws_FnExactNewSnap.f (k : Nat) (l0 : List Int) : Option (Bool) := if (l0.length : Int) > 1048576 then (some true) else ((laws_toIntS.f k l0).bind fun t2b => ((spec_NewSnap.f k t2b).bind fun t9b => ((laws_toIntS.f k l0).bind fun t25b => ((impl_NewSnap.f k t25b).bind fun t32b => ((laws_eqSnap.f k t32b.1 t32b.2.1 t9b.1 t9b.2.1).bind fun t48b => (if t48b = true then (if (t32b.2.2 != t9b.2.2) = true then (some false) else ((laws_toIntS.f k l0).bind fun t51b => ((laws_eqIntS.f k t25b t51b).bind fun t58b => (if t58b = true then ((laws_markIntS.f k t25b 1).bind fun t60b => (if t60b.1 < 0 then (some false) else ((laws_eqSnap.f k t32b.1 t32b.2.1 t9b.1 t9b.2.1).bind fun t62b => (if t62b = true then (if (t32b.2.2 != t9b.2.2) = true then (some false) else ((laws_markSnap.f k t32b.1 t32b.2.1 1).bind fun t65b => ((laws_heldSnap.f k t65b.2.1 t65b.2.2 1).bind fun t66b => (if t66b < 0 then (some false) else (if t66b = t65b.1 then ((laws_toIntS.f k l0).bind fun t69b => ((impl_NewSnap.f k t69b).bind fun t76b => ((laws_eqSnap.f k t76b.1 t76b.2.1 t9b.1 t9b.2.1).bind fun t92b => (if t92b = true then (if (t76b.2.2 != t9b.2.2) = true then (some false) else ((laws_heldSnap.f k t65b.2.1 t65b.2.2 1).bind fun t95b => (if t95b < 0 then (some false) else (if t95b = t65b.1 then ((some true)) else (some false))))) else (some false))))) else (some false)))))) else (some false))))) else (some false))))) else (some false)))))))
theorem laws_FnExactNewSnap.mono : ∀ a0_ k, LeO (laws_FnExactNewSnap.f k a0_) (laws_FnExactNewSnap.f (k + 1) a0_) := by
 intro a0_ k
 unfold laws_FnExactNewSnap.f
 repeat' first
  | (with_reducible exact impl_NewSnap.mono _ _)
  | (with_reducible exact laws_eqIntS.mono _ _ _)
  | (with_reducible exact laws_eqSnap.mono _ _ _ _ _)
  | (with_reducible exact laws_heldSnap.mono _ _ _ _)
  | (with_reducible exact laws_markIntS.mono _ _ _)
  | (with_reducible exact laws_markSnap.mono _ _ _ _)
  | (with_reducible exact laws_toIntS.mono _ _)
  | (with_reducible exact spec_NewSnap.mono _ _)
  | (with_reducible exact LeO.refl _)
  | (with_reducible exact LeO.none _)
  | (with_reducible refine LeO.ite ?_ ?_)
  | (with_reducible refine LeO.bind ?_ (fun _ => ?_))
  | exact impl_NewSnap.mono _ _
  | exact laws_eqIntS.mono _ _ _
  | exact laws_eqSnap.mono _ _ _ _ _
  | exact laws_heldSnap.mono _ _ _ _
  | exact laws_markIntS.mono _ _ _
  | exact laws_markSnap.mono _ _ _ _
  | exact laws_toIntS.mono _ _
  | exact spec_NewSnap.mono _ _
theorem laws_FnExactNewSnap.cs2 {w : World} {g t : Nat} {a0 a1 : Value} (h : w.heap[g]? = some (.cells #[a0, a1] t (0, 0))) : w.cell? ⟨g, 0, none⟩ = some a0 ∧ w.frozen? ⟨g, 0, none⟩ = false ∧ w.cell? ⟨g, 1, none⟩ = some a1 ∧ w.frozen? ⟨g, 1, none⟩ = false := ⟨(xc h 0).trans rfl, xf h 0, (xc h 1).trans rfl, xf h 1⟩
set_option maxHeartbeats 8000000 in
set_option maxRecDepth 100000 in
theorem laws_FnExactNewSnap.calls (k : Nat) (A0 : Option Addr) (c0 : Nat) (l0 : List Int) (w : World) (hr0 : Kd.C (Kd.int .i64) w A0 l0.length l0) (hc0 : l0.length ≤ c0) (h : laws_FnExactNewSnap.f k l0 = some true) :
  Calls Try.prog 16 #[.slice A0 l0.length c0] w fun e w' => e = .returned (.bool true) ∧ Below w.heap.size w w' := by
 have hu85 := Try.underlying85
 have HR0 := xm hr0
 have HC0 := xm hc0
 clear hr0 hc0
 have HB := xm (Below.refl w.heap.size w)
 unfold laws_FnExactNewSnap.f at h
 by_cases c1 : (l0.length : Int) > 1048576
 ·have c1b := decide_eq_true c1
  clear c1
  clear h
  go_enter Try.func16, Try.ntmps16
  go_wp2
  go_ret
  exact ⟨by first | rfl | (simp [errW_none, errW_some] <;> rfl) | (simp [*, errW_none, errW_some] <;> rfl), HB.out⟩
 rw [if_neg c1] at h
 have c1b := decide_eq_false c1
 clear c1
 replace h := Option.bind_eq_some_iff.mp h
 obtain ⟨t2_0, t2A0, h⟩ := h
 (try dsimp only at h)
 have t2A := xm t2A0
 clear t2A0
 replace h := Option.bind_eq_some_iff.mp h
 obtain ⟨⟨t9_0, t9_1, t9_2⟩, t9A0, h⟩ := h
 (try dsimp only at h)
 have t9A := xm t9A0
 clear t9A0
 replace h := Option.bind_eq_some_iff.mp h
 obtain ⟨t25_0, t25A0, h⟩ := h
 (try dsimp only at h)
 have t25A := xm t25A0
 clear t25A0
 replace h := Option.bind_eq_some_iff.mp h
 obtain ⟨⟨t32_0, t32_1, t32_2⟩, t32A0, h⟩ := h
 (try dsimp only at h)
 have t32A := xm t32A0
 clear t32A0
 replace h := Option.bind_eq_some_iff.mp h
 obtain ⟨t48_0, t48A0, h⟩ := h
 (try dsimp only at h)
 have t48A := xm t48A0
 clear t48A0
 replace h := law_t h
 obtain ⟨c49, h⟩ := h
 subst c49
 replace h := law_f h
 obtain ⟨c50, h⟩ := h
 have c50b0 : (t32_2 != t9_2) = false := by simpa using c50
 have c50b1 : decide (t32_2 = t9_2) = true := by simpa using c50
 have c50b2 : (t32_2 == t9_2) = true := by simpa using c50
 clear c50
 replace h := Option.bind_eq_some_iff.mp h
 obtain ⟨t51_0, t51A0, h⟩ := h
 (try dsimp only at h)
 have t51A := xm t51A0
 clear t51A0
 replace h := Option.bind_eq_some_iff.mp h
 obtain ⟨t58_0, t58A0, h⟩ := h
 (try dsimp only at h)
 have t58A := xm t58A0
 clear t58A0
 replace h := law_t h
 obtain ⟨c59, h⟩ := h
 subst c59
 replace h := Option.bind_eq_some_iff.mp h
 obtain ⟨⟨t60_0, t60_1⟩, t60A0, h⟩ := h
 (try dsimp only at h)
 have t60A := xm t60A0
 clear t60A0
 replace h := law_f h
 obtain ⟨c61, h⟩ := h
 have c61b := decide_eq_false c61
 clear c61
 replace h := Option.bind_eq_some_iff.mp h
 obtain ⟨t62_0, t62A0, h⟩ := h
 (try dsimp only at h)
 have t62A := xm t62A0
 clear t62A0
 replace h := law_t h
 obtain ⟨c63, h⟩ := h
 subst c63
 replace h := law_f h
 obtain ⟨c64, h⟩ := h
 have c64b0 : (t32_2 != t9_2) = false := by simpa using c64
 have c64b1 : decide (t32_2 = t9_2) = true := by simpa using c64
 have c64b2 : (t32_2 == t9_2) = true := by simpa using c64
 clear c64
 replace h := Option.bind_eq_some_iff.mp h
 obtain ⟨⟨t65_0, t65_1, t65_2⟩, t65A0, h⟩ := h
 (try dsimp only at h)
 have t65A := xm t65A0
 clear t65A0
 replace h := Option.bind_eq_some_iff.mp h
 obtain ⟨t66_0, t66A0, h⟩ := h
 (try dsimp only at h)
 have t66A := xm t66A0
 clear t66A0
 replace h := law_f h
 obtain ⟨c67, h⟩ := h
 have c67b := decide_eq_false c67
 clear c67
 replace h := law_t h
 obtain ⟨c68, h⟩ := h
 have c68b0 : (t66_0 == t65_0) = true := beq_iff_eq.mpr c68
 have c68b1 : (t66_0 != t65_0) = false := bne_eq_false_iff_eq.mpr c68
 have c68b2 : decide (t66_0 = t65_0) = true := decide_eq_true c68
 clear c68
 replace h := Option.bind_eq_some_iff.mp h
 obtain ⟨t69_0, t69A0, h⟩ := h
 (try dsimp only at h)
 have t69A := xm t69A0
 clear t69A0
 replace h := Option.bind_eq_some_iff.mp h
 obtain ⟨⟨t76_0, t76_1, t76_2⟩, t76A0, h⟩ := h
 (try dsimp only at h)
 have t76A := xm t76A0
 clear t76A0
 replace h := Option.bind_eq_some_iff.mp h
 obtain ⟨t92_0, t92A0, h⟩ := h
 (try dsimp only at h)
 have t92A := xm t92A0
 clear t92A0
 replace h := law_t h
 obtain ⟨c93, h⟩ := h
 subst c93
 replace h := law_f h
 obtain ⟨c94, h⟩ := h
 have c94b0 : (t76_2 != t9_2) = false := by simpa using c94
 have c94b1 : decide (t76_2 = t9_2) = true := by simpa using c94
 have c94b2 : (t76_2 == t9_2) = true := by simpa using c94
 clear c94
 replace h := Option.bind_eq_some_iff.mp h
 obtain ⟨t95_0, t95A0, h⟩ := h
 (try dsimp only at h)
 have t95A := xm t95A0
 clear t95A0
 replace h := law_f h
 obtain ⟨c96, h⟩ := h
 have c96b := decide_eq_false c96
 clear c96
 replace h := law_t h
 obtain ⟨c97, h⟩ := h
 have c97b0 : (t95_0 == t65_0) = true := beq_iff_eq.mpr c97
 have c97b1 : (t95_0 != t65_0) = false := bne_eq_false_iff_eq.mpr c97
 have c97b2 : decide (t95_0 = t65_0) = true := decide_eq_true c97
 clear c97
 clear h
 go_enter Try.func16, Try.ntmps16
 go_wp2_with (first
  | ((with_reducible refine gate_callee (f := 26) rfl ?_); refine goesL_ (some 18) rfl rfl Try.func26 (by kernel_rfl) rfl #[.slice A0 l0.length c0] rfl mB ?_; refine (laws_toIntS.calls k _ _ l0 t2_0 _ (Kd.C_below HR0.out HB.out) HC0.out t2A.out).mono ?_; rintro e w1_ ⟨v0_, rfl, h0_, hb_⟩; refine ⟨_, rfl, ?_⟩; have Z1 := xm (hb_.size : w.heap.size ≤ w1_.heap.size); have hk_ := Kept.of_below hb_ (fun _ => False); obtain ⟨A4, c5, rfl⟩ := Kd.R_slice h0_; obtain ⟨P6, p1_, p2_, p3_⟩ := hideT (base := w.heap.size) rfl h0_ (szOf (w := w) HB.out); have F3 := xm p1_; have B7 : Aside0 (∀ k_, P6 k_ → w.heap.size ≤ k_ ∧ k_ < w1_.heap.size) := xm p2_; have T8 := xm p3_; clear p1_ p2_ p3_; have m0_ := xm (below_step (w := w) HB.out hb_); clear HB; have HB := m0_; clear m0_ hb_ hk_ h0_)
  | ((with_reducible refine gate_callee (f := 76) rfl ?_); refine goesL_ (some 19) rfl rfl Try.func76 (by kernel_rfl) rfl #[.slice A4 t2_0.length c5] rfl mB ?_; refine (spec_NewSnap.calls k _ _ t2_0 t9_0 t9_1 t9_2 _ (Kd.R_reads' F3.out).2.2 (Kd.R_reads' F3.out).2.1 t9A.out).mono ?_; rintro e w2_ ⟨v0_, v1_, rfl, h0_, h1_, hb_⟩; refine ⟨_, rfl, ?_⟩; have Z2 := xm (hb_.size : w1_.heap.size ≤ w2_.heap.size); have hk_ := Kept.of_below hb_ (fun _ => False); obtain ⟨A11, c12, rfl⟩ := Kd.R_slice h0_; obtain ⟨A17, c18, rfl⟩ := Kd.S_slice h1_; replace h1_ := Kd.S_apart' h1_ (Kd.R_typed h0_) (by decide); obtain ⟨P13, p1_, p2_, p3_⟩ := hideT (base := w.heap.size) rfl h0_ (szOf (w := w) HB.out); have F10 := xm p1_; have B14 : Aside0 (∀ k_, P13 k_ → w1_.heap.size ≤ k_ ∧ k_ < w2_.heap.size) := xm p2_; have T15 := xm p3_; clear p1_ p2_ p3_; obtain ⟨P19, p1_, p2_, p3_⟩ := hideS (base := w.heap.size) h1_ (szOf (w := w) HB.out); have F16 := xm p1_; have B20 : Aside0 (∀ k_, P19 k_ → w1_.heap.size ≤ k_ ∧ k_ < w2_.heap.size) := xm p2_; have T21 := xm p3_; clear p1_ p2_ p3_; have m0_ := xm (Kd.R_kept F3.out hk_ (fun _ _ h_ => h_)); clear F3; have F3 := m0_; clear m0_; have m0_ := xm (below_step (w := w) HB.out hb_); clear HB; have HB := m0_; clear m0_ hb_ hk_ h0_ h1_)
  | ((with_reducible refine gate_dst (N := 3) rfl ?_); refine box_event ?hgq23 (N := 3) ?hdq23 (cs := #[.slice none 0 0, .slice none 0 0]) (t := 85) ?hrq23 ?_; (case hdq23 => rfl); (case hgq23 => rfl); (case hrq23 => exact zB); intro g22 hg_ w3_ hbox_ hb_; have Z3 := xm (hb_.size : w2_.heap.size ≤ w3_.heap.size); have hk_ := Kept.of_below hb_ (fun _ => False); have m0_ := xm (Kd.R_kept F3.out hk_ (fun _ _ h_ => h_)); have m1_ := xm (Kd.R_kept F10.out hk_ (fun _ _ h_ => h_)); have m2_ := xm (Kd.S_kept F16.out hk_ (fun _ _ h_ => h_)); clear F3 F10 F16; have F3 := m0_; have F10 := m1_; have F16 := m2_; clear m0_ m1_ m2_; have m0_ := xm (below_step (w := w) HB.out hb_); clear HB; have HB := m0_; have BKg22 := xm hbox_; have GBg22 : Aside0 (w2_.heap.size ≤ g22 ∧ g22 < w3_.heap.size) := xm ⟨by rw [hg_]; exact Nat.le_refl _, blk_lt hbox_⟩; clear m0_ hb_ hbox_ hg_ hk_; obtain ⟨hcg22_0, hfg22_0, hcg22_1, hfg22_1⟩ := laws_FnExactNewSnap.cs2 BKg22.out)
  | ((with_reducible refine gate_store (t := 85) (p := 3) rfl ?_); refine store_event (t := 85) (p := 3) (v := ?voq24) (w1 := ((w3_.setCell ⟨g22, 0, none⟩ (.slice A11 t9_0.length c12)).setCell ⟨g22, 1, none⟩ (.slice A17 t9_1.length c18))) ?hgq24 ?hoq24 ?hnq24 ?hrq24 ?_; (case hoq24 => rfl); (case hgq24 => rfl); (case hnq24 => rfl); (case hrq24 => exact zB); intro w4_ hw_; have hk_ : Kept w3_ w4_ (fun k_ => k_ = g22) := (by rw [hw_]; exact kept_box (kept_box (Kept.refl _ _) _ _) _ _); have hx_ : w4_.heap[g22]? = some (.cells #[.slice A11 t9_0.length c12, .slice A17 t9_1.length c18] 85 (0, 0)) := (by rw [hw_]; refine blk_put (cs := #[.slice A11 t9_0.length c12, .slice none 0 0]) ?_ 1 _ rfl; refine blk_put (cs := #[.slice none 0 0, .slice none 0 0]) ?_ 0 _ rfl; exact BKg22.out); have Z4 := xm (hk_.1 : w3_.heap.size ≤ w4_.heap.size); have ge_ : w.heap.size ≤ g22 := (by have := GBg22.out; have := Z1.out; have := Z2.out; omega); have mb_ : Aside0 (Below w.heap.size w w4_) := xm (by rw [hw_]; exact xt (xt (HB.out) ge_) ge_); have hk2_ := (Kept.mono hk_ (S' := fun k_ => w2_.heap.size ≤ k_ ∧ k_ < w3_.heap.size) (fun k_ h_ => by have h_ : k_ = g22 := h_; subst h_; exact GBg22.out)); have m0_ := xm (Kd.R_kept F3.out hk2_ (fun k_ h_ h2_ => by have u1_ := B7.out k_ h_; have u2_ : w2_.heap.size ≤ k_ ∧ k_ < w3_.heap.size := h2_; have := Z2.out; omega)); have m1_ := xm (Kd.R_kept F10.out hk2_ (fun k_ h_ h2_ => by have u1_ := B14.out k_ h_; have u2_ : w2_.heap.size ≤ k_ ∧ k_ < w3_.heap.size := h2_; omega)); have m2_ := xm (Kd.S_kept F16.out hk2_ (fun k_ h_ h2_ => by have u1_ := B20.out k_ h_; have u2_ : w2_.heap.size ≤ k_ ∧ k_ < w3_.heap.size := h2_; omega)); clear F3 F10 F16; have F3 := m0_; have F10 := m1_; have F16 := m2_; clear m0_ m1_ m2_; clear HB BKg22; have HB := mb_; have BKg22 := xm hx_; clear mb_ hx_ hk_ hk2_ hw_ ge_; clear hcg22_0 hfg22_0 hcg22_1 hfg22_1; obtain ⟨hcg22_0, hfg22_0, hcg22_1, hfg22_1⟩ := laws_FnExactNewSnap.cs2 BKg22.out)
  | ((with_reducible refine gate_callee (f := 26) rfl ?_); refine goesL_ (some 23) rfl rfl Try.func26 (by kernel_rfl) rfl #[.slice A0 l0.length c0] rfl mB ?_; refine (laws_toIntS.calls k _ _ l0 t25_0 _ (Kd.C_below HR0.out HB.out) HC0.out t25A.out).mono ?_; rintro e w5_ ⟨v0_, rfl, h0_, hb_⟩; refine ⟨_, rfl, ?_⟩; have Z5 := xm (hb_.size : w4_.heap.size ≤ w5_.heap.size); have hk_ := Kept.of_below hb_ (fun _ => False); obtain ⟨A27, c28, rfl⟩ := Kd.R_slice h0_; obtain ⟨P29, p1_, p2_, p3_⟩ := hideT (base := w.heap.size) rfl h0_ (szOf (w := w) HB.out); have F26 := xm p1_; have B30 : Aside0 (∀ k_, P29 k_ → w4_.heap.size ≤ k_ ∧ k_ < w5_.heap.size) := xm p2_; have T31 := xm p3_; clear p1_ p2_ p3_; have m0_ := xm (Kd.R_kept F3.out hk_ (fun _ _ h_ => h_)); have m1_ := xm (Kd.R_kept F10.out hk_ (fun _ _ h_ => h_)); have m2_ := xm (Kd.S_kept F16.out hk_ (fun _ _ h_ => h_)); have m3_ := xm (blk_kept BKg22.out hk_ (fun h_ => h_)); clear F3 F10 F16 BKg22; have F3 := m0_; have F10 := m1_; have F16 := m2_; have BKg22 := m3_; clear m0_ m1_ m2_ m3_; have m0_ := xm (below_step (w := w) HB.out hb_); clear HB; have HB := m0_; clear m0_ hb_ hk_ h0_; clear hcg22_0 hfg22_0 hcg22_1 hfg22_1; obtain ⟨hcg22_0, hfg22_0, hcg22_1, hfg22_1⟩ := laws_FnExactNewSnap.cs2 BKg22.out)
  | ((with_reducible refine gate_callee (f := 77) rfl ?_); refine goesL_ (some 26) rfl rfl Try.func77 (by kernel_rfl) rfl #[.slice A27 t25_0.length c28] rfl mB ?_; refine (impl_NewSnap.calls k _ _ t25_0 t32_0 t32_1 t32_2 _ (Kd.R_reads' F26.out).2.2 (Kd.R_reads' F26.out).2.1 t32A.out).mono ?_; rintro e w6_ ⟨v0_, v1_, rfl, h0_, h1_, hb_⟩; refine ⟨_, rfl, ?_⟩; have Z6 := xm (hb_.size : w5_.heap.size ≤ w6_.heap.size); have hk_ := Kept.of_below hb_ (fun _ => False); obtain ⟨A34, c35, rfl⟩ := Kd.R_slice h0_; obtain ⟨A40, c41, rfl⟩ := Kd.S_slice h1_; replace h1_ := Kd.S_apart' h1_ (Kd.R_typed h0_) (by decide); obtain ⟨P36, p1_, p2_, p3_⟩ := hideT (base := w.heap.size) rfl h0_ (szOf (w := w) HB.out); have F33 := xm p1_; have B37 : Aside0 (∀ k_, P36 k_ → w5_.heap.size ≤ k_ ∧ k_ < w6_.heap.size) := xm p2_; have T38 := xm p3_; clear p1_ p2_ p3_; obtain ⟨P42, p1_, p2_, p3_⟩ := hideS (base := w.heap.size) h1_ (szOf (w := w) HB.out); have F39 := xm p1_; have B43 : Aside0 (∀ k_, P42 k_ → w5_.heap.size ≤ k_ ∧ k_ < w6_.heap.size) := xm p2_; have T44 := xm p3_; clear p1_ p2_ p3_; have m0_ := xm (Kd.R_kept F3.out hk_ (fun _ _ h_ => h_)); have m1_ := xm (Kd.R_kept F10.out hk_ (fun _ _ h_ => h_)); have m2_ := xm (Kd.S_kept F16.out hk_ (fun _ _ h_ => h_)); have m3_ := xm (Kd.R_kept F26.out hk_ (fun _ _ h_ => h_)); have m4_ := xm (blk_kept BKg22.out hk_ (fun h_ => h_)); clear F3 F10 F16 F26 BKg22; have F3 := m0_; have F10 := m1_; have F16 := m2_; have F26 := m3_; have BKg22 := m4_; clear m0_ m1_ m2_ m3_ m4_; have m0_ := xm (below_step (w := w) HB.out hb_); clear HB; have HB := m0_; clear m0_ hb_ hk_ h0_ h1_; clear hcg22_0 hfg22_0 hcg22_1 hfg22_1; obtain ⟨hcg22_0, hfg22_0, hcg22_1, hfg22_1⟩ := laws_FnExactNewSnap.cs2 BKg22.out)
  | ((with_reducible refine gate_dst (N := 6) rfl ?_); refine box_event ?hgq46 (N := 6) ?hdq46 (cs := #[.slice none 0 0, .slice none 0 0]) (t := 85) ?hrq46 ?_; (case hdq46 => rfl); (case hgq46 => rfl); (case hrq46 => exact zB); intro g45 hg_ w7_ hbox_ hb_; have Z7 := xm (hb_.size : w6_.heap.size ≤ w7_.heap.size); have hk_ := Kept.of_below hb_ (fun _ => False); have m0_ := xm (Kd.R_kept F3.out hk_ (fun _ _ h_ => h_)); have m1_ := xm (Kd.R_kept F10.out hk_ (fun _ _ h_ => h_)); have m2_ := xm (Kd.S_kept F16.out hk_ (fun _ _ h_ => h_)); have m3_ := xm (Kd.R_kept F26.out hk_ (fun _ _ h_ => h_)); have m4_ := xm (Kd.R_kept F33.out hk_ (fun _ _ h_ => h_)); have m5_ := xm (Kd.S_kept F39.out hk_ (fun _ _ h_ => h_)); have m6_ := xm (blk_kept BKg22.out hk_ (fun h_ => h_)); clear F3 F10 F16 F26 F33 F39 BKg22; have F3 := m0_; have F10 := m1_; have F16 := m2_; have F26 := m3_; have F33 := m4_; have F39 := m5_; have BKg22 := m6_; clear m0_ m1_ m2_ m3_ m4_ m5_ m6_; have m0_ := xm (below_step (w := w) HB.out hb_); clear HB; have HB := m0_; have BKg45 := xm hbox_; have GBg45 : Aside0 (w6_.heap.size ≤ g45 ∧ g45 < w7_.heap.size) := xm ⟨by rw [hg_]; exact Nat.le_refl _, blk_lt hbox_⟩; clear m0_ hb_ hbox_ hg_ hk_; clear hcg22_0 hfg22_0 hcg22_1 hfg22_1; obtain ⟨hcg22_0, hfg22_0, hcg22_1, hfg22_1⟩ := laws_FnExactNewSnap.cs2 BKg22.out; obtain ⟨hcg45_0, hfg45_0, hcg45_1, hfg45_1⟩ := laws_FnExactNewSnap.cs2 BKg45.out)
  | ((with_reducible refine gate_store (t := 85) (p := 6) rfl ?_); refine store_event (t := 85) (p := 6) (v := ?voq47) (w1 := ((w7_.setCell ⟨g45, 0, none⟩ (.slice A34 t32_0.length c35)).setCell ⟨g45, 1, none⟩ (.slice A40 t32_1.length c41))) ?hgq47 ?hoq47 ?hnq47 ?hrq47 ?_; (case hoq47 => rfl); (case hgq47 => rfl); (case hnq47 => rfl); (case hrq47 => exact zB); intro w8_ hw_; have hk_ : Kept w7_ w8_ (fun k_ => k_ = g45) := (by rw [hw_]; exact kept_box (kept_box (Kept.refl _ _) _ _) _ _); have hx_ : w8_.heap[g45]? = some (.cells #[.slice A34 t32_0.length c35, .slice A40 t32_1.length c41] 85 (0, 0)) := (by rw [hw_]; refine blk_put (cs := #[.slice A34 t32_0.length c35, .slice none 0 0]) ?_ 1 _ rfl; refine blk_put (cs := #[.slice none 0 0, .slice none 0 0]) ?_ 0 _ rfl; exact BKg45.out); have Z8 := xm (hk_.1 : w7_.heap.size ≤ w8_.heap.size); have ge_ : w.heap.size ≤ g45 := (by have := GBg45.out; have := Z1.out; have := Z2.out; have := Z3.out; have := Z4.out; have := Z5.out; have := Z6.out; omega); have mb_ : Aside0 (Below w.heap.size w w8_) := xm (by rw [hw_]; exact xt (xt (HB.out) ge_) ge_); have hk2_ := (Kept.mono hk_ (S' := fun k_ => w6_.heap.size ≤ k_ ∧ k_ < w7_.heap.size) (fun k_ h_ => by have h_ : k_ = g45 := h_; subst h_; exact GBg45.out)); have m0_ := xm (Kd.R_kept F3.out hk2_ (fun k_ h_ h2_ => by have u1_ := B7.out k_ h_; have u2_ : w6_.heap.size ≤ k_ ∧ k_ < w7_.heap.size := h2_; have := Z2.out; have := Z3.out; have := Z4.out; have := Z5.out; have := Z6.out; omega)); have m1_ := xm (Kd.R_kept F10.out hk2_ (fun k_ h_ h2_ => by have u1_ := B14.out k_ h_; have u2_ : w6_.heap.size ≤ k_ ∧ k_ < w7_.heap.size := h2_; have := Z3.out; have := Z4.out; have := Z5.out; have := Z6.out; omega)); have m2_ := xm (Kd.S_kept F16.out hk2_ (fun k_ h_ h2_ => by have u1_ := B20.out k_ h_; have u2_ : w6_.heap.size ≤ k_ ∧ k_ < w7_.heap.size := h2_; have := Z3.out; have := Z4.out; have := Z5.out; have := Z6.out; omega)); have m3_ := xm (Kd.R_kept F26.out hk2_ (fun k_ h_ h2_ => by have u1_ := B30.out k_ h_; have u2_ : w6_.heap.size ≤ k_ ∧ k_ < w7_.heap.size := h2_; have := Z6.out; omega)); have m4_ := xm (Kd.R_kept F33.out hk2_ (fun k_ h_ h2_ => by have u1_ := B37.out k_ h_; have u2_ : w6_.heap.size ≤ k_ ∧ k_ < w7_.heap.size := h2_; omega)); have m5_ := xm (Kd.S_kept F39.out hk2_ (fun k_ h_ h2_ => by have u1_ := B43.out k_ h_; have u2_ : w6_.heap.size ≤ k_ ∧ k_ < w7_.heap.size := h2_; omega)); have m6_ := xm (blk_kept BKg22.out hk2_ (fun h2_ => by have u1_ := GBg22.out; have u2_ : w6_.heap.size ≤ g22 ∧ g22 < w7_.heap.size := h2_; have := Z4.out; have := Z5.out; have := Z6.out; omega)); clear F3 F10 F16 F26 F33 F39 BKg22; have F3 := m0_; have F10 := m1_; have F16 := m2_; have F26 := m3_; have F33 := m4_; have F39 := m5_; have BKg22 := m6_; clear m0_ m1_ m2_ m3_ m4_ m5_ m6_; clear HB BKg45; have HB := mb_; have BKg45 := xm hx_; clear mb_ hx_ hk_ hk2_ hw_ ge_; clear hcg22_0 hfg22_0 hcg22_1 hfg22_1; obtain ⟨hcg22_0, hfg22_0, hcg22_1, hfg22_1⟩ := laws_FnExactNewSnap.cs2 BKg22.out; clear hcg45_0 hfg45_0 hcg45_1 hfg45_1; obtain ⟨hcg45_0, hfg45_0, hcg45_1, hfg45_1⟩ := laws_FnExactNewSnap.cs2 BKg45.out)
  | ((with_reducible refine gate_callee (f := 59) rfl ?_); refine goesL_ (some 31) rfl rfl Try.func59 (by kernel_rfl) rfl #[.agg #[.slice A34 t32_0.length c35, .slice A40 t32_1.length c41], .agg #[.slice A11 t9_0.length c12, .slice A17 t9_1.length c18]] rfl mB ?_; refine (laws_eqSnap.calls k _ _ t32_0 _ _ t32_1 _ _ t9_0 _ _ t9_1 true _ (Kd.R_reads' F33.out).2.2 (Kd.R_reads' F33.out).2.1 (Kd.S_reads' F39.out).2.2 (Kd.S_reads' F39.out).2.1 (Kd.R_reads' F10.out).2.2 (Kd.R_reads' F10.out).2.1 (Kd.S_reads' F16.out).2.2 (Kd.S_reads' F16.out).2.1 t48A.out).mono ?_; rintro e w9_ ⟨rfl, hb_⟩; refine ⟨_, rfl, ?_⟩; have Z9 := xm (hb_.size : w8_.heap.size ≤ w9_.heap.size); have hk_ := Kept.of_below hb_ (fun _ => False); have m0_ := xm (Kd.R_kept F3.out hk_ (fun _ _ h_ => h_)); have m1_ := xm (Kd.R_kept F10.out hk_ (fun _ _ h_ => h_)); have m2_ := xm (Kd.S_kept F16.out hk_ (fun _ _ h_ => h_)); have m3_ := xm (Kd.R_kept F26.out hk_ (fun _ _ h_ => h_)); have m4_ := xm (Kd.R_kept F33.out hk_ (fun _ _ h_ => h_)); have m5_ := xm (Kd.S_kept F39.out hk_ (fun _ _ h_ => h_)); have m6_ := xm (blk_kept BKg22.out hk_ (fun h_ => h_)); have m7_ := xm (blk_kept BKg45.out hk_ (fun h_ => h_)); clear F3 F10 F16 F26 F33 F39 BKg22 BKg45; have F3 := m0_; have F10 := m1_; have F16 := m2_; have F26 := m3_; have F33 := m4_; have F39 := m5_; have BKg22 := m6_; have BKg45 := m7_; clear m0_ m1_ m2_ m3_ m4_ m5_ m6_ m7_; have m0_ := xm (below_step (w := w) HB.out hb_); clear HB; have HB := m0_; clear m0_ hb_ hk_; clear hcg22_0 hfg22_0 hcg22_1 hfg22_1; obtain ⟨hcg22_0, hfg22_0, hcg22_1, hfg22_1⟩ := laws_FnExactNewSnap.cs2 BKg22.out; clear hcg45_0 hfg45_0 hcg45_1 hfg45_1; obtain ⟨hcg45_0, hfg45_0, hcg45_1, hfg45_1⟩ := laws_FnExactNewSnap.cs2 BKg45.out)
  | ((with_reducible refine gate_callee (f := 26) rfl ?_); refine goesL_ (some 40) rfl rfl Try.func26 (by kernel_rfl) rfl #[.slice A0 l0.length c0] rfl mB ?_; refine (laws_toIntS.calls k _ _ l0 t51_0 _ (Kd.C_below HR0.out HB.out) HC0.out t51A.out).mono ?_; rintro e w10_ ⟨v0_, rfl, h0_, hb_⟩; refine ⟨_, rfl, ?_⟩; have Z10 := xm (hb_.size : w9_.heap.size ≤ w10_.heap.size); have hk_ := Kept.of_below hb_ (fun _ => False); obtain ⟨A53, c54, rfl⟩ := Kd.R_slice h0_; obtain ⟨P55, p1_, p2_, p3_⟩ := hideT (base := w.heap.size) rfl h0_ (szOf (w := w) HB.out); have F52 := xm p1_; have B56 : Aside0 (∀ k_, P55 k_ → w9_.heap.size ≤ k_ ∧ k_ < w10_.heap.size) := xm p2_; have T57 := xm p3_; clear p1_ p2_ p3_; have m0_ := xm (Kd.R_kept F3.out hk_ (fun _ _ h_ => h_)); have m1_ := xm (Kd.R_kept F10.out hk_ (fun _ _ h_ => h_)); have m2_ := xm (Kd.S_kept F16.out hk_ (fun _ _ h_ => h_)); have m3_ := xm (Kd.R_kept F26.out hk_ (fun _ _ h_ => h_)); have m4_ := xm (Kd.R_kept F33.out hk_ (fun _ _ h_ => h_)); have m5_ := xm (Kd.S_kept F39.out hk_ (fun _ _ h_ => h_)); have m6_ := xm (blk_kept BKg22.out hk_ (fun h_ => h_)); have m7_ := xm (blk_kept BKg45.out hk_ (fun h_ => h_)); clear F3 F10 F16 F26 F33 F39 BKg22 BKg45; have F3 := m0_; have F10 := m1_; have F16 := m2_; have F26 := m3_; have F33 := m4_; have F39 := m5_; have BKg22 := m6_; have BKg45 := m7_; clear m0_ m1_ m2_ m3_ m4_ m5_ m6_ m7_; have m0_ := xm (below_step (w := w) HB.out hb_); clear HB; have HB := m0_; clear m0_ hb_ hk_ h0_; clear hcg22_0 hfg22_0 hcg22_1 hfg22_1; obtain ⟨hcg22_0, hfg22_0, hcg22_1, hfg22_1⟩ := laws_FnExactNewSnap.cs2 BKg22.out; clear hcg45_0 hfg45_0 hcg45_1 hfg45_1; obtain ⟨hcg45_0, hfg45_0, hcg45_1, hfg45_1⟩ := laws_FnExactNewSnap.cs2 BKg45.out)
  | ((with_reducible refine gate_callee (f := 29) rfl ?_); refine goesL_ (some 41) rfl rfl Try.func29 (by kernel_rfl) rfl #[.slice A27 t25_0.length c28, .slice A53 t51_0.length c54] rfl mB ?_; refine (laws_eqIntS.calls k _ _ t25_0 _ _ t51_0 true _ (Kd.R_reads' F26.out).2.2 (Kd.R_reads' F26.out).2.1 (Kd.R_reads' F52.out).2.2 (Kd.R_reads' F52.out).2.1 t58A.out).mono ?_; rintro e w11_ ⟨rfl, hb_⟩; refine ⟨_, rfl, ?_⟩; replace hb_ := hb_.below; have Z11 := xm (hb_.size : w10_.heap.size ≤ w11_.heap.size); have hk_ := Kept.of_below hb_ (fun _ => False); have m0_ := xm (Kd.R_kept F3.out hk_ (fun _ _ h_ => h_)); have m1_ := xm (Kd.R_kept F10.out hk_ (fun _ _ h_ => h_)); have m2_ := xm (Kd.S_kept F16.out hk_ (fun _ _ h_ => h_)); have m3_ := xm (Kd.R_kept F26.out hk_ (fun _ _ h_ => h_)); have m4_ := xm (Kd.R_kept F33.out hk_ (fun _ _ h_ => h_)); have m5_ := xm (Kd.S_kept F39.out hk_ (fun _ _ h_ => h_)); have m6_ := xm (Kd.R_kept F52.out hk_ (fun _ _ h_ => h_)); have m7_ := xm (blk_kept BKg22.out hk_ (fun h_ => h_)); have m8_ := xm (blk_kept BKg45.out hk_ (fun h_ => h_)); clear F3 F10 F16 F26 F33 F39 F52 BKg22 BKg45; have F3 := m0_; have F10 := m1_; have F16 := m2_; have F26 := m3_; have F33 := m4_; have F39 := m5_; have F52 := m6_; have BKg22 := m7_; have BKg45 := m8_; clear m0_ m1_ m2_ m3_ m4_ m5_ m6_ m7_ m8_; have m0_ := xm (below_step (w := w) HB.out hb_); clear HB; have HB := m0_; clear m0_ hb_ hk_; clear hcg22_0 hfg22_0 hcg22_1 hfg22_1; obtain ⟨hcg22_0, hfg22_0, hcg22_1, hfg22_1⟩ := laws_FnExactNewSnap.cs2 BKg22.out; clear hcg45_0 hfg45_0 hcg45_1 hfg45_1; obtain ⟨hcg45_0, hfg45_0, hcg45_1, hfg45_1⟩ := laws_FnExactNewSnap.cs2 BKg45.out)
  | ((with_reducible refine gate_callee (f := 30) rfl ?_); refine goesL_ (some 45) rfl rfl Try.func30 (by kernel_rfl) rfl #[.slice A27 t25_0.length c28, .int .i64 1] rfl mB ?_; refine (laws_markIntS.calls k P29 (.slice A27 t25_0.length c28) t25_0 1 t60_0 t60_1 w _ HB.out F26.out t60A.out).mono ?_; rintro e w12_ ⟨rfl, h0_, hb_, hkp_⟩; refine ⟨_, rfl, ?_⟩; have Z12 := xm (hkp_.1 : w11_.heap.size ≤ w12_.heap.size); have hk2_ := Kept.mono hkp_ (S' := fun k_ => w4_.heap.size ≤ k_ ∧ k_ < w5_.heap.size) (fun k_ h_ => by exact B30.out k_ h_); have yF26 := xm (Kd.R_reok rfl h0_ (fun k_ e_ => F26.out.1 k_ e_)); have m0_ := xm (Kd.R_kept F3.out hk2_ (fun k_ h_ h2_ => by have u1_ := B7.out k_ h_; have u2_ : w4_.heap.size ≤ k_ ∧ k_ < w5_.heap.size := h2_; have := Z2.out; have := Z3.out; have := Z4.out; omega)); have m1_ := xm (Kd.R_kept F10.out hk2_ (fun k_ h_ h2_ => by have u1_ := B14.out k_ h_; have u2_ : w4_.heap.size ≤ k_ ∧ k_ < w5_.heap.size := h2_; have := Z3.out; have := Z4.out; omega)); have m2_ := xm (Kd.S_kept F16.out hk2_ (fun k_ h_ h2_ => by have u1_ := B20.out k_ h_; have u2_ : w4_.heap.size ≤ k_ ∧ k_ < w5_.heap.size := h2_; have := Z3.out; have := Z4.out; omega)); have m3_ := xm (Kd.R_kept F33.out hk2_ (fun k_ h_ h2_ => by have u1_ := B37.out k_ h_; have u2_ : w4_.heap.size ≤ k_ ∧ k_ < w5_.heap.size := h2_; omega)); have m4_ := xm (Kd.S_kept F39.out hk2_ (fun k_ h_ h2_ => by have u1_ := B43.out k_ h_; have u2_ : w4_.heap.size ≤ k_ ∧ k_ < w5_.heap.size := h2_; omega)); have m5_ := xm (Kd.R_kept F52.out hk2_ (fun k_ h_ h2_ => by have u1_ := B56.out k_ h_; have u2_ : w4_.heap.size ≤ k_ ∧ k_ < w5_.heap.size := h2_; have := Z6.out; have := Z7.out; have := Z8.out; have := Z9.out; omega)); have m6_ := xm (blk_kept BKg22.out hk2_ (fun h2_ => by have u1_ := GBg22.out; have u2_ : w4_.heap.size ≤ g22 ∧ g22 < w5_.heap.size := h2_; have := Z4.out; omega)); have m7_ := xm (blk_kept BKg45.out hk2_ (fun h2_ => by have u1_ := GBg45.out; have u2_ : w4_.heap.size ≤ g45 ∧ g45 < w5_.heap.size := h2_; have := Z6.out; omega)); clear F3 F10 F16 F33 F39 F52 BKg22 BKg45; have F3 := m0_; have F10 := m1_; have F16 := m2_; have F33 := m3_; have F39 := m4_; have F52 := m5_; have BKg22 := m6_; have BKg45 := m7_; clear m0_ m1_ m2_ m3_ m4_ m5_ m6_ m7_; clear F26; have F26 := yF26; clear yF26; clear HB; have HB := xm hb_; clear hb_ hkp_ hk2_ h0_; (try clear LEF26); have LEF26 := xm (Kd.R_reads' F26.out).1; clear hcg22_0 hfg22_0 hcg22_1 hfg22_1; obtain ⟨hcg22_0, hfg22_0, hcg22_1, hfg22_1⟩ := laws_FnExactNewSnap.cs2 BKg22.out; clear hcg45_0 hfg45_0 hcg45_1 hfg45_1; obtain ⟨hcg45_0, hfg45_0, hcg45_1, hfg45_1⟩ := laws_FnExactNewSnap.cs2 BKg45.out)
  | ((with_reducible refine gate_callee (f := 78) rfl ?_); refine goesL_ (some 61) rfl rfl Try.func78 (by kernel_rfl) rfl #[.agg #[.slice A34 t32_0.length c35, .slice A40 t32_1.length c41], .int .i64 1] rfl mB ?_; refine (laws_markSnap.calls k P36 (.slice A34 t32_0.length c35) t32_0 P42 (.slice A40 t32_1.length c41) t32_1 1 t65_0 t65_1 t65_2 w _ HB.out F33.out F39.out (fun k_ h_ h2_ => absurd (T38.out k_ h_).1 (by have z_ := T44.out k_ h2_; first | exact z_ | exact z_.1 | exact z_.2 | exact z_.2.1 | exact z_.2.2 | exact z_.2.2.1 | exact z_.2.2.2 | exact z_.2.2.2.1 | exact z_.2.2.2.2 | exact z_.2.2.2.2.1 | exact z_.2.2.2.2.2 | exact z_.2.2.2.2.2.1 | exact z_.2.2.2.2.2.2)) t65A.out).mono ?_; rintro e w14_ ⟨rfl, h0_, h1_, hb_, hkp_⟩; refine ⟨_, rfl, ?_⟩; have Z14 := xm (hkp_.1 : w13_.heap.size ≤ w14_.heap.size); have hk2_ := Kept.mono hkp_ (S' := fun k_ => w5_.heap.size ≤ k_ ∧ k_ < w6_.heap.size) (fun k_ h_ => by rcases h_ with h_ | h_ <;> first | exact B37.out k_ h_ | exact B43.out k_ h_); have yF33 := xm (Kd.R_reok rfl h0_ (fun k_ e_ => F33.out.1 k_ e_)); have yF39 := xm h1_; have m0_ := xm (Kd.R_kept F3.out hk2_ (fun k_ h_ h2_ => by have u1_ := B7.out k_ h_; have u2_ : w5_.heap.size ≤ k_ ∧ k_ < w6_.heap.size := h2_; have := Z2.out; have := Z3.out; have := Z4.out; have := Z5.out; omega)); have m1_ := xm (Kd.R_kept F10.out hk2_ (fun k_ h_ h2_ => by have u1_ := B14.out k_ h_; have u2_ : w5_.heap.size ≤ k_ ∧ k_ < w6_.heap.size := h2_; have := Z3.out; have := Z4.out; have := Z5.out; omega)); have m2_ := xm (Kd.S_kept F16.out hk2_ (fun k_ h_ h2_ => by have u1_ := B20.out k_ h_; have u2_ : w5_.heap.size ≤ k_ ∧ k_ < w6_.heap.size := h2_; have := Z3.out; have := Z4.out; have := Z5.out; omega)); have m3_ := xm (Kd.R_kept F26.out hk2_ (fun k_ h_ h2_ => by have u1_ := B30.out k_ h_; have u2_ : w5_.heap.size ≤ k_ ∧ k_ < w6_.heap.size := h2_; omega)); have m4_ := xm (Kd.R_kept F52.out hk2_ (fun k_ h_ h2_ => by have u1_ := B56.out k_ h_; have u2_ : w5_.heap.size ≤ k_ ∧ k_ < w6_.heap.size := h2_; have := Z7.out; have := Z8.out; have := Z9.out; omega)); have m5_ := xm (blk_kept BKg22.out hk2_ (fun h2_ => by have u1_ := GBg22.out; have u2_ : w5_.heap.size ≤ g22 ∧ g22 < w6_.heap.size := h2_; have := Z4.out; have := Z5.out; omega)); have m6_ := xm (blk_kept BKg45.out hk2_ (fun h2_ => by have u1_ := GBg45.out; have u2_ : w5_.heap.size ≤ g45 ∧ g45 < w6_.heap.size := h2_; omega)); clear F3 F10 F16 F26 F52 BKg22 BKg45; have F3 := m0_; have F10 := m1_; have F16 := m2_; have F26 := m3_; have F52 := m4_; have BKg22 := m5_; have BKg45 := m6_; clear m0_ m1_ m2_ m3_ m4_ m5_ m6_; clear F33 F39; have F33 := yF33; have F39 := yF39; clear yF33 yF39; clear HB; have HB := xm hb_; clear hb_ hkp_ hk2_ h0_ h1_; (try clear LEF33); have LEF33 := xm (Kd.R_reads' F33.out).1; (try clear LEF39); have LEF39 := xm (Kd.S_reads' F39.out).1; clear hcg22_0 hfg22_0 hcg22_1 hfg22_1; obtain ⟨hcg22_0, hfg22_0, hcg22_1, hfg22_1⟩ := laws_FnExactNewSnap.cs2 BKg22.out; clear hcg45_0 hfg45_0 hcg45_1 hfg45_1; obtain ⟨hcg45_0, hfg45_0, hcg45_1, hfg45_1⟩ := laws_FnExactNewSnap.cs2 BKg45.out)
  | ((with_reducible refine gate_callee (f := 79) rfl ?_); refine goesL_ (some 64) rfl rfl Try.func79 (by kernel_rfl) rfl #[.agg #[.slice A34 t32_0.length c35, .slice A40 t32_1.length c41], .int .i64 1] rfl mB ?_; refine calls_of_args (args' := #[.agg #[.slice A34 t65_1.length c35, .slice A40 t65_2.length c41], .int .i64 1]) (by simp only [LEF33.out, LEF39.out]) ?_; refine (laws_heldSnap.calls k _ _ t65_1 _ _ t65_2 1 t66_0 _ (Kd.R_reads' F33.out).2.2 (by have z_ := Kd.R_reads' F33.out; have y_ := z_.1; have x_ := z_.2.1; omega) (Kd.S_reads' F39.out).2.2 (by have z_ := Kd.S_reads' F39.out; have y_ := z_.1; have x_ := z_.2.1; omega) t66A.out).mono ?_; rintro e w15_ ⟨rfl, hb_⟩; refine ⟨_, rfl, ?_⟩; have Z15 := xm (hb_.size : w14_.heap.size ≤ w15_.heap.size); have hk_ := Kept.of_below hb_ (fun _ => False); have m0_ := xm (Kd.R_kept F3.out hk_ (fun _ _ h_ => h_)); have m1_ := xm (Kd.R_kept F10.out hk_ (fun _ _ h_ => h_)); have m2_ := xm (Kd.S_kept F16.out hk_ (fun _ _ h_ => h_)); have m3_ := xm (Kd.R_kept F26.out hk_ (fun _ _ h_ => h_)); have m4_ := xm (Kd.R_kept F33.out hk_ (fun _ _ h_ => h_)); have m5_ := xm (Kd.S_kept F39.out hk_ (fun _ _ h_ => h_)); have m6_ := xm (Kd.R_kept F52.out hk_ (fun _ _ h_ => h_)); have m7_ := xm (blk_kept BKg22.out hk_ (fun h_ => h_)); have m8_ := xm (blk_kept BKg45.out hk_ (fun h_ => h_)); clear F3 F10 F16 F26 F33 F39 F52 BKg22 BKg45; have F3 := m0_; have F10 := m1_; have F16 := m2_; have F26 := m3_; have F33 := m4_; have F39 := m5_; have F52 := m6_; have BKg22 := m7_; have BKg45 := m8_; clear m0_ m1_ m2_ m3_ m4_ m5_ m6_ m7_ m8_; have m0_ := xm (below_step (w := w) HB.out hb_); clear HB; have HB := m0_; clear m0_ hb_ hk_; clear hcg22_0 hfg22_0 hcg22_1 hfg22_1; obtain ⟨hcg22_0, hfg22_0, hcg22_1, hfg22_1⟩ := laws_FnExactNewSnap.cs2 BKg22.out; clear hcg45_0 hfg45_0 hcg45_1 hfg45_1; obtain ⟨hcg45_0, hfg45_0, hcg45_1, hfg45_1⟩ := laws_FnExactNewSnap.cs2 BKg45.out)
  | ((with_reducible refine gate_callee (f := 26) rfl ?_); refine goesL_ (some 72) rfl rfl Try.func26 (by kernel_rfl) rfl #[.slice A0 l0.length c0] rfl mB ?_; refine (laws_toIntS.calls k _ _ l0 t69_0 _ (Kd.C_below HR0.out HB.out) HC0.out t69A.out).mono ?_; rintro e w16_ ⟨v0_, rfl, h0_, hb_⟩; refine ⟨_, rfl, ?_⟩; have Z16 := xm (hb_.size : w15_.heap.size ≤ w16_.heap.size); have hk_ := Kept.of_below hb_ (fun _ => False); obtain ⟨A71, c72, rfl⟩ := Kd.R_slice h0_; obtain ⟨P73, p1_, p2_, p3_⟩ := hideT (base := w.heap.size) rfl h0_ (szOf (w := w) HB.out); have F70 := xm p1_; have B74 : Aside0 (∀ k_, P73 k_ → w15_.heap.size ≤ k_ ∧ k_ < w16_.heap.size) := xm p2_; have T75 := xm p3_; clear p1_ p2_ p3_; have m0_ := xm (Kd.R_kept F3.out hk_ (fun _ _ h_ => h_)); have m1_ := xm (Kd.R_kept F10.out hk_ (fun _ _ h_ => h_)); have m2_ := xm (Kd.S_kept F16.out hk_ (fun _ _ h_ => h_)); have m3_ := xm (Kd.R_kept F26.out hk_ (fun _ _ h_ => h_)); have m4_ := xm (Kd.R_kept F33.out hk_ (fun _ _ h_ => h_)); have m5_ := xm (Kd.S_kept F39.out hk_ (fun _ _ h_ => h_)); have m6_ := xm (Kd.R_kept F52.out hk_ (fun _ _ h_ => h_)); have m7_ := xm (blk_kept BKg22.out hk_ (fun h_ => h_)); have m8_ := xm (blk_kept BKg45.out hk_ (fun h_ => h_)); clear F3 F10 F16 F26 F33 F39 F52 BKg22 BKg45; have F3 := m0_; have F10 := m1_; have F16 := m2_; have F26 := m3_; have F33 := m4_; have F39 := m5_; have F52 := m6_; have BKg22 := m7_; have BKg45 := m8_; clear m0_ m1_ m2_ m3_ m4_ m5_ m6_ m7_ m8_; have m0_ := xm (below_step (w := w) HB.out hb_); clear HB; have HB := m0_; clear m0_ hb_ hk_ h0_; clear hcg22_0 hfg22_0 hcg22_1 hfg22_1; obtain ⟨hcg22_0, hfg22_0, hcg22_1, hfg22_1⟩ := laws_FnExactNewSnap.cs2 BKg22.out; clear hcg45_0 hfg45_0 hcg45_1 hfg45_1; obtain ⟨hcg45_0, hfg45_0, hcg45_1, hfg45_1⟩ := laws_FnExactNewSnap.cs2 BKg45.out)
  | ((with_reducible refine gate_callee (f := 77) rfl ?_); refine goesL_ (some 73) rfl rfl Try.func77 (by kernel_rfl) rfl #[.slice A71 t69_0.length c72] rfl mB ?_; refine (impl_NewSnap.calls k _ _ t69_0 t76_0 t76_1 t76_2 _ (Kd.R_reads' F70.out).2.2 (Kd.R_reads' F70.out).2.1 t76A.out).mono ?_; rintro e w17_ ⟨v0_, v1_, rfl, h0_, h1_, hb_⟩; refine ⟨_, rfl, ?_⟩; have Z17 := xm (hb_.size : w16_.heap.size ≤ w17_.heap.size); have hk_ := Kept.of_below hb_ (fun _ => False); obtain ⟨A78, c79, rfl⟩ := Kd.R_slice h0_; obtain ⟨A84, c85, rfl⟩ := Kd.S_slice h1_; replace h1_ := Kd.S_apart' h1_ (Kd.R_typed h0_) (by decide); obtain ⟨P80, p1_, p2_, p3_⟩ := hideT (base := w.heap.size) rfl h0_ (szOf (w := w) HB.out); have F77 := xm p1_; have B81 : Aside0 (∀ k_, P80 k_ → w16_.heap.size ≤ k_ ∧ k_ < w17_.heap.size) := xm p2_; have T82 := xm p3_; clear p1_ p2_ p3_; obtain ⟨P86, p1_, p2_, p3_⟩ := hideS (base := w.heap.size) h1_ (szOf (w := w) HB.out); have F83 := xm p1_; have B87 : Aside0 (∀ k_, P86 k_ → w16_.heap.size ≤ k_ ∧ k_ < w17_.heap.size) := xm p2_; have T88 := xm p3_; clear p1_ p2_ p3_; have m0_ := xm (Kd.R_kept F3.out hk_ (fun _ _ h_ => h_)); have m1_ := xm (Kd.R_kept F10.out hk_ (fun _ _ h_ => h_)); have m2_ := xm (Kd.S_kept F16.out hk_ (fun _ _ h_ => h_)); have m3_ := xm (Kd.R_kept F26.out hk_ (fun _ _ h_ => h_)); have m4_ := xm (Kd.R_kept F33.out hk_ (fun _ _ h_ => h_)); have m5_ := xm (Kd.S_kept F39.out hk_ (fun _ _ h_ => h_)); have m6_ := xm (Kd.R_kept F52.out hk_ (fun _ _ h_ => h_)); have m7_ := xm (Kd.R_kept F70.out hk_ (fun _ _ h_ => h_)); have m8_ := xm (blk_kept BKg22.out hk_ (fun h_ => h_)); have m9_ := xm (blk_kept BKg45.out hk_ (fun h_ => h_)); clear F3 F10 F16 F26 F33 F39 F52 F70 BKg22 BKg45; have F3 := m0_; have F10 := m1_; have F16 := m2_; have F26 := m3_; have F33 := m4_; have F39 := m5_; have F52 := m6_; have F70 := m7_; have BKg22 := m8_; have BKg45 := m9_; clear m0_ m1_ m2_ m3_ m4_ m5_ m6_ m7_ m8_ m9_; have m0_ := xm (below_step (w := w) HB.out hb_); clear HB; have HB := m0_; clear m0_ hb_ hk_ h0_ h1_; clear hcg22_0 hfg22_0 hcg22_1 hfg22_1; obtain ⟨hcg22_0, hfg22_0, hcg22_1, hfg22_1⟩ := laws_FnExactNewSnap.cs2 BKg22.out; clear hcg45_0 hfg45_0 hcg45_1 hfg45_1; obtain ⟨hcg45_0, hfg45_0, hcg45_1, hfg45_1⟩ := laws_FnExactNewSnap.cs2 BKg45.out)
  | ((with_reducible refine gate_dst (N := 11) rfl ?_); refine box_event ?hgq90 (N := 11) ?hdq90 (cs := #[.slice none 0 0, .slice none 0 0]) (t := 85) ?hrq90 ?_; (case hdq90 => rfl); (case hgq90 => rfl); (case hrq90 => exact zB); intro g89 hg_ w18_ hbox_ hb_; have Z18 := xm (hb_.size : w17_.heap.size ≤ w18_.heap.size); have hk_ := Kept.of_below hb_ (fun _ => False); have m0_ := xm (Kd.R_kept F3.out hk_ (fun _ _ h_ => h_)); have m1_ := xm (Kd.R_kept F10.out hk_ (fun _ _ h_ => h_)); have m2_ := xm (Kd.S_kept F16.out hk_ (fun _ _ h_ => h_)); have m3_ := xm (Kd.R_kept F26.out hk_ (fun _ _ h_ => h_)); have m4_ := xm (Kd.R_kept F33.out hk_ (fun _ _ h_ => h_)); have m5_ := xm (Kd.S_kept F39.out hk_ (fun _ _ h_ => h_)); have m6_ := xm (Kd.R_kept F52.out hk_ (fun _ _ h_ => h_)); have m7_ := xm (Kd.R_kept F70.out hk_ (fun _ _ h_ => h_)); have m8_ := xm (Kd.R_kept F77.out hk_ (fun _ _ h_ => h_)); have m9_ := xm (Kd.S_kept F83.out hk_ (fun _ _ h_ => h_)); have m10_ := xm (blk_kept BKg22.out hk_ (fun h_ => h_)); have m11_ := xm (blk_kept BKg45.out hk_ (fun h_ => h_)); clear F3 F10 F16 F26 F33 F39 F52 F70 F77 F83 BKg22 BKg45; have F3 := m0_; have F10 := m1_; have F16 := m2_; have F26 := m3_; have F33 := m4_; have F39 := m5_; have F52 := m6_; have F70 := m7_; have F77 := m8_; have F83 := m9_; have BKg22 := m10_; have BKg45 := m11_; clear m0_ m1_ m2_ m3_ m4_ m5_ m6_ m7_ m8_ m9_ m10_ m11_; have m0_ := xm (below_step (w := w) HB.out hb_); clear HB; have HB := m0_; have BKg89 := xm hbox_; have GBg89 : Aside0 (w17_.heap.size ≤ g89 ∧ g89 < w18_.heap.size) := xm ⟨by rw [hg_]; exact Nat.le_refl _, blk_lt hbox_⟩; clear m0_ hb_ hbox_ hg_ hk_; clear hcg22_0 hfg22_0 hcg22_1 hfg22_1; obtain ⟨hcg22_0, hfg22_0, hcg22_1, hfg22_1⟩ := laws_FnExactNewSnap.cs2 BKg22.out; clear hcg45_0 hfg45_0 hcg45_1 hfg45_1; obtain ⟨hcg45_0, hfg45_0, hcg45_1, hfg45_1⟩ := laws_FnExactNewSnap.cs2 BKg45.out; obtain ⟨hcg89_0, hfg89_0, hcg89_1, hfg89_1⟩ := laws_FnExactNewSnap.cs2 BKg89.out)
  | ((with_reducible refine gate_store (t := 85) (p := 11) rfl ?_); refine store_event (t := 85) (p := 11) (v := ?voq91) (w1 := ((w18_.setCell ⟨g89, 0, none⟩ (.slice A78 t76_0.length c79)).setCell ⟨g89, 1, none⟩ (.slice A84 t76_1.length c85))) ?hgq91 ?hoq91 ?hnq91 ?hrq91 ?_; (case hoq91 => rfl); (case hgq91 => rfl); (case hnq91 => rfl); (case hrq91 => exact zB); intro w19_ hw_; have hk_ : Kept w18_ w19_ (fun k_ => k_ = g89) := (by rw [hw_]; exact kept_box (kept_box (Kept.refl _ _) _ _) _ _); have hx_ : w19_.heap[g89]? = some (.cells #[.slice A78 t76_0.length c79, .slice A84 t76_1.length c85] 85 (0, 0)) := (by rw [hw_]; refine blk_put (cs := #[.slice A78 t76_0.length c79, .slice none 0 0]) ?_ 1 _ rfl; refine blk_put (cs := #[.slice none 0 0, .slice none 0 0]) ?_ 0 _ rfl; exact BKg89.out); have Z19 := xm (hk_.1 : w18_.heap.size ≤ w19_.heap.size); have ge_ : w.heap.size ≤ g89 := (by have := GBg89.out; have := Z1.out; have := Z2.out; have := Z3.out; have := Z4.out; have := Z5.out; have := Z6.out; have := Z7.out; have := Z8.out; have := Z9.out; have := Z10.out; have := Z11.out; have := Z12.out; have := Z13.out; have := Z14.out; have := Z15.out; have := Z16.out; have := Z17.out; omega); have mb_ : Aside0 (Below w.heap.size w w19_) := xm (by rw [hw_]; exact xt (xt (HB.out) ge_) ge_); have hk2_ := (Kept.mono hk_ (S' := fun k_ => w17_.heap.size ≤ k_ ∧ k_ < w18_.heap.size) (fun k_ h_ => by have h_ : k_ = g89 := h_; subst h_; exact GBg89.out)); have m0_ := xm (Kd.R_kept F3.out hk2_ (fun k_ h_ h2_ => by have u1_ := B7.out k_ h_; have u2_ : w17_.heap.size ≤ k_ ∧ k_ < w18_.heap.size := h2_; have := Z2.out; have := Z3.out; have := Z4.out; have := Z5.out; have := Z6.out; have := Z7.out; have := Z8.out; have := Z9.out; have := Z10.out; have := Z11.out; have := Z12.out; have := Z13.out; have := Z14.out; have := Z15.out; have := Z16.out; have := Z17.out; omega)); have m1_ := xm (Kd.R_kept F10.out hk2_ (fun k_ h_ h2_ => by have u1_ := B14.out k_ h_; have u2_ : w17_.heap.size ≤ k_ ∧ k_ < w18_.heap.size := h2_; have := Z3.out; have := Z4.out; have := Z5.out; have := Z6.out; have := Z7.out; have := Z8.out; have := Z9.out; have := Z10.out; have := Z11.out; have := Z12.out; have := Z13.out; have := Z14.out; have := Z15.out; have := Z16.out; have := Z17.out; omega)); have m2_ := xm (Kd.S_kept F16.out hk2_ (fun k_ h_ h2_ => by have u1_ := B20.out k_ h_; have u2_ : w17_.heap.size ≤ k_ ∧ k_ < w18_.heap.size := h2_; have := Z3.out; have := Z4.out; have := Z5.out; have := Z6.out; have := Z7.out; have := Z8.out; have := Z9.out; have := Z10.out; have := Z11.out; have := Z12.out; have := Z13.out; have := Z14.out; have := Z15.out; have := Z16.out; have := Z17.out; omega)); have m3_ := xm (Kd.R_kept F26.out hk2_ (fun k_ h_ h2_ => by have u1_ := B30.out k_ h_; have u2_ : w17_.heap.size ≤ k_ ∧ k_ < w18_.heap.size := h2_; have := Z6.out; have := Z7.out; have := Z8.out; have := Z9.out; have := Z10.out; have := Z11.out; have := Z12.out; have := Z13.out; have := Z14.out; have := Z15.out; have := Z16.out; have := Z17.out; omega)); have m4_ := xm (Kd.R_kept F33.out hk2_ (fun k_ h_ h2_ => by have u1_ := B37.out k_ h_; have u2_ : w17_.heap.size ≤ k_ ∧ k_ < w18_.heap.size := h2_; have := Z7.out; have := Z8.out; have := Z9.out; have := Z10.out; have := Z11.out; have := Z12.out; have := Z13.out; have := Z14.out; have := Z15.out; have := Z16.out; have := Z17.out; omega)); have m5_ := xm (Kd.S_kept F39.out hk2_ (fun k_ h_ h2_ => by have u1_ := B43.out k_ h_; have u2_ : w17_.heap.size ≤ k_ ∧ k_ < w18_.heap.size := h2_; have := Z7.out; have := Z8.out; have := Z9.out; have := Z10.out; have := Z11.out; have := Z12.out; have := Z13.out; have := Z14.out; have := Z15.out; have := Z16.out; have := Z17.out; omega)); have m6_ := xm (Kd.R_kept F52.out hk2_ (fun k_ h_ h2_ => by have u1_ := B56.out k_ h_; have u2_ : w17_.heap.size ≤ k_ ∧ k_ < w18_.heap.size := h2_; have := Z11.out; have := Z12.out; have := Z13.out; have := Z14.out; have := Z15.out; have := Z16.out; have := Z17.out; omega)); have m7_ := xm (Kd.R_kept F70.out hk2_ (fun k_ h_ h2_ => by have u1_ := B74.out k_ h_; have u2_ : w17_.heap.size ≤ k_ ∧ k_ < w18_.heap.size := h2_; have := Z17.out; omega)); have m8_ := xm (Kd.R_kept F77.out hk2_ (fun k_ h_ h2_ => by have u1_ := B81.out k_ h_; have u2_ : w17_.heap.size ≤ k_ ∧ k_ < w18_.heap.size := h2_; omega)); have m9_ := xm (Kd.S_kept F83.out hk2_ (fun k_ h_ h2_ => by have u1_ := B87.out k_ h_; have u2_ : w17_.heap.size ≤ k_ ∧ k_ < w18_.heap.size := h2_; omega)); have m10_ := xm (blk_kept BKg22.out hk2_ (fun h2_ => by have u1_ := GBg22.out; have u2_ : w17_.heap.size ≤ g22 ∧ g22 < w18_.heap.size := h2_; have := Z4.out; have := Z5.out; have := Z6.out; have := Z7.out; have := Z8.out; have := Z9.out; have := Z10.out; have := Z11.out; have := Z12.out; have := Z13.out; have := Z14.out; have := Z15.out; have := Z16.out; have := Z17.out; omega)); have m11_ := xm (blk_kept BKg45.out hk2_ (fun h2_ => by have u1_ := GBg45.out; have u2_ : w17_.heap.size ≤ g45 ∧ g45 < w18_.heap.size := h2_; have := Z8.out; have := Z9.out; have := Z10.out; have := Z11.out; have := Z12.out; have := Z13.out; have := Z14.out; have := Z15.out; have := Z16.out; have := Z17.out; omega)); clear F3 F10 F16 F26 F33 F39 F52 F70 F77 F83 BKg22 BKg45; have F3 := m0_; have F10 := m1_; have F16 := m2_; have F26 := m3_; have F33 := m4_; have F39 := m5_; have F52 := m6_; have F70 := m7_; have F77 := m8_; have F83 := m9_; have BKg22 := m10_; have BKg45 := m11_; clear m0_ m1_ m2_ m3_ m4_ m5_ m6_ m7_ m8_ m9_ m10_ m11_; clear HB BKg89; have HB := mb_; have BKg89 := xm hx_; clear mb_ hx_ hk_ hk2_ hw_ ge_; clear hcg22_0 hfg22_0 hcg22_1 hfg22_1; obtain ⟨hcg22_0, hfg22_0, hcg22_1, hfg22_1⟩ := laws_FnExactNewSnap.cs2 BKg22.out; clear hcg45_0 hfg45_0 hcg45_1 hfg45_1; obtain ⟨hcg45_0, hfg45_0, hcg45_1, hfg45_1⟩ := laws_FnExactNewSnap.cs2 BKg45.out; clear hcg89_0 hfg89_0 hcg89_1 hfg89_1; obtain ⟨hcg89_0, hfg89_0, hcg89_1, hfg89_1⟩ := laws_FnExactNewSnap.cs2 BKg89.out)
  | ((with_reducible refine gate_callee (f := 59) rfl ?_); refine goesL_ (some 78) rfl rfl Try.func59 (by kernel_rfl) rfl #[.agg #[.slice A78 t76_0.length c79, .slice A84 t76_1.length c85], .agg #[.slice A11 t9_0.length c12, .slice A17 t9_1.length c18]] rfl mB ?_; refine (laws_eqSnap.calls k _ _ t76_0 _ _ t76_1 _ _ t9_0 _ _ t9_1 true _ (Kd.R_reads' F77.out).2.2 (Kd.R_reads' F77.out).2.1 (Kd.S_reads' F83.out).2.2 (Kd.S_reads' F83.out).2.1 (Kd.R_reads' F10.out).2.2 (Kd.R_reads' F10.out).2.1 (Kd.S_reads' F16.out).2.2 (Kd.S_reads' F16.out).2.1 t92A.out).mono ?_; rintro e w20_ ⟨rfl, hb_⟩; refine ⟨_, rfl, ?_⟩; have Z20 := xm (hb_.size : w19_.heap.size ≤ w20_.heap.size); have hk_ := Kept.of_below hb_ (fun _ => False); have m0_ := xm (Kd.R_kept F3.out hk_ (fun _ _ h_ => h_)); have m1_ := xm (Kd.R_kept F10.out hk_ (fun _ _ h_ => h_)); have m2_ := xm (Kd.S_kept F16.out hk_ (fun _ _ h_ => h_)); have m3_ := xm (Kd.R_kept F26.out hk_ (fun _ _ h_ => h_)); have m4_ := xm (Kd.R_kept F33.out hk_ (fun _ _ h_ => h_)); have m5_ := xm (Kd.S_kept F39.out hk_ (fun _ _ h_ => h_)); have m6_ := xm (Kd.R_kept F52.out hk_ (fun _ _ h_ => h_)); have m7_ := xm (Kd.R_kept F70.out hk_ (fun _ _ h_ => h_)); have m8_ := xm (Kd.R_kept F77.out hk_ (fun _ _ h_ => h_)); have m9_ := xm (Kd.S_kept F83.out hk_ (fun _ _ h_ => h_)); have m10_ := xm (blk_kept BKg22.out hk_ (fun h_ => h_)); have m11_ := xm (blk_kept BKg45.out hk_ (fun h_ => h_)); have m12_ := xm (blk_kept BKg89.out hk_ (fun h_ => h_)); clear F3 F10 F16 F26 F33 F39 F52 F70 F77 F83 BKg22 BKg45 BKg89; have F3 := m0_; have F10 := m1_; have F16 := m2_; have F26 := m3_; have F33 := m4_; have F39 := m5_; have F52 := m6_; have F70 := m7_; have F77 := m8_; have F83 := m9_; have BKg22 := m10_; have BKg45 := m11_; have BKg89 := m12_; clear m0_ m1_ m2_ m3_ m4_ m5_ m6_ m7_ m8_ m9_ m10_ m11_ m12_; have m0_ := xm (below_step (w := w) HB.out hb_); clear HB; have HB := m0_; clear m0_ hb_ hk_; clear hcg22_0 hfg22_0 hcg22_1 hfg22_1; obtain ⟨hcg22_0, hfg22_0, hcg22_1, hfg22_1⟩ := laws_FnExactNewSnap.cs2 BKg22.out; clear hcg45_0 hfg45_0 hcg45_1 hfg45_1; obtain ⟨hcg45_0, hfg45_0, hcg45_1, hfg45_1⟩ := laws_FnExactNewSnap.cs2 BKg45.out; clear hcg89_0 hfg89_0 hcg89_1 hfg89_1; obtain ⟨hcg89_0, hfg89_0, hcg89_1, hfg89_1⟩ := laws_FnExactNewSnap.cs2 BKg89.out)
  | ((with_reducible refine gate_callee (f := 79) rfl ?_); refine goesL_ (some 87) rfl rfl Try.func79 (by kernel_rfl) rfl #[.agg #[.slice A34 t32_0.length c35, .slice A40 t32_1.length c41], .int .i64 1] rfl mB ?_; refine calls_of_args (args' := #[.agg #[.slice A34 t65_1.length c35, .slice A40 t65_2.length c41], .int .i64 1]) (by simp only [LEF33.out, LEF39.out]) ?_; refine (laws_heldSnap.calls k _ _ t65_1 _ _ t65_2 1 t95_0 _ (Kd.R_reads' F33.out).2.2 (by have z_ := Kd.R_reads' F33.out; have y_ := z_.1; have x_ := z_.2.1; omega) (Kd.S_reads' F39.out).2.2 (by have z_ := Kd.S_reads' F39.out; have y_ := z_.1; have x_ := z_.2.1; omega) t95A.out).mono ?_; rintro e w21_ ⟨rfl, hb_⟩; refine ⟨_, rfl, ?_⟩; have Z21 := xm (hb_.size : w20_.heap.size ≤ w21_.heap.size); have hk_ := Kept.of_below hb_ (fun _ => False); have m0_ := xm (Kd.R_kept F3.out hk_ (fun _ _ h_ => h_)); have m1_ := xm (Kd.R_kept F10.out hk_ (fun _ _ h_ => h_)); have m2_ := xm (Kd.S_kept F16.out hk_ (fun _ _ h_ => h_)); have m3_ := xm (Kd.R_kept F26.out hk_ (fun _ _ h_ => h_)); have m4_ := xm (Kd.R_kept F33.out hk_ (fun _ _ h_ => h_)); have m5_ := xm (Kd.S_kept F39.out hk_ (fun _ _ h_ => h_)); have m6_ := xm (Kd.R_kept F52.out hk_ (fun _ _ h_ => h_)); have m7_ := xm (Kd.R_kept F70.out hk_ (fun _ _ h_ => h_)); have m8_ := xm (Kd.R_kept F77.out hk_ (fun _ _ h_ => h_)); have m9_ := xm (Kd.S_kept F83.out hk_ (fun _ _ h_ => h_)); have m10_ := xm (blk_kept BKg22.out hk_ (fun h_ => h_)); have m11_ := xm (blk_kept BKg45.out hk_ (fun h_ => h_)); have m12_ := xm (blk_kept BKg89.out hk_ (fun h_ => h_)); clear F3 F10 F16 F26 F33 F39 F52 F70 F77 F83 BKg22 BKg45 BKg89; have F3 := m0_; have F10 := m1_; have F16 := m2_; have F26 := m3_; have F33 := m4_; have F39 := m5_; have F52 := m6_; have F70 := m7_; have F77 := m8_; have F83 := m9_; have BKg22 := m10_; have BKg45 := m11_; have BKg89 := m12_; clear m0_ m1_ m2_ m3_ m4_ m5_ m6_ m7_ m8_ m9_ m10_ m11_ m12_; have m0_ := xm (below_step (w := w) HB.out hb_); clear HB; have HB := m0_; clear m0_ hb_ hk_; clear hcg22_0 hfg22_0 hcg22_1 hfg22_1; obtain ⟨hcg22_0, hfg22_0, hcg22_1, hfg22_1⟩ := laws_FnExactNewSnap.cs2 BKg22.out; clear hcg45_0 hfg45_0 hcg45_1 hfg45_1; obtain ⟨hcg45_0, hfg45_0, hcg45_1, hfg45_1⟩ := laws_FnExactNewSnap.cs2 BKg45.out; clear hcg89_0 hfg89_0 hcg89_1 hfg89_1; obtain ⟨hcg89_0, hfg89_0, hcg89_1, hfg89_1⟩ := laws_FnExactNewSnap.cs2 BKg89.out)
  | (go_at_call 59; refine (laws_eqSnap.calls k _ _ t32_0 _ _ t32_1 _ _ t9_0 _ _ t9_1 true _ (Kd.R_reads' F33.out).2.2 (Kd.R_reads' F33.out).2.1 (Kd.S_reads' F39.out).2.2 (Kd.S_reads' F39.out).2.1 (Kd.R_reads' F10.out).2.2 (Kd.R_reads' F10.out).2.1 (Kd.S_reads' F16.out).2.2 (Kd.S_reads' F16.out).2.1 t62A.out).mono ?_; rintro e w13_ ⟨rfl, hb_⟩; have Z13 := xm (hb_.size : w12_.heap.size ≤ w13_.heap.size); have hk_ := Kept.of_below hb_ (fun _ => False); have m0_ := xm (Kd.R_kept F3.out hk_ (fun _ _ h_ => h_)); have m1_ := xm (Kd.R_kept F10.out hk_ (fun _ _ h_ => h_)); have m2_ := xm (Kd.S_kept F16.out hk_ (fun _ _ h_ => h_)); have m3_ := xm (Kd.R_kept F26.out hk_ (fun _ _ h_ => h_)); have m4_ := xm (Kd.R_kept F33.out hk_ (fun _ _ h_ => h_)); have m5_ := xm (Kd.S_kept F39.out hk_ (fun _ _ h_ => h_)); have m6_ := xm (Kd.R_kept F52.out hk_ (fun _ _ h_ => h_)); have m7_ := xm (blk_kept BKg22.out hk_ (fun h_ => h_)); have m8_ := xm (blk_kept BKg45.out hk_ (fun h_ => h_)); clear F3 F10 F16 F26 F33 F39 F52 BKg22 BKg45; have F3 := m0_; have F10 := m1_; have F16 := m2_; have F26 := m3_; have F33 := m4_; have F39 := m5_; have F52 := m6_; have BKg22 := m7_; have BKg45 := m8_; clear m0_ m1_ m2_ m3_ m4_ m5_ m6_ m7_ m8_; have m0_ := xm (below_step (w := w) HB.out hb_); clear HB; have HB := m0_; clear m0_ hb_ hk_; clear hcg22_0 hfg22_0 hcg22_1 hfg22_1; obtain ⟨hcg22_0, hfg22_0, hcg22_1, hfg22_1⟩ := laws_FnExactNewSnap.cs2 BKg22.out; clear hcg45_0 hfg45_0 hcg45_1 hfg45_1; obtain ⟨hcg45_0, hfg45_0, hcg45_1, hfg45_1⟩ := laws_FnExactNewSnap.cs2 BKg45.out))
 go_wp2
 go_ret
 exact ⟨by first | rfl | (simp [errW_none, errW_some] <;> rfl) | (simp [*, errW_none, errW_some] <;> rfl), HB.out⟩

/-- THE ONE PURE STATEMENT of laws_FnExactNewSnap. -/
def laws_FnExactNewSnap.Pure : Prop := ∀ x0 : List Int, (x0.length ≤ 9223372036854775807 ∧ ∀ x0_ ∈ x0, (-9223372036854775808 ≤ x0_ ∧ x0_ ≤ 9223372036854775807)) → ∃ k, laws_FnExactNewSnap.f k x0 = some true

end Go.Proofs.Ytpbpglbldgpckaa.G
