/- Written by a program of this claim's own, out of the translation: functions of the program as plain functions, and that the calls answer as these. No conditions. -/
import Derived.Test.YtaddemalepndfaeG0
namespace Go.Proofs.Ytaddemalepndfae.G
open Go.RowKit Go.Proofs.Ytaddemalepndfae.X Go.Proofs.YtaddemalepndfaeW.PrintWords Go.Proofs.YtaddemalepndfaeW.PrintLast Go.Proofs.YtaddemalepndfaeW.PrintMore
attribute [local go_sem] max2_int min2_int max_two min_two max_three min_three max_four min_four   -- for this text's walks alone
set_option linter.unusedVariables false
set_option linter.unusedSimpArgs false

/-! ### spec_l1Pairs: function 42 -/
def spec_l1Pairs.l0 : Nat → List (List Int) → Int → Int → List (List Int) → Int → Int → Option (Bool)
 | 0, _, _, _, _, _, _ => none
 | k + 1, x0, x1, x2, x9, x10, x11 => if x11 < x10 then (if 0 ≤ x11 then (if x11 < (x9.length : Int) then (if ((rd_L2 x9 x11).length : Int) = 2 then (if 0 < ((rd_L2 x9 x11).length : Int) then (if (rd (rd_L2 x9 x11) 0) < 0 then (some false) else (if (rd (rd_L2 x9 x11) 0) ≥ x1 then (some false) else (if 1 < ((rd_L2 x9 x11).length : Int) then (if (rd (rd_L2 x9 x11) 1) < 0 then (some false) else (if (rd (rd_L2 x9 x11) 1) ≥ x2 then (some false) else (spec_l1Pairs.l0 k x0 x1 x2 x9 x10 (wrap64 (x11 + 1))))) else (none)))) else (none)) else (some false)) else (none)) else (none)) else (some (decide ((x0.length : Int) ≤ 6)))
def spec_l1Pairs.f (k : Nat) (l0 : List (List Int)) (a1 : Int) (a2 : Int) : Option (Bool) := spec_l1Pairs.l0 k l0 a1 a2 l0 (l0.length : Int) 0
theorem spec_l1Pairs.mono_l : ∀ k, (∀ y0 y1 y2 y3 y4 y5, LeO (spec_l1Pairs.l0 k y0 y1 y2 y3 y4 y5) (spec_l1Pairs.l0 (k + 1) y0 y1 y2 y3 y4 y5))
 | 0 => fun _ _ _ _ _ _ r h => by simp [spec_l1Pairs.l0] at h
 | k + 1 => by
  have ih0 := spec_l1Pairs.mono_l k
  ·intro y0 y1 y2 y3 y4 y5
   unfold spec_l1Pairs.l0
   repeat' first
   | (with_reducible exact ih0 _ _ _ _ _ _)
   | (with_reducible exact LeO.refl _)
   | (with_reducible exact LeO.none _)
   | (with_reducible refine LeO.ite ?_ ?_)
   | (with_reducible refine LeO.bind ?_ (fun _ => ?_))
   | exact ih0 _ _ _ _ _ _
   | exact LeO.none _
   | refine LeO.ite ?_ ?_
   | refine LeO.bind ?_ (fun _ => ?_)
theorem spec_l1Pairs.mono : ∀ a0 a1 a2 k, LeO (spec_l1Pairs.f k a0 a1 a2) (spec_l1Pairs.f (k + 1) a0 a1 a2) := by
 intro a0 a1 a2 k
 have ih0 := spec_l1Pairs.mono_l k
 unfold spec_l1Pairs.f
 repeat' first
   | (with_reducible exact ih0 _ _ _ _ _ _)
   | (with_reducible exact LeO.refl _)
   | (with_reducible exact LeO.none _)
   | (with_reducible refine LeO.ite ?_ ?_)
   | (with_reducible refine LeO.bind ?_ (fun _ => ?_))
   | exact ih0 _ _ _ _ _ _
   | exact LeO.none _
   | refine LeO.ite ?_ ?_
   | refine LeO.bind ?_ (fun _ => ?_)
set_option maxHeartbeats 8000000 in
set_option maxRecDepth 100000 in
theorem spec_l1Pairs.calls (k : Nat) (A0 : Option Addr) (c0 : Nat) (l0 : List (List Int)) (a1 : Int) (a2 : Int) (r : Bool) (w : World) (hr0 : Kd.C (Kd.slice 3 (Kd.int .i64)) w A0 l0.length l0) (hc0 : l0.length ≤ c0) (h : spec_l1Pairs.f k l0 a1 a2 = some r) :
  Calls Try.prog 42 #[.slice A0 l0.length c0, .int .i64 a1, .int .i64 a2] w fun e w' => e = .returned (.bool r) ∧ Drawn0 w w' := by
 have HR0 := xm hr0
 have HC0 := xm hc0
 clear hr0 hc0
 have H : (spec_l1Pairs.l0 k l0 a1 a2 l0 (l0.length : Int) 0) = some r := h
 clear h
 have H' := xm H
 clear H
 go_enter Try.func42, Try.ntmps42
 go_wp2
 go_loopg [11] k (fun kq v11 w' => ∃ (x11_1 : Int), v11 = .int .i64 x11_1 ∧ Aside0 (spec_l1Pairs.l0 kq l0 a1 a2 l0 (l0.length : Int) x11_1 = some r) ∧ Aside0 (kq ≤ k) ∧ Drawn0 w w')
 case atStart => exact ⟨(0), sB, H', ⟨Nat.le_refl _⟩, by repeat (first | exact Drawn0.refl _ | apply Drawn0.step)⟩
 case round =>
  clear H'
  try clear p2
  obtain ⟨x11_1, rfl, HA, HK1, ⟨m1, rfl⟩⟩ := hrel
  cases gk with
  | zero => exact absurd HA.out (by simp [spec_l1Pairs.l0])
  | succ k1 =>
   have H := HA.out
   clear HA
   simp only [spec_l1Pairs.l0] at H
   by_cases c4 : x11_1 < (l0.length : Int)
   ·rw [if_pos c4] at H
    have c4b0 : decide (x11_1 < (l0.length : Int)) = true := decide_eq_true c4
    clear c4
    by_cases c5 : 0 ≤ x11_1
    ·rw [if_pos c5] at H
     have c5b0 : decide (0 ≤ x11_1) = true := decide_eq_true c5
     clear c5
     by_cases c6 : x11_1 < (l0.length : Int)
     ·rw [if_pos c6] at H
      have c6b0 : decide (x11_1 < (l0.length : Int)) = true := decide_eq_true c6
      clear c6
      by_cases c7 : ((rd_L2 l0 x11_1).length : Int) = 2
      ·rw [if_pos c7] at H
       have c7b0 : (((rd_L2 l0 x11_1).length : Int) == 2) = true := beq_iff_eq.mpr c7
       have c7b1 : (((rd_L2 l0 x11_1).length : Int) != 2) = false := bne_eq_false_iff_eq.mpr c7
       clear c7
       by_cases c8 : 0 < ((rd_L2 l0 x11_1).length : Int)
       ·rw [if_pos c8] at H
        have c8b0 : decide (0 < ((rd_L2 l0 x11_1).length : Int)) = true := decide_eq_true c8
        have c8b1 : decide (0 < (rd_L2 l0 x11_1).length) = true := decide_eq_true (by omega)
        clear c8
        by_cases c9 : (rd (rd_L2 l0 x11_1) 0) < 0
        ·rw [if_pos c9] at H
         have c9b0 : decide ((rd (rd_L2 l0 x11_1) 0) < 0) = true := decide_eq_true c9
         clear c9
         obtain rfl := Option.some.inj H
         have p118 : 0 ≤ (x11_1 : Int) := of_decide_eq_true aB
         have q118 : x11_1 < (l0.length : Int) := of_decide_eq_true aB
         obtain ⟨ad118, A118_0, c118_0, e118, hx118_0, hl118_0, hi118_0⟩ := at_L2 HR0.out x11_1 p118 q118
         cases e118
         have HR118_0 := xm hi118_0
         have HC118_0 := xm hl118_0
         clear hi118_0 hl118_0
         replace p118 := eq_true p118
         replace q118 := eq_true q118
         have p119 : 0 ≤ (0 : Int) := (by omega)
         have q119 : 0 < ((rd_L2 l0 x11_1).length : Int) := of_decide_eq_true aB
         obtain ⟨ad119, e119, hx119_0⟩ := Kd.at_int HR118_0.out 0 p119 q119
         cases e119
         have qi119 : (0 < (rd_L2 l0 x11_1).length) = True := eq_true (by omega)
         (try rw [show ((0 : Int)).toNat = 0 from rfl] at hx119_0)
         (try rw [Addr.add_zero'] at hx119_0)
         replace p119 := eq_true p119
         replace q119 := eq_true q119
         go_wp2
         go_ret
         exact ⟨sB, dB⟩
        ·rw [if_neg c9] at H
         have c9b0 : decide ((rd (rd_L2 l0 x11_1) 0) < 0) = false := decide_eq_false c9
         clear c9
         by_cases c10 : (rd (rd_L2 l0 x11_1) 0) ≥ a1
         ·rw [if_pos c10] at H
          have c10b0 : decide (a1 ≤ (rd (rd_L2 l0 x11_1) 0)) = true := decide_eq_true c10
          clear c10
          obtain rfl := Option.some.inj H
          have p118 : 0 ≤ (x11_1 : Int) := of_decide_eq_true aB
          have q118 : x11_1 < (l0.length : Int) := of_decide_eq_true aB
          obtain ⟨ad118, A118_0, c118_0, e118, hx118_0, hl118_0, hi118_0⟩ := at_L2 HR0.out x11_1 p118 q118
          cases e118
          have HR118_0 := xm hi118_0
          have HC118_0 := xm hl118_0
          clear hi118_0 hl118_0
          replace p118 := eq_true p118
          replace q118 := eq_true q118
          have p119 : 0 ≤ (0 : Int) := (by omega)
          have q119 : 0 < ((rd_L2 l0 x11_1).length : Int) := of_decide_eq_true aB
          obtain ⟨ad119, e119, hx119_0⟩ := Kd.at_int HR118_0.out 0 p119 q119
          cases e119
          have qi119 : (0 < (rd_L2 l0 x11_1).length) = True := eq_true (by omega)
          (try rw [show ((0 : Int)).toNat = 0 from rfl] at hx119_0)
          (try rw [Addr.add_zero'] at hx119_0)
          replace p119 := eq_true p119
          replace q119 := eq_true q119
          have p120 : 0 ≤ (0 : Int) := (by omega)
          have q120 : 0 < ((rd_L2 l0 x11_1).length : Int) := of_decide_eq_true aB
          obtain ⟨ad120, e120, hx120_0⟩ := Kd.at_int HR118_0.out 0 p120 q120
          obtain rfl : ad119 = ad120 := (by injection e120)
          have qi120 : (0 < (rd_L2 l0 x11_1).length) = True := eq_true (by omega)
          (try rw [show ((0 : Int)).toNat = 0 from rfl] at hx120_0)
          (try rw [Addr.add_zero'] at hx120_0)
          replace p120 := eq_true p120
          replace q120 := eq_true q120
          go_wp2
          go_ret
          exact ⟨sB, dB⟩
         ·rw [if_neg c10] at H
          have c10b0 : decide (a1 ≤ (rd (rd_L2 l0 x11_1) 0)) = false := decide_eq_false c10
          clear c10
          by_cases c11 : 1 < ((rd_L2 l0 x11_1).length : Int)
          ·rw [if_pos c11] at H
           have c11b0 : decide (1 < ((rd_L2 l0 x11_1).length : Int)) = true := decide_eq_true c11
           have c11b1 : decide (1 < (rd_L2 l0 x11_1).length) = true := decide_eq_true (by omega)
           clear c11
           by_cases c12 : (rd (rd_L2 l0 x11_1) 1) < 0
           ·rw [if_pos c12] at H
            have c12b0 : decide ((rd (rd_L2 l0 x11_1) 1) < 0) = true := decide_eq_true c12
            clear c12
            obtain rfl := Option.some.inj H
            have p118 : 0 ≤ (x11_1 : Int) := of_decide_eq_true aB
            have q118 : x11_1 < (l0.length : Int) := of_decide_eq_true aB
            obtain ⟨ad118, A118_0, c118_0, e118, hx118_0, hl118_0, hi118_0⟩ := at_L2 HR0.out x11_1 p118 q118
            cases e118
            have HR118_0 := xm hi118_0
            have HC118_0 := xm hl118_0
            clear hi118_0 hl118_0
            replace p118 := eq_true p118
            replace q118 := eq_true q118
            have p119 : 0 ≤ (0 : Int) := (by omega)
            have q119 : 0 < ((rd_L2 l0 x11_1).length : Int) := of_decide_eq_true aB
            obtain ⟨ad119, e119, hx119_0⟩ := Kd.at_int HR118_0.out 0 p119 q119
            cases e119
            have qi119 : (0 < (rd_L2 l0 x11_1).length) = True := eq_true (by omega)
            (try rw [show ((0 : Int)).toNat = 0 from rfl] at hx119_0)
            (try rw [Addr.add_zero'] at hx119_0)
            replace p119 := eq_true p119
            replace q119 := eq_true q119
            have p120 : 0 ≤ (0 : Int) := (by omega)
            have q120 : 0 < ((rd_L2 l0 x11_1).length : Int) := of_decide_eq_true aB
            obtain ⟨ad120, e120, hx120_0⟩ := Kd.at_int HR118_0.out 0 p120 q120
            obtain rfl : ad119 = ad120 := (by injection e120)
            have qi120 : (0 < (rd_L2 l0 x11_1).length) = True := eq_true (by omega)
            (try rw [show ((0 : Int)).toNat = 0 from rfl] at hx120_0)
            (try rw [Addr.add_zero'] at hx120_0)
            replace p120 := eq_true p120
            replace q120 := eq_true q120
            have p121 : 0 ≤ (1 : Int) := (by omega)
            have q121 : 1 < ((rd_L2 l0 x11_1).length : Int) := of_decide_eq_true aB
            obtain ⟨ad121, e121, hx121_0⟩ := Kd.at_int HR118_0.out 1 p121 q121
            obtain rfl : ad119 = ad121 := (by injection e121)
            (try simp only [show (1 : Int).toNat = 1 from rfl, Nat.reduceMul, Nat.reduceEqDiff, Go.Addr.add, ↓reduceIte] at hx121_0)
            have qi121 : (1 < (rd_L2 l0 x11_1).length) = True := eq_true (by omega)
            (try rw [show ((1 : Int)).toNat = 1 from rfl] at hx121_0)
            replace p121 := eq_true p121
            replace q121 := eq_true q121
            go_wp2
            go_ret
            exact ⟨sB, dB⟩
           ·rw [if_neg c12] at H
            have c12b0 : decide ((rd (rd_L2 l0 x11_1) 1) < 0) = false := decide_eq_false c12
            clear c12
            by_cases c13 : (rd (rd_L2 l0 x11_1) 1) ≥ a2
            ·rw [if_pos c13] at H
             have c13b0 : decide (a2 ≤ (rd (rd_L2 l0 x11_1) 1)) = true := decide_eq_true c13
             clear c13
             obtain rfl := Option.some.inj H
             have p118 : 0 ≤ (x11_1 : Int) := of_decide_eq_true aB
             have q118 : x11_1 < (l0.length : Int) := of_decide_eq_true aB
             obtain ⟨ad118, A118_0, c118_0, e118, hx118_0, hl118_0, hi118_0⟩ := at_L2 HR0.out x11_1 p118 q118
             cases e118
             have HR118_0 := xm hi118_0
             have HC118_0 := xm hl118_0
             clear hi118_0 hl118_0
             replace p118 := eq_true p118
             replace q118 := eq_true q118
             have p119 : 0 ≤ (0 : Int) := (by omega)
             have q119 : 0 < ((rd_L2 l0 x11_1).length : Int) := of_decide_eq_true aB
             obtain ⟨ad119, e119, hx119_0⟩ := Kd.at_int HR118_0.out 0 p119 q119
             cases e119
             have qi119 : (0 < (rd_L2 l0 x11_1).length) = True := eq_true (by omega)
             (try rw [show ((0 : Int)).toNat = 0 from rfl] at hx119_0)
             (try rw [Addr.add_zero'] at hx119_0)
             replace p119 := eq_true p119
             replace q119 := eq_true q119
             have p120 : 0 ≤ (0 : Int) := (by omega)
             have q120 : 0 < ((rd_L2 l0 x11_1).length : Int) := of_decide_eq_true aB
             obtain ⟨ad120, e120, hx120_0⟩ := Kd.at_int HR118_0.out 0 p120 q120
             obtain rfl : ad119 = ad120 := (by injection e120)
             have qi120 : (0 < (rd_L2 l0 x11_1).length) = True := eq_true (by omega)
             (try rw [show ((0 : Int)).toNat = 0 from rfl] at hx120_0)
             (try rw [Addr.add_zero'] at hx120_0)
             replace p120 := eq_true p120
             replace q120 := eq_true q120
             have p121 : 0 ≤ (1 : Int) := (by omega)
             have q121 : 1 < ((rd_L2 l0 x11_1).length : Int) := of_decide_eq_true aB
             obtain ⟨ad121, e121, hx121_0⟩ := Kd.at_int HR118_0.out 1 p121 q121
             obtain rfl : ad119 = ad121 := (by injection e121)
             (try simp only [show (1 : Int).toNat = 1 from rfl, Nat.reduceMul, Nat.reduceEqDiff, Go.Addr.add, ↓reduceIte] at hx121_0)
             have qi121 : (1 < (rd_L2 l0 x11_1).length) = True := eq_true (by omega)
             (try rw [show ((1 : Int)).toNat = 1 from rfl] at hx121_0)
             replace p121 := eq_true p121
             replace q121 := eq_true q121
             have p122 : 0 ≤ (1 : Int) := (by omega)
             have q122 : 1 < ((rd_L2 l0 x11_1).length : Int) := of_decide_eq_true aB
             obtain ⟨ad122, e122, hx122_0⟩ := Kd.at_int HR118_0.out 1 p122 q122
             obtain rfl : ad119 = ad122 := (by injection e122)
             (try simp only [show (1 : Int).toNat = 1 from rfl, Nat.reduceMul, Nat.reduceEqDiff, Go.Addr.add, ↓reduceIte] at hx122_0)
             have qi122 : (1 < (rd_L2 l0 x11_1).length) = True := eq_true (by omega)
             (try rw [show ((1 : Int)).toNat = 1 from rfl] at hx122_0)
             replace p122 := eq_true p122
             replace q122 := eq_true q122
             go_wp2
             go_ret
             exact ⟨sB, dB⟩
            ·rw [if_neg c13] at H
             have c13b0 : decide (a2 ≤ (rd (rd_L2 l0 x11_1) 1)) = false := decide_eq_false c13
             clear c13
             have H' := xm H
             clear H
             have p118 : 0 ≤ (x11_1 : Int) := of_decide_eq_true aB
             have q118 : x11_1 < (l0.length : Int) := of_decide_eq_true aB
             obtain ⟨ad118, A118_0, c118_0, e118, hx118_0, hl118_0, hi118_0⟩ := at_L2 HR0.out x11_1 p118 q118
             cases e118
             have HR118_0 := xm hi118_0
             have HC118_0 := xm hl118_0
             clear hi118_0 hl118_0
             replace p118 := eq_true p118
             replace q118 := eq_true q118
             have p119 : 0 ≤ (0 : Int) := (by omega)
             have q119 : 0 < ((rd_L2 l0 x11_1).length : Int) := of_decide_eq_true aB
             obtain ⟨ad119, e119, hx119_0⟩ := Kd.at_int HR118_0.out 0 p119 q119
             cases e119
             have qi119 : (0 < (rd_L2 l0 x11_1).length) = True := eq_true (by omega)
             (try rw [show ((0 : Int)).toNat = 0 from rfl] at hx119_0)
             (try rw [Addr.add_zero'] at hx119_0)
             replace p119 := eq_true p119
             replace q119 := eq_true q119
             have p120 : 0 ≤ (0 : Int) := (by omega)
             have q120 : 0 < ((rd_L2 l0 x11_1).length : Int) := of_decide_eq_true aB
             obtain ⟨ad120, e120, hx120_0⟩ := Kd.at_int HR118_0.out 0 p120 q120
             obtain rfl : ad119 = ad120 := (by injection e120)
             have qi120 : (0 < (rd_L2 l0 x11_1).length) = True := eq_true (by omega)
             (try rw [show ((0 : Int)).toNat = 0 from rfl] at hx120_0)
             (try rw [Addr.add_zero'] at hx120_0)
             replace p120 := eq_true p120
             replace q120 := eq_true q120
             have p121 : 0 ≤ (1 : Int) := (by omega)
             have q121 : 1 < ((rd_L2 l0 x11_1).length : Int) := of_decide_eq_true aB
             obtain ⟨ad121, e121, hx121_0⟩ := Kd.at_int HR118_0.out 1 p121 q121
             obtain rfl : ad119 = ad121 := (by injection e121)
             (try simp only [show (1 : Int).toNat = 1 from rfl, Nat.reduceMul, Nat.reduceEqDiff, Go.Addr.add, ↓reduceIte] at hx121_0)
             have qi121 : (1 < (rd_L2 l0 x11_1).length) = True := eq_true (by omega)
             (try rw [show ((1 : Int)).toNat = 1 from rfl] at hx121_0)
             replace p121 := eq_true p121
             replace q121 := eq_true q121
             have p122 : 0 ≤ (1 : Int) := (by omega)
             have q122 : 1 < ((rd_L2 l0 x11_1).length : Int) := of_decide_eq_true aB
             obtain ⟨ad122, e122, hx122_0⟩ := Kd.at_int HR118_0.out 1 p122 q122
             obtain rfl : ad119 = ad122 := (by injection e122)
             (try simp only [show (1 : Int).toNat = 1 from rfl, Nat.reduceMul, Nat.reduceEqDiff, Go.Addr.add, ↓reduceIte] at hx122_0)
             have qi122 : (1 < (rd_L2 l0 x11_1).length) = True := eq_true (by omega)
             (try rw [show ((1 : Int)).toNat = 1 from rfl] at hx122_0)
             replace p122 := eq_true p122
             replace q122 := eq_true q122
             go_wp2
             go_roundg k1
             case measure => have := HK1.out; omega
             case rel => exact ⟨(wrap64 (x11_1 + 1)), sB, H', ⟨by have := HK1.out; omega⟩, by repeat (first | exact Drawn0.refl _ | apply Drawn0.step)⟩
          ·rw [if_neg c11] at H
           exact absurd H (by simp)
       ·rw [if_neg c8] at H
        exact absurd H (by simp)
      ·rw [if_neg c7] at H
       have c7b0 : (((rd_L2 l0 x11_1).length : Int) == 2) = false := beq_eq_false_iff_ne.mpr c7
       have c7b1 : (((rd_L2 l0 x11_1).length : Int) != 2) = true := bne_iff_ne.mpr c7
       obtain rfl := Option.some.inj H
       have p118 : 0 ≤ (x11_1 : Int) := of_decide_eq_true aB
       have q118 : x11_1 < (l0.length : Int) := of_decide_eq_true aB
       obtain ⟨ad118, A118_0, c118_0, e118, hx118_0, hl118_0, hi118_0⟩ := at_L2 HR0.out x11_1 p118 q118
       cases e118
       have HR118_0 := xm hi118_0
       have HC118_0 := xm hl118_0
       clear hi118_0 hl118_0
       replace p118 := eq_true p118
       replace q118 := eq_true q118
       go_wp2
       go_ret
       exact ⟨sB, dB⟩
     ·rw [if_neg c6] at H
      exact absurd H (by simp)
    ·rw [if_neg c5] at H
     exact absurd H (by simp)
   ·rw [if_neg c4] at H
    have c4b0 : decide (x11_1 < (l0.length : Int)) = false := decide_eq_false c4
    clear c4
    obtain rfl := Option.some.inj H
    go_wp2
    go_ret
    exact ⟨sB, dB⟩

/-! ### spec_l3Left: function 43 -/
mutual
def spec_l3Left.l0 : Nat → List (List Int) → Int → Int → Int → Option (Int)
 | 0, _, _, _, _ => none
 | k + 1, x0, x1, x5, x6 => if x6 < x1 then (spec_l3Left.l1 k x0 x1 x5 x6 false x0 (x0.length : Int) 0) else (some x5)
def spec_l3Left.l1 : Nat → List (List Int) → Int → Int → Int → Bool → List (List Int) → Int → Int → Option (Int)
 | 0, _, _, _, _, _, _, _, _ => none
 | k + 1, x0, x1, x5, x6, x7, x15, x16, x17 => if x17 < x16 then (if 0 ≤ x17 then (if x17 < (x15.length : Int) then (if x7 = true then (spec_l3Left.l1 k x0 x1 x5 x6 true x15 x16 (wrap64 (x17 + 1))) else (if 1 < ((rd_L2 x15 x17).length : Int) then (spec_l3Left.l1 k x0 x1 x5 x6 ((rd (rd_L2 x15 x17) 1) == x6) x15 x16 (wrap64 (x17 + 1))) else (none))) else (none)) else (none)) else (if x7 = true then (spec_l3Left.l0 k x0 x1 x5 (wrap64 (x6 + 1))) else (spec_l3Left.l0 k x0 x1 (wrap64 (x5 + 1)) (wrap64 (x6 + 1))))
end
def spec_l3Left.f (k : Nat) (l0 : List (List Int)) (a1 : Int) : Option (Int) := spec_l3Left.l0 k l0 a1 0 0
theorem spec_l3Left.mono_l : ∀ k, (∀ y0 y1 y2 y3, LeO (spec_l3Left.l0 k y0 y1 y2 y3) (spec_l3Left.l0 (k + 1) y0 y1 y2 y3)) ∧ (∀ y0 y1 y2 y3 y4 y5 y6 y7, LeO (spec_l3Left.l1 k y0 y1 y2 y3 y4 y5 y6 y7) (spec_l3Left.l1 (k + 1) y0 y1 y2 y3 y4 y5 y6 y7))
 | 0 => ⟨fun _ _ _ _ r h => by simp [spec_l3Left.l0] at h, fun _ _ _ _ _ _ _ _ r h => by simp [spec_l3Left.l1] at h⟩
 | k + 1 => by
  obtain ⟨ih0, ih1⟩ := spec_l3Left.mono_l k
  refine ⟨?_, ?_⟩
  ·intro y0 y1 y2 y3
   unfold spec_l3Left.l0
   repeat' first
   | (with_reducible exact ih0 _ _ _ _)
   | (with_reducible exact ih1 _ _ _ _ _ _ _ _)
   | (with_reducible exact LeO.refl _)
   | (with_reducible exact LeO.none _)
   | (with_reducible refine LeO.ite ?_ ?_)
   | (with_reducible refine LeO.bind ?_ (fun _ => ?_))
   | exact ih0 _ _ _ _
   | exact ih1 _ _ _ _ _ _ _ _
   | exact LeO.none _
   | refine LeO.ite ?_ ?_
   | refine LeO.bind ?_ (fun _ => ?_)
  ·intro y0 y1 y2 y3 y4 y5 y6 y7
   unfold spec_l3Left.l1
   repeat' first
   | (with_reducible exact ih0 _ _ _ _)
   | (with_reducible exact ih1 _ _ _ _ _ _ _ _)
   | (with_reducible exact LeO.refl _)
   | (with_reducible exact LeO.none _)
   | (with_reducible refine LeO.ite ?_ ?_)
   | (with_reducible refine LeO.bind ?_ (fun _ => ?_))
   | exact ih0 _ _ _ _
   | exact ih1 _ _ _ _ _ _ _ _
   | exact LeO.none _
   | refine LeO.ite ?_ ?_
   | refine LeO.bind ?_ (fun _ => ?_)
theorem spec_l3Left.mono : ∀ a0 a1 k, LeO (spec_l3Left.f k a0 a1) (spec_l3Left.f (k + 1) a0 a1) := by
 intro a0 a1 k
 obtain ⟨ih0, ih1⟩ := spec_l3Left.mono_l k
 unfold spec_l3Left.f
 repeat' first
   | (with_reducible exact ih0 _ _ _ _)
   | (with_reducible exact ih1 _ _ _ _ _ _ _ _)
   | (with_reducible exact LeO.refl _)
   | (with_reducible exact LeO.none _)
   | (with_reducible refine LeO.ite ?_ ?_)
   | (with_reducible refine LeO.bind ?_ (fun _ => ?_))
   | exact ih0 _ _ _ _
   | exact ih1 _ _ _ _ _ _ _ _
   | exact LeO.none _
   | refine LeO.ite ?_ ?_
   | refine LeO.bind ?_ (fun _ => ?_)
set_option maxHeartbeats 8000000 in
set_option maxRecDepth 100000 in
theorem spec_l3Left.calls (k : Nat) (A0 : Option Addr) (c0 : Nat) (l0 : List (List Int)) (a1 : Int) (r : Int) (w : World) (hr0 : Kd.C (Kd.slice 3 (Kd.int .i64)) w A0 l0.length l0) (hc0 : l0.length ≤ c0) (h : spec_l3Left.f k l0 a1 = some r) :
  Calls Try.prog 43 #[.slice A0 l0.length c0, .int .i64 a1] w fun e w' => e = .returned (.int .i64 r) ∧ Drawn0 w w' := by
 have HR0 := xm hr0
 have HC0 := xm hc0
 clear hr0 hc0
 have H : (spec_l3Left.l0 k l0 a1 0 0) = some r := h
 clear h
 have H' := xm H
 clear H
 go_enter Try.func43, Try.ntmps43
 go_wp2
 go_loopg [5, 6] k (fun kq v5 v6 w' => ∃ (x5_1 : Int) (x6_1 : Int), v5 = .int .i64 x5_1 ∧ v6 = .int .i64 x6_1 ∧ Aside0 (spec_l3Left.l0 kq l0 a1 x5_1 x6_1 = some r) ∧ Aside0 (kq ≤ k) ∧ Drawn0 w w')
 case atStart => exact ⟨(0), (0), sB, sB, H', ⟨Nat.le_refl _⟩, by repeat (first | exact Drawn0.refl _ | apply Drawn0.step)⟩
 case round =>
  clear H'
  try clear p2
  obtain ⟨x5_1, x6_1, rfl, rfl, HA, HK1, ⟨m1, rfl⟩⟩ := hrel
  cases gk with
  | zero => exact absurd HA.out (by simp [spec_l3Left.l0])
  | succ k1 =>
   have H := HA.out
   clear HA
   simp only [spec_l3Left.l0] at H
   by_cases c3 : x6_1 < a1
   ·rw [if_pos c3] at H
    have c3b0 : decide (x6_1 < a1) = true := decide_eq_true c3
    clear c3
    have H' := xm H
    clear H
    go_wp2
    go_loopg [7, 17] k1 (fun kq v7 v17 w' => ∃ (x7_2 : Bool) (x17_2 : Int), v7 = .bool x7_2 ∧ v17 = .int .i64 x17_2 ∧ Aside0 (spec_l3Left.l1 kq l0 a1 x5_1 x6_1 x7_2 l0 (l0.length : Int) x17_2 = some r) ∧ Aside0 (kq ≤ k1) ∧ Drawn0 w w')
    case atStart => exact ⟨(false), (0), sB, sB, H', ⟨Nat.le_refl _⟩, by repeat (first | exact Drawn0.refl _ | apply Drawn0.step)⟩
    case round =>
     clear H'
     try clear p2
     try clear c3
     try clear c3b0
     try clear p2
     obtain ⟨x7_2, x17_2, rfl, rfl, HA, HK2, ⟨m2, rfl⟩⟩ := hrel
     cases gk with
     | zero => exact absurd HA.out (by simp [spec_l3Left.l1])
     | succ k2 =>
      have H := HA.out
      clear HA
      simp only [spec_l3Left.l1] at H
      by_cases c4 : x17_2 < (l0.length : Int)
      ·rw [if_pos c4] at H
       have c4b0 : decide (x17_2 < (l0.length : Int)) = true := decide_eq_true c4
       clear c4
       by_cases c5 : 0 ≤ x17_2
       ·rw [if_pos c5] at H
        have c5b0 : decide (0 ≤ x17_2) = true := decide_eq_true c5
        clear c5
        by_cases c6 : x17_2 < (l0.length : Int)
        ·rw [if_pos c6] at H
         have c6b0 : decide (x17_2 < (l0.length : Int)) = true := decide_eq_true c6
         clear c6
         by_cases c7 : x7_2 = true
         ·subst c7
          have H1 : (spec_l3Left.l1 k2 l0 a1 x5_1 x6_1 true l0 (l0.length : Int) (wrap64 (x17_2 + 1))) = some r := by first | (with_reducible rfl) | (rw [if_pos rfl] at H; exact H)
          clear H
          have H := H1
          clear H1
          have H' := xm H
          clear H
          have p123 : 0 ≤ (x17_2 : Int) := of_decide_eq_true aB
          have q123 : x17_2 < (l0.length : Int) := of_decide_eq_true aB
          obtain ⟨ad123, A123_0, c123_0, e123, hx123_0, hl123_0, hi123_0⟩ := at_L2 HR0.out x17_2 p123 q123
          cases e123
          have HR123_0 := xm hi123_0
          have HC123_0 := xm hl123_0
          clear hi123_0 hl123_0
          replace p123 := eq_true p123
          replace q123 := eq_true q123
          go_wp2
          go_roundg k2
          case measure => have := HK1.out; have := HK2.out; omega
          case rel => exact ⟨(true), (wrap64 (x17_2 + 1)), sB, sB, H', ⟨by have := HK1.out; have := HK2.out; omega⟩, by repeat (first | exact Drawn0.refl _ | apply Drawn0.step)⟩
         ·replace c7 := Bool.eq_false_iff.mpr c7
          subst c7
          have H1 : (if 1 < ((rd_L2 l0 x17_2).length : Int) then (spec_l3Left.l1 k2 l0 a1 x5_1 x6_1 ((rd (rd_L2 l0 x17_2) 1) == x6_1) l0 (l0.length : Int) (wrap64 (x17_2 + 1))) else (none)) = some r := by first | (with_reducible rfl) | (rw [if_neg (show ¬ (false = true) by decide)] at H; exact H)
          clear H
          have H := H1
          clear H1
          by_cases c8 : 1 < ((rd_L2 l0 x17_2).length : Int)
          ·rw [if_pos c8] at H
           have c8b0 : decide (1 < ((rd_L2 l0 x17_2).length : Int)) = true := decide_eq_true c8
           have c8b1 : decide (1 < (rd_L2 l0 x17_2).length) = true := decide_eq_true (by omega)
           clear c8
           have H' := xm H
           clear H
           have p123 : 0 ≤ (x17_2 : Int) := of_decide_eq_true aB
           have q123 : x17_2 < (l0.length : Int) := of_decide_eq_true aB
           obtain ⟨ad123, A123_0, c123_0, e123, hx123_0, hl123_0, hi123_0⟩ := at_L2 HR0.out x17_2 p123 q123
           cases e123
           have HR123_0 := xm hi123_0
           have HC123_0 := xm hl123_0
           clear hi123_0 hl123_0
           replace p123 := eq_true p123
           replace q123 := eq_true q123
           have p124 : 0 ≤ (1 : Int) := (by omega)
           have q124 : 1 < ((rd_L2 l0 x17_2).length : Int) := of_decide_eq_true aB
           obtain ⟨ad124, e124, hx124_0⟩ := Kd.at_int HR123_0.out 1 p124 q124
           cases e124
           (try simp only [show (1 : Int).toNat = 1 from rfl, Nat.reduceMul, Nat.reduceEqDiff, Go.Addr.add, ↓reduceIte] at hx124_0)
           have qi124 : (1 < (rd_L2 l0 x17_2).length) = True := eq_true (by omega)
           (try rw [show ((1 : Int)).toNat = 1 from rfl] at hx124_0)
           replace p124 := eq_true p124
           replace q124 := eq_true q124
           go_wp2
           go_roundg k2
           case measure => have := HK1.out; have := HK2.out; omega
           case rel => exact ⟨(((rd (rd_L2 l0 x17_2) 1) == x6_1)), (wrap64 (x17_2 + 1)), sB, sB, H', ⟨by have := HK1.out; have := HK2.out; omega⟩, by repeat (first | exact Drawn0.refl _ | apply Drawn0.step)⟩
          ·rw [if_neg c8] at H
           exact absurd H (by simp)
        ·rw [if_neg c6] at H
         exact absurd H (by simp)
       ·rw [if_neg c5] at H
        exact absurd H (by simp)
      ·rw [if_neg c4] at H
       have c4b0 : decide (x17_2 < (l0.length : Int)) = false := decide_eq_false c4
       clear c4
       by_cases c9 : x7_2 = true
       ·subst c9
        have H1 : (spec_l3Left.l0 k2 l0 a1 x5_1 (wrap64 (x6_1 + 1))) = some r := by first | (with_reducible rfl) | (rw [if_pos rfl] at H; exact H)
        clear H
        have H := H1
        clear H1
        have H' := xm H
        clear H
        go_wp2
        go_roundg k2
        case measure => have := HK1.out; have := HK2.out; omega
        case rel => exact ⟨(x5_1), (wrap64 (x6_1 + 1)), sB, sB, H', ⟨by have := HK1.out; have := HK2.out; omega⟩, by repeat (first | exact Drawn0.refl _ | apply Drawn0.step)⟩
       ·replace c9 := Bool.eq_false_iff.mpr c9
        subst c9
        have H1 : (spec_l3Left.l0 k2 l0 a1 (wrap64 (x5_1 + 1)) (wrap64 (x6_1 + 1))) = some r := by first | (with_reducible rfl) | (rw [if_neg (show ¬ (false = true) by decide)] at H; exact H)
        clear H
        have H := H1
        clear H1
        have H' := xm H
        clear H
        go_wp2
        go_roundg k2
        case measure => have := HK1.out; have := HK2.out; omega
        case rel => exact ⟨(wrap64 (x5_1 + 1)), (wrap64 (x6_1 + 1)), sB, sB, H', ⟨by have := HK1.out; have := HK2.out; omega⟩, by repeat (first | exact Drawn0.refl _ | apply Drawn0.step)⟩
   ·rw [if_neg c3] at H
    have c3b0 : decide (x6_1 < a1) = false := decide_eq_false c3
    clear c3
    obtain rfl := Option.some.inj H
    go_wp2
    go_ret
    exact ⟨sB, dB⟩

end Go.Proofs.Ytaddemalepndfae.G
