/- Written by a program of this claim's own, out of the translation: functions of the program as plain functions, and that the calls answer as these. No conditions. -/
import Derived.Test.YtaddemalepndfahG0
namespace Go.Proofs.Ytaddemalepndfah.G
open Go.RowKit Go.Proofs.Ytaddemalepndfah.X Go.Proofs.YtaddemalepndfahW.PrintWords Go.Proofs.YtaddemalepndfahW.PrintLast Go.Proofs.YtaddemalepndfahW.PrintMore
attribute [local go_sem] max2_int min2_int max_two min_two max_three min_three max_four min_four   -- for this text's walks alone
set_option linter.unusedVariables false
set_option linter.unusedSimpArgs false

/-! ### spec_l1Has: function 20 -/
def spec_l1Has.l0 : Nat → Int → List Int → Int → Int → Option (Bool)
 | 0, _, _, _, _ => none
 | k + 1, x1, x7, x8, x9 => if x9 < x8 then (if 0 ≤ x9 then (if x9 < (x7.length : Int) then (if (rd x7 x9) = x1 then (some true) else (spec_l1Has.l0 k x1 x7 x8 (wrap64 (x9 + 1)))) else (none)) else (none)) else (some false)
def spec_l1Has.f (k : Nat) (l0 : List Int) (a1 : Int) : Option (Bool) := spec_l1Has.l0 k a1 l0 (l0.length : Int) 0
theorem spec_l1Has.mono_l : ∀ k, (∀ y0 y1 y2 y3, LeO (spec_l1Has.l0 k y0 y1 y2 y3) (spec_l1Has.l0 (k + 1) y0 y1 y2 y3))
 | 0 => fun _ _ _ _ r h => by simp [spec_l1Has.l0] at h
 | k + 1 => by
  have ih0 := spec_l1Has.mono_l k
  ·intro y0 y1 y2 y3
   unfold spec_l1Has.l0
   repeat' first
   | (with_reducible exact ih0 _ _ _ _)
   | (with_reducible exact LeO.refl _)
   | (with_reducible exact LeO.none _)
   | (with_reducible refine LeO.ite ?_ ?_)
   | (with_reducible refine LeO.bind ?_ (fun _ => ?_))
   | exact ih0 _ _ _ _
   | exact LeO.none _
   | refine LeO.ite ?_ ?_
   | refine LeO.bind ?_ (fun _ => ?_)
theorem spec_l1Has.mono : ∀ a0 a1 k, LeO (spec_l1Has.f k a0 a1) (spec_l1Has.f (k + 1) a0 a1) := by
 intro a0 a1 k
 have ih0 := spec_l1Has.mono_l k
 unfold spec_l1Has.f
 repeat' first
   | (with_reducible exact ih0 _ _ _ _)
   | (with_reducible exact LeO.refl _)
   | (with_reducible exact LeO.none _)
   | (with_reducible refine LeO.ite ?_ ?_)
   | (with_reducible refine LeO.bind ?_ (fun _ => ?_))
   | exact ih0 _ _ _ _
   | exact LeO.none _
   | refine LeO.ite ?_ ?_
   | refine LeO.bind ?_ (fun _ => ?_)
set_option maxHeartbeats 8000000 in
set_option maxRecDepth 100000 in
theorem spec_l1Has.calls (k : Nat) (A0 : Option Addr) (c0 : Nat) (l0 : List Int) (a1 : Int) (r : Bool) (w : World) (hr0 : Kd.C (Kd.int .i64) w A0 l0.length l0) (hc0 : l0.length ≤ c0) (h : spec_l1Has.f k l0 a1 = some r) :
  Calls Try.prog 20 #[.slice A0 l0.length c0, .int .i64 a1] w fun e w' => e = .returned (.bool r) ∧ Drawn0 w w' := by
 have HR0 := xm hr0
 have HC0 := xm hc0
 clear hr0 hc0
 have H : (spec_l1Has.l0 k a1 l0 (l0.length : Int) 0) = some r := h
 clear h
 have H' := xm H
 clear H
 go_enter Try.func20, Try.ntmps20
 go_wp2
 go_loopg [9] k (fun kq v9 w' => ∃ (x9_1 : Int), v9 = .int .i64 x9_1 ∧ Aside0 (spec_l1Has.l0 kq a1 l0 (l0.length : Int) x9_1 = some r) ∧ Aside0 (kq ≤ k) ∧ Drawn0 w w')
 case atStart => exact ⟨(0), sB, H', ⟨Nat.le_refl _⟩, by repeat (first | exact Drawn0.refl _ | apply Drawn0.step)⟩
 case round =>
  clear H'
  try clear c2
  try clear p2
  obtain ⟨x9_1, rfl, HA, HK1, ⟨m1, rfl⟩⟩ := hrel
  cases gk with
  | zero => exact absurd HA.out (by simp [spec_l1Has.l0])
  | succ k1 =>
   have H := HA.out
   clear HA
   simp only [spec_l1Has.l0] at H
   by_cases c3 : x9_1 < (l0.length : Int)
   ·rw [if_pos c3] at H
    have c3b0 : decide (x9_1 < (l0.length : Int)) = true := decide_eq_true c3
    clear c3
    by_cases c4 : 0 ≤ x9_1
    ·rw [if_pos c4] at H
     have c4b0 : decide (0 ≤ x9_1) = true := decide_eq_true c4
     clear c4
     by_cases c5 : x9_1 < (l0.length : Int)
     ·rw [if_pos c5] at H
      have c5b0 : decide (x9_1 < (l0.length : Int)) = true := decide_eq_true c5
      clear c5
      by_cases c6 : (rd l0 x9_1) = a1
      ·rw [if_pos c6] at H
       have c6b0 : ((rd l0 x9_1) == a1) = true := beq_iff_eq.mpr c6
       have c6b1 : ((rd l0 x9_1) != a1) = false := bne_eq_false_iff_eq.mpr c6
       clear c6
       obtain rfl := Option.some.inj H
       have p115 : 0 ≤ (x9_1 : Int) := of_decide_eq_true aB
       have q115 : x9_1 < (l0.length : Int) := of_decide_eq_true aB
       obtain ⟨ad115, e115, hx115_0⟩ := Kd.at_int HR0.out x9_1 p115 q115
       cases e115
       replace p115 := eq_true p115
       replace q115 := eq_true q115
       go_wp2
       go_ret
       exact ⟨sB, dB⟩
      ·rw [if_neg c6] at H
       have c6b0 : ((rd l0 x9_1) == a1) = false := beq_eq_false_iff_ne.mpr c6
       have c6b1 : ((rd l0 x9_1) != a1) = true := bne_iff_ne.mpr c6
       have H' := xm H
       clear H
       have p115 : 0 ≤ (x9_1 : Int) := of_decide_eq_true aB
       have q115 : x9_1 < (l0.length : Int) := of_decide_eq_true aB
       obtain ⟨ad115, e115, hx115_0⟩ := Kd.at_int HR0.out x9_1 p115 q115
       cases e115
       replace p115 := eq_true p115
       replace q115 := eq_true q115
       go_wp2
       go_roundg k1
       case measure => have := HK1.out; omega
       case rel => exact ⟨(wrap64 (x9_1 + 1)), sB, H', ⟨by have := HK1.out; omega⟩, by repeat (first | exact Drawn0.refl _ | apply Drawn0.step)⟩
     ·rw [if_neg c5] at H
      exact absurd H (by simp)
    ·rw [if_neg c4] at H
     exact absurd H (by simp)
   ·rw [if_neg c3] at H
    have c3b0 : decide (x9_1 < (l0.length : Int)) = false := decide_eq_false c3
    clear c3
    obtain rfl := Option.some.inj H
    go_wp2
    go_ret
    exact ⟨sB, dB⟩

/-! ### spec_l7All: function 36 -/
def spec_l7All.l0 : Nat → List Int → List Int → Int → Int → Option (Bool)
 | 0, _, _, _, _ => none
 | k + 1, x0, x7, x8, x9 => if x9 < x8 then (if 0 ≤ x9 then (if x9 < (x7.length : Int) then ((spec_l1Has.f k x0 (rd x7 x9)).bind fun t117 => (if t117 = true then (spec_l7All.l0 k x0 x7 x8 (wrap64 (x9 + 1))) else (some false))) else (none)) else (none)) else (some true)
def spec_l7All.f (k : Nat) (l0 : List Int) (l1 : List Int) : Option (Bool) := spec_l7All.l0 k l0 l1 (l1.length : Int) 0
theorem spec_l7All.mono_l : ∀ k, (∀ y0 y1 y2 y3, LeO (spec_l7All.l0 k y0 y1 y2 y3) (spec_l7All.l0 (k + 1) y0 y1 y2 y3))
 | 0 => fun _ _ _ _ r h => by simp [spec_l7All.l0] at h
 | k + 1 => by
  have ih0 := spec_l7All.mono_l k
  ·intro y0 y1 y2 y3
   unfold spec_l7All.l0
   repeat' first
   | (with_reducible exact ih0 _ _ _ _)
   | (with_reducible exact spec_l1Has.mono _ _ _)
   | (with_reducible exact LeO.refl _)
   | (with_reducible exact LeO.none _)
   | (with_reducible refine LeO.ite ?_ ?_)
   | (with_reducible refine LeO.bind ?_ (fun _ => ?_))
   | exact ih0 _ _ _ _
   | exact spec_l1Has.mono _ _ _
   | exact LeO.none _
   | refine LeO.ite ?_ ?_
   | refine LeO.bind ?_ (fun _ => ?_)
theorem spec_l7All.mono : ∀ a0 a1 k, LeO (spec_l7All.f k a0 a1) (spec_l7All.f (k + 1) a0 a1) := by
 intro a0 a1 k
 have ih0 := spec_l7All.mono_l k
 unfold spec_l7All.f
 repeat' first
   | (with_reducible exact ih0 _ _ _ _)
   | (with_reducible exact spec_l1Has.mono _ _ _)
   | (with_reducible exact LeO.refl _)
   | (with_reducible exact LeO.none _)
   | (with_reducible refine LeO.ite ?_ ?_)
   | (with_reducible refine LeO.bind ?_ (fun _ => ?_))
   | exact ih0 _ _ _ _
   | exact spec_l1Has.mono _ _ _
   | exact LeO.none _
   | refine LeO.ite ?_ ?_
   | refine LeO.bind ?_ (fun _ => ?_)
set_option maxHeartbeats 8000000 in
set_option maxRecDepth 100000 in
theorem spec_l7All.calls (k : Nat) (A0 : Option Addr) (c0 : Nat) (l0 : List Int) (A1 : Option Addr) (c1 : Nat) (l1 : List Int) (r : Bool) (w : World) (hr0 : Kd.C (Kd.int .i64) w A0 l0.length l0) (hc0 : l0.length ≤ c0) (hr1 : Kd.C (Kd.int .i64) w A1 l1.length l1) (hc1 : l1.length ≤ c1) (h : spec_l7All.f k l0 l1 = some r) :
  Calls Try.prog 36 #[.slice A0 l0.length c0, .slice A1 l1.length c1] w fun e w' => e = .returned (.bool r) ∧ Drawn0 w w' := by
 have HR0 := xm hr0
 have HC0 := xm hc0
 clear hr0 hc0
 have HR1 := xm hr1
 have HC1 := xm hc1
 clear hr1 hc1
 have H : (spec_l7All.l0 k l0 l1 (l1.length : Int) 0) = some r := h
 clear h
 have H' := xm H
 clear H
 go_enter Try.func36, Try.ntmps36
 go_wp2
 go_loopg [9] k (fun kq v9 w' => ∃ (x9_1 : Int), v9 = .int .i64 x9_1 ∧ Aside0 (spec_l7All.l0 kq l0 l1 (l1.length : Int) x9_1 = some r) ∧ Aside0 (kq ≤ k) ∧ Drawn0 w w')
 case atStart => exact ⟨(0), sB, H', ⟨Nat.le_refl _⟩, by repeat (first | exact Drawn0.refl _ | apply Drawn0.step)⟩
 case round =>
  clear H'
  try clear c1
  try clear p2
  obtain ⟨x9_1, rfl, HA, HK1, ⟨m1, rfl⟩⟩ := hrel
  cases gk with
  | zero => exact absurd HA.out (by simp [spec_l7All.l0])
  | succ k1 =>
   have H := HA.out
   clear HA
   simp only [spec_l7All.l0] at H
   by_cases c3 : x9_1 < (l1.length : Int)
   ·rw [if_pos c3] at H
    have c3b0 : decide (x9_1 < (l1.length : Int)) = true := decide_eq_true c3
    clear c3
    by_cases c4 : 0 ≤ x9_1
    ·rw [if_pos c4] at H
     have c4b0 : decide (0 ≤ x9_1) = true := decide_eq_true c4
     clear c4
     by_cases c5 : x9_1 < (l1.length : Int)
     ·rw [if_pos c5] at H
      have c5b0 : decide (x9_1 < (l1.length : Int)) = true := decide_eq_true c5
      clear c5
      replace H := Option.bind_eq_some_iff.mp H
      obtain ⟨t117, A60, H⟩ := H
      replace H : (if t117 = true then (spec_l7All.l0 k1 l0 l1 (l1.length : Int) (wrap64 (x9_1 + 1))) else (some false)) = some r := H
      have A6 := xm A60
      clear A60
      by_cases c7 : t117 = true
      ·subst c7
       have H1 : (spec_l7All.l0 k1 l0 l1 (l1.length : Int) (wrap64 (x9_1 + 1))) = some r := by first | (with_reducible rfl) | (rw [if_pos rfl] at H; exact H)
       clear H
       have H := H1
       clear H1
       have H' := xm H
       clear H
       have p116 : 0 ≤ (x9_1 : Int) := of_decide_eq_true aB
       have q116 : x9_1 < (l1.length : Int) := of_decide_eq_true aB
       obtain ⟨ad116, e116, hx116_0⟩ := Kd.at_int HR1.out x9_1 p116 q116
       cases e116
       replace p116 := eq_true p116
       replace q116 := eq_true q116
       go_wp2_with (first | ((with_reducible refine gate_callee (f := 20) rfl ?_); refine goesL_ (some 15) rfl rfl Try.func20 (by kernel_rfl) rfl #[.slice A0 l0.length c0, .int .i64 (rd l1 x9_1)] rfl mB ?_; (with_reducible refine (spec_l1Has.calls k1 _ _ l0 (rd l1 x9_1) true _ ?side1 ?side2 A6.out).mono ?_); (case side1 => repeat (first | exact HR0.out | (with_reducible refine Kd.C_alloc ?_ _) | (with_reducible refine Kd.C_drewN ?_ _) | (with_reducible refine Kd.C_drew ?_))); (case side2 => exact HC0.out); rintro e w' ⟨rfl, ⟨nd, rfl⟩⟩; refine ⟨_, rfl, ?_⟩))
       go_roundg k1
       case measure => have := HK1.out; omega
       case rel => exact ⟨(wrap64 (x9_1 + 1)), sB, H', ⟨by have := HK1.out; omega⟩, by repeat (first | exact Drawn0.refl _ | apply Drawn0.step)⟩
      ·replace c7 := Bool.eq_false_iff.mpr c7
       subst c7
       have H1 : (some false) = some r := by first | (with_reducible rfl) | (rw [if_neg (show ¬ (false = true) by decide)] at H; exact H)
       clear H
       have H := H1
       clear H1
       obtain rfl := Option.some.inj H
       have p116 : 0 ≤ (x9_1 : Int) := of_decide_eq_true aB
       have q116 : x9_1 < (l1.length : Int) := of_decide_eq_true aB
       obtain ⟨ad116, e116, hx116_0⟩ := Kd.at_int HR1.out x9_1 p116 q116
       cases e116
       replace p116 := eq_true p116
       replace q116 := eq_true q116
       go_wp2_with (first | ((with_reducible refine gate_callee (f := 20) rfl ?_); refine goesL_ (some 15) rfl rfl Try.func20 (by kernel_rfl) rfl #[.slice A0 l0.length c0, .int .i64 (rd l1 x9_1)] rfl mB ?_; (with_reducible refine (spec_l1Has.calls k1 _ _ l0 (rd l1 x9_1) false _ ?side1 ?side2 A6.out).mono ?_); (case side1 => repeat (first | exact HR0.out | (with_reducible refine Kd.C_alloc ?_ _) | (with_reducible refine Kd.C_drewN ?_ _) | (with_reducible refine Kd.C_drew ?_))); (case side2 => exact HC0.out); rintro e w' ⟨rfl, ⟨nd, rfl⟩⟩; refine ⟨_, rfl, ?_⟩))
       go_ret
       exact ⟨sB, dB⟩
     ·rw [if_neg c5] at H
      exact absurd H (by simp)
    ·rw [if_neg c4] at H
     exact absurd H (by simp)
   ·rw [if_neg c3] at H
    have c3b0 : decide (x9_1 < (l1.length : Int)) = false := decide_eq_false c3
    clear c3
    obtain rfl := Option.some.inj H
    go_wp2
    go_ret
    exact ⟨sB, dB⟩

/-! ### spec_l7Put: function 37 -/
def spec_l7Put.l0 : Nat → List Int → Int → Int → Option (List Int)
 | 0, _, _, _ => none
 | k + 1, x0, x1, x5 => if x5 < (x0.length : Int) then (if 0 ≤ x5 then (if (rd x0 x5) < x1 then (spec_l7Put.l0 k x0 x1 (wrap64 (x5 + 1))) else (if x5 ≤ (x0.length : Int) then ((some (x0.take (x5 : Int).toNat : List Int)).bind fun y120 => (if ([] : List Int).length + y120.length < 17592186044416 then ((some (([] : List Int) ++ y120 : List Int)).bind fun y124 => (if y124.length < 17592186044416 then ((some (y124 ++ [x1] : List Int)).bind fun y127 => ((some (x0.drop (x5 : Int).toNat : List Int)).bind fun y130 => (if y127.length + y130.length < 17592186044416 then (some (y127 ++ y130)) else (none)))) else (none))) else (none))) else (none))) else (none)) else (if 0 ≤ x5 then (if x5 ≤ (x0.length : Int) then ((some (x0.take (x5 : Int).toNat : List Int)).bind fun y137 => (if ([] : List Int).length + y137.length < 17592186044416 then ((some (([] : List Int) ++ y137 : List Int)).bind fun y141 => (if y141.length < 17592186044416 then ((some (y141 ++ [x1] : List Int)).bind fun y144 => ((some (x0.drop (x5 : Int).toNat : List Int)).bind fun y147 => (if y144.length + y147.length < 17592186044416 then (some (y144 ++ y147)) else (none)))) else (none))) else (none))) else (none)) else (none))
def spec_l7Put.f (k : Nat) (l0 : List Int) (a1 : Int) : Option (List Int) := (spec_l1Has.f k l0 a1).bind fun t118 => (if t118 = true then (some l0) else (spec_l7Put.l0 k l0 a1 0))
theorem spec_l7Put.mono_l : ∀ k, (∀ y0 y1 y2, LeO (spec_l7Put.l0 k y0 y1 y2) (spec_l7Put.l0 (k + 1) y0 y1 y2))
 | 0 => fun _ _ _ r h => by simp [spec_l7Put.l0] at h
 | k + 1 => by
  have ih0 := spec_l7Put.mono_l k
  ·intro y0 y1 y2
   unfold spec_l7Put.l0
   repeat' first
   | (with_reducible exact ih0 _ _ _)
   | (with_reducible exact spec_l1Has.mono _ _ _)
   | (with_reducible exact LeO.refl _)
   | (with_reducible exact LeO.none _)
   | (with_reducible refine LeO.ite ?_ ?_)
   | (with_reducible refine LeO.bind ?_ (fun _ => ?_))
   | exact ih0 _ _ _
   | exact spec_l1Has.mono _ _ _
   | exact LeO.none _
   | refine LeO.ite ?_ ?_
   | refine LeO.bind ?_ (fun _ => ?_)
theorem spec_l7Put.mono : ∀ a0 a1 k, LeO (spec_l7Put.f k a0 a1) (spec_l7Put.f (k + 1) a0 a1) := by
 intro a0 a1 k
 have ih0 := spec_l7Put.mono_l k
 unfold spec_l7Put.f
 repeat' first
   | (with_reducible exact ih0 _ _ _)
   | (with_reducible exact spec_l1Has.mono _ _ _)
   | (with_reducible exact LeO.refl _)
   | (with_reducible exact LeO.none _)
   | (with_reducible refine LeO.ite ?_ ?_)
   | (with_reducible refine LeO.bind ?_ (fun _ => ?_))
   | exact ih0 _ _ _
   | exact spec_l1Has.mono _ _ _
   | exact LeO.none _
   | refine LeO.ite ?_ ?_
   | refine LeO.bind ?_ (fun _ => ?_)
set_option maxHeartbeats 8000000 in
set_option maxRecDepth 100000 in
theorem spec_l7Put.calls (k : Nat) (P0_ : Nat → Prop) (u9000_ : Value) (l0 : List Int) (a1 : Int) (r : List Int) (w0 w : World) (hB : Below w0.heap.size w0 w) (ho0 : Kd.R (Kd.int .i64) 3 w w0.heap.size P0_ u9000_ l0) (h : spec_l7Put.f k l0 a1 = some r) :
  Calls Try.prog 37 #[u9000_, .int .i64 a1] w fun e w' => ∃ v0_ : Value, e = .returned (v0_) ∧ Kd.R (Kd.int .i64) 3 w' w0.heap.size (fun k_ => (P0_ k_ ∨ w.heap.size ≤ k_)) v0_ r ∧ Below w0.heap.size w0 w' ∧ Kept w w' (fun k_ => P0_ k_) := by
 have HO0 := xm (show Kd.R (Kd.int .i64) 3 w w0.heap.size (fun k_ => (P0_ k_ ∨ w.heap.size ≤ k_)) u9000_ l0 from Kd.R_mono ho0 (fun k_ hk => (.inl hk)))
 have HK := xm (Kept.refl w (fun k_ => P0_ k_))
 have HW0 := xm hB.size
 have HB := xm hB
 clear hB
 have H : ((spec_l1Has.f k l0 a1).bind fun t118 => (if t118 = true then (some l0) else (spec_l7Put.l0 k l0 a1 0))) = some r := h
 clear h
 replace H := Option.bind_eq_some_iff.mp H
 obtain ⟨t118, A30, H⟩ := H
 replace H : (if t118 = true then (some l0) else (spec_l7Put.l0 k l0 a1 0)) = some r := H
 have A3 := xm A30
 clear A30
 by_cases c4 : t118 = true
 ·subst c4
  have H1 : (some l0) = some r := by first | (with_reducible rfl) | (rw [if_pos rfl] at H; exact H)
  clear H
  have H := H1
  clear H1
  obtain rfl := Option.some.inj H
  obtain ⟨Ao5, co5, eo5⟩ := Kd.R_slice HO0.out
  subst eo5
  go_enter Try.func37, Try.ntmps37
  go_wp2_with (first | ((with_reducible refine gate_callee (f := 20) rfl ?_); refine goesL_ (some 9) rfl rfl Try.func20 (by kernel_rfl) rfl #[.slice Ao5 l0.length co5, .int .i64 a1] rfl mB ?_; (with_reducible refine (spec_l1Has.calls k _ _ l0 a1 true _ ?side1 ?side2 A3.out).mono ?_); (case side1 => repeat (first | exact (Kd.R_reads' HO0.out).2.2 | (with_reducible refine Kd.C_alloc ?_ _) | (with_reducible refine Kd.C_drewN ?_ _) | (with_reducible refine Kd.C_drew ?_))); (case side2 => exact (Kd.R_reads' HO0.out).2.1); rintro e w' ⟨rfl, ⟨nd, rfl⟩⟩; refine ⟨_, rfl, ?_⟩))
  go_ret
  exact ⟨_, eB, rB HO0, bG, by repeat (first | (with_reducible first | exact HK.out | apply Kept.alloc | apply Kept.drewN | apply Kept.drew) | exact HK.out)⟩
 ·replace c4 := Bool.eq_false_iff.mpr c4
  subst c4
  have H1 : (spec_l7Put.l0 k l0 a1 0) = some r := by first | (with_reducible rfl) | (rw [if_neg (show ¬ (false = true) by decide)] at H; exact H)
  clear H
  have H := H1
  clear H1
  have H' := xm H
  clear H
  obtain ⟨Ao6, co6, eo6⟩ := Kd.R_slice HO0.out
  subst eo6
  go_enter Try.func37, Try.ntmps37
  go_wp2_with (first | ((with_reducible refine gate_callee (f := 20) rfl ?_); refine goesL_ (some 9) rfl rfl Try.func20 (by kernel_rfl) rfl #[.slice Ao6 l0.length co6, .int .i64 a1] rfl mB ?_; (with_reducible refine (spec_l1Has.calls k _ _ l0 a1 false _ ?side1 ?side2 A3.out).mono ?_); (case side1 => repeat (first | exact (Kd.R_reads' HO0.out).2.2 | (with_reducible refine Kd.C_alloc ?_ _) | (with_reducible refine Kd.C_drewN ?_ _) | (with_reducible refine Kd.C_drew ?_))); (case side2 => exact (Kd.R_reads' HO0.out).2.1); rintro e w' ⟨rfl, ⟨nd, rfl⟩⟩; refine ⟨_, rfl, ?_⟩))
  go_loopg [5] k (fun kq v5 w' => ∃ (x5_1 : Int), v5 = .int .i64 x5_1 ∧ Aside0 (spec_l7Put.l0 kq l0 a1 x5_1 = some r) ∧ Aside0 (kq ≤ k) ∧ Aside0 (Kd.R (Kd.int .i64) 3 w' w0.heap.size (fun k_ => (P0_ k_ ∨ w.heap.size ≤ k_)) (.slice Ao6 l0.length co6) l0) ∧ Aside0 (Kept w w' (fun k_ => P0_ k_)) ∧ Aside0 (Below w0.heap.size w0 w'))
  case atStart => exact ⟨(0), sB, H', ⟨Nat.le_refl _⟩, ⟨rB HO0⟩, ⟨by repeat (first | (with_reducible first | exact HK.out | apply Kept.alloc | apply Kept.drewN | apply Kept.drew) | exact HK.out)⟩, ⟨bG⟩⟩
  case round =>
   clear H'
   try clear c2
   try clear p2
   try clear c3
   try clear c4
   obtain ⟨x5_1, rfl, HA, HK1, HO_0, HK, HB⟩ := hrel
   cases gk with
   | zero => exact absurd HA.out (by simp [spec_l7Put.l0])
   | succ k1 =>
    have H := HA.out
    clear HA
    simp only [spec_l7Put.l0] at H
    by_cases c7 : x5_1 < (l0.length : Int)
    ·rw [if_pos c7] at H
     have c7b0 : decide (x5_1 < (l0.length : Int)) = true := decide_eq_true c7
     clear c7
     by_cases c8 : 0 ≤ x5_1
     ·rw [if_pos c8] at H
      have c8b0 : decide (0 ≤ x5_1) = true := decide_eq_true c8
      clear c8
      by_cases c9 : (rd l0 x5_1) < a1
      ·rw [if_pos c9] at H
       have c9b0 : decide ((rd l0 x5_1) < a1) = true := decide_eq_true c9
       clear c9
       have H' := xm H
       clear H
       have p119 : 0 ≤ (x5_1 : Int) := of_decide_eq_true aB
       have q119 : x5_1 < (l0.length : Int) := of_decide_eq_true aB
       obtain ⟨ad119, e119, hx119_0⟩ := Kd.at_int (Kd.R_reads' HO_0.out).2.2 x5_1 p119 q119
       cases e119
       replace p119 := eq_true p119
       replace q119 := eq_true q119
       go_wp2
       go_roundg k1
       case measure => have := HK1.out; omega
       case rel => exact ⟨(wrap64 (x5_1 + 1)), sB, H', ⟨by have := HK1.out; omega⟩, ⟨rB HO_0⟩, ⟨by repeat (first | (with_reducible first | exact HK.out | apply Kept.alloc | apply Kept.drewN | apply Kept.drew) | exact HK.out)⟩, ⟨bG⟩⟩
      ·rw [if_neg c9] at H
       have c9b0 : decide ((rd l0 x5_1) < a1) = false := decide_eq_false c9
       clear c9
       have c10b0 := eq_true (of_decide_eq_true aB : 0 ≤ x5_1)
       by_cases c11 : x5_1 ≤ (l0.length : Int)
       ·rw [if_pos c11] at H
        have c11b0 := eq_true c11
        have c11b1 : decide (x5_1 ≤ (l0.length : Int)) = true := decide_eq_true c11
        clear c11
        obtain ⟨y120, hy120⟩ : ∃ y_ : List Int, y_ = (l0.take (x5_1 : Int).toNat) := ⟨_, rfl⟩
        replace H : (if ([] : List Int).length + y120.length < 17592186044416 then ((some (([] : List Int) ++ y120 : List Int)).bind fun y124 => (if y124.length < 17592186044416 then ((some (y124 ++ [a1] : List Int)).bind fun y127 => ((some (l0.drop (x5_1 : Int).toNat : List Int)).bind fun y130 => (if y127.length + y130.length < 17592186044416 then (some (y127 ++ y130)) else (none)))) else (none))) else (none)) = some r := by first | (rw [hy120]; with_reducible exact H) | (have H2_ := (Option.bind_some _ _).symm.trans H; rw [hy120]; with_reducible exact H2_) | (have H2_ := (Option.bind_some _ _).symm.trans H; with_reducible exact H2_) | with_reducible exact H | (rw [hy120]; exact H) | exact H
        have Ny120 := xm hy120
        clear hy120
        by_cases c12 : ([] : List Int).length + y120.length < 17592186044416
        ·rw [if_pos c12] at H
         have LMc12 := xm c12
         clear c12
         obtain ⟨y124, hy124⟩ : ∃ y_ : List Int, y_ = (([] : List Int) ++ y120) := ⟨_, rfl⟩
         replace H : (if y124.length < 17592186044416 then ((some (y124 ++ [a1] : List Int)).bind fun y127 => ((some (l0.drop (x5_1 : Int).toNat : List Int)).bind fun y130 => (if y127.length + y130.length < 17592186044416 then (some (y127 ++ y130)) else (none)))) else (none)) = some r := by first | (rw [hy124]; with_reducible exact H) | (have H2_ := (Option.bind_some _ _).symm.trans H; rw [hy124]; with_reducible exact H2_) | (have H2_ := (Option.bind_some _ _).symm.trans H; with_reducible exact H2_) | with_reducible exact H | (rw [hy124]; exact H) | exact H
         have Ny124 := xm hy124
         clear hy124
         by_cases c13 : y124.length < 17592186044416
         ·rw [if_pos c13] at H
          have LMc13 := xm c13
          clear c13
          obtain ⟨y127, hy127⟩ : ∃ y_ : List Int, y_ = (y124 ++ [a1]) := ⟨_, rfl⟩
          replace H : ((some (l0.drop (x5_1 : Int).toNat : List Int)).bind fun y130 => (if y127.length + y130.length < 17592186044416 then (some (y127 ++ y130)) else (none))) = some r := by first | (rw [hy127]; with_reducible exact H) | (have H2_ := (Option.bind_some _ _).symm.trans H; rw [hy127]; with_reducible exact H2_) | (have H2_ := (Option.bind_some _ _).symm.trans H; with_reducible exact H2_) | with_reducible exact H | (rw [hy127]; exact H) | exact H
          have Ny127 := xm hy127
          clear hy127
          have c14b0 := eq_true (of_decide_eq_true aB : 0 ≤ x5_1)
          have c15b0 := eq_true (of_decide_eq_true aB : x5_1 ≤ (l0.length : Int))
          obtain ⟨y130, hy130⟩ : ∃ y_ : List Int, y_ = (l0.drop (x5_1 : Int).toNat) := ⟨_, rfl⟩
          replace H : (if y127.length + y130.length < 17592186044416 then (some (y127 ++ y130)) else (none)) = some r := by first | (rw [hy130]; with_reducible exact H) | (have H2_ := (Option.bind_some _ _).symm.trans H; rw [hy130]; with_reducible exact H2_) | (have H2_ := (Option.bind_some _ _).symm.trans H; with_reducible exact H2_) | with_reducible exact H | (rw [hy130]; exact H) | exact H
          have Ny130 := xm hy130
          clear hy130
          by_cases c16 : y127.length + y130.length < 17592186044416
          ·rw [if_pos c16] at H
           have LMc16 := xm c16
           clear c16
           obtain ⟨y134, hy134⟩ : ∃ y_ : List Int, y_ = (y127 ++ y130) := ⟨_, rfl⟩
           replace H : (some y134) = some r := by first | (rw [hy134]; with_reducible exact H) | (have H2_ := (Option.bind_some _ _).symm.trans H; rw [hy134]; with_reducible exact H2_) | (have H2_ := (Option.bind_some _ _).symm.trans H; with_reducible exact H2_) | with_reducible exact H | (rw [hy134]; exact H) | exact H
           have Ny134 := xm hy134
           clear hy134
           obtain rfl := Option.some.inj H
           have p119 : 0 ≤ (x5_1 : Int) := of_decide_eq_true aB
           have q119 : x5_1 < (l0.length : Int) := of_decide_eq_true aB
           obtain ⟨ad119, e119, hx119_0⟩ := Kd.at_int (Kd.R_reads' HO_0.out).2.2 x5_1 p119 q119
           cases e119
           replace p119 := eq_true p119
           replace q119 := eq_true q119
           have q17 : (x5_1 : Int) ≤ ((l0.length : Int) : Int) := of_decide_eq_true aB
           obtain ⟨i017, hi017, _, hsz17, _⟩ := info_parts info3
           have hroom17 : l0.length ≤ co6 := (Kd.R_reads' HO_0.out).2.1
           have hC17 : Kd.C (Kd.int .i64) _ (some ad119) l0.length l0 := (Kd.R_reads' HO_0.out).2.2
           have hcut17 := cut_to (P := Try.prog) 23 3 .i64 Try.underlying23 hi017 (some ad119) l0.length co6 x5_1 (of_decide_eq_true aB) q17 hroom17
           have hr17 := Kd.C_take (m := (x5_1 : Int).toNat) hC17 (by omega)
           have hy17 : y120.length = (x5_1 : Int).toNat := (by rw [Ny120.out, List.length_take]; omega)
           rw [← Ny120.out] at hr17
           rw [← hy17] at hcut17
           have HR123 := xm hr17
           have HC123 := xm (show y120.length ≤ co6 from by omega)
           clear hr17 hC17 hroom17 hi017 hsz17
           have KY17 := xm hy17
           clear hy17
           have KL17 := xm (show (x5_1 : Int).toNat ≤ l0.length from by omega)
           replace q17 := eq_true q17
           go_wp2_with (first | ((with_reducible refine gate_builtin (b := .append) (xs := #[.tmp 25, .tmp 28]) rfl ?_); at_builtin; refine Kd.R_append_rows (Kd.int .i64) (w0 := w0) w0.heap.size rfl (.tmp 25) (.tmp 28) 23 3 (.int .i64 0) 8 rfl Try.underlying23 info3 rfl (by decide) (by omega) (.slice none 0 0) ([] : List Int) y120 _ _ _ (fun k_ => (P0_ k_ ∨ w.heap.size ≤ k_) ∧ some k_ ≠ (.slice (some ad119) l0.length co6 : Value).ownBlock) (fun _ => False) rfl rfl ?aO ?aR (fun _ _ h => h) (fun _ h => h.elim) ?aF ?aB ?aS ?aL ?_; (case aR => repeat (first | exact (by repeat (first | (with_reducible exact HR123.out) | (with_reducible refine Kd.C_alloc ?_ _) | (with_reducible refine Kd.C_drewN ?_ _) | (with_reducible refine Kd.C_drew ?_) | exact HR123.out)) | (with_reducible refine Kd.C_alloc ?_ _) | (with_reducible refine Kd.C_drewN ?_ _) | (with_reducible refine Kd.C_drew ?_))); (case aB => exact bB); (case aF => exact (fun k_ hk => ⟨(.inr (Nat.le_trans (by first | exact HK.out.1 | exact (show Kept w _ (fun k_ => P0_ k_) from by repeat (first | (with_reducible first | exact HK.out | apply Kept.alloc | apply Kept.drewN | apply Kept.drew) | exact HK.out)).1) hk)), Kd.fresh' (Kd.R_lt (rB HO_0)) k_ hk⟩)); (case aO => exact ((Kd.R_nil _ _ _ _ (fun k_ => (P0_ k_ ∨ w.heap.size ≤ k_) ∧ some k_ ≠ (.slice (some ad119) l0.length co6 : Value).ownBlock)))); (case aS => exact (xz bB)); (case aL => have := LMc12.out; omega); intro v125 w18 ho hb hg hat; rw [← Ny124.out] at ho; have n0_ := xm (Kd.R_after (Kd.R_apart_nil (rB HO_0)) hg hat); have n1_ := xm (hb); have n2_ := xm (Kept.of_grown (S := (fun k_ => P0_ k_)) hg (by repeat (first | (with_reducible first | exact HK.out | apply Kept.alloc | apply Kept.drewN | apply Kept.drew) | exact HK.out)) (fun k_ e_ => by simp [Value.ownBlock] at e_)); have n3_ := xm ((show Kd.C (Kd.int .i64) w18 (some ad119) y120.length y120 from by rw [Ny120.out]; exact Kd.C_take (m := (x5_1 : Int).toNat) ((Kd.R_reads' (Kd.R_after (Kd.R_apart_nil (rB HO_0)) hg hat)).2.2) KL17.out)); have n4_ := xm (ho); revert n0_ n1_ n2_ n3_ n4_; clear HO_0 HB HK HR123; intro HO_0 HB HK HR123 HO126; clear ho hb hg hat) | ((with_reducible refine gate_builtin (b := .append) (xs := #[.tmp 30, .tmp 32]) rfl ?_); at_builtin; refine Kd.R_append (Kd.int .i64) (w0 := w0) w0.heap.size rfl (.tmp 30) (.tmp 32) 23 3 (.int .i64 0) 8 rfl Try.underlying23 info3 rfl (by decide) (by omega) v125 y124 a1 [.int .i64 a1] (fun k_ => (P0_ k_ ∨ w.heap.size ≤ k_) ∧ some k_ ≠ (.slice (some ad119) l0.length co6 : Value).ownBlock) (fun _ => False) rfl rfl ?aP (fun _ hk => hk.elim) ?aF ?aO ?aB ?aS ?aL ?_; (case aP => exact rfl); (case aB => exact bB); (case aF => exact (fun k_ hk => ⟨(.inr (Nat.le_trans (by first | exact HK.out.1 | exact (show Kept w _ (fun k_ => P0_ k_) from by repeat (first | (with_reducible first | exact HK.out | apply Kept.alloc | apply Kept.drewN | apply Kept.drew) | exact HK.out)).1) hk)), Kd.fresh' (Kd.R_lt (rB HO_0)) k_ hk⟩)); (case aO => exact (rB HO126)); (case aS => exact (xz bB)); (case aL => have := LMc13.out; omega); intro v128 w19 ho hb hg hat; rw [← Ny127.out] at ho; have n0_ := xm (Kd.R_after (ok := (fun k_ => (P0_ k_ ∨ w.heap.size ≤ k_))) (rB HO_0) hg hat); have n1_ := xm (hb); have n2_ := xm (Kept.of_grown (S := (fun k_ => P0_ k_)) hg (by repeat (first | (with_reducible first | exact HK.out | apply Kept.alloc | apply Kept.drewN | apply Kept.drew) | exact HK.out)) (fun k_ e_ => (HO126.out.1 k_ e_).1)); have n3_ := xm ((show Kd.C (Kd.int .i64) w19 (some ad119) y120.length y120 from by rw [Ny120.out]; exact Kd.C_take (m := (x5_1 : Int).toNat) ((Kd.R_reads' (Kd.R_after (ok := (fun k_ => (P0_ k_ ∨ w.heap.size ≤ k_))) (rB HO_0) hg hat)).2.2) KL17.out)); have n4_ := xm (ho); revert n0_ n1_ n2_ n3_ n4_; clear HO_0 HB HK HR123 HO126; intro HO_0 HB HK HR123 HO129; clear ho hb hg hat; have q20 : (x5_1 : Int) ≤ ((l0.length : Int) : Int) := of_decide_eq_true aB; obtain ⟨i020, hi020, _, hsz20, _⟩ := info_parts info3; have hroom20 : l0.length ≤ co6 := (Kd.R_reads' HO_0.out).2.1; have hC20 : Kd.C (Kd.int .i64) _ (some ad119) l0.length l0 := (Kd.R_reads' HO_0.out).2.2; have q020 : (0 : Int) ≤ (x5_1 : Int) := of_decide_eq_true aB; have hcut20 := cut_from (P := Try.prog) 23 3 .i64 Try.underlying23 hi020 1 hsz20 (some ad119) l0.length co6 x5_1 q020 q20; have hr20 := Kd.C_drop (m := (x5_1 : Int).toNat) (c := co6) hC20 (by omega) hroom20; obtain ⟨A20, hA20⟩ : ∃ A1, A1 = (if co6 = (x5_1 : Int).toNat then (some ad119) else ((some ad119) : Option Addr).map (·.add ((x5_1 : Int).toNat * 1))) := ⟨_, rfl⟩; obtain ⟨c20, hc20⟩ : ∃ c1, c1 = co6 - (x5_1 : Int).toNat := ⟨_, rfl⟩; have hy20 : y130.length = l0.length - (x5_1 : Int).toNat := (by rw [Ny130.out, List.length_drop] <;> omega); rw [show (l0).drop (x5_1 : Int).toNat = y130 from Ny130.out.symm] at hr20; replace hr20 : Kd.C (Kd.int .i64) _ A20 y130.length y130 := (by rw [hA20]; exact hr20); rw [← hy20, ← hA20, ← hc20] at hcut20; have HR133 := xm hr20; have HC133 := xm (show y130.length ≤ c20 from by rw [hy20, hc20]; exact Nat.sub_le_sub_right hroom20 _); clear hr20 hC20 hroom20 hi020 hsz20 hc20; have KY20 := xm hy20; have KA20 := xm hA20; clear hy20 hA20; have KL20 := xm (show (x5_1 : Int).toNat ≤ l0.length from by omega); replace q20 := eq_true q20) | ((with_reducible refine gate_builtin (b := .append) (xs := #[.tmp 34, .tmp 37]) rfl ?_); at_builtin; refine Kd.R_append_rows (Kd.int .i64) (w0 := w0) w0.heap.size rfl (.tmp 34) (.tmp 37) 23 3 (.int .i64 0) 8 rfl Try.underlying23 info3 rfl (by decide) (by omega) v128 y127 y130 _ _ _ (fun k_ => (P0_ k_ ∨ w.heap.size ≤ k_) ∧ some k_ ≠ (.slice (some ad119) l0.length co6 : Value).ownBlock) (fun _ => False) rfl rfl ?aO ?aR (fun _ _ h => h) (fun _ h => h.elim) ?aF ?aB ?aS ?aL ?_; (case aR => repeat (first | exact (by repeat (first | (with_reducible exact HR133.out) | (with_reducible refine Kd.C_alloc ?_ _) | (with_reducible refine Kd.C_drewN ?_ _) | (with_reducible refine Kd.C_drew ?_) | exact HR133.out)) | (with_reducible refine Kd.C_alloc ?_ _) | (with_reducible refine Kd.C_drewN ?_ _) | (with_reducible refine Kd.C_drew ?_))); (case aB => exact bB); (case aF => exact (fun k_ hk => ⟨(.inr (Nat.le_trans (by first | exact HK.out.1 | exact (show Kept w _ (fun k_ => P0_ k_) from by repeat (first | (with_reducible first | exact HK.out | apply Kept.alloc | apply Kept.drewN | apply Kept.drew) | exact HK.out)).1) hk)), Kd.fresh' (Kd.R_lt (rB HO_0)) k_ hk⟩)); (case aO => exact (rB HO129)); (case aS => exact (xz bB)); (case aL => have := LMc16.out; omega); intro v135 w21 ho hb hg hat; rw [← Ny134.out] at ho; have n0_ := xm (Kd.R_after (ok := (fun k_ => (P0_ k_ ∨ w.heap.size ≤ k_))) (rB HO_0) hg hat); have n1_ := xm (hb); have n2_ := xm (Kept.of_grown (S := (fun k_ => P0_ k_)) hg (by repeat (first | (with_reducible first | exact HK.out | apply Kept.alloc | apply Kept.drewN | apply Kept.drew) | exact HK.out)) (fun k_ e_ => (HO129.out.1 k_ e_).1)); have n3_ := xm ((show Kd.C (Kd.int .i64) w21 (some ad119) y120.length y120 from by rw [Ny120.out]; exact Kd.C_take (m := (x5_1 : Int).toNat) ((Kd.R_reads' (Kd.R_after (ok := (fun k_ => (P0_ k_ ∨ w.heap.size ≤ k_))) (rB HO_0) hg hat)).2.2) KL17.out)); have n4_ := xm ((show Kd.C (Kd.int .i64) w21 A20 y130.length y130 from by rw [Ny130.out, KA20.out]; exact Kd.C_drop (m := (x5_1 : Int).toNat) (c := co6) ((Kd.R_reads' (Kd.R_after (ok := (fun k_ => (P0_ k_ ∨ w.heap.size ≤ k_))) (rB HO_0) hg hat)).2.2) KL20.out ((Kd.R_reads' (Kd.R_after (ok := (fun k_ => (P0_ k_ ∨ w.heap.size ≤ k_))) (rB HO_0) hg hat)).2.1))); have n5_ := xm (ho); revert n0_ n1_ n2_ n3_ n4_ n5_; clear HO_0 HB HK HR123 HR133 HO129; intro HO_0 HB HK HR123 HR133 HO136; clear ho hb hg hat))
           go_ret
           exact ⟨_, eB, by (with_reducible repeat (first | apply Kd.R_alloc | apply Kd.R_drewN | apply Kd.R_drew)); exact Kd.R_mono HO136.out (fun _ hk => hk.1), bG, by repeat (first | (with_reducible first | exact HK.out | apply Kept.alloc | apply Kept.drewN | apply Kept.drew) | exact HK.out)⟩
          ·rw [if_neg c16] at H
           exact absurd H (by simp)
         ·rw [if_neg c13] at H
          exact absurd H (by simp)
        ·rw [if_neg c12] at H
         exact absurd H (by simp)
       ·rw [if_neg c11] at H
        exact absurd H (by simp)
     ·rw [if_neg c8] at H
      exact absurd H (by simp)
    ·rw [if_neg c7] at H
     have c7b0 : decide (x5_1 < (l0.length : Int)) = false := decide_eq_false c7
     clear c7
     by_cases c22 : 0 ≤ x5_1
     ·rw [if_pos c22] at H
      have c22b0 := eq_true c22
      have c22b1 : decide (0 ≤ x5_1) = true := decide_eq_true c22
      clear c22
      by_cases c23 : x5_1 ≤ (l0.length : Int)
      ·rw [if_pos c23] at H
       have c23b0 := eq_true c23
       have c23b1 : decide (x5_1 ≤ (l0.length : Int)) = true := decide_eq_true c23
       clear c23
       obtain ⟨y137, hy137⟩ : ∃ y_ : List Int, y_ = (l0.take (x5_1 : Int).toNat) := ⟨_, rfl⟩
       replace H : (if ([] : List Int).length + y137.length < 17592186044416 then ((some (([] : List Int) ++ y137 : List Int)).bind fun y141 => (if y141.length < 17592186044416 then ((some (y141 ++ [a1] : List Int)).bind fun y144 => ((some (l0.drop (x5_1 : Int).toNat : List Int)).bind fun y147 => (if y144.length + y147.length < 17592186044416 then (some (y144 ++ y147)) else (none)))) else (none))) else (none)) = some r := by first | (rw [hy137]; with_reducible exact H) | (have H2_ := (Option.bind_some _ _).symm.trans H; rw [hy137]; with_reducible exact H2_) | (have H2_ := (Option.bind_some _ _).symm.trans H; with_reducible exact H2_) | with_reducible exact H | (rw [hy137]; exact H) | exact H
       have Ny137 := xm hy137
       clear hy137
       by_cases c24 : ([] : List Int).length + y137.length < 17592186044416
       ·rw [if_pos c24] at H
        have LMc24 := xm c24
        clear c24
        obtain ⟨y141, hy141⟩ : ∃ y_ : List Int, y_ = (([] : List Int) ++ y137) := ⟨_, rfl⟩
        replace H : (if y141.length < 17592186044416 then ((some (y141 ++ [a1] : List Int)).bind fun y144 => ((some (l0.drop (x5_1 : Int).toNat : List Int)).bind fun y147 => (if y144.length + y147.length < 17592186044416 then (some (y144 ++ y147)) else (none)))) else (none)) = some r := by first | (rw [hy141]; with_reducible exact H) | (have H2_ := (Option.bind_some _ _).symm.trans H; rw [hy141]; with_reducible exact H2_) | (have H2_ := (Option.bind_some _ _).symm.trans H; with_reducible exact H2_) | with_reducible exact H | (rw [hy141]; exact H) | exact H
        have Ny141 := xm hy141
        clear hy141
        by_cases c25 : y141.length < 17592186044416
        ·rw [if_pos c25] at H
         have LMc25 := xm c25
         clear c25
         obtain ⟨y144, hy144⟩ : ∃ y_ : List Int, y_ = (y141 ++ [a1]) := ⟨_, rfl⟩
         replace H : ((some (l0.drop (x5_1 : Int).toNat : List Int)).bind fun y147 => (if y144.length + y147.length < 17592186044416 then (some (y144 ++ y147)) else (none))) = some r := by first | (rw [hy144]; with_reducible exact H) | (have H2_ := (Option.bind_some _ _).symm.trans H; rw [hy144]; with_reducible exact H2_) | (have H2_ := (Option.bind_some _ _).symm.trans H; with_reducible exact H2_) | with_reducible exact H | (rw [hy144]; exact H) | exact H
         have Ny144 := xm hy144
         clear hy144
         have c26b0 := eq_true (of_decide_eq_true aB : 0 ≤ x5_1)
         have c27b0 := eq_true (of_decide_eq_true aB : x5_1 ≤ (l0.length : Int))
         obtain ⟨y147, hy147⟩ : ∃ y_ : List Int, y_ = (l0.drop (x5_1 : Int).toNat) := ⟨_, rfl⟩
         replace H : (if y144.length + y147.length < 17592186044416 then (some (y144 ++ y147)) else (none)) = some r := by first | (rw [hy147]; with_reducible exact H) | (have H2_ := (Option.bind_some _ _).symm.trans H; rw [hy147]; with_reducible exact H2_) | (have H2_ := (Option.bind_some _ _).symm.trans H; with_reducible exact H2_) | with_reducible exact H | (rw [hy147]; exact H) | exact H
         have Ny147 := xm hy147
         clear hy147
         by_cases c28 : y144.length + y147.length < 17592186044416
         ·rw [if_pos c28] at H
          have LMc28 := xm c28
          clear c28
          obtain ⟨y151, hy151⟩ : ∃ y_ : List Int, y_ = (y144 ++ y147) := ⟨_, rfl⟩
          replace H : (some y151) = some r := by first | (rw [hy151]; with_reducible exact H) | (have H2_ := (Option.bind_some _ _).symm.trans H; rw [hy151]; with_reducible exact H2_) | (have H2_ := (Option.bind_some _ _).symm.trans H; with_reducible exact H2_) | with_reducible exact H | (rw [hy151]; exact H) | exact H
          have Ny151 := xm hy151
          clear hy151
          obtain rfl := Option.some.inj H
          have q29 : (x5_1 : Int) ≤ ((l0.length : Int) : Int) := of_decide_eq_true aB
          obtain ⟨i029, hi029, _, hsz29, _⟩ := info_parts info3
          have hroom29 : l0.length ≤ co6 := (Kd.R_reads' HO_0.out).2.1
          have hC29 : Kd.C (Kd.int .i64) _ Ao6 l0.length l0 := (Kd.R_reads' HO_0.out).2.2
          have hcut29 := cut_to (P := Try.prog) 23 3 .i64 Try.underlying23 hi029 Ao6 l0.length co6 x5_1 (of_decide_eq_true aB) q29 hroom29
          have hr29 := Kd.C_take (m := (x5_1 : Int).toNat) hC29 (by omega)
          have hy29 : y137.length = (x5_1 : Int).toNat := (by rw [Ny137.out, List.length_take]; omega)
          rw [← Ny137.out] at hr29
          rw [← hy29] at hcut29
          have HR140 := xm hr29
          have HC140 := xm (show y137.length ≤ co6 from by omega)
          clear hr29 hC29 hroom29 hi029 hsz29
          have KY29 := xm hy29
          clear hy29
          have KL29 := xm (show (x5_1 : Int).toNat ≤ l0.length from by omega)
          replace q29 := eq_true q29
          go_wp2_with (first | ((with_reducible refine gate_builtin (b := .append) (xs := #[.tmp 25, .tmp 28]) rfl ?_); at_builtin; refine Kd.R_append_rows (Kd.int .i64) (w0 := w0) w0.heap.size rfl (.tmp 25) (.tmp 28) 23 3 (.int .i64 0) 8 rfl Try.underlying23 info3 rfl (by decide) (by omega) (.slice none 0 0) ([] : List Int) y137 _ _ _ (fun k_ => (P0_ k_ ∨ w.heap.size ≤ k_) ∧ some k_ ≠ (.slice Ao6 l0.length co6 : Value).ownBlock) (fun _ => False) rfl rfl ?aO ?aR (fun _ _ h => h) (fun _ h => h.elim) ?aF ?aB ?aS ?aL ?_; (case aR => repeat (first | exact (by repeat (first | (with_reducible exact HR140.out) | (with_reducible refine Kd.C_alloc ?_ _) | (with_reducible refine Kd.C_drewN ?_ _) | (with_reducible refine Kd.C_drew ?_) | exact HR140.out)) | (with_reducible refine Kd.C_alloc ?_ _) | (with_reducible refine Kd.C_drewN ?_ _) | (with_reducible refine Kd.C_drew ?_))); (case aB => exact bB); (case aF => exact (fun k_ hk => ⟨(.inr (Nat.le_trans (by first | exact HK.out.1 | exact (show Kept w _ (fun k_ => P0_ k_) from by repeat (first | (with_reducible first | exact HK.out | apply Kept.alloc | apply Kept.drewN | apply Kept.drew) | exact HK.out)).1) hk)), Kd.fresh' (Kd.R_lt (rB HO_0)) k_ hk⟩)); (case aO => exact ((Kd.R_nil _ _ _ _ (fun k_ => (P0_ k_ ∨ w.heap.size ≤ k_) ∧ some k_ ≠ (.slice Ao6 l0.length co6 : Value).ownBlock)))); (case aS => exact (xz bB)); (case aL => have := LMc24.out; omega); intro v142 w30 ho hb hg hat; rw [← Ny141.out] at ho; have n0_ := xm (Kd.R_after (Kd.R_apart_nil (rB HO_0)) hg hat); have n1_ := xm (hb); have n2_ := xm (Kept.of_grown (S := (fun k_ => P0_ k_)) hg (by repeat (first | (with_reducible first | exact HK.out | apply Kept.alloc | apply Kept.drewN | apply Kept.drew) | exact HK.out)) (fun k_ e_ => by simp [Value.ownBlock] at e_)); have n3_ := xm ((show Kd.C (Kd.int .i64) w30 Ao6 y137.length y137 from by rw [Ny137.out]; exact Kd.C_take (m := (x5_1 : Int).toNat) ((Kd.R_reads' (Kd.R_after (Kd.R_apart_nil (rB HO_0)) hg hat)).2.2) KL29.out)); have n4_ := xm (ho); revert n0_ n1_ n2_ n3_ n4_; clear HO_0 HB HK HR140; intro HO_0 HB HK HR140 HO143; clear ho hb hg hat) | ((with_reducible refine gate_builtin (b := .append) (xs := #[.tmp 30, .tmp 32]) rfl ?_); at_builtin; refine Kd.R_append (Kd.int .i64) (w0 := w0) w0.heap.size rfl (.tmp 30) (.tmp 32) 23 3 (.int .i64 0) 8 rfl Try.underlying23 info3 rfl (by decide) (by omega) v142 y141 a1 [.int .i64 a1] (fun k_ => (P0_ k_ ∨ w.heap.size ≤ k_) ∧ some k_ ≠ (.slice Ao6 l0.length co6 : Value).ownBlock) (fun _ => False) rfl rfl ?aP (fun _ hk => hk.elim) ?aF ?aO ?aB ?aS ?aL ?_; (case aP => exact rfl); (case aB => exact bB); (case aF => exact (fun k_ hk => ⟨(.inr (Nat.le_trans (by first | exact HK.out.1 | exact (show Kept w _ (fun k_ => P0_ k_) from by repeat (first | (with_reducible first | exact HK.out | apply Kept.alloc | apply Kept.drewN | apply Kept.drew) | exact HK.out)).1) hk)), Kd.fresh' (Kd.R_lt (rB HO_0)) k_ hk⟩)); (case aO => exact (rB HO143)); (case aS => exact (xz bB)); (case aL => have := LMc25.out; omega); intro v145 w31 ho hb hg hat; rw [← Ny144.out] at ho; have n0_ := xm (Kd.R_after (ok := (fun k_ => (P0_ k_ ∨ w.heap.size ≤ k_))) (rB HO_0) hg hat); have n1_ := xm (hb); have n2_ := xm (Kept.of_grown (S := (fun k_ => P0_ k_)) hg (by repeat (first | (with_reducible first | exact HK.out | apply Kept.alloc | apply Kept.drewN | apply Kept.drew) | exact HK.out)) (fun k_ e_ => (HO143.out.1 k_ e_).1)); have n3_ := xm ((show Kd.C (Kd.int .i64) w31 Ao6 y137.length y137 from by rw [Ny137.out]; exact Kd.C_take (m := (x5_1 : Int).toNat) ((Kd.R_reads' (Kd.R_after (ok := (fun k_ => (P0_ k_ ∨ w.heap.size ≤ k_))) (rB HO_0) hg hat)).2.2) KL29.out)); have n4_ := xm (ho); revert n0_ n1_ n2_ n3_ n4_; clear HO_0 HB HK HR140 HO143; intro HO_0 HB HK HR140 HO146; clear ho hb hg hat; have q32 : (x5_1 : Int) ≤ ((l0.length : Int) : Int) := of_decide_eq_true aB; obtain ⟨i032, hi032, _, hsz32, _⟩ := info_parts info3; have hroom32 : l0.length ≤ co6 := (Kd.R_reads' HO_0.out).2.1; have hC32 : Kd.C (Kd.int .i64) _ Ao6 l0.length l0 := (Kd.R_reads' HO_0.out).2.2; have q032 : (0 : Int) ≤ (x5_1 : Int) := of_decide_eq_true aB; have hcut32 := cut_from (P := Try.prog) 23 3 .i64 Try.underlying23 hi032 1 hsz32 Ao6 l0.length co6 x5_1 q032 q32; have hr32 := Kd.C_drop (m := (x5_1 : Int).toNat) (c := co6) hC32 (by omega) hroom32; obtain ⟨A32, hA32⟩ : ∃ A1, A1 = (if co6 = (x5_1 : Int).toNat then Ao6 else (Ao6 : Option Addr).map (·.add ((x5_1 : Int).toNat * 1))) := ⟨_, rfl⟩; obtain ⟨c32, hc32⟩ : ∃ c1, c1 = co6 - (x5_1 : Int).toNat := ⟨_, rfl⟩; have hy32 : y147.length = l0.length - (x5_1 : Int).toNat := (by rw [Ny147.out, List.length_drop] <;> omega); rw [show (l0).drop (x5_1 : Int).toNat = y147 from Ny147.out.symm] at hr32; replace hr32 : Kd.C (Kd.int .i64) _ A32 y147.length y147 := (by rw [hA32]; exact hr32); rw [← hy32, ← hA32, ← hc32] at hcut32; have HR150 := xm hr32; have HC150 := xm (show y147.length ≤ c32 from by rw [hy32, hc32]; exact Nat.sub_le_sub_right hroom32 _); clear hr32 hC32 hroom32 hi032 hsz32 hc32; have KY32 := xm hy32; have KA32 := xm hA32; clear hy32 hA32; have KL32 := xm (show (x5_1 : Int).toNat ≤ l0.length from by omega); replace q32 := eq_true q32) | ((with_reducible refine gate_builtin (b := .append) (xs := #[.tmp 34, .tmp 37]) rfl ?_); at_builtin; refine Kd.R_append_rows (Kd.int .i64) (w0 := w0) w0.heap.size rfl (.tmp 34) (.tmp 37) 23 3 (.int .i64 0) 8 rfl Try.underlying23 info3 rfl (by decide) (by omega) v145 y144 y147 _ _ _ (fun k_ => (P0_ k_ ∨ w.heap.size ≤ k_) ∧ some k_ ≠ (.slice Ao6 l0.length co6 : Value).ownBlock) (fun _ => False) rfl rfl ?aO ?aR (fun _ _ h => h) (fun _ h => h.elim) ?aF ?aB ?aS ?aL ?_; (case aR => repeat (first | exact (by repeat (first | (with_reducible exact HR150.out) | (with_reducible refine Kd.C_alloc ?_ _) | (with_reducible refine Kd.C_drewN ?_ _) | (with_reducible refine Kd.C_drew ?_) | exact HR150.out)) | (with_reducible refine Kd.C_alloc ?_ _) | (with_reducible refine Kd.C_drewN ?_ _) | (with_reducible refine Kd.C_drew ?_))); (case aB => exact bB); (case aF => exact (fun k_ hk => ⟨(.inr (Nat.le_trans (by first | exact HK.out.1 | exact (show Kept w _ (fun k_ => P0_ k_) from by repeat (first | (with_reducible first | exact HK.out | apply Kept.alloc | apply Kept.drewN | apply Kept.drew) | exact HK.out)).1) hk)), Kd.fresh' (Kd.R_lt (rB HO_0)) k_ hk⟩)); (case aO => exact (rB HO146)); (case aS => exact (xz bB)); (case aL => have := LMc28.out; omega); intro v152 w33 ho hb hg hat; rw [← Ny151.out] at ho; have n0_ := xm (Kd.R_after (ok := (fun k_ => (P0_ k_ ∨ w.heap.size ≤ k_))) (rB HO_0) hg hat); have n1_ := xm (hb); have n2_ := xm (Kept.of_grown (S := (fun k_ => P0_ k_)) hg (by repeat (first | (with_reducible first | exact HK.out | apply Kept.alloc | apply Kept.drewN | apply Kept.drew) | exact HK.out)) (fun k_ e_ => (HO146.out.1 k_ e_).1)); have n3_ := xm ((show Kd.C (Kd.int .i64) w33 Ao6 y137.length y137 from by rw [Ny137.out]; exact Kd.C_take (m := (x5_1 : Int).toNat) ((Kd.R_reads' (Kd.R_after (ok := (fun k_ => (P0_ k_ ∨ w.heap.size ≤ k_))) (rB HO_0) hg hat)).2.2) KL29.out)); have n4_ := xm ((show Kd.C (Kd.int .i64) w33 A32 y147.length y147 from by rw [Ny147.out, KA32.out]; exact Kd.C_drop (m := (x5_1 : Int).toNat) (c := co6) ((Kd.R_reads' (Kd.R_after (ok := (fun k_ => (P0_ k_ ∨ w.heap.size ≤ k_))) (rB HO_0) hg hat)).2.2) KL32.out ((Kd.R_reads' (Kd.R_after (ok := (fun k_ => (P0_ k_ ∨ w.heap.size ≤ k_))) (rB HO_0) hg hat)).2.1))); have n5_ := xm (ho); revert n0_ n1_ n2_ n3_ n4_ n5_; clear HO_0 HB HK HR140 HR150 HO146; intro HO_0 HB HK HR140 HR150 HO153; clear ho hb hg hat))
          go_ret
          exact ⟨_, eB, by (with_reducible repeat (first | apply Kd.R_alloc | apply Kd.R_drewN | apply Kd.R_drew)); exact Kd.R_mono HO153.out (fun _ hk => hk.1), bG, by repeat (first | (with_reducible first | exact HK.out | apply Kept.alloc | apply Kept.drewN | apply Kept.drew) | exact HK.out)⟩
         ·rw [if_neg c28] at H
          exact absurd H (by simp)
        ·rw [if_neg c25] at H
         exact absurd H (by simp)
       ·rw [if_neg c24] at H
        exact absurd H (by simp)
      ·rw [if_neg c23] at H
       exact absurd H (by simp)
     ·rw [if_neg c22] at H
      exact absurd H (by simp)

end Go.Proofs.Ytaddemalepndfah.G
