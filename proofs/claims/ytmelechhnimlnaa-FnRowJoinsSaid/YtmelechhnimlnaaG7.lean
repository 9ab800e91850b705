/- Written by a program of this claim's own, out of the translation: functions of the program as plain functions, and that the calls answer as these. No conditions. -/
import Derived.Test.YtmelechhnimlnaaG0
namespace Go.Proofs.Ytmelechhnimlnaa.G
open Go.RowKit Go.Proofs.Ytmelechhnimlnaa.X Go.Proofs.YtmelechhnimlnaaW.PrintWords Go.Proofs.YtmelechhnimlnaaW.PrintLast Go.Proofs.YtmelechhnimlnaaW.PrintMore
attribute [local go_sem] max2_int min2_int max_two min_two max_three min_three max_four min_four   -- for this text's walks alone
set_option linter.unusedVariables false
set_option linter.unusedSimpArgs false

/-! ### spec_l1In: function 38 -/
def spec_l1In.f (a0 : Int) (a1 : Int) (a2 : Int) : Option (Bool) := if a0 ≥ a1 then (some (decide (a0 ≤ a2))) else (some false)
set_option maxHeartbeats 8000000 in
set_option maxRecDepth 100000 in
theorem spec_l1In.calls (a0 : Int) (a1 : Int) (a2 : Int) (r : Bool) (w : World) (h : spec_l1In.f a0 a1 a2 = some r) :
  Calls Try.prog 38 #[.int .i64 a0, .int .i64 a1, .int .i64 a2] w fun e w' => e = .returned (.bool r) ∧ Drawn0 w w' := by
 have H : (if a0 ≥ a1 then (some (decide (a0 ≤ a2))) else (some false)) = some r := h
 clear h
 by_cases c4 : a0 ≥ a1
 ·rw [if_pos c4] at H
  have c4b0 : decide (a1 ≤ a0) = true := decide_eq_true c4
  clear c4
  obtain rfl := Option.some.inj H
  go_enter Try.func38, Try.ntmps38
  go_wp2
  go_ret
  exact ⟨sB, dB⟩
 ·rw [if_neg c4] at H
  have c4b0 : decide (a1 ≤ a0) = false := decide_eq_false c4
  clear c4
  obtain rfl := Option.some.inj H
  go_enter Try.func38, Try.ntmps38
  go_wp2
  go_ret
  exact ⟨sB, dB⟩

/-! ### spec_GoodRow: function 17 -/
def spec_GoodRow.l0 : Nat → List Int → Int → Int → List Int → Option (Bool)
 | 0, _, _, _, _ => none
 | k + 1, x6, x7, x8, x241000 => if x8 < x7 then (if 0 ≤ x8 then (if x8 < (x6.length : Int) then ((spec_l1In.f (rd x6 x8) (-100000) 100000).bind fun t242 => (if t242 = true then (spec_GoodRow.l0 k x6 x7 (wrap64 (x8 + 1)) x241000) else (some false))) else (none)) else (none)) else (some (decide ((x241000.length : Int) ≤ 6)))
def spec_GoodRow.f (k : Nat) (l0_0 : List Int) : Option (Bool) := spec_GoodRow.l0 k l0_0 (l0_0.length : Int) 0 l0_0
theorem spec_GoodRow.mono_l : ∀ k, (∀ y0 y1 y2 y3, LeO (spec_GoodRow.l0 k y0 y1 y2 y3) (spec_GoodRow.l0 (k + 1) y0 y1 y2 y3))
 | 0 => fun _ _ _ _ r h => by simp [spec_GoodRow.l0] at h
 | k + 1 => by
  have ih0 := spec_GoodRow.mono_l k
  ·intro y0 y1 y2 y3
   unfold spec_GoodRow.l0
   repeat' first
   | (with_reducible exact ih0 _ _ _ _)
   | (with_reducible exact LeO.refl _)
   | (with_reducible exact LeO.none _)
   | (with_reducible refine LeO.ite ?_ ?_)
   | (with_reducible refine LeO.bind ?_ (fun _ => ?_))
   | exact ih0 _ _ _ _
   | exact LeO.none _
   | refine LeO.ite ?_ ?_
   | refine LeO.bind ?_ (fun _ => ?_)
theorem spec_GoodRow.mono : ∀ a0 k, LeO (spec_GoodRow.f k a0) (spec_GoodRow.f (k + 1) a0) := by
 intro a0 k
 have ih0 := spec_GoodRow.mono_l k
 unfold spec_GoodRow.f
 repeat' first
   | (with_reducible exact ih0 _ _ _ _)
   | (with_reducible exact LeO.refl _)
   | (with_reducible exact LeO.none _)
   | (with_reducible refine LeO.ite ?_ ?_)
   | (with_reducible refine LeO.bind ?_ (fun _ => ?_))
   | exact ih0 _ _ _ _
   | exact LeO.none _
   | refine LeO.ite ?_ ?_
   | refine LeO.bind ?_ (fun _ => ?_)
set_option maxHeartbeats 8000000 in
set_option maxRecDepth 100000 in
theorem spec_GoodRow.calls (k : Nat) (A0_0 : Option Addr) (c0_0 : Nat) (l0_0 : List Int) (r : Bool) (w : World) (hr0_0 : Kd.C (Kd.int .i64) w A0_0 l0_0.length l0_0) (hc0_0 : l0_0.length ≤ c0_0) (h : spec_GoodRow.f k l0_0 = some r) :
  Calls Try.prog 17 #[.agg #[.slice A0_0 l0_0.length c0_0]] w fun e w' => e = .returned (.bool r) ∧ Below w.heap.size w w' := by
 have hu25 := Try.underlying25
 have HR0_0 := xm hr0_0
 have HC0_0 := xm hc0_0
 clear hr0_0 hc0_0
 have HB := xm (Below.refl w.heap.size w)
 have H : (spec_GoodRow.l0 k l0_0 (l0_0.length : Int) 0 l0_0) = some r := h
 clear h
 have H' := xm H
 clear H
 go_enter Try.func17, Try.ntmps17
 go_wp2_with (first | ((with_reducible refine gate_dst (N := 1) rfl ?_); refine box_event ?hg (N := 1) ?hd (cs := #[.slice A0_0 l0_0.length c0_0]) (t := 25) ?hr ?_; (case hd => rfl); (case hg => rfl); (case hr => exact zB); intro gb240 hg w2 hbox hb; have n0_ := xm (below_step bB hb); have n1_ := xm (hbox); have n2_ := xm ((by rw [hg]; exact (xz bB) : w.heap.size ≤ gb240)); have n3_ := xm ((by rw [hg]; exact (xz bB) : w.heap.size ≤ gb240)); revert n0_ n1_ n2_ n3_; clear HB; intro HB BK240 GW240 GE240; clear hb hbox hg; obtain ⟨hcz3_0, hfz3_0⟩ := cz1 BK240.out))
 go_loopg [8] k (fun kq v8 w' => ∃ (x8_1 : Int), v8 = .int .i64 x8_1 ∧ Aside0 (spec_GoodRow.l0 kq l0_0 (l0_0.length : Int) x8_1 l0_0 = some r) ∧ Aside0 (kq ≤ k) ∧ Aside0 (w'.heap[gb240]? = some (.cells #[(.slice A0_0 l0_0.length c0_0)] 25 (0, 0))) ∧ Aside0 (Below w.heap.size w w'))
 case atStart => exact ⟨(0), sB, H', ⟨Nat.le_refl _⟩, ⟨kB BK240⟩, ⟨bG⟩⟩
 case round =>
  clear H'
  try clear c1
  try clear p2
  try clear hcz3_0 hfz3_0
  obtain ⟨x8_1, rfl, HA, HK1, BK240, HB⟩ := hrel
  cases gk with
  | zero => exact absurd HA.out (by simp [spec_GoodRow.l0])
  | succ k1 =>
   have H := HA.out
   clear HA
   simp only [spec_GoodRow.l0] at H
   by_cases c4 : x8_1 < (l0_0.length : Int)
   ·rw [if_pos c4] at H
    have c4b0 : decide (x8_1 < (l0_0.length : Int)) = true := decide_eq_true c4
    clear c4
    by_cases c5 : 0 ≤ x8_1
    ·rw [if_pos c5] at H
     have c5b0 : decide (0 ≤ x8_1) = true := decide_eq_true c5
     clear c5
     by_cases c6 : x8_1 < (l0_0.length : Int)
     ·rw [if_pos c6] at H
      have c6b0 : decide (x8_1 < (l0_0.length : Int)) = true := decide_eq_true c6
      clear c6
      replace H := Option.bind_eq_some_iff.mp H
      obtain ⟨t242, A70, H⟩ := H
      replace H : (if t242 = true then (spec_GoodRow.l0 k1 l0_0 (l0_0.length : Int) (wrap64 (x8_1 + 1)) l0_0) else (some false)) = some r := H
      have A7 := xm A70
      clear A70
      by_cases c8 : t242 = true
      ·subst c8
       have H1 : (spec_GoodRow.l0 k1 l0_0 (l0_0.length : Int) (wrap64 (x8_1 + 1)) l0_0) = some r := by first | (with_reducible rfl) | (rw [if_pos rfl] at H; exact H)
       clear H
       have H := H1
       clear H1
       have H' := xm H
       clear H
       have p241 : 0 ≤ (x8_1 : Int) := of_decide_eq_true aB
       have q241 : x8_1 < (l0_0.length : Int) := of_decide_eq_true aB
       obtain ⟨ad241, e241, hx241_0⟩ := Kd.at_int HR0_0.out x8_1 p241 q241
       cases e241
       replace hx241_0 := hU hx241_0
       replace p241 := eq_true p241
       replace q241 := eq_true q241
       go_wp2_with (first | ((with_reducible refine gate_callee (f := 38) rfl ?_); refine goesL_ (some 13) rfl rfl Try.func38 (by kernel_rfl) rfl #[.int .i64 (rd l0_0 x8_1), .int .i64 (-100000), .int .i64 100000] rfl mB ?_; (with_reducible refine (spec_l1In.calls (rd l0_0 x8_1) (-100000) 100000 true _ A7.out).mono ?_); rintro e w' ⟨rfl, ⟨nd, rfl⟩⟩; refine ⟨_, rfl, ?_⟩))
       go_roundg k1
       case measure => have := HK1.out; omega
       case rel => exact ⟨(wrap64 (x8_1 + 1)), sB, H', ⟨by have := HK1.out; omega⟩, ⟨kB BK240⟩, ⟨bG⟩⟩
      ·replace c8 := Bool.eq_false_iff.mpr c8
       subst c8
       have H1 : (some false) = some r := by first | (with_reducible rfl) | (rw [if_neg (show ¬ (false = true) by decide)] at H; exact H)
       clear H
       have H := H1
       clear H1
       obtain rfl := Option.some.inj H
       have p241 : 0 ≤ (x8_1 : Int) := of_decide_eq_true aB
       have q241 : x8_1 < (l0_0.length : Int) := of_decide_eq_true aB
       obtain ⟨ad241, e241, hx241_0⟩ := Kd.at_int HR0_0.out x8_1 p241 q241
       cases e241
       replace hx241_0 := hU hx241_0
       replace p241 := eq_true p241
       replace q241 := eq_true q241
       go_wp2_with (first | ((with_reducible refine gate_callee (f := 38) rfl ?_); refine goesL_ (some 13) rfl rfl Try.func38 (by kernel_rfl) rfl #[.int .i64 (rd l0_0 x8_1), .int .i64 (-100000), .int .i64 100000] rfl mB ?_; (with_reducible refine (spec_l1In.calls (rd l0_0 x8_1) (-100000) 100000 false _ A7.out).mono ?_); rintro e w' ⟨rfl, ⟨nd, rfl⟩⟩; refine ⟨_, rfl, ?_⟩))
       go_ret
       exact ⟨eB, bG⟩
     ·rw [if_neg c6] at H
      exact absurd H (by simp)
    ·rw [if_neg c5] at H
     exact absurd H (by simp)
   ·rw [if_neg c4] at H
    have c4b0 : decide (x8_1 < (l0_0.length : Int)) = false := decide_eq_false c4
    clear c4
    obtain rfl := Option.some.inj H
    obtain ⟨hcz9_0, hfz9_0⟩ := cz1 BK240.out
    go_wp2
    go_ret
    exact ⟨eB, bG⟩

/-! ### spec_l1Pairs: function 18 -/
def spec_l1Pairs.l0 : Nat → List (List Int) → Int → Int → List (List Int) → Int → Int → Option (Bool)
 | 0, _, _, _, _, _, _ => none
 | k + 1, x0, x1, x2, x9, x10, x11 => if x11 < x10 then (if 0 ≤ x11 then (if x11 < (x9.length : Int) then (if ((rd_L2 x9 x11).length : Int) = 2 then (if 0 < ((rd_L2 x9 x11).length : Int) then (if (rd (rd_L2 x9 x11) 0) < 0 then (some false) else (if (rd (rd_L2 x9 x11) 0) ≥ x1 then (some false) else (if 1 < ((rd_L2 x9 x11).length : Int) then (if (rd (rd_L2 x9 x11) 1) < 0 then (some false) else (if (rd (rd_L2 x9 x11) 1) ≥ x2 then (some false) else (spec_l1Pairs.l0 k x0 x1 x2 x9 x10 (wrap64 (x11 + 1))))) else (none)))) else (none)) else (some false)) else (none)) else (none)) else (some (decide ((x0.length : Int) ≤ 6)))
def spec_l1Pairs.f (k : Nat) (l0 : List (List Int)) (a1 : Int) (a2 : Int) : Option (Bool) := spec_l1Pairs.l0 k l0 a1 a2 l0 (l0.length : Int) 0
theorem spec_l1Pairs.mono_l : ∀ k, (∀ y0 y1 y2 y3 y4 y5, LeO (spec_l1Pairs.l0 k y0 y1 y2 y3 y4 y5) (spec_l1Pairs.l0 (k + 1) y0 y1 y2 y3 y4 y5))
 | 0 => fun _ _ _ _ _ _ r h => by simp [spec_l1Pairs.l0] at h
 | k + 1 => by
  have ih0 := spec_l1Pairs.mono_l k
  ·intro y0 y1 y2 y3 y4 y5
   unfold spec_l1Pairs.l0
   repeat' first
   | (with_reducible exact ih0 _ _ _ _ _ _)
   | (with_reducible exact LeO.refl _)
   | (with_reducible exact LeO.none _)
   | (with_reducible refine LeO.ite ?_ ?_)
   | (with_reducible refine LeO.bind ?_ (fun _ => ?_))
   | exact ih0 _ _ _ _ _ _
   | exact LeO.none _
   | refine LeO.ite ?_ ?_
   | refine LeO.bind ?_ (fun _ => ?_)
theorem spec_l1Pairs.mono : ∀ a0 a1 a2 k, LeO (spec_l1Pairs.f k a0 a1 a2) (spec_l1Pairs.f (k + 1) a0 a1 a2) := by
 intro a0 a1 a2 k
 have ih0 := spec_l1Pairs.mono_l k
 unfold spec_l1Pairs.f
 repeat' first
   | (with_reducible exact ih0 _ _ _ _ _ _)
   | (with_reducible exact LeO.refl _)
   | (with_reducible exact LeO.none _)
   | (with_reducible refine LeO.ite ?_ ?_)
   | (with_reducible refine LeO.bind ?_ (fun _ => ?_))
   | exact ih0 _ _ _ _ _ _
   | exact LeO.none _
   | refine LeO.ite ?_ ?_
   | refine LeO.bind ?_ (fun _ => ?_)
set_option maxHeartbeats 8000000 in
set_option maxRecDepth 100000 in
theorem spec_l1Pairs.calls (k : Nat) (A0 : Option Addr) (c0 : Nat) (l0 : List (List Int)) (a1 : Int) (a2 : Int) (r : Bool) (w : World) (hr0 : Kd.C (Kd.slice 3 (Kd.int .i64)) w A0 l0.length l0) (hc0 : l0.length ≤ c0) (h : spec_l1Pairs.f k l0 a1 a2 = some r) :
  Calls Try.prog 18 #[.slice A0 l0.length c0, .int .i64 a1, .int .i64 a2] w fun e w' => e = .returned (.bool r) ∧ Drawn0 w w' := by
 have HR0 := xm hr0
 have HC0 := xm hc0
 clear hr0 hc0
 have H : (spec_l1Pairs.l0 k l0 a1 a2 l0 (l0.length : Int) 0) = some r := h
 clear h
 have H' := xm H
 clear H
 go_enter Try.func18, Try.ntmps18
 go_wp2
 go_loopg [11] k (fun kq v11 w' => ∃ (x11_1 : Int), v11 = .int .i64 x11_1 ∧ Aside0 (spec_l1Pairs.l0 kq l0 a1 a2 l0 (l0.length : Int) x11_1 = some r) ∧ Aside0 (kq ≤ k) ∧ Drawn0 w w')
 case atStart => exact ⟨(0), sB, H', ⟨Nat.le_refl _⟩, by repeat (first | exact Drawn0.refl _ | apply Drawn0.step)⟩
 case round =>
  clear H'
  try clear c1
  try clear p2
  obtain ⟨x11_1, rfl, HA, HK1, ⟨m1, rfl⟩⟩ := hrel
  cases gk with
  | zero => exact absurd HA.out (by simp [spec_l1Pairs.l0])
  | succ k1 =>
   have H := HA.out
   clear HA
   simp only [spec_l1Pairs.l0] at H
   by_cases c4 : x11_1 < (l0.length : Int)
   ·rw [if_pos c4] at H
    have c4b0 : decide (x11_1 < (l0.length : Int)) = true := decide_eq_true c4
    clear c4
    by_cases c5 : 0 ≤ x11_1
    ·rw [if_pos c5] at H
     have c5b0 : decide (0 ≤ x11_1) = true := decide_eq_true c5
     clear c5
     by_cases c6 : x11_1 < (l0.length : Int)
     ·rw [if_pos c6] at H
      have c6b0 : decide (x11_1 < (l0.length : Int)) = true := decide_eq_true c6
      clear c6
      by_cases c7 : ((rd_L2 l0 x11_1).length : Int) = 2
      ·rw [if_pos c7] at H
       have c7b0 : (((rd_L2 l0 x11_1).length : Int) == 2) = true := beq_iff_eq.mpr c7
       have c7b1 : (((rd_L2 l0 x11_1).length : Int) != 2) = false := bne_eq_false_iff_eq.mpr c7
       clear c7
       by_cases c8 : 0 < ((rd_L2 l0 x11_1).length : Int)
       ·rw [if_pos c8] at H
        have c8b0 : decide (0 < ((rd_L2 l0 x11_1).length : Int)) = true := decide_eq_true c8
        have c8b1 : decide (0 < (rd_L2 l0 x11_1).length) = true := decide_eq_true (by omega)
        clear c8
        by_cases c9 : (rd (rd_L2 l0 x11_1) 0) < 0
        ·rw [if_pos c9] at H
         have c9b0 : decide ((rd (rd_L2 l0 x11_1) 0) < 0) = true := decide_eq_true c9
         clear c9
         obtain rfl := Option.some.inj H
         have p243 : 0 ≤ (x11_1 : Int) := of_decide_eq_true aB
         have q243 : x11_1 < (l0.length : Int) := of_decide_eq_true aB
         obtain ⟨ad243, A243_0, c243_0, e243, hx243_0, hl243_0, hi243_0⟩ := at_L2 HR0.out x11_1 p243 q243
         cases e243
         have HR243_0 := xm hi243_0
         have HC243_0 := xm hl243_0
         clear hi243_0 hl243_0
         replace p243 := eq_true p243
         replace q243 := eq_true q243
         have p244 : 0 ≤ (0 : Int) := (by omega)
         have q244 : 0 < ((rd_L2 l0 x11_1).length : Int) := of_decide_eq_true aB
         obtain ⟨ad244, e244, hx244_0⟩ := Kd.at_int HR243_0.out 0 p244 q244
         cases e244
         have qi244 : (0 < (rd_L2 l0 x11_1).length) = True := eq_true (by omega)
         (try rw [show ((0 : Int)).toNat = 0 from rfl] at hx244_0)
         (try rw [Addr.add_zero'] at hx244_0)
         replace p244 := eq_true p244
         replace q244 := eq_true q244
         go_wp2
         go_ret
         exact ⟨sB, dB⟩
        ·rw [if_neg c9] at H
         have c9b0 : decide ((rd (rd_L2 l0 x11_1) 0) < 0) = false := decide_eq_false c9
         clear c9
         by_cases c10 : (rd (rd_L2 l0 x11_1) 0) ≥ a1
         ·rw [if_pos c10] at H
          have c10b0 : decide (a1 ≤ (rd (rd_L2 l0 x11_1) 0)) = true := decide_eq_true c10
          clear c10
          obtain rfl := Option.some.inj H
          have p243 : 0 ≤ (x11_1 : Int) := of_decide_eq_true aB
          have q243 : x11_1 < (l0.length : Int) := of_decide_eq_true aB
          obtain ⟨ad243, A243_0, c243_0, e243, hx243_0, hl243_0, hi243_0⟩ := at_L2 HR0.out x11_1 p243 q243
          cases e243
          have HR243_0 := xm hi243_0
          have HC243_0 := xm hl243_0
          clear hi243_0 hl243_0
          replace p243 := eq_true p243
          replace q243 := eq_true q243
          have p244 : 0 ≤ (0 : Int) := (by omega)
          have q244 : 0 < ((rd_L2 l0 x11_1).length : Int) := of_decide_eq_true aB
          obtain ⟨ad244, e244, hx244_0⟩ := Kd.at_int HR243_0.out 0 p244 q244
          cases e244
          have qi244 : (0 < (rd_L2 l0 x11_1).length) = True := eq_true (by omega)
          (try rw [show ((0 : Int)).toNat = 0 from rfl] at hx244_0)
          (try rw [Addr.add_zero'] at hx244_0)
          replace p244 := eq_true p244
          replace q244 := eq_true q244
          have p245 : 0 ≤ (0 : Int) := (by omega)
          have q245 : 0 < ((rd_L2 l0 x11_1).length : Int) := of_decide_eq_true aB
          obtain ⟨ad245, e245, hx245_0⟩ := Kd.at_int HR243_0.out 0 p245 q245
          obtain rfl : ad244 = ad245 := (by injection e245)
          have qi245 : (0 < (rd_L2 l0 x11_1).length) = True := eq_true (by omega)
          (try rw [show ((0 : Int)).toNat = 0 from rfl] at hx245_0)
          (try rw [Addr.add_zero'] at hx245_0)
          replace p245 := eq_true p245
          replace q245 := eq_true q245
          go_wp2
          go_ret
          exact ⟨sB, dB⟩
         ·rw [if_neg c10] at H
          have c10b0 : decide (a1 ≤ (rd (rd_L2 l0 x11_1) 0)) = false := decide_eq_false c10
          clear c10
          by_cases c11 : 1 < ((rd_L2 l0 x11_1).length : Int)
          ·rw [if_pos c11] at H
           have c11b0 : decide (1 < ((rd_L2 l0 x11_1).length : Int)) = true := decide_eq_true c11
           have c11b1 : decide (1 < (rd_L2 l0 x11_1).length) = true := decide_eq_true (by omega)
           clear c11
           by_cases c12 : (rd (rd_L2 l0 x11_1) 1) < 0
           ·rw [if_pos c12] at H
            have c12b0 : decide ((rd (rd_L2 l0 x11_1) 1) < 0) = true := decide_eq_true c12
            clear c12
            obtain rfl := Option.some.inj H
            have p243 : 0 ≤ (x11_1 : Int) := of_decide_eq_true aB
            have q243 : x11_1 < (l0.length : Int) := of_decide_eq_true aB
            obtain ⟨ad243, A243_0, c243_0, e243, hx243_0, hl243_0, hi243_0⟩ := at_L2 HR0.out x11_1 p243 q243
            cases e243
            have HR243_0 := xm hi243_0
            have HC243_0 := xm hl243_0
            clear hi243_0 hl243_0
            replace p243 := eq_true p243
            replace q243 := eq_true q243
            have p244 : 0 ≤ (0 : Int) := (by omega)
            have q244 : 0 < ((rd_L2 l0 x11_1).length : Int) := of_decide_eq_true aB
            obtain ⟨ad244, e244, hx244_0⟩ := Kd.at_int HR243_0.out 0 p244 q244
            cases e244
            have qi244 : (0 < (rd_L2 l0 x11_1).length) = True := eq_true (by omega)
            (try rw [show ((0 : Int)).toNat = 0 from rfl] at hx244_0)
            (try rw [Addr.add_zero'] at hx244_0)
            replace p244 := eq_true p244
            replace q244 := eq_true q244
            have p245 : 0 ≤ (0 : Int) := (by omega)
            have q245 : 0 < ((rd_L2 l0 x11_1).length : Int) := of_decide_eq_true aB
            obtain ⟨ad245, e245, hx245_0⟩ := Kd.at_int HR243_0.out 0 p245 q245
            obtain rfl : ad244 = ad245 := (by injection e245)
            have qi245 : (0 < (rd_L2 l0 x11_1).length) = True := eq_true (by omega)
            (try rw [show ((0 : Int)).toNat = 0 from rfl] at hx245_0)
            (try rw [Addr.add_zero'] at hx245_0)
            replace p245 := eq_true p245
            replace q245 := eq_true q245
            have p246 : 0 ≤ (1 : Int) := (by omega)
            have q246 : 1 < ((rd_L2 l0 x11_1).length : Int) := of_decide_eq_true aB
            obtain ⟨ad246, e246, hx246_0⟩ := Kd.at_int HR243_0.out 1 p246 q246
            obtain rfl : ad244 = ad246 := (by injection e246)
            (try simp only [show (1 : Int).toNat = 1 from rfl, Nat.reduceMul, Nat.reduceEqDiff, Go.Addr.add, ↓reduceIte] at hx246_0)
            have qi246 : (1 < (rd_L2 l0 x11_1).length) = True := eq_true (by omega)
            (try rw [show ((1 : Int)).toNat = 1 from rfl] at hx246_0)
            replace p246 := eq_true p246
            replace q246 := eq_true q246
            go_wp2
            go_ret
            exact ⟨sB, dB⟩
           ·rw [if_neg c12] at H
            have c12b0 : decide ((rd (rd_L2 l0 x11_1) 1) < 0) = false := decide_eq_false c12
            clear c12
            by_cases c13 : (rd (rd_L2 l0 x11_1) 1) ≥ a2
            ·rw [if_pos c13] at H
             have c13b0 : decide (a2 ≤ (rd (rd_L2 l0 x11_1) 1)) = true := decide_eq_true c13
             clear c13
             obtain rfl := Option.some.inj H
             have p243 : 0 ≤ (x11_1 : Int) := of_decide_eq_true aB
             have q243 : x11_1 < (l0.length : Int) := of_decide_eq_true aB
             obtain ⟨ad243, A243_0, c243_0, e243, hx243_0, hl243_0, hi243_0⟩ := at_L2 HR0.out x11_1 p243 q243
             cases e243
             have HR243_0 := xm hi243_0
             have HC243_0 := xm hl243_0
             clear hi243_0 hl243_0
             replace p243 := eq_true p243
             replace q243 := eq_true q243
             have p244 : 0 ≤ (0 : Int) := (by omega)
             have q244 : 0 < ((rd_L2 l0 x11_1).length : Int) := of_decide_eq_true aB
             obtain ⟨ad244, e244, hx244_0⟩ := Kd.at_int HR243_0.out 0 p244 q244
             cases e244
             have qi244 : (0 < (rd_L2 l0 x11_1).length) = True := eq_true (by omega)
             (try rw [show ((0 : Int)).toNat = 0 from rfl] at hx244_0)
             (try rw [Addr.add_zero'] at hx244_0)
             replace p244 := eq_true p244
             replace q244 := eq_true q244
             have p245 : 0 ≤ (0 : Int) := (by omega)
             have q245 : 0 < ((rd_L2 l0 x11_1).length : Int) := of_decide_eq_true aB
             obtain ⟨ad245, e245, hx245_0⟩ := Kd.at_int HR243_0.out 0 p245 q245
             obtain rfl : ad244 = ad245 := (by injection e245)
             have qi245 : (0 < (rd_L2 l0 x11_1).length) = True := eq_true (by omega)
             (try rw [show ((0 : Int)).toNat = 0 from rfl] at hx245_0)
             (try rw [Addr.add_zero'] at hx245_0)
             replace p245 := eq_true p245
             replace q245 := eq_true q245
             have p246 : 0 ≤ (1 : Int) := (by omega)
             have q246 : 1 < ((rd_L2 l0 x11_1).length : Int) := of_decide_eq_true aB
             obtain ⟨ad246, e246, hx246_0⟩ := Kd.at_int HR243_0.out 1 p246 q246
             obtain rfl : ad244 = ad246 := (by injection e246)
             (try simp only [show (1 : Int).toNat = 1 from rfl, Nat.reduceMul, Nat.reduceEqDiff, Go.Addr.add, ↓reduceIte] at hx246_0)
             have qi246 : (1 < (rd_L2 l0 x11_1).length) = True := eq_true (by omega)
             (try rw [show ((1 : Int)).toNat = 1 from rfl] at hx246_0)
             replace p246 := eq_true p246
             replace q246 := eq_true q246
             have p247 : 0 ≤ (1 : Int) := (by omega)
             have q247 : 1 < ((rd_L2 l0 x11_1).length : Int) := of_decide_eq_true aB
             obtain ⟨ad247, e247, hx247_0⟩ := Kd.at_int HR243_0.out 1 p247 q247
             obtain rfl : ad244 = ad247 := (by injection e247)
             (try simp only [show (1 : Int).toNat = 1 from rfl, Nat.reduceMul, Nat.reduceEqDiff, Go.Addr.add, ↓reduceIte] at hx247_0)
             have qi247 : (1 < (rd_L2 l0 x11_1).length) = True := eq_true (by omega)
             (try rw [show ((1 : Int)).toNat = 1 from rfl] at hx247_0)
             replace p247 := eq_true p247
             replace q247 := eq_true q247
             go_wp2
             go_ret
             exact ⟨sB, dB⟩
            ·rw [if_neg c13] at H
             have c13b0 : decide (a2 ≤ (rd (rd_L2 l0 x11_1) 1)) = false := decide_eq_false c13
             clear c13
             have H' := xm H
             clear H
             have p243 : 0 ≤ (x11_1 : Int) := of_decide_eq_true aB
             have q243 : x11_1 < (l0.length : Int) := of_decide_eq_true aB
             obtain ⟨ad243, A243_0, c243_0, e243, hx243_0, hl243_0, hi243_0⟩ := at_L2 HR0.out x11_1 p243 q243
             cases e243
             have HR243_0 := xm hi243_0
             have HC243_0 := xm hl243_0
             clear hi243_0 hl243_0
             replace p243 := eq_true p243
             replace q243 := eq_true q243
             have p244 : 0 ≤ (0 : Int) := (by omega)
             have q244 : 0 < ((rd_L2 l0 x11_1).length : Int) := of_decide_eq_true aB
             obtain ⟨ad244, e244, hx244_0⟩ := Kd.at_int HR243_0.out 0 p244 q244
             cases e244
             have qi244 : (0 < (rd_L2 l0 x11_1).length) = True := eq_true (by omega)
             (try rw [show ((0 : Int)).toNat = 0 from rfl] at hx244_0)
             (try rw [Addr.add_zero'] at hx244_0)
             replace p244 := eq_true p244
             replace q244 := eq_true q244
             have p245 : 0 ≤ (0 : Int) := (by omega)
             have q245 : 0 < ((rd_L2 l0 x11_1).length : Int) := of_decide_eq_true aB
             obtain ⟨ad245, e245, hx245_0⟩ := Kd.at_int HR243_0.out 0 p245 q245
             obtain rfl : ad244 = ad245 := (by injection e245)
             have qi245 : (0 < (rd_L2 l0 x11_1).length) = True := eq_true (by omega)
             (try rw [show ((0 : Int)).toNat = 0 from rfl] at hx245_0)
             (try rw [Addr.add_zero'] at hx245_0)
             replace p245 := eq_true p245
             replace q245 := eq_true q245
             have p246 : 0 ≤ (1 : Int) := (by omega)
             have q246 : 1 < ((rd_L2 l0 x11_1).length : Int) := of_decide_eq_true aB
             obtain ⟨ad246, e246, hx246_0⟩ := Kd.at_int HR243_0.out 1 p246 q246
             obtain rfl : ad244 = ad246 := (by injection e246)
             (try simp only [show (1 : Int).toNat = 1 from rfl, Nat.reduceMul, Nat.reduceEqDiff, Go.Addr.add, ↓reduceIte] at hx246_0)
             have qi246 : (1 < (rd_L2 l0 x11_1).length) = True := eq_true (by omega)
             (try rw [show ((1 : Int)).toNat = 1 from rfl] at hx246_0)
             replace p246 := eq_true p246
             replace q246 := eq_true q246
             have p247 : 0 ≤ (1 : Int) := (by omega)
             have q247 : 1 < ((rd_L2 l0 x11_1).length : Int) := of_decide_eq_true aB
             obtain ⟨ad247, e247, hx247_0⟩ := Kd.at_int HR243_0.out 1 p247 q247
             obtain rfl : ad244 = ad247 := (by injection e247)
             (try simp only [show (1 : Int).toNat = 1 from rfl, Nat.reduceMul, Nat.reduceEqDiff, Go.Addr.add, ↓reduceIte] at hx247_0)
             have qi247 : (1 < (rd_L2 l0 x11_1).length) = True := eq_true (by omega)
             (try rw [show ((1 : Int)).toNat = 1 from rfl] at hx247_0)
             replace p247 := eq_true p247
             replace q247 := eq_true q247
             go_wp2
             go_roundg k1
             case measure => have := HK1.out; omega
             case rel => exact ⟨(wrap64 (x11_1 + 1)), sB, H', ⟨by have := HK1.out; omega⟩, by repeat (first | exact Drawn0.refl _ | apply Drawn0.step)⟩
          ·rw [if_neg c11] at H
           exact absurd H (by simp)
       ·rw [if_neg c8] at H
        exact absurd H (by simp)
      ·rw [if_neg c7] at H
       have c7b0 : (((rd_L2 l0 x11_1).length : Int) == 2) = false := beq_eq_false_iff_ne.mpr c7
       have c7b1 : (((rd_L2 l0 x11_1).length : Int) != 2) = true := bne_iff_ne.mpr c7
       obtain rfl := Option.some.inj H
       have p243 : 0 ≤ (x11_1 : Int) := of_decide_eq_true aB
       have q243 : x11_1 < (l0.length : Int) := of_decide_eq_true aB
       obtain ⟨ad243, A243_0, c243_0, e243, hx243_0, hl243_0, hi243_0⟩ := at_L2 HR0.out x11_1 p243 q243
       cases e243
       have HR243_0 := xm hi243_0
       have HC243_0 := xm hl243_0
       clear hi243_0 hl243_0
       replace p243 := eq_true p243
       replace q243 := eq_true q243
       go_wp2
       go_ret
       exact ⟨sB, dB⟩
     ·rw [if_neg c6] at H
      exact absurd H (by simp)
    ·rw [if_neg c5] at H
     exact absurd H (by simp)
   ·rw [if_neg c4] at H
    have c4b0 : decide (x11_1 < (l0.length : Int)) = false := decide_eq_false c4
    clear c4
    obtain rfl := Option.some.inj H
    go_wp2
    go_ret
    exact ⟨sB, dB⟩

end Go.Proofs.Ytmelechhnimlnaa.G
