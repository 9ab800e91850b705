/- Written by a program of this claim's own, out of the translation: functions of the program as plain functions, and that the calls answer as these. No conditions. -/
import Derived.Test.YtaddemalepndfaiG0
import Derived.Test.YtaddemalepndfaiG2
namespace Go.Proofs.Ytaddemalepndfai.G
open Go.RowKit Go.Proofs.Ytaddemalepndfai.X Go.Proofs.YtaddemalepndfaiW.PrintWords Go.Proofs.YtaddemalepndfaiW.PrintLast Go.Proofs.YtaddemalepndfaiW.PrintMore
attribute [local go_sem] max2_int min2_int max_two min_two max_three min_three max_four min_four   -- for this text's walks alone
set_option linter.unusedVariables false
set_option linter.unusedSimpArgs false

/-! ### slices_Compare_Lint_int: function 29 -/
def slices_Compare_Lint_int.l0 : Nat → List Int → List Int → List Int → Int → Int → Option (Int)
 | 0, _, _, _, _, _ => none
 | k + 1, x0, x1, x9, x10, x11 => if x11 < x10 then (if 0 ≤ x11 then (if x11 < (x9.length : Int) then (if x11 ≥ (x1.length : Int) then (some 1) else (if x11 < (x1.length : Int) then ((cmp_Compare_int.f (rd x9 x11) (rd x1 x11)).bind fun t154 => (if t154 = 0 then (slices_Compare_Lint_int.l0 k x0 x1 x9 x10 (wrap64 (x11 + 1))) else (some t154))) else (none))) else (none)) else (none)) else (if (x0.length : Int) < (x1.length : Int) then (some (-1)) else (some 0))
def slices_Compare_Lint_int.f (k : Nat) (l0 : List Int) (l1 : List Int) : Option (Int) := slices_Compare_Lint_int.l0 k l0 l1 l0 (l0.length : Int) 0
theorem slices_Compare_Lint_int.mono_l : ∀ k, (∀ y0 y1 y2 y3 y4, LeO (slices_Compare_Lint_int.l0 k y0 y1 y2 y3 y4) (slices_Compare_Lint_int.l0 (k + 1) y0 y1 y2 y3 y4))
 | 0 => fun _ _ _ _ _ r h => by simp [slices_Compare_Lint_int.l0] at h
 | k + 1 => by
  have ih0 := slices_Compare_Lint_int.mono_l k
  ·intro y0 y1 y2 y3 y4
   unfold slices_Compare_Lint_int.l0
   repeat' first
   | (with_reducible exact ih0 _ _ _ _ _)
   | (with_reducible exact LeO.refl _)
   | (with_reducible exact LeO.none _)
   | (with_reducible refine LeO.ite ?_ ?_)
   | (with_reducible refine LeO.bind ?_ (fun _ => ?_))
   | exact ih0 _ _ _ _ _
   | exact LeO.none _
   | refine LeO.ite ?_ ?_
   | refine LeO.bind ?_ (fun _ => ?_)
theorem slices_Compare_Lint_int.mono : ∀ a0 a1 k, LeO (slices_Compare_Lint_int.f k a0 a1) (slices_Compare_Lint_int.f (k + 1) a0 a1) := by
 intro a0 a1 k
 have ih0 := slices_Compare_Lint_int.mono_l k
 unfold slices_Compare_Lint_int.f
 repeat' first
   | (with_reducible exact ih0 _ _ _ _ _)
   | (with_reducible exact LeO.refl _)
   | (with_reducible exact LeO.none _)
   | (with_reducible refine LeO.ite ?_ ?_)
   | (with_reducible refine LeO.bind ?_ (fun _ => ?_))
   | exact ih0 _ _ _ _ _
   | exact LeO.none _
   | refine LeO.ite ?_ ?_
   | refine LeO.bind ?_ (fun _ => ?_)
set_option maxHeartbeats 8000000 in
set_option maxRecDepth 100000 in
theorem slices_Compare_Lint_int.calls (k : Nat) (A0 : Option Addr) (c0 : Nat) (l0 : List Int) (A1 : Option Addr) (c1 : Nat) (l1 : List Int) (r : Int) (w : World) (hr0 : Kd.C (Kd.int .i64) w A0 l0.length l0) (hc0 : l0.length ≤ c0) (hr1 : Kd.C (Kd.int .i64) w A1 l1.length l1) (hc1 : l1.length ≤ c1) (h : slices_Compare_Lint_int.f k l0 l1 = some r) :
  Calls Try.prog 29 #[.slice A0 l0.length c0, .slice A1 l1.length c1] w fun e w' => e = .returned (.int .i64 r) ∧ Drawn0 w w' := by
 have HR0 := xm hr0
 have HC0 := xm hc0
 clear hr0 hc0
 have HR1 := xm hr1
 have HC1 := xm hc1
 clear hr1 hc1
 have H : (slices_Compare_Lint_int.l0 k l0 l1 l0 (l0.length : Int) 0) = some r := h
 clear h
 have H' := xm H
 clear H
 go_enter Try.func29, Try.ntmps29
 go_wp2
 go_loopg [11] k (fun kq v11 w' => ∃ (x11_1 : Int), v11 = .int .i64 x11_1 ∧ Aside0 (slices_Compare_Lint_int.l0 kq l0 l1 l0 (l0.length : Int) x11_1 = some r) ∧ Aside0 (kq ≤ k) ∧ Drawn0 w w')
 case atStart => exact ⟨(0), sB, H', ⟨Nat.le_refl _⟩, by repeat (first | exact Drawn0.refl _ | apply Drawn0.step)⟩
 case round =>
  clear H'
  try clear c1
  try clear c2
  try clear p2
  obtain ⟨x11_1, rfl, HA, HK1, ⟨m1, rfl⟩⟩ := hrel
  cases gk with
  | zero => exact absurd HA.out (by simp [slices_Compare_Lint_int.l0])
  | succ k1 =>
   have H := HA.out
   clear HA
   simp only [slices_Compare_Lint_int.l0] at H
   by_cases c3 : x11_1 < (l0.length : Int)
   ·rw [if_pos c3] at H
    have c3b0 : decide (x11_1 < (l0.length : Int)) = true := decide_eq_true c3
    clear c3
    by_cases c4 : 0 ≤ x11_1
    ·rw [if_pos c4] at H
     have c4b0 : decide (0 ≤ x11_1) = true := decide_eq_true c4
     clear c4
     by_cases c5 : x11_1 < (l0.length : Int)
     ·rw [if_pos c5] at H
      have c5b0 : decide (x11_1 < (l0.length : Int)) = true := decide_eq_true c5
      clear c5
      by_cases c6 : x11_1 ≥ (l1.length : Int)
      ·rw [if_pos c6] at H
       have c6b0 : decide ((l1.length : Int) ≤ x11_1) = true := decide_eq_true c6
       clear c6
       obtain rfl := Option.some.inj H
       have p152 : 0 ≤ (x11_1 : Int) := of_decide_eq_true aB
       have q152 : x11_1 < (l0.length : Int) := of_decide_eq_true aB
       obtain ⟨ad152, e152, hx152_0⟩ := Kd.at_int HR0.out x11_1 p152 q152
       cases e152
       replace p152 := eq_true p152
       replace q152 := eq_true q152
       go_wp2
       go_ret
       exact ⟨sB, dB⟩
      ·rw [if_neg c6] at H
       have c6b0 : decide ((l1.length : Int) ≤ x11_1) = false := decide_eq_false c6
       clear c6
       by_cases c7 : x11_1 < (l1.length : Int)
       ·rw [if_pos c7] at H
        have c7b0 : decide (x11_1 < (l1.length : Int)) = true := decide_eq_true c7
        clear c7
        replace H := Option.bind_eq_some_iff.mp H
        obtain ⟨t154, A80, H⟩ := H
        replace H : (if t154 = 0 then (slices_Compare_Lint_int.l0 k1 l0 l1 l0 (l0.length : Int) (wrap64 (x11_1 + 1))) else (some t154)) = some r := H
        have A8 := xm A80
        clear A80
        by_cases c9 : t154 = 0
        ·rw [if_pos c9] at H
         have c9b0 : (t154 == 0) = true := beq_iff_eq.mpr c9
         have c9b1 : (t154 != 0) = false := bne_eq_false_iff_eq.mpr c9
         clear c9
         have H' := xm H
         clear H
         have p152 : 0 ≤ (x11_1 : Int) := of_decide_eq_true aB
         have q152 : x11_1 < (l0.length : Int) := of_decide_eq_true aB
         obtain ⟨ad152, e152, hx152_0⟩ := Kd.at_int HR0.out x11_1 p152 q152
         cases e152
         replace p152 := eq_true p152
         replace q152 := eq_true q152
         have p153 : 0 ≤ (x11_1 : Int) := of_decide_eq_true aB
         have q153 : x11_1 < (l1.length : Int) := of_decide_eq_true aB
         obtain ⟨ad153, e153, hx153_0⟩ := Kd.at_int HR1.out x11_1 p153 q153
         cases e153
         replace p153 := eq_true p153
         replace q153 := eq_true q153
         go_wp2_with (first | ((with_reducible refine gate_callee (f := 34) rfl ?_); refine goesL_ (some 26) rfl rfl Try.func34 (by kernel_rfl) rfl #[.int .i64 (rd l0 x11_1), .int .i64 (rd l1 x11_1)] rfl mB ?_; (with_reducible refine (cmp_Compare_int.calls (rd l0 x11_1) (rd l1 x11_1) t154 _ A8.out).mono ?_); rintro e w' ⟨rfl, ⟨nd, rfl⟩⟩; refine ⟨_, rfl, ?_⟩))
         go_roundg k1
         case measure => have := HK1.out; omega
         case rel => exact ⟨(wrap64 (x11_1 + 1)), sB, H', ⟨by have := HK1.out; omega⟩, by repeat (first | exact Drawn0.refl _ | apply Drawn0.step)⟩
        ·rw [if_neg c9] at H
         have c9b0 : (t154 == 0) = false := beq_eq_false_iff_ne.mpr c9
         have c9b1 : (t154 != 0) = true := bne_iff_ne.mpr c9
         obtain rfl := Option.some.inj H
         have p152 : 0 ≤ (x11_1 : Int) := of_decide_eq_true aB
         have q152 : x11_1 < (l0.length : Int) := of_decide_eq_true aB
         obtain ⟨ad152, e152, hx152_0⟩ := Kd.at_int HR0.out x11_1 p152 q152
         cases e152
         replace p152 := eq_true p152
         replace q152 := eq_true q152
         have p153 : 0 ≤ (x11_1 : Int) := of_decide_eq_true aB
         have q153 : x11_1 < (l1.length : Int) := of_decide_eq_true aB
         obtain ⟨ad153, e153, hx153_0⟩ := Kd.at_int HR1.out x11_1 p153 q153
         cases e153
         replace p153 := eq_true p153
         replace q153 := eq_true q153
         go_wp2_with (first | ((with_reducible refine gate_callee (f := 34) rfl ?_); refine goesL_ (some 26) rfl rfl Try.func34 (by kernel_rfl) rfl #[.int .i64 (rd l0 x11_1), .int .i64 (rd l1 x11_1)] rfl mB ?_; (with_reducible refine (cmp_Compare_int.calls (rd l0 x11_1) (rd l1 x11_1) t154 _ A8.out).mono ?_); rintro e w' ⟨rfl, ⟨nd, rfl⟩⟩; refine ⟨_, rfl, ?_⟩))
         go_ret
         exact ⟨sB, dB⟩
       ·rw [if_neg c7] at H
        exact absurd H (by simp)
     ·rw [if_neg c5] at H
      exact absurd H (by simp)
    ·rw [if_neg c4] at H
     exact absurd H (by simp)
   ·rw [if_neg c3] at H
    have c3b0 : decide (x11_1 < (l0.length : Int)) = false := decide_eq_false c3
    clear c3
    by_cases c10 : (l0.length : Int) < (l1.length : Int)
    ·rw [if_pos c10] at H
     have c10b0 : decide ((l0.length : Int) < (l1.length : Int)) = true := decide_eq_true c10
     have c10b1 : decide (l0.length < l1.length) = true := decide_eq_true (Int.ofNat_lt.mp c10)
     clear c10
     obtain rfl := Option.some.inj H
     go_wp2
     go_ret
     exact ⟨sB, dB⟩
    ·rw [if_neg c10] at H
     have c10b0 : decide ((l0.length : Int) < (l1.length : Int)) = false := decide_eq_false c10
     have c10b1 : decide (l0.length < l1.length) = false := decide_eq_false (fun h => c10 (Int.ofNat_lt.mpr h))
     clear c10
     obtain rfl := Option.some.inj H
     go_wp2
     go_ret
     exact ⟨sB, dB⟩

/-! ### impl_compareRows: function 17 -/
def impl_compareRows.f (k : Nat) (l0_0 : List Int) (l1_0 : List Int) : Option (Int) := (slices_Compare_Lint_int.f k l0_0 l1_0).bind fun t157 => (some t157)
theorem impl_compareRows.mono : ∀ a0 a1 k, LeO (impl_compareRows.f k a0 a1) (impl_compareRows.f (k + 1) a0 a1) := by
 intro a0 a1 k
 unfold impl_compareRows.f
 repeat' first
   | (with_reducible exact slices_Compare_Lint_int.mono _ _ _)
   | (with_reducible exact LeO.refl _)
   | (with_reducible exact LeO.none _)
   | (with_reducible refine LeO.ite ?_ ?_)
   | (with_reducible refine LeO.bind ?_ (fun _ => ?_))
   | exact slices_Compare_Lint_int.mono _ _ _
   | exact LeO.none _
   | refine LeO.ite ?_ ?_
   | refine LeO.bind ?_ (fun _ => ?_)
set_option maxHeartbeats 8000000 in
set_option maxRecDepth 100000 in
theorem impl_compareRows.calls (k : Nat) (A0_0 : Option Addr) (c0_0 : Nat) (l0_0 : List Int) (A1_0 : Option Addr) (c1_0 : Nat) (l1_0 : List Int) (r : Int) (w : World) (hr0_0 : Kd.C (Kd.int .i64) w A0_0 l0_0.length l0_0) (hc0_0 : l0_0.length ≤ c0_0) (hr1_0 : Kd.C (Kd.int .i64) w A1_0 l1_0.length l1_0) (hc1_0 : l1_0.length ≤ c1_0) (h : impl_compareRows.f k l0_0 l1_0 = some r) :
  Calls Try.prog 17 #[.agg #[.slice A0_0 l0_0.length c0_0], .agg #[.slice A1_0 l1_0.length c1_0]] w fun e w' => e = .returned (.int .i64 r) ∧ Below w.heap.size w w' := by
 have hu25 := Try.underlying25
 have HR0_0 := xm hr0_0
 have HC0_0 := xm hc0_0
 clear hr0_0 hc0_0
 have HR1_0 := xm hr1_0
 have HC1_0 := xm hc1_0
 clear hr1_0 hc1_0
 have HB := xm (Below.refl w.heap.size w)
 have H : ((slices_Compare_Lint_int.f k l0_0 l1_0).bind fun t157 => (some t157)) = some r := h
 clear h
 replace H := Option.bind_eq_some_iff.mp H
 obtain ⟨t157, A30, H⟩ := H
 replace H : (some t157) = some r := H
 have A3 := xm A30
 clear A30
 obtain rfl := Option.some.inj H
 go_enter Try.func17, Try.ntmps17
 go_wp2_with (first | ((with_reducible refine gate_dst (N := 2) rfl ?_); refine box_event ?hg (N := 2) ?hd (cs := #[.slice A0_0 l0_0.length c0_0]) (t := 25) ?hr ?_; (case hd => rfl); (case hg => rfl); (case hr => exact zB); intro gb155 hg w4 hbox hb; have n0_ := xm (below_step bB hb); have n1_ := xm (hbox); have n2_ := xm ((by rw [hg]; exact (xz bB) : w.heap.size ≤ gb155)); have n3_ := xm ((by rw [hg]; exact (xz bB) : w.heap.size ≤ gb155)); revert n0_ n1_ n2_ n3_; clear HB; intro HB BK155 GW155 GE155; clear hb hbox hg) | ((with_reducible refine gate_dst (N := 3) rfl ?_); refine box_event ?hg (N := 3) ?hd (cs := #[.slice A1_0 l1_0.length c1_0]) (t := 25) ?hr ?_; (case hd => rfl); (case hg => rfl); (case hr => exact zB); intro gb156 hg w5 hbox hb; have n0_ := xm (blk_below (kB BK155) hb); have n1_ := xm (below_step bG hb); have n2_ := xm (hbox); have n3_ := xm ((by rw [hg]; exact (xz bG) : w.heap.size ≤ gb156)); have n4_ := xm ((by rw [hg]; exact (xz bG) : w.heap.size ≤ gb156)); have n5_ := xm ((by rw [hg]; exact Nat.ne_of_lt (blk_lt (kB BK155)) : gb155 ≠ gb156)); have n6_ := xm ((by rw [hg]; exact Nat.ne_of_gt (blk_lt (kB BK155)) : gb156 ≠ gb155)); revert n0_ n1_ n2_ n3_ n4_ n5_ n6_; clear BK155 HB; intro BK155 HB BK156 GW156 GE156 NB155_156 NB156_155; clear hb hbox hg; have hnb6 := NB155_156.out; have hnc6 := NB156_155.out; obtain ⟨hcz7_0, hfz7_0⟩ := cz1 BK155.out; obtain ⟨hcz8_0, hfz8_0⟩ := cz1 BK156.out) | ((with_reducible refine gate_callee (f := 29) rfl ?_); refine goesL_ (some 9) rfl rfl Try.func29 (by kernel_rfl) rfl #[.slice A0_0 l0_0.length c0_0, .slice A1_0 l1_0.length c1_0] rfl mB ?_; (with_reducible refine (slices_Compare_Lint_int.calls k _ _ l0_0 _ _ l1_0 t157 _ ?side1 ?side2 ?side3 ?side4 A3.out).mono ?_); (case side1 => exact cB (Kd.C_below HR0_0.out HB.out)); (case side2 => exact HC0_0.out); (case side3 => exact cB (Kd.C_below HR1_0.out HB.out)); (case side4 => exact HC1_0.out); rintro e w' ⟨rfl, ⟨nd, rfl⟩⟩; refine ⟨_, rfl, ?_⟩))
 go_ret
 exact ⟨eB, bG⟩

/-! ### impl_CompareRows: function 5 -/
def impl_CompareRows.f (k : Nat) (l0_0 : List Int) (l1_0 : List Int) : Option (Int × Bool) := (impl_GoodRow.f l0_0).bind fun t160 => (if t160 = true then ((impl_GoodRow.f l1_0).bind fun t161 => (if t161 = true then ((impl_compareRows.f k l0_0 l1_0).bind fun t162 => (some (t162, true))) else (some (0, false)))) else (some (0, false)))
theorem impl_CompareRows.mono : ∀ a0 a1 k, LeO (impl_CompareRows.f k a0 a1) (impl_CompareRows.f (k + 1) a0 a1) := by
 intro a0 a1 k
 unfold impl_CompareRows.f
 repeat' first
   | (with_reducible exact impl_compareRows.mono _ _ _)
   | (with_reducible exact LeO.refl _)
   | (with_reducible exact LeO.none _)
   | (with_reducible refine LeO.ite ?_ ?_)
   | (with_reducible refine LeO.bind ?_ (fun _ => ?_))
   | exact impl_compareRows.mono _ _ _
   | exact LeO.none _
   | refine LeO.ite ?_ ?_
   | refine LeO.bind ?_ (fun _ => ?_)
set_option maxHeartbeats 8000000 in
set_option maxRecDepth 100000 in
theorem impl_CompareRows.calls (k : Nat) (A0_0 : Option Addr) (c0_0 : Nat) (l0_0 : List Int) (A1_0 : Option Addr) (c1_0 : Nat) (l1_0 : List Int) (r1 : Int) (r2 : Bool) (w : World) (hr0_0 : Kd.C (Kd.int .i64) w A0_0 l0_0.length l0_0) (hc0_0 : l0_0.length ≤ c0_0) (hr1_0 : Kd.C (Kd.int .i64) w A1_0 l1_0.length l1_0) (hc1_0 : l1_0.length ≤ c1_0) (h : impl_CompareRows.f k l0_0 l1_0 = some (r1, r2)) :
  Calls Try.prog 5 #[.agg #[.slice A0_0 l0_0.length c0_0], .agg #[.slice A1_0 l1_0.length c1_0]] w fun e w' => e = .returned (.tuple #[.int .i64 r1, .bool r2]) ∧ Below w.heap.size w w' := by
 have hu25 := Try.underlying25
 have HR0_0 := xm hr0_0
 have HC0_0 := xm hc0_0
 clear hr0_0 hc0_0
 have HR1_0 := xm hr1_0
 have HC1_0 := xm hc1_0
 clear hr1_0 hc1_0
 have HB := xm (Below.refl w.heap.size w)
 have H : ((impl_GoodRow.f l0_0).bind fun t160 => (if t160 = true then ((impl_GoodRow.f l1_0).bind fun t161 => (if t161 = true then ((impl_compareRows.f k l0_0 l1_0).bind fun t162 => (some (t162, true))) else (some (0, false)))) else (some (0, false)))) = some (r1, r2) := h
 clear h
 replace H := Option.bind_eq_some_iff.mp H
 obtain ⟨t160, A30, H⟩ := H
 replace H : (if t160 = true then ((impl_GoodRow.f l1_0).bind fun t161 => (if t161 = true then ((impl_compareRows.f k l0_0 l1_0).bind fun t162 => (some (t162, true))) else (some (0, false)))) else (some (0, false))) = some (r1, r2) := H
 have A3 := xm A30
 clear A30
 by_cases c4 : t160 = true
 ·subst c4
  have H1 : ((impl_GoodRow.f l1_0).bind fun t161 => (if t161 = true then ((impl_compareRows.f k l0_0 l1_0).bind fun t162 => (some (t162, true))) else (some (0, false)))) = some (r1, r2) := by first | (with_reducible rfl) | (rw [if_pos rfl] at H; exact H)
  clear H
  have H := H1
  clear H1
  replace H := Option.bind_eq_some_iff.mp H
  obtain ⟨t161, A50, H⟩ := H
  replace H : (if t161 = true then ((impl_compareRows.f k l0_0 l1_0).bind fun t162 => (some (t162, true))) else (some (0, false))) = some (r1, r2) := H
  have A5 := xm A50
  clear A50
  by_cases c6 : t161 = true
  ·subst c6
   have H1 : ((impl_compareRows.f k l0_0 l1_0).bind fun t162 => (some (t162, true))) = some (r1, r2) := by first | (with_reducible rfl) | (rw [if_pos rfl] at H; exact H)
   clear H
   have H := H1
   clear H1
   replace H := Option.bind_eq_some_iff.mp H
   obtain ⟨t162, A70, H⟩ := H
   replace H : (some (t162, true)) = some (r1, r2) := H
   have A7 := xm A70
   clear A70
   simp only [Option.some.injEq, Prod.mk.injEq] at H
   obtain ⟨rfl, rfl⟩ := H
   go_enter Try.func5, Try.ntmps5
   go_wp2_with (first | ((with_reducible refine gate_dst (N := 2) rfl ?_); refine box_event ?hg (N := 2) ?hd (cs := #[.slice A0_0 l0_0.length c0_0]) (t := 25) ?hr ?_; (case hd => rfl); (case hg => rfl); (case hr => exact zB); intro gb158 hg w8 hbox hb; have n0_ := xm (below_step bB hb); have n1_ := xm (hbox); have n2_ := xm ((by rw [hg]; exact (xz bB) : w.heap.size ≤ gb158)); have n3_ := xm ((by rw [hg]; exact (xz bB) : w.heap.size ≤ gb158)); revert n0_ n1_ n2_ n3_; clear HB; intro HB BK158 GW158 GE158; clear hb hbox hg) | ((with_reducible refine gate_dst (N := 3) rfl ?_); refine box_event ?hg (N := 3) ?hd (cs := #[.slice A1_0 l1_0.length c1_0]) (t := 25) ?hr ?_; (case hd => rfl); (case hg => rfl); (case hr => exact zB); intro gb159 hg w9 hbox hb; have n0_ := xm (blk_below (kB BK158) hb); have n1_ := xm (below_step bG hb); have n2_ := xm (hbox); have n3_ := xm ((by rw [hg]; exact (xz bG) : w.heap.size ≤ gb159)); have n4_ := xm ((by rw [hg]; exact (xz bG) : w.heap.size ≤ gb159)); have n5_ := xm ((by rw [hg]; exact Nat.ne_of_lt (blk_lt (kB BK158)) : gb158 ≠ gb159)); have n6_ := xm ((by rw [hg]; exact Nat.ne_of_gt (blk_lt (kB BK158)) : gb159 ≠ gb158)); revert n0_ n1_ n2_ n3_ n4_ n5_ n6_; clear BK158 HB; intro BK158 HB BK159 GW159 GE159 NB158_159 NB159_158; clear hb hbox hg; have hnb10 := NB158_159.out; have hnc10 := NB159_158.out; obtain ⟨hcz11_0, hfz11_0⟩ := cz1 BK158.out) | ((with_reducible refine gate_callee (f := 9) rfl ?_); refine goesL_ (some 7) rfl rfl Try.func9 (by kernel_rfl) rfl #[.agg #[.slice A0_0 l0_0.length c0_0]] rfl mB ?_; (with_reducible refine (impl_GoodRow.calls _ _ l0_0 true _ ?side1 ?side2 A3.out).mono ?_); (case side1 => exact cB (Kd.C_below HR0_0.out HB.out)); (case side2 => exact HC0_0.out); rintro e w12 ⟨rfl, hb⟩; refine ⟨_, rfl, ?_⟩; have n0_ := xm (blk_below (kB BK158) hb); have n1_ := xm (blk_below (kB BK159) hb); have n2_ := xm (below_step bG hb); revert n0_ n1_ n2_; clear BK158 BK159 HB; intro BK158 BK159 HB; (try clear hb); obtain ⟨hcz13_0, hfz13_0⟩ := cz1 BK159.out) | (go_at_call 9; (with_reducible refine (impl_GoodRow.calls _ _ l1_0 true _ ?side1 ?side2 A5.out).mono ?_); (case side1 => exact cB (Kd.C_below HR1_0.out HB.out)); (case side2 => exact HC1_0.out); rintro e w14 ⟨rfl, hb⟩; have n0_ := xm (blk_below (kB BK158) hb); have n1_ := xm (blk_below (kB BK159) hb); have n2_ := xm (below_step bG hb); revert n0_ n1_ n2_; clear BK158 BK159 HB; intro BK158 BK159 HB; (try clear hb); obtain ⟨hcz15_0, hfz15_0⟩ := cz1 BK158.out; obtain ⟨hcz16_0, hfz16_0⟩ := cz1 BK159.out) | ((with_reducible refine gate_callee (f := 17) rfl ?_); refine goesL_ (some 16) rfl rfl Try.func17 (by kernel_rfl) rfl #[.agg #[.slice A0_0 l0_0.length c0_0], .agg #[.slice A1_0 l1_0.length c1_0]] rfl mB ?_; (with_reducible refine (impl_compareRows.calls k _ _ l0_0 _ _ l1_0 t162 _ ?side1 ?side2 ?side3 ?side4 A7.out).mono ?_); (case side1 => exact cB (Kd.C_below HR0_0.out HB.out)); (case side2 => exact HC0_0.out); (case side3 => exact cB (Kd.C_below HR1_0.out HB.out)); (case side4 => exact HC1_0.out); rintro e w17 ⟨rfl, hb⟩; refine ⟨_, rfl, ?_⟩; have n0_ := xm (blk_below (kB BK158) hb); have n1_ := xm (blk_below (kB BK159) hb); have n2_ := xm (below_step bG hb); revert n0_ n1_ n2_; clear BK158 BK159 HB; intro BK158 BK159 HB; (try clear hb)))
   go_ret2
   exact ⟨eB, bG⟩
  ·replace c6 := Bool.eq_false_iff.mpr c6
   subst c6
   have H1 : (some (0, false)) = some (r1, r2) := by first | (with_reducible rfl) | (rw [if_neg (show ¬ (false = true) by decide)] at H; exact H)
   clear H
   have H := H1
   clear H1
   simp only [Option.some.injEq, Prod.mk.injEq] at H
   obtain ⟨rfl, rfl⟩ := H
   go_enter Try.func5, Try.ntmps5
   go_wp2_with (first | ((with_reducible refine gate_dst (N := 2) rfl ?_); refine box_event ?hg (N := 2) ?hd (cs := #[.slice A0_0 l0_0.length c0_0]) (t := 25) ?hr ?_; (case hd => rfl); (case hg => rfl); (case hr => exact zB); intro gb158 hg w18 hbox hb; have n0_ := xm (below_step bB hb); have n1_ := xm (hbox); have n2_ := xm ((by rw [hg]; exact (xz bB) : w.heap.size ≤ gb158)); have n3_ := xm ((by rw [hg]; exact (xz bB) : w.heap.size ≤ gb158)); revert n0_ n1_ n2_ n3_; clear HB; intro HB BK158 GW158 GE158; clear hb hbox hg) | ((with_reducible refine gate_dst (N := 3) rfl ?_); refine box_event ?hg (N := 3) ?hd (cs := #[.slice A1_0 l1_0.length c1_0]) (t := 25) ?hr ?_; (case hd => rfl); (case hg => rfl); (case hr => exact zB); intro gb159 hg w19 hbox hb; have n0_ := xm (blk_below (kB BK158) hb); have n1_ := xm (below_step bG hb); have n2_ := xm (hbox); have n3_ := xm ((by rw [hg]; exact (xz bG) : w.heap.size ≤ gb159)); have n4_ := xm ((by rw [hg]; exact (xz bG) : w.heap.size ≤ gb159)); have n5_ := xm ((by rw [hg]; exact Nat.ne_of_lt (blk_lt (kB BK158)) : gb158 ≠ gb159)); have n6_ := xm ((by rw [hg]; exact Nat.ne_of_gt (blk_lt (kB BK158)) : gb159 ≠ gb158)); revert n0_ n1_ n2_ n3_ n4_ n5_ n6_; clear BK158 HB; intro BK158 HB BK159 GW159 GE159 NB158_159 NB159_158; clear hb hbox hg; have hnb20 := NB158_159.out; have hnc20 := NB159_158.out; obtain ⟨hcz21_0, hfz21_0⟩ := cz1 BK158.out) | ((with_reducible refine gate_callee (f := 9) rfl ?_); refine goesL_ (some 7) rfl rfl Try.func9 (by kernel_rfl) rfl #[.agg #[.slice A0_0 l0_0.length c0_0]] rfl mB ?_; (with_reducible refine (impl_GoodRow.calls _ _ l0_0 true _ ?side1 ?side2 A3.out).mono ?_); (case side1 => exact cB (Kd.C_below HR0_0.out HB.out)); (case side2 => exact HC0_0.out); rintro e w22 ⟨rfl, hb⟩; refine ⟨_, rfl, ?_⟩; have n0_ := xm (blk_below (kB BK158) hb); have n1_ := xm (blk_below (kB BK159) hb); have n2_ := xm (below_step bG hb); revert n0_ n1_ n2_; clear BK158 BK159 HB; intro BK158 BK159 HB; (try clear hb); obtain ⟨hcz23_0, hfz23_0⟩ := cz1 BK159.out) | (go_at_call 9; (with_reducible refine (impl_GoodRow.calls _ _ l1_0 false _ ?side1 ?side2 A5.out).mono ?_); (case side1 => exact cB (Kd.C_below HR1_0.out HB.out)); (case side2 => exact HC1_0.out); rintro e w24 ⟨rfl, hb⟩; have n0_ := xm (blk_below (kB BK158) hb); have n1_ := xm (blk_below (kB BK159) hb); have n2_ := xm (below_step bG hb); revert n0_ n1_ n2_; clear BK158 BK159 HB; intro BK158 BK159 HB; (try clear hb)))
   go_ret2
   exact ⟨eB, bG⟩
 ·replace c4 := Bool.eq_false_iff.mpr c4
  subst c4
  have H1 : (some (0, false)) = some (r1, r2) := by first | (with_reducible rfl) | (rw [if_neg (show ¬ (false = true) by decide)] at H; exact H)
  clear H
  have H := H1
  clear H1
  simp only [Option.some.injEq, Prod.mk.injEq] at H
  obtain ⟨rfl, rfl⟩ := H
  go_enter Try.func5, Try.ntmps5
  go_wp2_with (first | ((with_reducible refine gate_dst (N := 2) rfl ?_); refine box_event ?hg (N := 2) ?hd (cs := #[.slice A0_0 l0_0.length c0_0]) (t := 25) ?hr ?_; (case hd => rfl); (case hg => rfl); (case hr => exact zB); intro gb158 hg w25 hbox hb; have n0_ := xm (below_step bB hb); have n1_ := xm (hbox); have n2_ := xm ((by rw [hg]; exact (xz bB) : w.heap.size ≤ gb158)); have n3_ := xm ((by rw [hg]; exact (xz bB) : w.heap.size ≤ gb158)); revert n0_ n1_ n2_ n3_; clear HB; intro HB BK158 GW158 GE158; clear hb hbox hg) | ((with_reducible refine gate_dst (N := 3) rfl ?_); refine box_event ?hg (N := 3) ?hd (cs := #[.slice A1_0 l1_0.length c1_0]) (t := 25) ?hr ?_; (case hd => rfl); (case hg => rfl); (case hr => exact zB); intro gb159 hg w26 hbox hb; have n0_ := xm (blk_below (kB BK158) hb); have n1_ := xm (below_step bG hb); have n2_ := xm (hbox); have n3_ := xm ((by rw [hg]; exact (xz bG) : w.heap.size ≤ gb159)); have n4_ := xm ((by rw [hg]; exact (xz bG) : w.heap.size ≤ gb159)); have n5_ := xm ((by rw [hg]; exact Nat.ne_of_lt (blk_lt (kB BK158)) : gb158 ≠ gb159)); have n6_ := xm ((by rw [hg]; exact Nat.ne_of_gt (blk_lt (kB BK158)) : gb159 ≠ gb158)); revert n0_ n1_ n2_ n3_ n4_ n5_ n6_; clear BK158 HB; intro BK158 HB BK159 GW159 GE159 NB158_159 NB159_158; clear hb hbox hg; have hnb27 := NB158_159.out; have hnc27 := NB159_158.out; obtain ⟨hcz28_0, hfz28_0⟩ := cz1 BK158.out) | ((with_reducible refine gate_callee (f := 9) rfl ?_); refine goesL_ (some 7) rfl rfl Try.func9 (by kernel_rfl) rfl #[.agg #[.slice A0_0 l0_0.length c0_0]] rfl mB ?_; (with_reducible refine (impl_GoodRow.calls _ _ l0_0 false _ ?side1 ?side2 A3.out).mono ?_); (case side1 => exact cB (Kd.C_below HR0_0.out HB.out)); (case side2 => exact HC0_0.out); rintro e w29 ⟨rfl, hb⟩; refine ⟨_, rfl, ?_⟩; have n0_ := xm (blk_below (kB BK158) hb); have n1_ := xm (blk_below (kB BK159) hb); have n2_ := xm (below_step bG hb); revert n0_ n1_ n2_; clear BK158 BK159 HB; intro BK158 BK159 HB; (try clear hb)))
  go_ret2
  exact ⟨eB, bG⟩

/-! ### spec_l1In: function 30 -/
def spec_l1In.f (a0 : Int) (a1 : Int) (a2 : Int) : Option (Bool) := if a0 ≥ a1 then (some (decide (a0 ≤ a2))) else (some false)
set_option maxHeartbeats 8000000 in
set_option maxRecDepth 100000 in
theorem spec_l1In.calls (a0 : Int) (a1 : Int) (a2 : Int) (r : Bool) (w : World) (h : spec_l1In.f a0 a1 a2 = some r) :
  Calls Try.prog 30 #[.int .i64 a0, .int .i64 a1, .int .i64 a2] w fun e w' => e = .returned (.bool r) ∧ Drawn0 w w' := by
 have H : (if a0 ≥ a1 then (some (decide (a0 ≤ a2))) else (some false)) = some r := h
 clear h
 by_cases c4 : a0 ≥ a1
 ·rw [if_pos c4] at H
  have c4b0 : decide (a1 ≤ a0) = true := decide_eq_true c4
  clear c4
  obtain rfl := Option.some.inj H
  go_enter Try.func30, Try.ntmps30
  go_wp2
  go_ret
  exact ⟨sB, dB⟩
 ·rw [if_neg c4] at H
  have c4b0 : decide (a1 ≤ a0) = false := decide_eq_false c4
  clear c4
  obtain rfl := Option.some.inj H
  go_enter Try.func30, Try.ntmps30
  go_wp2
  go_ret
  exact ⟨sB, dB⟩

/-! ### spec_GoodRow: function 18 -/
def spec_GoodRow.l0 : Nat → List Int → Int → Int → List Int → Option (Bool)
 | 0, _, _, _, _ => none
 | k + 1, x6, x7, x8, x164000 => if x8 < x7 then (if 0 ≤ x8 then (if x8 < (x6.length : Int) then ((spec_l1In.f (rd x6 x8) (-100000) 100000).bind fun t165 => (if t165 = true then (spec_GoodRow.l0 k x6 x7 (wrap64 (x8 + 1)) x164000) else (some false))) else (none)) else (none)) else (some (decide ((x164000.length : Int) ≤ 6)))
def spec_GoodRow.f (k : Nat) (l0_0 : List Int) : Option (Bool) := spec_GoodRow.l0 k l0_0 (l0_0.length : Int) 0 l0_0
theorem spec_GoodRow.mono_l : ∀ k, (∀ y0 y1 y2 y3, LeO (spec_GoodRow.l0 k y0 y1 y2 y3) (spec_GoodRow.l0 (k + 1) y0 y1 y2 y3))
 | 0 => fun _ _ _ _ r h => by simp [spec_GoodRow.l0] at h
 | k + 1 => by
  have ih0 := spec_GoodRow.mono_l k
  ·intro y0 y1 y2 y3
   unfold spec_GoodRow.l0
   repeat' first
   | (with_reducible exact ih0 _ _ _ _)
   | (with_reducible exact LeO.refl _)
   | (with_reducible exact LeO.none _)
   | (with_reducible refine LeO.ite ?_ ?_)
   | (with_reducible refine LeO.bind ?_ (fun _ => ?_))
   | exact ih0 _ _ _ _
   | exact LeO.none _
   | refine LeO.ite ?_ ?_
   | refine LeO.bind ?_ (fun _ => ?_)
theorem spec_GoodRow.mono : ∀ a0 k, LeO (spec_GoodRow.f k a0) (spec_GoodRow.f (k + 1) a0) := by
 intro a0 k
 have ih0 := spec_GoodRow.mono_l k
 unfold spec_GoodRow.f
 repeat' first
   | (with_reducible exact ih0 _ _ _ _)
   | (with_reducible exact LeO.refl _)
   | (with_reducible exact LeO.none _)
   | (with_reducible refine LeO.ite ?_ ?_)
   | (with_reducible refine LeO.bind ?_ (fun _ => ?_))
   | exact ih0 _ _ _ _
   | exact LeO.none _
   | refine LeO.ite ?_ ?_
   | refine LeO.bind ?_ (fun _ => ?_)
set_option maxHeartbeats 8000000 in
set_option maxRecDepth 100000 in
theorem spec_GoodRow.calls (k : Nat) (A0_0 : Option Addr) (c0_0 : Nat) (l0_0 : List Int) (r : Bool) (w : World) (hr0_0 : Kd.C (Kd.int .i64) w A0_0 l0_0.length l0_0) (hc0_0 : l0_0.length ≤ c0_0) (h : spec_GoodRow.f k l0_0 = some r) :
  Calls Try.prog 18 #[.agg #[.slice A0_0 l0_0.length c0_0]] w fun e w' => e = .returned (.bool r) ∧ Below w.heap.size w w' := by
 have hu25 := Try.underlying25
 have HR0_0 := xm hr0_0
 have HC0_0 := xm hc0_0
 clear hr0_0 hc0_0
 have HB := xm (Below.refl w.heap.size w)
 have H : (spec_GoodRow.l0 k l0_0 (l0_0.length : Int) 0 l0_0) = some r := h
 clear h
 have H' := xm H
 clear H
 go_enter Try.func18, Try.ntmps18
 go_wp2_with (first | ((with_reducible refine gate_dst (N := 1) rfl ?_); refine box_event ?hg (N := 1) ?hd (cs := #[.slice A0_0 l0_0.length c0_0]) (t := 25) ?hr ?_; (case hd => rfl); (case hg => rfl); (case hr => exact zB); intro gb163 hg w2 hbox hb; have n0_ := xm (below_step bB hb); have n1_ := xm (hbox); have n2_ := xm ((by rw [hg]; exact (xz bB) : w.heap.size ≤ gb163)); have n3_ := xm ((by rw [hg]; exact (xz bB) : w.heap.size ≤ gb163)); revert n0_ n1_ n2_ n3_; clear HB; intro HB BK163 GW163 GE163; clear hb hbox hg; obtain ⟨hcz3_0, hfz3_0⟩ := cz1 BK163.out))
 go_loopg [8] k (fun kq v8 w' => ∃ (x8_1 : Int), v8 = .int .i64 x8_1 ∧ Aside0 (spec_GoodRow.l0 kq l0_0 (l0_0.length : Int) x8_1 l0_0 = some r) ∧ Aside0 (kq ≤ k) ∧ Aside0 (w'.heap[gb163]? = some (.cells #[(.slice A0_0 l0_0.length c0_0)] 25 (0, 0))) ∧ Aside0 (Below w.heap.size w w'))
 case atStart => exact ⟨(0), sB, H', ⟨Nat.le_refl _⟩, ⟨kB BK163⟩, ⟨bG⟩⟩
 case round =>
  clear H'
  try clear c1
  try clear p2
  try clear hcz3_0 hfz3_0
  obtain ⟨x8_1, rfl, HA, HK1, BK163, HB⟩ := hrel
  cases gk with
  | zero => exact absurd HA.out (by simp [spec_GoodRow.l0])
  | succ k1 =>
   have H := HA.out
   clear HA
   simp only [spec_GoodRow.l0] at H
   by_cases c4 : x8_1 < (l0_0.length : Int)
   ·rw [if_pos c4] at H
    have c4b0 : decide (x8_1 < (l0_0.length : Int)) = true := decide_eq_true c4
    clear c4
    by_cases c5 : 0 ≤ x8_1
    ·rw [if_pos c5] at H
     have c5b0 : decide (0 ≤ x8_1) = true := decide_eq_true c5
     clear c5
     by_cases c6 : x8_1 < (l0_0.length : Int)
     ·rw [if_pos c6] at H
      have c6b0 : decide (x8_1 < (l0_0.length : Int)) = true := decide_eq_true c6
      clear c6
      replace H := Option.bind_eq_some_iff.mp H
      obtain ⟨t165, A70, H⟩ := H
      replace H : (if t165 = true then (spec_GoodRow.l0 k1 l0_0 (l0_0.length : Int) (wrap64 (x8_1 + 1)) l0_0) else (some false)) = some r := H
      have A7 := xm A70
      clear A70
      by_cases c8 : t165 = true
      ·subst c8
       have H1 : (spec_GoodRow.l0 k1 l0_0 (l0_0.length : Int) (wrap64 (x8_1 + 1)) l0_0) = some r := by first | (with_reducible rfl) | (rw [if_pos rfl] at H; exact H)
       clear H
       have H := H1
       clear H1
       have H' := xm H
       clear H
       have p164 : 0 ≤ (x8_1 : Int) := of_decide_eq_true aB
       have q164 : x8_1 < (l0_0.length : Int) := of_decide_eq_true aB
       obtain ⟨ad164, e164, hx164_0⟩ := Kd.at_int HR0_0.out x8_1 p164 q164
       cases e164
       replace hx164_0 := hU hx164_0
       replace p164 := eq_true p164
       replace q164 := eq_true q164
       go_wp2_with (first | ((with_reducible refine gate_callee (f := 30) rfl ?_); refine goesL_ (some 13) rfl rfl Try.func30 (by kernel_rfl) rfl #[.int .i64 (rd l0_0 x8_1), .int .i64 (-100000), .int .i64 100000] rfl mB ?_; (with_reducible refine (spec_l1In.calls (rd l0_0 x8_1) (-100000) 100000 true _ A7.out).mono ?_); rintro e w' ⟨rfl, ⟨nd, rfl⟩⟩; refine ⟨_, rfl, ?_⟩))
       go_roundg k1
       case measure => have := HK1.out; omega
       case rel => exact ⟨(wrap64 (x8_1 + 1)), sB, H', ⟨by have := HK1.out; omega⟩, ⟨kB BK163⟩, ⟨bG⟩⟩
      ·replace c8 := Bool.eq_false_iff.mpr c8
       subst c8
       have H1 : (some false) = some r := by first | (with_reducible rfl) | (rw [if_neg (show ¬ (false = true) by decide)] at H; exact H)
       clear H
       have H := H1
       clear H1
       obtain rfl := Option.some.inj H
       have p164 : 0 ≤ (x8_1 : Int) := of_decide_eq_true aB
       have q164 : x8_1 < (l0_0.length : Int) := of_decide_eq_true aB
       obtain ⟨ad164, e164, hx164_0⟩ := Kd.at_int HR0_0.out x8_1 p164 q164
       cases e164
       replace hx164_0 := hU hx164_0
       replace p164 := eq_true p164
       replace q164 := eq_true q164
       go_wp2_with (first | ((with_reducible refine gate_callee (f := 30) rfl ?_); refine goesL_ (some 13) rfl rfl Try.func30 (by kernel_rfl) rfl #[.int .i64 (rd l0_0 x8_1), .int .i64 (-100000), .int .i64 100000] rfl mB ?_; (with_reducible refine (spec_l1In.calls (rd l0_0 x8_1) (-100000) 100000 false _ A7.out).mono ?_); rintro e w' ⟨rfl, ⟨nd, rfl⟩⟩; refine ⟨_, rfl, ?_⟩))
       go_ret
       exact ⟨eB, bG⟩
     ·rw [if_neg c6] at H
      exact absurd H (by simp)
    ·rw [if_neg c5] at H
     exact absurd H (by simp)
   ·rw [if_neg c4] at H
    have c4b0 : decide (x8_1 < (l0_0.length : Int)) = false := decide_eq_false c4
    clear c4
    obtain rfl := Option.some.inj H
    obtain ⟨hcz9_0, hfz9_0⟩ := cz1 BK163.out
    go_wp2
    go_ret
    exact ⟨eB, bG⟩

end Go.Proofs.Ytaddemalepndfai.G
