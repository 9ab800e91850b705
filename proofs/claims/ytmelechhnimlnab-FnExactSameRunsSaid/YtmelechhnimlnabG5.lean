/- Written by a program of this claim's own, out of the translation: functions of the program as plain functions, and that the calls answer as these. No conditions. -/
import Derived.Test.YtmelechhnimlnabG0
import Derived.Test.YtmelechhnimlnabG1
import Derived.Test.YtmelechhnimlnabG3
import Derived.Test.YtmelechhnimlnabG4
namespace Go.Proofs.Ytmelechhnimlnab.G
open Go.RowKit Go.Proofs.Ytmelechhnimlnab.X Go.Proofs.YtmelechhnimlnabW.PrintWords Go.Proofs.YtmelechhnimlnabW.PrintLast Go.Proofs.YtmelechhnimlnabW.PrintMore
attribute [local go_sem] max2_int min2_int max_two min_two max_three min_three max_four min_four   -- for this text's walks alone
set_option linter.unusedVariables false
set_option linter.unusedSimpArgs false

attribute [local go_sem high] eqA32
/-! ### spec_SameRuns: function 5 -/
mutual
def spec_SameRuns.j0 : Nat → List (S32) → List (S32) → Bool → Option (Bool × Bool)
 | 0, _, _, _ => none
 | k + 1, x0, x1, x17 => if x17 = true then (some (false, false)) else (if (x0.length : Int) = (x1.length : Int) then (spec_SameRuns.l0 k x0 x1 x0 (x0.length : Int) 0) else (some (false, true)))
def spec_SameRuns.l0 : Nat → List (S32) → List (S32) → List (S32) → Int → Int → Option (Bool × Bool)
 | 0, _, _, _, _, _ => none
 | k + 1, x0, x1, x23, x24, x25 => if x25 < x24 then (if 0 ≤ x25 then (if x25 < (x23.length : Int) then ((spec_l13There.f k x0 x1 x25).bind fun t123 => (if t123 < 0 then (spec_SameRuns.j2 k x0 x1 x25 t123 x23 x24 x25 true ((rd_T32 x23 x25).f0) ((rd_T32 x23 x25).f1) ((rd_T32 x23 x25).f2)) else (if 0 ≤ t123 then (if t123 < (x1.length : Int) then (spec_SameRuns.j2 k x0 x1 x25 t123 x23 x24 x25 (!(((rd_T32 x1 t123).f0) == ((rd_T32 x23 x25).f0)) || (!(((rd_T32 x1 t123).f1) == ((rd_T32 x23 x25).f1)) || (!(((rd_T32 x1 t123).f2) == ((rd_T32 x23 x25).f2))))) ((rd_T32 x23 x25).f0) ((rd_T32 x23 x25).f1) ((rd_T32 x23 x25).f2)) else (none)) else (none)))) else (none)) else (none)) else (spec_SameRuns.l1 k x0 x1 0)
def spec_SameRuns.j2 : Nat → List (S32) → List (S32) → Int → Int → List (S32) → Int → Int → Bool → Int → Int → Int → Option (Bool × Bool)
 | 0, _, _, _, _, _, _, _, _, _, _, _ => none
 | k + 1, x0, x1, x6, x8, x23, x24, x25, x43, x123000, x123001, x123002 => if x43 = true then (some (false, true)) else (if x123001 = 1 then ((spec_l13Last.f k x0 x6 x123002).bind fun t125 => ((spec_l13There.f k x0 x1 t125).bind fun t126 => ((spec_l13Last.f k x1 x8 x123002).bind fun t127 => (if t126 = t127 then (spec_SameRuns.l0 k x0 x1 x23 x24 (wrap64 (x25 + 1))) else (some (false, true)))))) else (spec_SameRuns.l0 k x0 x1 x23 x24 (wrap64 (x25 + 1))))
def spec_SameRuns.l1 : Nat → List (S32) → List (S32) → Int → Option (Bool × Bool)
 | 0, _, _, _ => none
 | k + 1, x0, x1, x9 => if x9 < 4 then ((spec_l13Last.f k x0 (x0.length : Int) x9).bind fun t128 => ((spec_l13There.f k x0 x1 t128).bind fun t129 => ((spec_l13Last.f k x1 (x1.length : Int) x9).bind fun t130 => (if t129 = t130 then (spec_SameRuns.l1 k x0 x1 (wrap64 (x9 + 1))) else (some (false, true)))))) else (some (true, true))
end
def spec_SameRuns.f (k : Nat) (l0 : List (S32)) (l1 : List (S32)) : Option (Bool × Bool) := (spec_GoodSteps.f k l0).bind fun t119 => (if t119 = true then ((spec_GoodSteps.f k l1).bind fun t120 => (spec_SameRuns.j0 k l0 l1 (!t120))) else (spec_SameRuns.j0 k l0 l1 true))
theorem spec_SameRuns.mono_l : ∀ k, (∀ y0 y1 y2, LeO (spec_SameRuns.j0 k y0 y1 y2) (spec_SameRuns.j0 (k + 1) y0 y1 y2)) ∧ (∀ y0 y1 y2 y3 y4, LeO (spec_SameRuns.l0 k y0 y1 y2 y3 y4) (spec_SameRuns.l0 (k + 1) y0 y1 y2 y3 y4)) ∧ (∀ y0 y1 y2 y3 y4 y5 y6 y7 y8 y9 y10, LeO (spec_SameRuns.j2 k y0 y1 y2 y3 y4 y5 y6 y7 y8 y9 y10) (spec_SameRuns.j2 (k + 1) y0 y1 y2 y3 y4 y5 y6 y7 y8 y9 y10)) ∧ (∀ y0 y1 y2, LeO (spec_SameRuns.l1 k y0 y1 y2) (spec_SameRuns.l1 (k + 1) y0 y1 y2))
 | 0 => ⟨fun _ _ _ r h => by simp [spec_SameRuns.j0] at h, fun _ _ _ _ _ r h => by simp [spec_SameRuns.l0] at h, fun _ _ _ _ _ _ _ _ _ _ _ r h => by simp [spec_SameRuns.j2] at h, fun _ _ _ r h => by simp [spec_SameRuns.l1] at h⟩
 | k + 1 => by
  obtain ⟨ih0, ih1, ih2, ih3⟩ := spec_SameRuns.mono_l k
  refine ⟨?_, ?_, ?_, ?_⟩
  ·intro y0 y1 y2
   unfold spec_SameRuns.j0
   repeat' first
   | (with_reducible exact ih0 _ _ _)
   | (with_reducible exact ih1 _ _ _ _ _)
   | (with_reducible exact ih2 _ _ _ _ _ _ _ _ _ _ _)
   | (with_reducible exact ih3 _ _ _)
   | (with_reducible exact spec_GoodSteps.mono _ _)
   | (with_reducible exact spec_l13Last.mono _ _ _ _)
   | (with_reducible exact spec_l13There.mono _ _ _ _)
   | (with_reducible exact LeO.refl _)
   | (with_reducible exact LeO.none _)
   | (with_reducible refine LeO.ite ?_ ?_)
   | (with_reducible refine LeO.bind ?_ (fun _ => ?_))
   | exact ih0 _ _ _
   | exact ih1 _ _ _ _ _
   | exact ih2 _ _ _ _ _ _ _ _ _ _ _
   | exact ih3 _ _ _
   | exact spec_GoodSteps.mono _ _
   | exact spec_l13Last.mono _ _ _ _
   | exact spec_l13There.mono _ _ _ _
   | exact LeO.none _
   | refine LeO.ite ?_ ?_
   | refine LeO.bind ?_ (fun _ => ?_)
  ·intro y0 y1 y2 y3 y4
   unfold spec_SameRuns.l0
   repeat' first
   | (with_reducible exact ih0 _ _ _)
   | (with_reducible exact ih1 _ _ _ _ _)
   | (with_reducible exact ih2 _ _ _ _ _ _ _ _ _ _ _)
   | (with_reducible exact ih3 _ _ _)
   | (with_reducible exact spec_GoodSteps.mono _ _)
   | (with_reducible exact spec_l13Last.mono _ _ _ _)
   | (with_reducible exact spec_l13There.mono _ _ _ _)
   | (with_reducible exact LeO.refl _)
   | (with_reducible exact LeO.none _)
   | (with_reducible refine LeO.ite ?_ ?_)
   | (with_reducible refine LeO.bind ?_ (fun _ => ?_))
   | exact ih0 _ _ _
   | exact ih1 _ _ _ _ _
   | exact ih2 _ _ _ _ _ _ _ _ _ _ _
   | exact ih3 _ _ _
   | exact spec_GoodSteps.mono _ _
   | exact spec_l13Last.mono _ _ _ _
   | exact spec_l13There.mono _ _ _ _
   | exact LeO.none _
   | refine LeO.ite ?_ ?_
   | refine LeO.bind ?_ (fun _ => ?_)
  ·intro y0 y1 y2 y3 y4 y5 y6 y7 y8 y9 y10
   unfold spec_SameRuns.j2
   repeat' first
   | (with_reducible exact ih0 _ _ _)
   | (with_reducible exact ih1 _ _ _ _ _)
   | (with_reducible exact ih2 _ _ _ _ _ _ _ _ _ _ _)
   | (with_reducible exact ih3 _ _ _)
   | (with_reducible exact spec_GoodSteps.mono _ _)
   | (with_reducible exact spec_l13Last.mono _ _ _ _)
   | (with_reducible exact spec_l13There.mono _ _ _ _)
   | (with_reducible exact LeO.refl _)
   | (with_reducible exact LeO.none _)
   | (with_reducible refine LeO.ite ?_ ?_)
   | (with_reducible refine LeO.bind ?_ (fun _ => ?_))
   | exact ih0 _ _ _
   | exact ih1 _ _ _ _ _
   | exact ih2 _ _ _ _ _ _ _ _ _ _ _
   | exact ih3 _ _ _
   | exact spec_GoodSteps.mono _ _
   | exact spec_l13Last.mono _ _ _ _
   | exact spec_l13There.mono _ _ _ _
   | exact LeO.none _
   | refine LeO.ite ?_ ?_
   | refine LeO.bind ?_ (fun _ => ?_)
  ·intro y0 y1 y2
   unfold spec_SameRuns.l1
   repeat' first
   | (with_reducible exact ih0 _ _ _)
   | (with_reducible exact ih1 _ _ _ _ _)
   | (with_reducible exact ih2 _ _ _ _ _ _ _ _ _ _ _)
   | (with_reducible exact ih3 _ _ _)
   | (with_reducible exact spec_GoodSteps.mono _ _)
   | (with_reducible exact spec_l13Last.mono _ _ _ _)
   | (with_reducible exact spec_l13There.mono _ _ _ _)
   | (with_reducible exact LeO.refl _)
   | (with_reducible exact LeO.none _)
   | (with_reducible refine LeO.ite ?_ ?_)
   | (with_reducible refine LeO.bind ?_ (fun _ => ?_))
   | exact ih0 _ _ _
   | exact ih1 _ _ _ _ _
   | exact ih2 _ _ _ _ _ _ _ _ _ _ _
   | exact ih3 _ _ _
   | exact spec_GoodSteps.mono _ _
   | exact spec_l13Last.mono _ _ _ _
   | exact spec_l13There.mono _ _ _ _
   | exact LeO.none _
   | refine LeO.ite ?_ ?_
   | refine LeO.bind ?_ (fun _ => ?_)
theorem spec_SameRuns.mono : ∀ a0 a1 k, LeO (spec_SameRuns.f k a0 a1) (spec_SameRuns.f (k + 1) a0 a1) := by
 intro a0 a1 k
 obtain ⟨ih0, ih1, ih2, ih3⟩ := spec_SameRuns.mono_l k
 unfold spec_SameRuns.f
 repeat' first
   | (with_reducible exact ih0 _ _ _)
   | (with_reducible exact ih1 _ _ _ _ _)
   | (with_reducible exact ih2 _ _ _ _ _ _ _ _ _ _ _)
   | (with_reducible exact ih3 _ _ _)
   | (with_reducible exact spec_GoodSteps.mono _ _)
   | (with_reducible exact spec_l13Last.mono _ _ _ _)
   | (with_reducible exact spec_l13There.mono _ _ _ _)
   | (with_reducible exact LeO.refl _)
   | (with_reducible exact LeO.none _)
   | (with_reducible refine LeO.ite ?_ ?_)
   | (with_reducible refine LeO.bind ?_ (fun _ => ?_))
   | exact ih0 _ _ _
   | exact ih1 _ _ _ _ _
   | exact ih2 _ _ _ _ _ _ _ _ _ _ _
   | exact ih3 _ _ _
   | exact spec_GoodSteps.mono _ _
   | exact spec_l13Last.mono _ _ _ _
   | exact spec_l13There.mono _ _ _ _
   | exact LeO.none _
   | refine LeO.ite ?_ ?_
   | refine LeO.bind ?_ (fun _ => ?_)
def spec_SameRuns.T9 : Bool × List (List Nat × List Nat) := (true, [([], []), ([0], [0]), ([1], [1]), ([2], [2]), ([2], [2]), ([3, 4, 2], [2, 3, 4]), ([5, 2], [2, 5]), ([2], [2]), ([6, 7, 2], [2, 6, 7]), ([2, 8], [2, 8])])
def spec_SameRuns.B9 : List Nat := [0, 1, 3, 7, 7, 31, 63, 7, 255, 511]
theorem spec_SameRuns.tab9 : rtab .any (opsOf Try.f5 9) = spec_SameRuns.T9 := by kernel_rfl
theorem spec_SameRuns.bits9 : waitsOk spec_SameRuns.T9.2 spec_SameRuns.B9 = true := by kernel_rfl
def spec_SameRuns.T11 : Bool × List (List Nat × List Nat) := (true, [([], []), ([0], [0]), ([1], [1]), ([2], [2]), ([3], [3]), ([3], [3]), ([3], [3]), ([3], [3]), ([3], [3]), ([8, 3], [3, 8]), ([6, 7, 9, 3, 3], [3, 6, 7, 9]), ([4, 5, 10, 10, 3], [3, 4, 5, 10]), ([3], [3]), ([3], [3]), ([3], [3]), ([14, 3], [3, 14]), ([12, 13, 15, 11, 3], [3, 12, 13, 15]), ([11, 16, 3], [3, 11, 16]), ([3, 17], [3, 17])])
def spec_SameRuns.B11 : List Nat := [0, 1, 3, 7, 15, 15, 15, 15, 15, 271, 975, 2047, 15, 15, 15, 16399, 65535, 131071, 262143]
theorem spec_SameRuns.tab11 : rtab .any (opsOf Try.f5 11) = spec_SameRuns.T11 := by kernel_rfl
theorem spec_SameRuns.bits11 : waitsOk spec_SameRuns.T11.2 spec_SameRuns.B11 = true := by kernel_rfl
set_option maxHeartbeats 8000000 in
set_option maxRecDepth 100000 in
theorem spec_SameRuns.calls (k : Nat) (A0 : Option Addr) (c0 : Nat) (l0 : List (S32)) (A1 : Option Addr) (c1 : Nat) (l1 : List (S32)) (r1 : Bool) (r2 : Bool) (w : World) (hr0 : Kd.C k32 w A0 l0.length l0) (hc0 : l0.length ≤ c0) (hr1 : Kd.C k32 w A1 l1.length l1) (hc1 : l1.length ≤ c1) (h : spec_SameRuns.f k l0 l1 = some (r1, r2)) :
  Calls Try.prog 5 #[.slice A0 l0.length c0, .slice A1 l1.length c1] w fun e w' => e = .returned (.tuple #[.bool r1, .bool r2]) ∧ Below w.heap.size w w' := by
 have hu32 := Try.underlying32
 have HR0 := xm hr0
 have HC0 := xm hc0
 clear hr0 hc0
 have HR1 := xm hr1
 have HC1 := xm hc1
 clear hr1 hc1
 have HB := xm (Below.refl w.heap.size w)
 have H : ((spec_GoodSteps.f k l0).bind fun t119 => (if t119 = true then ((spec_GoodSteps.f k l1).bind fun t120 => (spec_SameRuns.j0 k l0 l1 (!t120))) else (spec_SameRuns.j0 k l0 l1 true))) = some (r1, r2) := h
 clear h
 have HC3 := xm H
 clear H
 go_enter Try.func5, Try.ntmps5
 go_upto_region 1 with (fail)
 go_cut [17] (fun v17 wc => ∃ (kq : Nat) (x17_2 : Bool), v17 = .bool x17_2 ∧ Aside0 (spec_SameRuns.j0 kq l0 l1 x17_2 = some (r1, r2)) ∧ Aside0 (kq ≤ k) ∧ Aside0 (Below w.heap.size w wc))
 case first =>
  have H := HC3.out
  clear HC3
  replace H := Option.bind_eq_some_iff.mp H
  obtain ⟨t119, A40, H⟩ := H
  replace H : (if t119 = true then ((spec_GoodSteps.f k l1).bind fun t120 => (spec_SameRuns.j0 k l0 l1 (!t120))) else (spec_SameRuns.j0 k l0 l1 true)) = some (r1, r2) := H
  have A4 := xm A40
  clear A40
  by_cases c5 : t119 = true
  ·subst c5
   have H1 : ((spec_GoodSteps.f k l1).bind fun t120 => (spec_SameRuns.j0 k l0 l1 (!t120))) = some (r1, r2) := by first | (with_reducible rfl) | (rw [if_pos rfl] at H; exact H)
   clear H
   have H := H1
   clear H1
   replace H := Option.bind_eq_some_iff.mp H
   obtain ⟨t120, A60, H⟩ := H
   replace H : (spec_SameRuns.j0 k l0 l1 (!t120)) = some (r1, r2) := H
   have A6 := xm A60
   clear A60
   have H' := xm H
   clear H
   go_wp2_with (first | ((with_reducible refine gate_callee (f := 9) rfl ?_); refine goesL_ (some 11) rfl rfl Try.func9 (by kernel_rfl) rfl #[.slice A0 l0.length c0] rfl mB ?_; (with_reducible refine (spec_GoodSteps.calls k _ _ l0 true _ ?side1 ?side2 A4.out).mono ?_); (case side1 => exact cB (Kd.C_below HR0.out HB.out)); (case side2 => exact HC0.out); rintro e w7 ⟨rfl, hb⟩; refine ⟨_, rfl, ?_⟩; have n0_ := xm (below_step bB hb); revert n0_; clear HB; intro HB; (try clear hb)) | (go_at_call 9; (with_reducible refine (spec_GoodSteps.calls k _ _ l1 t120 _ ?side1 ?side2 A6.out).mono ?_); (case side1 => exact cB (Kd.C_below HR1.out HB.out)); (case side2 => exact HC1.out); rintro e w8 ⟨rfl, hb⟩; have n0_ := xm (below_step bB hb); revert n0_; clear HB; intro HB; (try clear hb)))
   go_meet
   case rel => exact ⟨_, (!t120), sB, H', ⟨by first | omega | exact Nat.le_refl _⟩, ⟨bG⟩⟩
  ·replace c5 := Bool.eq_false_iff.mpr c5
   subst c5
   have H1 : (spec_SameRuns.j0 k l0 l1 true) = some (r1, r2) := by first | (with_reducible rfl) | (rw [if_neg (show ¬ (false = true) by decide)] at H; exact H)
   clear H
   have H := H1
   clear H1
   have H' := xm H
   clear H
   go_wp2_with (first | ((with_reducible refine gate_callee (f := 9) rfl ?_); refine goesL_ (some 11) rfl rfl Try.func9 (by kernel_rfl) rfl #[.slice A0 l0.length c0] rfl mB ?_; (with_reducible refine (spec_GoodSteps.calls k _ _ l0 false _ ?side1 ?side2 A4.out).mono ?_); (case side1 => exact cB (Kd.C_below HR0.out HB.out)); (case side2 => exact HC0.out); rintro e w9 ⟨rfl, hb⟩; refine ⟨_, rfl, ?_⟩; have n0_ := xm (below_step bB hb); revert n0_; clear HB; intro HB; (try clear hb)))
   go_meet
   case rel => exact ⟨_, (true), sB, H', ⟨by first | omega | exact Nat.le_refl _⟩, ⟨bG⟩⟩
 case rest =>
  clear HC3
  try clear c1
  try clear p2
  try clear c5
  try clear c9
  obtain ⟨kq, x17_2, rfl, HA, HJ2, HB⟩ := hcut
  cases kq with
  | zero => exact absurd HA.out (by simp [spec_SameRuns.j0])
  | succ kj2 =>
   have H := HA.out
   clear HA
   simp only [spec_SameRuns.j0] at H
   by_cases c10 : x17_2 = true
   ·subst c10
    have H1 : (some (false, false)) = some (r1, r2) := by first | (with_reducible rfl) | (rw [if_pos rfl] at H; exact H)
    clear H
    have H := H1
    clear H1
    simp only [Option.some.injEq, Prod.mk.injEq] at H
    obtain ⟨rfl, rfl⟩ := H
    go_wp2
    go_ret2
    exact ⟨eB, bG⟩
   ·replace c10 := Bool.eq_false_iff.mpr c10
    subst c10
    have H1 : (if (l0.length : Int) = (l1.length : Int) then (spec_SameRuns.l0 kj2 l0 l1 l0 (l0.length : Int) 0) else (some (false, true))) = some (r1, r2) := by first | (with_reducible rfl) | (rw [if_neg (show ¬ (false = true) by decide)] at H; exact H)
    clear H
    have H := H1
    clear H1
    by_cases c11 : (l0.length : Int) = (l1.length : Int)
    ·rw [if_pos c11] at H
     have c11b0 : ((l0.length : Int) == (l1.length : Int)) = true := beq_iff_eq.mpr c11
     have c11b1 : ((l0.length : Int) != (l1.length : Int)) = false := bne_eq_false_iff_eq.mpr c11
     have c11b2 : (l0.length == l1.length) = true := by first | simpa using c11 | (simp at c11 ⊢; omega)
     clear c11
     have H' := xm H
     clear H
     go_wp2
     go_loopg [25] kj2 (fun kq v25 w' => ∃ (x25_2 : Int), v25 = .int .i64 x25_2 ∧ Aside0 (spec_SameRuns.l0 kq l0 l1 l0 (l0.length : Int) x25_2 = some (r1, r2)) ∧ Aside0 (kq ≤ kj2) ∧ Aside0 (Below w.heap.size w w'))
     case atStart => exact ⟨(0), sB, H', ⟨Nat.le_refl _⟩, ⟨bG⟩⟩
     case round =>
      clear H'
      try clear c1
      try clear p2
      try clear c5
      try clear c9
      try clear c10
      try clear c11
      try clear c11b0 c11b1 c11b2
      try clear p2
      obtain ⟨x25_2, rfl, HA, HK2, HB⟩ := hrel
      cases gk with
      | zero => exact absurd HA.out (by simp [spec_SameRuns.l0])
      | succ k2 =>
       have H := HA.out
       clear HA
       simp only [spec_SameRuns.l0] at H
       by_cases c12 : x25_2 < (l0.length : Int)
       ·rw [if_pos c12] at H
        have c12b0 : decide (x25_2 < (l0.length : Int)) = true := decide_eq_true c12
        clear c12
        by_cases c13 : 0 ≤ x25_2
        ·rw [if_pos c13] at H
         have c13b0 : decide (0 ≤ x25_2) = true := decide_eq_true c13
         clear c13
         by_cases c14 : x25_2 < (l0.length : Int)
         ·rw [if_pos c14] at H
          have c14b0 : decide (x25_2 < (l0.length : Int)) = true := decide_eq_true c14
          clear c14
          replace H := Option.bind_eq_some_iff.mp H
          obtain ⟨t123, A150, H⟩ := H
          replace H : (if t123 < 0 then (spec_SameRuns.j2 k2 l0 l1 x25_2 t123 l0 (l0.length : Int) x25_2 true ((rd_T32 l0 x25_2).f0) ((rd_T32 l0 x25_2).f1) ((rd_T32 l0 x25_2).f2)) else (if 0 ≤ t123 then (if t123 < (l1.length : Int) then (spec_SameRuns.j2 k2 l0 l1 x25_2 t123 l0 (l0.length : Int) x25_2 (!(((rd_T32 l1 t123).f0) == ((rd_T32 l0 x25_2).f0)) || (!(((rd_T32 l1 t123).f1) == ((rd_T32 l0 x25_2).f1)) || (!(((rd_T32 l1 t123).f2) == ((rd_T32 l0 x25_2).f2))))) ((rd_T32 l0 x25_2).f0) ((rd_T32 l0 x25_2).f1) ((rd_T32 l0 x25_2).f2)) else (none)) else (none))) = some (r1, r2) := H
          have A15 := xm A150
          clear A150
          have HC16 := xm H
          clear H
          have p121 : 0 ≤ (x25_2 : Int) := of_decide_eq_true aB
          have q121 : x25_2 < (l0.length : Int) := of_decide_eq_true aB
          obtain ⟨ad121, e121, hx121_0, hx121_1, hx121_2⟩ := at_T32 HR0.out x25_2 p121 q121
          cases e121
          replace hx121_0 := hU hx121_0
          replace hx121_1 := hU hx121_1
          replace hx121_2 := hU hx121_2
          replace p121 := eq_true p121
          replace q121 := eq_true q121
          go_upto_region 9 with (first | ((with_reducible refine gate_dst (N := 7) rfl ?_); refine box_event ?hg (N := 7) ?hd (cs := #[.int .i64 0, .int .i64 0, .int .i64 0]) (t := 32) ?hr ?_; (case hd => rfl); (case hg => rfl); (case hr => exact zB); intro gb122 hg w17 hbox hb; have n0_ := xm (below_step bB hb); have n1_ := xm (hbox); have n2_ := xm ((by rw [hg]; exact (xz bB) : w.heap.size ≤ gb122)); have n3_ := xm ((by rw [hg]; exact (xz bB) : w.heap.size ≤ gb122)); revert n0_ n1_ n2_ n3_; clear HB; intro HB BK122 GW122 GE122; clear hb hbox hg; obtain ⟨hcz18_0, hcz18_1, hcz18_2, hfz18_0, hfz18_1, hfz18_2⟩ := cz3 BK122.out) | ((with_reducible refine gate_callee (f := 10) rfl ?_); refine goesL_ (some 33) rfl rfl Try.func10 (by kernel_rfl) rfl #[.slice (some ad121) l0.length c0, .slice A1 l1.length c1, .int .i64 x25_2] rfl mB ?_; (with_reducible refine (spec_l13There.calls k2 _ _ l0 _ _ l1 x25_2 t123 _ ?side1 ?side2 ?side3 ?side4 A15.out).mono ?_); (case side1 => exact Kd.C_below HR0.out bG); (case side2 => exact HC0.out); (case side3 => exact Kd.C_below HR1.out bG); (case side4 => exact HC1.out); rintro e w19 ⟨rfl, hb⟩; refine ⟨_, rfl, ?_⟩; have n0_ := xm (blk_below (g := gb122) (o := .cells #[.int .i64 ((rd_T32 l0 x25_2).f0), .int .i64 ((rd_T32 l0 x25_2).f1), .int .i64 ((rd_T32 l0 x25_2).f2)] 32 (0, 0)) (by (with_reducible repeat (first | refine xq ?_ _ | refine xr ?_ | refine xo ?_ _)); refine blk_put (cs := #[.int .i64 ((rd_T32 l0 x25_2).f0), .int .i64 ((rd_T32 l0 x25_2).f1), .int .i64 0]) ?_ 2 _ rfl; (with_reducible repeat (first | refine xq ?_ _ | refine xr ?_ | refine xo ?_ _)); refine blk_put (cs := #[.int .i64 ((rd_T32 l0 x25_2).f0), .int .i64 0, .int .i64 0]) ?_ 1 _ rfl; (with_reducible repeat (first | refine xq ?_ _ | refine xr ?_ | refine xo ?_ _)); refine blk_put (cs := #[.int .i64 0, .int .i64 0, .int .i64 0]) ?_ 0 _ rfl; (with_reducible repeat (first | refine xq ?_ _ | refine xr ?_ | refine xo ?_ _)); exact BK122.out) hb); have n1_ := xm (below_step bG hb); revert n0_ n1_; clear BK122 HB; intro BK122 HB; (try clear hb)))
          (try simp only [Act.put, xi, xj, xk])
          go_cut [43] (fun v43 wc => ∃ (kq : Nat) (x43_15 : Bool), v43 = .bool x43_15 ∧ Aside0 (spec_SameRuns.j2 kq l0 l1 x25_2 t123 l0 (l0.length : Int) x25_2 x43_15 ((rd_T32 l0 x25_2).f0) ((rd_T32 l0 x25_2).f1) ((rd_T32 l0 x25_2).f2) = some (r1, r2)) ∧ Aside0 (kq ≤ k2) ∧ Aside0 (wc.heap[gb122]? = some (.cells #[.int .i64 ((rd_T32 l0 x25_2).f0), .int .i64 ((rd_T32 l0 x25_2).f1), .int .i64 ((rd_T32 l0 x25_2).f2)] 32 (0, 0))) ∧ Aside0 (Below w.heap.size w wc))
          case first =>
           have H := HC16.out
           clear HC16
           by_cases c20 : t123 < 0
           ·rw [if_pos c20] at H
            have c20b0 : decide (t123 < 0) = true := decide_eq_true c20
            clear c20
            (first | rw [c20b0] | (simp only [i64_w, i32_w]; rw [c20b0]) | skip)
            have H' := xm H
            clear H
            try go_wp2
            have n0_ := xm (xr BK122.out)
            have n1_ := xm (xd HB.out)
            revert n0_ n1_; clear BK122 HB; intro BK122 HB
            refine start_ (n := 10) (S := fun w' => True) (ds := []) #[Z,Z,Z,Z,Z,Z,Z,Z,Z,Z] (by kernel_rfl) rfl rfl trivial (fun hHeld => ?_); refine with_tabW spec_SameRuns.tab9 spec_SameRuns.bits9 (fun HT_ HW_ => ?_)
            generalize w19.drew = w21 at BK122 HB hHeld ⊢
            refine pu 0 10 1 ?_
            refine pu 1 10 3 ?_
            refine pu 2 10 7 ?_
            refine ou 3 10 15 ?_
            refine ou 4 10 31 ?_
            refine ou 5 10 63 ?_
            refine ou 6 10 127 ?_
            refine ou 7 10 255 ?_
            refine ou 8 10 511 ?_
            refine pu 9 10 1023 ?_
            refine done_ (done_of HT_.out (by kernel_rfl)) ?_
            try go_wp2
            go_meet
            case rel => exact ⟨_, (true), sB, H', ⟨by have := HJ2.out; have := HK2.out; first | omega | exact Nat.le_refl _⟩, ⟨kB BK122⟩, ⟨bG⟩⟩
           ·rw [if_neg c20] at H
            have c20b0 : decide (t123 < 0) = false := decide_eq_false c20
            clear c20
            (first | rw [c20b0] | (simp only [i64_w, i32_w]; rw [c20b0]) | skip)
            by_cases c22 : 0 ≤ t123
            ·rw [if_pos c22] at H
             have c22b0 : decide (0 ≤ t123) = true := decide_eq_true c22
             clear c22
             by_cases c23 : t123 < (l1.length : Int)
             ·rw [if_pos c23] at H
              have c23b0 : decide (t123 < (l1.length : Int)) = true := decide_eq_true c23
              clear c23
              have H' := xm H
              clear H
              try go_wp2
              have n0_ := xm (xr BK122.out)
              have n1_ := xm (xd HB.out)
              revert n0_ n1_; clear BK122 HB; intro BK122 HB
              have p124 : 0 ≤ (t123 : Int) := of_decide_eq_true aB
              have q124 : t123 < (l1.length : Int) := of_decide_eq_true aB
              obtain ⟨ad124, e124, hx124_0, hx124_1, hx124_2⟩ := at_T32 HR1.out t123 p124 q124
              have hw124_2 := hx124_2
              have hw124_1 := hx124_1
              have hw124_0 := hx124_0
              cases e124
              replace hx124_0 := hU hx124_0
              replace hx124_1 := hU hx124_1
              replace hx124_2 := hU hx124_2
              replace p124 := eq_true p124
              replace q124 := eq_true q124
              refine start_ (n := 10) (S := fun w' => w'.cell? ⟨gb122, 0, none⟩ = some (.int .i64 ((rd_T32 l0 x25_2).f0)) ∧ w'.cell? ⟨gb122, 1, none⟩ = some (.int .i64 ((rd_T32 l0 x25_2).f1)) ∧ w'.cell? ⟨gb122, 2, none⟩ = some (.int .i64 ((rd_T32 l0 x25_2).f2)) ∧ w'.cell? (ad124.add ((t123).toNat * 3)) = some (.int .i64 ((rd_T32 l1 t123).f0)) ∧ w'.cell? ⟨(ad124.add ((t123).toNat * 3)).block, (ad124.add ((t123).toNat * 3)).off + 1, none⟩ = some (.int .i64 ((rd_T32 l1 t123).f1)) ∧ w'.cell? ⟨(ad124.add ((t123).toNat * 3)).block, (ad124.add ((t123).toNat * 3)).off + 2, none⟩ = some (.int .i64 ((rd_T32 l1 t123).f2))) (ds := []) #[Z,Z,Z,Z,Z,Z,Z,Z,Z,Z] (by kernel_rfl) rfl rfl ⟨(xc BK122.out 0).trans rfl, (xc BK122.out 1).trans rfl, (xc BK122.out 2).trans rfl, ((HB.out.cell (World.block_lt_of_cell? w _ hw124_0)).trans hw124_0), ((HB.out.cell (World.block_lt_of_cell? w _ hw124_1)).trans hw124_1), ((HB.out.cell (World.block_lt_of_cell? w _ hw124_2)).trans hw124_2)⟩ (fun hHeld => ?_); refine with_tabW spec_SameRuns.tab9 spec_SameRuns.bits9 (fun HT_ HW_ => ?_)
              generalize w19.drew = w24 at BK122 HB hx124_0 hx124_1 hx124_2 hHeld ⊢
              refine pu 0 10 1 ?_
              refine pu 1 10 3 ?_
              refine pu 2 10 7 ?_
              refine pu 3 10 15 ?_
              refine pu 4 10 31 ?_
              refine pu 5 10 63 ?_
              refine tx 6 10 127 rfl rfl (take_ofW HT_.out HW_.out (by kernel_rfl)) hHeld (by rintro w' ⟨s0, s1, s2, s3, s4, s5⟩; go_simp; with_reducible rfl) ?_
              refine tx 7 10 255 rfl rfl (take_ofW HT_.out HW_.out (by kernel_rfl)) hHeld (by rintro w' ⟨s0, s1, s2, s3, s4, s5⟩; go_simp; with_reducible rfl) ?_
              refine pu 8 10 511 ?_
              refine pu 9 10 1023 ?_
              refine done_ (done_of HT_.out (by kernel_rfl)) ?_
              try go_wp2
              go_meet
              case rel => exact ⟨_, ((!(((rd_T32 l1 t123).f0) == ((rd_T32 l0 x25_2).f0)) || (!(((rd_T32 l1 t123).f1) == ((rd_T32 l0 x25_2).f1)) || (!(((rd_T32 l1 t123).f2) == ((rd_T32 l0 x25_2).f2)))))), sB, H', ⟨by have := HJ2.out; have := HK2.out; first | omega | exact Nat.le_refl _⟩, ⟨kB BK122⟩, ⟨bG⟩⟩
             ·rw [if_neg c23] at H
              exact absurd H (by simp)
            ·rw [if_neg c22] at H
             exact absurd H (by simp)
          case rest =>
           clear HC16
           try clear c1
           try clear p1
           try clear q1
           try clear hx1
           try clear c2
           try clear p2
           try clear c5
           try clear c9
           try clear c10
           try clear c11
           try clear c11b0 c11b1 c11b2
           try clear c12
           try clear c12b0
           try clear p12
           try clear q12
           try clear hx12
           try clear c13
           try clear c13b0
           try clear c14
           try clear c14b0
           try clear c20
           try clear c20b0
           try clear c22
           try clear c22b0
           try clear c23
           try clear c23b0
           try clear hcz18_0 hcz18_1 hcz18_2 hfz18_0 hfz18_1 hfz18_2
           try clear hx121_0
           try clear hx121_1
           try clear hx121_2
           try clear hx124_0
           try clear hx124_1
           try clear hx124_2
           try clear p121
           try clear p124
           try clear p2
           try clear q121
           try clear q124
           obtain ⟨kq, x43_15, rfl, HA, HJ15, BK122, HB⟩ := hcut
           cases kq with
           | zero => exact absurd HA.out (by simp [spec_SameRuns.j2])
           | succ kj15 =>
            have H := HA.out
            clear HA
            simp only [spec_SameRuns.j2] at H
            by_cases c25 : x43_15 = true
            ·subst c25
             have H1 : (some (false, true)) = some (r1, r2) := by first | (with_reducible rfl) | (rw [if_pos rfl] at H; exact H)
             clear H
             have H := H1
             clear H1
             simp only [Option.some.injEq, Prod.mk.injEq] at H
             obtain ⟨rfl, rfl⟩ := H
             go_wp2
             go_ret2
             exact ⟨eB, bG⟩
            ·replace c25 := Bool.eq_false_iff.mpr c25
             subst c25
             have H1 : (if ((rd_T32 l0 x25_2).f1) = 1 then ((spec_l13Last.f kj15 l0 x25_2 ((rd_T32 l0 x25_2).f2)).bind fun t125 => ((spec_l13There.f kj15 l0 l1 t125).bind fun t126 => ((spec_l13Last.f kj15 l1 t123 ((rd_T32 l0 x25_2).f2)).bind fun t127 => (if t126 = t127 then (spec_SameRuns.l0 kj15 l0 l1 l0 (l0.length : Int) (wrap64 (x25_2 + 1))) else (some (false, true)))))) else (spec_SameRuns.l0 kj15 l0 l1 l0 (l0.length : Int) (wrap64 (x25_2 + 1)))) = some (r1, r2) := by first | (with_reducible rfl) | (rw [if_neg (show ¬ (false = true) by decide)] at H; exact H)
             clear H
             have H := H1
             clear H1
             by_cases c26 : ((rd_T32 l0 x25_2).f1) = 1
             ·rw [if_pos c26] at H
              have c26b0 : (((rd_T32 l0 x25_2).f1) == 1) = true := beq_iff_eq.mpr c26
              have c26b1 : (((rd_T32 l0 x25_2).f1) != 1) = false := bne_eq_false_iff_eq.mpr c26
              clear c26
              replace H := Option.bind_eq_some_iff.mp H
              obtain ⟨t125, A270, H⟩ := H
              replace H : ((spec_l13There.f kj15 l0 l1 t125).bind fun t126 => ((spec_l13Last.f kj15 l1 t123 ((rd_T32 l0 x25_2).f2)).bind fun t127 => (if t126 = t127 then (spec_SameRuns.l0 kj15 l0 l1 l0 (l0.length : Int) (wrap64 (x25_2 + 1))) else (some (false, true))))) = some (r1, r2) := H
              have A27 := xm A270
              clear A270
              replace H := Option.bind_eq_some_iff.mp H
              obtain ⟨t126, A280, H⟩ := H
              replace H : ((spec_l13Last.f kj15 l1 t123 ((rd_T32 l0 x25_2).f2)).bind fun t127 => (if t126 = t127 then (spec_SameRuns.l0 kj15 l0 l1 l0 (l0.length : Int) (wrap64 (x25_2 + 1))) else (some (false, true)))) = some (r1, r2) := H
              have A28 := xm A280
              clear A280
              replace H := Option.bind_eq_some_iff.mp H
              obtain ⟨t127, A290, H⟩ := H
              replace H : (if t126 = t127 then (spec_SameRuns.l0 kj15 l0 l1 l0 (l0.length : Int) (wrap64 (x25_2 + 1))) else (some (false, true))) = some (r1, r2) := H
              have A29 := xm A290
              clear A290
              by_cases c30 : t126 = t127
              ·rw [if_pos c30] at H
               have c30b0 : (t126 == t127) = true := beq_iff_eq.mpr c30
               have c30b1 : (t126 != t127) = false := bne_eq_false_iff_eq.mpr c30
               clear c30
               have H' := xm H
               clear H
               try go_wp2
               have n0_ := xm (xr BK122.out)
               have n1_ := xm (xd HB.out)
               revert n0_ n1_; clear BK122 HB; intro BK122 HB
               refine start_ (n := 19) (S := fun w' => w'.cell? ⟨gb122, 0, none⟩ = some (.int .i64 ((rd_T32 l0 x25_2).f0)) ∧ w'.cell? ⟨gb122, 1, none⟩ = some (.int .i64 ((rd_T32 l0 x25_2).f1)) ∧ w'.cell? ⟨gb122, 2, none⟩ = some (.int .i64 ((rd_T32 l0 x25_2).f2))) (ds := []) #[Z,Z,Z,Z,Z,Z,Z,Z,Z,Z,Z,Z,Z,Z,Z,Z,Z,Z,Z] (by kernel_rfl) rfl rfl ⟨(xc BK122.out 0).trans rfl, (xc BK122.out 1).trans rfl, (xc BK122.out 2).trans rfl⟩ (fun hHeld => ?_); refine with_tabW spec_SameRuns.tab11 spec_SameRuns.bits11 (fun HT_ HW_ => ?_)
               generalize wc.drew = w31 at BK122 HB hHeld ⊢
               refine pu 0 19 1 ?_
               refine tx 1 19 3 rfl rfl (take_ofW HT_.out HW_.out (by kernel_rfl)) hHeld (by rintro w' ⟨s0, s1, s2⟩; go_simp; with_reducible rfl) ?_
               refine pu 2 19 7 ?_
               refine pu 3 19 15 ?_
               refine pu 4 19 31 ?_
               refine pu 5 19 63 ?_
               refine pu 6 19 127 ?_
               refine pu 7 19 255 ?_
               refine pu 8 19 511 ?_
               refine pu 12 19 4607 ?_
               refine pu 13 19 12799 ?_
               refine pu 14 19 29183 ?_
               refine tx 9 19 29695 rfl rfl (take_ofW HT_.out HW_.out (by kernel_rfl)) hHeld (by rintro w' ⟨s0, s1, s2⟩; go_simp; with_reducible rfl) ?_
               refine tx 15 19 62463 rfl rfl (take_ofW HT_.out HW_.out (by kernel_rfl)) hHeld (by rintro w' ⟨s0, s1, s2⟩; go_simp; with_reducible rfl) ?_
               refine one_ (i := 10) (N := some 54) #[Y,Y,Y,Y,Y,Y,Y,Y,Y,Y,Y,Z,Y,Y,Y,Y,Z,Z,Z] rfl rfl (one_of HT_.out (by kernel_rfl)) (by decide) (fun K hK => ?_)
               refine goes_ Try.func11 (by kernel_rfl) rfl #[.slice (some ad121) l0.length c0, .int .i64 x25_2, .int .i64 ((rd_T32 l0 x25_2).f2)] (by rfl) rfl rfl mB ?_
               with_reducible refine (spec_l13Last.calls kj15 _ _ l0 x25_2 ((rd_T32 l0 x25_2).f2) t125 _ ?side1 ?side2 A27.out).mono ?_
               (case side1 => exact cB (Kd.C_below HR0.out HB.out))
               (case side2 => exact HC0.out)
               rintro e w' ⟨rfl, ⟨nd, rfl⟩⟩
               refine ⟨_, rfl, ?_⟩
               refine hK.out _ _ ⟨(xc BK122.out 0).trans rfl, (xc BK122.out 1).trans rfl, (xc BK122.out 2).trans rfl⟩ (fun hHeld => nC ?_)
               clear hK K
               refine one_ (i := 11) (N := some 55) #[Y,Y,Y,Y,Y,Y,Y,Y,Y,Y,Y,Y,Y,Y,Y,Y,Z,Z,Z] rfl rfl (one_of HT_.out (by kernel_rfl)) (by decide) (fun K hK => ?_)
               refine goes_ Try.func10 (by kernel_rfl) rfl #[.slice (some ad121) l0.length c0, .slice A1 l1.length c1, .int .i64 t125] (by rfl) rfl rfl mB ?_
               with_reducible refine (spec_l13There.calls kj15 _ _ l0 _ _ l1 t125 t126 _ ?side1 ?side2 ?side3 ?side4 A28.out).mono ?_
               (case side1 => repeat (first | exact (Kd.C_below HR0.out bG) | (with_reducible refine Kd.C_alloc ?_ _) | (with_reducible refine Kd.C_drewN ?_ _) | (with_reducible refine Kd.C_drew ?_)))
               (case side2 => exact HC0.out)
               (case side3 => repeat (first | exact (Kd.C_below HR1.out bG) | (with_reducible refine Kd.C_alloc ?_ _) | (with_reducible refine Kd.C_drewN ?_ _) | (with_reducible refine Kd.C_drew ?_)))
               (case side4 => exact HC1.out)
               rintro e w32 ⟨rfl, hb⟩
               refine ⟨_, rfl, ?_⟩
               have n0_ := xm (blk_below (kB BK122) hb)
               have n1_ := xm (below_step bG hb)
               revert n0_ n1_; clear BK122 HB; intro BK122 HB
               (try clear hb)
               (try clear hb2)
               (try clear hk)
               (try clear hi)
               refine hK.out _ _ ⟨(xc BK122.out 0).trans rfl, (xc BK122.out 1).trans rfl, (xc BK122.out 2).trans rfl⟩ (fun hHeld => nC ?_)
               clear hK K
               refine one_ (i := 16) (N := some 60) #[Y,Y,Y,Y,Y,Y,Y,Y,Y,Y,Y,Y,Y,Y,Y,Y,Y,Z,Z] rfl rfl (one_of HT_.out (by kernel_rfl)) (by decide) (fun K hK => ?_)
               refine goes_ Try.func11 (by kernel_rfl) rfl #[.slice A1 l1.length c1, .int .i64 t123, .int .i64 ((rd_T32 l0 x25_2).f2)] (by rfl) rfl rfl mB ?_
               with_reducible refine (spec_l13Last.calls kj15 _ _ l1 t123 ((rd_T32 l0 x25_2).f2) t127 _ ?side1 ?side2 A29.out).mono ?_
               (case side1 => exact cB (Kd.C_below HR1.out HB.out))
               (case side2 => exact HC1.out)
               rintro e w' ⟨rfl, ⟨nd, rfl⟩⟩
               refine ⟨_, rfl, ?_⟩
               refine hK.out _ _ ⟨(xc BK122.out 0).trans rfl, (xc BK122.out 1).trans rfl, (xc BK122.out 2).trans rfl⟩ (fun hHeld => nC ?_)
               clear hK K
               refine pu 17 19 262143 ?_
               refine pu 18 19 524287 ?_
               refine done_ (done_of HT_.out (by kernel_rfl)) ?_
               try go_wp2
               go_roundg kj15
               case measure => have := HJ2.out; have := HK2.out; have := HJ15.out; omega
               case rel => exact ⟨(wrap64 (x25_2 + 1)), sB, H', ⟨by have := HJ2.out; have := HK2.out; have := HJ15.out; omega⟩, ⟨bG⟩⟩
              ·rw [if_neg c30] at H
               have c30b0 : (t126 == t127) = false := beq_eq_false_iff_ne.mpr c30
               have c30b1 : (t126 != t127) = true := bne_iff_ne.mpr c30
               simp only [Option.some.injEq, Prod.mk.injEq] at H
               obtain ⟨rfl, rfl⟩ := H
               try go_wp2
               have n0_ := xm (xr BK122.out)
               have n1_ := xm (xd HB.out)
               revert n0_ n1_; clear BK122 HB; intro BK122 HB
               refine start_ (n := 19) (S := fun w' => w'.cell? ⟨gb122, 0, none⟩ = some (.int .i64 ((rd_T32 l0 x25_2).f0)) ∧ w'.cell? ⟨gb122, 1, none⟩ = some (.int .i64 ((rd_T32 l0 x25_2).f1)) ∧ w'.cell? ⟨gb122, 2, none⟩ = some (.int .i64 ((rd_T32 l0 x25_2).f2))) (ds := []) #[Z,Z,Z,Z,Z,Z,Z,Z,Z,Z,Z,Z,Z,Z,Z,Z,Z,Z,Z] (by kernel_rfl) rfl rfl ⟨(xc BK122.out 0).trans rfl, (xc BK122.out 1).trans rfl, (xc BK122.out 2).trans rfl⟩ (fun hHeld => ?_); refine with_tabW spec_SameRuns.tab11 spec_SameRuns.bits11 (fun HT_ HW_ => ?_)
               generalize wc.drew = w33 at BK122 HB hHeld ⊢
               refine pu 0 19 1 ?_
               refine tx 1 19 3 rfl rfl (take_ofW HT_.out HW_.out (by kernel_rfl)) hHeld (by rintro w' ⟨s0, s1, s2⟩; go_simp; with_reducible rfl) ?_
               refine pu 2 19 7 ?_
               refine pu 3 19 15 ?_
               refine pu 4 19 31 ?_
               refine pu 5 19 63 ?_
               refine pu 6 19 127 ?_
               refine pu 7 19 255 ?_
               refine pu 8 19 511 ?_
               refine pu 12 19 4607 ?_
               refine pu 13 19 12799 ?_
               refine pu 14 19 29183 ?_
               refine tx 9 19 29695 rfl rfl (take_ofW HT_.out HW_.out (by kernel_rfl)) hHeld (by rintro w' ⟨s0, s1, s2⟩; go_simp; with_reducible rfl) ?_
               refine tx 15 19 62463 rfl rfl (take_ofW HT_.out HW_.out (by kernel_rfl)) hHeld (by rintro w' ⟨s0, s1, s2⟩; go_simp; with_reducible rfl) ?_
               refine one_ (i := 10) (N := some 54) #[Y,Y,Y,Y,Y,Y,Y,Y,Y,Y,Y,Z,Y,Y,Y,Y,Z,Z,Z] rfl rfl (one_of HT_.out (by kernel_rfl)) (by decide) (fun K hK => ?_)
               refine goes_ Try.func11 (by kernel_rfl) rfl #[.slice (some ad121) l0.length c0, .int .i64 x25_2, .int .i64 ((rd_T32 l0 x25_2).f2)] (by rfl) rfl rfl mB ?_
               with_reducible refine (spec_l13Last.calls kj15 _ _ l0 x25_2 ((rd_T32 l0 x25_2).f2) t125 _ ?side1 ?side2 A27.out).mono ?_
               (case side1 => exact cB (Kd.C_below HR0.out HB.out))
               (case side2 => exact HC0.out)
               rintro e w' ⟨rfl, ⟨nd, rfl⟩⟩
               refine ⟨_, rfl, ?_⟩
               refine hK.out _ _ ⟨(xc BK122.out 0).trans rfl, (xc BK122.out 1).trans rfl, (xc BK122.out 2).trans rfl⟩ (fun hHeld => nC ?_)
               clear hK K
               refine one_ (i := 11) (N := some 55) #[Y,Y,Y,Y,Y,Y,Y,Y,Y,Y,Y,Y,Y,Y,Y,Y,Z,Z,Z] rfl rfl (one_of HT_.out (by kernel_rfl)) (by decide) (fun K hK => ?_)
               refine goes_ Try.func10 (by kernel_rfl) rfl #[.slice (some ad121) l0.length c0, .slice A1 l1.length c1, .int .i64 t125] (by rfl) rfl rfl mB ?_
               with_reducible refine (spec_l13There.calls kj15 _ _ l0 _ _ l1 t125 t126 _ ?side1 ?side2 ?side3 ?side4 A28.out).mono ?_
               (case side1 => repeat (first | exact (Kd.C_below HR0.out bG) | (with_reducible refine Kd.C_alloc ?_ _) | (with_reducible refine Kd.C_drewN ?_ _) | (with_reducible refine Kd.C_drew ?_)))
               (case side2 => exact HC0.out)
               (case side3 => repeat (first | exact (Kd.C_below HR1.out bG) | (with_reducible refine Kd.C_alloc ?_ _) | (with_reducible refine Kd.C_drewN ?_ _) | (with_reducible refine Kd.C_drew ?_)))
               (case side4 => exact HC1.out)
               rintro e w34 ⟨rfl, hb⟩
               refine ⟨_, rfl, ?_⟩
               have n0_ := xm (blk_below (kB BK122) hb)
               have n1_ := xm (below_step bG hb)
               revert n0_ n1_; clear BK122 HB; intro BK122 HB
               (try clear hb)
               (try clear hb2)
               (try clear hk)
               (try clear hi)
               refine hK.out _ _ ⟨(xc BK122.out 0).trans rfl, (xc BK122.out 1).trans rfl, (xc BK122.out 2).trans rfl⟩ (fun hHeld => nC ?_)
               clear hK K
               refine one_ (i := 16) (N := some 60) #[Y,Y,Y,Y,Y,Y,Y,Y,Y,Y,Y,Y,Y,Y,Y,Y,Y,Z,Z] rfl rfl (one_of HT_.out (by kernel_rfl)) (by decide) (fun K hK => ?_)
               refine goes_ Try.func11 (by kernel_rfl) rfl #[.slice A1 l1.length c1, .int .i64 t123, .int .i64 ((rd_T32 l0 x25_2).f2)] (by rfl) rfl rfl mB ?_
               with_reducible refine (spec_l13Last.calls kj15 _ _ l1 t123 ((rd_T32 l0 x25_2).f2) t127 _ ?side1 ?side2 A29.out).mono ?_
               (case side1 => exact cB (Kd.C_below HR1.out HB.out))
               (case side2 => exact HC1.out)
               rintro e w' ⟨rfl, ⟨nd, rfl⟩⟩
               refine ⟨_, rfl, ?_⟩
               refine hK.out _ _ ⟨(xc BK122.out 0).trans rfl, (xc BK122.out 1).trans rfl, (xc BK122.out 2).trans rfl⟩ (fun hHeld => nC ?_)
               clear hK K
               refine pu 17 19 262143 ?_
               refine pu 18 19 524287 ?_
               refine done_ (done_of HT_.out (by kernel_rfl)) ?_
               try go_wp2
               go_ret2
               exact ⟨eB, bG⟩
             ·rw [if_neg c26] at H
              have c26b0 : (((rd_T32 l0 x25_2).f1) == 1) = false := beq_eq_false_iff_ne.mpr c26
              have c26b1 : (((rd_T32 l0 x25_2).f1) != 1) = true := bne_iff_ne.mpr c26
              have H' := xm H
              clear H
              try go_wp2
              have n0_ := xm (xr BK122.out)
              have n1_ := xm (xd HB.out)
              revert n0_ n1_; clear BK122 HB; intro BK122 HB
              refine start_ (n := 19) (S := fun w' => w'.cell? ⟨gb122, 0, none⟩ = some (.int .i64 ((rd_T32 l0 x25_2).f0)) ∧ w'.cell? ⟨gb122, 1, none⟩ = some (.int .i64 ((rd_T32 l0 x25_2).f1)) ∧ w'.cell? ⟨gb122, 2, none⟩ = some (.int .i64 ((rd_T32 l0 x25_2).f2))) (ds := []) #[Z,Z,Z,Z,Z,Z,Z,Z,Z,Z,Z,Z,Z,Z,Z,Z,Z,Z,Z] (by kernel_rfl) rfl rfl ⟨(xc BK122.out 0).trans rfl, (xc BK122.out 1).trans rfl, (xc BK122.out 2).trans rfl⟩ (fun hHeld => ?_); refine with_tabW spec_SameRuns.tab11 spec_SameRuns.bits11 (fun HT_ HW_ => ?_)
              generalize wc.drew = w35 at BK122 HB hHeld ⊢
              refine pu 0 19 1 ?_
              refine tx 1 19 3 rfl rfl (take_ofW HT_.out HW_.out (by kernel_rfl)) hHeld (by rintro w' ⟨s0, s1, s2⟩; go_simp; with_reducible rfl) ?_
              refine pu 2 19 7 ?_
              refine pu 3 19 15 ?_
              refine ou 4 19 31 ?_
              refine ou 5 19 63 ?_
              refine ou 6 19 127 ?_
              refine ou 7 19 255 ?_
              refine ou 8 19 511 ?_
              refine ou 9 19 1023 ?_
              refine ou 10 19 2047 ?_
              refine ou 11 19 4095 ?_
              refine ou 12 19 8191 ?_
              refine ou 13 19 16383 ?_
              refine ou 14 19 32767 ?_
              refine ou 15 19 65535 ?_
              refine ou 16 19 131071 ?_
              refine ou 17 19 262143 ?_
              refine pu 18 19 524287 ?_
              refine done_ (done_of HT_.out (by kernel_rfl)) ?_
              try go_wp2
              go_roundg kj15
              case measure => have := HJ2.out; have := HK2.out; have := HJ15.out; omega
              case rel => exact ⟨(wrap64 (x25_2 + 1)), sB, H', ⟨by have := HJ2.out; have := HK2.out; have := HJ15.out; omega⟩, ⟨bG⟩⟩
         ·rw [if_neg c14] at H
          exact absurd H (by simp)
        ·rw [if_neg c13] at H
         exact absurd H (by simp)
       ·rw [if_neg c12] at H
        have c12b0 : decide (x25_2 < (l0.length : Int)) = false := decide_eq_false c12
        clear c12
        have H' := xm H
        clear H
        go_wp2
        go_loopg [9] k2 (fun kq v9 w' => ∃ (x9_3 : Int), v9 = .int .i64 x9_3 ∧ Aside0 (spec_SameRuns.l1 kq l0 l1 x9_3 = some (r1, r2)) ∧ Aside0 (kq ≤ k2) ∧ Aside0 (Below w.heap.size w w'))
        case atStart => exact ⟨(0), sB, H', ⟨Nat.le_refl _⟩, ⟨bG⟩⟩
        case round =>
         clear H'
         try clear c1
         try clear p1
         try clear q1
         try clear hx1
         try clear c2
         try clear p2
         try clear c3
         try clear p6
         try clear c10
         try clear c11
         try clear c12
         try clear c12b0
         try clear p12
         try clear q12
         try clear hx12
         try clear c13
         try clear c14
         try clear c23
         try clear c23b0
         try clear c25
         try clear c26
         try clear c26b0 c26b1
         try clear c30
         try clear c30b0 c30b1
         try clear hcz18_0 hcz18_1 hcz18_2 hfz18_0 hfz18_1 hfz18_2
         try clear hx121_0
         try clear hx121_1
         try clear hx121_2
         try clear hx124_0
         try clear hx124_1
         try clear hx124_2
         try clear p121
         try clear p124
         try clear p2
         try clear q121
         try clear q124
         obtain ⟨x9_3, rfl, HA, HK3, HB⟩ := hrel
         cases gk with
         | zero => exact absurd HA.out (by simp [spec_SameRuns.l1])
         | succ k3 =>
          have H := HA.out
          clear HA
          simp only [spec_SameRuns.l1] at H
          by_cases c36 : x9_3 < 4
          ·rw [if_pos c36] at H
           have c36b0 : decide (x9_3 < 4) = true := decide_eq_true c36
           clear c36
           replace H := Option.bind_eq_some_iff.mp H
           obtain ⟨t128, A370, H⟩ := H
           replace H : ((spec_l13There.f k3 l0 l1 t128).bind fun t129 => ((spec_l13Last.f k3 l1 (l1.length : Int) x9_3).bind fun t130 => (if t129 = t130 then (spec_SameRuns.l1 k3 l0 l1 (wrap64 (x9_3 + 1))) else (some (false, true))))) = some (r1, r2) := H
           have A37 := xm A370
           clear A370
           replace H := Option.bind_eq_some_iff.mp H
           obtain ⟨t129, A380, H⟩ := H
           replace H : ((spec_l13Last.f k3 l1 (l1.length : Int) x9_3).bind fun t130 => (if t129 = t130 then (spec_SameRuns.l1 k3 l0 l1 (wrap64 (x9_3 + 1))) else (some (false, true)))) = some (r1, r2) := H
           have A38 := xm A380
           clear A380
           replace H := Option.bind_eq_some_iff.mp H
           obtain ⟨t130, A390, H⟩ := H
           replace H : (if t129 = t130 then (spec_SameRuns.l1 k3 l0 l1 (wrap64 (x9_3 + 1))) else (some (false, true))) = some (r1, r2) := H
           have A39 := xm A390
           clear A390
           by_cases c40 : t129 = t130
           ·rw [if_pos c40] at H
            have c40b0 : (t129 == t130) = true := beq_iff_eq.mpr c40
            have c40b1 : (t129 != t130) = false := bne_eq_false_iff_eq.mpr c40
            clear c40
            have H' := xm H
            clear H
            go_wp2_with (first | ((with_reducible refine gate_callee (f := 11) rfl ?_); refine goesL_ (some 74) rfl rfl Try.func11 (by kernel_rfl) rfl #[.slice A0 l0.length c0, .int .i64 (l0.length : Int), .int .i64 x9_3] rfl mB ?_; (with_reducible refine (spec_l13Last.calls k3 _ _ l0 (l0.length : Int) x9_3 t128 _ ?side1 ?side2 A37.out).mono ?_); (case side1 => exact cB (Kd.C_below HR0.out HB.out)); (case side2 => exact HC0.out); rintro e w' ⟨rfl, ⟨nd, rfl⟩⟩; refine ⟨_, rfl, ?_⟩) | ((with_reducible refine gate_callee (f := 10) rfl ?_); refine goesL_ (some 75) rfl rfl Try.func10 (by kernel_rfl) rfl #[.slice A0 l0.length c0, .slice A1 l1.length c1, .int .i64 t128] rfl mB ?_; (with_reducible refine (spec_l13There.calls k3 _ _ l0 _ _ l1 t128 t129 _ ?side1 ?side2 ?side3 ?side4 A38.out).mono ?_); (case side1 => repeat (first | exact (Kd.C_below HR0.out bB) | (with_reducible refine Kd.C_alloc ?_ _) | (with_reducible refine Kd.C_drewN ?_ _) | (with_reducible refine Kd.C_drew ?_))); (case side2 => exact HC0.out); (case side3 => repeat (first | exact (Kd.C_below HR1.out bB) | (with_reducible refine Kd.C_alloc ?_ _) | (with_reducible refine Kd.C_drewN ?_ _) | (with_reducible refine Kd.C_drew ?_))); (case side4 => exact HC1.out); rintro e w41 ⟨rfl, hb⟩; refine ⟨_, rfl, ?_⟩; have n0_ := xm (below_step bB hb); revert n0_; clear HB; intro HB; (try clear hb)) | ((with_reducible refine gate_callee (f := 11) rfl ?_); refine goesL_ (some 80) rfl rfl Try.func11 (by kernel_rfl) rfl #[.slice A1 l1.length c1, .int .i64 (l1.length : Int), .int .i64 x9_3] rfl mB ?_; (with_reducible refine (spec_l13Last.calls k3 _ _ l1 (l1.length : Int) x9_3 t130 _ ?side1 ?side2 A39.out).mono ?_); (case side1 => exact cB (Kd.C_below HR1.out HB.out)); (case side2 => exact HC1.out); rintro e w' ⟨rfl, ⟨nd, rfl⟩⟩; refine ⟨_, rfl, ?_⟩))
            go_roundg k3
            case measure => have := HJ2.out; have := HK2.out; have := HK3.out; omega
            case rel => exact ⟨(wrap64 (x9_3 + 1)), sB, H', ⟨by have := HJ2.out; have := HK2.out; have := HK3.out; omega⟩, ⟨bG⟩⟩
           ·rw [if_neg c40] at H
            have c40b0 : (t129 == t130) = false := beq_eq_false_iff_ne.mpr c40
            have c40b1 : (t129 != t130) = true := bne_iff_ne.mpr c40
            simp only [Option.some.injEq, Prod.mk.injEq] at H
            obtain ⟨rfl, rfl⟩ := H
            go_wp2_with (first | ((with_reducible refine gate_callee (f := 11) rfl ?_); refine goesL_ (some 74) rfl rfl Try.func11 (by kernel_rfl) rfl #[.slice A0 l0.length c0, .int .i64 (l0.length : Int), .int .i64 x9_3] rfl mB ?_; (with_reducible refine (spec_l13Last.calls k3 _ _ l0 (l0.length : Int) x9_3 t128 _ ?side1 ?side2 A37.out).mono ?_); (case side1 => exact cB (Kd.C_below HR0.out HB.out)); (case side2 => exact HC0.out); rintro e w' ⟨rfl, ⟨nd, rfl⟩⟩; refine ⟨_, rfl, ?_⟩) | ((with_reducible refine gate_callee (f := 10) rfl ?_); refine goesL_ (some 75) rfl rfl Try.func10 (by kernel_rfl) rfl #[.slice A0 l0.length c0, .slice A1 l1.length c1, .int .i64 t128] rfl mB ?_; (with_reducible refine (spec_l13There.calls k3 _ _ l0 _ _ l1 t128 t129 _ ?side1 ?side2 ?side3 ?side4 A38.out).mono ?_); (case side1 => repeat (first | exact (Kd.C_below HR0.out bB) | (with_reducible refine Kd.C_alloc ?_ _) | (with_reducible refine Kd.C_drewN ?_ _) | (with_reducible refine Kd.C_drew ?_))); (case side2 => exact HC0.out); (case side3 => repeat (first | exact (Kd.C_below HR1.out bB) | (with_reducible refine Kd.C_alloc ?_ _) | (with_reducible refine Kd.C_drewN ?_ _) | (with_reducible refine Kd.C_drew ?_))); (case side4 => exact HC1.out); rintro e w42 ⟨rfl, hb⟩; refine ⟨_, rfl, ?_⟩; have n0_ := xm (below_step bB hb); revert n0_; clear HB; intro HB; (try clear hb)) | ((with_reducible refine gate_callee (f := 11) rfl ?_); refine goesL_ (some 80) rfl rfl Try.func11 (by kernel_rfl) rfl #[.slice A1 l1.length c1, .int .i64 (l1.length : Int), .int .i64 x9_3] rfl mB ?_; (with_reducible refine (spec_l13Last.calls k3 _ _ l1 (l1.length : Int) x9_3 t130 _ ?side1 ?side2 A39.out).mono ?_); (case side1 => exact cB (Kd.C_below HR1.out HB.out)); (case side2 => exact HC1.out); rintro e w' ⟨rfl, ⟨nd, rfl⟩⟩; refine ⟨_, rfl, ?_⟩))
            go_ret2
            exact ⟨eB, bG⟩
          ·rw [if_neg c36] at H
           have c36b0 : decide (x9_3 < 4) = false := decide_eq_false c36
           clear c36
           simp only [Option.some.injEq, Prod.mk.injEq] at H
           obtain ⟨rfl, rfl⟩ := H
           go_wp2
           go_ret2
           exact ⟨eB, bG⟩
    ·rw [if_neg c11] at H
     have c11b0 : ((l0.length : Int) == (l1.length : Int)) = false := beq_eq_false_iff_ne.mpr c11
     have c11b1 : ((l0.length : Int) != (l1.length : Int)) = true := bne_iff_ne.mpr c11
     have c11b2 : (l0.length == l1.length) = false := by first | simpa using c11 | (simp at c11 ⊢; omega)
     simp only [Option.some.injEq, Prod.mk.injEq] at H
     obtain ⟨rfl, rfl⟩ := H
     go_wp2
     go_ret2
     exact ⟨eB, bG⟩

end Go.Proofs.Ytmelechhnimlnab.G
