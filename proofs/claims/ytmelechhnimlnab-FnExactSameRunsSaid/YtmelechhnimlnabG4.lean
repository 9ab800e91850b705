/- Written by a program of this claim's own, out of the translation: functions of the program as plain functions, and that the calls answer as these. No conditions. -/
import Derived.Test.YtmelechhnimlnabG0
import Derived.Test.YtmelechhnimlnabG3
namespace Go.Proofs.Ytmelechhnimlnab.G
open Go.RowKit Go.Proofs.Ytmelechhnimlnab.X Go.Proofs.YtmelechhnimlnabW.PrintWords Go.Proofs.YtmelechhnimlnabW.PrintLast Go.Proofs.YtmelechhnimlnabW.PrintMore
attribute [local go_sem] max2_int min2_int max_two min_two max_three min_three max_four min_four   -- for this text's walks alone
set_option linter.unusedVariables false
set_option linter.unusedSimpArgs false

/-! ### spec_l13There: function 10 -/
def spec_l13There.f (k : Nat) (l0 : List (S32)) (l1 : List (S32)) (a2 : Int) : Option (Int) := if a2 < 0 then (some (-1)) else (if 0 ≤ a2 then (if a2 < (l0.length : Int) then ((spec_l13Own.f k l0 a2).bind fun t115 => ((spec_l13At.f k l1 ((rd_T32 l0 a2).f0) t115).bind fun t116 => (some t116))) else (none)) else (none))
theorem spec_l13There.mono : ∀ a0 a1 a2 k, LeO (spec_l13There.f k a0 a1 a2) (spec_l13There.f (k + 1) a0 a1 a2) := by
 intro a0 a1 a2 k
 unfold spec_l13There.f
 repeat' first
   | (with_reducible exact spec_l13At.mono _ _ _ _)
   | (with_reducible exact spec_l13Own.mono _ _ _)
   | (with_reducible exact LeO.refl _)
   | (with_reducible exact LeO.none _)
   | (with_reducible refine LeO.ite ?_ ?_)
   | (with_reducible refine LeO.bind ?_ (fun _ => ?_))
   | exact spec_l13At.mono _ _ _ _
   | exact spec_l13Own.mono _ _ _
   | exact LeO.none _
   | refine LeO.ite ?_ ?_
   | refine LeO.bind ?_ (fun _ => ?_)
def spec_l13There.T3 : Bool × List (List Nat × List Nat) := (true, [([], []), ([], []), ([], []), ([1, 2], [1, 2]), ([3], [3]), ([4], [4]), ([], []), ([], []), ([6, 7], [6, 7]), ([0, 5, 8, 8], [0, 5, 8]), ([9, 9, 0, 1, 2, 3, 4, 5, 6, 7, 8, 9], [9])])
def spec_l13There.B3 : List Nat := [0, 0, 0, 6, 14, 30, 0, 0, 192, 511, 1023]
theorem spec_l13There.tab3 : rtab .any (opsOf Try.f10 3) = spec_l13There.T3 := by kernel_rfl
theorem spec_l13There.bits3 : waitsOk spec_l13There.T3.2 spec_l13There.B3 = true := by kernel_rfl
set_option maxHeartbeats 8000000 in
set_option maxRecDepth 100000 in
theorem spec_l13There.calls (k : Nat) (A0 : Option Addr) (c0 : Nat) (l0 : List (S32)) (A1 : Option Addr) (c1 : Nat) (l1 : List (S32)) (a2 : Int) (r : Int) (w : World) (hr0 : Kd.C k32 w A0 l0.length l0) (hc0 : l0.length ≤ c0) (hr1 : Kd.C k32 w A1 l1.length l1) (hc1 : l1.length ≤ c1) (h : spec_l13There.f k l0 l1 a2 = some r) :
  Calls Try.prog 10 #[.slice A0 l0.length c0, .slice A1 l1.length c1, .int .i64 a2] w fun e w' => e = .returned (.int .i64 r) ∧ Below w.heap.size w w' := by
 have HR0 := xm hr0
 have HC0 := xm hc0
 clear hr0 hc0
 have HR1 := xm hr1
 have HC1 := xm hc1
 clear hr1 hc1
 have HB := xm (Below.refl w.heap.size w)
 have H : (if a2 < 0 then (some (-1)) else (if 0 ≤ a2 then (if a2 < (l0.length : Int) then ((spec_l13Own.f k l0 a2).bind fun t115 => ((spec_l13At.f k l1 ((rd_T32 l0 a2).f0) t115).bind fun t116 => (some t116))) else (none)) else (none))) = some r := h
 clear h
 by_cases c4 : a2 < 0
 ·rw [if_pos c4] at H
  have c4b0 : decide (a2 < 0) = true := decide_eq_true c4
  clear c4
  obtain rfl := Option.some.inj H
  go_enter Try.func10, Try.ntmps10
  go_wp2
  go_ret
  exact ⟨eB, bG⟩
 ·rw [if_neg c4] at H
  have c4b0 : decide (a2 < 0) = false := decide_eq_false c4
  clear c4
  by_cases c5 : 0 ≤ a2
  ·rw [if_pos c5] at H
   have c5b0 : decide (0 ≤ a2) = true := decide_eq_true c5
   clear c5
   by_cases c6 : a2 < (l0.length : Int)
   ·rw [if_pos c6] at H
    have c6b0 : decide (a2 < (l0.length : Int)) = true := decide_eq_true c6
    clear c6
    replace H := Option.bind_eq_some_iff.mp H
    obtain ⟨t115, A70, H⟩ := H
    replace H : ((spec_l13At.f k l1 ((rd_T32 l0 a2).f0) t115).bind fun t116 => (some t116)) = some r := H
    have A7 := xm A70
    clear A70
    replace H := Option.bind_eq_some_iff.mp H
    obtain ⟨t116, A80, H⟩ := H
    replace H : (some t116) = some r := H
    have A8 := xm A80
    clear A80
    obtain rfl := Option.some.inj H
    go_enter Try.func10, Try.ntmps10
    try go_wp2
    have n0_ := xm (xd HB.out)
    revert n0_; clear HB; intro HB
    have p114 : 0 ≤ (a2 : Int) := of_decide_eq_true aB
    have q114 : a2 < (l0.length : Int) := of_decide_eq_true aB
    obtain ⟨ad114, e114, hx114_0, hx114_1, hx114_2⟩ := at_T32 HR0.out a2 p114 q114
    have hw114_2 := hx114_2
    have hw114_1 := hx114_1
    have hw114_0 := hx114_0
    cases e114
    replace hx114_0 := hU hx114_0
    replace hx114_1 := hU hx114_1
    replace hx114_2 := hU hx114_2
    replace p114 := eq_true p114
    replace q114 := eq_true q114
    refine start_ (n := 11) (S := fun w' => w'.cell? (ad114.add ((a2).toNat * 3)) = some (.int .i64 ((rd_T32 l0 a2).f0)) ∧ w'.cell? ⟨(ad114.add ((a2).toNat * 3)).block, (ad114.add ((a2).toNat * 3)).off + 1, none⟩ = some (.int .i64 ((rd_T32 l0 a2).f1)) ∧ w'.cell? ⟨(ad114.add ((a2).toNat * 3)).block, (ad114.add ((a2).toNat * 3)).off + 2, none⟩ = some (.int .i64 ((rd_T32 l0 a2).f2))) (ds := []) #[Z,Z,Z,Z,Z,Z,Z,Z,Z,Z,Z] (by kernel_rfl) rfl rfl ⟨((HB.out.cell (World.block_lt_of_cell? w _ hw114_0)).trans hw114_0), ((HB.out.cell (World.block_lt_of_cell? w _ hw114_1)).trans hw114_1), ((HB.out.cell (World.block_lt_of_cell? w _ hw114_2)).trans hw114_2)⟩ (fun hHeld => ?_); refine with_tabW spec_l13There.tab3 spec_l13There.bits3 (fun HT_ HW_ => ?_)
    generalize w.drew = w9 at HB hx114_0 hx114_1 hx114_2 hHeld ⊢
    refine pu 0 11 1 ?_
    refine pu 1 11 3 ?_
    refine pu 2 11 7 ?_
    refine pu 3 11 15 ?_
    refine pu 4 11 31 ?_
    refine pu 6 11 95 ?_
    refine pu 7 11 223 ?_
    refine tx 5 11 255 rfl rfl (take_ofW HT_.out HW_.out (by kernel_rfl)) hHeld (by rintro w' ⟨s0, s1, s2⟩; go_simp; with_reducible rfl) ?_
    refine one_ (i := 8) (N := some 17) #[Y,Y,Y,Y,Y,Y,Y,Y,Y,Z,Z] rfl rfl (one_of HT_.out (by kernel_rfl)) (by decide) (fun K hK => ?_)
    refine goes_ Try.func22 (by kernel_rfl) rfl #[.slice (some ad114) l0.length c0, .int .i64 a2] (by rfl) rfl rfl mB ?_
    with_reducible refine (spec_l13Own.calls k _ _ l0 a2 t115 _ ?side1 ?side2 A7.out).mono ?_
    (case side1 => exact cB (Kd.C_below HR0.out HB.out))
    (case side2 => exact HC0.out)
    rintro e w10 ⟨rfl, hb⟩
    refine ⟨_, rfl, ?_⟩
    have n0_ := xm (below_step bB hb)
    revert n0_; clear HB; intro HB
    (try clear hb)
    (try clear hb2)
    (try clear hk)
    (try clear hi)
    refine hK.out _ _ ⟨((HB.out.cell (World.block_lt_of_cell? w _ hw114_0)).trans hw114_0), ((HB.out.cell (World.block_lt_of_cell? w _ hw114_1)).trans hw114_1), ((HB.out.cell (World.block_lt_of_cell? w _ hw114_2)).trans hw114_2)⟩ (fun hHeld => nC ?_)
    clear hK K
    refine one_ (i := 9) (N := some 18) #[Y,Y,Y,Y,Y,Y,Y,Y,Y,Y,Z] rfl rfl (one_of HT_.out (by kernel_rfl)) (by decide) (fun K hK => ?_)
    refine goes_ Try.func21 (by kernel_rfl) rfl #[.slice A1 l1.length c1, .int .i64 ((rd_T32 l0 a2).f0), .int .i64 t115] (by rfl) rfl rfl mB ?_
    with_reducible refine (spec_l13At.calls k _ _ l1 ((rd_T32 l0 a2).f0) t115 t116 _ ?side1 ?side2 A8.out).mono ?_
    (case side1 => exact cB (Kd.C_below HR1.out HB.out))
    (case side2 => exact HC1.out)
    rintro e w11 ⟨rfl, hb⟩
    refine ⟨_, rfl, ?_⟩
    have n0_ := xm (below_step bB hb)
    revert n0_; clear HB; intro HB
    (try clear hb)
    (try clear hb2)
    (try clear hk)
    (try clear hi)
    refine hK.out _ _ ⟨((HB.out.cell (World.block_lt_of_cell? w _ hw114_0)).trans hw114_0), ((HB.out.cell (World.block_lt_of_cell? w _ hw114_1)).trans hw114_1), ((HB.out.cell (World.block_lt_of_cell? w _ hw114_2)).trans hw114_2)⟩ (fun hHeld => nC ?_)
    clear hK K
    refine pu 10 11 2047 ?_
    refine done_ (done_of HT_.out (by kernel_rfl)) ?_
    try go_wp2
    go_ret
    exact ⟨eB, bG⟩
   ·rw [if_neg c6] at H
    exact absurd H (by simp)
  ·rw [if_neg c5] at H
   exact absurd H (by simp)

/-! ### spec_l13Last: function 11 -/
def spec_l13Last.l0 : Nat → List (S32) → Int → Int → Option (Int)
 | 0, _, _, _ => none
 | k + 1, x0, x2, x7 => if x7 ≥ 0 then (if 0 ≤ x7 then (if x7 < (x0.length : Int) then (if ((rd_T32 x0 x7).f1) = 2 then (if ((rd_T32 x0 x7).f2) = x2 then (some x7) else (spec_l13Last.l0 k x0 x2 (wrap64 (x7 - 1)))) else (spec_l13Last.l0 k x0 x2 (wrap64 (x7 - 1)))) else (none)) else (none)) else (some (-1))
def spec_l13Last.f (k : Nat) (l0 : List (S32)) (a1 : Int) (a2 : Int) : Option (Int) := spec_l13Last.l0 k l0 a2 (wrap64 (a1 - 1))
theorem spec_l13Last.mono_l : ∀ k, (∀ y0 y1 y2, LeO (spec_l13Last.l0 k y0 y1 y2) (spec_l13Last.l0 (k + 1) y0 y1 y2))
 | 0 => fun _ _ _ r h => by simp [spec_l13Last.l0] at h
 | k + 1 => by
  have ih0 := spec_l13Last.mono_l k
  ·intro y0 y1 y2
   unfold spec_l13Last.l0
   repeat' first
   | (with_reducible exact ih0 _ _ _)
   | (with_reducible exact LeO.refl _)
   | (with_reducible exact LeO.none _)
   | (with_reducible refine LeO.ite ?_ ?_)
   | (with_reducible refine LeO.bind ?_ (fun _ => ?_))
   | exact ih0 _ _ _
   | exact LeO.none _
   | refine LeO.ite ?_ ?_
   | refine LeO.bind ?_ (fun _ => ?_)
theorem spec_l13Last.mono : ∀ a0 a1 a2 k, LeO (spec_l13Last.f k a0 a1 a2) (spec_l13Last.f (k + 1) a0 a1 a2) := by
 intro a0 a1 a2 k
 have ih0 := spec_l13Last.mono_l k
 unfold spec_l13Last.f
 repeat' first
   | (with_reducible exact ih0 _ _ _)
   | (with_reducible exact LeO.refl _)
   | (with_reducible exact LeO.none _)
   | (with_reducible refine LeO.ite ?_ ?_)
   | (with_reducible refine LeO.bind ?_ (fun _ => ?_))
   | exact ih0 _ _ _
   | exact LeO.none _
   | refine LeO.ite ?_ ?_
   | refine LeO.bind ?_ (fun _ => ?_)
set_option maxHeartbeats 8000000 in
set_option maxRecDepth 100000 in
theorem spec_l13Last.calls (k : Nat) (A0 : Option Addr) (c0 : Nat) (l0 : List (S32)) (a1 : Int) (a2 : Int) (r : Int) (w : World) (hr0 : Kd.C k32 w A0 l0.length l0) (hc0 : l0.length ≤ c0) (h : spec_l13Last.f k l0 a1 a2 = some r) :
  Calls Try.prog 11 #[.slice A0 l0.length c0, .int .i64 a1, .int .i64 a2] w fun e w' => e = .returned (.int .i64 r) ∧ Drawn0 w w' := by
 have HR0 := xm hr0
 have HC0 := xm hc0
 clear hr0 hc0
 have H : (spec_l13Last.l0 k l0 a2 (wrap64 (a1 - 1))) = some r := h
 clear h
 have H' := xm H
 clear H
 go_enter Try.func11, Try.ntmps11
 go_wp2
 go_loopg [7] k (fun kq v7 w' => ∃ (x7_1 : Int), v7 = .int .i64 x7_1 ∧ Aside0 (spec_l13Last.l0 kq l0 a2 x7_1 = some r) ∧ Aside0 (kq ≤ k) ∧ Drawn0 w w')
 case atStart => exact ⟨(wrap64 (a1 - 1)), sB, H', ⟨Nat.le_refl _⟩, by repeat (first | exact Drawn0.refl _ | apply Drawn0.step)⟩
 case round =>
  clear H'
  try clear c1
  try clear p2
  obtain ⟨x7_1, rfl, HA, HK1, ⟨m1, rfl⟩⟩ := hrel
  cases gk with
  | zero => exact absurd HA.out (by simp [spec_l13Last.l0])
  | succ k1 =>
   have H := HA.out
   clear HA
   simp only [spec_l13Last.l0] at H
   by_cases c4 : x7_1 ≥ 0
   ·rw [if_pos c4] at H
    have c4b0 : decide (0 ≤ x7_1) = true := decide_eq_true c4
    clear c4
    by_cases c5 : 0 ≤ x7_1
    ·rw [if_pos c5] at H
     have c5b0 : decide (0 ≤ x7_1) = true := decide_eq_true c5
     clear c5
     by_cases c6 : x7_1 < (l0.length : Int)
     ·rw [if_pos c6] at H
      have c6b0 : decide (x7_1 < (l0.length : Int)) = true := decide_eq_true c6
      clear c6
      by_cases c7 : ((rd_T32 l0 x7_1).f1) = 2
      ·rw [if_pos c7] at H
       have c7b0 : (((rd_T32 l0 x7_1).f1) == 2) = true := beq_iff_eq.mpr c7
       have c7b1 : (((rd_T32 l0 x7_1).f1) != 2) = false := bne_eq_false_iff_eq.mpr c7
       clear c7
       by_cases c8 : ((rd_T32 l0 x7_1).f2) = a2
       ·rw [if_pos c8] at H
        have c8b0 : (((rd_T32 l0 x7_1).f2) == a2) = true := beq_iff_eq.mpr c8
        have c8b1 : (((rd_T32 l0 x7_1).f2) != a2) = false := bne_eq_false_iff_eq.mpr c8
        clear c8
        obtain rfl := Option.some.inj H
        have p117 : 0 ≤ (x7_1 : Int) := of_decide_eq_true aB
        have q117 : x7_1 < (l0.length : Int) := of_decide_eq_true aB
        obtain ⟨ad117, e117, hx117_0, hx117_1, hx117_2⟩ := at_T32 HR0.out x7_1 p117 q117
        cases e117
        replace p117 := eq_true p117
        replace q117 := eq_true q117
        have p118 : 0 ≤ (x7_1 : Int) := of_decide_eq_true aB
        have q118 : x7_1 < (l0.length : Int) := of_decide_eq_true aB
        obtain ⟨ad118, e118, hx118_0, hx118_1, hx118_2⟩ := at_T32 HR0.out x7_1 p118 q118
        obtain rfl : ad117 = ad118 := (by injection e118)
        replace p118 := eq_true p118
        replace q118 := eq_true q118
        go_wp2
        go_ret
        exact ⟨sB, dB⟩
       ·rw [if_neg c8] at H
        have c8b0 : (((rd_T32 l0 x7_1).f2) == a2) = false := beq_eq_false_iff_ne.mpr c8
        have c8b1 : (((rd_T32 l0 x7_1).f2) != a2) = true := bne_iff_ne.mpr c8
        have H' := xm H
        clear H
        have p117 : 0 ≤ (x7_1 : Int) := of_decide_eq_true aB
        have q117 : x7_1 < (l0.length : Int) := of_decide_eq_true aB
        obtain ⟨ad117, e117, hx117_0, hx117_1, hx117_2⟩ := at_T32 HR0.out x7_1 p117 q117
        cases e117
        replace p117 := eq_true p117
        replace q117 := eq_true q117
        have p118 : 0 ≤ (x7_1 : Int) := of_decide_eq_true aB
        have q118 : x7_1 < (l0.length : Int) := of_decide_eq_true aB
        obtain ⟨ad118, e118, hx118_0, hx118_1, hx118_2⟩ := at_T32 HR0.out x7_1 p118 q118
        obtain rfl : ad117 = ad118 := (by injection e118)
        replace p118 := eq_true p118
        replace q118 := eq_true q118
        go_wp2
        go_roundg k1
        case measure => have := HK1.out; omega
        case rel => exact ⟨(wrap64 (x7_1 - 1)), sB, H', ⟨by have := HK1.out; omega⟩, by repeat (first | exact Drawn0.refl _ | apply Drawn0.step)⟩
      ·rw [if_neg c7] at H
       have c7b0 : (((rd_T32 l0 x7_1).f1) == 2) = false := beq_eq_false_iff_ne.mpr c7
       have c7b1 : (((rd_T32 l0 x7_1).f1) != 2) = true := bne_iff_ne.mpr c7
       have H' := xm H
       clear H
       have p117 : 0 ≤ (x7_1 : Int) := of_decide_eq_true aB
       have q117 : x7_1 < (l0.length : Int) := of_decide_eq_true aB
       obtain ⟨ad117, e117, hx117_0, hx117_1, hx117_2⟩ := at_T32 HR0.out x7_1 p117 q117
       cases e117
       replace p117 := eq_true p117
       replace q117 := eq_true q117
       go_wp2
       go_roundg k1
       case measure => have := HK1.out; omega
       case rel => exact ⟨(wrap64 (x7_1 - 1)), sB, H', ⟨by have := HK1.out; omega⟩, by repeat (first | exact Drawn0.refl _ | apply Drawn0.step)⟩
     ·rw [if_neg c6] at H
      exact absurd H (by simp)
    ·rw [if_neg c5] at H
     exact absurd H (by simp)
   ·rw [if_neg c4] at H
    have c4b0 : decide (0 ≤ x7_1) = false := decide_eq_false c4
    clear c4
    obtain rfl := Option.some.inj H
    go_wp2
    go_ret
    exact ⟨sB, dB⟩

end Go.Proofs.Ytmelechhnimlnab.G
