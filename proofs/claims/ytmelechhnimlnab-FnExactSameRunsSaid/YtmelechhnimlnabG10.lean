/- Written by a program of this claim's own, out of the translation: functions of the program as plain functions, and that the calls answer as these. No conditions. -/
import Derived.Test.YtmelechhnimlnabG0
import Derived.Test.YtmelechhnimlnabG3
import Derived.Test.YtmelechhnimlnabG5
import Derived.Test.YtmelechhnimlnabG6
import Derived.Test.YtmelechhnimlnabG9
namespace Go.Proofs.Ytmelechhnimlnab.G
open Go.RowKit Go.Proofs.Ytmelechhnimlnab.X Go.Proofs.YtmelechhnimlnabW.PrintWords Go.Proofs.YtmelechhnimlnabW.PrintLast Go.Proofs.YtmelechhnimlnabW.PrintMore
attribute [local go_sem] max2_int min2_int max_two min_two max_three min_three max_four min_four   -- for this text's walks alone
set_option linter.unusedVariables false
set_option linter.unusedSimpArgs false

/-! ### laws_eqStepS: function 8 -/
def laws_eqStepS.l0 : Nat → List (S32) → List (S32) → Int → Option (Bool)
 | 0, _, _, _ => none
 | k + 1, x0, x1, x5 => if x5 < (x0.length : Int) then (if 0 ≤ x5 then (if x5 < (x1.length : Int) then ((laws_eqStep.f ((rd_T32 x0 x5).f0) ((rd_T32 x0 x5).f1) ((rd_T32 x0 x5).f2) ((rd_T32 x1 x5).f0) ((rd_T32 x1 x5).f1) ((rd_T32 x1 x5).f2)).bind fun t183 => (if t183 = true then (laws_eqStepS.l0 k x0 x1 (wrap64 (x5 + 1))) else (some false))) else (none)) else (none)) else (some true)
def laws_eqStepS.f (k : Nat) (l0 : List (S32)) (l1 : List (S32)) : Option (Bool) := if (l0.length : Int) = (l1.length : Int) then (laws_eqStepS.l0 k l0 l1 0) else (some false)
theorem laws_eqStepS.mono_l : ∀ k, (∀ y0 y1 y2, LeO (laws_eqStepS.l0 k y0 y1 y2) (laws_eqStepS.l0 (k + 1) y0 y1 y2))
 | 0 => fun _ _ _ r h => by simp [laws_eqStepS.l0] at h
 | k + 1 => by
  have ih0 := laws_eqStepS.mono_l k
  ·intro y0 y1 y2
   unfold laws_eqStepS.l0
   repeat' first
   | (with_reducible exact ih0 _ _ _)
   | (with_reducible exact LeO.refl _)
   | (with_reducible exact LeO.none _)
   | (with_reducible refine LeO.ite ?_ ?_)
   | (with_reducible refine LeO.bind ?_ (fun _ => ?_))
   | exact ih0 _ _ _
   | exact LeO.none _
   | refine LeO.ite ?_ ?_
   | refine LeO.bind ?_ (fun _ => ?_)
theorem laws_eqStepS.mono : ∀ a0 a1 k, LeO (laws_eqStepS.f k a0 a1) (laws_eqStepS.f (k + 1) a0 a1) := by
 intro a0 a1 k
 have ih0 := laws_eqStepS.mono_l k
 unfold laws_eqStepS.f
 repeat' first
   | (with_reducible exact ih0 _ _ _)
   | (with_reducible exact LeO.refl _)
   | (with_reducible exact LeO.none _)
   | (with_reducible refine LeO.ite ?_ ?_)
   | (with_reducible refine LeO.bind ?_ (fun _ => ?_))
   | exact ih0 _ _ _
   | exact LeO.none _
   | refine LeO.ite ?_ ?_
   | refine LeO.bind ?_ (fun _ => ?_)
def laws_eqStepS.T6 : Bool × List (List Nat × List Nat) := (true, [([], []), ([], []), ([0, 1], [0, 1]), ([2], [2]), ([], []), ([], []), ([4, 5], [4, 5]), ([6], [6]), ([3, 7], [3, 7]), ([8], [8])])
def laws_eqStepS.B6 : List Nat := [0, 0, 3, 7, 0, 0, 48, 112, 255, 511]
theorem laws_eqStepS.tab6 : rtab .any (opsOf Try.f8 6) = laws_eqStepS.T6 := by kernel_rfl
theorem laws_eqStepS.bits6 : waitsOk laws_eqStepS.T6.2 laws_eqStepS.B6 = true := by kernel_rfl
set_option maxHeartbeats 8000000 in
set_option maxRecDepth 100000 in
theorem laws_eqStepS.calls (k : Nat) (A0 : Option Addr) (c0 : Nat) (l0 : List (S32)) (A1 : Option Addr) (c1 : Nat) (l1 : List (S32)) (r : Bool) (w : World) (hr0 : Kd.C k32 w A0 l0.length l0) (hc0 : l0.length ≤ c0) (hr1 : Kd.C k32 w A1 l1.length l1) (hc1 : l1.length ≤ c1) (h : laws_eqStepS.f k l0 l1 = some r) :
  Calls Try.prog 8 #[.slice A0 l0.length c0, .slice A1 l1.length c1] w fun e w' => e = .returned (.bool r) ∧ Below w.heap.size w w' := by
 have hu32 := Try.underlying32
 have HR0 := xm hr0
 have HC0 := xm hc0
 clear hr0 hc0
 have HR1 := xm hr1
 have HC1 := xm hc1
 clear hr1 hc1
 have HB := xm (Below.refl w.heap.size w)
 have H : (if (l0.length : Int) = (l1.length : Int) then (laws_eqStepS.l0 k l0 l1 0) else (some false)) = some r := h
 clear h
 by_cases c3 : (l0.length : Int) = (l1.length : Int)
 ·rw [if_pos c3] at H
  have c3b0 : ((l0.length : Int) == (l1.length : Int)) = true := beq_iff_eq.mpr c3
  have c3b1 : ((l0.length : Int) != (l1.length : Int)) = false := bne_eq_false_iff_eq.mpr c3
  have c3b2 : (l0.length == l1.length) = true := by first | simpa using c3 | (simp at c3 ⊢; omega)
  clear c3
  have H' := xm H
  clear H
  go_enter Try.func8, Try.ntmps8
  go_wp2
  go_loopg [5] k (fun kq v5 w' => ∃ (x5_1 : Int), v5 = .int .i64 x5_1 ∧ Aside0 (laws_eqStepS.l0 kq l0 l1 x5_1 = some r) ∧ Aside0 (kq ≤ k) ∧ Aside0 (Below w.heap.size w w'))
  case atStart => exact ⟨(0), sB, H', ⟨Nat.le_refl _⟩, ⟨bG⟩⟩
  case round =>
   clear H'
   try clear c1
   try clear p2
   try clear c3
   try clear c3b0 c3b1 c3b2
   obtain ⟨x5_1, rfl, HA, HK1, HB⟩ := hrel
   cases gk with
   | zero => exact absurd HA.out (by simp [laws_eqStepS.l0])
   | succ k1 =>
    have H := HA.out
    clear HA
    simp only [laws_eqStepS.l0] at H
    by_cases c4 : x5_1 < (l0.length : Int)
    ·rw [if_pos c4] at H
     have c4b0 : decide (x5_1 < (l0.length : Int)) = true := decide_eq_true c4
     clear c4
     by_cases c5 : 0 ≤ x5_1
     ·rw [if_pos c5] at H
      have c5b0 : decide (0 ≤ x5_1) = true := decide_eq_true c5
      clear c5
      by_cases c6 : x5_1 < (l1.length : Int)
      ·rw [if_pos c6] at H
       have c6b0 : decide (x5_1 < (l1.length : Int)) = true := decide_eq_true c6
       clear c6
       replace H := Option.bind_eq_some_iff.mp H
       obtain ⟨t183, A70, H⟩ := H
       replace H : (if t183 = true then (laws_eqStepS.l0 k1 l0 l1 (wrap64 (x5_1 + 1))) else (some false)) = some r := H
       have A7 := xm A70
       clear A70
       by_cases c8 : t183 = true
       ·subst c8
        have H1 : (laws_eqStepS.l0 k1 l0 l1 (wrap64 (x5_1 + 1))) = some r := by first | (with_reducible rfl) | (rw [if_pos rfl] at H; exact H)
        clear H
        have H := H1
        clear H1
        have H' := xm H
        clear H
        try go_wp2
        have n0_ := xm (xd HB.out)
        revert n0_; clear HB; intro HB
        have p181 : 0 ≤ (x5_1 : Int) := of_decide_eq_true aB
        have q181 : x5_1 < (l0.length : Int) := of_decide_eq_true aB
        obtain ⟨ad181, e181, hx181_0, hx181_1, hx181_2⟩ := at_T32 HR0.out x5_1 p181 q181
        have hw181_2 := hx181_2
        have hw181_1 := hx181_1
        have hw181_0 := hx181_0
        cases e181
        replace hx181_0 := hU hx181_0
        replace hx181_1 := hU hx181_1
        replace hx181_2 := hU hx181_2
        replace p181 := eq_true p181
        replace q181 := eq_true q181
        have p182 : 0 ≤ (x5_1 : Int) := of_decide_eq_true aB
        have q182 : x5_1 < (l1.length : Int) := of_decide_eq_true aB
        obtain ⟨ad182, e182, hx182_0, hx182_1, hx182_2⟩ := at_T32 HR1.out x5_1 p182 q182
        have hw182_2 := hx182_2
        have hw182_1 := hx182_1
        have hw182_0 := hx182_0
        cases e182
        replace hx182_0 := hU hx182_0
        replace hx182_1 := hU hx182_1
        replace hx182_2 := hU hx182_2
        replace p182 := eq_true p182
        replace q182 := eq_true q182
        refine start_ (n := 10) (S := fun w' => w'.cell? (ad181.add ((x5_1).toNat * 3)) = some (.int .i64 ((rd_T32 l0 x5_1).f0)) ∧ w'.cell? ⟨(ad181.add ((x5_1).toNat * 3)).block, (ad181.add ((x5_1).toNat * 3)).off + 1, none⟩ = some (.int .i64 ((rd_T32 l0 x5_1).f1)) ∧ w'.cell? ⟨(ad181.add ((x5_1).toNat * 3)).block, (ad181.add ((x5_1).toNat * 3)).off + 2, none⟩ = some (.int .i64 ((rd_T32 l0 x5_1).f2)) ∧ w'.cell? (ad182.add ((x5_1).toNat * 3)) = some (.int .i64 ((rd_T32 l1 x5_1).f0)) ∧ w'.cell? ⟨(ad182.add ((x5_1).toNat * 3)).block, (ad182.add ((x5_1).toNat * 3)).off + 1, none⟩ = some (.int .i64 ((rd_T32 l1 x5_1).f1)) ∧ w'.cell? ⟨(ad182.add ((x5_1).toNat * 3)).block, (ad182.add ((x5_1).toNat * 3)).off + 2, none⟩ = some (.int .i64 ((rd_T32 l1 x5_1).f2))) (ds := []) #[Z,Z,Z,Z,Z,Z,Z,Z,Z,Z] (by kernel_rfl) rfl rfl ⟨((HB.out.cell (World.block_lt_of_cell? w _ hw181_0)).trans hw181_0), ((HB.out.cell (World.block_lt_of_cell? w _ hw181_1)).trans hw181_1), ((HB.out.cell (World.block_lt_of_cell? w _ hw181_2)).trans hw181_2), ((HB.out.cell (World.block_lt_of_cell? w _ hw182_0)).trans hw182_0), ((HB.out.cell (World.block_lt_of_cell? w _ hw182_1)).trans hw182_1), ((HB.out.cell (World.block_lt_of_cell? w _ hw182_2)).trans hw182_2)⟩ (fun hHeld => ?_); refine with_tabW laws_eqStepS.tab6 laws_eqStepS.bits6 (fun HT_ HW_ => ?_)
        generalize wr.drew = w9 at HB hx181_0 hx181_1 hx181_2 hx182_0 hx182_1 hx182_2 hHeld ⊢
        refine pu 0 10 1 ?_
        refine pu 1 10 3 ?_
        refine pu 2 10 7 ?_
        refine pu 4 10 23 ?_
        refine pu 5 10 55 ?_
        refine pu 6 10 119 ?_
        refine tx 3 10 127 rfl rfl (take_ofW HT_.out HW_.out (by kernel_rfl)) hHeld (by rintro w' ⟨s0, s1, s2, s3, s4, s5⟩; go_simp; with_reducible rfl) ?_
        refine tx 7 10 255 rfl rfl (take_ofW HT_.out HW_.out (by kernel_rfl)) hHeld (by rintro w' ⟨s0, s1, s2, s3, s4, s5⟩; go_simp; with_reducible rfl) ?_
        refine one_ (i := 8) (N := some 25) #[Y,Y,Y,Y,Y,Y,Y,Y,Y,Z] rfl rfl (one_of HT_.out (by kernel_rfl)) (by decide) (fun K hK => ?_)
        refine goes_ Try.func19 (by kernel_rfl) rfl #[.agg #[.int .i64 ((rd_T32 l0 x5_1).f0), .int .i64 ((rd_T32 l0 x5_1).f1), .int .i64 ((rd_T32 l0 x5_1).f2)], .agg #[.int .i64 ((rd_T32 l1 x5_1).f0), .int .i64 ((rd_T32 l1 x5_1).f1), .int .i64 ((rd_T32 l1 x5_1).f2)]] (by rfl) rfl rfl mB ?_
        with_reducible refine (laws_eqStep.calls ((rd_T32 l0 x5_1).f0) ((rd_T32 l0 x5_1).f1) ((rd_T32 l0 x5_1).f2) ((rd_T32 l1 x5_1).f0) ((rd_T32 l1 x5_1).f1) ((rd_T32 l1 x5_1).f2) true _ A7.out).mono ?_
        rintro e w10 ⟨rfl, hb⟩
        refine ⟨_, rfl, ?_⟩
        have n0_ := xm (below_step bB hb)
        revert n0_; clear HB; intro HB
        (try clear hb)
        (try clear hb2)
        (try clear hk)
        (try clear hi)
        refine hK.out _ _ ⟨((HB.out.cell (World.block_lt_of_cell? w _ hw181_0)).trans hw181_0), ((HB.out.cell (World.block_lt_of_cell? w _ hw181_1)).trans hw181_1), ((HB.out.cell (World.block_lt_of_cell? w _ hw181_2)).trans hw181_2), ((HB.out.cell (World.block_lt_of_cell? w _ hw182_0)).trans hw182_0), ((HB.out.cell (World.block_lt_of_cell? w _ hw182_1)).trans hw182_1), ((HB.out.cell (World.block_lt_of_cell? w _ hw182_2)).trans hw182_2)⟩ (fun hHeld => nC ?_)
        clear hK K
        refine pu 9 10 1023 ?_
        refine done_ (done_of HT_.out (by kernel_rfl)) ?_
        try go_wp2
        go_roundg k1
        case measure => have := HK1.out; omega
        case rel => exact ⟨(wrap64 (x5_1 + 1)), sB, H', ⟨by have := HK1.out; omega⟩, ⟨bG⟩⟩
       ·replace c8 := Bool.eq_false_iff.mpr c8
        subst c8
        have H1 : (some false) = some r := by first | (with_reducible rfl) | (rw [if_neg (show ¬ (false = true) by decide)] at H; exact H)
        clear H
        have H := H1
        clear H1
        obtain rfl := Option.some.inj H
        try go_wp2
        have n0_ := xm (xd HB.out)
        revert n0_; clear HB; intro HB
        have p181 : 0 ≤ (x5_1 : Int) := of_decide_eq_true aB
        have q181 : x5_1 < (l0.length : Int) := of_decide_eq_true aB
        obtain ⟨ad181, e181, hx181_0, hx181_1, hx181_2⟩ := at_T32 HR0.out x5_1 p181 q181
        have hw181_2 := hx181_2
        have hw181_1 := hx181_1
        have hw181_0 := hx181_0
        cases e181
        replace hx181_0 := hU hx181_0
        replace hx181_1 := hU hx181_1
        replace hx181_2 := hU hx181_2
        replace p181 := eq_true p181
        replace q181 := eq_true q181
        have p182 : 0 ≤ (x5_1 : Int) := of_decide_eq_true aB
        have q182 : x5_1 < (l1.length : Int) := of_decide_eq_true aB
        obtain ⟨ad182, e182, hx182_0, hx182_1, hx182_2⟩ := at_T32 HR1.out x5_1 p182 q182
        have hw182_2 := hx182_2
        have hw182_1 := hx182_1
        have hw182_0 := hx182_0
        cases e182
        replace hx182_0 := hU hx182_0
        replace hx182_1 := hU hx182_1
        replace hx182_2 := hU hx182_2
        replace p182 := eq_true p182
        replace q182 := eq_true q182
        refine start_ (n := 10) (S := fun w' => w'.cell? (ad181.add ((x5_1).toNat * 3)) = some (.int .i64 ((rd_T32 l0 x5_1).f0)) ∧ w'.cell? ⟨(ad181.add ((x5_1).toNat * 3)).block, (ad181.add ((x5_1).toNat * 3)).off + 1, none⟩ = some (.int .i64 ((rd_T32 l0 x5_1).f1)) ∧ w'.cell? ⟨(ad181.add ((x5_1).toNat * 3)).block, (ad181.add ((x5_1).toNat * 3)).off + 2, none⟩ = some (.int .i64 ((rd_T32 l0 x5_1).f2)) ∧ w'.cell? (ad182.add ((x5_1).toNat * 3)) = some (.int .i64 ((rd_T32 l1 x5_1).f0)) ∧ w'.cell? ⟨(ad182.add ((x5_1).toNat * 3)).block, (ad182.add ((x5_1).toNat * 3)).off + 1, none⟩ = some (.int .i64 ((rd_T32 l1 x5_1).f1)) ∧ w'.cell? ⟨(ad182.add ((x5_1).toNat * 3)).block, (ad182.add ((x5_1).toNat * 3)).off + 2, none⟩ = some (.int .i64 ((rd_T32 l1 x5_1).f2))) (ds := []) #[Z,Z,Z,Z,Z,Z,Z,Z,Z,Z] (by kernel_rfl) rfl rfl ⟨((HB.out.cell (World.block_lt_of_cell? w _ hw181_0)).trans hw181_0), ((HB.out.cell (World.block_lt_of_cell? w _ hw181_1)).trans hw181_1), ((HB.out.cell (World.block_lt_of_cell? w _ hw181_2)).trans hw181_2), ((HB.out.cell (World.block_lt_of_cell? w _ hw182_0)).trans hw182_0), ((HB.out.cell (World.block_lt_of_cell? w _ hw182_1)).trans hw182_1), ((HB.out.cell (World.block_lt_of_cell? w _ hw182_2)).trans hw182_2)⟩ (fun hHeld => ?_); refine with_tabW laws_eqStepS.tab6 laws_eqStepS.bits6 (fun HT_ HW_ => ?_)
        generalize wr.drew = w11 at HB hx181_0 hx181_1 hx181_2 hx182_0 hx182_1 hx182_2 hHeld ⊢
        refine pu 0 10 1 ?_
        refine pu 1 10 3 ?_
        refine pu 2 10 7 ?_
        refine pu 4 10 23 ?_
        refine pu 5 10 55 ?_
        refine pu 6 10 119 ?_
        refine tx 3 10 127 rfl rfl (take_ofW HT_.out HW_.out (by kernel_rfl)) hHeld (by rintro w' ⟨s0, s1, s2, s3, s4, s5⟩; go_simp; with_reducible rfl) ?_
        refine tx 7 10 255 rfl rfl (take_ofW HT_.out HW_.out (by kernel_rfl)) hHeld (by rintro w' ⟨s0, s1, s2, s3, s4, s5⟩; go_simp; with_reducible rfl) ?_
        refine one_ (i := 8) (N := some 25) #[Y,Y,Y,Y,Y,Y,Y,Y,Y,Z] rfl rfl (one_of HT_.out (by kernel_rfl)) (by decide) (fun K hK => ?_)
        refine goes_ Try.func19 (by kernel_rfl) rfl #[.agg #[.int .i64 ((rd_T32 l0 x5_1).f0), .int .i64 ((rd_T32 l0 x5_1).f1), .int .i64 ((rd_T32 l0 x5_1).f2)], .agg #[.int .i64 ((rd_T32 l1 x5_1).f0), .int .i64 ((rd_T32 l1 x5_1).f1), .int .i64 ((rd_T32 l1 x5_1).f2)]] (by rfl) rfl rfl mB ?_
        with_reducible refine (laws_eqStep.calls ((rd_T32 l0 x5_1).f0) ((rd_T32 l0 x5_1).f1) ((rd_T32 l0 x5_1).f2) ((rd_T32 l1 x5_1).f0) ((rd_T32 l1 x5_1).f1) ((rd_T32 l1 x5_1).f2) false _ A7.out).mono ?_
        rintro e w12 ⟨rfl, hb⟩
        refine ⟨_, rfl, ?_⟩
        have n0_ := xm (below_step bB hb)
        revert n0_; clear HB; intro HB
        (try clear hb)
        (try clear hb2)
        (try clear hk)
        (try clear hi)
        refine hK.out _ _ ⟨((HB.out.cell (World.block_lt_of_cell? w _ hw181_0)).trans hw181_0), ((HB.out.cell (World.block_lt_of_cell? w _ hw181_1)).trans hw181_1), ((HB.out.cell (World.block_lt_of_cell? w _ hw181_2)).trans hw181_2), ((HB.out.cell (World.block_lt_of_cell? w _ hw182_0)).trans hw182_0), ((HB.out.cell (World.block_lt_of_cell? w _ hw182_1)).trans hw182_1), ((HB.out.cell (World.block_lt_of_cell? w _ hw182_2)).trans hw182_2)⟩ (fun hHeld => nC ?_)
        clear hK K
        refine pu 9 10 1023 ?_
        refine done_ (done_of HT_.out (by kernel_rfl)) ?_
        try go_wp2
        go_ret
        exact ⟨eB, bG⟩
      ·rw [if_neg c6] at H
       exact absurd H (by simp)
     ·rw [if_neg c5] at H
      exact absurd H (by simp)
    ·rw [if_neg c4] at H
     have c4b0 : decide (x5_1 < (l0.length : Int)) = false := decide_eq_false c4
     clear c4
     obtain rfl := Option.some.inj H
     go_wp2
     go_ret
     exact ⟨eB, bG⟩
 ·rw [if_neg c3] at H
  have c3b0 : ((l0.length : Int) == (l1.length : Int)) = false := beq_eq_false_iff_ne.mpr c3
  have c3b1 : ((l0.length : Int) != (l1.length : Int)) = true := bne_iff_ne.mpr c3
  have c3b2 : (l0.length == l1.length) = false := by first | simpa using c3 | (simp at c3 ⊢; omega)
  obtain rfl := Option.some.inj H
  go_enter Try.func8, Try.ntmps8
  go_wp2
  go_ret
  exact ⟨eB, bG⟩

/-! ### laws_FnExactSameRuns: function 3 -/
def laws_FnExactSameRuns.f (k : Nat) (l0 : List (S36)) (l1 : List (S36)) : Option (Bool) := (laws_szStepS.f l0 1048576).bind fun t184 => (if t184 < 0 then (some true) else ((laws_szStepS.f l1 t184).bind fun t185 => (if t185 < 0 then (some true) else ((laws_toStepS.f k l0).bind fun t186 => ((laws_toStepS.f k l1).bind fun t189 => ((spec_SameRuns.f k t186 t189).bind fun bt192 => ((laws_toStepS.f k l0).bind fun t194 => ((laws_toStepS.f k l1).bind fun t197 => ((impl_SameRuns.f k t194 t197).bind fun bt200 => (if (bt200.1 != bt192.1) = true then (some false) else (if (bt200.2 != bt192.2) = true then (some false) else ((laws_toStepS.f k l0).bind fun t202 => ((laws_eqStepS.f k t194 t202).bind fun t205 => (if t205 = true then ((laws_toStepS.f k l1).bind fun t206 => ((laws_eqStepS.f k t197 t206).bind fun t209 => (if t209 = true then (some true) else (some false)))) else (some false)))))))))))))))
theorem laws_FnExactSameRuns.mono : ∀ a0 a1 k, LeO (laws_FnExactSameRuns.f k a0 a1) (laws_FnExactSameRuns.f (k + 1) a0 a1) := by
 intro a0 a1 k
 unfold laws_FnExactSameRuns.f
 repeat' first
   | (with_reducible exact impl_SameRuns.mono _ _ _)
   | (with_reducible exact laws_eqStepS.mono _ _ _)
   | (with_reducible exact laws_toStepS.mono _ _)
   | (with_reducible exact spec_SameRuns.mono _ _ _)
   | (with_reducible exact LeO.refl _)
   | (with_reducible exact LeO.none _)
   | (with_reducible refine LeO.ite ?_ ?_)
   | (with_reducible refine LeO.bind ?_ (fun _ => ?_))
   | exact impl_SameRuns.mono _ _ _
   | exact laws_eqStepS.mono _ _ _
   | exact laws_toStepS.mono _ _
   | exact spec_SameRuns.mono _ _ _
   | exact LeO.none _
   | refine LeO.ite ?_ ?_
   | refine LeO.bind ?_ (fun _ => ?_)
set_option maxHeartbeats 8000000 in
set_option maxRecDepth 100000 in
theorem laws_FnExactSameRuns.calls (k : Nat) (A0 : Option Addr) (c0 : Nat) (l0 : List (S36)) (A1 : Option Addr) (c1 : Nat) (l1 : List (S36)) (w : World) (hr0 : Kd.C k36 w A0 l0.length l0) (hc0 : l0.length ≤ c0) (hr1 : Kd.C k36 w A1 l1.length l1) (hc1 : l1.length ≤ c1) (h : laws_FnExactSameRuns.f k l0 l1 = some true) :
  Calls Try.prog 3 #[.slice A0 l0.length c0, .slice A1 l1.length c1] w fun e w' => e = .returned (.bool true) ∧ Below w.heap.size w w' := by
 have HR0 := xm hr0
 have HC0 := xm hc0
 clear hr0 hc0
 have HR1 := xm hr1
 have HC1 := xm hc1
 clear hr1 hc1
 have HB := xm (Below.refl w.heap.size w)
 have H : ((laws_szStepS.f l0 1048576).bind fun t184 => (if t184 < 0 then (some true) else ((laws_szStepS.f l1 t184).bind fun t185 => (if t185 < 0 then (some true) else ((laws_toStepS.f k l0).bind fun t186 => ((laws_toStepS.f k l1).bind fun t189 => ((spec_SameRuns.f k t186 t189).bind fun bt192 => ((laws_toStepS.f k l0).bind fun t194 => ((laws_toStepS.f k l1).bind fun t197 => ((impl_SameRuns.f k t194 t197).bind fun bt200 => (if (bt200.1 != bt192.1) = true then (some false) else (if (bt200.2 != bt192.2) = true then (some false) else ((laws_toStepS.f k l0).bind fun t202 => ((laws_eqStepS.f k t194 t202).bind fun t205 => (if t205 = true then ((laws_toStepS.f k l1).bind fun t206 => ((laws_eqStepS.f k t197 t206).bind fun t209 => (if t209 = true then (some true) else (some false)))) else (some false)))))))))))))))) = some true := h
 clear h
 replace H := Option.bind_eq_some_iff.mp H
 obtain ⟨t184, A30, H⟩ := H
 (try dsimp only at H)
 have A3 := xm A30
 clear A30
 by_cases c4 : t184 < 0
 ·rw [if_pos c4] at H
  have c4b0 : decide (t184 < 0) = true := decide_eq_true c4
  clear c4
  clear H
  go_enter Try.func3, Try.ntmps3
  go_wp2_with (first | ((with_reducible refine gate_callee (f := 4) rfl ?_); refine goesL_ (some 14) rfl rfl Try.func4 (by kernel_rfl) rfl #[.slice A0 l0.length c0, .int .i64 1048576] rfl mB ?_; (with_reducible refine (laws_szStepS.calls _ _ l0 1048576 t184 _ ?side1 ?side2 A3.out).mono ?_); (case side1 => repeat (first | exact HR0.out | (with_reducible refine Kd.C_alloc ?_ _) | (with_reducible refine Kd.C_drewN ?_ _) | (with_reducible refine Kd.C_drew ?_))); (case side2 => exact HC0.out); rintro e w' ⟨rfl, ⟨nd, rfl⟩⟩; refine ⟨_, rfl, ?_⟩))
  go_ret
  exact ⟨eB, bG⟩
 ·rw [if_neg c4] at H
  have c4b0 : decide (t184 < 0) = false := decide_eq_false c4
  clear c4
  replace H := Option.bind_eq_some_iff.mp H
  obtain ⟨t185, A50, H⟩ := H
  (try dsimp only at H)
  have A5 := xm A50
  clear A50
  by_cases c6 : t185 < 0
  ·rw [if_pos c6] at H
   have c6b0 : decide (t185 < 0) = true := decide_eq_true c6
   clear c6
   clear H
   go_enter Try.func3, Try.ntmps3
   go_wp2_with (first | ((with_reducible refine gate_callee (f := 4) rfl ?_); refine goesL_ (some 14) rfl rfl Try.func4 (by kernel_rfl) rfl #[.slice A0 l0.length c0, .int .i64 1048576] rfl mB ?_; (with_reducible refine (laws_szStepS.calls _ _ l0 1048576 t184 _ ?side1 ?side2 A3.out).mono ?_); (case side1 => repeat (first | exact HR0.out | (with_reducible refine Kd.C_alloc ?_ _) | (with_reducible refine Kd.C_drewN ?_ _) | (with_reducible refine Kd.C_drew ?_))); (case side2 => exact HC0.out); rintro e w' ⟨rfl, ⟨nd, rfl⟩⟩; refine ⟨_, rfl, ?_⟩) | ((with_reducible refine gate_callee (f := 4) rfl ?_); refine goesL_ (some 19) rfl rfl Try.func4 (by kernel_rfl) rfl #[.slice A1 l1.length c1, .int .i64 t184] rfl mB ?_; (with_reducible refine (laws_szStepS.calls _ _ l1 t184 t185 _ ?side1 ?side2 A5.out).mono ?_); (case side1 => repeat (first | exact HR1.out | (with_reducible refine Kd.C_alloc ?_ _) | (with_reducible refine Kd.C_drewN ?_ _) | (with_reducible refine Kd.C_drew ?_))); (case side2 => exact HC1.out); rintro e w' ⟨rfl, ⟨nd, rfl⟩⟩; refine ⟨_, rfl, ?_⟩))
   go_ret
   exact ⟨eB, bG⟩
  ·rw [if_neg c6] at H
   have c6b0 : decide (t185 < 0) = false := decide_eq_false c6
   clear c6
   replace H := Option.bind_eq_some_iff.mp H
   obtain ⟨t186, A70, H⟩ := H
   (try dsimp only at H)
   have A7 := xm A70
   clear A70
   replace H := Option.bind_eq_some_iff.mp H
   obtain ⟨t189, A80, H⟩ := H
   (try dsimp only at H)
   have A8 := xm A80
   clear A80
   replace H := Option.bind_eq_some_iff.mp H
   obtain ⟨⟨t192, t193⟩, A90, H⟩ := H
   (try dsimp only at H)
   have A9 := xm A90
   clear A90
   replace H := Option.bind_eq_some_iff.mp H
   obtain ⟨t194, A100, H⟩ := H
   (try dsimp only at H)
   have A10 := xm A100
   clear A100
   replace H := Option.bind_eq_some_iff.mp H
   obtain ⟨t197, A110, H⟩ := H
   (try dsimp only at H)
   have A11 := xm A110
   clear A110
   replace H := Option.bind_eq_some_iff.mp H
   obtain ⟨⟨t200, t201⟩, A120, H⟩ := H
   (try dsimp only at H)
   have A12 := xm A120
   clear A120
   by_cases c13 : (t200 != t192) = true
   ·rw [if_pos c13] at H
    have c13b0 : (t200 != t192) = true := c13
    (try (have c13b1 : decide (t200 = t192) = false := by simpa using c13))
    (try (have c13b2 : (t200 == t192) = false := by simpa using c13))
    (try (have c13b3 : ¬ (t200 = t192) := by simpa using c13))
    clear c13
    exact absurd H (by simp)
   ·rw [if_neg c13] at H
    have c13b0 : (t200 != t192) = false := by simpa using c13
    (try (have c13b1 : decide (t200 = t192) = true := by simpa using c13))
    (try (have c13b2 : (t200 == t192) = true := by simpa using c13))
    clear c13
    by_cases c14 : (t201 != t193) = true
    ·rw [if_pos c14] at H
     have c14b0 : (t201 != t193) = true := c14
     (try (have c14b1 : decide (t201 = t193) = false := by simpa using c14))
     (try (have c14b2 : (t201 == t193) = false := by simpa using c14))
     (try (have c14b3 : ¬ (t201 = t193) := by simpa using c14))
     clear c14
     exact absurd H (by simp)
    ·rw [if_neg c14] at H
     have c14b0 : (t201 != t193) = false := by simpa using c14
     (try (have c14b1 : decide (t201 = t193) = true := by simpa using c14))
     (try (have c14b2 : (t201 == t193) = true := by simpa using c14))
     clear c14
     replace H := Option.bind_eq_some_iff.mp H
     obtain ⟨t202, A150, H⟩ := H
     (try dsimp only at H)
     have A15 := xm A150
     clear A150
     replace H := Option.bind_eq_some_iff.mp H
     obtain ⟨t205, A160, H⟩ := H
     (try dsimp only at H)
     have A16 := xm A160
     clear A160
     by_cases c17 : t205 = true
     ·subst c17
      have H1 : ((laws_toStepS.f k l1).bind fun t206 => ((laws_eqStepS.f k t197 t206).bind fun t209 => (if t209 = true then (some true) else (some false)))) = some true := by first | (with_reducible rfl) | (rw [if_pos rfl] at H; exact H)
      clear H
      have H := H1
      clear H1
      replace H := Option.bind_eq_some_iff.mp H
      obtain ⟨t206, A180, H⟩ := H
      (try dsimp only at H)
      have A18 := xm A180
      clear A180
      replace H := Option.bind_eq_some_iff.mp H
      obtain ⟨t209, A190, H⟩ := H
      (try dsimp only at H)
      have A19 := xm A190
      clear A190
      by_cases c20 : t209 = true
      ·subst c20
       have H1 : (some true) = some true := by first | (with_reducible rfl) | (rw [if_pos rfl] at H; exact H)
       clear H
       have H := H1
       clear H1
       clear H
       go_enter Try.func3, Try.ntmps3
       go_wp2_with (first | ((with_reducible refine gate_callee (f := 4) rfl ?_); refine goesL_ (some 14) rfl rfl Try.func4 (by kernel_rfl) rfl #[.slice A0 l0.length c0, .int .i64 1048576] rfl mB ?_; (with_reducible refine (laws_szStepS.calls _ _ l0 1048576 t184 _ ?side1 ?side2 A3.out).mono ?_); (case side1 => repeat (first | exact HR0.out | (with_reducible refine Kd.C_alloc ?_ _) | (with_reducible refine Kd.C_drewN ?_ _) | (with_reducible refine Kd.C_drew ?_))); (case side2 => exact HC0.out); rintro e w' ⟨rfl, ⟨nd, rfl⟩⟩; refine ⟨_, rfl, ?_⟩) | ((with_reducible refine gate_callee (f := 4) rfl ?_); refine goesL_ (some 19) rfl rfl Try.func4 (by kernel_rfl) rfl #[.slice A1 l1.length c1, .int .i64 t184] rfl mB ?_; (with_reducible refine (laws_szStepS.calls _ _ l1 t184 t185 _ ?side1 ?side2 A5.out).mono ?_); (case side1 => repeat (first | exact HR1.out | (with_reducible refine Kd.C_alloc ?_ _) | (with_reducible refine Kd.C_drewN ?_ _) | (with_reducible refine Kd.C_drew ?_))); (case side2 => exact HC1.out); rintro e w' ⟨rfl, ⟨nd, rfl⟩⟩; refine ⟨_, rfl, ?_⟩) | ((with_reducible refine gate_callee (f := 6) rfl ?_); refine goesL_ (some 24) rfl rfl Try.func6 (by kernel_rfl) rfl #[.slice A0 l0.length c0] rfl mB ?_; (with_reducible refine (laws_toStepS.calls k _ _ l0 t186 _ ?side1 ?side2 A7.out).mono ?_); (case side1 => repeat (first | exact HR0.out | (with_reducible refine Kd.C_alloc ?_ _) | (with_reducible refine Kd.C_drewN ?_ _) | (with_reducible refine Kd.C_drew ?_))); (case side2 => exact HC0.out); rintro e w21 ⟨v187, rfl, ho0, hb⟩; refine ⟨_, rfl, ?_⟩; have n0_ := xm (Kd.R_lower ho0 (xz bB)); have n1_ := xm (below_step bB hb); revert n0_ n1_; clear HB; intro HO188 HB; (try clear hb); (try clear ho0)) | ((with_reducible refine gate_callee (f := 6) rfl ?_); refine goesL_ (some 26) rfl rfl Try.func6 (by kernel_rfl) rfl #[.slice A1 l1.length c1] rfl mB ?_; (with_reducible refine (laws_toStepS.calls k _ _ l1 t189 _ ?side1 ?side2 A8.out).mono ?_); (case side1 => exact cB (Kd.C_below HR1.out HB.out)); (case side2 => exact HC1.out); rintro e w22 ⟨v190, rfl, ho0, hb⟩; refine ⟨_, rfl, ?_⟩; have n0_ := xm (Kd.R_elder' (rB HO188) (Kd.R_base ho0) hb); have n1_ := xm (Kd.R_lower (Kd.R_new' ho0 (Kd.R_lt (rB HO188))) (xz bB)); have n2_ := xm (below_step bB hb); revert n0_ n1_ n2_; clear HO188 HB; intro HO188 HO191 HB; (try clear hb); (try clear ho0); obtain ⟨Ao23, co23, eo23⟩ := Kd.R_slice HO188.out; subst eo23; obtain ⟨Ao24, co24, eo24⟩ := Kd.R_slice HO191.out; subst eo24) | ((with_reducible refine gate_callee (f := 5) rfl ?_); refine goesL_ (some 27) rfl rfl Try.func5 (by kernel_rfl) rfl #[.slice Ao23 t186.length co23, .slice Ao24 t189.length co24] rfl mB ?_; (with_reducible refine (spec_SameRuns.calls k _ _ t186 _ _ t189 t192 t193 _ ?side1 ?side2 ?side3 ?side4 A9.out).mono ?_); (case side1 => repeat (first | exact (Kd.R_reads' HO188.out).2.2 | (with_reducible refine Kd.C_alloc ?_ _) | (with_reducible refine Kd.C_drewN ?_ _) | (with_reducible refine Kd.C_drew ?_))); (case side2 => exact (Kd.R_reads' HO188.out).2.1); (case side3 => repeat (first | exact (Kd.R_reads' HO191.out).2.2 | (with_reducible refine Kd.C_alloc ?_ _) | (with_reducible refine Kd.C_drewN ?_ _) | (with_reducible refine Kd.C_drew ?_))); (case side4 => exact (Kd.R_reads' HO191.out).2.1); rintro e w25 ⟨rfl, hb⟩; refine ⟨_, rfl, ?_⟩; have n0_ := xm (Kd.R_below (rB HO188) hb); have n1_ := xm (Kd.R_below (rB HO191) hb); have n2_ := xm (below_step bB hb); revert n0_ n1_ n2_; clear HO188 HO191 HB; intro HO188 HO191 HB; (try clear hb)) | ((with_reducible refine gate_callee (f := 6) rfl ?_); refine goesL_ (some 31) rfl rfl Try.func6 (by kernel_rfl) rfl #[.slice A0 l0.length c0] rfl mB ?_; (with_reducible refine (laws_toStepS.calls k _ _ l0 t194 _ ?side1 ?side2 A10.out).mono ?_); (case side1 => exact cB (Kd.C_below HR0.out HB.out)); (case side2 => exact HC0.out); rintro e w26 ⟨v195, rfl, ho0, hb⟩; refine ⟨_, rfl, ?_⟩; have n0_ := xm (Kd.R_elder' (rB HO188) (Kd.R_base ho0) hb); have n1_ := xm (Kd.R_elder' (rB HO191) (Kd.R_base ho0) hb); have n2_ := xm (Kd.R_lower (Kd.R_new' (Kd.R_new' ho0 (Kd.R_lt (rB HO188))) (Kd.R_lt (rB HO191))) (xz bB)); have n3_ := xm (below_step bB hb); revert n0_ n1_ n2_ n3_; clear HO188 HO191 HB; intro HO188 HO191 HO196 HB; (try clear hb); (try clear ho0)) | ((with_reducible refine gate_callee (f := 6) rfl ?_); refine goesL_ (some 33) rfl rfl Try.func6 (by kernel_rfl) rfl #[.slice A1 l1.length c1] rfl mB ?_; (with_reducible refine (laws_toStepS.calls k _ _ l1 t197 _ ?side1 ?side2 A11.out).mono ?_); (case side1 => exact cB (Kd.C_below HR1.out HB.out)); (case side2 => exact HC1.out); rintro e w27 ⟨v198, rfl, ho0, hb⟩; refine ⟨_, rfl, ?_⟩; have n0_ := xm (Kd.R_elder' (rB HO188) (Kd.R_base ho0) hb); have n1_ := xm (Kd.R_elder' (rB HO191) (Kd.R_base ho0) hb); have n2_ := xm (Kd.R_elder' (rB HO196) (Kd.R_base ho0) hb); have n3_ := xm (Kd.R_lower (Kd.R_new' (Kd.R_new' (Kd.R_new' ho0 (Kd.R_lt (rB HO188))) (Kd.R_lt (rB HO191))) (Kd.R_lt (rB HO196))) (xz bB)); have n4_ := xm (below_step bB hb); revert n0_ n1_ n2_ n3_ n4_; clear HO188 HO191 HO196 HB; intro HO188 HO191 HO196 HO199 HB; (try clear hb); (try clear ho0); obtain ⟨Ao28, co28, eo28⟩ := Kd.R_slice HO196.out; subst eo28; obtain ⟨Ao29, co29, eo29⟩ := Kd.R_slice HO199.out; subst eo29) | ((with_reducible refine gate_callee (f := 7) rfl ?_); refine goesL_ (some 37) rfl rfl Try.func7 (by kernel_rfl) rfl #[.slice Ao28 t194.length co28, .slice Ao29 t197.length co29] rfl mB ?_; (with_reducible refine (impl_SameRuns.calls k _ _ t194 _ _ t197 t200 t201 _ ?side1 ?side2 ?side3 ?side4 A12.out).mono ?_); (case side1 => repeat (first | exact (Kd.R_reads' HO196.out).2.2 | (with_reducible refine Kd.C_alloc ?_ _) | (with_reducible refine Kd.C_drewN ?_ _) | (with_reducible refine Kd.C_drew ?_))); (case side2 => exact (Kd.R_reads' HO196.out).2.1); (case side3 => repeat (first | exact (Kd.R_reads' HO199.out).2.2 | (with_reducible refine Kd.C_alloc ?_ _) | (with_reducible refine Kd.C_drewN ?_ _) | (with_reducible refine Kd.C_drew ?_))); (case side4 => exact (Kd.R_reads' HO199.out).2.1); rintro e w30 ⟨rfl, hb⟩; refine ⟨_, rfl, ?_⟩; have n0_ := xm (Kd.R_below (rB HO188) hb); have n1_ := xm (Kd.R_below (rB HO191) hb); have n2_ := xm (Kd.R_below (rB HO196) hb); have n3_ := xm (Kd.R_below (rB HO199) hb); have n4_ := xm (below_step bB hb); revert n0_ n1_ n2_ n3_ n4_; clear HO188 HO191 HO196 HO199 HB; intro HO188 HO191 HO196 HO199 HB; (try clear hb)) | ((with_reducible refine gate_callee (f := 6) rfl ?_); refine goesL_ (some 50) rfl rfl Try.func6 (by kernel_rfl) rfl #[.slice A0 l0.length c0] rfl mB ?_; (with_reducible refine (laws_toStepS.calls k _ _ l0 t202 _ ?side1 ?side2 A15.out).mono ?_); (case side1 => exact cB (Kd.C_below HR0.out HB.out)); (case side2 => exact HC0.out); rintro e w31 ⟨v203, rfl, ho0, hb⟩; refine ⟨_, rfl, ?_⟩; have n0_ := xm (Kd.R_elder' (rB HO188) (Kd.R_base ho0) hb); have n1_ := xm (Kd.R_elder' (rB HO191) (Kd.R_base ho0) hb); have n2_ := xm (Kd.R_elder' (rB HO196) (Kd.R_base ho0) hb); have n3_ := xm (Kd.R_elder' (rB HO199) (Kd.R_base ho0) hb); have n4_ := xm (Kd.R_lower (Kd.R_new' (Kd.R_new' (Kd.R_new' (Kd.R_new' ho0 (Kd.R_lt (rB HO188))) (Kd.R_lt (rB HO191))) (Kd.R_lt (rB HO196))) (Kd.R_lt (rB HO199))) (xz bB)); have n5_ := xm (below_step bB hb); revert n0_ n1_ n2_ n3_ n4_ n5_; clear HO188 HO191 HO196 HO199 HB; intro HO188 HO191 HO196 HO199 HO204 HB; (try clear hb); (try clear ho0); obtain ⟨Ao32, co32, eo32⟩ := Kd.R_slice HO204.out; subst eo32) | ((with_reducible refine gate_callee (f := 8) rfl ?_); refine goesL_ (some 51) rfl rfl Try.func8 (by kernel_rfl) rfl #[.slice Ao28 t194.length co28, .slice Ao32 t202.length co32] rfl mB ?_; (with_reducible refine (laws_eqStepS.calls k _ _ t194 _ _ t202 true _ ?side1 ?side2 ?side3 ?side4 A16.out).mono ?_); (case side1 => repeat (first | exact (Kd.R_reads' HO196.out).2.2 | (with_reducible refine Kd.C_alloc ?_ _) | (with_reducible refine Kd.C_drewN ?_ _) | (with_reducible refine Kd.C_drew ?_))); (case side2 => exact (Kd.R_reads' HO196.out).2.1); (case side3 => repeat (first | exact (Kd.R_reads' HO204.out).2.2 | (with_reducible refine Kd.C_alloc ?_ _) | (with_reducible refine Kd.C_drewN ?_ _) | (with_reducible refine Kd.C_drew ?_))); (case side4 => exact (Kd.R_reads' HO204.out).2.1); rintro e w33 ⟨rfl, hb⟩; refine ⟨_, rfl, ?_⟩; have n0_ := xm (Kd.R_below (rB HO188) hb); have n1_ := xm (Kd.R_below (rB HO191) hb); have n2_ := xm (Kd.R_below (rB HO196) hb); have n3_ := xm (Kd.R_below (rB HO199) hb); have n4_ := xm (Kd.R_below (rB HO204) hb); have n5_ := xm (below_step bB hb); revert n0_ n1_ n2_ n3_ n4_ n5_; clear HO188 HO191 HO196 HO199 HO204 HB; intro HO188 HO191 HO196 HO199 HO204 HB; (try clear hb)) | ((with_reducible refine gate_callee (f := 6) rfl ?_); refine goesL_ (some 55) rfl rfl Try.func6 (by kernel_rfl) rfl #[.slice A1 l1.length c1] rfl mB ?_; (with_reducible refine (laws_toStepS.calls k _ _ l1 t206 _ ?side1 ?side2 A18.out).mono ?_); (case side1 => exact cB (Kd.C_below HR1.out HB.out)); (case side2 => exact HC1.out); rintro e w34 ⟨v207, rfl, ho0, hb⟩; refine ⟨_, rfl, ?_⟩; have n0_ := xm (Kd.R_elder' (rB HO188) (Kd.R_base ho0) hb); have n1_ := xm (Kd.R_elder' (rB HO191) (Kd.R_base ho0) hb); have n2_ := xm (Kd.R_elder' (rB HO196) (Kd.R_base ho0) hb); have n3_ := xm (Kd.R_elder' (rB HO199) (Kd.R_base ho0) hb); have n4_ := xm (Kd.R_elder' (rB HO204) (Kd.R_base ho0) hb); have n5_ := xm (Kd.R_lower (Kd.R_new' (Kd.R_new' (Kd.R_new' (Kd.R_new' (Kd.R_new' ho0 (Kd.R_lt (rB HO188))) (Kd.R_lt (rB HO191))) (Kd.R_lt (rB HO196))) (Kd.R_lt (rB HO199))) (Kd.R_lt (rB HO204))) (xz bB)); have n6_ := xm (below_step bB hb); revert n0_ n1_ n2_ n3_ n4_ n5_ n6_; clear HO188 HO191 HO196 HO199 HO204 HB; intro HO188 HO191 HO196 HO199 HO204 HO208 HB; (try clear hb); (try clear ho0); obtain ⟨Ao35, co35, eo35⟩ := Kd.R_slice HO208.out; subst eo35) | ((with_reducible refine gate_callee (f := 8) rfl ?_); refine goesL_ (some 56) rfl rfl Try.func8 (by kernel_rfl) rfl #[.slice Ao29 t197.length co29, .slice Ao35 t206.length co35] rfl mB ?_; (with_reducible refine (laws_eqStepS.calls k _ _ t197 _ _ t206 true _ ?side1 ?side2 ?side3 ?side4 A19.out).mono ?_); (case side1 => repeat (first | exact (Kd.R_reads' HO199.out).2.2 | (with_reducible refine Kd.C_alloc ?_ _) | (with_reducible refine Kd.C_drewN ?_ _) | (with_reducible refine Kd.C_drew ?_))); (case side2 => exact (Kd.R_reads' HO199.out).2.1); (case side3 => repeat (first | exact (Kd.R_reads' HO208.out).2.2 | (with_reducible refine Kd.C_alloc ?_ _) | (with_reducible refine Kd.C_drewN ?_ _) | (with_reducible refine Kd.C_drew ?_))); (case side4 => exact (Kd.R_reads' HO208.out).2.1); rintro e w36 ⟨rfl, hb⟩; refine ⟨_, rfl, ?_⟩; have n0_ := xm (Kd.R_below (rB HO188) hb); have n1_ := xm (Kd.R_below (rB HO191) hb); have n2_ := xm (Kd.R_below (rB HO196) hb); have n3_ := xm (Kd.R_below (rB HO199) hb); have n4_ := xm (Kd.R_below (rB HO204) hb); have n5_ := xm (Kd.R_below (rB HO208) hb); have n6_ := xm (below_step bB hb); revert n0_ n1_ n2_ n3_ n4_ n5_ n6_; clear HO188 HO191 HO196 HO199 HO204 HO208 HB; intro HO188 HO191 HO196 HO199 HO204 HO208 HB; (try clear hb)))
       go_ret
       exact ⟨eB, bG⟩
      ·replace c20 := Bool.eq_false_iff.mpr c20
       subst c20
       have H1 : (some false) = some true := by first | (with_reducible rfl) | (rw [if_neg (show ¬ (false = true) by decide)] at H; exact H)
       clear H
       have H := H1
       clear H1
       exact absurd H (by simp)
     ·replace c17 := Bool.eq_false_iff.mpr c17
      subst c17
      have H1 : (some false) = some true := by first | (with_reducible rfl) | (rw [if_neg (show ¬ (false = true) by decide)] at H; exact H)
      clear H
      have H := H1
      clear H1
      exact absurd H (by simp)

/-- THE ONE PURE STATEMENT of laws_FnExactSameRuns. -/
def laws_FnExactSameRuns.Pure : Prop := ∀ x0 : List (S36), (x0.length ≤ 9223372036854775807 ∧ ∀ x0_ ∈ x0, wf36 x0_) → ∀ x1 : List (S36), (x1.length ≤ 9223372036854775807 ∧ ∀ x0_ ∈ x1, wf36 x0_) → ∃ k, laws_FnExactSameRuns.f k x0 x1 = some true

end Go.Proofs.Ytmelechhnimlnab.G
