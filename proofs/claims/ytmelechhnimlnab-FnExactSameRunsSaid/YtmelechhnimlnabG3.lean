/- Written by a program of this claim's own, out of the translation: functions of the program as plain functions, and that the calls answer as these. No conditions. -/
import Derived.Test.YtmelechhnimlnabG0
namespace Go.Proofs.Ytmelechhnimlnab.G
open Go.RowKit Go.Proofs.Ytmelechhnimlnab.X Go.Proofs.YtmelechhnimlnabW.PrintWords Go.Proofs.YtmelechhnimlnabW.PrintLast Go.Proofs.YtmelechhnimlnabW.PrintMore
attribute [local go_sem] max2_int min2_int max_two min_two max_three min_three max_four min_four   -- for this text's walks alone
set_option linter.unusedVariables false
set_option linter.unusedSimpArgs false

/-! ### laws_szStepS: function 4 -/
def laws_szStepS.f (l0 : List (S36)) (a1 : Int) : Option (Int) := if (wrap64 (a1 - (l0.length : Int))) < 0 then (some (-1)) else (some (wrap64 (a1 - (l0.length : Int))))
set_option maxHeartbeats 8000000 in
set_option maxRecDepth 100000 in
theorem laws_szStepS.calls (A0 : Option Addr) (c0 : Nat) (l0 : List (S36)) (a1 : Int) (r : Int) (w : World) (hr0 : Kd.C k36 w A0 l0.length l0) (hc0 : l0.length ≤ c0) (h : laws_szStepS.f l0 a1 = some r) :
  Calls Try.prog 4 #[.slice A0 l0.length c0, .int .i64 a1] w fun e w' => e = .returned (.int .i64 r) ∧ Drawn0 w w' := by
 have HR0 := xm hr0
 have HC0 := xm hc0
 clear hr0 hc0
 have H : (if (wrap64 (a1 - (l0.length : Int))) < 0 then (some (-1)) else (some (wrap64 (a1 - (l0.length : Int))))) = some r := h
 clear h
 by_cases c3 : (wrap64 (a1 - (l0.length : Int))) < 0
 ·rw [if_pos c3] at H
  have c3b0 : decide ((wrap64 (a1 - (l0.length : Int))) < 0) = true := decide_eq_true c3
  clear c3
  obtain rfl := Option.some.inj H
  go_enter Try.func4, Try.ntmps4
  go_wp2
  go_ret
  exact ⟨sB, dB⟩
 ·rw [if_neg c3] at H
  have c3b0 : decide ((wrap64 (a1 - (l0.length : Int))) < 0) = false := decide_eq_false c3
  clear c3
  obtain rfl := Option.some.inj H
  go_enter Try.func4, Try.ntmps4
  go_wp2
  go_ret
  exact ⟨sB, dB⟩

/-! ### spec_l1In: function 20 -/
def spec_l1In.f (a0 : Int) (a1 : Int) (a2 : Int) : Option (Bool) := if a0 ≥ a1 then (some (decide (a0 ≤ a2))) else (some false)
set_option maxHeartbeats 8000000 in
set_option maxRecDepth 100000 in
theorem spec_l1In.calls (a0 : Int) (a1 : Int) (a2 : Int) (r : Bool) (w : World) (h : spec_l1In.f a0 a1 a2 = some r) :
  Calls Try.prog 20 #[.int .i64 a0, .int .i64 a1, .int .i64 a2] w fun e w' => e = .returned (.bool r) ∧ Drawn0 w w' := by
 have H : (if a0 ≥ a1 then (some (decide (a0 ≤ a2))) else (some false)) = some r := h
 clear h
 by_cases c4 : a0 ≥ a1
 ·rw [if_pos c4] at H
  have c4b0 : decide (a1 ≤ a0) = true := decide_eq_true c4
  clear c4
  obtain rfl := Option.some.inj H
  go_enter Try.func20, Try.ntmps20
  go_wp2
  go_ret
  exact ⟨sB, dB⟩
 ·rw [if_neg c4] at H
  have c4b0 : decide (a1 ≤ a0) = false := decide_eq_false c4
  clear c4
  obtain rfl := Option.some.inj H
  go_enter Try.func20, Try.ntmps20
  go_wp2
  go_ret
  exact ⟨sB, dB⟩

/-! ### spec_GoodSteps: function 9 -/
def spec_GoodSteps.l0 : Nat → List (S32) → List (S32) → Int → Int → Option (Bool)
 | 0, _, _, _, _ => none
 | k + 1, x0, x5, x6, x7 => if x7 < x6 then (if 0 ≤ x7 then (if x7 < (x5.length : Int) then (if ((rd_T32 x5 x7).f0) < 0 then (some false) else (if ((rd_T32 x5 x7).f0) ≥ 6 then (some false) else (if ((rd_T32 x5 x7).f2) < 0 then (some false) else (if ((rd_T32 x5 x7).f2) ≥ 4 then (some false) else ((spec_l1In.f ((rd_T32 x5 x7).f1) 1 2).bind fun t103 => (if t103 = true then (spec_GoodSteps.l0 k x0 x5 x6 (wrap64 (x7 + 1))) else (some false))))))) else (none)) else (none)) else (some (decide ((x0.length : Int) ≤ 40)))
def spec_GoodSteps.f (k : Nat) (l0 : List (S32)) : Option (Bool) := spec_GoodSteps.l0 k l0 l0 (l0.length : Int) 0
theorem spec_GoodSteps.mono_l : ∀ k, (∀ y0 y1 y2 y3, LeO (spec_GoodSteps.l0 k y0 y1 y2 y3) (spec_GoodSteps.l0 (k + 1) y0 y1 y2 y3))
 | 0 => fun _ _ _ _ r h => by simp [spec_GoodSteps.l0] at h
 | k + 1 => by
  have ih0 := spec_GoodSteps.mono_l k
  ·intro y0 y1 y2 y3
   unfold spec_GoodSteps.l0
   repeat' first
   | (with_reducible exact ih0 _ _ _ _)
   | (with_reducible exact LeO.refl _)
   | (with_reducible exact LeO.none _)
   | (with_reducible refine LeO.ite ?_ ?_)
   | (with_reducible refine LeO.bind ?_ (fun _ => ?_))
   | exact ih0 _ _ _ _
   | exact LeO.none _
   | refine LeO.ite ?_ ?_
   | refine LeO.bind ?_ (fun _ => ?_)
theorem spec_GoodSteps.mono : ∀ a0 k, LeO (spec_GoodSteps.f k a0) (spec_GoodSteps.f (k + 1) a0) := by
 intro a0 k
 have ih0 := spec_GoodSteps.mono_l k
 unfold spec_GoodSteps.f
 repeat' first
   | (with_reducible exact ih0 _ _ _ _)
   | (with_reducible exact LeO.refl _)
   | (with_reducible exact LeO.none _)
   | (with_reducible refine LeO.ite ?_ ?_)
   | (with_reducible refine LeO.bind ?_ (fun _ => ?_))
   | exact ih0 _ _ _ _
   | exact LeO.none _
   | refine LeO.ite ?_ ?_
   | refine LeO.bind ?_ (fun _ => ?_)
set_option maxHeartbeats 8000000 in
set_option maxRecDepth 100000 in
theorem spec_GoodSteps.calls (k : Nat) (A0 : Option Addr) (c0 : Nat) (l0 : List (S32)) (r : Bool) (w : World) (hr0 : Kd.C k32 w A0 l0.length l0) (hc0 : l0.length ≤ c0) (h : spec_GoodSteps.f k l0 = some r) :
  Calls Try.prog 9 #[.slice A0 l0.length c0] w fun e w' => e = .returned (.bool r) ∧ Below w.heap.size w w' := by
 have hu32 := Try.underlying32
 have HR0 := xm hr0
 have HC0 := xm hc0
 clear hr0 hc0
 have HB := xm (Below.refl w.heap.size w)
 have H : (spec_GoodSteps.l0 k l0 l0 (l0.length : Int) 0) = some r := h
 clear h
 have H' := xm H
 clear H
 go_enter Try.func9, Try.ntmps9
 go_wp2
 go_loopg [7] k (fun kq v7 w' => ∃ (x7_1 : Int), v7 = .int .i64 x7_1 ∧ Aside0 (spec_GoodSteps.l0 kq l0 l0 (l0.length : Int) x7_1 = some r) ∧ Aside0 (kq ≤ k) ∧ Aside0 (Below w.heap.size w w'))
 case atStart => exact ⟨(0), sB, H', ⟨Nat.le_refl _⟩, ⟨bG⟩⟩
 case round =>
  clear H'
  obtain ⟨x7_1, rfl, HA, HK1, HB⟩ := hrel
  cases gk with
  | zero => exact absurd HA.out (by simp [spec_GoodSteps.l0])
  | succ k1 =>
   have H := HA.out
   clear HA
   simp only [spec_GoodSteps.l0] at H
   by_cases c2 : x7_1 < (l0.length : Int)
   ·rw [if_pos c2] at H
    have c2b0 : decide (x7_1 < (l0.length : Int)) = true := decide_eq_true c2
    clear c2
    by_cases c3 : 0 ≤ x7_1
    ·rw [if_pos c3] at H
     have c3b0 : decide (0 ≤ x7_1) = true := decide_eq_true c3
     clear c3
     by_cases c4 : x7_1 < (l0.length : Int)
     ·rw [if_pos c4] at H
      have c4b0 : decide (x7_1 < (l0.length : Int)) = true := decide_eq_true c4
      clear c4
      by_cases c5 : ((rd_T32 l0 x7_1).f0) < 0
      ·rw [if_pos c5] at H
       have c5b0 : decide (((rd_T32 l0 x7_1).f0) < 0) = true := decide_eq_true c5
       clear c5
       obtain rfl := Option.some.inj H
       have p101 : 0 ≤ (x7_1 : Int) := of_decide_eq_true aB
       have q101 : x7_1 < (l0.length : Int) := of_decide_eq_true aB
       obtain ⟨ad101, e101, hx101_0, hx101_1, hx101_2⟩ := at_T32 HR0.out x7_1 p101 q101
       cases e101
       replace hx101_0 := hU hx101_0
       replace hx101_1 := hU hx101_1
       replace hx101_2 := hU hx101_2
       replace p101 := eq_true p101
       replace q101 := eq_true q101
       go_wp2_with (first | ((with_reducible refine gate_dst (N := 4) rfl ?_); refine box_event ?hg (N := 4) ?hd (cs := #[.int .i64 0, .int .i64 0, .int .i64 0]) (t := 32) ?hr ?_; (case hd => rfl); (case hg => rfl); (case hr => exact zB); intro gb102 hg w6 hbox hb; have n0_ := xm (below_step bB hb); have n1_ := xm (hbox); have n2_ := xm ((by rw [hg]; exact (xz bB) : w.heap.size ≤ gb102)); have n3_ := xm ((by rw [hg]; exact (xz bB) : w.heap.size ≤ gb102)); revert n0_ n1_ n2_ n3_; clear HB; intro HB BK102 GW102 GE102; clear hb hbox hg; obtain ⟨hcz7_0, hcz7_1, hcz7_2, hfz7_0, hfz7_1, hfz7_2⟩ := cz3 BK102.out))
       go_ret
       exact ⟨eB, bG⟩
      ·rw [if_neg c5] at H
       have c5b0 : decide (((rd_T32 l0 x7_1).f0) < 0) = false := decide_eq_false c5
       clear c5
       by_cases c8 : ((rd_T32 l0 x7_1).f0) ≥ 6
       ·rw [if_pos c8] at H
        have c8b0 : decide (6 ≤ ((rd_T32 l0 x7_1).f0)) = true := decide_eq_true c8
        clear c8
        obtain rfl := Option.some.inj H
        have p101 : 0 ≤ (x7_1 : Int) := of_decide_eq_true aB
        have q101 : x7_1 < (l0.length : Int) := of_decide_eq_true aB
        obtain ⟨ad101, e101, hx101_0, hx101_1, hx101_2⟩ := at_T32 HR0.out x7_1 p101 q101
        cases e101
        replace hx101_0 := hU hx101_0
        replace hx101_1 := hU hx101_1
        replace hx101_2 := hU hx101_2
        replace p101 := eq_true p101
        replace q101 := eq_true q101
        go_wp2_with (first | ((with_reducible refine gate_dst (N := 4) rfl ?_); refine box_event ?hg (N := 4) ?hd (cs := #[.int .i64 0, .int .i64 0, .int .i64 0]) (t := 32) ?hr ?_; (case hd => rfl); (case hg => rfl); (case hr => exact zB); intro gb102 hg w9 hbox hb; have n0_ := xm (below_step bB hb); have n1_ := xm (hbox); have n2_ := xm ((by rw [hg]; exact (xz bB) : w.heap.size ≤ gb102)); have n3_ := xm ((by rw [hg]; exact (xz bB) : w.heap.size ≤ gb102)); revert n0_ n1_ n2_ n3_; clear HB; intro HB BK102 GW102 GE102; clear hb hbox hg; obtain ⟨hcz10_0, hcz10_1, hcz10_2, hfz10_0, hfz10_1, hfz10_2⟩ := cz3 BK102.out))
        go_ret
        exact ⟨eB, bG⟩
       ·rw [if_neg c8] at H
        have c8b0 : decide (6 ≤ ((rd_T32 l0 x7_1).f0)) = false := decide_eq_false c8
        clear c8
        by_cases c11 : ((rd_T32 l0 x7_1).f2) < 0
        ·rw [if_pos c11] at H
         have c11b0 : decide (((rd_T32 l0 x7_1).f2) < 0) = true := decide_eq_true c11
         clear c11
         obtain rfl := Option.some.inj H
         have p101 : 0 ≤ (x7_1 : Int) := of_decide_eq_true aB
         have q101 : x7_1 < (l0.length : Int) := of_decide_eq_true aB
         obtain ⟨ad101, e101, hx101_0, hx101_1, hx101_2⟩ := at_T32 HR0.out x7_1 p101 q101
         cases e101
         replace hx101_0 := hU hx101_0
         replace hx101_1 := hU hx101_1
         replace hx101_2 := hU hx101_2
         replace p101 := eq_true p101
         replace q101 := eq_true q101
         go_wp2_with (first | ((with_reducible refine gate_dst (N := 4) rfl ?_); refine box_event ?hg (N := 4) ?hd (cs := #[.int .i64 0, .int .i64 0, .int .i64 0]) (t := 32) ?hr ?_; (case hd => rfl); (case hg => rfl); (case hr => exact zB); intro gb102 hg w12 hbox hb; have n0_ := xm (below_step bB hb); have n1_ := xm (hbox); have n2_ := xm ((by rw [hg]; exact (xz bB) : w.heap.size ≤ gb102)); have n3_ := xm ((by rw [hg]; exact (xz bB) : w.heap.size ≤ gb102)); revert n0_ n1_ n2_ n3_; clear HB; intro HB BK102 GW102 GE102; clear hb hbox hg; obtain ⟨hcz13_0, hcz13_1, hcz13_2, hfz13_0, hfz13_1, hfz13_2⟩ := cz3 BK102.out))
         go_ret
         exact ⟨eB, bG⟩
        ·rw [if_neg c11] at H
         have c11b0 : decide (((rd_T32 l0 x7_1).f2) < 0) = false := decide_eq_false c11
         clear c11
         by_cases c14 : ((rd_T32 l0 x7_1).f2) ≥ 4
         ·rw [if_pos c14] at H
          have c14b0 : decide (4 ≤ ((rd_T32 l0 x7_1).f2)) = true := decide_eq_true c14
          clear c14
          obtain rfl := Option.some.inj H
          have p101 : 0 ≤ (x7_1 : Int) := of_decide_eq_true aB
          have q101 : x7_1 < (l0.length : Int) := of_decide_eq_true aB
          obtain ⟨ad101, e101, hx101_0, hx101_1, hx101_2⟩ := at_T32 HR0.out x7_1 p101 q101
          cases e101
          replace hx101_0 := hU hx101_0
          replace hx101_1 := hU hx101_1
          replace hx101_2 := hU hx101_2
          replace p101 := eq_true p101
          replace q101 := eq_true q101
          go_wp2_with (first | ((with_reducible refine gate_dst (N := 4) rfl ?_); refine box_event ?hg (N := 4) ?hd (cs := #[.int .i64 0, .int .i64 0, .int .i64 0]) (t := 32) ?hr ?_; (case hd => rfl); (case hg => rfl); (case hr => exact zB); intro gb102 hg w15 hbox hb; have n0_ := xm (below_step bB hb); have n1_ := xm (hbox); have n2_ := xm ((by rw [hg]; exact (xz bB) : w.heap.size ≤ gb102)); have n3_ := xm ((by rw [hg]; exact (xz bB) : w.heap.size ≤ gb102)); revert n0_ n1_ n2_ n3_; clear HB; intro HB BK102 GW102 GE102; clear hb hbox hg; obtain ⟨hcz16_0, hcz16_1, hcz16_2, hfz16_0, hfz16_1, hfz16_2⟩ := cz3 BK102.out))
          go_ret
          exact ⟨eB, bG⟩
         ·rw [if_neg c14] at H
          have c14b0 : decide (4 ≤ ((rd_T32 l0 x7_1).f2)) = false := decide_eq_false c14
          clear c14
          replace H := Option.bind_eq_some_iff.mp H
          obtain ⟨t103, A170, H⟩ := H
          replace H : (if t103 = true then (spec_GoodSteps.l0 k1 l0 l0 (l0.length : Int) (wrap64 (x7_1 + 1))) else (some false)) = some r := H
          have A17 := xm A170
          clear A170
          by_cases c18 : t103 = true
          ·subst c18
           have H1 : (spec_GoodSteps.l0 k1 l0 l0 (l0.length : Int) (wrap64 (x7_1 + 1))) = some r := by first | (with_reducible rfl) | (rw [if_pos rfl] at H; exact H)
           clear H
           have H := H1
           clear H1
           have H' := xm H
           clear H
           have p101 : 0 ≤ (x7_1 : Int) := of_decide_eq_true aB
           have q101 : x7_1 < (l0.length : Int) := of_decide_eq_true aB
           obtain ⟨ad101, e101, hx101_0, hx101_1, hx101_2⟩ := at_T32 HR0.out x7_1 p101 q101
           cases e101
           replace hx101_0 := hU hx101_0
           replace hx101_1 := hU hx101_1
           replace hx101_2 := hU hx101_2
           replace p101 := eq_true p101
           replace q101 := eq_true q101
           go_wp2_with (first | ((with_reducible refine gate_dst (N := 4) rfl ?_); refine box_event ?hg (N := 4) ?hd (cs := #[.int .i64 0, .int .i64 0, .int .i64 0]) (t := 32) ?hr ?_; (case hd => rfl); (case hg => rfl); (case hr => exact zB); intro gb102 hg w19 hbox hb; have n0_ := xm (below_step bB hb); have n1_ := xm (hbox); have n2_ := xm ((by rw [hg]; exact (xz bB) : w.heap.size ≤ gb102)); have n3_ := xm ((by rw [hg]; exact (xz bB) : w.heap.size ≤ gb102)); revert n0_ n1_ n2_ n3_; clear HB; intro HB BK102 GW102 GE102; clear hb hbox hg; obtain ⟨hcz20_0, hcz20_1, hcz20_2, hfz20_0, hfz20_1, hfz20_2⟩ := cz3 BK102.out) | (go_at_call 20; (with_reducible refine (spec_l1In.calls ((rd_T32 l0 x7_1).f1) 1 2 true _ A17.out).mono ?_); rintro e w' ⟨rfl, ⟨nd, rfl⟩⟩))
           go_roundg k1
           case measure => have := HK1.out; omega
           case rel => exact ⟨(wrap64 (x7_1 + 1)), sB, H', ⟨by have := HK1.out; omega⟩, ⟨bG⟩⟩
          ·replace c18 := Bool.eq_false_iff.mpr c18
           subst c18
           have H1 : (some false) = some r := by first | (with_reducible rfl) | (rw [if_neg (show ¬ (false = true) by decide)] at H; exact H)
           clear H
           have H := H1
           clear H1
           obtain rfl := Option.some.inj H
           have p101 : 0 ≤ (x7_1 : Int) := of_decide_eq_true aB
           have q101 : x7_1 < (l0.length : Int) := of_decide_eq_true aB
           obtain ⟨ad101, e101, hx101_0, hx101_1, hx101_2⟩ := at_T32 HR0.out x7_1 p101 q101
           cases e101
           replace hx101_0 := hU hx101_0
           replace hx101_1 := hU hx101_1
           replace hx101_2 := hU hx101_2
           replace p101 := eq_true p101
           replace q101 := eq_true q101
           go_wp2_with (first | ((with_reducible refine gate_dst (N := 4) rfl ?_); refine box_event ?hg (N := 4) ?hd (cs := #[.int .i64 0, .int .i64 0, .int .i64 0]) (t := 32) ?hr ?_; (case hd => rfl); (case hg => rfl); (case hr => exact zB); intro gb102 hg w21 hbox hb; have n0_ := xm (below_step bB hb); have n1_ := xm (hbox); have n2_ := xm ((by rw [hg]; exact (xz bB) : w.heap.size ≤ gb102)); have n3_ := xm ((by rw [hg]; exact (xz bB) : w.heap.size ≤ gb102)); revert n0_ n1_ n2_ n3_; clear HB; intro HB BK102 GW102 GE102; clear hb hbox hg; obtain ⟨hcz22_0, hcz22_1, hcz22_2, hfz22_0, hfz22_1, hfz22_2⟩ := cz3 BK102.out) | (go_at_call 20; (with_reducible refine (spec_l1In.calls ((rd_T32 l0 x7_1).f1) 1 2 false _ A17.out).mono ?_); rintro e w' ⟨rfl, ⟨nd, rfl⟩⟩))
           go_ret
           exact ⟨eB, bG⟩
     ·rw [if_neg c4] at H
      exact absurd H (by simp)
    ·rw [if_neg c3] at H
     exact absurd H (by simp)
   ·rw [if_neg c2] at H
    have c2b0 : decide (x7_1 < (l0.length : Int)) = false := decide_eq_false c2
    clear c2
    obtain rfl := Option.some.inj H
    go_wp2
    go_ret
    exact ⟨eB, bG⟩

/-! ### spec_l13Own: function 22 -/
def spec_l13Own.l0 : Nat → List (S32) → Int → Int → List (S32) → Int → Int → Option (Int)
 | 0, _, _, _, _, _, _ => none
 | k + 1, x0, x1, x5, x10, x11, x12 => if x12 < x11 then (if 0 ≤ x12 then (if x12 < (x10.length : Int) then (if 0 ≤ x1 then (if x1 < (x0.length : Int) then (if ((rd_T32 x10 x12).f0) = ((rd_T32 x0 x1).f0) then (spec_l13Own.l0 k x0 x1 (wrap64 (x5 + 1)) x10 x11 (wrap64 (x12 + 1))) else (spec_l13Own.l0 k x0 x1 x5 x10 x11 (wrap64 (x12 + 1)))) else (none)) else (none)) else (none)) else (none)) else (some x5)
def spec_l13Own.f (k : Nat) (l0 : List (S32)) (a1 : Int) : Option (Int) := if 0 ≤ a1 then (if a1 ≤ (l0.length : Int) then ((some (l0.take (a1 : Int).toNat : List (S32))).bind fun y104 => (spec_l13Own.l0 k l0 a1 0 y104 (y104.length : Int) 0)) else (none)) else (none)
theorem spec_l13Own.mono_l : ∀ k, (∀ y0 y1 y2 y3 y4 y5, LeO (spec_l13Own.l0 k y0 y1 y2 y3 y4 y5) (spec_l13Own.l0 (k + 1) y0 y1 y2 y3 y4 y5))
 | 0 => fun _ _ _ _ _ _ r h => by simp [spec_l13Own.l0] at h
 | k + 1 => by
  have ih0 := spec_l13Own.mono_l k
  ·intro y0 y1 y2 y3 y4 y5
   unfold spec_l13Own.l0
   repeat' first
   | (with_reducible exact ih0 _ _ _ _ _ _)
   | (with_reducible exact LeO.refl _)
   | (with_reducible exact LeO.none _)
   | (with_reducible refine LeO.ite ?_ ?_)
   | (with_reducible refine LeO.bind ?_ (fun _ => ?_))
   | exact ih0 _ _ _ _ _ _
   | exact LeO.none _
   | refine LeO.ite ?_ ?_
   | refine LeO.bind ?_ (fun _ => ?_)
theorem spec_l13Own.mono : ∀ a0 a1 k, LeO (spec_l13Own.f k a0 a1) (spec_l13Own.f (k + 1) a0 a1) := by
 intro a0 a1 k
 have ih0 := spec_l13Own.mono_l k
 unfold spec_l13Own.f
 repeat' first
   | (with_reducible exact ih0 _ _ _ _ _ _)
   | (with_reducible exact LeO.refl _)
   | (with_reducible exact LeO.none _)
   | (with_reducible refine LeO.ite ?_ ?_)
   | (with_reducible refine LeO.bind ?_ (fun _ => ?_))
   | exact ih0 _ _ _ _ _ _
   | exact LeO.none _
   | refine LeO.ite ?_ ?_
   | refine LeO.bind ?_ (fun _ => ?_)
set_option maxHeartbeats 8000000 in
set_option maxRecDepth 100000 in
theorem spec_l13Own.calls (k : Nat) (A0 : Option Addr) (c0 : Nat) (l0 : List (S32)) (a1 : Int) (r : Int) (w : World) (hr0 : Kd.C k32 w A0 l0.length l0) (hc0 : l0.length ≤ c0) (h : spec_l13Own.f k l0 a1 = some r) :
  Calls Try.prog 22 #[.slice A0 l0.length c0, .int .i64 a1] w fun e w' => e = .returned (.int .i64 r) ∧ Below w.heap.size w w' := by
 have hu32 := Try.underlying32
 have HR0 := xm hr0
 have HC0 := xm hc0
 clear hr0 hc0
 have HB := xm (Below.refl w.heap.size w)
 have H : (if 0 ≤ a1 then (if a1 ≤ (l0.length : Int) then ((some (l0.take (a1 : Int).toNat : List (S32))).bind fun y104 => (spec_l13Own.l0 k l0 a1 0 y104 (y104.length : Int) 0)) else (none)) else (none)) = some r := h
 clear h
 by_cases c3 : 0 ≤ a1
 ·rw [if_pos c3] at H
  have c3b0 := eq_true c3
  have c3b1 : decide (0 ≤ a1) = true := decide_eq_true c3
  clear c3
  by_cases c4 : a1 ≤ (l0.length : Int)
  ·rw [if_pos c4] at H
   have c4b0 := eq_true c4
   have c4b1 : decide (a1 ≤ (l0.length : Int)) = true := decide_eq_true c4
   clear c4
   obtain ⟨y104, hy104⟩ : ∃ y_ : List (S32), y_ = (l0.take (a1 : Int).toNat) := ⟨_, rfl⟩
   replace H : (spec_l13Own.l0 k l0 a1 0 y104 (y104.length : Int) 0) = some r := by first | (rw [hy104]; with_reducible exact H) | (have H2_ := (Option.bind_some _ _).symm.trans H; rw [hy104]; with_reducible exact H2_) | (have H2_ := (Option.bind_some _ _).symm.trans H; with_reducible exact H2_) | with_reducible exact H | (rw [hy104]; exact H) | exact H
   have Ny104 := xm hy104
   clear hy104
   have H' := xm H
   clear H
   have q5 : (a1 : Int) ≤ ((l0.length : Int) : Int) := of_decide_eq_true aB
   obtain ⟨i05, hi05, _, hsz5, _⟩ := info_parts info32
   have hroom5 : l0.length ≤ c0 := HC0.out
   have hC5 : Kd.C k32 _ A0 l0.length l0 := HR0.out
   have hcut5 := cut_to (P := Try.prog) 26 32 .i64 Try.underlying26 hi05 A0 l0.length c0 a1 (of_decide_eq_true aB) q5 hroom5
   have hr5 := Kd.C_take (m := (a1 : Int).toNat) hC5 (by omega)
   have hy5 : y104.length = (a1 : Int).toNat := (by rw [Ny104.out, List.length_take]; omega)
   rw [← Ny104.out] at hr5
   rw [← hy5] at hcut5
   have HR107 := xm hr5
   have HC107 := xm (show y104.length ≤ c0 from by omega)
   clear hr5 hC5 hroom5 hi05 hsz5
   have KY5 := xm hy5
   clear hy5
   replace q5 := eq_true q5
   go_enter Try.func22, Try.ntmps22
   go_wp2
   repeat (go_quiet (fail); try go_wp2)
   go_loopg [5, 12] k (fun kq v5 v12 w' => ∃ (x5_1 : Int) (x12_1 : Int), v5 = .int .i64 x5_1 ∧ v12 = .int .i64 x12_1 ∧ Aside0 (spec_l13Own.l0 kq l0 a1 x5_1 y104 (y104.length : Int) x12_1 = some r) ∧ Aside0 (kq ≤ k) ∧ Aside0 (Below w.heap.size w w'))
   case atStart => exact ⟨(0), (0), sB, sB, H', ⟨Nat.le_refl _⟩, ⟨bG⟩⟩
   case round =>
    clear H'
    try clear c2
    try clear p2
    try clear c3
    try clear c3b0 c3b1
    try clear c4
    try clear c4b0 c4b1
    try clear q5
    try clear q5
    obtain ⟨x5_1, x12_1, rfl, rfl, HA, HK1, HB⟩ := hrel
    cases gk with
    | zero => exact absurd HA.out (by simp [spec_l13Own.l0])
    | succ k1 =>
     have H := HA.out
     clear HA
     simp only [spec_l13Own.l0] at H
     by_cases c6 : x12_1 < (y104.length : Int)
     ·rw [if_pos c6] at H
      have c6b0 : decide (x12_1 < (y104.length : Int)) = true := decide_eq_true c6
      clear c6
      by_cases c7 : 0 ≤ x12_1
      ·rw [if_pos c7] at H
       have c7b0 : decide (0 ≤ x12_1) = true := decide_eq_true c7
       clear c7
       by_cases c8 : x12_1 < (y104.length : Int)
       ·rw [if_pos c8] at H
        have c8b0 : decide (x12_1 < (y104.length : Int)) = true := decide_eq_true c8
        clear c8
        by_cases c9 : 0 ≤ a1
        ·rw [if_pos c9] at H
         have c9b0 : decide (0 ≤ a1) = true := decide_eq_true c9
         clear c9
         by_cases c10 : a1 < (l0.length : Int)
         ·rw [if_pos c10] at H
          have c10b0 : decide (a1 < (l0.length : Int)) = true := decide_eq_true c10
          clear c10
          by_cases c11 : ((rd_T32 y104 x12_1).f0) = ((rd_T32 l0 a1).f0)
          ·rw [if_pos c11] at H
           have c11b0 : (((rd_T32 y104 x12_1).f0) == ((rd_T32 l0 a1).f0)) = true := beq_iff_eq.mpr c11
           have c11b1 : (((rd_T32 y104 x12_1).f0) != ((rd_T32 l0 a1).f0)) = false := bne_eq_false_iff_eq.mpr c11
           clear c11
           have H' := xm H
           clear H
           have p108 : 0 ≤ (x12_1 : Int) := of_decide_eq_true aB
           have q108 : x12_1 < (y104.length : Int) := of_decide_eq_true aB
           obtain ⟨ad108, e108, hx108_0, hx108_1, hx108_2⟩ := at_T32 HR107.out x12_1 p108 q108
           cases e108
           replace hx108_0 := hU hx108_0
           replace hx108_1 := hU hx108_1
           replace hx108_2 := hU hx108_2
           replace p108 := eq_true p108
           replace q108 := eq_true q108
           go_wp2_with (first | ((with_reducible refine gate_dst (N := 7) rfl ?_); refine box_event ?hg (N := 7) ?hd (cs := #[.int .i64 0, .int .i64 0, .int .i64 0]) (t := 32) ?hr ?_; (case hd => rfl); (case hg => rfl); (case hr => exact zB); intro gb109 hg w12 hbox hb; have n0_ := xm (below_step bB hb); have n1_ := xm (hbox); have n2_ := xm ((by rw [hg]; exact (xz bB) : w.heap.size ≤ gb109)); have n3_ := xm ((by rw [hg]; exact (xz bB) : w.heap.size ≤ gb109)); revert n0_ n1_ n2_ n3_; clear HB; intro HB BK109 GW109 GE109; clear hb hbox hg; obtain ⟨hcz13_0, hcz13_1, hcz13_2, hfz13_0, hfz13_1, hfz13_2⟩ := cz3 BK109.out; have p110 : 0 ≤ (a1 : Int) := of_decide_eq_true aB; have q110 : a1 < (l0.length : Int) := of_decide_eq_true aB; obtain ⟨ad110, e110, hx110_0, hx110_1, hx110_2⟩ := at_T32 HR0.out a1 p110 q110; obtain rfl : ad108 = ad110 := (by injection e110); have hn110_0 : ad108.block ≠ gb109 := Nat.ne_of_lt (Nat.lt_of_lt_of_le (by have := World.block_lt_of_cell? _ _ hx110_0; first | rwa [add_block] at this | exact this) GW109.out); have hn110_1 : ad108.block ≠ gb109 := Nat.ne_of_lt (Nat.lt_of_lt_of_le (by have := World.block_lt_of_cell? _ _ hx110_0; first | rwa [add_block] at this | exact this) GW109.out); have hn110_2 : ad108.block ≠ gb109 := Nat.ne_of_lt (Nat.lt_of_lt_of_le (by have := World.block_lt_of_cell? _ _ hx110_0; first | rwa [add_block] at this | exact this) GW109.out); replace hx110_0 := (HB.out.cell (World.block_lt_of_cell? w _ hx110_0)).trans hx110_0; replace hx110_1 := (HB.out.cell (World.block_lt_of_cell? w _ hx110_1)).trans hx110_1; replace hx110_2 := (HB.out.cell (World.block_lt_of_cell? w _ hx110_2)).trans hx110_2; replace hx110_0 := (cell_far (p := ⟨gb109, 0, none⟩) (by first | (rw [add_block]; exact hn110_0) | (show (Addr.add _ _).block ≠ _; rw [add_block]; exact hn110_0) | exact hn110_0) (.int .i64 ((rd_T32 y104 x12_1).f0))).trans hx110_0; replace hx110_1 := (cell_far (p := ⟨gb109, 0, none⟩) (by first | (rw [add_block]; exact hn110_0) | (show (Addr.add _ _).block ≠ _; rw [add_block]; exact hn110_0) | exact hn110_0) (.int .i64 ((rd_T32 y104 x12_1).f0))).trans hx110_1; replace hx110_2 := (cell_far (p := ⟨gb109, 0, none⟩) (by first | (rw [add_block]; exact hn110_0) | (show (Addr.add _ _).block ≠ _; rw [add_block]; exact hn110_0) | exact hn110_0) (.int .i64 ((rd_T32 y104 x12_1).f0))).trans hx110_2; replace hx110_0 := (cell_far (p := ⟨gb109, 1, none⟩) (by first | (rw [add_block]; exact hn110_1) | (show (Addr.add _ _).block ≠ _; rw [add_block]; exact hn110_1) | exact hn110_1) (.int .i64 ((rd_T32 y104 x12_1).f1))).trans hx110_0; replace hx110_1 := (cell_far (p := ⟨gb109, 1, none⟩) (by first | (rw [add_block]; exact hn110_1) | (show (Addr.add _ _).block ≠ _; rw [add_block]; exact hn110_1) | exact hn110_1) (.int .i64 ((rd_T32 y104 x12_1).f1))).trans hx110_1; replace hx110_2 := (cell_far (p := ⟨gb109, 1, none⟩) (by first | (rw [add_block]; exact hn110_1) | (show (Addr.add _ _).block ≠ _; rw [add_block]; exact hn110_1) | exact hn110_1) (.int .i64 ((rd_T32 y104 x12_1).f1))).trans hx110_2; replace hx110_0 := (cell_far (p := ⟨gb109, 2, none⟩) (by first | (rw [add_block]; exact hn110_2) | (show (Addr.add _ _).block ≠ _; rw [add_block]; exact hn110_2) | exact hn110_2) (.int .i64 ((rd_T32 y104 x12_1).f2))).trans hx110_0; replace hx110_1 := (cell_far (p := ⟨gb109, 2, none⟩) (by first | (rw [add_block]; exact hn110_2) | (show (Addr.add _ _).block ≠ _; rw [add_block]; exact hn110_2) | exact hn110_2) (.int .i64 ((rd_T32 y104 x12_1).f2))).trans hx110_1; replace hx110_2 := (cell_far (p := ⟨gb109, 2, none⟩) (by first | (rw [add_block]; exact hn110_2) | (show (Addr.add _ _).block ≠ _; rw [add_block]; exact hn110_2) | exact hn110_2) (.int .i64 ((rd_T32 y104 x12_1).f2))).trans hx110_2; (try have hy110_0 := fun (n_ : Nat) => (show (((((w12.drewN n_).setCell ⟨gb109, 0, none⟩ (.int .i64 ((rd_T32 y104 x12_1).f0))).setCell ⟨gb109, 1, none⟩ (.int .i64 ((rd_T32 y104 x12_1).f1))).setCell ⟨gb109, 2, none⟩ (.int .i64 ((rd_T32 y104 x12_1).f2)))).cell? _ = some _ from hx110_0)); (try have hy110_1 := fun (n_ : Nat) => (show (((((w12.drewN n_).setCell ⟨gb109, 0, none⟩ (.int .i64 ((rd_T32 y104 x12_1).f0))).setCell ⟨gb109, 1, none⟩ (.int .i64 ((rd_T32 y104 x12_1).f1))).setCell ⟨gb109, 2, none⟩ (.int .i64 ((rd_T32 y104 x12_1).f2)))).cell? _ = some _ from hx110_1)); (try have hy110_2 := fun (n_ : Nat) => (show (((((w12.drewN n_).setCell ⟨gb109, 0, none⟩ (.int .i64 ((rd_T32 y104 x12_1).f0))).setCell ⟨gb109, 1, none⟩ (.int .i64 ((rd_T32 y104 x12_1).f1))).setCell ⟨gb109, 2, none⟩ (.int .i64 ((rd_T32 y104 x12_1).f2)))).cell? _ = some _ from hx110_2)); clear hn110_0; clear hn110_1; clear hn110_2; replace p110 := eq_true p110; replace q110 := eq_true q110))
           repeat (go_quiet (first | ((with_reducible refine gate_dst (N := 7) rfl ?_); refine box_event ?hg (N := 7) ?hd (cs := #[.int .i64 0, .int .i64 0, .int .i64 0]) (t := 32) ?hr ?_; (case hd => rfl); (case hg => rfl); (case hr => exact zB); intro gb109 hg w12 hbox hb; have n0_ := xm (below_step bB hb); have n1_ := xm (hbox); have n2_ := xm ((by rw [hg]; exact (xz bB) : w.heap.size ≤ gb109)); have n3_ := xm ((by rw [hg]; exact (xz bB) : w.heap.size ≤ gb109)); revert n0_ n1_ n2_ n3_; clear HB; intro HB BK109 GW109 GE109; clear hb hbox hg; obtain ⟨hcz13_0, hcz13_1, hcz13_2, hfz13_0, hfz13_1, hfz13_2⟩ := cz3 BK109.out; have p110 : 0 ≤ (a1 : Int) := of_decide_eq_true aB; have q110 : a1 < (l0.length : Int) := of_decide_eq_true aB; obtain ⟨ad110, e110, hx110_0, hx110_1, hx110_2⟩ := at_T32 HR0.out a1 p110 q110; obtain rfl : ad108 = ad110 := (by injection e110); have hn110_0 : ad108.block ≠ gb109 := Nat.ne_of_lt (Nat.lt_of_lt_of_le (by have := World.block_lt_of_cell? _ _ hx110_0; first | rwa [add_block] at this | exact this) GW109.out); have hn110_1 : ad108.block ≠ gb109 := Nat.ne_of_lt (Nat.lt_of_lt_of_le (by have := World.block_lt_of_cell? _ _ hx110_0; first | rwa [add_block] at this | exact this) GW109.out); have hn110_2 : ad108.block ≠ gb109 := Nat.ne_of_lt (Nat.lt_of_lt_of_le (by have := World.block_lt_of_cell? _ _ hx110_0; first | rwa [add_block] at this | exact this) GW109.out); replace hx110_0 := (HB.out.cell (World.block_lt_of_cell? w _ hx110_0)).trans hx110_0; replace hx110_1 := (HB.out.cell (World.block_lt_of_cell? w _ hx110_1)).trans hx110_1; replace hx110_2 := (HB.out.cell (World.block_lt_of_cell? w _ hx110_2)).trans hx110_2; replace hx110_0 := (cell_far (p := ⟨gb109, 0, none⟩) (by first | (rw [add_block]; exact hn110_0) | (show (Addr.add _ _).block ≠ _; rw [add_block]; exact hn110_0) | exact hn110_0) (.int .i64 ((rd_T32 y104 x12_1).f0))).trans hx110_0; replace hx110_1 := (cell_far (p := ⟨gb109, 0, none⟩) (by first | (rw [add_block]; exact hn110_0) | (show (Addr.add _ _).block ≠ _; rw [add_block]; exact hn110_0) | exact hn110_0) (.int .i64 ((rd_T32 y104 x12_1).f0))).trans hx110_1; replace hx110_2 := (cell_far (p := ⟨gb109, 0, none⟩) (by first | (rw [add_block]; exact hn110_0) | (show (Addr.add _ _).block ≠ _; rw [add_block]; exact hn110_0) | exact hn110_0) (.int .i64 ((rd_T32 y104 x12_1).f0))).trans hx110_2; replace hx110_0 := (cell_far (p := ⟨gb109, 1, none⟩) (by first | (rw [add_block]; exact hn110_1) | (show (Addr.add _ _).block ≠ _; rw [add_block]; exact hn110_1) | exact hn110_1) (.int .i64 ((rd_T32 y104 x12_1).f1))).trans hx110_0; replace hx110_1 := (cell_far (p := ⟨gb109, 1, none⟩) (by first | (rw [add_block]; exact hn110_1) | (show (Addr.add _ _).block ≠ _; rw [add_block]; exact hn110_1) | exact hn110_1) (.int .i64 ((rd_T32 y104 x12_1).f1))).trans hx110_1; replace hx110_2 := (cell_far (p := ⟨gb109, 1, none⟩) (by first | (rw [add_block]; exact hn110_1) | (show (Addr.add _ _).block ≠ _; rw [add_block]; exact hn110_1) | exact hn110_1) (.int .i64 ((rd_T32 y104 x12_1).f1))).trans hx110_2; replace hx110_0 := (cell_far (p := ⟨gb109, 2, none⟩) (by first | (rw [add_block]; exact hn110_2) | (show (Addr.add _ _).block ≠ _; rw [add_block]; exact hn110_2) | exact hn110_2) (.int .i64 ((rd_T32 y104 x12_1).f2))).trans hx110_0; replace hx110_1 := (cell_far (p := ⟨gb109, 2, none⟩) (by first | (rw [add_block]; exact hn110_2) | (show (Addr.add _ _).block ≠ _; rw [add_block]; exact hn110_2) | exact hn110_2) (.int .i64 ((rd_T32 y104 x12_1).f2))).trans hx110_1; replace hx110_2 := (cell_far (p := ⟨gb109, 2, none⟩) (by first | (rw [add_block]; exact hn110_2) | (show (Addr.add _ _).block ≠ _; rw [add_block]; exact hn110_2) | exact hn110_2) (.int .i64 ((rd_T32 y104 x12_1).f2))).trans hx110_2; (try have hy110_0 := fun (n_ : Nat) => (show (((((w12.drewN n_).setCell ⟨gb109, 0, none⟩ (.int .i64 ((rd_T32 y104 x12_1).f0))).setCell ⟨gb109, 1, none⟩ (.int .i64 ((rd_T32 y104 x12_1).f1))).setCell ⟨gb109, 2, none⟩ (.int .i64 ((rd_T32 y104 x12_1).f2)))).cell? _ = some _ from hx110_0)); (try have hy110_1 := fun (n_ : Nat) => (show (((((w12.drewN n_).setCell ⟨gb109, 0, none⟩ (.int .i64 ((rd_T32 y104 x12_1).f0))).setCell ⟨gb109, 1, none⟩ (.int .i64 ((rd_T32 y104 x12_1).f1))).setCell ⟨gb109, 2, none⟩ (.int .i64 ((rd_T32 y104 x12_1).f2)))).cell? _ = some _ from hx110_1)); (try have hy110_2 := fun (n_ : Nat) => (show (((((w12.drewN n_).setCell ⟨gb109, 0, none⟩ (.int .i64 ((rd_T32 y104 x12_1).f0))).setCell ⟨gb109, 1, none⟩ (.int .i64 ((rd_T32 y104 x12_1).f1))).setCell ⟨gb109, 2, none⟩ (.int .i64 ((rd_T32 y104 x12_1).f2)))).cell? _ = some _ from hx110_2)); clear hn110_0; clear hn110_1; clear hn110_2; replace p110 := eq_true p110; replace q110 := eq_true q110)); try go_wp2_with (first | ((with_reducible refine gate_dst (N := 7) rfl ?_); refine box_event ?hg (N := 7) ?hd (cs := #[.int .i64 0, .int .i64 0, .int .i64 0]) (t := 32) ?hr ?_; (case hd => rfl); (case hg => rfl); (case hr => exact zB); intro gb109 hg w12 hbox hb; have n0_ := xm (below_step bB hb); have n1_ := xm (hbox); have n2_ := xm ((by rw [hg]; exact (xz bB) : w.heap.size ≤ gb109)); have n3_ := xm ((by rw [hg]; exact (xz bB) : w.heap.size ≤ gb109)); revert n0_ n1_ n2_ n3_; clear HB; intro HB BK109 GW109 GE109; clear hb hbox hg; obtain ⟨hcz13_0, hcz13_1, hcz13_2, hfz13_0, hfz13_1, hfz13_2⟩ := cz3 BK109.out; have p110 : 0 ≤ (a1 : Int) := of_decide_eq_true aB; have q110 : a1 < (l0.length : Int) := of_decide_eq_true aB; obtain ⟨ad110, e110, hx110_0, hx110_1, hx110_2⟩ := at_T32 HR0.out a1 p110 q110; obtain rfl : ad108 = ad110 := (by injection e110); have hn110_0 : ad108.block ≠ gb109 := Nat.ne_of_lt (Nat.lt_of_lt_of_le (by have := World.block_lt_of_cell? _ _ hx110_0; first | rwa [add_block] at this | exact this) GW109.out); have hn110_1 : ad108.block ≠ gb109 := Nat.ne_of_lt (Nat.lt_of_lt_of_le (by have := World.block_lt_of_cell? _ _ hx110_0; first | rwa [add_block] at this | exact this) GW109.out); have hn110_2 : ad108.block ≠ gb109 := Nat.ne_of_lt (Nat.lt_of_lt_of_le (by have := World.block_lt_of_cell? _ _ hx110_0; first | rwa [add_block] at this | exact this) GW109.out); replace hx110_0 := (HB.out.cell (World.block_lt_of_cell? w _ hx110_0)).trans hx110_0; replace hx110_1 := (HB.out.cell (World.block_lt_of_cell? w _ hx110_1)).trans hx110_1; replace hx110_2 := (HB.out.cell (World.block_lt_of_cell? w _ hx110_2)).trans hx110_2; replace hx110_0 := (cell_far (p := ⟨gb109, 0, none⟩) (by first | (rw [add_block]; exact hn110_0) | (show (Addr.add _ _).block ≠ _; rw [add_block]; exact hn110_0) | exact hn110_0) (.int .i64 ((rd_T32 y104 x12_1).f0))).trans hx110_0; replace hx110_1 := (cell_far (p := ⟨gb109, 0, none⟩) (by first | (rw [add_block]; exact hn110_0) | (show (Addr.add _ _).block ≠ _; rw [add_block]; exact hn110_0) | exact hn110_0) (.int .i64 ((rd_T32 y104 x12_1).f0))).trans hx110_1; replace hx110_2 := (cell_far (p := ⟨gb109, 0, none⟩) (by first | (rw [add_block]; exact hn110_0) | (show (Addr.add _ _).block ≠ _; rw [add_block]; exact hn110_0) | exact hn110_0) (.int .i64 ((rd_T32 y104 x12_1).f0))).trans hx110_2; replace hx110_0 := (cell_far (p := ⟨gb109, 1, none⟩) (by first | (rw [add_block]; exact hn110_1) | (show (Addr.add _ _).block ≠ _; rw [add_block]; exact hn110_1) | exact hn110_1) (.int .i64 ((rd_T32 y104 x12_1).f1))).trans hx110_0; replace hx110_1 := (cell_far (p := ⟨gb109, 1, none⟩) (by first | (rw [add_block]; exact hn110_1) | (show (Addr.add _ _).block ≠ _; rw [add_block]; exact hn110_1) | exact hn110_1) (.int .i64 ((rd_T32 y104 x12_1).f1))).trans hx110_1; replace hx110_2 := (cell_far (p := ⟨gb109, 1, none⟩) (by first | (rw [add_block]; exact hn110_1) | (show (Addr.add _ _).block ≠ _; rw [add_block]; exact hn110_1) | exact hn110_1) (.int .i64 ((rd_T32 y104 x12_1).f1))).trans hx110_2; replace hx110_0 := (cell_far (p := ⟨gb109, 2, none⟩) (by first | (rw [add_block]; exact hn110_2) | (show (Addr.add _ _).block ≠ _; rw [add_block]; exact hn110_2) | exact hn110_2) (.int .i64 ((rd_T32 y104 x12_1).f2))).trans hx110_0; replace hx110_1 := (cell_far (p := ⟨gb109, 2, none⟩) (by first | (rw [add_block]; exact hn110_2) | (show (Addr.add _ _).block ≠ _; rw [add_block]; exact hn110_2) | exact hn110_2) (.int .i64 ((rd_T32 y104 x12_1).f2))).trans hx110_1; replace hx110_2 := (cell_far (p := ⟨gb109, 2, none⟩) (by first | (rw [add_block]; exact hn110_2) | (show (Addr.add _ _).block ≠ _; rw [add_block]; exact hn110_2) | exact hn110_2) (.int .i64 ((rd_T32 y104 x12_1).f2))).trans hx110_2; (try have hy110_0 := fun (n_ : Nat) => (show (((((w12.drewN n_).setCell ⟨gb109, 0, none⟩ (.int .i64 ((rd_T32 y104 x12_1).f0))).setCell ⟨gb109, 1, none⟩ (.int .i64 ((rd_T32 y104 x12_1).f1))).setCell ⟨gb109, 2, none⟩ (.int .i64 ((rd_T32 y104 x12_1).f2)))).cell? _ = some _ from hx110_0)); (try have hy110_1 := fun (n_ : Nat) => (show (((((w12.drewN n_).setCell ⟨gb109, 0, none⟩ (.int .i64 ((rd_T32 y104 x12_1).f0))).setCell ⟨gb109, 1, none⟩ (.int .i64 ((rd_T32 y104 x12_1).f1))).setCell ⟨gb109, 2, none⟩ (.int .i64 ((rd_T32 y104 x12_1).f2)))).cell? _ = some _ from hx110_1)); (try have hy110_2 := fun (n_ : Nat) => (show (((((w12.drewN n_).setCell ⟨gb109, 0, none⟩ (.int .i64 ((rd_T32 y104 x12_1).f0))).setCell ⟨gb109, 1, none⟩ (.int .i64 ((rd_T32 y104 x12_1).f1))).setCell ⟨gb109, 2, none⟩ (.int .i64 ((rd_T32 y104 x12_1).f2)))).cell? _ = some _ from hx110_2)); clear hn110_0; clear hn110_1; clear hn110_2; replace p110 := eq_true p110; replace q110 := eq_true q110)))
           go_roundg k1
           case measure => have := HK1.out; omega
           case rel => exact ⟨(wrap64 (x5_1 + 1)), (wrap64 (x12_1 + 1)), sB, sB, H', ⟨by have := HK1.out; omega⟩, ⟨bG⟩⟩
          ·rw [if_neg c11] at H
           have c11b0 : (((rd_T32 y104 x12_1).f0) == ((rd_T32 l0 a1).f0)) = false := beq_eq_false_iff_ne.mpr c11
           have c11b1 : (((rd_T32 y104 x12_1).f0) != ((rd_T32 l0 a1).f0)) = true := bne_iff_ne.mpr c11
           have H' := xm H
           clear H
           have p108 : 0 ≤ (x12_1 : Int) := of_decide_eq_true aB
           have q108 : x12_1 < (y104.length : Int) := of_decide_eq_true aB
           obtain ⟨ad108, e108, hx108_0, hx108_1, hx108_2⟩ := at_T32 HR107.out x12_1 p108 q108
           cases e108
           replace hx108_0 := hU hx108_0
           replace hx108_1 := hU hx108_1
           replace hx108_2 := hU hx108_2
           replace p108 := eq_true p108
           replace q108 := eq_true q108
           go_wp2_with (first | ((with_reducible refine gate_dst (N := 7) rfl ?_); refine box_event ?hg (N := 7) ?hd (cs := #[.int .i64 0, .int .i64 0, .int .i64 0]) (t := 32) ?hr ?_; (case hd => rfl); (case hg => rfl); (case hr => exact zB); intro gb109 hg w14 hbox hb; have n0_ := xm (below_step bB hb); have n1_ := xm (hbox); have n2_ := xm ((by rw [hg]; exact (xz bB) : w.heap.size ≤ gb109)); have n3_ := xm ((by rw [hg]; exact (xz bB) : w.heap.size ≤ gb109)); revert n0_ n1_ n2_ n3_; clear HB; intro HB BK109 GW109 GE109; clear hb hbox hg; obtain ⟨hcz15_0, hcz15_1, hcz15_2, hfz15_0, hfz15_1, hfz15_2⟩ := cz3 BK109.out; have p110 : 0 ≤ (a1 : Int) := of_decide_eq_true aB; have q110 : a1 < (l0.length : Int) := of_decide_eq_true aB; obtain ⟨ad110, e110, hx110_0, hx110_1, hx110_2⟩ := at_T32 HR0.out a1 p110 q110; obtain rfl : ad108 = ad110 := (by injection e110); have hn110_0 : ad108.block ≠ gb109 := Nat.ne_of_lt (Nat.lt_of_lt_of_le (by have := World.block_lt_of_cell? _ _ hx110_0; first | rwa [add_block] at this | exact this) GW109.out); have hn110_1 : ad108.block ≠ gb109 := Nat.ne_of_lt (Nat.lt_of_lt_of_le (by have := World.block_lt_of_cell? _ _ hx110_0; first | rwa [add_block] at this | exact this) GW109.out); have hn110_2 : ad108.block ≠ gb109 := Nat.ne_of_lt (Nat.lt_of_lt_of_le (by have := World.block_lt_of_cell? _ _ hx110_0; first | rwa [add_block] at this | exact this) GW109.out); replace hx110_0 := (HB.out.cell (World.block_lt_of_cell? w _ hx110_0)).trans hx110_0; replace hx110_1 := (HB.out.cell (World.block_lt_of_cell? w _ hx110_1)).trans hx110_1; replace hx110_2 := (HB.out.cell (World.block_lt_of_cell? w _ hx110_2)).trans hx110_2; replace hx110_0 := (cell_far (p := ⟨gb109, 0, none⟩) (by first | (rw [add_block]; exact hn110_0) | (show (Addr.add _ _).block ≠ _; rw [add_block]; exact hn110_0) | exact hn110_0) (.int .i64 ((rd_T32 y104 x12_1).f0))).trans hx110_0; replace hx110_1 := (cell_far (p := ⟨gb109, 0, none⟩) (by first | (rw [add_block]; exact hn110_0) | (show (Addr.add _ _).block ≠ _; rw [add_block]; exact hn110_0) | exact hn110_0) (.int .i64 ((rd_T32 y104 x12_1).f0))).trans hx110_1; replace hx110_2 := (cell_far (p := ⟨gb109, 0, none⟩) (by first | (rw [add_block]; exact hn110_0) | (show (Addr.add _ _).block ≠ _; rw [add_block]; exact hn110_0) | exact hn110_0) (.int .i64 ((rd_T32 y104 x12_1).f0))).trans hx110_2; replace hx110_0 := (cell_far (p := ⟨gb109, 1, none⟩) (by first | (rw [add_block]; exact hn110_1) | (show (Addr.add _ _).block ≠ _; rw [add_block]; exact hn110_1) | exact hn110_1) (.int .i64 ((rd_T32 y104 x12_1).f1))).trans hx110_0; replace hx110_1 := (cell_far (p := ⟨gb109, 1, none⟩) (by first | (rw [add_block]; exact hn110_1) | (show (Addr.add _ _).block ≠ _; rw [add_block]; exact hn110_1) | exact hn110_1) (.int .i64 ((rd_T32 y104 x12_1).f1))).trans hx110_1; replace hx110_2 := (cell_far (p := ⟨gb109, 1, none⟩) (by first | (rw [add_block]; exact hn110_1) | (show (Addr.add _ _).block ≠ _; rw [add_block]; exact hn110_1) | exact hn110_1) (.int .i64 ((rd_T32 y104 x12_1).f1))).trans hx110_2; replace hx110_0 := (cell_far (p := ⟨gb109, 2, none⟩) (by first | (rw [add_block]; exact hn110_2) | (show (Addr.add _ _).block ≠ _; rw [add_block]; exact hn110_2) | exact hn110_2) (.int .i64 ((rd_T32 y104 x12_1).f2))).trans hx110_0; replace hx110_1 := (cell_far (p := ⟨gb109, 2, none⟩) (by first | (rw [add_block]; exact hn110_2) | (show (Addr.add _ _).block ≠ _; rw [add_block]; exact hn110_2) | exact hn110_2) (.int .i64 ((rd_T32 y104 x12_1).f2))).trans hx110_1; replace hx110_2 := (cell_far (p := ⟨gb109, 2, none⟩) (by first | (rw [add_block]; exact hn110_2) | (show (Addr.add _ _).block ≠ _; rw [add_block]; exact hn110_2) | exact hn110_2) (.int .i64 ((rd_T32 y104 x12_1).f2))).trans hx110_2; (try have hy110_0 := fun (n_ : Nat) => (show (((((w14.drewN n_).setCell ⟨gb109, 0, none⟩ (.int .i64 ((rd_T32 y104 x12_1).f0))).setCell ⟨gb109, 1, none⟩ (.int .i64 ((rd_T32 y104 x12_1).f1))).setCell ⟨gb109, 2, none⟩ (.int .i64 ((rd_T32 y104 x12_1).f2)))).cell? _ = some _ from hx110_0)); (try have hy110_1 := fun (n_ : Nat) => (show (((((w14.drewN n_).setCell ⟨gb109, 0, none⟩ (.int .i64 ((rd_T32 y104 x12_1).f0))).setCell ⟨gb109, 1, none⟩ (.int .i64 ((rd_T32 y104 x12_1).f1))).setCell ⟨gb109, 2, none⟩ (.int .i64 ((rd_T32 y104 x12_1).f2)))).cell? _ = some _ from hx110_1)); (try have hy110_2 := fun (n_ : Nat) => (show (((((w14.drewN n_).setCell ⟨gb109, 0, none⟩ (.int .i64 ((rd_T32 y104 x12_1).f0))).setCell ⟨gb109, 1, none⟩ (.int .i64 ((rd_T32 y104 x12_1).f1))).setCell ⟨gb109, 2, none⟩ (.int .i64 ((rd_T32 y104 x12_1).f2)))).cell? _ = some _ from hx110_2)); clear hn110_0; clear hn110_1; clear hn110_2; replace p110 := eq_true p110; replace q110 := eq_true q110))
           repeat (go_quiet (first | ((with_reducible refine gate_dst (N := 7) rfl ?_); refine box_event ?hg (N := 7) ?hd (cs := #[.int .i64 0, .int .i64 0, .int .i64 0]) (t := 32) ?hr ?_; (case hd => rfl); (case hg => rfl); (case hr => exact zB); intro gb109 hg w14 hbox hb; have n0_ := xm (below_step bB hb); have n1_ := xm (hbox); have n2_ := xm ((by rw [hg]; exact (xz bB) : w.heap.size ≤ gb109)); have n3_ := xm ((by rw [hg]; exact (xz bB) : w.heap.size ≤ gb109)); revert n0_ n1_ n2_ n3_; clear HB; intro HB BK109 GW109 GE109; clear hb hbox hg; obtain ⟨hcz15_0, hcz15_1, hcz15_2, hfz15_0, hfz15_1, hfz15_2⟩ := cz3 BK109.out; have p110 : 0 ≤ (a1 : Int) := of_decide_eq_true aB; have q110 : a1 < (l0.length : Int) := of_decide_eq_true aB; obtain ⟨ad110, e110, hx110_0, hx110_1, hx110_2⟩ := at_T32 HR0.out a1 p110 q110; obtain rfl : ad108 = ad110 := (by injection e110); have hn110_0 : ad108.block ≠ gb109 := Nat.ne_of_lt (Nat.lt_of_lt_of_le (by have := World.block_lt_of_cell? _ _ hx110_0; first | rwa [add_block] at this | exact this) GW109.out); have hn110_1 : ad108.block ≠ gb109 := Nat.ne_of_lt (Nat.lt_of_lt_of_le (by have := World.block_lt_of_cell? _ _ hx110_0; first | rwa [add_block] at this | exact this) GW109.out); have hn110_2 : ad108.block ≠ gb109 := Nat.ne_of_lt (Nat.lt_of_lt_of_le (by have := World.block_lt_of_cell? _ _ hx110_0; first | rwa [add_block] at this | exact this) GW109.out); replace hx110_0 := (HB.out.cell (World.block_lt_of_cell? w _ hx110_0)).trans hx110_0; replace hx110_1 := (HB.out.cell (World.block_lt_of_cell? w _ hx110_1)).trans hx110_1; replace hx110_2 := (HB.out.cell (World.block_lt_of_cell? w _ hx110_2)).trans hx110_2; replace hx110_0 := (cell_far (p := ⟨gb109, 0, none⟩) (by first | (rw [add_block]; exact hn110_0) | (show (Addr.add _ _).block ≠ _; rw [add_block]; exact hn110_0) | exact hn110_0) (.int .i64 ((rd_T32 y104 x12_1).f0))).trans hx110_0; replace hx110_1 := (cell_far (p := ⟨gb109, 0, none⟩) (by first | (rw [add_block]; exact hn110_0) | (show (Addr.add _ _).block ≠ _; rw [add_block]; exact hn110_0) | exact hn110_0) (.int .i64 ((rd_T32 y104 x12_1).f0))).trans hx110_1; replace hx110_2 := (cell_far (p := ⟨gb109, 0, none⟩) (by first | (rw [add_block]; exact hn110_0) | (show (Addr.add _ _).block ≠ _; rw [add_block]; exact hn110_0) | exact hn110_0) (.int .i64 ((rd_T32 y104 x12_1).f0))).trans hx110_2; replace hx110_0 := (cell_far (p := ⟨gb109, 1, none⟩) (by first | (rw [add_block]; exact hn110_1) | (show (Addr.add _ _).block ≠ _; rw [add_block]; exact hn110_1) | exact hn110_1) (.int .i64 ((rd_T32 y104 x12_1).f1))).trans hx110_0; replace hx110_1 := (cell_far (p := ⟨gb109, 1, none⟩) (by first | (rw [add_block]; exact hn110_1) | (show (Addr.add _ _).block ≠ _; rw [add_block]; exact hn110_1) | exact hn110_1) (.int .i64 ((rd_T32 y104 x12_1).f1))).trans hx110_1; replace hx110_2 := (cell_far (p := ⟨gb109, 1, none⟩) (by first | (rw [add_block]; exact hn110_1) | (show (Addr.add _ _).block ≠ _; rw [add_block]; exact hn110_1) | exact hn110_1) (.int .i64 ((rd_T32 y104 x12_1).f1))).trans hx110_2; replace hx110_0 := (cell_far (p := ⟨gb109, 2, none⟩) (by first | (rw [add_block]; exact hn110_2) | (show (Addr.add _ _).block ≠ _; rw [add_block]; exact hn110_2) | exact hn110_2) (.int .i64 ((rd_T32 y104 x12_1).f2))).trans hx110_0; replace hx110_1 := (cell_far (p := ⟨gb109, 2, none⟩) (by first | (rw [add_block]; exact hn110_2) | (show (Addr.add _ _).block ≠ _; rw [add_block]; exact hn110_2) | exact hn110_2) (.int .i64 ((rd_T32 y104 x12_1).f2))).trans hx110_1; replace hx110_2 := (cell_far (p := ⟨gb109, 2, none⟩) (by first | (rw [add_block]; exact hn110_2) | (show (Addr.add _ _).block ≠ _; rw [add_block]; exact hn110_2) | exact hn110_2) (.int .i64 ((rd_T32 y104 x12_1).f2))).trans hx110_2; (try have hy110_0 := fun (n_ : Nat) => (show (((((w14.drewN n_).setCell ⟨gb109, 0, none⟩ (.int .i64 ((rd_T32 y104 x12_1).f0))).setCell ⟨gb109, 1, none⟩ (.int .i64 ((rd_T32 y104 x12_1).f1))).setCell ⟨gb109, 2, none⟩ (.int .i64 ((rd_T32 y104 x12_1).f2)))).cell? _ = some _ from hx110_0)); (try have hy110_1 := fun (n_ : Nat) => (show (((((w14.drewN n_).setCell ⟨gb109, 0, none⟩ (.int .i64 ((rd_T32 y104 x12_1).f0))).setCell ⟨gb109, 1, none⟩ (.int .i64 ((rd_T32 y104 x12_1).f1))).setCell ⟨gb109, 2, none⟩ (.int .i64 ((rd_T32 y104 x12_1).f2)))).cell? _ = some _ from hx110_1)); (try have hy110_2 := fun (n_ : Nat) => (show (((((w14.drewN n_).setCell ⟨gb109, 0, none⟩ (.int .i64 ((rd_T32 y104 x12_1).f0))).setCell ⟨gb109, 1, none⟩ (.int .i64 ((rd_T32 y104 x12_1).f1))).setCell ⟨gb109, 2, none⟩ (.int .i64 ((rd_T32 y104 x12_1).f2)))).cell? _ = some _ from hx110_2)); clear hn110_0; clear hn110_1; clear hn110_2; replace p110 := eq_true p110; replace q110 := eq_true q110)); try go_wp2_with (first | ((with_reducible refine gate_dst (N := 7) rfl ?_); refine box_event ?hg (N := 7) ?hd (cs := #[.int .i64 0, .int .i64 0, .int .i64 0]) (t := 32) ?hr ?_; (case hd => rfl); (case hg => rfl); (case hr => exact zB); intro gb109 hg w14 hbox hb; have n0_ := xm (below_step bB hb); have n1_ := xm (hbox); have n2_ := xm ((by rw [hg]; exact (xz bB) : w.heap.size ≤ gb109)); have n3_ := xm ((by rw [hg]; exact (xz bB) : w.heap.size ≤ gb109)); revert n0_ n1_ n2_ n3_; clear HB; intro HB BK109 GW109 GE109; clear hb hbox hg; obtain ⟨hcz15_0, hcz15_1, hcz15_2, hfz15_0, hfz15_1, hfz15_2⟩ := cz3 BK109.out; have p110 : 0 ≤ (a1 : Int) := of_decide_eq_true aB; have q110 : a1 < (l0.length : Int) := of_decide_eq_true aB; obtain ⟨ad110, e110, hx110_0, hx110_1, hx110_2⟩ := at_T32 HR0.out a1 p110 q110; obtain rfl : ad108 = ad110 := (by injection e110); have hn110_0 : ad108.block ≠ gb109 := Nat.ne_of_lt (Nat.lt_of_lt_of_le (by have := World.block_lt_of_cell? _ _ hx110_0; first | rwa [add_block] at this | exact this) GW109.out); have hn110_1 : ad108.block ≠ gb109 := Nat.ne_of_lt (Nat.lt_of_lt_of_le (by have := World.block_lt_of_cell? _ _ hx110_0; first | rwa [add_block] at this | exact this) GW109.out); have hn110_2 : ad108.block ≠ gb109 := Nat.ne_of_lt (Nat.lt_of_lt_of_le (by have := World.block_lt_of_cell? _ _ hx110_0; first | rwa [add_block] at this | exact this) GW109.out); replace hx110_0 := (HB.out.cell (World.block_lt_of_cell? w _ hx110_0)).trans hx110_0; replace hx110_1 := (HB.out.cell (World.block_lt_of_cell? w _ hx110_1)).trans hx110_1; replace hx110_2 := (HB.out.cell (World.block_lt_of_cell? w _ hx110_2)).trans hx110_2; replace hx110_0 := (cell_far (p := ⟨gb109, 0, none⟩) (by first | (rw [add_block]; exact hn110_0) | (show (Addr.add _ _).block ≠ _; rw [add_block]; exact hn110_0) | exact hn110_0) (.int .i64 ((rd_T32 y104 x12_1).f0))).trans hx110_0; replace hx110_1 := (cell_far (p := ⟨gb109, 0, none⟩) (by first | (rw [add_block]; exact hn110_0) | (show (Addr.add _ _).block ≠ _; rw [add_block]; exact hn110_0) | exact hn110_0) (.int .i64 ((rd_T32 y104 x12_1).f0))).trans hx110_1; replace hx110_2 := (cell_far (p := ⟨gb109, 0, none⟩) (by first | (rw [add_block]; exact hn110_0) | (show (Addr.add _ _).block ≠ _; rw [add_block]; exact hn110_0) | exact hn110_0) (.int .i64 ((rd_T32 y104 x12_1).f0))).trans hx110_2; replace hx110_0 := (cell_far (p := ⟨gb109, 1, none⟩) (by first | (rw [add_block]; exact hn110_1) | (show (Addr.add _ _).block ≠ _; rw [add_block]; exact hn110_1) | exact hn110_1) (.int .i64 ((rd_T32 y104 x12_1).f1))).trans hx110_0; replace hx110_1 := (cell_far (p := ⟨gb109, 1, none⟩) (by first | (rw [add_block]; exact hn110_1) | (show (Addr.add _ _).block ≠ _; rw [add_block]; exact hn110_1) | exact hn110_1) (.int .i64 ((rd_T32 y104 x12_1).f1))).trans hx110_1; replace hx110_2 := (cell_far (p := ⟨gb109, 1, none⟩) (by first | (rw [add_block]; exact hn110_1) | (show (Addr.add _ _).block ≠ _; rw [add_block]; exact hn110_1) | exact hn110_1) (.int .i64 ((rd_T32 y104 x12_1).f1))).trans hx110_2; replace hx110_0 := (cell_far (p := ⟨gb109, 2, none⟩) (by first | (rw [add_block]; exact hn110_2) | (show (Addr.add _ _).block ≠ _; rw [add_block]; exact hn110_2) | exact hn110_2) (.int .i64 ((rd_T32 y104 x12_1).f2))).trans hx110_0; replace hx110_1 := (cell_far (p := ⟨gb109, 2, none⟩) (by first | (rw [add_block]; exact hn110_2) | (show (Addr.add _ _).block ≠ _; rw [add_block]; exact hn110_2) | exact hn110_2) (.int .i64 ((rd_T32 y104 x12_1).f2))).trans hx110_1; replace hx110_2 := (cell_far (p := ⟨gb109, 2, none⟩) (by first | (rw [add_block]; exact hn110_2) | (show (Addr.add _ _).block ≠ _; rw [add_block]; exact hn110_2) | exact hn110_2) (.int .i64 ((rd_T32 y104 x12_1).f2))).trans hx110_2; (try have hy110_0 := fun (n_ : Nat) => (show (((((w14.drewN n_).setCell ⟨gb109, 0, none⟩ (.int .i64 ((rd_T32 y104 x12_1).f0))).setCell ⟨gb109, 1, none⟩ (.int .i64 ((rd_T32 y104 x12_1).f1))).setCell ⟨gb109, 2, none⟩ (.int .i64 ((rd_T32 y104 x12_1).f2)))).cell? _ = some _ from hx110_0)); (try have hy110_1 := fun (n_ : Nat) => (show (((((w14.drewN n_).setCell ⟨gb109, 0, none⟩ (.int .i64 ((rd_T32 y104 x12_1).f0))).setCell ⟨gb109, 1, none⟩ (.int .i64 ((rd_T32 y104 x12_1).f1))).setCell ⟨gb109, 2, none⟩ (.int .i64 ((rd_T32 y104 x12_1).f2)))).cell? _ = some _ from hx110_1)); (try have hy110_2 := fun (n_ : Nat) => (show (((((w14.drewN n_).setCell ⟨gb109, 0, none⟩ (.int .i64 ((rd_T32 y104 x12_1).f0))).setCell ⟨gb109, 1, none⟩ (.int .i64 ((rd_T32 y104 x12_1).f1))).setCell ⟨gb109, 2, none⟩ (.int .i64 ((rd_T32 y104 x12_1).f2)))).cell? _ = some _ from hx110_2)); clear hn110_0; clear hn110_1; clear hn110_2; replace p110 := eq_true p110; replace q110 := eq_true q110)))
           go_roundg k1
           case measure => have := HK1.out; omega
           case rel => exact ⟨(x5_1), (wrap64 (x12_1 + 1)), sB, sB, H', ⟨by have := HK1.out; omega⟩, ⟨bG⟩⟩
         ·rw [if_neg c10] at H
          exact absurd H (by simp)
        ·rw [if_neg c9] at H
         exact absurd H (by simp)
       ·rw [if_neg c8] at H
        exact absurd H (by simp)
      ·rw [if_neg c7] at H
       exact absurd H (by simp)
     ·rw [if_neg c6] at H
      have c6b0 : decide (x12_1 < (y104.length : Int)) = false := decide_eq_false c6
      clear c6
      obtain rfl := Option.some.inj H
      go_wp2
      repeat (go_quiet (fail); try go_wp2)
      go_ret
      exact ⟨eB, bG⟩
  ·rw [if_neg c4] at H
   exact absurd H (by simp)
 ·rw [if_neg c3] at H
  exact absurd H (by simp)

/-! ### spec_l13At: function 21 -/
def spec_l13At.l0 : Nat → List (S32) → Int → Int → List (S32) → Int → Int → Option (Int)
 | 0, _, _, _, _, _, _ => none
 | k + 1, x0, x1, x2, x9, x10, x11 => if x11 < x10 then (if 0 ≤ x11 then (if x11 < (x9.length : Int) then (if ((rd_T32 x9 x11).f0) = x1 then ((spec_l13Own.f k x0 x11).bind fun t113 => (if t113 = x2 then (some x11) else (spec_l13At.l0 k x0 x1 x2 x9 x10 (wrap64 (x11 + 1))))) else (spec_l13At.l0 k x0 x1 x2 x9 x10 (wrap64 (x11 + 1)))) else (none)) else (none)) else (some (-1))
def spec_l13At.f (k : Nat) (l0 : List (S32)) (a1 : Int) (a2 : Int) : Option (Int) := spec_l13At.l0 k l0 a1 a2 l0 (l0.length : Int) 0
theorem spec_l13At.mono_l : ∀ k, (∀ y0 y1 y2 y3 y4 y5, LeO (spec_l13At.l0 k y0 y1 y2 y3 y4 y5) (spec_l13At.l0 (k + 1) y0 y1 y2 y3 y4 y5))
 | 0 => fun _ _ _ _ _ _ r h => by simp [spec_l13At.l0] at h
 | k + 1 => by
  have ih0 := spec_l13At.mono_l k
  ·intro y0 y1 y2 y3 y4 y5
   unfold spec_l13At.l0
   repeat' first
   | (with_reducible exact ih0 _ _ _ _ _ _)
   | (with_reducible exact spec_l13Own.mono _ _ _)
   | (with_reducible exact LeO.refl _)
   | (with_reducible exact LeO.none _)
   | (with_reducible refine LeO.ite ?_ ?_)
   | (with_reducible refine LeO.bind ?_ (fun _ => ?_))
   | exact ih0 _ _ _ _ _ _
   | exact spec_l13Own.mono _ _ _
   | exact LeO.none _
   | refine LeO.ite ?_ ?_
   | refine LeO.bind ?_ (fun _ => ?_)
theorem spec_l13At.mono : ∀ a0 a1 a2 k, LeO (spec_l13At.f k a0 a1 a2) (spec_l13At.f (k + 1) a0 a1 a2) := by
 intro a0 a1 a2 k
 have ih0 := spec_l13At.mono_l k
 unfold spec_l13At.f
 repeat' first
   | (with_reducible exact ih0 _ _ _ _ _ _)
   | (with_reducible exact spec_l13Own.mono _ _ _)
   | (with_reducible exact LeO.refl _)
   | (with_reducible exact LeO.none _)
   | (with_reducible refine LeO.ite ?_ ?_)
   | (with_reducible refine LeO.bind ?_ (fun _ => ?_))
   | exact ih0 _ _ _ _ _ _
   | exact spec_l13Own.mono _ _ _
   | exact LeO.none _
   | refine LeO.ite ?_ ?_
   | refine LeO.bind ?_ (fun _ => ?_)
set_option maxHeartbeats 8000000 in
set_option maxRecDepth 100000 in
theorem spec_l13At.calls (k : Nat) (A0 : Option Addr) (c0 : Nat) (l0 : List (S32)) (a1 : Int) (a2 : Int) (r : Int) (w : World) (hr0 : Kd.C k32 w A0 l0.length l0) (hc0 : l0.length ≤ c0) (h : spec_l13At.f k l0 a1 a2 = some r) :
  Calls Try.prog 21 #[.slice A0 l0.length c0, .int .i64 a1, .int .i64 a2] w fun e w' => e = .returned (.int .i64 r) ∧ Below w.heap.size w w' := by
 have hu32 := Try.underlying32
 have HR0 := xm hr0
 have HC0 := xm hc0
 clear hr0 hc0
 have HB := xm (Below.refl w.heap.size w)
 have H : (spec_l13At.l0 k l0 a1 a2 l0 (l0.length : Int) 0) = some r := h
 clear h
 have H' := xm H
 clear H
 go_enter Try.func21, Try.ntmps21
 go_wp2
 go_loopg [11] k (fun kq v11 w' => ∃ (x11_1 : Int), v11 = .int .i64 x11_1 ∧ Aside0 (spec_l13At.l0 kq l0 a1 a2 l0 (l0.length : Int) x11_1 = some r) ∧ Aside0 (kq ≤ k) ∧ Aside0 (Below w.heap.size w w'))
 case atStart => exact ⟨(0), sB, H', ⟨Nat.le_refl _⟩, ⟨bG⟩⟩
 case round =>
  clear H'
  try clear c2
  try clear p2
  obtain ⟨x11_1, rfl, HA, HK1, HB⟩ := hrel
  cases gk with
  | zero => exact absurd HA.out (by simp [spec_l13At.l0])
  | succ k1 =>
   have H := HA.out
   clear HA
   simp only [spec_l13At.l0] at H
   by_cases c4 : x11_1 < (l0.length : Int)
   ·rw [if_pos c4] at H
    have c4b0 : decide (x11_1 < (l0.length : Int)) = true := decide_eq_true c4
    clear c4
    by_cases c5 : 0 ≤ x11_1
    ·rw [if_pos c5] at H
     have c5b0 : decide (0 ≤ x11_1) = true := decide_eq_true c5
     clear c5
     by_cases c6 : x11_1 < (l0.length : Int)
     ·rw [if_pos c6] at H
      have c6b0 : decide (x11_1 < (l0.length : Int)) = true := decide_eq_true c6
      clear c6
      by_cases c7 : ((rd_T32 l0 x11_1).f0) = a1
      ·rw [if_pos c7] at H
       have c7b0 : (((rd_T32 l0 x11_1).f0) == a1) = true := beq_iff_eq.mpr c7
       have c7b1 : (((rd_T32 l0 x11_1).f0) != a1) = false := bne_eq_false_iff_eq.mpr c7
       clear c7
       replace H := Option.bind_eq_some_iff.mp H
       obtain ⟨t113, A80, H⟩ := H
       replace H : (if t113 = a2 then (some x11_1) else (spec_l13At.l0 k1 l0 a1 a2 l0 (l0.length : Int) (wrap64 (x11_1 + 1)))) = some r := H
       have A8 := xm A80
       clear A80
       by_cases c9 : t113 = a2
       ·rw [if_pos c9] at H
        have c9b0 : (t113 == a2) = true := beq_iff_eq.mpr c9
        have c9b1 : (t113 != a2) = false := bne_eq_false_iff_eq.mpr c9
        clear c9
        obtain rfl := Option.some.inj H
        have p111 : 0 ≤ (x11_1 : Int) := of_decide_eq_true aB
        have q111 : x11_1 < (l0.length : Int) := of_decide_eq_true aB
        obtain ⟨ad111, e111, hx111_0, hx111_1, hx111_2⟩ := at_T32 HR0.out x11_1 p111 q111
        cases e111
        replace hx111_0 := hU hx111_0
        replace hx111_1 := hU hx111_1
        replace hx111_2 := hU hx111_2
        replace p111 := eq_true p111
        replace q111 := eq_true q111
        go_wp2_with (first | ((with_reducible refine gate_dst (N := 8) rfl ?_); refine box_event ?hg (N := 8) ?hd (cs := #[.int .i64 0, .int .i64 0, .int .i64 0]) (t := 32) ?hr ?_; (case hd => rfl); (case hg => rfl); (case hr => exact zB); intro gb112 hg w10 hbox hb; have n0_ := xm (below_step bB hb); have n1_ := xm (hbox); have n2_ := xm ((by rw [hg]; exact (xz bB) : w.heap.size ≤ gb112)); have n3_ := xm ((by rw [hg]; exact (xz bB) : w.heap.size ≤ gb112)); revert n0_ n1_ n2_ n3_; clear HB; intro HB BK112 GW112 GE112; clear hb hbox hg; obtain ⟨hcz11_0, hcz11_1, hcz11_2, hfz11_0, hfz11_1, hfz11_2⟩ := cz3 BK112.out) | (go_at_call 22; (with_reducible refine (spec_l13Own.calls k1 _ _ l0 x11_1 t113 _ ?side1 ?side2 A8.out).mono ?_); (case side1 => exact Kd.C_below HR0.out bG); (case side2 => exact HC0.out); rintro e w12 ⟨rfl, hb⟩; have n0_ := xm (blk_below (g := gb112) (o := .cells #[.int .i64 ((rd_T32 l0 x11_1).f0), .int .i64 ((rd_T32 l0 x11_1).f1), .int .i64 ((rd_T32 l0 x11_1).f2)] 32 (0, 0)) (by (with_reducible repeat (first | refine xq ?_ _ | refine xr ?_ | refine xo ?_ _)); refine blk_put (cs := #[.int .i64 ((rd_T32 l0 x11_1).f0), .int .i64 ((rd_T32 l0 x11_1).f1), .int .i64 0]) ?_ 2 _ rfl; (with_reducible repeat (first | refine xq ?_ _ | refine xr ?_ | refine xo ?_ _)); refine blk_put (cs := #[.int .i64 ((rd_T32 l0 x11_1).f0), .int .i64 0, .int .i64 0]) ?_ 1 _ rfl; (with_reducible repeat (first | refine xq ?_ _ | refine xr ?_ | refine xo ?_ _)); refine blk_put (cs := #[.int .i64 0, .int .i64 0, .int .i64 0]) ?_ 0 _ rfl; (with_reducible repeat (first | refine xq ?_ _ | refine xr ?_ | refine xo ?_ _)); exact BK112.out) hb); have n1_ := xm (below_step bG hb); revert n0_ n1_; clear BK112 HB; intro BK112 HB; (try clear hb)))
        go_ret
        exact ⟨eB, bG⟩
       ·rw [if_neg c9] at H
        have c9b0 : (t113 == a2) = false := beq_eq_false_iff_ne.mpr c9
        have c9b1 : (t113 != a2) = true := bne_iff_ne.mpr c9
        have H' := xm H
        clear H
        have p111 : 0 ≤ (x11_1 : Int) := of_decide_eq_true aB
        have q111 : x11_1 < (l0.length : Int) := of_decide_eq_true aB
        obtain ⟨ad111, e111, hx111_0, hx111_1, hx111_2⟩ := at_T32 HR0.out x11_1 p111 q111
        cases e111
        replace hx111_0 := hU hx111_0
        replace hx111_1 := hU hx111_1
        replace hx111_2 := hU hx111_2
        replace p111 := eq_true p111
        replace q111 := eq_true q111
        go_wp2_with (first | ((with_reducible refine gate_dst (N := 8) rfl ?_); refine box_event ?hg (N := 8) ?hd (cs := #[.int .i64 0, .int .i64 0, .int .i64 0]) (t := 32) ?hr ?_; (case hd => rfl); (case hg => rfl); (case hr => exact zB); intro gb112 hg w13 hbox hb; have n0_ := xm (below_step bB hb); have n1_ := xm (hbox); have n2_ := xm ((by rw [hg]; exact (xz bB) : w.heap.size ≤ gb112)); have n3_ := xm ((by rw [hg]; exact (xz bB) : w.heap.size ≤ gb112)); revert n0_ n1_ n2_ n3_; clear HB; intro HB BK112 GW112 GE112; clear hb hbox hg; obtain ⟨hcz14_0, hcz14_1, hcz14_2, hfz14_0, hfz14_1, hfz14_2⟩ := cz3 BK112.out) | (go_at_call 22; (with_reducible refine (spec_l13Own.calls k1 _ _ l0 x11_1 t113 _ ?side1 ?side2 A8.out).mono ?_); (case side1 => exact Kd.C_below HR0.out bG); (case side2 => exact HC0.out); rintro e w15 ⟨rfl, hb⟩; have n0_ := xm (blk_below (g := gb112) (o := .cells #[.int .i64 ((rd_T32 l0 x11_1).f0), .int .i64 ((rd_T32 l0 x11_1).f1), .int .i64 ((rd_T32 l0 x11_1).f2)] 32 (0, 0)) (by (with_reducible repeat (first | refine xq ?_ _ | refine xr ?_ | refine xo ?_ _)); refine blk_put (cs := #[.int .i64 ((rd_T32 l0 x11_1).f0), .int .i64 ((rd_T32 l0 x11_1).f1), .int .i64 0]) ?_ 2 _ rfl; (with_reducible repeat (first | refine xq ?_ _ | refine xr ?_ | refine xo ?_ _)); refine blk_put (cs := #[.int .i64 ((rd_T32 l0 x11_1).f0), .int .i64 0, .int .i64 0]) ?_ 1 _ rfl; (with_reducible repeat (first | refine xq ?_ _ | refine xr ?_ | refine xo ?_ _)); refine blk_put (cs := #[.int .i64 0, .int .i64 0, .int .i64 0]) ?_ 0 _ rfl; (with_reducible repeat (first | refine xq ?_ _ | refine xr ?_ | refine xo ?_ _)); exact BK112.out) hb); have n1_ := xm (below_step bG hb); revert n0_ n1_; clear BK112 HB; intro BK112 HB; (try clear hb)))
        go_roundg k1
        case measure => have := HK1.out; omega
        case rel => exact ⟨(wrap64 (x11_1 + 1)), sB, H', ⟨by have := HK1.out; omega⟩, ⟨bG⟩⟩
      ·rw [if_neg c7] at H
       have c7b0 : (((rd_T32 l0 x11_1).f0) == a1) = false := beq_eq_false_iff_ne.mpr c7
       have c7b1 : (((rd_T32 l0 x11_1).f0) != a1) = true := bne_iff_ne.mpr c7
       have H' := xm H
       clear H
       have p111 : 0 ≤ (x11_1 : Int) := of_decide_eq_true aB
       have q111 : x11_1 < (l0.length : Int) := of_decide_eq_true aB
       obtain ⟨ad111, e111, hx111_0, hx111_1, hx111_2⟩ := at_T32 HR0.out x11_1 p111 q111
       cases e111
       replace hx111_0 := hU hx111_0
       replace hx111_1 := hU hx111_1
       replace hx111_2 := hU hx111_2
       replace p111 := eq_true p111
       replace q111 := eq_true q111
       go_wp2_with (first | ((with_reducible refine gate_dst (N := 8) rfl ?_); refine box_event ?hg (N := 8) ?hd (cs := #[.int .i64 0, .int .i64 0, .int .i64 0]) (t := 32) ?hr ?_; (case hd => rfl); (case hg => rfl); (case hr => exact zB); intro gb112 hg w16 hbox hb; have n0_ := xm (below_step bB hb); have n1_ := xm (hbox); have n2_ := xm ((by rw [hg]; exact (xz bB) : w.heap.size ≤ gb112)); have n3_ := xm ((by rw [hg]; exact (xz bB) : w.heap.size ≤ gb112)); revert n0_ n1_ n2_ n3_; clear HB; intro HB BK112 GW112 GE112; clear hb hbox hg; obtain ⟨hcz17_0, hcz17_1, hcz17_2, hfz17_0, hfz17_1, hfz17_2⟩ := cz3 BK112.out))
       go_roundg k1
       case measure => have := HK1.out; omega
       case rel => exact ⟨(wrap64 (x11_1 + 1)), sB, H', ⟨by have := HK1.out; omega⟩, ⟨bG⟩⟩
     ·rw [if_neg c6] at H
      exact absurd H (by simp)
    ·rw [if_neg c5] at H
     exact absurd H (by simp)
   ·rw [if_neg c4] at H
    have c4b0 : decide (x11_1 < (l0.length : Int)) = false := decide_eq_false c4
    clear c4
    obtain rfl := Option.some.inj H
    go_wp2
    go_ret
    exact ⟨eB, bG⟩

end Go.Proofs.Ytmelechhnimlnab.G
