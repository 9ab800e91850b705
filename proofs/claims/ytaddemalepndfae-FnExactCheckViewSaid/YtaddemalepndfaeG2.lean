/- Written by a program of this claim's own, out of the translation: functions of the program as plain functions, and that the calls answer as these. No conditions. -/
import Derived.Test.YtaddemalepndfaeG0
import Derived.Test.YtaddemalepndfaeG1
namespace Go.Proofs.Ytaddemalepndfae.G
open Go.RowKit Go.Proofs.Ytaddemalepndfae.X Go.Proofs.YtaddemalepndfaeW.PrintWords Go.Proofs.YtaddemalepndfaeW.PrintLast Go.Proofs.YtaddemalepndfaeW.PrintMore
attribute [local go_sem] max2_int min2_int max_two min_two max_three min_three max_four min_four   -- for this text's walks alone
set_option linter.unusedVariables false
set_option linter.unusedSimpArgs false

/-! ### spec_GoodTests: function 40 -/
mutual
def spec_GoodTests.l0 : Nat → List (S71) → Int → List (S71) → Int → Int → Option (Bool)
 | 0, _, _, _, _, _ => none
 | k + 1, x0, x1, x7, x8, x9 => if x9 < x8 then (if 0 ≤ x9 then (if x9 < (x7.length : Int) then (if ((rd_T71 x7 x9).f1) < 0 then (spec_GoodTests.j1 k x0 x1 x7 x8 x9 true ((rd_T71 x7 x9).f0) ((rd_T71 x7 x9).f1) ((rd_T71 x7 x9).f2)) else (if ((rd_T71 x7 x9).f1) ≥ x1 then (spec_GoodTests.j1 k x0 x1 x7 x8 x9 true ((rd_T71 x7 x9).f0) ((rd_T71 x7 x9).f1) ((rd_T71 x7 x9).f2)) else ((spec_l1In.f ((rd_T71 x7 x9).f0) 1 4).bind fun t114 => (spec_GoodTests.j1 k x0 x1 x7 x8 x9 (!t114) ((rd_T71 x7 x9).f0) ((rd_T71 x7 x9).f1) ((rd_T71 x7 x9).f2))))) else (none)) else (none)) else (some (decide ((x0.length : Int) ≤ 8)))
def spec_GoodTests.j1 : Nat → List (S71) → Int → List (S71) → Int → Int → Bool → Int → Int → Int → Option (Bool)
 | 0, _, _, _, _, _, _, _, _, _ => none
 | k + 1, x0, x1, x7, x8, x9, x27, x114000, x114001, x114002 => if x27 = true then (some false) else (if x114000 = 4 then (if x114002 < 0 then (some false) else (if x114002 ≥ x1 then (some false) else ((spec_l1In.f x114002 (-100000) 100000).bind fun t115 => (if t115 = true then (spec_GoodTests.l0 k x0 x1 x7 x8 (wrap64 (x9 + 1))) else (some false))))) else ((spec_l1In.f x114002 (-100000) 100000).bind fun t116 => (if t116 = true then (spec_GoodTests.l0 k x0 x1 x7 x8 (wrap64 (x9 + 1))) else (some false))))
end
def spec_GoodTests.f (k : Nat) (l0 : List (S71)) (a1 : Int) : Option (Bool) := spec_GoodTests.l0 k l0 a1 l0 (l0.length : Int) 0
theorem spec_GoodTests.mono_l : ∀ k, (∀ y0 y1 y2 y3 y4, LeO (spec_GoodTests.l0 k y0 y1 y2 y3 y4) (spec_GoodTests.l0 (k + 1) y0 y1 y2 y3 y4)) ∧ (∀ y0 y1 y2 y3 y4 y5 y6 y7 y8, LeO (spec_GoodTests.j1 k y0 y1 y2 y3 y4 y5 y6 y7 y8) (spec_GoodTests.j1 (k + 1) y0 y1 y2 y3 y4 y5 y6 y7 y8))
 | 0 => ⟨fun _ _ _ _ _ r h => by simp [spec_GoodTests.l0] at h, fun _ _ _ _ _ _ _ _ _ r h => by simp [spec_GoodTests.j1] at h⟩
 | k + 1 => by
  obtain ⟨ih0, ih1⟩ := spec_GoodTests.mono_l k
  refine ⟨?_, ?_⟩
  ·intro y0 y1 y2 y3 y4
   unfold spec_GoodTests.l0
   repeat' first
   | (with_reducible exact ih0 _ _ _ _ _)
   | (with_reducible exact ih1 _ _ _ _ _ _ _ _ _)
   | (with_reducible exact LeO.refl _)
   | (with_reducible exact LeO.none _)
   | (with_reducible refine LeO.ite ?_ ?_)
   | (with_reducible refine LeO.bind ?_ (fun _ => ?_))
   | exact ih0 _ _ _ _ _
   | exact ih1 _ _ _ _ _ _ _ _ _
   | exact LeO.none _
   | refine LeO.ite ?_ ?_
   | refine LeO.bind ?_ (fun _ => ?_)
  ·intro y0 y1 y2 y3 y4 y5 y6 y7 y8
   unfold spec_GoodTests.j1
   repeat' first
   | (with_reducible exact ih0 _ _ _ _ _)
   | (with_reducible exact ih1 _ _ _ _ _ _ _ _ _)
   | (with_reducible exact LeO.refl _)
   | (with_reducible exact LeO.none _)
   | (with_reducible refine LeO.ite ?_ ?_)
   | (with_reducible refine LeO.bind ?_ (fun _ => ?_))
   | exact ih0 _ _ _ _ _
   | exact ih1 _ _ _ _ _ _ _ _ _
   | exact LeO.none _
   | refine LeO.ite ?_ ?_
   | refine LeO.bind ?_ (fun _ => ?_)
theorem spec_GoodTests.mono : ∀ a0 a1 k, LeO (spec_GoodTests.f k a0 a1) (spec_GoodTests.f (k + 1) a0 a1) := by
 intro a0 a1 k
 obtain ⟨ih0, ih1⟩ := spec_GoodTests.mono_l k
 unfold spec_GoodTests.f
 repeat' first
   | (with_reducible exact ih0 _ _ _ _ _)
   | (with_reducible exact ih1 _ _ _ _ _ _ _ _ _)
   | (with_reducible exact LeO.refl _)
   | (with_reducible exact LeO.none _)
   | (with_reducible refine LeO.ite ?_ ?_)
   | (with_reducible refine LeO.bind ?_ (fun _ => ?_))
   | exact ih0 _ _ _ _ _
   | exact ih1 _ _ _ _ _ _ _ _ _
   | exact LeO.none _
   | refine LeO.ite ?_ ?_
   | refine LeO.bind ?_ (fun _ => ?_)
set_option maxHeartbeats 8000000 in
set_option maxRecDepth 100000 in
theorem spec_GoodTests.calls (k : Nat) (A0 : Option Addr) (c0 : Nat) (l0 : List (S71)) (a1 : Int) (r : Bool) (w : World) (hr0 : Kd.C k71 w A0 l0.length l0) (hc0 : l0.length ≤ c0) (h : spec_GoodTests.f k l0 a1 = some r) :
  Calls Try.prog 40 #[.slice A0 l0.length c0, .int .i64 a1] w fun e w' => e = .returned (.bool r) ∧ Below w.heap.size w w' := by
 have hu71 := Try.underlying71
 have HR0 := xm hr0
 have HC0 := xm hc0
 clear hr0 hc0
 have HB := xm (Below.refl w.heap.size w)
 have H : (spec_GoodTests.l0 k l0 a1 l0 (l0.length : Int) 0) = some r := h
 clear h
 have H' := xm H
 clear H
 go_enter Try.func40, Try.ntmps40
 go_wp2
 go_loopg [9] k (fun kq v9 w' => ∃ (x9_1 : Int), v9 = .int .i64 x9_1 ∧ Aside0 (spec_GoodTests.l0 kq l0 a1 l0 (l0.length : Int) x9_1 = some r) ∧ Aside0 (kq ≤ k) ∧ Aside0 (Below w.heap.size w w'))
 case atStart => exact ⟨(0), sB, H', ⟨Nat.le_refl _⟩, ⟨bG⟩⟩
 case round =>
  clear H'
  try clear p2
  obtain ⟨x9_1, rfl, HA, HK1, HB⟩ := hrel
  cases gk with
  | zero => exact absurd HA.out (by simp [spec_GoodTests.l0])
  | succ k1 =>
   have H := HA.out
   clear HA
   simp only [spec_GoodTests.l0] at H
   by_cases c3 : x9_1 < (l0.length : Int)
   ·rw [if_pos c3] at H
    have c3b0 : decide (x9_1 < (l0.length : Int)) = true := decide_eq_true c3
    clear c3
    by_cases c4 : 0 ≤ x9_1
    ·rw [if_pos c4] at H
     have c4b0 : decide (0 ≤ x9_1) = true := decide_eq_true c4
     clear c4
     by_cases c5 : x9_1 < (l0.length : Int)
     ·rw [if_pos c5] at H
      have c5b0 : decide (x9_1 < (l0.length : Int)) = true := decide_eq_true c5
      clear c5
      have HC6 := xm H
      clear H
      have p112 : 0 ≤ (x9_1 : Int) := of_decide_eq_true aB
      have q112 : x9_1 < (l0.length : Int) := of_decide_eq_true aB
      obtain ⟨ad112, e112, hx112_0, hx112_1, hx112_2⟩ := at_T71 HR0.out x9_1 p112 q112
      cases e112
      replace hx112_0 := hU hx112_0
      replace hx112_1 := hU hx112_1
      replace hx112_2 := hU hx112_2
      replace p112 := eq_true p112
      replace q112 := eq_true q112
      go_upto_region 4 with (first | ((with_reducible refine gate_dst (N := 6) rfl ?_); refine box_event ?hg (N := 6) ?hd (cs := #[.int .i64 0, .int .i64 0, .int .i64 0]) (t := 71) ?hr ?_; (case hd => rfl); (case hg => rfl); (case hr => exact zB); intro gb113 hg w7 hbox hb; have n0_ := xm (below_step bB hb); have n1_ := xm (hbox); have n2_ := xm ((by rw [hg]; exact (xz bB) : w.heap.size ≤ gb113)); have n3_ := xm ((by rw [hg]; exact (xz bB) : w.heap.size ≤ gb113)); revert n0_ n1_ n2_ n3_; clear HB; intro HB BK113 GW113 GE113; clear hb hbox hg; obtain ⟨hcz8_0, hcz8_1, hcz8_2, hfz8_0, hfz8_1, hfz8_2⟩ := cz3 BK113.out))
      (try simp only [Act.put, xi, xj, xk])
      go_cut [27] (fun v27 wc => ∃ (kq : Nat) (x27_5 : Bool), v27 = .bool x27_5 ∧ Aside0 (spec_GoodTests.j1 kq l0 a1 l0 (l0.length : Int) x9_1 x27_5 ((rd_T71 l0 x9_1).f0) ((rd_T71 l0 x9_1).f1) ((rd_T71 l0 x9_1).f2) = some r) ∧ Aside0 (kq ≤ k1) ∧ Aside0 (wc.heap[gb113]? = some (.cells #[.int .i64 ((rd_T71 l0 x9_1).f0), .int .i64 ((rd_T71 l0 x9_1).f1), .int .i64 ((rd_T71 l0 x9_1).f2)] 71 (0, 0))) ∧ Aside0 (Below w.heap.size w wc))
      case first =>
       have H := HC6.out
       clear HC6
       by_cases c9 : ((rd_T71 l0 x9_1).f1) < 0
       ·rw [if_pos c9] at H
        have c9b0 : decide (((rd_T71 l0 x9_1).f1) < 0) = true := decide_eq_true c9
        clear c9
        (first | rw [c9b0] | (simp only [i64_w, i32_w]; rw [c9b0]) | skip)
        have H' := xm H
        clear H
        obtain ⟨hcz10_0, hcz10_1, hcz10_2, hfz10_0, hfz10_1, hfz10_2⟩ := cz3 BK113.out
        go_wp2
        go_meet
        case rel => exact ⟨_, (true), sB, H', ⟨by have := HK1.out; first | omega | exact Nat.le_refl _⟩, ⟨by (with_reducible repeat (first | refine xq ?_ _ | refine xr ?_ | refine xo ?_ _)); refine blk_put (cs := #[.int .i64 ((rd_T71 l0 x9_1).f0), .int .i64 ((rd_T71 l0 x9_1).f1), .int .i64 0]) ?_ 2 _ rfl; (with_reducible repeat (first | refine xq ?_ _ | refine xr ?_ | refine xo ?_ _)); refine blk_put (cs := #[.int .i64 ((rd_T71 l0 x9_1).f0), .int .i64 0, .int .i64 0]) ?_ 1 _ rfl; (with_reducible repeat (first | refine xq ?_ _ | refine xr ?_ | refine xo ?_ _)); refine blk_put (cs := #[.int .i64 0, .int .i64 0, .int .i64 0]) ?_ 0 _ rfl; (with_reducible repeat (first | refine xq ?_ _ | refine xr ?_ | refine xo ?_ _)); exact BK113.out⟩, ⟨bG⟩⟩
       ·rw [if_neg c9] at H
        have c9b0 : decide (((rd_T71 l0 x9_1).f1) < 0) = false := decide_eq_false c9
        clear c9
        (first | rw [c9b0] | (simp only [i64_w, i32_w]; rw [c9b0]) | skip)
        by_cases c11 : ((rd_T71 l0 x9_1).f1) ≥ a1
        ·rw [if_pos c11] at H
         have c11b0 : decide (a1 ≤ ((rd_T71 l0 x9_1).f1)) = true := decide_eq_true c11
         clear c11
         have H' := xm H
         clear H
         obtain ⟨hcz12_0, hcz12_1, hcz12_2, hfz12_0, hfz12_1, hfz12_2⟩ := cz3 BK113.out
         go_wp2
         go_meet
         case rel => exact ⟨_, (true), sB, H', ⟨by have := HK1.out; first | omega | exact Nat.le_refl _⟩, ⟨by (with_reducible repeat (first | refine xq ?_ _ | refine xr ?_ | refine xo ?_ _)); refine blk_put (cs := #[.int .i64 ((rd_T71 l0 x9_1).f0), .int .i64 ((rd_T71 l0 x9_1).f1), .int .i64 0]) ?_ 2 _ rfl; (with_reducible repeat (first | refine xq ?_ _ | refine xr ?_ | refine xo ?_ _)); refine blk_put (cs := #[.int .i64 ((rd_T71 l0 x9_1).f0), .int .i64 0, .int .i64 0]) ?_ 1 _ rfl; (with_reducible repeat (first | refine xq ?_ _ | refine xr ?_ | refine xo ?_ _)); refine blk_put (cs := #[.int .i64 0, .int .i64 0, .int .i64 0]) ?_ 0 _ rfl; (with_reducible repeat (first | refine xq ?_ _ | refine xr ?_ | refine xo ?_ _)); exact BK113.out⟩, ⟨bG⟩⟩
        ·rw [if_neg c11] at H
         have c11b0 : decide (a1 ≤ ((rd_T71 l0 x9_1).f1)) = false := decide_eq_false c11
         clear c11
         replace H := Option.bind_eq_some_iff.mp H
         obtain ⟨t114, A130, H⟩ := H
         replace H : (spec_GoodTests.j1 k1 l0 a1 l0 (l0.length : Int) x9_1 (!t114) ((rd_T71 l0 x9_1).f0) ((rd_T71 l0 x9_1).f1) ((rd_T71 l0 x9_1).f2)) = some r := H
         have A13 := xm A130
         clear A130
         have H' := xm H
         clear H
         obtain ⟨hcz14_0, hcz14_1, hcz14_2, hfz14_0, hfz14_1, hfz14_2⟩ := cz3 BK113.out
         go_wp2_with (first | (go_at_call 26; (with_reducible refine (spec_l1In.calls ((rd_T71 l0 x9_1).f0) 1 4 t114 _ A13.out).mono ?_); rintro e w' ⟨rfl, ⟨nd, rfl⟩⟩))
         go_meet
         case rel => exact ⟨_, (!t114), sB, H', ⟨by have := HK1.out; first | omega | exact Nat.le_refl _⟩, ⟨by (with_reducible repeat (first | refine xq ?_ _ | refine xr ?_ | refine xo ?_ _)); refine blk_put (cs := #[.int .i64 ((rd_T71 l0 x9_1).f0), .int .i64 ((rd_T71 l0 x9_1).f1), .int .i64 0]) ?_ 2 _ rfl; (with_reducible repeat (first | refine xq ?_ _ | refine xr ?_ | refine xo ?_ _)); refine blk_put (cs := #[.int .i64 ((rd_T71 l0 x9_1).f0), .int .i64 0, .int .i64 0]) ?_ 1 _ rfl; (with_reducible repeat (first | refine xq ?_ _ | refine xr ?_ | refine xo ?_ _)); refine blk_put (cs := #[.int .i64 0, .int .i64 0, .int .i64 0]) ?_ 0 _ rfl; (with_reducible repeat (first | refine xq ?_ _ | refine xr ?_ | refine xo ?_ _)); exact BK113.out⟩, ⟨bG⟩⟩
      case rest =>
       clear HC6
       try clear c1
       try clear p1
       try clear q1
       try clear hx1
       try clear p2
       try clear c3
       try clear c3b0
       try clear c4
       try clear c4b0
       try clear c5
       try clear c5b0
       try clear c9
       try clear c9b0
       try clear c11
       try clear c11b0
       try clear p11
       try clear q11
       try clear hx11
       try clear hcz10_0 hcz10_1 hcz10_2
       try clear hcz12_0 hcz12_1 hcz12_2
       try clear hcz14_0 hcz14_1 hcz14_2
       try clear hcz8_0 hcz8_1 hcz8_2
       try clear hfz10_0 hfz10_1 hfz10_2
       try clear hfz12_0 hfz12_1 hfz12_2
       try clear hfz14_0 hfz14_1 hfz14_2
       try clear hfz8_0 hfz8_1 hfz8_2
       try clear hx112_0
       try clear hx112_1
       try clear hx112_2
       try clear p112
       try clear p2
       try clear q112
       obtain ⟨kq, x27_5, rfl, HA, HJ5, BK113, HB⟩ := hcut
       cases kq with
       | zero => exact absurd HA.out (by simp [spec_GoodTests.j1])
       | succ kj5 =>
        have H := HA.out
        clear HA
        simp only [spec_GoodTests.j1] at H
        by_cases c15 : x27_5 = true
        ·subst c15
         have H1 : (some false) = some r := by first | (with_reducible rfl) | (rw [if_pos rfl] at H; exact H)
         clear H
         have H := H1
         clear H1
         obtain rfl := Option.some.inj H
         go_wp2
         go_ret
         exact ⟨eB, bG⟩
        ·replace c15 := Bool.eq_false_iff.mpr c15
         subst c15
         have H1 : (if ((rd_T71 l0 x9_1).f0) = 4 then (if ((rd_T71 l0 x9_1).f2) < 0 then (some false) else (if ((rd_T71 l0 x9_1).f2) ≥ a1 then (some false) else ((spec_l1In.f ((rd_T71 l0 x9_1).f2) (-100000) 100000).bind fun t115 => (if t115 = true then (spec_GoodTests.l0 kj5 l0 a1 l0 (l0.length : Int) (wrap64 (x9_1 + 1))) else (some false))))) else ((spec_l1In.f ((rd_T71 l0 x9_1).f2) (-100000) 100000).bind fun t116 => (if t116 = true then (spec_GoodTests.l0 kj5 l0 a1 l0 (l0.length : Int) (wrap64 (x9_1 + 1))) else (some false)))) = some r := by first | (with_reducible rfl) | (rw [if_neg (show ¬ (false = true) by decide)] at H; exact H)
         clear H
         have H := H1
         clear H1
         by_cases c16 : ((rd_T71 l0 x9_1).f0) = 4
         ·rw [if_pos c16] at H
          have c16b0 : (((rd_T71 l0 x9_1).f0) == 4) = true := beq_iff_eq.mpr c16
          have c16b1 : (((rd_T71 l0 x9_1).f0) != 4) = false := bne_eq_false_iff_eq.mpr c16
          clear c16
          by_cases c17 : ((rd_T71 l0 x9_1).f2) < 0
          ·rw [if_pos c17] at H
           have c17b0 : decide (((rd_T71 l0 x9_1).f2) < 0) = true := decide_eq_true c17
           clear c17
           obtain rfl := Option.some.inj H
           obtain ⟨hcz18_0, hcz18_1, hcz18_2, hfz18_0, hfz18_1, hfz18_2⟩ := cz3 BK113.out
           go_wp2
           go_ret
           exact ⟨eB, bG⟩
          ·rw [if_neg c17] at H
           have c17b0 : decide (((rd_T71 l0 x9_1).f2) < 0) = false := decide_eq_false c17
           clear c17
           by_cases c19 : ((rd_T71 l0 x9_1).f2) ≥ a1
           ·rw [if_pos c19] at H
            have c19b0 : decide (a1 ≤ ((rd_T71 l0 x9_1).f2)) = true := decide_eq_true c19
            clear c19
            obtain rfl := Option.some.inj H
            obtain ⟨hcz20_0, hcz20_1, hcz20_2, hfz20_0, hfz20_1, hfz20_2⟩ := cz3 BK113.out
            go_wp2
            go_ret
            exact ⟨eB, bG⟩
           ·rw [if_neg c19] at H
            have c19b0 : decide (a1 ≤ ((rd_T71 l0 x9_1).f2)) = false := decide_eq_false c19
            clear c19
            replace H := Option.bind_eq_some_iff.mp H
            obtain ⟨t115, A210, H⟩ := H
            replace H : (if t115 = true then (spec_GoodTests.l0 kj5 l0 a1 l0 (l0.length : Int) (wrap64 (x9_1 + 1))) else (some false)) = some r := H
            have A21 := xm A210
            clear A210
            by_cases c22 : t115 = true
            ·subst c22
             have H1 : (spec_GoodTests.l0 kj5 l0 a1 l0 (l0.length : Int) (wrap64 (x9_1 + 1))) = some r := by first | (with_reducible rfl) | (rw [if_pos rfl] at H; exact H)
             clear H
             have H := H1
             clear H1
             have H' := xm H
             clear H
             obtain ⟨hcz23_0, hcz23_1, hcz23_2, hfz23_0, hfz23_1, hfz23_2⟩ := cz3 BK113.out
             go_wp2_with (first | (go_at_call 26; (with_reducible refine (spec_l1In.calls ((rd_T71 l0 x9_1).f2) (-100000) 100000 true _ A21.out).mono ?_); rintro e w' ⟨rfl, ⟨nd, rfl⟩⟩))
             go_roundg kj5
             case measure => have := HK1.out; have := HJ5.out; omega
             case rel => exact ⟨(wrap64 (x9_1 + 1)), sB, H', ⟨by have := HK1.out; have := HJ5.out; omega⟩, ⟨bG⟩⟩
            ·replace c22 := Bool.eq_false_iff.mpr c22
             subst c22
             have H1 : (some false) = some r := by first | (with_reducible rfl) | (rw [if_neg (show ¬ (false = true) by decide)] at H; exact H)
             clear H
             have H := H1
             clear H1
             obtain rfl := Option.some.inj H
             obtain ⟨hcz24_0, hcz24_1, hcz24_2, hfz24_0, hfz24_1, hfz24_2⟩ := cz3 BK113.out
             go_wp2_with (first | (go_at_call 26; (with_reducible refine (spec_l1In.calls ((rd_T71 l0 x9_1).f2) (-100000) 100000 false _ A21.out).mono ?_); rintro e w' ⟨rfl, ⟨nd, rfl⟩⟩))
             go_ret
             exact ⟨eB, bG⟩
         ·rw [if_neg c16] at H
          have c16b0 : (((rd_T71 l0 x9_1).f0) == 4) = false := beq_eq_false_iff_ne.mpr c16
          have c16b1 : (((rd_T71 l0 x9_1).f0) != 4) = true := bne_iff_ne.mpr c16
          replace H := Option.bind_eq_some_iff.mp H
          obtain ⟨t116, A250, H⟩ := H
          replace H : (if t116 = true then (spec_GoodTests.l0 kj5 l0 a1 l0 (l0.length : Int) (wrap64 (x9_1 + 1))) else (some false)) = some r := H
          have A25 := xm A250
          clear A250
          by_cases c26 : t116 = true
          ·subst c26
           have H1 : (spec_GoodTests.l0 kj5 l0 a1 l0 (l0.length : Int) (wrap64 (x9_1 + 1))) = some r := by first | (with_reducible rfl) | (rw [if_pos rfl] at H; exact H)
           clear H
           have H := H1
           clear H1
           have H' := xm H
           clear H
           obtain ⟨hcz27_0, hcz27_1, hcz27_2, hfz27_0, hfz27_1, hfz27_2⟩ := cz3 BK113.out
           go_wp2_with (first | (go_at_call 26; (with_reducible refine (spec_l1In.calls ((rd_T71 l0 x9_1).f2) (-100000) 100000 true _ A25.out).mono ?_); rintro e w' ⟨rfl, ⟨nd, rfl⟩⟩))
           go_roundg kj5
           case measure => have := HK1.out; have := HJ5.out; omega
           case rel => exact ⟨(wrap64 (x9_1 + 1)), sB, H', ⟨by have := HK1.out; have := HJ5.out; omega⟩, ⟨bG⟩⟩
          ·replace c26 := Bool.eq_false_iff.mpr c26
           subst c26
           have H1 : (some false) = some r := by first | (with_reducible rfl) | (rw [if_neg (show ¬ (false = true) by decide)] at H; exact H)
           clear H
           have H := H1
           clear H1
           obtain rfl := Option.some.inj H
           obtain ⟨hcz28_0, hcz28_1, hcz28_2, hfz28_0, hfz28_1, hfz28_2⟩ := cz3 BK113.out
           go_wp2_with (first | (go_at_call 26; (with_reducible refine (spec_l1In.calls ((rd_T71 l0 x9_1).f2) (-100000) 100000 false _ A25.out).mono ?_); rintro e w' ⟨rfl, ⟨nd, rfl⟩⟩))
           go_ret
           exact ⟨eB, bG⟩
     ·rw [if_neg c5] at H
      exact absurd H (by simp)
    ·rw [if_neg c4] at H
     exact absurd H (by simp)
   ·rw [if_neg c3] at H
    have c3b0 : decide (x9_1 < (l0.length : Int)) = false := decide_eq_false c3
    clear c3
    obtain rfl := Option.some.inj H
    go_wp2
    go_ret
    exact ⟨eB, bG⟩

/-! ### spec_l1Columns: function 41 -/
def spec_l1Columns.l0 : Nat → List Int → Int → List Int → Int → Int → Option (Bool)
 | 0, _, _, _, _, _ => none
 | k + 1, x0, x1, x7, x8, x9 => if x9 < x8 then (if 0 ≤ x9 then (if x9 < (x7.length : Int) then (if (rd x7 x9) < 0 then (some false) else (if (rd x7 x9) ≥ x1 then (some false) else (spec_l1Columns.l0 k x0 x1 x7 x8 (wrap64 (x9 + 1))))) else (none)) else (none)) else (some (decide ((x0.length : Int) ≤ 6)))
def spec_l1Columns.f (k : Nat) (l0 : List Int) (a1 : Int) : Option (Bool) := spec_l1Columns.l0 k l0 a1 l0 (l0.length : Int) 0
theorem spec_l1Columns.mono_l : ∀ k, (∀ y0 y1 y2 y3 y4, LeO (spec_l1Columns.l0 k y0 y1 y2 y3 y4) (spec_l1Columns.l0 (k + 1) y0 y1 y2 y3 y4))
 | 0 => fun _ _ _ _ _ r h => by simp [spec_l1Columns.l0] at h
 | k + 1 => by
  have ih0 := spec_l1Columns.mono_l k
  ·intro y0 y1 y2 y3 y4
   unfold spec_l1Columns.l0
   repeat' first
   | (with_reducible exact ih0 _ _ _ _ _)
   | (with_reducible exact LeO.refl _)
   | (with_reducible exact LeO.none _)
   | (with_reducible refine LeO.ite ?_ ?_)
   | (with_reducible refine LeO.bind ?_ (fun _ => ?_))
   | exact ih0 _ _ _ _ _
   | exact LeO.none _
   | refine LeO.ite ?_ ?_
   | refine LeO.bind ?_ (fun _ => ?_)
theorem spec_l1Columns.mono : ∀ a0 a1 k, LeO (spec_l1Columns.f k a0 a1) (spec_l1Columns.f (k + 1) a0 a1) := by
 intro a0 a1 k
 have ih0 := spec_l1Columns.mono_l k
 unfold spec_l1Columns.f
 repeat' first
   | (with_reducible exact ih0 _ _ _ _ _)
   | (with_reducible exact LeO.refl _)
   | (with_reducible exact LeO.none _)
   | (with_reducible refine LeO.ite ?_ ?_)
   | (with_reducible refine LeO.bind ?_ (fun _ => ?_))
   | exact ih0 _ _ _ _ _
   | exact LeO.none _
   | refine LeO.ite ?_ ?_
   | refine LeO.bind ?_ (fun _ => ?_)
set_option maxHeartbeats 8000000 in
set_option maxRecDepth 100000 in
theorem spec_l1Columns.calls (k : Nat) (A0 : Option Addr) (c0 : Nat) (l0 : List Int) (a1 : Int) (r : Bool) (w : World) (hr0 : Kd.C (Kd.int .i64) w A0 l0.length l0) (hc0 : l0.length ≤ c0) (h : spec_l1Columns.f k l0 a1 = some r) :
  Calls Try.prog 41 #[.slice A0 l0.length c0, .int .i64 a1] w fun e w' => e = .returned (.bool r) ∧ Drawn0 w w' := by
 have HR0 := xm hr0
 have HC0 := xm hc0
 clear hr0 hc0
 have H : (spec_l1Columns.l0 k l0 a1 l0 (l0.length : Int) 0) = some r := h
 clear h
 have H' := xm H
 clear H
 go_enter Try.func41, Try.ntmps41
 go_wp2
 go_loopg [9] k (fun kq v9 w' => ∃ (x9_1 : Int), v9 = .int .i64 x9_1 ∧ Aside0 (spec_l1Columns.l0 kq l0 a1 l0 (l0.length : Int) x9_1 = some r) ∧ Aside0 (kq ≤ k) ∧ Drawn0 w w')
 case atStart => exact ⟨(0), sB, H', ⟨Nat.le_refl _⟩, by repeat (first | exact Drawn0.refl _ | apply Drawn0.step)⟩
 case round =>
  clear H'
  try clear p2
  obtain ⟨x9_1, rfl, HA, HK1, ⟨m1, rfl⟩⟩ := hrel
  cases gk with
  | zero => exact absurd HA.out (by simp [spec_l1Columns.l0])
  | succ k1 =>
   have H := HA.out
   clear HA
   simp only [spec_l1Columns.l0] at H
   by_cases c3 : x9_1 < (l0.length : Int)
   ·rw [if_pos c3] at H
    have c3b0 : decide (x9_1 < (l0.length : Int)) = true := decide_eq_true c3
    clear c3
    by_cases c4 : 0 ≤ x9_1
    ·rw [if_pos c4] at H
     have c4b0 : decide (0 ≤ x9_1) = true := decide_eq_true c4
     clear c4
     by_cases c5 : x9_1 < (l0.length : Int)
     ·rw [if_pos c5] at H
      have c5b0 : decide (x9_1 < (l0.length : Int)) = true := decide_eq_true c5
      clear c5
      by_cases c6 : (rd l0 x9_1) < 0
      ·rw [if_pos c6] at H
       have c6b0 : decide ((rd l0 x9_1) < 0) = true := decide_eq_true c6
       clear c6
       obtain rfl := Option.some.inj H
       have p117 : 0 ≤ (x9_1 : Int) := of_decide_eq_true aB
       have q117 : x9_1 < (l0.length : Int) := of_decide_eq_true aB
       obtain ⟨ad117, e117, hx117_0⟩ := Kd.at_int HR0.out x9_1 p117 q117
       cases e117
       replace p117 := eq_true p117
       replace q117 := eq_true q117
       go_wp2
       go_ret
       exact ⟨sB, dB⟩
      ·rw [if_neg c6] at H
       have c6b0 : decide ((rd l0 x9_1) < 0) = false := decide_eq_false c6
       clear c6
       by_cases c7 : (rd l0 x9_1) ≥ a1
       ·rw [if_pos c7] at H
        have c7b0 : decide (a1 ≤ (rd l0 x9_1)) = true := decide_eq_true c7
        clear c7
        obtain rfl := Option.some.inj H
        have p117 : 0 ≤ (x9_1 : Int) := of_decide_eq_true aB
        have q117 : x9_1 < (l0.length : Int) := of_decide_eq_true aB
        obtain ⟨ad117, e117, hx117_0⟩ := Kd.at_int HR0.out x9_1 p117 q117
        cases e117
        replace p117 := eq_true p117
        replace q117 := eq_true q117
        go_wp2
        go_ret
        exact ⟨sB, dB⟩
       ·rw [if_neg c7] at H
        have c7b0 : decide (a1 ≤ (rd l0 x9_1)) = false := decide_eq_false c7
        clear c7
        have H' := xm H
        clear H
        have p117 : 0 ≤ (x9_1 : Int) := of_decide_eq_true aB
        have q117 : x9_1 < (l0.length : Int) := of_decide_eq_true aB
        obtain ⟨ad117, e117, hx117_0⟩ := Kd.at_int HR0.out x9_1 p117 q117
        cases e117
        replace p117 := eq_true p117
        replace q117 := eq_true q117
        go_wp2
        go_roundg k1
        case measure => have := HK1.out; omega
        case rel => exact ⟨(wrap64 (x9_1 + 1)), sB, H', ⟨by have := HK1.out; omega⟩, by repeat (first | exact Drawn0.refl _ | apply Drawn0.step)⟩
     ·rw [if_neg c5] at H
      exact absurd H (by simp)
    ·rw [if_neg c4] at H
     exact absurd H (by simp)
   ·rw [if_neg c3] at H
    have c3b0 : decide (x9_1 < (l0.length : Int)) = false := decide_eq_false c3
    clear c3
    obtain rfl := Option.some.inj H
    go_wp2
    go_ret
    exact ⟨sB, dB⟩

end Go.Proofs.Ytaddemalepndfae.G
