/- Written by a program of this claim's own, out of the translation: functions of the program as plain functions, and that the calls answer as these. No conditions. -/
import Derived.Test.YtcbikaoackbbjaaG0
import Derived.Test.YtcbikaoackbbjaaG4
import Derived.Test.YtcbikaoackbbjaaG5
namespace Go.Proofs.Ytcbikaoackbbjaa.G
open Go.RowKit Go.Proofs.Ytcbikaoackbbjaa.X Go.Proofs.YtcbikaoackbbjaaW.PrintWords Go.Proofs.YtcbikaoackbbjaaW.PrintLast Go.Proofs.YtcbikaoackbbjaaW.PrintMore
attribute [local go_sem] max2_int min2_int max_two min_two max_three min_three max_four min_four   -- for this text's walks alone
set_option linter.unusedVariables false
set_option linter.unusedSimpArgs false

/-! ### slices_Concat_Lint_int: function 135 -/
mutual
def slices_Concat_Lint_int.l0 : Nat → List (List Int) → Int → List (List Int) → Int → Int → Option (List Int)
 | 0, _, _, _, _, _ => none
 | k + 1, x0, x3, x9, x10, x11 => if x11 < x10 then (if 0 ≤ x11 then (if x11 < (x9.length : Int) then (if (wrap64 (x3 + ((rd_L1 x9 x11).length : Int))) < 0 then (none) else (slices_Concat_Lint_int.l0 k x0 (wrap64 (x3 + ((rd_L1 x9 x11).length : Int))) x9 x10 (wrap64 (x11 + 1)))) else (none)) else (none)) else ((slices_Grow_Lint_int.f ([] : List Int) x3).bind fun t197 => (slices_Concat_Lint_int.l1 k t197 x0 (x0.length : Int) 0))
def slices_Concat_Lint_int.l1 : Nat → List Int → List (List Int) → Int → Int → Option (List Int)
 | 0, _, _, _, _ => none
 | k + 1, x6, x25, x26, x27 => if x27 < x26 then (if 0 ≤ x27 then (if x27 < (x25.length : Int) then (if x6.length + (rd_L1 x25 x27).length < 17592186044416 then (slices_Concat_Lint_int.l1 k (x6 ++ (rd_L1 x25 x27)) x25 x26 (wrap64 (x27 + 1))) else (none)) else (none)) else (none)) else (some x6)
end
def slices_Concat_Lint_int.f (k : Nat) (l0 : List (List Int)) : Option (List Int) := slices_Concat_Lint_int.l0 k l0 0 l0 (l0.length : Int) 0
theorem slices_Concat_Lint_int.mono_l : ∀ k, (∀ y0 y1 y2 y3 y4, LeO (slices_Concat_Lint_int.l0 k y0 y1 y2 y3 y4) (slices_Concat_Lint_int.l0 (k + 1) y0 y1 y2 y3 y4)) ∧ (∀ y0 y1 y2 y3, LeO (slices_Concat_Lint_int.l1 k y0 y1 y2 y3) (slices_Concat_Lint_int.l1 (k + 1) y0 y1 y2 y3))
 | 0 => ⟨fun _ _ _ _ _ r h => by simp [slices_Concat_Lint_int.l0] at h, fun _ _ _ _ r h => by simp [slices_Concat_Lint_int.l1] at h⟩
 | k + 1 => by
  obtain ⟨ih0, ih1⟩ := slices_Concat_Lint_int.mono_l k
  refine ⟨?_, ?_⟩
  ·intro y0 y1 y2 y3 y4
   unfold slices_Concat_Lint_int.l0
   repeat' first
   | (with_reducible exact ih0 _ _ _ _ _)
   | (with_reducible exact ih1 _ _ _ _)
   | (with_reducible exact LeO.refl _)
   | (with_reducible exact LeO.none _)
   | (with_reducible refine LeO.ite ?_ ?_)
   | (with_reducible refine LeO.bind ?_ (fun _ => ?_))
   | exact ih0 _ _ _ _ _
   | exact ih1 _ _ _ _
   | exact LeO.none _
   | refine LeO.ite ?_ ?_
   | refine LeO.bind ?_ (fun _ => ?_)
  ·intro y0 y1 y2 y3
   unfold slices_Concat_Lint_int.l1
   repeat' first
   | (with_reducible exact ih0 _ _ _ _ _)
   | (with_reducible exact ih1 _ _ _ _)
   | (with_reducible exact LeO.refl _)
   | (with_reducible exact LeO.none _)
   | (with_reducible refine LeO.ite ?_ ?_)
   | (with_reducible refine LeO.bind ?_ (fun _ => ?_))
   | exact ih0 _ _ _ _ _
   | exact ih1 _ _ _ _
   | exact LeO.none _
   | refine LeO.ite ?_ ?_
   | refine LeO.bind ?_ (fun _ => ?_)
theorem slices_Concat_Lint_int.mono : ∀ a0 k, LeO (slices_Concat_Lint_int.f k a0) (slices_Concat_Lint_int.f (k + 1) a0) := by
 intro a0 k
 obtain ⟨ih0, ih1⟩ := slices_Concat_Lint_int.mono_l k
 unfold slices_Concat_Lint_int.f
 repeat' first
   | (with_reducible exact ih0 _ _ _ _ _)
   | (with_reducible exact ih1 _ _ _ _)
   | (with_reducible exact LeO.refl _)
   | (with_reducible exact LeO.none _)
   | (with_reducible refine LeO.ite ?_ ?_)
   | (with_reducible refine LeO.bind ?_ (fun _ => ?_))
   | exact ih0 _ _ _ _ _
   | exact ih1 _ _ _ _
   | exact LeO.none _
   | refine LeO.ite ?_ ?_
   | refine LeO.bind ?_ (fun _ => ?_)
set_option maxHeartbeats 8000000 in
set_option maxRecDepth 100000 in
theorem slices_Concat_Lint_int.calls (k : Nat) (A0 : Option Addr) (c0 : Nat) (l0 : List (List Int)) (r : List Int) (w : World) (hr0 : Kd.C (Kd.slice 3 (Kd.int .i64)) w A0 l0.length l0) (hc0 : l0.length ≤ c0) (h : slices_Concat_Lint_int.f k l0 = some r) :
  Calls Try.prog 135 #[.slice A0 l0.length c0] w fun e w' => ∃ v0_ : Value, e = .returned (v0_) ∧ Kd.R (Kd.int .i64) 3 w' w.heap.size (fun _ => True) v0_ r ∧ Below w.heap.size w w' := by
 have HR0 := xm hr0
 have HC0 := xm hc0
 clear hr0 hc0
 have HB := xm (Below.refl w.heap.size w)
 have H : (slices_Concat_Lint_int.l0 k l0 0 l0 (l0.length : Int) 0) = some r := h
 clear h
 have H' := xm H
 clear H
 go_enter Try.func135, Try.ntmps135
 go_wp2
 go_loopg [3, 11] k (fun kq v3 v11 w' => ∃ (x3_1 : Int) (x11_1 : Int), v3 = .int .i64 x3_1 ∧ v11 = .int .i64 x11_1 ∧ Aside0 (slices_Concat_Lint_int.l0 kq l0 x3_1 l0 (l0.length : Int) x11_1 = some r) ∧ Aside0 (kq ≤ k) ∧ Aside0 (Below w.heap.size w w'))
 case atStart => exact ⟨(0), (0), (by first | rfl | (simp; done) | (simp [*]; done)), (by first | rfl | (simp; done) | (simp [*]; done)), H', ⟨Nat.le_refl _⟩, ⟨by repeat (first | (with_reducible first | exact HB.out | apply xa | apply xn | apply xd) | exact HB.out)⟩⟩
 case round =>
  clear H'
  try clear c1
  obtain ⟨x3_1, x11_1, rfl, rfl, HA, HK1, HB⟩ := hrel
  cases gk with
  | zero => exact absurd HA.out (by simp [slices_Concat_Lint_int.l0])
  | succ k1 =>
   have H := HA.out
   clear HA
   simp only [slices_Concat_Lint_int.l0] at H
   by_cases c2 : x11_1 < (l0.length : Int)
   ·rw [if_pos c2] at H
    have c2b0 : decide (x11_1 < (l0.length : Int)) = true := decide_eq_true c2
    clear c2
    by_cases c3 : 0 ≤ x11_1
    ·rw [if_pos c3] at H
     have c3b0 : decide (0 ≤ x11_1) = true := decide_eq_true c3
     clear c3
     by_cases c4 : x11_1 < (l0.length : Int)
     ·rw [if_pos c4] at H
      have c4b0 : decide (x11_1 < (l0.length : Int)) = true := decide_eq_true c4
      clear c4
      by_cases c5 : (wrap64 (x3_1 + ((rd_L1 l0 x11_1).length : Int))) < 0
      ·rw [if_pos c5] at H
       exact absurd H (by simp)
      ·rw [if_neg c5] at H
       have c5b0 : decide ((wrap64 (x3_1 + ((rd_L1 l0 x11_1).length : Int))) < 0) = false := decide_eq_false c5
       clear c5
       have H' := xm H
       clear H
       have p196 : 0 ≤ (x11_1 : Int) := of_decide_eq_true aB
       have q196 : x11_1 < (l0.length : Int) := of_decide_eq_true aB
       obtain ⟨ad196, A196_0, c196_0, e196, hx196_0, hl196_0, hi196_0⟩ := at_L1 HR0.out x11_1 p196 q196
       cases e196
       replace hx196_0 := (HB.out.cell (World.block_lt_of_cell? w _ hx196_0)).trans hx196_0
       have HR196_0 := xm hi196_0
       have HC196_0 := xm hl196_0
       clear hi196_0 hl196_0
       replace p196 := eq_true p196
       replace q196 := eq_true q196
       go_wp2
       go_roundg k1
       case measure => have := HK1.out; omega
       case rel => exact ⟨(wrap64 (x3_1 + ((rd_L1 l0 x11_1).length : Int))), (wrap64 (x11_1 + 1)), (by first | rfl | (simp; done) | (simp [*]; done)), (by first | rfl | (simp; done) | (simp [*]; done)), H', ⟨by have := HK1.out; omega⟩, ⟨by repeat (first | (with_reducible first | exact HB.out | apply xa | apply xn | apply xd) | exact HB.out)⟩⟩
     ·rw [if_neg c4] at H
      exact absurd H (by simp)
    ·rw [if_neg c3] at H
     exact absurd H (by simp)
   ·rw [if_neg c2] at H
    have c2b0 : decide (x11_1 < (l0.length : Int)) = false := decide_eq_false c2
    clear c2
    replace H := Option.bind_eq_some_iff.mp H
    obtain ⟨t197, A60, H⟩ := H
    replace H : (slices_Concat_Lint_int.l1 k1 t197 l0 (l0.length : Int) 0) = some r := H
    have A6 := xm A60
    clear A60
    have H' := xm H
    clear H
    go_wp2_with (first | ((with_reducible refine gate_callee (f := 160) rfl ?_); refine goesL_ (some 24) rfl rfl Try.func160 (by kernel_rfl) rfl #[.slice none 0 0, .int .i64 x3_1] rfl mB ?_; (refine (slices_Grow_Lint_int.calls none 0 ([] : List Int) x3_1 t197 _ ?side1 ?side2 A6.out).mono ?_); (case side1 => exact Kd.C_nil _ _); (case side2 => exact Nat.le_refl _); rintro e w7 ⟨v198, rfl, ho0, hb⟩; refine ⟨_, rfl, ?_⟩; have n0_ := xm (Kd.R_lower ho0 (xz bB)); have n1_ := xm (below_step bB hb); clear HB; have HO199 := n0_; have HB := n1_; clear n0_ n1_; (try clear hb); (try clear hb2); (try clear hk); (try clear hi); (try clear ho0)))
    go_loopg [6, 27] k1 (fun kq v6 v27 w' => ∃ (x6_2 : List Int) (x27_2 : Int), v27 = .int .i64 x27_2 ∧ Aside0 (slices_Concat_Lint_int.l1 kq x6_2 l0 (l0.length : Int) x27_2 = some r) ∧ Aside0 (kq ≤ k1) ∧ Aside0 (Kd.R (Kd.int .i64) 3 w' w.heap.size (fun _ => True) v6 x6_2) ∧ Aside0 (Below w.heap.size w w'))
    case atStart => exact ⟨(t197), (0), (by first | rfl | (simp; done) | (simp [*]; done)), H', ⟨Nat.le_refl _⟩, ⟨by (with_reducible repeat (first | apply Kd.R_alloc | apply Kd.R_drewN | apply Kd.R_drew)); exact HO199.out⟩, ⟨by repeat (first | (with_reducible first | exact HB.out | apply xa | apply xn | apply xd) | exact HB.out)⟩⟩
    case round =>
     clear H'
     try clear c1
     try clear p1
     try clear q1
     try clear hx1
     try clear c2
     try clear c2b0
     try clear p2
     try clear c3
     try clear c3b0
     try clear c4
     try clear c4b0
     try clear c5
     try clear c5b0
     try clear p6
     try clear hx196_0
     try clear p196
     try clear q196
     obtain ⟨x6_2, x27_2, rfl, HA, HK2, HO_6, HB⟩ := hrel
     cases gk with
     | zero => exact absurd HA.out (by simp [slices_Concat_Lint_int.l1])
     | succ k2 =>
      have H := HA.out
      clear HA
      simp only [slices_Concat_Lint_int.l1] at H
      by_cases c8 : x27_2 < (l0.length : Int)
      ·rw [if_pos c8] at H
       have c8b0 : decide (x27_2 < (l0.length : Int)) = true := decide_eq_true c8
       clear c8
       by_cases c9 : 0 ≤ x27_2
       ·rw [if_pos c9] at H
        have c9b0 : decide (0 ≤ x27_2) = true := decide_eq_true c9
        clear c9
        by_cases c10 : x27_2 < (l0.length : Int)
        ·rw [if_pos c10] at H
         have c10b0 : decide (x27_2 < (l0.length : Int)) = true := decide_eq_true c10
         clear c10
         by_cases c11 : x6_2.length + (rd_L1 l0 x27_2).length < 17592186044416
         ·rw [if_pos c11] at H
          have LMc11 := xm c11
          clear c11
          obtain ⟨y201, hy201⟩ : ∃ y_ : List Int, y_ = (x6_2 ++ (rd_L1 l0 x27_2)) := ⟨_, rfl⟩
          replace H : (slices_Concat_Lint_int.l1 k2 y201 l0 (l0.length : Int) (wrap64 (x27_2 + 1))) = some r := by first | (rw [hy201]; with_reducible exact H) | (have H2_ := (Option.bind_some _ _).symm.trans H; rw [hy201]; with_reducible exact H2_) | (have H2_ := (Option.bind_some _ _).symm.trans H; with_reducible exact H2_) | with_reducible exact H | (rw [hy201]; exact H) | exact H
          have Ny201 := xm hy201
          clear hy201
          have H' := xm H
          clear H
          have p200 : 0 ≤ (x27_2 : Int) := of_decide_eq_true aB
          have q200 : x27_2 < (l0.length : Int) := of_decide_eq_true aB
          obtain ⟨ad200, A200_0, c200_0, e200, hx200_0, hl200_0, hi200_0⟩ := at_L1 HR0.out x27_2 p200 q200
          cases e200
          replace hx200_0 := (HB.out.cell (World.block_lt_of_cell? w _ hx200_0)).trans hx200_0
          have HR200_0 := xm hi200_0
          have HC200_0 := xm hl200_0
          clear hi200_0 hl200_0
          replace p200 := eq_true p200
          replace q200 := eq_true q200
          go_wp2_with (first | ((with_reducible refine gate_builtin (b := .append) (xs := #[.tmp 31, .tmp 32]) rfl ?_); at_builtin; refine Kd.R_append_rows (Kd.int .i64) (w0 := w) w.heap.size rfl (.tmp 31) (.tmp 32) 22 3 (.int .i64 0) 8 rfl Try.underlying22 info3 rfl (by decide) (by omega) u6 x6_2 (rd_L1 l0 x27_2) _ _ _ (fun _ => True) (fun _ => False) rfl rfl ?aO ?aR (fun _ _ h => h) (fun _ h => h.elim) ?aF ?aB ?aS ?aL ?_; (case aR => exact cB (Kd.C_below HR200_0.out HB.out)); (case aB => exact bB); (case aF => exact (fun _ _ => trivial)); (case aO => exact (rB HO_6)); (case aS => exact (xz bB)); (case aL => have := LMc11.out; omega); intro v202 w12 ho hb hg hat; rw [← Ny201.out] at ho; have n0_ := xm (hb); have n1_ := xm (ho); clear HB; clear HO_6; have HB := n0_; have HO203 := n1_; clear n0_ n1_; clear ho hb hg hat))
          go_roundg k2
          case measure => have := HK1.out; have := HK2.out; omega
          case rel => exact ⟨(y201), (wrap64 (x27_2 + 1)), (by first | rfl | (simp; done) | (simp [*]; done)), H', ⟨by have := HK1.out; have := HK2.out; omega⟩, ⟨by (with_reducible repeat (first | apply Kd.R_alloc | apply Kd.R_drewN | apply Kd.R_drew)); exact HO203.out⟩, ⟨by repeat (first | (with_reducible first | exact HB.out | apply xa | apply xn | apply xd) | exact HB.out)⟩⟩
         ·rw [if_neg c11] at H
          exact absurd H (by simp)
        ·rw [if_neg c10] at H
         exact absurd H (by simp)
       ·rw [if_neg c9] at H
        exact absurd H (by simp)
      ·rw [if_neg c8] at H
       have c8b0 : decide (x27_2 < (l0.length : Int)) = false := decide_eq_false c8
       clear c8
       obtain rfl := Option.some.inj H
       go_wp2
       go_ret
       exact ⟨_, by first | rfl | (simp [errW_none, errW_some] <;> rfl) | (simp [*, errW_none, errW_some] <;> rfl), by (with_reducible repeat (first | apply Kd.R_alloc | apply Kd.R_drewN | apply Kd.R_drew)); exact HO_6.out, by repeat (first | (with_reducible first | exact HB.out | apply xa | apply xn | apply xd) | exact HB.out)⟩

/-! ### impl_joined_1: function 150 -/
def impl_joined_1.f (l0 : List Int) (l1_0 : List Int) (l2_0 : List Int) : Option (Bool) := if 0 < (l0.length : Int) then (if 0 ≤ (rd l0 0) then (if (rd l0 0) < (l1_0.length : Int) then (if 1 < (l0.length : Int) then (if 0 ≤ (rd l0 1) then (if (rd l0 1) < (l2_0.length : Int) then (some ((rd l1_0 (rd l0 0)) == (rd l2_0 (rd l0 1)))) else (none)) else (none)) else (none)) else (none)) else (none)) else (none)
set_option maxHeartbeats 8000000 in
set_option maxRecDepth 100000 in
theorem impl_joined_1.calls (A0 : Option Addr) (c0 : Nat) (l0 : List Int) (gc1 : Nat) (A1_0 : Option Addr) (c1_0 : Nat) (l1_0 : List Int) (gc2 : Nat) (A2_0 : Option Addr) (c2_0 : Nat) (l2_0 : List Int) (r : Bool) (w : World) (hr0 : Kd.C (Kd.int .i64) w A0 l0.length l0) (hc0 : l0.length ≤ c0) (hr1_0 : Kd.C (Kd.int .i64) w A1_0 l1_0.length l1_0) (hc1_0 : l1_0.length ≤ c1_0) (hr2_0 : Kd.C (Kd.int .i64) w A2_0 l2_0.length l2_0) (hc2_0 : l2_0.length ≤ c2_0) (hbk1 : w.heap[gc1]? = some (.cells #[.slice A1_0 l1_0.length c1_0] 26 (0, 0))) (hbk2 : w.heap[gc2]? = some (.cells #[.slice A2_0 l2_0.length c2_0] 26 (0, 0))) (h : impl_joined_1.f l0 l1_0 l2_0 = some r) :
  Calls Try.prog 150 #[.slice A0 l0.length c0, .pointer (some ⟨gc1, 0, none⟩), .pointer (some ⟨gc2, 0, none⟩)] w fun e w' => e = .returned (.bool r) ∧ Below w.heap.size w w' := by
 have HR0 := xm hr0
 have HC0 := xm hc0
 clear hr0 hc0
 have HR1_0 := xm hr1_0
 have HC1_0 := xm hc1_0
 clear hr1_0 hc1_0
 have HR2_0 := xm hr2_0
 have HC2_0 := xm hc2_0
 clear hr2_0 hc2_0
 have BK204 := xm hbk1
 clear hbk1
 have BK205 := xm hbk2
 clear hbk2
 have HB := xm (Below.refl w.heap.size w)
 have H : (if 0 < (l0.length : Int) then (if 0 ≤ (rd l0 0) then (if (rd l0 0) < (l1_0.length : Int) then (if 1 < (l0.length : Int) then (if 0 ≤ (rd l0 1) then (if (rd l0 1) < (l2_0.length : Int) then (some ((rd l1_0 (rd l0 0)) == (rd l2_0 (rd l0 1)))) else (none)) else (none)) else (none)) else (none)) else (none)) else (none)) = some r := h
 clear h
 by_cases c4 : 0 < (l0.length : Int)
 ·rw [if_pos c4] at H
  have c4b0 : decide (0 < (l0.length : Int)) = true := decide_eq_true c4
  have c4b1 : decide (0 < l0.length) = true := decide_eq_true (by omega)
  clear c4
  by_cases c5 : 0 ≤ (rd l0 0)
  ·rw [if_pos c5] at H
   have c5b0 : decide (0 ≤ (rd l0 0)) = true := decide_eq_true c5
   clear c5
   by_cases c6 : (rd l0 0) < (l1_0.length : Int)
   ·rw [if_pos c6] at H
    have c6b0 : decide ((rd l0 0) < (l1_0.length : Int)) = true := decide_eq_true c6
    clear c6
    by_cases c7 : 1 < (l0.length : Int)
    ·rw [if_pos c7] at H
     have c7b0 : decide (1 < (l0.length : Int)) = true := decide_eq_true c7
     have c7b1 : decide (1 < l0.length) = true := decide_eq_true (by omega)
     clear c7
     by_cases c8 : 0 ≤ (rd l0 1)
     ·rw [if_pos c8] at H
      have c8b0 : decide (0 ≤ (rd l0 1)) = true := decide_eq_true c8
      clear c8
      by_cases c9 : (rd l0 1) < (l2_0.length : Int)
      ·rw [if_pos c9] at H
       have c9b0 : decide ((rd l0 1) < (l2_0.length : Int)) = true := decide_eq_true c9
       clear c9
       obtain rfl := Option.some.inj H
       obtain ⟨hcz10_0, hfz10_0⟩ := cz1 BK204.out
       have p206 : 0 ≤ (0 : Int) := (by omega)
       have q206 : 0 < (l0.length : Int) := of_decide_eq_true aB
       obtain ⟨ad206, e206, hx206_0⟩ := Kd.at_int HR0.out 0 p206 q206
       cases e206
       have qi206 : (0 < l0.length) = True := eq_true (by omega)
       (try rw [show ((0 : Int)).toNat = 0 from rfl] at hx206_0)
       (try rw [Addr.add_zero'] at hx206_0)
       replace p206 := eq_true p206
       replace q206 := eq_true q206
       have p207 : 0 ≤ ((rd l0 0) : Int) := of_decide_eq_true aB
       have q207 : (rd l0 0) < (l1_0.length : Int) := of_decide_eq_true aB
       obtain ⟨ad207, e207, hx207_0⟩ := Kd.at_int HR1_0.out (rd l0 0) p207 q207
       cases e207
       replace p207 := eq_true p207
       replace q207 := eq_true q207
       obtain ⟨hcz11_0, hfz11_0⟩ := cz1 BK205.out
       have p208 : 0 ≤ (1 : Int) := (by omega)
       have q208 : 1 < (l0.length : Int) := of_decide_eq_true aB
       obtain ⟨ad208, e208, hx208_0⟩ := Kd.at_int HR0.out 1 p208 q208
       obtain rfl : ad206 = ad208 := (by injection e208)
       (try simp only [show (1 : Int).toNat = 1 from rfl, Nat.reduceMul, Nat.reduceEqDiff, Go.Addr.add, ↓reduceIte] at hx208_0)
       have qi208 : (1 < l0.length) = True := eq_true (by omega)
       (try rw [show ((1 : Int)).toNat = 1 from rfl] at hx208_0)
       replace p208 := eq_true p208
       replace q208 := eq_true q208
       have p209 : 0 ≤ ((rd l0 1) : Int) := of_decide_eq_true aB
       have q209 : (rd l0 1) < (l2_0.length : Int) := of_decide_eq_true aB
       obtain ⟨ad209, e209, hx209_0⟩ := Kd.at_int HR2_0.out (rd l0 1) p209 q209
       cases e209
       replace p209 := eq_true p209
       replace q209 := eq_true q209
       go_enter Try.func150, Try.ntmps150
       go_wp2
       repeat (go_quiet (fail); try go_wp2)
       go_ret
       exact ⟨by first | rfl | (simp [errW_none, errW_some] <;> rfl) | (simp [*, errW_none, errW_some] <;> rfl), by repeat (first | (with_reducible first | exact HB.out | apply xa | apply xn | apply xd | refine xt ?_ GE204.out | refine xt ?_ GE205.out) | exact HB.out)⟩
      ·rw [if_neg c9] at H
       exact absurd H (by simp)
     ·rw [if_neg c8] at H
      exact absurd H (by simp)
    ·rw [if_neg c7] at H
     exact absurd H (by simp)
   ·rw [if_neg c6] at H
    exact absurd H (by simp)
  ·rw [if_neg c5] at H
   exact absurd H (by simp)
 ·rw [if_neg c4] at H
  exact absurd H (by simp)

/-! ### impl_unpaired_1: function 166 -/
def impl_unpaired_1.f (l0 : List Int) (a1 : Int) : Option (Bool) := if 1 < (l0.length : Int) then (some ((rd l0 1) == a1)) else (none)
set_option maxHeartbeats 8000000 in
set_option maxRecDepth 100000 in
theorem impl_unpaired_1.calls (A0 : Option Addr) (c0 : Nat) (l0 : List Int) (gc1 : Nat) (a1 : Int) (r : Bool) (w : World) (hr0 : Kd.C (Kd.int .i64) w A0 l0.length l0) (hc0 : l0.length ≤ c0) (hbk1 : w.heap[gc1]? = some (.cells #[.int .i64 a1] 3 (0, 0))) (h : impl_unpaired_1.f l0 a1 = some r) :
  Calls Try.prog 166 #[.slice A0 l0.length c0, .pointer (some ⟨gc1, 0, none⟩)] w fun e w' => e = .returned (.bool r) ∧ Below w.heap.size w w' := by
 have HR0 := xm hr0
 have HC0 := xm hc0
 clear hr0 hc0
 have BK210 := xm hbk1
 clear hbk1
 have HB := xm (Below.refl w.heap.size w)
 have H : (if 1 < (l0.length : Int) then (some ((rd l0 1) == a1)) else (none)) = some r := h
 clear h
 by_cases c3 : 1 < (l0.length : Int)
 ·rw [if_pos c3] at H
  have c3b0 : decide (1 < (l0.length : Int)) = true := decide_eq_true c3
  have c3b1 : decide (1 < l0.length) = true := decide_eq_true (by omega)
  clear c3
  obtain rfl := Option.some.inj H
  have p211 : 0 ≤ (1 : Int) := (by omega)
  have q211 : 1 < (l0.length : Int) := of_decide_eq_true aB
  obtain ⟨ad211, e211, hx211_0⟩ := Kd.at_int HR0.out 1 p211 q211
  cases e211
  (try simp only [show (1 : Int).toNat = 1 from rfl, Nat.reduceMul, Nat.reduceEqDiff, Go.Addr.add, ↓reduceIte] at hx211_0)
  have qi211 : (1 < l0.length) = True := eq_true (by omega)
  (try rw [show ((1 : Int)).toNat = 1 from rfl] at hx211_0)
  replace p211 := eq_true p211
  replace q211 := eq_true q211
  obtain ⟨hcz4_0, hfz4_0⟩ := cz1 BK210.out
  go_enter Try.func166, Try.ntmps166
  go_wp2
  repeat (go_quiet (fail); try go_wp2)
  go_ret
  exact ⟨by first | rfl | (simp [errW_none, errW_some] <;> rfl) | (simp [*, errW_none, errW_some] <;> rfl), by repeat (first | (with_reducible first | exact HB.out | apply xa | apply xn | apply xd | refine xt ?_ GE210.out) | exact HB.out)⟩
 ·rw [if_neg c3] at H
  exact absurd H (by simp)

/-! ### slices_ContainsFunc_LLint_Lint__impl_unpaired_1: function 100002 -/
theorem enters166 : ∀ args w, (callFunc 166 args).run Try.prog w = .ok (.enter 166 args) w := enters_of Try.func166 (by kernel_rfl) rfl
def slices_ContainsFunc_LLint_Lint__impl_unpaired_1.f (l0 : List (List Int)) (a1 : Int) : Option Bool := anyO (fun x => impl_unpaired_1.f x a1) l0
set_option maxHeartbeats 8000000 in
set_option maxRecDepth 100000 in
theorem slices_ContainsFunc_LLint_Lint__impl_unpaired_1.calls (A0 : Option Addr) (c0 : Nat) (l0 : List (List Int)) (gc1 : Nat) (a1 : Int) (r : Bool) (w : World) (hr0 : Kd.C (Kd.slice 3 (Kd.int .i64)) w A0 l0.length l0) (hc0 : l0.length ≤ c0) (hbk1 : w.heap[gc1]? = some (.cells #[.int .i64 a1] 3 (0, 0))) (h : slices_ContainsFunc_LLint_Lint__impl_unpaired_1.f l0 a1 = some r) :
  Calls Try.prog 164 #[.slice A0 l0.length c0, .func (.func 166) #[] #[.pointer (some ⟨gc1, 0, none⟩)]] w fun e w' => e = .returned (.bool r) ∧ Below w.heap.size w w' := by
 refine slices_ContainsFunc_LLint_Lint.any 166 #[.pointer (some ⟨gc1, 0, none⟩)] enters166 (fun x => impl_unpaired_1.f x a1) A0 c0 l0 r w hr0 hc0 ?_ h
 intro W x cs b hW hK hb
 obtain ⟨A_0, c_0, rfl, hl0, hi0⟩ := hK
 simp only [encOne, encAgg, List.headD_cons, app0, app1, app2, app3]
 refine (impl_unpaired_1.calls _ _ x gc1 a1 b W hi0 hl0 (blk_below hW hbk1) hb).mono ?_
 rintro e w' ⟨he, hd⟩
 exact ⟨he, hd⟩

/-! ### impl_unpaired: function 151 -/
def impl_unpaired.l0 : Nat → List (List Int) → List Int → Int → Int → Option (List Int)
 | 0, _, _, _, _ => none
 | k + 1, x1, x5, x7, x8 => if x8 < x7 then ((slices_ContainsFunc_LLint_Lint__impl_unpaired_1.f x1 x8).bind fun t213 => (if t213 = true then (impl_unpaired.l0 k x1 x5 x7 (wrap64 (x8 + 1))) else (if x5.length < 17592186044416 then (impl_unpaired.l0 k x1 (x5 ++ [x8]) x7 (wrap64 (x8 + 1))) else (none)))) else (some x5)
def impl_unpaired.f (k : Nat) (a0 : Int) (l1 : List (List Int)) : Option (List Int) := impl_unpaired.l0 k l1 ([] : List Int) a0 0
theorem impl_unpaired.mono_l : ∀ k, (∀ y0 y1 y2 y3, LeO (impl_unpaired.l0 k y0 y1 y2 y3) (impl_unpaired.l0 (k + 1) y0 y1 y2 y3))
 | 0 => fun _ _ _ _ r h => by simp [impl_unpaired.l0] at h
 | k + 1 => by
  have ih0 := impl_unpaired.mono_l k
  ·intro y0 y1 y2 y3
   unfold impl_unpaired.l0
   repeat' first
   | (with_reducible exact ih0 _ _ _ _)
   | (with_reducible exact LeO.refl _)
   | (with_reducible exact LeO.none _)
   | (with_reducible refine LeO.ite ?_ ?_)
   | (with_reducible refine LeO.bind ?_ (fun _ => ?_))
   | exact ih0 _ _ _ _
   | exact LeO.none _
   | refine LeO.ite ?_ ?_
   | refine LeO.bind ?_ (fun _ => ?_)
theorem impl_unpaired.mono : ∀ a0 a1 k, LeO (impl_unpaired.f k a0 a1) (impl_unpaired.f (k + 1) a0 a1) := by
 intro a0 a1 k
 have ih0 := impl_unpaired.mono_l k
 unfold impl_unpaired.f
 repeat' first
   | (with_reducible exact ih0 _ _ _ _)
   | (with_reducible exact LeO.refl _)
   | (with_reducible exact LeO.none _)
   | (with_reducible refine LeO.ite ?_ ?_)
   | (with_reducible refine LeO.bind ?_ (fun _ => ?_))
   | exact ih0 _ _ _ _
   | exact LeO.none _
   | refine LeO.ite ?_ ?_
   | refine LeO.bind ?_ (fun _ => ?_)
set_option maxHeartbeats 8000000 in
set_option maxRecDepth 100000 in
theorem impl_unpaired.calls (k : Nat) (a0 : Int) (A1 : Option Addr) (c1 : Nat) (l1 : List (List Int)) (r : List Int) (w : World) (hr1 : Kd.C (Kd.slice 3 (Kd.int .i64)) w A1 l1.length l1) (hc1 : l1.length ≤ c1) (h : impl_unpaired.f k a0 l1 = some r) :
  Calls Try.prog 151 #[.int .i64 a0, .slice A1 l1.length c1] w fun e w' => ∃ v0_ : Value, e = .returned (v0_) ∧ Kd.R (Kd.int .i64) 3 w' w.heap.size (fun _ => True) v0_ r ∧ Below w.heap.size w w' := by
 have HR1 := xm hr1
 have HC1 := xm hc1
 clear hr1 hc1
 have HB := xm (Below.refl w.heap.size w)
 have H : (impl_unpaired.l0 k l1 ([] : List Int) a0 0) = some r := h
 clear h
 have H' := xm H
 clear H
 go_enter Try.func151, Try.ntmps151
 go_wp2
 go_loopg [5, 8] k (fun kq v5 v8 w' => ∃ (x5_1 : List Int) (x8_1 : Int), v8 = .int .i64 x8_1 ∧ Aside0 (impl_unpaired.l0 kq l1 x5_1 a0 x8_1 = some r) ∧ Aside0 (kq ≤ k) ∧ Aside0 (Kd.R (Kd.int .i64) 3 w' w.heap.size (fun _ => True) v5 x5_1) ∧ Aside0 (Below w.heap.size w w'))
 case atStart => exact ⟨(([] : List Int)), (0), (by first | rfl | (simp; done) | (simp [*]; done)), H', ⟨Nat.le_refl _⟩, ⟨by first | exact Kd.R_nil _ _ _ _ _ | exact Kd.N_nil _ _ _ _ _ | exact Kd.V_nil _ _ _ _ _ | exact Kd.Q_nil _ _ _ _ _ | exact Kd.S_nil _ _ _ _ _⟩, ⟨by repeat (first | (with_reducible first | exact HB.out | apply xa | apply xn | apply xd) | exact HB.out)⟩⟩
 case round =>
  clear H'
  try clear c1
  try clear p2
  obtain ⟨x5_1, x8_1, rfl, HA, HK1, HO_5, HB⟩ := hrel
  cases gk with
  | zero => exact absurd HA.out (by simp [impl_unpaired.l0])
  | succ k1 =>
   have H := HA.out
   clear HA
   simp only [impl_unpaired.l0] at H
   by_cases c3 : x8_1 < a0
   ·rw [if_pos c3] at H
    have c3b0 : decide (x8_1 < a0) = true := decide_eq_true c3
    clear c3
    replace H := Option.bind_eq_some_iff.mp H
    obtain ⟨t213, A40, H⟩ := H
    replace H : (if t213 = true then (impl_unpaired.l0 k1 l1 x5_1 a0 (wrap64 (x8_1 + 1))) else (if x5_1.length < 17592186044416 then (impl_unpaired.l0 k1 l1 (x5_1 ++ [x8_1]) a0 (wrap64 (x8_1 + 1))) else (none))) = some r := H
    have A4 := xm A40
    clear A40
    by_cases c5 : t213 = true
    ·subst c5
     have H1 : (impl_unpaired.l0 k1 l1 x5_1 a0 (wrap64 (x8_1 + 1))) = some r := by first | (with_reducible rfl) | (rw [if_pos rfl] at H; exact H)
     clear H
     have H := H1
     clear H1
     have H' := xm H
     clear H
     go_wp2_with (first | ((with_reducible refine gate_dst (N := 6) rfl ?_); refine box_event ?hg (N := 6) ?hd (cs := #[.int .i64 0]) (t := 3) ?hr ?_; (case hd => rfl); (case hg => rfl); (case hr => exact zB); intro gb212 hg w6 hbox hb; have n0_ := xm (Kd.R_below (Kd.R_elderB (rB HO_5) gb212 (Nat.le_of_eq hg.symm)) hb); have n1_ := xm (below_step bB hb); have n2_ := xm (hbox); have n3_ := xm ((by rw [hg]; exact (xz bB) : w.heap.size ≤ gb212)); have n4_ := xm ((by rw [hg]; exact (xz bB) : w.heap.size ≤ gb212)); clear HO_5; clear HB; have HO_5 := n0_; have HB := n1_; have BK212 := n2_; have GW212 := n3_; have GE212 := n4_; clear n0_ n1_ n2_ n3_ n4_; clear hb hbox hg; obtain ⟨hcz7_0, hfz7_0⟩ := cz1 BK212.out) | ((with_reducible refine gate_callee (f := 164) rfl ?_); refine goesL_ (some 13) rfl rfl Try.func164 (by kernel_rfl) rfl #[.slice A1 l1.length c1, .func (.func 166) #[] #[.pointer (some ⟨gb212, 0, none⟩)]] rfl mB ?_; (with_reducible refine (slices_ContainsFunc_LLint_Lint__impl_unpaired_1.calls _ _ l1 gb212 x8_1 true _ ?side1 ?side2 ?side3 A4.out).mono ?_); (case side1 => exact Kd.C_below HR1.out bG); (case side2 => exact HC1.out); (case side3 => exact by (with_reducible repeat (first | refine xq ?_ _ | refine xr ?_ | refine xo ?_ _)); refine blk_put (cs := #[.int .i64 0]) ?_ 0 _ rfl; (with_reducible repeat (first | refine xq ?_ _ | refine xr ?_ | refine xo ?_ _)); exact BK212.out); rintro e w8 ⟨rfl, hb⟩; refine ⟨_, rfl, ?_⟩; have n0_ := xm (Kd.R_below (by (with_reducible repeat (first | apply Kd.R_alloc | apply Kd.R_drewN | apply Kd.R_drew)); exact (Kd.R_mono (Kd.R_far (p := ⟨gb212, 0, none⟩) (Kd.R_mono HO_5.out (fun k_ hk => (⟨hk, hk.2⟩ : _ ∧ k_ ≠ gb212))) (fun _ hk => hk.2) (.int .i64 x8_1)) (fun _ h_ => h_.1))) hb); have n1_ := xm (blk_below (g := gb212) (o := .cells #[.int .i64 x8_1] 3 (0, 0)) (by (with_reducible repeat (first | refine xq ?_ _ | refine xr ?_ | refine xo ?_ _)); refine blk_put (cs := #[.int .i64 0]) ?_ 0 _ rfl; (with_reducible repeat (first | refine xq ?_ _ | refine xr ?_ | refine xo ?_ _)); exact BK212.out) hb); have n2_ := xm (below_step bG hb); clear HO_5; clear BK212; clear HB; have HO_5 := n0_; have BK212 := n1_; have HB := n2_; clear n0_ n1_ n2_; (try clear hb); (try clear hb2); (try clear hk); (try clear hi)))
     go_roundg k1
     case measure => have := HK1.out; omega
     case rel => exact ⟨(x5_1), (wrap64 (x8_1 + 1)), (by first | rfl | (simp; done) | (simp [*]; done)), H', ⟨by have := HK1.out; omega⟩, ⟨by (with_reducible repeat (first | apply Kd.R_alloc | apply Kd.R_drewN | apply Kd.R_drew)); exact Kd.R_mono HO_5.out (fun _ hk => trivial)⟩, ⟨by repeat (first | (with_reducible first | exact HB.out | apply xa | apply xn | apply xd | refine xt ?_ GE212.out) | exact HB.out)⟩⟩
    ·replace c5 := Bool.eq_false_iff.mpr c5
     subst c5
     have H1 : (if x5_1.length < 17592186044416 then (impl_unpaired.l0 k1 l1 (x5_1 ++ [x8_1]) a0 (wrap64 (x8_1 + 1))) else (none)) = some r := by first | (with_reducible rfl) | (rw [if_neg (show ¬ (false = true) by decide)] at H; exact H)
     clear H
     have H := H1
     clear H1
     by_cases c9 : x5_1.length < 17592186044416
     ·rw [if_pos c9] at H
      have LMc9 := xm c9
      clear c9
      obtain ⟨y214, hy214⟩ : ∃ y_ : List Int, y_ = (x5_1 ++ [x8_1]) := ⟨_, rfl⟩
      replace H : (impl_unpaired.l0 k1 l1 y214 a0 (wrap64 (x8_1 + 1))) = some r := by first | (rw [hy214]; with_reducible exact H) | (have H2_ := (Option.bind_some _ _).symm.trans H; rw [hy214]; with_reducible exact H2_) | (have H2_ := (Option.bind_some _ _).symm.trans H; with_reducible exact H2_) | with_reducible exact H | (rw [hy214]; exact H) | exact H
      have Ny214 := xm hy214
      clear hy214
      have H' := xm H
      clear H
      go_wp2_with (first | ((with_reducible refine gate_dst (N := 6) rfl ?_); refine box_event ?hg (N := 6) ?hd (cs := #[.int .i64 0]) (t := 3) ?hr ?_; (case hd => rfl); (case hg => rfl); (case hr => exact zB); intro gb212 hg w10 hbox hb; have n0_ := xm (Kd.R_below (Kd.R_elderB (rB HO_5) gb212 (Nat.le_of_eq hg.symm)) hb); have n1_ := xm (below_step bB hb); have n2_ := xm (hbox); have n3_ := xm ((by rw [hg]; exact (xz bB) : w.heap.size ≤ gb212)); have n4_ := xm ((by rw [hg]; exact (xz bB) : w.heap.size ≤ gb212)); clear HO_5; clear HB; have HO_5 := n0_; have HB := n1_; have BK212 := n2_; have GW212 := n3_; have GE212 := n4_; clear n0_ n1_ n2_ n3_ n4_; clear hb hbox hg; obtain ⟨hcz11_0, hfz11_0⟩ := cz1 BK212.out) | ((with_reducible refine gate_callee (f := 164) rfl ?_); refine goesL_ (some 13) rfl rfl Try.func164 (by kernel_rfl) rfl #[.slice A1 l1.length c1, .func (.func 166) #[] #[.pointer (some ⟨gb212, 0, none⟩)]] rfl mB ?_; (with_reducible refine (slices_ContainsFunc_LLint_Lint__impl_unpaired_1.calls _ _ l1 gb212 x8_1 false _ ?side1 ?side2 ?side3 A4.out).mono ?_); (case side1 => exact Kd.C_below HR1.out bG); (case side2 => exact HC1.out); (case side3 => exact by (with_reducible repeat (first | refine xq ?_ _ | refine xr ?_ | refine xo ?_ _)); refine blk_put (cs := #[.int .i64 0]) ?_ 0 _ rfl; (with_reducible repeat (first | refine xq ?_ _ | refine xr ?_ | refine xo ?_ _)); exact BK212.out); rintro e w12 ⟨rfl, hb⟩; refine ⟨_, rfl, ?_⟩; have n0_ := xm (Kd.R_below (by (with_reducible repeat (first | apply Kd.R_alloc | apply Kd.R_drewN | apply Kd.R_drew)); exact (Kd.R_mono (Kd.R_far (p := ⟨gb212, 0, none⟩) (Kd.R_mono HO_5.out (fun k_ hk => (⟨hk, hk.2⟩ : _ ∧ k_ ≠ gb212))) (fun _ hk => hk.2) (.int .i64 x8_1)) (fun _ h_ => h_.1))) hb); have n1_ := xm (blk_below (g := gb212) (o := .cells #[.int .i64 x8_1] 3 (0, 0)) (by (with_reducible repeat (first | refine xq ?_ _ | refine xr ?_ | refine xo ?_ _)); refine blk_put (cs := #[.int .i64 0]) ?_ 0 _ rfl; (with_reducible repeat (first | refine xq ?_ _ | refine xr ?_ | refine xo ?_ _)); exact BK212.out) hb); have n2_ := xm (below_step bG hb); clear HO_5; clear BK212; clear HB; have HO_5 := n0_; have BK212 := n1_; have HB := n2_; clear n0_ n1_ n2_; (try clear hb); (try clear hb2); (try clear hk); (try clear hi); obtain ⟨hcz13_0, hfz13_0⟩ := cz1 BK212.out) | ((with_reducible refine gate_builtin (b := .append) (xs := #[.tmp 15, .tmp 17]) rfl ?_); at_builtin; refine Kd.R_append (Kd.int .i64) (w0 := w) w.heap.size rfl (.tmp 15) (.tmp 17) 22 3 (.int .i64 0) 8 rfl Try.underlying22 info3 rfl (by decide) (by omega) u5 x5_1 x8_1 [.int .i64 x8_1] (fun k_ => k_ ≠ gb212) (fun _ => False) rfl rfl ?aP (fun _ hk => hk.elim) ?aF ?aO ?aB ?aS ?aL ?_; (case aP => exact rfl); (case aB => exact bG); (case aF => exact (fun k_ hk => Kd.freshB (kB BK212) k_ hk)); (case aO => exact (by (with_reducible repeat (first | apply Kd.R_alloc | apply Kd.R_drewN | apply Kd.R_drew)); exact Kd.R_mono HO_5.out (fun _ hk => hk.2))); (case aS => exact (xz bG)); (case aL => have := LMc9.out; omega); intro v215 w14 ho hb hg hat; rw [← Ny214.out] at ho; have n0_ := xm (blk_grown (kB BK212) hg (Kd.R_away HO_5.out (fun _ hk => hk.2))); have n1_ := xm (hb); have n2_ := xm (ho); clear BK212; clear HB; clear HO_5; have BK212 := n0_; have HB := n1_; have HO216 := n2_; clear n0_ n1_ n2_; clear ho hb hg hat))
      go_roundg k1
      case measure => have := HK1.out; omega
      case rel => exact ⟨(y214), (wrap64 (x8_1 + 1)), (by first | rfl | (simp; done) | (simp [*]; done)), H', ⟨by have := HK1.out; omega⟩, ⟨by (with_reducible repeat (first | apply Kd.R_alloc | apply Kd.R_drewN | apply Kd.R_drew)); exact Kd.R_mono HO216.out (fun _ hk => trivial)⟩, ⟨by repeat (first | (with_reducible first | exact HB.out | apply xa | apply xn | apply xd | refine xt ?_ GE212.out) | exact HB.out)⟩⟩
     ·rw [if_neg c9] at H
      exact absurd H (by simp)
   ·rw [if_neg c3] at H
    have c3b0 : decide (x8_1 < a0) = false := decide_eq_false c3
    clear c3
    obtain rfl := Option.some.inj H
    go_wp2
    go_ret
    exact ⟨_, by first | rfl | (simp [errW_none, errW_some] <;> rfl) | (simp [*, errW_none, errW_some] <;> rfl), by (with_reducible repeat (first | apply Kd.R_alloc | apply Kd.R_drewN | apply Kd.R_drew)); exact HO_5.out, by repeat (first | (with_reducible first | exact HB.out | apply xa | apply xn | apply xd) | exact HB.out)⟩

/-! ### impl_areAll_Lint__impl_joined_1: function 100003 -/
theorem enters150 : ∀ args w, (callFunc 150 args).run Try.prog w = .ok (.enter 150 args) w := enters_of Try.func150 (by kernel_rfl) rfl
def impl_areAll_Lint__impl_joined_1.f (l0 : List (List Int)) (l1_0 : List Int) (l2_0 : List Int) : Option Bool := allO (fun x => impl_joined_1.f x l1_0 l2_0) l0
set_option maxHeartbeats 8000000 in
set_option maxRecDepth 100000 in
theorem impl_areAll_Lint__impl_joined_1.calls (A0 : Option Addr) (c0 : Nat) (l0 : List (List Int)) (gc1 : Nat) (A1_0 : Option Addr) (c1_0 : Nat) (l1_0 : List Int) (gc2 : Nat) (A2_0 : Option Addr) (c2_0 : Nat) (l2_0 : List Int) (r : Bool) (w : World) (hr0 : Kd.C (Kd.slice 3 (Kd.int .i64)) w A0 l0.length l0) (hc0 : l0.length ≤ c0) (hr1_0 : Kd.C (Kd.int .i64) w A1_0 l1_0.length l1_0) (hc1_0 : l1_0.length ≤ c1_0) (hr2_0 : Kd.C (Kd.int .i64) w A2_0 l2_0.length l2_0) (hc2_0 : l2_0.length ≤ c2_0) (hbk1 : w.heap[gc1]? = some (.cells #[.slice A1_0 l1_0.length c1_0] 26 (0, 0))) (hbk2 : w.heap[gc2]? = some (.cells #[.slice A2_0 l2_0.length c2_0] 26 (0, 0))) (h : impl_areAll_Lint__impl_joined_1.f l0 l1_0 l2_0 = some r) :
  Calls Try.prog 148 #[.slice A0 l0.length c0, .func (.func 150) #[] #[.pointer (some ⟨gc1, 0, none⟩), .pointer (some ⟨gc2, 0, none⟩)]] w fun e w' => e = .returned (.bool r) ∧ Below w.heap.size w w' := by
 refine impl_areAll_Lint.any 150 #[.pointer (some ⟨gc1, 0, none⟩), .pointer (some ⟨gc2, 0, none⟩)] enters150 (fun x => impl_joined_1.f x l1_0 l2_0) A0 c0 l0 r w hr0 hc0 ?_ h
 intro W x cs b hW hK hb
 obtain ⟨A_0, c_0, rfl, hl0, hi0⟩ := hK
 simp only [encOne, encAgg, List.headD_cons, app0, app1, app2, app3]
 refine (impl_joined_1.calls _ _ x gc1 _ _ l1_0 gc2 _ _ l2_0 b W hi0 hl0 (Kd.C_below hr1_0 hW) hc1_0 (Kd.C_below hr2_0 hW) hc2_0 (blk_below hW hbk1) (blk_below hW hbk2) hb).mono ?_
 rintro e w' ⟨he, hd⟩
 exact ⟨he, hd⟩

end Go.Proofs.Ytcbikaoackbbjaa.G
