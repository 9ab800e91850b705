/- Written by a program of this claim's own, out of the translation: functions of the program as plain functions, and that the calls answer as these. No conditions. -/
import Derived.Test.YtaddemalepndfaaG0
import Derived.Test.YtaddemalepndfaaG7
import Derived.Test.YtaddemalepndfaaG9
namespace Go.Proofs.Ytaddemalepndfaa.G
open Go.RowKit Go.Proofs.Ytaddemalepndfaa.X Go.Proofs.YtaddemalepndfaaW.PrintWords Go.Proofs.YtaddemalepndfaaW.PrintLast Go.Proofs.YtaddemalepndfaaW.PrintMore
attribute [local go_sem] max2_int min2_int max_two min_two max_three min_three max_four min_four   -- for this text's walks alone
set_option linter.unusedVariables false
set_option linter.unusedSimpArgs false

/-! ### slices_Grow_Lint_int: function 37 -/
def slices_Grow_Lint_int.f (l0 : List Int) (a1 : Int) : Option (List Int) := if l0.length = 0 then (if 0 ≤ a1 then (if a1 ≤ 17592186044416 then some [] else none) else none) else none
set_option maxHeartbeats 8000000 in
set_option maxRecDepth 100000 in
theorem slices_Grow_Lint_int.calls (A0 : Option Addr) (c0 : Nat) (l0 : List Int) (a1 : Int) (r : List Int) (w : World) (hr0 : Kd.C (Kd.int .i64) w A0 l0.length l0) (hc0 : l0.length ≤ c0) (h : slices_Grow_Lint_int.f l0 a1 = some r) :
 Calls Try.prog 37 #[.slice none 0 0, .int .i64 a1] w fun e w' => ∃ v0_ : Value, e = .returned v0_ ∧ Kd.R (Kd.int .i64) 3 w' w.heap.size (fun _ => True) v0_ r ∧ Below w.heap.size w w' := by
 unfold slices_Grow_Lint_int.f at h
 by_cases c1 : l0.length = 0
 case neg => rw [if_neg c1] at h; cases h
 rw [if_pos c1] at h
 by_cases c2 : 0 ≤ a1
 case neg => rw [if_neg c2] at h; cases h
 rw [if_pos c2] at h
 by_cases c3 : a1 ≤ 17592186044416
 case neg => rw [if_neg c3] at h; cases h
 rw [if_pos c3] at h
 obtain rfl := Option.some.inj h
 clear h c1 hr0 hc0
 have C2 := xm c2
 have C3 := xm c3
 have d1 : decide (a1 < 0) = false := decide_eq_false (by omega)
 have HB := xm (Below.refl w.heap.size w)
 have hw0 : wrap64 (a1 - wrap64 (0 - 0)) = a1 := by unfold wrap64; omega
 have hw1 : wrap64 (a1 - 0) = a1 := by unfold wrap64; omega
 have hw2 : wrap64 a1 = a1 := by unfold wrap64; omega
 have CW : Aside0 (0 ≤ wrap64 a1 ∧ (([] : List Int).length + (wrap64 a1).toNat) * 8 ≤ 140737488355328) := xm (by rw [hw2]; exact ⟨c2, by simp only [List.length_nil, Nat.zero_add]; omega⟩)
 clear c2 c3
 go_enter Try.func37, Try.ntmps37
 by_cases c4 : 0 < a1
 ·have d2 : decide (0 < a1) = true := decide_eq_true c4
  have d3 : decide (a1 > 0) = true := decide_eq_true c4
  clear c4
  go_wp2_with ((with_reducible refine gate_builtin (b := .append) (xs := #[.tmp 20, .tmp 21]) rfl ?_); at_builtin; refine Kd.R_append_zeros (Kd.int .i64) (w0 := w) w.heap.size rfl (.tmp 20) (.tmp 21) 37 3 3 (.int .i64 0) 8 rfl Try.underlying37 Try.underlying3 info3 rfl (by decide) (by decide) (.slice none 0 0) [] 0 (wrap64 a1) (fun _ => True) rfl rfl rfl (fun _ _ => trivial) (Kd.R_nil _ _ _ _ _) CW.out.1 bB (xz bB) CW.out.2 ?_; intro v1 w1 hv hb hg hat; obtain ⟨A1, c1, rfl⟩ := Kd.R_slice hv; have HV := xm hv; have HB1 := xm hb; clear HB hv hb hg hat; have HB := HB1; clear HB1)
  go_ret
  exact ⟨_, rfl, Kd.R_take (m := 0) HV.out (Nat.zero_le _), HB.out⟩
 ·have d2 : decide (0 < a1) = false := decide_eq_false c4
  have d3 : decide (a1 > 0) = false := decide_eq_false c4
  have C4 := xm c4
  clear c4
  go_wp2
  go_ret
  exact ⟨_, rfl, Kd.R_nil _ _ _ _ _, by repeat (first | (with_reducible first | exact HB.out | apply xa | apply xn | apply xd) | exact HB.out)⟩

/-! ### slices_Concat_Lint_int: function 20 -/
mutual
def slices_Concat_Lint_int.l0 : Nat → List (List Int) → Int → List (List Int) → Int → Int → Option (List Int)
 | 0, _, _, _, _, _ => none
 | k + 1, x0, x3, x9, x10, x11 => if x11 < x10 then (if 0 ≤ x11 then (if x11 < (x9.length : Int) then (if (wrap64 (x3 + ((rd_L1 x9 x11).length : Int))) < 0 then (none) else (slices_Concat_Lint_int.l0 k x0 (wrap64 (x3 + ((rd_L1 x9 x11).length : Int))) x9 x10 (wrap64 (x11 + 1)))) else (none)) else (none)) else ((slices_Grow_Lint_int.f ([] : List Int) x3).bind fun t211 => (slices_Concat_Lint_int.l1 k t211 x0 (x0.length : Int) 0))
def slices_Concat_Lint_int.l1 : Nat → List Int → List (List Int) → Int → Int → Option (List Int)
 | 0, _, _, _, _ => none
 | k + 1, x6, x25, x26, x27 => if x27 < x26 then (if 0 ≤ x27 then (if x27 < (x25.length : Int) then (if x6.length + (rd_L1 x25 x27).length < 17592186044416 then (slices_Concat_Lint_int.l1 k (x6 ++ (rd_L1 x25 x27)) x25 x26 (wrap64 (x27 + 1))) else (none)) else (none)) else (none)) else (some x6)
end
def slices_Concat_Lint_int.f (k : Nat) (l0 : List (List Int)) : Option (List Int) := slices_Concat_Lint_int.l0 k l0 0 l0 (l0.length : Int) 0
theorem slices_Concat_Lint_int.mono_l : ∀ k, (∀ y0 y1 y2 y3 y4, LeO (slices_Concat_Lint_int.l0 k y0 y1 y2 y3 y4) (slices_Concat_Lint_int.l0 (k + 1) y0 y1 y2 y3 y4)) ∧ (∀ y0 y1 y2 y3, LeO (slices_Concat_Lint_int.l1 k y0 y1 y2 y3) (slices_Concat_Lint_int.l1 (k + 1) y0 y1 y2 y3))
 | 0 => ⟨fun _ _ _ _ _ r h => by simp [slices_Concat_Lint_int.l0] at h, fun _ _ _ _ r h => by simp [slices_Concat_Lint_int.l1] at h⟩
 | k + 1 => by
  obtain ⟨ih0, ih1⟩ := slices_Concat_Lint_int.mono_l k
  refine ⟨?_, ?_⟩
  ·intro y0 y1 y2 y3 y4
   unfold slices_Concat_Lint_int.l0
   repeat' first
   | (with_reducible exact ih0 _ _ _ _ _)
   | (with_reducible exact ih1 _ _ _ _)
   | (with_reducible exact LeO.refl _)
   | (with_reducible exact LeO.none _)
   | (with_reducible refine LeO.ite ?_ ?_)
   | (with_reducible refine LeO.bind ?_ (fun _ => ?_))
   | exact ih0 _ _ _ _ _
   | exact ih1 _ _ _ _
   | exact LeO.none _
   | refine LeO.ite ?_ ?_
   | refine LeO.bind ?_ (fun _ => ?_)
  ·intro y0 y1 y2 y3
   unfold slices_Concat_Lint_int.l1
   repeat' first
   | (with_reducible exact ih0 _ _ _ _ _)
   | (with_reducible exact ih1 _ _ _ _)
   | (with_reducible exact LeO.refl _)
   | (with_reducible exact LeO.none _)
   | (with_reducible refine LeO.ite ?_ ?_)
   | (with_reducible refine LeO.bind ?_ (fun _ => ?_))
   | exact ih0 _ _ _ _ _
   | exact ih1 _ _ _ _
   | exact LeO.none _
   | refine LeO.ite ?_ ?_
   | refine LeO.bind ?_ (fun _ => ?_)
theorem slices_Concat_Lint_int.mono : ∀ a0 k, LeO (slices_Concat_Lint_int.f k a0) (slices_Concat_Lint_int.f (k + 1) a0) := by
 intro a0 k
 obtain ⟨ih0, ih1⟩ := slices_Concat_Lint_int.mono_l k
 unfold slices_Concat_Lint_int.f
 repeat' first
   | (with_reducible exact ih0 _ _ _ _ _)
   | (with_reducible exact ih1 _ _ _ _)
   | (with_reducible exact LeO.refl _)
   | (with_reducible exact LeO.none _)
   | (with_reducible refine LeO.ite ?_ ?_)
   | (with_reducible refine LeO.bind ?_ (fun _ => ?_))
   | exact ih0 _ _ _ _ _
   | exact ih1 _ _ _ _
   | exact LeO.none _
   | refine LeO.ite ?_ ?_
   | refine LeO.bind ?_ (fun _ => ?_)
set_option maxHeartbeats 8000000 in
set_option maxRecDepth 100000 in
theorem slices_Concat_Lint_int.calls (k : Nat) (A0 : Option Addr) (c0 : Nat) (l0 : List (List Int)) (r : List Int) (w : World) (hr0 : Kd.C (Kd.slice 3 (Kd.int .i64)) w A0 l0.length l0) (hc0 : l0.length ≤ c0) (h : slices_Concat_Lint_int.f k l0 = some r) :
  Calls Try.prog 20 #[.slice A0 l0.length c0] w fun e w' => ∃ v0_ : Value, e = .returned (v0_) ∧ Kd.R (Kd.int .i64) 3 w' w.heap.size (fun _ => True) v0_ r ∧ Below w.heap.size w w' := by
 have HR0 := xm hr0
 have HC0 := xm hc0
 clear hr0 hc0
 have HB := xm (Below.refl w.heap.size w)
 have H : (slices_Concat_Lint_int.l0 k l0 0 l0 (l0.length : Int) 0) = some r := h
 clear h
 have H' := xm H
 clear H
 go_enter Try.func20, Try.ntmps20
 go_wp2
 go_loopg [3, 11] k (fun kq v3 v11 w' => ∃ (x3_1 : Int) (x11_1 : Int), v3 = .int .i64 x3_1 ∧ v11 = .int .i64 x11_1 ∧ Aside0 (slices_Concat_Lint_int.l0 kq l0 x3_1 l0 (l0.length : Int) x11_1 = some r) ∧ Aside0 (kq ≤ k) ∧ Aside0 (Below w.heap.size w w'))
 case atStart => exact ⟨(0), (0), (by first | rfl | (simp; done) | (simp [*]; done)), (by first | rfl | (simp; done) | (simp [*]; done)), H', ⟨Nat.le_refl _⟩, ⟨by repeat (first | (with_reducible first | exact HB.out | apply xa | apply xn | apply xd) | exact HB.out)⟩⟩
 case round =>
  clear H'
  obtain ⟨x3_1, x11_1, rfl, rfl, HA, HK1, HB⟩ := hrel
  cases gk with
  | zero => exact absurd HA.out (by simp [slices_Concat_Lint_int.l0])
  | succ k1 =>
   have H := HA.out
   clear HA
   simp only [slices_Concat_Lint_int.l0] at H
   by_cases c2 : x11_1 < (l0.length : Int)
   ·rw [if_pos c2] at H
    have c2b0 : decide (x11_1 < (l0.length : Int)) = true := decide_eq_true c2
    clear c2
    by_cases c3 : 0 ≤ x11_1
    ·rw [if_pos c3] at H
     have c3b0 : decide (0 ≤ x11_1) = true := decide_eq_true c3
     clear c3
     by_cases c4 : x11_1 < (l0.length : Int)
     ·rw [if_pos c4] at H
      have c4b0 : decide (x11_1 < (l0.length : Int)) = true := decide_eq_true c4
      clear c4
      by_cases c5 : (wrap64 (x3_1 + ((rd_L1 l0 x11_1).length : Int))) < 0
      ·rw [if_pos c5] at H
       exact absurd H (by simp)
      ·rw [if_neg c5] at H
       have c5b0 : decide ((wrap64 (x3_1 + ((rd_L1 l0 x11_1).length : Int))) < 0) = false := decide_eq_false c5
       clear c5
       have H' := xm H
       clear H
       have p210 : 0 ≤ (x11_1 : Int) := of_decide_eq_true aB
       have q210 : x11_1 < (l0.length : Int) := of_decide_eq_true aB
       obtain ⟨ad210, A210_0, c210_0, e210, hx210_0, hl210_0, hi210_0⟩ := at_L1 HR0.out x11_1 p210 q210
       cases e210
       replace hx210_0 := (HB.out.cell (World.block_lt_of_cell? w _ hx210_0)).trans hx210_0
       have HR210_0 := xm hi210_0
       have HC210_0 := xm hl210_0
       clear hi210_0 hl210_0
       replace p210 := eq_true p210
       replace q210 := eq_true q210
       go_wp2
       go_roundg k1
       case measure => have := HK1.out; omega
       case rel => exact ⟨(wrap64 (x3_1 + ((rd_L1 l0 x11_1).length : Int))), (wrap64 (x11_1 + 1)), (by first | rfl | (simp; done) | (simp [*]; done)), (by first | rfl | (simp; done) | (simp [*]; done)), H', ⟨by have := HK1.out; omega⟩, ⟨by repeat (first | (with_reducible first | exact HB.out | apply xa | apply xn | apply xd) | exact HB.out)⟩⟩
     ·rw [if_neg c4] at H
      exact absurd H (by simp)
    ·rw [if_neg c3] at H
     exact absurd H (by simp)
   ·rw [if_neg c2] at H
    have c2b0 : decide (x11_1 < (l0.length : Int)) = false := decide_eq_false c2
    clear c2
    replace H := Option.bind_eq_some_iff.mp H
    obtain ⟨t211, A60, H⟩ := H
    replace H : (slices_Concat_Lint_int.l1 k1 t211 l0 (l0.length : Int) 0) = some r := H
    have A6 := xm A60
    clear A60
    have H' := xm H
    clear H
    go_wp2_with (first | ((with_reducible refine gate_callee (f := 37) rfl ?_); refine goesL_ (some 24) rfl rfl Try.func37 (by kernel_rfl) rfl #[.slice none 0 0, .int .i64 x3_1] rfl mB ?_; (refine (slices_Grow_Lint_int.calls none 0 ([] : List Int) x3_1 t211 _ ?side1 ?side2 A6.out).mono ?_); (case side1 => exact Kd.C_nil _ _); (case side2 => exact Nat.le_refl _); rintro e w7 ⟨v212, rfl, ho0, hb⟩; refine ⟨_, rfl, ?_⟩; have n0_ := xm (Kd.R_lower ho0 (xz bB)); have n1_ := xm (below_step bB hb); revert n0_ n1_; clear HB; intro HO213 HB; (try clear hb); (try clear hb2); (try clear hk); (try clear hi); (try clear ho0)))
    go_loopg [6, 27] k1 (fun kq v6 v27 w' => ∃ (x6_2 : List Int) (x27_2 : Int), v27 = .int .i64 x27_2 ∧ Aside0 (slices_Concat_Lint_int.l1 kq x6_2 l0 (l0.length : Int) x27_2 = some r) ∧ Aside0 (kq ≤ k1) ∧ Aside0 (Kd.R (Kd.int .i64) 3 w' w.heap.size (fun _ => True) v6 x6_2) ∧ Aside0 (Below w.heap.size w w'))
    case atStart => exact ⟨(t211), (0), (by first | rfl | (simp; done) | (simp [*]; done)), H', ⟨Nat.le_refl _⟩, ⟨by (with_reducible repeat (first | apply Kd.R_alloc | apply Kd.R_drewN | apply Kd.R_drew)); exact HO213.out⟩, ⟨by repeat (first | (with_reducible first | exact HB.out | apply xa | apply xn | apply xd) | exact HB.out)⟩⟩
    case round =>
     clear H'
     try clear c2
     try clear c2b0
     try clear p2
     try clear q2
     try clear hx2
     try clear c3
     try clear c3b0
     try clear c4
     try clear c4b0
     try clear c5
     try clear c5b0
     try clear p6
     try clear hx210_0
     try clear p210
     try clear q210
     obtain ⟨x6_2, x27_2, rfl, HA, HK2, HO_6, HB⟩ := hrel
     cases gk with
     | zero => exact absurd HA.out (by simp [slices_Concat_Lint_int.l1])
     | succ k2 =>
      have H := HA.out
      clear HA
      simp only [slices_Concat_Lint_int.l1] at H
      by_cases c8 : x27_2 < (l0.length : Int)
      ·rw [if_pos c8] at H
       have c8b0 : decide (x27_2 < (l0.length : Int)) = true := decide_eq_true c8
       clear c8
       by_cases c9 : 0 ≤ x27_2
       ·rw [if_pos c9] at H
        have c9b0 : decide (0 ≤ x27_2) = true := decide_eq_true c9
        clear c9
        by_cases c10 : x27_2 < (l0.length : Int)
        ·rw [if_pos c10] at H
         have c10b0 : decide (x27_2 < (l0.length : Int)) = true := decide_eq_true c10
         clear c10
         by_cases c11 : x6_2.length + (rd_L1 l0 x27_2).length < 17592186044416
         ·rw [if_pos c11] at H
          have LMc11 := xm c11
          clear c11
          obtain ⟨y215, hy215⟩ : ∃ y_ : List Int, y_ = (x6_2 ++ (rd_L1 l0 x27_2)) := ⟨_, rfl⟩
          replace H : (slices_Concat_Lint_int.l1 k2 y215 l0 (l0.length : Int) (wrap64 (x27_2 + 1))) = some r := by first | (rw [hy215]; with_reducible exact H) | (have H2_ := (Option.bind_some _ _).symm.trans H; rw [hy215]; with_reducible exact H2_) | (have H2_ := (Option.bind_some _ _).symm.trans H; with_reducible exact H2_) | with_reducible exact H | (rw [hy215]; exact H) | exact H
          have Ny215 := xm hy215
          clear hy215
          have H' := xm H
          clear H
          have p214 : 0 ≤ (x27_2 : Int) := of_decide_eq_true aB
          have q214 : x27_2 < (l0.length : Int) := of_decide_eq_true aB
          obtain ⟨ad214, A214_0, c214_0, e214, hx214_0, hl214_0, hi214_0⟩ := at_L1 HR0.out x27_2 p214 q214
          cases e214
          replace hx214_0 := (HB.out.cell (World.block_lt_of_cell? w _ hx214_0)).trans hx214_0
          have HR214_0 := xm hi214_0
          have HC214_0 := xm hl214_0
          clear hi214_0 hl214_0
          replace p214 := eq_true p214
          replace q214 := eq_true q214
          go_wp2_with (first | ((with_reducible refine gate_builtin (b := .append) (xs := #[.tmp 31, .tmp 32]) rfl ?_); at_builtin; refine Kd.R_append_rows (Kd.int .i64) (w0 := w) w.heap.size rfl (.tmp 31) (.tmp 32) 37 3 (.int .i64 0) 8 rfl Try.underlying37 info3 rfl (by decide) (by omega) u6 x6_2 (rd_L1 l0 x27_2) _ _ _ (fun _ => True) (fun _ => False) rfl rfl ?aO ?aR (fun _ _ h => h) (fun _ h => h.elim) ?aF ?aB ?aS ?aL ?_; (case aR => exact cB (Kd.C_below HR214_0.out HB.out)); (case aB => exact bB); (case aF => exact (fun _ _ => trivial)); (case aO => exact (rB HO_6)); (case aS => exact (xz bB)); (case aL => have := LMc11.out; omega); intro v216 w12 ho hb hg hat; rw [← Ny215.out] at ho; have n0_ := xm (hb); have n1_ := xm (ho); revert n0_ n1_; clear HB HO_6; intro HB HO217; clear ho hb hg hat))
          go_roundg k2
          case measure => have := HK1.out; have := HK2.out; omega
          case rel => exact ⟨(y215), (wrap64 (x27_2 + 1)), (by first | rfl | (simp; done) | (simp [*]; done)), H', ⟨by have := HK1.out; have := HK2.out; omega⟩, ⟨by (with_reducible repeat (first | apply Kd.R_alloc | apply Kd.R_drewN | apply Kd.R_drew)); exact HO217.out⟩, ⟨by repeat (first | (with_reducible first | exact HB.out | apply xa | apply xn | apply xd) | exact HB.out)⟩⟩
         ·rw [if_neg c11] at H
          exact absurd H (by simp)
        ·rw [if_neg c10] at H
         exact absurd H (by simp)
       ·rw [if_neg c9] at H
        exact absurd H (by simp)
      ·rw [if_neg c8] at H
       have c8b0 : decide (x27_2 < (l0.length : Int)) = false := decide_eq_false c8
       clear c8
       obtain rfl := Option.some.inj H
       go_wp2
       go_ret
       exact ⟨_, by first | rfl | (simp [errW_none, errW_some] <;> rfl) | (simp [*, errW_none, errW_some] <;> rfl), by (with_reducible repeat (first | apply Kd.R_alloc | apply Kd.R_drewN | apply Kd.R_drew)); exact HO_6.out, by repeat (first | (with_reducible first | exact HB.out | apply xa | apply xn | apply xd) | exact HB.out)⟩

/-! ### impl_GroupsAsTable: function 7 -/
def impl_GroupsAsTable.l0 : Nat → List S45 → Int → List S47 → Int → Option (Int × List S47 × Bool)
 | 0, _, _, _, _ => none
 | k + 1, l, c, out, i => if i < (l.length : Int) then (if 0 ≤ i then ((impl_isCell.f (rd_T45 l i).f1).bind fun t1 => if t1 = true then ((impl_isCell.f (rd_T45 l i).f2).bind fun t2 => if t2 = true then ((impl_keyLength.f l).bind fun n => (slices_Concat_Lint_int.f k [(rd_T45 l i).f0.f0, [(rd_T45 l i).f1, (rd_T45 l i).f2]]).bind fun y => if out.length < 4398046511104 then impl_GroupsAsTable.l0 k l (wrap64 (n + 2)) (out ++ [(⟨(⟨y⟩ : S43), 1⟩ : S47)]) (wrap64 (i + 1)) else none) else some (0, ([] : List S47), false)) else some (0, ([] : List S47), false)) else none) else some (c, out, true)
def impl_GroupsAsTable.f (k : Nat) (l0 : List S45) : Option (Int × List S47 × Bool) := (impl_GoodGroups.f k l0).bind fun t => if t = true then ((impl_keyLength.f l0).bind fun n => if n > 4 then some (0, ([] : List S47), false) else impl_GroupsAsTable.l0 k l0 0 [] 0) else some (0, ([] : List S47), false)
theorem impl_GroupsAsTable.mono_l : ∀ k y0 y1 y2 y3, LeO (impl_GroupsAsTable.l0 k y0 y1 y2 y3) (impl_GroupsAsTable.l0 (k + 1) y0 y1 y2 y3)
 | 0 => fun _ _ _ _ r h => by simp [impl_GroupsAsTable.l0] at h
 | k + 1 => by
  intro y0 y1 y2 y3
  rw [impl_GroupsAsTable.l0, impl_GroupsAsTable.l0]
  exact LeO.ite (LeO.ite (LeO.bind (LeO.refl _) (fun _ => LeO.ite (LeO.bind (LeO.refl _) (fun _ => LeO.ite (LeO.bind (LeO.refl _) (fun _ => LeO.bind (slices_Concat_Lint_int.mono _ k) (fun _ => LeO.ite (impl_GroupsAsTable.mono_l k _ _ _ _) (LeO.refl _)))) (LeO.refl _))) (LeO.refl _))) (LeO.refl _)) (LeO.refl _)
theorem impl_GroupsAsTable.mono : ∀ a0 k, LeO (impl_GroupsAsTable.f k a0) (impl_GroupsAsTable.f (k + 1) a0) := fun a0 k =>
 LeO.bind (impl_GoodGroups.mono _ k) (fun _ => LeO.ite (LeO.bind (LeO.refl _) (fun _ => LeO.ite (LeO.refl _) (impl_GroupsAsTable.mono_l k _ _ _ _))) (LeO.refl _))
/-- What is held all along: the answer's box, the variable's box, its rows. -/
def GatAt (w0 W : World) (g2 g4 : Nat) (c : Int) (vo : Value) (out : List S47) : Prop :=
 Below w0.heap.size w0 W ∧ (w0.heap.size ≤ g2 ∧ w0.heap.size ≤ g4 ∧ g2 ≠ g4) ∧ W.heap[g2]? = some (.cells #[.int .i64 0, .slice none 0 0] 26 (0, 0)) ∧ W.heap[g4]? = some (.cells #[.int .i64 c, vo] 26 (0, 0)) ∧ Kd.S k47 47 W w0.heap.size (fun _ => True) vo out
theorem GatAt.step {w0 W W1 : World} {g2 g4 : Nat} {c : Int} {vo : Value} {out : List S47} (h : GatAt w0 W g2 g4 c vo out) (hb : Below W.heap.size W W1) : GatAt w0 W1 g2 g4 c vo out :=
 ⟨below_step h.1 hb, h.2.1, blk_below h.2.2.1 hb, blk_below h.2.2.2.1 hb, Kd.S_below h.2.2.2.2 hb⟩
theorem GatAt.box {w0 W : World} {g2 g4 g6 : Nat} {c : Int} {vo : Value} {out : List S47} (h : GatAt w0 W g2 g4 c vo out) {cs : Array Value} (hb : W.heap[g6]? = some (.cells cs 45 (0, 0))) (hg : w0.heap.size ≤ g6) (h2 : g2 ≠ g6) (h4 : g4 ≠ g6) (j : Nat) (u : Value) : GatAt w0 (W.setCell ⟨g6, j, none⟩ u) g2 g4 c vo out :=
 ⟨xt h.1 hg, h.2.1, blk_far h.2.2.1 h2 _, blk_far h.2.2.2.1 h4 _, Kd.S_set h.2.2.2.2 hb (by decide) j u⟩
theorem GatAt.col {w0 W : World} {g2 g4 : Nat} {c : Int} {vo : Value} {out : List S47} (h : GatAt w0 W g2 g4 c vo out) (c' : Int) : GatAt w0 (W.setCell ⟨g4, 0, none⟩ (.int .i64 c')) g2 g4 c' vo out :=
 ⟨xt h.1 h.2.1.2.1, h.2.1, blk_far h.2.2.1 h.2.1.2.2 _, blk_put (cs := #[.int .i64 c, vo]) h.2.2.2.1 0 _ rfl, Kd.S_set h.2.2.2.2 h.2.2.2.1 (by decide) 0 _⟩
theorem GatAt.row {w0 W W1 : World} {g2 g4 : Nat} {c : Int} {vo v1 : Value} {out out1 : List S47} (h : GatAt w0 W g2 g4 c vo out) (hS : Kd.S k47 47 W1 w0.heap.size (fun _ => True) v1 out1) (hb : Below w0.heap.size w0 W1) (hg : W.grownBy W1 vo.ownBlock) : GatAt w0 (W1.setCell ⟨g4, 1, none⟩ v1) g2 g4 c v1 out1 := by
 have b2 := blk_grown h.2.2.1 hg (Kd.S_ne h.2.2.2.2 h.2.2.1 (by decide))
 have b4 := blk_grown h.2.2.2.1 hg (Kd.S_ne h.2.2.2.2 h.2.2.2.1 (by decide))
 exact ⟨xt hb h.2.1.2.1, h.2.1, blk_far b2 h.2.1.2.2 _, blk_put (cs := #[.int .i64 c, vo]) b4 1 _ rfl, Kd.S_set hS b4 (by decide) 1 _⟩
/-- Two rows in a list, as a callee reads them. -/
theorem Gat.two {W : World} {A0 A1 : Option Addr} {c0 c1 : Nat} {x y : List Int} (h0 : Kd.C (Kd.int .i64) W A0 x.length x) (k0 : x.length ≤ c0) (h1 : Kd.C (Kd.int .i64) W A1 y.length y) (k1 : y.length ≤ c1) :
  Kd.C (Kd.slice 3 (Kd.int .i64)) (W.alloc (.cells #[.slice A0 x.length c0, .slice A1 y.length c1] 37)) (some ⟨W.heap.size, 0, none⟩) ([x, y] : List (List Int)).length [x, y] := by
 have hb : Below W.heap.size W (W.alloc (.cells #[.slice A0 x.length c0, .slice A1 y.length c1] 37)) := xa (Below.refl _ _) _
 have hn := blk_new W (.cells #[.slice A0 x.length c0, .slice A1 y.length c1] 37)
 refine ⟨rfl, by simp, fun _ => ⟨_, rfl, fun j p hj => ?_⟩⟩
 match j, hj with
 | 0, hj =>
  obtain rfl := Option.some.inj hj
  refine ⟨[.slice A0 x.length c0], rfl, ⟨A0, c0, rfl, k0, Kd.C_below h0 hb⟩, fun i u hu => ?_⟩
  match i, hu with
  | 0, hu => obtain rfl := Option.some.inj hu; exact (xc hn 0).trans rfl
 | 1, hj =>
  obtain rfl := Option.some.inj hj
  refine ⟨[.slice A1 y.length c1], rfl, ⟨A1, c1, rfl, k1, Kd.C_below h1 hb⟩, fun i u hu => ?_⟩
  match i, hu with
  | 0, hu => obtain rfl := Option.some.inj hu; exact (xc hn 1).trans rfl
 | j + 2, hj => cases hj
set_option maxHeartbeats 8000000 in
set_option maxRecDepth 100000 in
theorem impl_GroupsAsTable.calls (k : Nat) (A0 : Option Addr) (c0 : Nat) (l0 : List (S45)) (r1 : Int) (r2 : List (S47)) (r3 : Bool) (w : World) (hr0 : Kd.C k45 w A0 l0.length l0) (hc0 : l0.length ≤ c0) (h : impl_GroupsAsTable.f k l0 = some (r1, r2, r3)) :
  Calls Try.prog 7 #[.slice A0 l0.length c0] w fun e w' => ∃ v1_ : Value, e = .returned (.tuple #[.agg #[.int .i64 r1, v1_], .bool r3]) ∧ Kd.S k47 47 w' w.heap.size (fun _ => True) v1_ r2 ∧ Below w.heap.size w w' := by
 have hu26 := Try.underlying26
 have hu45 := Try.underlying45
 have hu43 := Try.underlying43
 have hu47 := Try.underlying47
 have hu37 := Try.underlying37
 have HR0 := xm hr0
 have HC0 := xm hc0
 clear hr0 hc0
 have HB := xm (Below.refl w.heap.size w)
 unfold impl_GroupsAsTable.f at h
 obtain ⟨t, t0, h⟩ := Option.bind_eq_some_iff.mp h
 have T0 := xm t0
 clear t0
 cases t with
 | false =>
  rw [if_neg (by simp)] at h
  simp only [Option.some.injEq, Prod.mk.injEq] at h
  obtain ⟨rfl, rfl, rfl⟩ := h
  go_enter Try.func7, Try.ntmps7
  go_wp2_with (first
   | ((with_reducible refine gate_dst (N := 2) rfl ?_); refine box_event ?hg (N := 2) ?hd (cs := #[.int .i64 0, .slice none 0 0]) (t := 26) ?hr ?_; (case hd => rfl); (case hg => rfl); (case hr => exact zB); intro g2 hg w4 hbox hb; have hg2 : w.heap.size ≤ g2 := (by rw [hg]; exact (xz bB)); have GE2 := xm hg2; have BK2 := xm hbox; have n0_ := xm (below_step bB hb); clear HB hb hbox hg hg2; revert n0_; intro HB; obtain ⟨hcz2_0, hcz2_1, hfz2_0, hfz2_1⟩ := cz2 BK2.out)
   | ((with_reducible refine gate_callee (f := 17) rfl ?_); refine goesL_ (some 8) rfl rfl Try.func17 (by kernel_rfl) rfl #[.slice A0 l0.length c0] rfl mB ?_; (with_reducible refine (impl_GoodGroups.calls k _ _ l0 _ _ ?side1 ?side2 T0.out).mono ?_); (case side1 => exact cB (Kd.C_below HR0.out HB.out)); (case side2 => exact HC0.out); rintro e w5 ⟨rfl, hb⟩; refine ⟨_, rfl, ?_⟩; have n0_ := xm (blk_below BK2.out hb); have n1_ := xm (below_step HB.out hb); clear BK2 HB hb; revert n0_ n1_; intro BK2 HB; clear hcz2_0 hcz2_1 hfz2_0 hfz2_1; obtain ⟨hcz2_0, hcz2_1, hfz2_0, hfz2_1⟩ := cz2 BK2.out))
  refine bodyPost_ret (results_ct rfl _ _ g2 26 #[.int .i64 0, .slice none 0 0] (0, 0) _ rfl (by (with_reducible repeat (first | refine xq ?_ _ | refine xr ?_ | refine xo ?_ _)); refine blk_put (cs := #[.int .i64 0, .slice none 0 0]) ?_ 1 _ rfl; (with_reducible repeat (first | refine xq ?_ _ | refine xr ?_ | refine xo ?_ _)); refine blk_put (cs := #[.int .i64 0, .slice none 0 0]) ?_ 0 _ rfl; (with_reducible repeat (first | refine xq ?_ _ | refine xr ?_ | refine xo ?_ _)); exact BK2.out) Try.underlying26 rfl (by kernel_rfl)) rfl ?_
  exact ⟨_, by first | rfl | (simp [errW_none, errW_some] <;> rfl) | (simp [*, errW_none, errW_some] <;> rfl), Kd.S_nil _ _ _ _ _, by repeat (first | (with_reducible first | exact HB.out | apply xa | apply xn | apply xd | refine xt ?_ GE2.out) | exact HB.out)⟩
 | true =>
  rw [if_pos rfl] at h
  obtain ⟨n, n0, h⟩ := Option.bind_eq_some_iff.mp h
  have N0 := xm n0
  clear n0
  by_cases c1 : n > 4
  ·rw [if_pos c1] at h
   have c1b : decide (4 < n) = true := decide_eq_true c1
   clear c1
   simp only [Option.some.injEq, Prod.mk.injEq] at h
   obtain ⟨rfl, rfl, rfl⟩ := h
   go_enter Try.func7, Try.ntmps7
   go_wp2_with (first
    | ((with_reducible refine gate_dst (N := 2) rfl ?_); refine box_event ?hg (N := 2) ?hd (cs := #[.int .i64 0, .slice none 0 0]) (t := 26) ?hr ?_; (case hd => rfl); (case hg => rfl); (case hr => exact zB); intro g2 hg w4 hbox hb; have hg2 : w.heap.size ≤ g2 := (by rw [hg]; exact (xz bB)); have GE2 := xm hg2; have BK2 := xm hbox; have n0_ := xm (below_step bB hb); clear HB hb hbox hg hg2; revert n0_; intro HB; obtain ⟨hcz2_0, hcz2_1, hfz2_0, hfz2_1⟩ := cz2 BK2.out)
    | ((with_reducible refine gate_callee (f := 17) rfl ?_); refine goesL_ (some 8) rfl rfl Try.func17 (by kernel_rfl) rfl #[.slice A0 l0.length c0] rfl mB ?_; (with_reducible refine (impl_GoodGroups.calls k _ _ l0 _ _ ?side1 ?side2 T0.out).mono ?_); (case side1 => exact cB (Kd.C_below HR0.out HB.out)); (case side2 => exact HC0.out); rintro e w5 ⟨rfl, hb⟩; refine ⟨_, rfl, ?_⟩; have n0_ := xm (blk_below BK2.out hb); have n1_ := xm (below_step HB.out hb); clear BK2 HB hb; revert n0_ n1_; intro BK2 HB; clear hcz2_0 hcz2_1 hfz2_0 hfz2_1; obtain ⟨hcz2_0, hcz2_1, hfz2_0, hfz2_1⟩ := cz2 BK2.out)
    | (go_at_call 18; refine (impl_keyLength.calls _ _ l0 n _ (Kd.C_below HR0.out HB.out) HC0.out N0.out).mono ?_; rintro e w6 ⟨rfl, hd⟩; have hb := hd.below; clear hd; have n0_ := xm (blk_below BK2.out hb); have n1_ := xm (below_step HB.out hb); clear BK2 HB hb; revert n0_ n1_; intro BK2 HB; clear hcz2_0 hcz2_1 hfz2_0 hfz2_1; obtain ⟨hcz2_0, hcz2_1, hfz2_0, hfz2_1⟩ := cz2 BK2.out))
   refine bodyPost_ret (results_ct rfl _ _ g2 26 #[.int .i64 0, .slice none 0 0] (0, 0) _ rfl (by (with_reducible repeat (first | refine xq ?_ _ | refine xr ?_ | refine xo ?_ _)); refine blk_put (cs := #[.int .i64 0, .slice none 0 0]) ?_ 1 _ rfl; (with_reducible repeat (first | refine xq ?_ _ | refine xr ?_ | refine xo ?_ _)); refine blk_put (cs := #[.int .i64 0, .slice none 0 0]) ?_ 0 _ rfl; (with_reducible repeat (first | refine xq ?_ _ | refine xr ?_ | refine xo ?_ _)); exact BK2.out) Try.underlying26 rfl (by kernel_rfl)) rfl ?_
   exact ⟨_, by first | rfl | (simp [errW_none, errW_some] <;> rfl) | (simp [*, errW_none, errW_some] <;> rfl), Kd.S_nil _ _ _ _ _, by repeat (first | (with_reducible first | exact HB.out | apply xa | apply xn | apply xd | refine xt ?_ GE2.out) | exact HB.out)⟩
  ·rw [if_neg c1] at h
   have c1b : decide (4 < n) = false := decide_eq_false c1
   clear c1
   have H' := xm h
   clear h
   go_enter Try.func7, Try.ntmps7
   go_wp2_with (first
    | ((with_reducible refine gate_dst (N := 2) rfl ?_); refine box_event ?hg (N := 2) ?hd (cs := #[.int .i64 0, .slice none 0 0]) (t := 26) ?hr ?_; (case hd => rfl); (case hg => rfl); (case hr => exact zB); intro g2 hg w4 hbox hb; have hg2 : w.heap.size ≤ g2 := (by rw [hg]; exact (xz bB)); have GE2 := xm hg2; have BK2 := xm hbox; have n0_ := xm (below_step bB hb); clear HB hb hbox hg hg2; revert n0_; intro HB; obtain ⟨hcz2_0, hcz2_1, hfz2_0, hfz2_1⟩ := cz2 BK2.out)
    | ((with_reducible refine gate_callee (f := 17) rfl ?_); refine goesL_ (some 8) rfl rfl Try.func17 (by kernel_rfl) rfl #[.slice A0 l0.length c0] rfl mB ?_; (with_reducible refine (impl_GoodGroups.calls k _ _ l0 _ _ ?side1 ?side2 T0.out).mono ?_); (case side1 => exact cB (Kd.C_below HR0.out HB.out)); (case side2 => exact HC0.out); rintro e w5 ⟨rfl, hb⟩; refine ⟨_, rfl, ?_⟩; have n0_ := xm (blk_below BK2.out hb); have n1_ := xm (below_step HB.out hb); clear BK2 HB hb; revert n0_ n1_; intro BK2 HB; clear hcz2_0 hcz2_1 hfz2_0 hfz2_1; obtain ⟨hcz2_0, hcz2_1, hfz2_0, hfz2_1⟩ := cz2 BK2.out)
    | (go_at_call 18; refine (impl_keyLength.calls _ _ l0 n _ (Kd.C_below HR0.out HB.out) HC0.out N0.out).mono ?_; rintro e w6 ⟨rfl, hd⟩; have hb := hd.below; clear hd; have n0_ := xm (blk_below BK2.out hb); have n1_ := xm (below_step HB.out hb); clear BK2 HB hb; revert n0_ n1_; intro BK2 HB; clear hcz2_0 hcz2_1 hfz2_0 hfz2_1; obtain ⟨hcz2_0, hcz2_1, hfz2_0, hfz2_1⟩ := cz2 BK2.out)
    | ((with_reducible refine gate_dst (N := 4) rfl ?_); refine box_event ?hg (N := 4) ?hd (cs := #[.int .i64 0, .slice none 0 0]) (t := 26) ?hr ?_; (case hd => rfl); (case hg => rfl); (case hr => exact zB); intro g4 hg w7 hbox hb; have hg4 : w.heap.size ≤ g4 := (by rw [hg]; exact (xz HB.out)); have NE : g2 ≠ g4 := (by rw [hg]; exact Nat.ne_of_lt (blk_lt BK2.out)); have HG := xm (show GatAt w w7 g2 g4 0 (.slice none 0 0) [] from ⟨below_step HB.out hb, ⟨GE2.out, hg4, NE⟩, blk_below BK2.out hb, hbox, Kd.S_nil _ _ _ _ _⟩); clear HB hb hbox hg hg4 NE BK2; clear hcz2_0 hcz2_1 hfz2_0 hfz2_1))
   go_loopg [18] k (fun kq v18 w' => ∃ (i c : Int) (out : List S47) (vo : Value), v18 = .int .i64 i ∧ Aside0 (impl_GroupsAsTable.l0 kq l0 c out i = some (r1, r2, r3)) ∧ Aside0 (kq ≤ k) ∧ Aside0 (GatAt w w' g2 g4 c vo out))
   case atStart => exact ⟨0, 0, [], .slice none 0 0, rfl, H', ⟨Nat.le_refl _⟩, HG⟩
   case round =>
    clear H' HG
    obtain ⟨i, c, out, vo, rfl, HA, HK1, HG⟩ := hrel
    cases gk with
    | zero => exact absurd HA.out (by simp [impl_GroupsAsTable.l0])
    | succ k1 =>
     have H := HA.out
     clear HA
     simp only [impl_GroupsAsTable.l0] at H
     by_cases c9 : i < (l0.length : Int)
     case neg =>
      rw [if_neg c9] at H
      have c9b : decide (i < (l0.length : Int)) = false := decide_eq_false c9
      clear c9
      simp only [Option.some.injEq, Prod.mk.injEq] at H
      obtain ⟨rfl, rfl, rfl⟩ := H
      obtain ⟨Av, cv, rfl⟩ := Kd.S_slice HG.out.2.2.2.2
      obtain ⟨hcz4_0, hcz4_1, hfz4_0, hfz4_1⟩ := cz2 HG.out.2.2.2.1
      obtain ⟨hcz2_0, hcz2_1, hfz2_0, hfz2_1⟩ := cz2 HG.out.2.2.1
      have hnb := HG.out.2.1.2.2
      have hnc := Ne.symm hnb
      go_wp2
      refine bodyPost_ret (results_ct rfl _ _ g2 26 #[.int .i64 c, .slice Av out.length cv] (0, 0) _ rfl (by (with_reducible repeat (first | refine xq ?_ _ | refine xr ?_ | refine xo ?_ _)); refine blk_put (cs := #[.int .i64 c, .slice none 0 0]) ?_ 1 _ rfl; (with_reducible repeat (first | refine xq ?_ _ | refine xr ?_ | refine xo ?_ _)); refine blk_put (cs := #[.int .i64 0, .slice none 0 0]) ?_ 0 _ rfl; (with_reducible repeat (first | refine xq ?_ _ | refine xr ?_ | refine xo ?_ _)); exact HG.out.2.2.1) Try.underlying26 rfl (by kernel_rfl)) rfl ?_
      exact ⟨_, by first | rfl | (simp [errW_none, errW_some] <;> rfl) | (simp [*, errW_none, errW_some] <;> rfl), by (with_reducible repeat (first | apply Kd.S_alloc | apply Kd.S_drewN | apply Kd.S_drew)); exact Kd.S_mono (Kd.S_far (p := ⟨g2, 1, none⟩) (Kd.S_far (p := ⟨g2, 0, none⟩) (Kd.S_types HG.out.2.2.2.2 HG.out.2.2.1 (by decide)) (fun _ hk => hk.2) (.int .i64 c)) (fun _ hk => hk.2) (.slice Av out.length cv)) (fun _ hk => trivial), by repeat (first | (with_reducible first | exact HG.out.1 | apply xa | apply xn | apply xd | refine xt ?_ GE2.out) | exact HG.out.1)⟩
     rw [if_pos c9] at H
     by_cases c10 : 0 ≤ i
     case neg => rw [if_neg c10] at H; cases H
     rw [if_pos c10] at H
     obtain ⟨ad, Ae, ce, e0, hx0, hx1, hx2, hle, hie⟩ := at_T45 HR0.out i c10 c9
     cases e0
     replace hx0 := (HG.out.1.cell (World.block_lt_of_cell? w _ hx0)).trans hx0
     replace hx1 := (HG.out.1.cell (World.block_lt_of_cell? w _ hx1)).trans hx1
     replace hx2 := (HG.out.1.cell (World.block_lt_of_cell? w _ hx2)).trans hx2
     have HRe := xm hie
     have HCe := xm hle
     clear hie hle
     have c9b : decide (i < (l0.length : Int)) = true := decide_eq_true c9
     replace c10 := eq_true c10
     replace c9 := eq_true c9
     obtain ⟨t1, t1h, H⟩ := Option.bind_eq_some_iff.mp H
     have T1 := xm t1h
     clear t1h
     cases t1 with
     | false =>
      rw [if_neg (by simp)] at H
      simp only [Option.some.injEq, Prod.mk.injEq] at H
      obtain ⟨rfl, rfl, rfl⟩ := H
      go_wp2_with (first
       | ((with_reducible refine gate_dst (N := 6) rfl ?_); refine box_event ?hg (N := 6) ?hd (cs := #[.slice none 0 0, .int .i64 0, .int .i64 0]) (t := 45) ?hr ?_; (case hd => rfl); (case hg => rfl); (case hr => exact zB); intro g6 hg w8 hbox hb; have hg6 : w.heap.size ≤ g6 := (by rw [hg]; exact xz HG.out.1); have NE2 := xm (show g2 ≠ g6 from by rw [hg]; exact Nat.ne_of_lt (blk_lt HG.out.2.2.1)); have NE4 := xm (show g4 ≠ g6 from by rw [hg]; exact Nat.ne_of_lt (blk_lt HG.out.2.2.2.1)); have GE6 := xm hg6; have BK6 := xm hbox; have n0_ := xm (HG.out.step hb); replace hx0 := (hb.cell (World.block_lt_of_cell? _ _ hx0)).trans hx0; replace hx1 := (hb.cell (World.block_lt_of_cell? _ _ hx1)).trans hx1; replace hx2 := (hb.cell (World.block_lt_of_cell? _ _ hx2)).trans hx2; clear HG hb hbox hg hg6; revert n0_; intro HG; obtain ⟨hc6_0, hc6_1, hc6_2, hf6_0, hf6_1, hf6_2⟩ := cz3 BK6.out)
       | ((with_reducible refine gate_store (t := 45) (p := 6) rfl ?_); refine store_event (t := 45) (p := 6) (v := ?vo6) (w1 := (((w8.setCell ⟨g6, 0, none⟩ (.slice Ae (rd_T45 l0 i).f0.f0.length ce)).setCell ⟨g6, 1, none⟩ (.int .i64 (rd_T45 l0 i).f1)).setCell ⟨g6, 2, none⟩ (.int .i64 (rd_T45 l0 i).f2))) ?hg6 ?ho6 ?hn6 ?hr6 ?_; (case ho6 => rfl); (case hg6 => rfl); (case hn6 => rfl); (case hr6 => exact zB); intro w9 hw; have n0_ := xm (show w9.heap[g6]? = some (.cells #[.slice Ae (rd_T45 l0 i).f0.f0.length ce, .int .i64 (rd_T45 l0 i).f1, .int .i64 (rd_T45 l0 i).f2] 45 (0, 0)) from by rw [hw]; refine blk_put (cs := #[.slice Ae (rd_T45 l0 i).f0.f0.length ce, .int .i64 (rd_T45 l0 i).f1, .int .i64 0]) ?_ 2 _ rfl; refine blk_put (cs := #[.slice Ae (rd_T45 l0 i).f0.f0.length ce, .int .i64 0, .int .i64 0]) ?_ 1 _ rfl; refine blk_put (cs := #[.slice none 0 0, .int .i64 0, .int .i64 0]) ?_ 0 _ rfl; exact BK6.out); have n1_ := xm (show GatAt w w9 g2 g4 c vo out from by rw [hw]; exact ((HG.out.box BK6.out GE6.out NE2.out NE4.out 0 _).box (blk_put (cs := #[.slice none 0 0, .int .i64 0, .int .i64 0]) BK6.out 0 _ rfl) GE6.out NE2.out NE4.out 1 _).box (blk_put (cs := #[.slice Ae (rd_T45 l0 i).f0.f0.length ce, .int .i64 0, .int .i64 0]) (blk_put (cs := #[.slice none 0 0, .int .i64 0, .int .i64 0]) BK6.out 0 _ rfl) 1 _ rfl) GE6.out NE2.out NE4.out 2 _); clear BK6 HG hw hx0 hx1 hx2 hc6_0 hc6_1 hc6_2 hf6_0 hf6_1 hf6_2; revert n0_ n1_; intro BK6 HG; obtain ⟨hc6_0, hc6_1, hc6_2, hf6_0, hf6_1, hf6_2⟩ := cz3 BK6.out; obtain ⟨hc2_0, hc2_1, hf2_0, hf2_1⟩ := cz2 HG.out.2.2.1)
       | (go_at_call 19; (with_reducible refine (impl_isCell.calls (rd_T45 l0 i).f1 _ _ T1.out).mono ?_); rintro e w10 ⟨rfl, hd⟩; have hb := hd.below; clear hd; have n0_ := xm (blk_below BK6.out hb); have n1_ := xm (HG.out.step hb); clear BK6 HG hb; revert n0_ n1_; intro BK6 HG; clear hc6_0 hc6_1 hc6_2 hf6_0 hf6_1 hf6_2 hc2_0 hc2_1 hf2_0 hf2_1; obtain ⟨hc6_0, hc6_1, hc6_2, hf6_0, hf6_1, hf6_2⟩ := cz3 BK6.out; obtain ⟨hc2_0, hc2_1, hf2_0, hf2_1⟩ := cz2 HG.out.2.2.1))
      refine bodyPost_ret (results_ct rfl _ _ g2 26 #[.int .i64 0, .slice none 0 0] (0, 0) _ rfl (by (with_reducible repeat (first | refine xq ?_ _ | refine xr ?_ | refine xo ?_ _)); refine blk_put (cs := #[.int .i64 0, .slice none 0 0]) ?_ 1 _ rfl; (with_reducible repeat (first | refine xq ?_ _ | refine xr ?_ | refine xo ?_ _)); refine blk_put (cs := #[.int .i64 0, .slice none 0 0]) ?_ 0 _ rfl; (with_reducible repeat (first | refine xq ?_ _ | refine xr ?_ | refine xo ?_ _)); exact HG.out.2.2.1) Try.underlying26 rfl (by kernel_rfl)) rfl ?_
      exact ⟨_, by first | rfl | (simp [errW_none, errW_some] <;> rfl) | (simp [*, errW_none, errW_some] <;> rfl), Kd.S_nil _ _ _ _ _, by repeat (first | (with_reducible first | exact HG.out.1 | apply xa | apply xn | apply xd | refine xt ?_ GE2.out) | exact HG.out.1)⟩
     | true =>
      rw [if_pos rfl] at H
      obtain ⟨t2, t2h, H⟩ := Option.bind_eq_some_iff.mp H
      have T2 := xm t2h
      clear t2h
      cases t2 with
      | false =>
       rw [if_neg (by simp)] at H
       simp only [Option.some.injEq, Prod.mk.injEq] at H
       obtain ⟨rfl, rfl, rfl⟩ := H
       go_wp2_with (first
        | ((with_reducible refine gate_dst (N := 6) rfl ?_); refine box_event ?hg (N := 6) ?hd (cs := #[.slice none 0 0, .int .i64 0, .int .i64 0]) (t := 45) ?hr ?_; (case hd => rfl); (case hg => rfl); (case hr => exact zB); intro g6 hg w8 hbox hb; have hg6 : w.heap.size ≤ g6 := (by rw [hg]; exact xz HG.out.1); have NE2 := xm (show g2 ≠ g6 from by rw [hg]; exact Nat.ne_of_lt (blk_lt HG.out.2.2.1)); have NE4 := xm (show g4 ≠ g6 from by rw [hg]; exact Nat.ne_of_lt (blk_lt HG.out.2.2.2.1)); have GE6 := xm hg6; have BK6 := xm hbox; have n0_ := xm (HG.out.step hb); replace hx0 := (hb.cell (World.block_lt_of_cell? _ _ hx0)).trans hx0; replace hx1 := (hb.cell (World.block_lt_of_cell? _ _ hx1)).trans hx1; replace hx2 := (hb.cell (World.block_lt_of_cell? _ _ hx2)).trans hx2; clear HG hb hbox hg hg6; revert n0_; intro HG; obtain ⟨hc6_0, hc6_1, hc6_2, hf6_0, hf6_1, hf6_2⟩ := cz3 BK6.out)
        | ((with_reducible refine gate_store (t := 45) (p := 6) rfl ?_); refine store_event (t := 45) (p := 6) (v := ?vo6) (w1 := (((w8.setCell ⟨g6, 0, none⟩ (.slice Ae (rd_T45 l0 i).f0.f0.length ce)).setCell ⟨g6, 1, none⟩ (.int .i64 (rd_T45 l0 i).f1)).setCell ⟨g6, 2, none⟩ (.int .i64 (rd_T45 l0 i).f2))) ?hg6 ?ho6 ?hn6 ?hr6 ?_; (case ho6 => rfl); (case hg6 => rfl); (case hn6 => rfl); (case hr6 => exact zB); intro w9 hw; have n0_ := xm (show w9.heap[g6]? = some (.cells #[.slice Ae (rd_T45 l0 i).f0.f0.length ce, .int .i64 (rd_T45 l0 i).f1, .int .i64 (rd_T45 l0 i).f2] 45 (0, 0)) from by rw [hw]; refine blk_put (cs := #[.slice Ae (rd_T45 l0 i).f0.f0.length ce, .int .i64 (rd_T45 l0 i).f1, .int .i64 0]) ?_ 2 _ rfl; refine blk_put (cs := #[.slice Ae (rd_T45 l0 i).f0.f0.length ce, .int .i64 0, .int .i64 0]) ?_ 1 _ rfl; refine blk_put (cs := #[.slice none 0 0, .int .i64 0, .int .i64 0]) ?_ 0 _ rfl; exact BK6.out); have n1_ := xm (show GatAt w w9 g2 g4 c vo out from by rw [hw]; exact ((HG.out.box BK6.out GE6.out NE2.out NE4.out 0 _).box (blk_put (cs := #[.slice none 0 0, .int .i64 0, .int .i64 0]) BK6.out 0 _ rfl) GE6.out NE2.out NE4.out 1 _).box (blk_put (cs := #[.slice Ae (rd_T45 l0 i).f0.f0.length ce, .int .i64 0, .int .i64 0]) (blk_put (cs := #[.slice none 0 0, .int .i64 0, .int .i64 0]) BK6.out 0 _ rfl) 1 _ rfl) GE6.out NE2.out NE4.out 2 _); clear BK6 HG hw hx0 hx1 hx2 hc6_0 hc6_1 hc6_2 hf6_0 hf6_1 hf6_2; revert n0_ n1_; intro BK6 HG; obtain ⟨hc6_0, hc6_1, hc6_2, hf6_0, hf6_1, hf6_2⟩ := cz3 BK6.out; obtain ⟨hc2_0, hc2_1, hf2_0, hf2_1⟩ := cz2 HG.out.2.2.1)
        | (go_at_call 19; (with_reducible refine (impl_isCell.calls (rd_T45 l0 i).f1 _ _ T1.out).mono ?_); rintro e w10 ⟨rfl, hd⟩; have hb := hd.below; clear hd; have n0_ := xm (blk_below BK6.out hb); have n1_ := xm (HG.out.step hb); clear BK6 HG hb; revert n0_ n1_; intro BK6 HG; clear hc6_0 hc6_1 hc6_2 hf6_0 hf6_1 hf6_2 hc2_0 hc2_1 hf2_0 hf2_1; obtain ⟨hc6_0, hc6_1, hc6_2, hf6_0, hf6_1, hf6_2⟩ := cz3 BK6.out; obtain ⟨hc2_0, hc2_1, hf2_0, hf2_1⟩ := cz2 HG.out.2.2.1)
        | (go_at_call 19; (with_reducible refine (impl_isCell.calls (rd_T45 l0 i).f2 _ _ T2.out).mono ?_); rintro e w11 ⟨rfl, hd⟩; have hb := hd.below; clear hd; have n0_ := xm (blk_below BK6.out hb); have n1_ := xm (HG.out.step hb); clear BK6 HG hb; revert n0_ n1_; intro BK6 HG; clear hc6_0 hc6_1 hc6_2 hf6_0 hf6_1 hf6_2 hc2_0 hc2_1 hf2_0 hf2_1; obtain ⟨hc6_0, hc6_1, hc6_2, hf6_0, hf6_1, hf6_2⟩ := cz3 BK6.out; obtain ⟨hc2_0, hc2_1, hf2_0, hf2_1⟩ := cz2 HG.out.2.2.1))
       refine bodyPost_ret (results_ct rfl _ _ g2 26 #[.int .i64 0, .slice none 0 0] (0, 0) _ rfl (by (with_reducible repeat (first | refine xq ?_ _ | refine xr ?_ | refine xo ?_ _)); refine blk_put (cs := #[.int .i64 0, .slice none 0 0]) ?_ 1 _ rfl; (with_reducible repeat (first | refine xq ?_ _ | refine xr ?_ | refine xo ?_ _)); refine blk_put (cs := #[.int .i64 0, .slice none 0 0]) ?_ 0 _ rfl; (with_reducible repeat (first | refine xq ?_ _ | refine xr ?_ | refine xo ?_ _)); exact HG.out.2.2.1) Try.underlying26 rfl (by kernel_rfl)) rfl ?_
       exact ⟨_, by first | rfl | (simp [errW_none, errW_some] <;> rfl) | (simp [*, errW_none, errW_some] <;> rfl), Kd.S_nil _ _ _ _ _, by repeat (first | (with_reducible first | exact HG.out.1 | apply xa | apply xn | apply xd | refine xt ?_ GE2.out) | exact HG.out.1)⟩
      | true =>
       rw [if_pos rfl] at H
       obtain ⟨n2, n2h, H⟩ := Option.bind_eq_some_iff.mp H
       have N2 := xm n2h
       clear n2h
       obtain ⟨y, yh, H⟩ := Option.bind_eq_some_iff.mp H
       have Y0 := xm yh
       clear yh
       by_cases c12 : out.length < 4398046511104
       case neg => rw [if_neg c12] at H; cases H
       rw [if_pos c12] at H
       have C12 := xm c12
       clear c12
       obtain ⟨cn, hcn⟩ : ∃ cn : Int, wrap64 (n2 + 2) = cn := ⟨_, rfl⟩
       rw [hcn] at H
       have hcw : IntKind.i64.wrap (n2 + 2) = cn := (i64_w _).trans hcn
       have H' := xm H
       clear H
       obtain ⟨Av, cv, rfl⟩ := Kd.S_slice HG.out.2.2.2.2
       go_wp2_with (first
        | ((with_reducible refine gate_dst (N := 6) rfl ?_); refine box_event ?hg (N := 6) ?hd (cs := #[.slice none 0 0, .int .i64 0, .int .i64 0]) (t := 45) ?hr ?_; (case hd => rfl); (case hg => rfl); (case hr => exact zB); intro g6 hg w8 hbox hb; have hg6 : w.heap.size ≤ g6 := (by rw [hg]; exact xz HG.out.1); have NE2 := xm (show g2 ≠ g6 from by rw [hg]; exact Nat.ne_of_lt (blk_lt HG.out.2.2.1)); have NE4 := xm (show g4 ≠ g6 from by rw [hg]; exact Nat.ne_of_lt (blk_lt HG.out.2.2.2.1)); have GE6 := xm hg6; have BK6 := xm hbox; have n0_ := xm (HG.out.step hb); replace hx0 := (hb.cell (World.block_lt_of_cell? _ _ hx0)).trans hx0; replace hx1 := (hb.cell (World.block_lt_of_cell? _ _ hx1)).trans hx1; replace hx2 := (hb.cell (World.block_lt_of_cell? _ _ hx2)).trans hx2; clear HG hb hbox hg hg6; revert n0_; intro HG; obtain ⟨hc6_0, hc6_1, hc6_2, hf6_0, hf6_1, hf6_2⟩ := cz3 BK6.out)
        | ((with_reducible refine gate_store (t := 45) (p := 6) rfl ?_); refine store_event (t := 45) (p := 6) (v := ?vo6) (w1 := (((w8.setCell ⟨g6, 0, none⟩ (.slice Ae (rd_T45 l0 i).f0.f0.length ce)).setCell ⟨g6, 1, none⟩ (.int .i64 (rd_T45 l0 i).f1)).setCell ⟨g6, 2, none⟩ (.int .i64 (rd_T45 l0 i).f2))) ?hg6 ?ho6 ?hn6 ?hr6 ?_; (case ho6 => rfl); (case hg6 => rfl); (case hn6 => rfl); (case hr6 => exact zB); intro w9 hw; have n0_ := xm (show w9.heap[g6]? = some (.cells #[.slice Ae (rd_T45 l0 i).f0.f0.length ce, .int .i64 (rd_T45 l0 i).f1, .int .i64 (rd_T45 l0 i).f2] 45 (0, 0)) from by rw [hw]; refine blk_put (cs := #[.slice Ae (rd_T45 l0 i).f0.f0.length ce, .int .i64 (rd_T45 l0 i).f1, .int .i64 0]) ?_ 2 _ rfl; refine blk_put (cs := #[.slice Ae (rd_T45 l0 i).f0.f0.length ce, .int .i64 0, .int .i64 0]) ?_ 1 _ rfl; refine blk_put (cs := #[.slice none 0 0, .int .i64 0, .int .i64 0]) ?_ 0 _ rfl; exact BK6.out); have n1_ := xm (show GatAt w w9 g2 g4 c (.slice Av out.length cv) out from by rw [hw]; exact ((HG.out.box BK6.out GE6.out NE2.out NE4.out 0 _).box (blk_put (cs := #[.slice none 0 0, .int .i64 0, .int .i64 0]) BK6.out 0 _ rfl) GE6.out NE2.out NE4.out 1 _).box (blk_put (cs := #[.slice Ae (rd_T45 l0 i).f0.f0.length ce, .int .i64 0, .int .i64 0]) (blk_put (cs := #[.slice none 0 0, .int .i64 0, .int .i64 0]) BK6.out 0 _ rfl) 1 _ rfl) GE6.out NE2.out NE4.out 2 _); clear BK6 HG hw hx0 hx1 hx2 hc6_0 hc6_1 hc6_2 hf6_0 hf6_1 hf6_2; revert n0_ n1_; intro BK6 HG; obtain ⟨hc6_0, hc6_1, hc6_2, hf6_0, hf6_1, hf6_2⟩ := cz3 BK6.out; obtain ⟨hc2_0, hc2_1, hf2_0, hf2_1⟩ := cz2 HG.out.2.2.1)
        | (go_at_call 19; (with_reducible refine (impl_isCell.calls (rd_T45 l0 i).f1 _ _ T1.out).mono ?_); rintro e w10 ⟨rfl, hd⟩; have hb := hd.below; clear hd; have n0_ := xm (blk_below BK6.out hb); have n1_ := xm (HG.out.step hb); clear BK6 HG hb; revert n0_ n1_; intro BK6 HG; clear hc6_0 hc6_1 hc6_2 hf6_0 hf6_1 hf6_2 hc2_0 hc2_1 hf2_0 hf2_1; obtain ⟨hc6_0, hc6_1, hc6_2, hf6_0, hf6_1, hf6_2⟩ := cz3 BK6.out; obtain ⟨hc2_0, hc2_1, hf2_0, hf2_1⟩ := cz2 HG.out.2.2.1)
        | (go_at_call 19; (with_reducible refine (impl_isCell.calls (rd_T45 l0 i).f2 _ _ T2.out).mono ?_); rintro e w11 ⟨rfl, hd⟩; have hb := hd.below; clear hd; have n0_ := xm (blk_below BK6.out hb); have n1_ := xm (HG.out.step hb); clear BK6 HG hb; revert n0_ n1_; intro BK6 HG; clear hc6_0 hc6_1 hc6_2 hf6_0 hf6_1 hf6_2 hc2_0 hc2_1 hf2_0 hf2_1; obtain ⟨hc6_0, hc6_1, hc6_2, hf6_0, hf6_1, hf6_2⟩ := cz3 BK6.out; obtain ⟨hc2_0, hc2_1, hf2_0, hf2_1⟩ := cz2 HG.out.2.2.1)
        | (go_at_call 18; refine (impl_keyLength.calls _ _ l0 n2 _ (Kd.C_below HR0.out HG.out.1) HC0.out N2.out).mono ?_; rintro e w12 ⟨rfl, hd⟩; have hb := hd.below; clear hd; have n0_ := xm (blk_below BK6.out hb); have n1_ := xm (HG.out.step hb); clear BK6 HG hb; revert n0_ n1_; intro BK6 HG; clear hc6_0 hc6_1 hc6_2 hf6_0 hf6_1 hf6_2 hc2_0 hc2_1 hf2_0 hf2_1; obtain ⟨hc6_0, hc6_1, hc6_2, hf6_0, hf6_1, hf6_2⟩ := cz3 BK6.out; obtain ⟨hc2_0, hc2_1, hf2_0, hf2_1⟩ := cz2 HG.out.2.2.1; obtain ⟨hc4_0, hc4_1, hf4_0, hf4_1⟩ := cz2 HG.out.2.2.2.1)
        | ((with_reducible refine gate_store (t := 3) (p := 36) rfl ?_); refine store_event (t := 3) (p := 36) (v := ?vo36) (w1 := (w12.setCell ⟨g4, 0, none⟩ (.int .i64 cn))) ?hg36 ?ho36 ?hn36 ?hr36 ?_; (case ho36 => rfl); (case hg36 => rfl); (case hn36 => rfl); (case hr36 => exact zB); intro w13 hw; have n0_ := xm (show w13.heap[g6]? = some (.cells #[.slice Ae (rd_T45 l0 i).f0.f0.length ce, .int .i64 (rd_T45 l0 i).f1, .int .i64 (rd_T45 l0 i).f2] 45 (0, 0)) from by rw [hw]; exact blk_far BK6.out (Ne.symm NE4.out) _); have n1_ := xm (show GatAt w w13 g2 g4 cn (.slice Av out.length cv) out from by rw [hw]; exact HG.out.col _); clear BK6 HG hw hc4_0 hc4_1 hf4_0 hf4_1; revert n0_ n1_; intro BK6 HG; clear hc6_0 hc6_1 hc6_2 hf6_0 hf6_1 hf6_2 hc2_0 hc2_1 hf2_0 hf2_1; obtain ⟨hc6_0, hc6_1, hc6_2, hf6_0, hf6_1, hf6_2⟩ := cz3 BK6.out; obtain ⟨hc2_0, hc2_1, hf2_0, hf2_1⟩ := cz2 HG.out.2.2.1))
       clear hcw hcn
       (try clear hc6_0)
       (try clear hc6_1)
       (try clear hc6_2)
       (try clear hf6_0)
       (try clear hf6_1)
       (try clear hf6_2)
       (try clear hc2_0)
       (try clear hc2_1)
       (try clear hf2_0)
       (try clear hf2_1)
       have n0_ := xm (xr BK6.out)
       have n1_ := xm (HG.out.step (xd (Below.refl _ _)))
       clear BK6 HG
       revert n0_ n1_; intro BK6 HG
       refine start_ (n := 18) (S := fun w' => w'.cell? ⟨g4, 0, none⟩ = some (.int .i64 cn) ∧ w'.cell? ⟨g4, 1, none⟩ = some (.slice Av out.length cv) ∧ w'.cell? ⟨g6, 0, none⟩ = some (.slice Ae (rd_T45 l0 i).f0.f0.length ce) ∧ w'.cell? ⟨g6, 1, none⟩ = some (.int .i64 (rd_T45 l0 i).f1) ∧ w'.cell? ⟨g6, 2, none⟩ = some (.int .i64 (rd_T45 l0 i).f2)) (ds := [17]) #[Z,Z,Z,Z,Z,Z,Z,Z,Z,Z,Z,Z,Z,Z,Z,Z,Z,Z] (by kernel_rfl) rfl rfl ⟨(xc HG.out.2.2.2.1 0).trans rfl, (xc HG.out.2.2.2.1 1).trans rfl, (xc BK6.out 0).trans rfl, (xc BK6.out 1).trans rfl, (xc BK6.out 2).trans rfl⟩ (fun hHeld => ?_)
       generalize w13.drew = w14 at BK6 HG hHeld ⊢
       refine px 0 18 1 (by kernel_rfl) ?_
       refine tx 1 18 3 rfl rfl (by kernel_rfl) hHeld (by rintro w' ⟨s0, s1, s2, s3, s4⟩; go_simp; with_reducible rfl) ?_
       refine px 2 18 7 (by kernel_rfl) ?_
       refine px 3 18 15 (by kernel_rfl) ?_
       refine tx 4 18 31 rfl rfl (by kernel_rfl) hHeld (by rintro w' ⟨s0, s1, s2, s3, s4⟩; go_simp; with_reducible rfl) ?_
       refine px 5 18 63 (by kernel_rfl) ?_
       refine tx 6 18 127 rfl rfl (by kernel_rfl) hHeld (by rintro w' ⟨s0, s1, s2, s3, s4⟩; go_simp; with_reducible rfl) ?_
       refine px 7 18 255 (by kernel_rfl) ?_
       refine tx 8 18 511 rfl rfl (by kernel_rfl) hHeld (by rintro w' ⟨s0, s1, s2, s3, s4⟩; go_simp; with_reducible rfl) ?_
       refine one_ (i := 9) (N := some 46) #[Y,Y,Y,Y,Y,Y,Y,Y,Y,Y,Z,Z,Z,Z,Z,Z,Z,Z] rfl rfl (by kernel_rfl) (by decide) (fun K hK => ?_)
       refine Kd.R_lit_step (w0 := w14) (Kd.int .i64) _ 3 ?hg (N := 46) ?hd (xs := ([(rd_T45 l0 i).f1, (rd_T45 l0 i).f2] : List Int)) (inner := [.int .i64 (rd_T45 l0 i).f1, .int .i64 (rd_T45 l0 i).f2]) (ok := fun _ => True) (okp := fun _ => True) ?hr ?hp (fun _ hk => hk) trivial (Below.refl _ _) (Nat.le_refl _) (by simp) ?_; (case hd => rfl); (case hg => rfl); (case hr => exact zB); (case hp => exact (Reps.one (show Kd.M (Kd.int .i64) _ _ _ (rd_T45 l0 i).f1 [.int .i64 (rd_T45 l0 i).f1] from rfl) (Reps.one (show Kd.M (Kd.int .i64) _ _ _ (rd_T45 l0 i).f2 [.int .i64 (rd_T45 l0 i).f2] from rfl) (Reps.none _ _))))
       intro vl w15 ho hb hg_ hnew_
       clear hg_ hnew_
       obtain ⟨Al, cl, rfl⟩ := Kd.R_slice ho
       have HL := xm ho
       have n0_ := xm (blk_below BK6.out hb)
       have n1_ := xm (HG.out.step hb)
       clear BK6 HG hb ho
       revert n0_ n1_; intro BK6 HG
       refine hK.out _ _ ⟨(xc HG.out.2.2.2.1 0).trans rfl, (xc HG.out.2.2.2.1 1).trans rfl, (xc BK6.out 0).trans rfl, (xc BK6.out 1).trans rfl, (xc BK6.out 2).trans rfl⟩ (fun hHeld => nC ?_)
       clear hK K
       refine one_ (i := 10) (N := some 47) #[Y,Y,Y,Y,Y,Y,Y,Y,Y,Y,Y,Z,Z,Z,Z,Z,Z,Z] rfl rfl (by kernel_rfl) (by decide) (fun K hK => ?_)
       refine value_ (v := .slice (some ⟨w15.heap.size, 0, none⟩) 2 2) (w1 := w15.alloc (.cells #[.slice Ae (rd_T45 l0 i).f0.f0.length ce, .slice Al ([(rd_T45 l0 i).f1, (rd_T45 l0 i).f2] : List Int).length cl] 37)) (by rfl) rfl zB ?_
       have HT := xm (Gat.two (c0 := ce) (c1 := cl) (Kd.C_below HRe.out HG.out.1) HCe.out (Kd.R_reads' HL.out).2.2 (Kd.R_reads' HL.out).2.1)
       have hb : Below w15.heap.size w15 (w15.alloc (.cells #[.slice Ae (rd_T45 l0 i).f0.f0.length ce, .slice Al ([(rd_T45 l0 i).f1, (rd_T45 l0 i).f2] : List Int).length cl] 37)) := xa (Below.refl _ _) _
       have n0_ := xm (blk_below BK6.out hb)
       have n1_ := xm (HG.out.step hb)
       clear BK6 HG hb HL
       revert n0_ n1_; intro BK6 HG
       generalize w15.alloc (.cells #[.slice Ae (rd_T45 l0 i).f0.f0.length ce, .slice Al ([(rd_T45 l0 i).f1, (rd_T45 l0 i).f2] : List Int).length cl] 37) = w16 at HT BK6 HG ⊢
       refine hK.out _ _ ⟨(xc HG.out.2.2.2.1 0).trans rfl, (xc HG.out.2.2.2.1 1).trans rfl, (xc BK6.out 0).trans rfl, (xc BK6.out 1).trans rfl, (xc BK6.out 2).trans rfl⟩ (fun hHeld => nC ?_)
       clear hK K
       refine one_ (i := 11) (N := some 48) #[Y,Y,Y,Y,Y,Y,Y,Y,Y,Y,Y,Y,Z,Z,Z,Z,Z,Z] rfl rfl (by kernel_rfl) (by decide) (fun K hK => ?_)
       refine goes_ Try.func20 (by kernel_rfl) rfl #[.slice (some ⟨w15.heap.size, 0, none⟩) ([(rd_T45 l0 i).f0.f0, [(rd_T45 l0 i).f1, (rd_T45 l0 i).f2]] : List (List Int)).length 2] (by rfl) rfl rfl mB ?_
       have hle2 : ([(rd_T45 l0 i).f0.f0, [(rd_T45 l0 i).f1, (rd_T45 l0 i).f2]] : List (List Int)).length ≤ 2 := Nat.le_refl 2
       with_reducible refine (slices_Concat_Lint_int.calls k1 (some ⟨w15.heap.size, 0, none⟩) 2 [(rd_T45 l0 i).f0.f0, [(rd_T45 l0 i).f1, (rd_T45 l0 i).f2]] y _ HT.out hle2 Y0.out).mono ?_
       rintro e w17 ⟨vy, rfl, ho, hb⟩
       refine ⟨_, rfl, ?_⟩
       have HY := xm (Kd.R_lower (base' := w.heap.size) (Kd.R_new' ho (Kd.S_lt HG.out.2.2.2.2)) (xz HG.out.1))
       have HS := xm (Kd.S_elder' HG.out.2.2.2.2 (Kd.R_base ho) hb)
       have n0_ := xm (blk_below BK6.out hb)
       have n1_ := xm (HG.out.step hb)
       clear BK6 HG hb ho HT
       revert n0_ n1_; intro BK6 HG
       obtain ⟨Ay, cy, rfl⟩ := Kd.R_slice HY.out
       refine hK.out _ _ ⟨(xc HG.out.2.2.2.1 0).trans rfl, (xc HG.out.2.2.2.1 1).trans rfl, (xc BK6.out 0).trans rfl, (xc BK6.out 1).trans rfl, (xc BK6.out 2).trans rfl⟩ (fun hHeld => nC ?_)
       clear hK K
       refine px 12 18 8191 (by kernel_rfl) ?_
       refine px 13 18 16383 (by kernel_rfl) ?_
       refine one_ (i := 14) (N := some 51) #[Y,Y,Y,Y,Y,Y,Y,Y,Y,Y,Y,Y,Y,Y,Y,Z,Z,Z] rfl rfl (by kernel_rfl) (by decide) (fun K hK => ?_)
       refine value_ (v := .slice (some ⟨w17.heap.size, 0, none⟩) 1 1) (w1 := w17.alloc (.cells #[.slice Ay y.length cy, .int .i64 1] 47)) (by rfl) rfl zB ?_
       refine hK.out _ _ ⟨(pw_cell_below (xa (Below.refl _ _) _) ((xc HG.out.2.2.2.1 0).trans rfl)), (pw_cell_below (xa (Below.refl _ _) _) ((xc HG.out.2.2.2.1 1).trans rfl)), (pw_cell_below (xa (Below.refl _ _) _) ((xc BK6.out 0).trans rfl)), (pw_cell_below (xa (Below.refl _ _) _) ((xc BK6.out 1).trans rfl)), (pw_cell_below (xa (Below.refl _ _) _) ((xc BK6.out 2).trans rfl))⟩ (fun hHeld => nC ?_)
       clear hK K
       refine one_ (i := 15) (N := some 52) #[Y,Y,Y,Y,Y,Y,Y,Y,Y,Y,Y,Y,Y,Y,Y,Y,Z,Z] rfl rfl (by kernel_rfl) (by decide) (fun K hK => ?_)
       refine Kd.S_append_step k47 (w0 := w) w.heap.size (by rfl) (.tmp 38) (.tmp 51) 24 47 (.agg #[(.slice none 0 0), (.int .i64 0)]) 32 rfl Try.underlying24 info47 rfl (by decide) (by omega) (.slice Av out.length cv) out (⟨(⟨y⟩ : S43), 1⟩ : S47) [.slice Ay y.length cy, .int .i64 1] (fun _ => True) (fun k_ => some k_ = (.slice Ay y.length cy : Value).ownBlock) rfl rfl (k47_mkM _ _ _ (⟨(⟨y⟩ : S43), 1⟩ : S47) (Kd.R_mono (Kd.R_tight rfl HY.out) (fun _ h_ => h_))) (fun k_ hk_ => ⟨trivial, (HY.out.1 k_ hk_.symm).2⟩) (fun _ _ => trivial) (Kd.S_mono HS.out (fun k_ hk_ => ⟨trivial, hk_.2⟩)) HG.out.1 (xz HG.out.1) (by have := C12.out; omega) ?_
       intro v1 w18 ho hb hg hat
       clear hat
       obtain ⟨Av1, cv1, e1⟩ := Kd.S_slice ho
       subst e1
       have b4 := blk_grown HG.out.2.2.2.1 hg (Kd.S_ne HG.out.2.2.2.2 HG.out.2.2.2.1 (by decide))
       have b6 := blk_grown BK6.out hg (Kd.S_ne HG.out.2.2.2.2 BK6.out (by decide))
       have HG2 := xm (HG.out.row ho hb hg)
       have BK4 := xm b4
       have BK6b := xm b6
       clear BK6 HG HS HY ho hb hg b4 b6
       refine hK.out _ _ ⟨(xc BK4.out 0).trans rfl, (xc BK4.out 1).trans rfl, (xc BK6b.out 0).trans rfl, (xc BK6b.out 1).trans rfl, (xc BK6b.out 2).trans rfl⟩ (fun hHeld => nC ?_)
       clear hK K
       refine px 16 18 131071 (by kernel_rfl) ?_
       refine last_ (i := 17) (N := none) #[Y,Y,Y,Y,Y,Y,Y,Y,Y,Y,Y,Y,Y,Y,Y,Y,Y,Y] rfl rfl (by kernel_rfl) (by decide) (fun K hK => ?_)
       obtain ⟨hc4_0, hc4_1, hf4_0, hf4_1⟩ := cz2 BK4.out
       refine skip_ (w1 := w18.setCell ⟨g4, 1, none⟩ (.slice Av1 (out ++ [(⟨(⟨y⟩ : S43), 1⟩ : S47)]).length cv1)) (by rfl) rfl zB ?_
       refine hK.out _ _ ?_
       clear hK K hHeld hc4_0 hc4_1 hf4_0 hf4_1 BK4 BK6b
       refine done_ (by kernel_rfl) ?_
       generalize w18.setCell ⟨g4, 1, none⟩ (.slice Av1 (out ++ [(⟨(⟨y⟩ : S43), 1⟩ : S47)]).length cv1) = w19 at HG2 ⊢
       go_wp2
       go_roundg k1
       case measure => have := HK1.out; omega
       case rel => exact ⟨wrap64 (i + 1), cn, out ++ [(⟨(⟨y⟩ : S43), 1⟩ : S47)], (.slice Av1 (out ++ [(⟨(⟨y⟩ : S43), 1⟩ : S47)]).length cv1), (by first | rfl | (simp; done) | (simp [*]; done)), H', ⟨by have := HK1.out; omega⟩, HG2⟩

end Go.Proofs.Ytaddemalepndfaa.G
