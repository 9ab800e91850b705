/- Written by a program of this claim's own, out of the translation: functions of the program as plain functions, and that the calls answer as these. No conditions. -/
import Derived.Test.YtpbpglbldgpckaaG0
import Derived.Test.YtpbpglbldgpckaaG6
import Derived.Test.YtpbpglbldgpckaaG23
namespace Go.Proofs.Ytpbpglbldgpckaa.G
open Go.RowKit Go.Proofs.Ytpbpglbldgpckaa.X Go.Proofs.YtpbpglbldgpckaaW.PrintWords Go.Proofs.YtpbpglbldgpckaaW.PrintLast Go.Proofs.YtpbpglbldgpckaaW.PrintMore
attribute [local go_sem] max2_int min2_int max_two min_two max_three min_three max_four min_four   -- for this text's walks alone
set_option linter.unusedVariables false
set_option linter.unusedSimpArgs false

/-! ### spec_SlideOver: function 39 -/
mutual
def spec_SlideOver.j0 : Nat → List (S51) → Int → Bool → Option ((List (S51)) × Bool)
 | 0, _, _, _ => none
 | k + 1, x0, x1, x17 => if x17 = true then (some (([] : List (S51)), false)) else (spec_SlideOver.l0 k x0 x1 ([] : List (S51)) x0 (x0.length : Int) 0)
def spec_SlideOver.l0 : Nat → List (S51) → Int → List (S51) → List (S51) → Int → Int → Option ((List (S51)) × Bool)
 | 0, _, _, _, _, _, _ => none
 | k + 1, x0, x1, x6, x18, x19, x20 => if x20 < x19 then (if 0 ≤ x20 then (if x20 < (x18.length : Int) then ((spec_GoodMap.f ((rd_T51 x18 x20).f0) ((rd_T51 x18 x20).f1)).bind fun t413 => (if t413 = true then (if (wrap64 ((wrap64 (x20 + 1)) - x1)) < 0 then (if 0 ≤ (wrap64 (x20 + 1)) then (if (wrap64 (x20 + 1)) ≤ (x0.length : Int) then ((spec_l17All.f k ((x0.take ((wrap64 (x20 + 1)) : Int).toNat).drop 0)).bind fun bt418 => (if x6.length < 8796093022208 then (spec_SlideOver.l0 k x0 x1 (x6 ++ [(⟨bt418.1, bt418.2⟩ : S51)]) x18 x19 (wrap64 (x20 + 1))) else (none))) else (none)) else (none)) else (if 0 ≤ (wrap64 ((wrap64 (x20 + 1)) - x1)) then (if (wrap64 ((wrap64 (x20 + 1)) - x1)) ≤ (wrap64 (x20 + 1)) then (if (wrap64 (x20 + 1)) ≤ (x0.length : Int) then ((spec_l17All.f k ((x0.take ((wrap64 (x20 + 1)) : Int).toNat).drop ((wrap64 ((wrap64 (x20 + 1)) - x1)) : Int).toNat)).bind fun bt427 => (if x6.length < 8796093022208 then (spec_SlideOver.l0 k x0 x1 (x6 ++ [(⟨bt427.1, bt427.2⟩ : S51)]) x18 x19 (wrap64 (x20 + 1))) else (none))) else (none)) else (none)) else (none))) else (some (([] : List (S51)), false)))) else (none)) else (none)) else (some (x6, true))
end
def spec_SlideOver.f (k : Nat) (l0 : List (S51)) (a1 : Int) : Option ((List (S51)) × Bool) := if (l0.length : Int) > 100 then (spec_SlideOver.j0 k l0 a1 true) else ((spec_l1In.f a1 1 60).bind fun t410 => (spec_SlideOver.j0 k l0 a1 (!t410)))
theorem spec_SlideOver.mono_l : ∀ k, (∀ y0 y1 y2, LeO (spec_SlideOver.j0 k y0 y1 y2) (spec_SlideOver.j0 (k + 1) y0 y1 y2)) ∧ (∀ y0 y1 y2 y3 y4 y5, LeO (spec_SlideOver.l0 k y0 y1 y2 y3 y4 y5) (spec_SlideOver.l0 (k + 1) y0 y1 y2 y3 y4 y5))
 | 0 => ⟨fun _ _ _ r h => by simp [spec_SlideOver.j0] at h, fun _ _ _ _ _ _ r h => by simp [spec_SlideOver.l0] at h⟩
 | k + 1 => by
  obtain ⟨ih0, ih1⟩ := spec_SlideOver.mono_l k
  refine ⟨?_, ?_⟩
  ·intro y0 y1 y2
   unfold spec_SlideOver.j0
   repeat' first
   | (with_reducible exact ih0 _ _ _)
   | (with_reducible exact ih1 _ _ _ _ _ _)
   | (with_reducible exact spec_l17All.mono _ _)
   | (with_reducible exact LeO.refl _)
   | (with_reducible exact LeO.none _)
   | (with_reducible refine LeO.ite ?_ ?_)
   | (with_reducible refine LeO.bind ?_ (fun _ => ?_))
   | exact ih0 _ _ _
   | exact ih1 _ _ _ _ _ _
   | exact spec_l17All.mono _ _
   | exact LeO.none _
   | refine LeO.ite ?_ ?_
   | refine LeO.bind ?_ (fun _ => ?_)
  ·intro y0 y1 y2 y3 y4 y5
   unfold spec_SlideOver.l0
   repeat' first
   | (with_reducible exact ih0 _ _ _)
   | (with_reducible exact ih1 _ _ _ _ _ _)
   | (with_reducible exact spec_l17All.mono _ _)
   | (with_reducible exact LeO.refl _)
   | (with_reducible exact LeO.none _)
   | (with_reducible refine LeO.ite ?_ ?_)
   | (with_reducible refine LeO.bind ?_ (fun _ => ?_))
   | exact ih0 _ _ _
   | exact ih1 _ _ _ _ _ _
   | exact spec_l17All.mono _ _
   | exact LeO.none _
   | refine LeO.ite ?_ ?_
   | refine LeO.bind ?_ (fun _ => ?_)
theorem spec_SlideOver.mono : ∀ a0 a1 k, LeO (spec_SlideOver.f k a0 a1) (spec_SlideOver.f (k + 1) a0 a1) := by
 intro a0 a1 k
 obtain ⟨ih0, ih1⟩ := spec_SlideOver.mono_l k
 unfold spec_SlideOver.f
 repeat' first
   | (with_reducible exact ih0 _ _ _)
   | (with_reducible exact ih1 _ _ _ _ _ _)
   | (with_reducible exact spec_l17All.mono _ _)
   | (with_reducible exact LeO.refl _)
   | (with_reducible exact LeO.none _)
   | (with_reducible refine LeO.ite ?_ ?_)
   | (with_reducible refine LeO.bind ?_ (fun _ => ?_))
   | exact ih0 _ _ _
   | exact ih1 _ _ _ _ _ _
   | exact spec_l17All.mono _ _
   | exact LeO.none _
   | refine LeO.ite ?_ ?_
   | refine LeO.bind ?_ (fun _ => ?_)
set_option maxHeartbeats 8000000 in
set_option maxRecDepth 100000 in
theorem spec_SlideOver.calls (k : Nat) (A0 : Option Addr) (c0 : Nat) (l0 : List (S51)) (a1 : Int) (r1 : List (S51)) (r2 : Bool) (w : World) (hr0 : Kd.C k51 w A0 l0.length l0) (hc0 : l0.length ≤ c0) (h : spec_SlideOver.f k l0 a1 = some (r1, r2)) :
  Calls Try.prog 39 #[.slice A0 l0.length c0, .int .i64 a1] w fun e w' => ∃ v0_ : Value, e = .returned (.tuple #[v0_, .bool r2]) ∧ Kd.R k51 51 w' w.heap.size (fun _ => True) v0_ r1 ∧ Below w.heap.size w w' := by
 have hu51 := Try.underlying51
 have HR0 := xm hr0
 have HC0 := xm hc0
 clear hr0 hc0
 have HB := xm (Below.refl w.heap.size w)
 have H : (if (l0.length : Int) > 100 then (spec_SlideOver.j0 k l0 a1 true) else ((spec_l1In.f a1 1 60).bind fun t410 => (spec_SlideOver.j0 k l0 a1 (!t410)))) = some (r1, r2) := h
 clear h
 have HC3 := xm H
 clear H
 go_enter Try.func39, Try.ntmps39
 go_upto_region 1 with (fail)
 go_cut [17] (fun v17 wc => ∃ (kq : Nat) (x17_2 : Bool), v17 = .bool x17_2 ∧ Aside0 (spec_SlideOver.j0 kq l0 a1 x17_2 = some (r1, r2)) ∧ Aside0 (kq ≤ k) ∧ Aside0 (Below w.heap.size w wc))
 case first =>
  have H := HC3.out
  clear HC3
  by_cases c4 : (l0.length : Int) > 100
  ·rw [if_pos c4] at H
   have c4b0 : decide (100 < (l0.length : Int)) = true := decide_eq_true c4
   have c4b1 : decide (100 < l0.length) = true := decide_eq_true (by omega)
   clear c4
   (first | rw [c4b0] | (simp only [i64_w, i32_w]; rw [c4b0]) | skip)
   have H' := xm H
   clear H
   go_wp2
   go_meet
   case rel => exact ⟨_, (true), (by first | rfl | (simp; done) | (simp [*]; done)), H', ⟨by first | omega | exact Nat.le_refl _⟩, ⟨by repeat (first | (with_reducible first | exact HB.out | apply xa | apply xn | apply xd) | exact HB.out)⟩⟩
  ·rw [if_neg c4] at H
   have c4b0 : decide (100 < (l0.length : Int)) = false := decide_eq_false c4
   have c4b1 : decide (100 < l0.length) = false := decide_eq_false (by omega)
   clear c4
   (first | rw [c4b0] | (simp only [i64_w, i32_w]; rw [c4b0]) | skip)
   replace H := Option.bind_eq_some_iff.mp H
   obtain ⟨t410, A50, H⟩ := H
   replace H : (spec_SlideOver.j0 k l0 a1 (!t410)) = some (r1, r2) := H
   have A5 := xm A50
   clear A50
   have H' := xm H
   clear H
   go_wp2_with (first | (go_at_call 102; (with_reducible refine (spec_l1In.calls a1 1 60 t410 _ A5.out).mono ?_); rintro e w' ⟨rfl, ⟨nd, rfl⟩⟩))
   go_meet
   case rel => exact ⟨_, (!t410), (by first | rfl | (simp; done) | (simp [*]; done)), H', ⟨by first | omega | exact Nat.le_refl _⟩, ⟨by repeat (first | (with_reducible first | exact HB.out | apply xa | apply xn | apply xd) | exact HB.out)⟩⟩
 case rest =>
  clear HC3
  try clear p2
  try clear c3
  try clear c4
  try clear c4b0
  try clear c4b1
  obtain ⟨kq, x17_2, rfl, HA, HJ2, HB⟩ := hcut
  cases kq with
  | zero => exact absurd HA.out (by simp [spec_SlideOver.j0])
  | succ kj2 =>
   have H := HA.out
   clear HA
   simp only [spec_SlideOver.j0] at H
   by_cases c6 : x17_2 = true
   ·subst c6
    have H1 : (some (([] : List (S51)), false)) = some (r1, r2) := by first | (with_reducible rfl) | (rw [if_pos rfl] at H; exact H)
    clear H
    have H := H1
    clear H1
    simp only [Option.some.injEq, Prod.mk.injEq] at H
    obtain ⟨rfl, rfl⟩ := H
    go_wp2
    go_ret2
    exact ⟨_, by first | rfl | (simp [errW_none, errW_some] <;> rfl) | (simp [*, errW_none, errW_some] <;> rfl), by first | exact Kd.R_nil _ _ _ _ _ | exact Kd.N_nil _ _ _ _ _ | exact Kd.V_nil _ _ _ _ _ | exact Kd.Q_nil _ _ _ _ _ | exact Kd.S_nil _ _ _ _ _, by repeat (first | (with_reducible first | exact HB.out | apply xa | apply xn | apply xd) | exact HB.out)⟩
   ·replace c6 := Bool.eq_false_iff.mpr c6
    subst c6
    have H1 : (spec_SlideOver.l0 kj2 l0 a1 ([] : List (S51)) l0 (l0.length : Int) 0) = some (r1, r2) := by first | (with_reducible rfl) | (rw [if_neg (show ¬ (false = true) by decide)] at H; exact H)
    clear H
    have H := H1
    clear H1
    have H' := xm H
    clear H
    go_wp2
    go_loopg [6, 20] kj2 (fun kq v6 v20 w' => ∃ (x6_2 : List (S51)) (x20_2 : Int), v20 = .int .i64 x20_2 ∧ Aside0 (spec_SlideOver.l0 kq l0 a1 x6_2 l0 (l0.length : Int) x20_2 = some (r1, r2)) ∧ Aside0 (kq ≤ kj2) ∧ Aside0 (Kd.R k51 51 w' w.heap.size (fun _ => True) v6 x6_2) ∧ Aside0 (Below w.heap.size w w'))
    case atStart => exact ⟨(([] : List (S51))), (0), (by first | rfl | (simp; done) | (simp [*]; done)), H', ⟨Nat.le_refl _⟩, ⟨by first | exact Kd.R_nil _ _ _ _ _ | exact Kd.N_nil _ _ _ _ _ | exact Kd.V_nil _ _ _ _ _ | exact Kd.Q_nil _ _ _ _ _ | exact Kd.S_nil _ _ _ _ _⟩, ⟨by repeat (first | (with_reducible first | exact HB.out | apply xa | apply xn | apply xd) | exact HB.out)⟩⟩
    case round =>
     clear H'
     try clear p2
     try clear c3
     try clear c4
     try clear c4b0
     try clear c4b1
     try clear c6
     try clear p2
     obtain ⟨x6_2, x20_2, rfl, HA, HK2, HO_6, HB⟩ := hrel
     cases gk with
     | zero => exact absurd HA.out (by simp [spec_SlideOver.l0])
     | succ k2 =>
      have H := HA.out
      clear HA
      simp only [spec_SlideOver.l0] at H
      by_cases c7 : x20_2 < (l0.length : Int)
      ·rw [if_pos c7] at H
       have c7b0 : decide (x20_2 < (l0.length : Int)) = true := decide_eq_true c7
       clear c7
       by_cases c8 : 0 ≤ x20_2
       ·rw [if_pos c8] at H
        have c8b0 : decide (0 ≤ x20_2) = true := decide_eq_true c8
        clear c8
        by_cases c9 : x20_2 < (l0.length : Int)
        ·rw [if_pos c9] at H
         have c9b0 : decide (x20_2 < (l0.length : Int)) = true := decide_eq_true c9
         clear c9
         replace H := Option.bind_eq_some_iff.mp H
         obtain ⟨t413, A100, H⟩ := H
         replace H : (if t413 = true then (if (wrap64 ((wrap64 (x20_2 + 1)) - a1)) < 0 then (if 0 ≤ (wrap64 (x20_2 + 1)) then (if (wrap64 (x20_2 + 1)) ≤ (l0.length : Int) then ((spec_l17All.f k2 ((l0.take ((wrap64 (x20_2 + 1)) : Int).toNat).drop 0)).bind fun bt418 => (if x6_2.length < 8796093022208 then (spec_SlideOver.l0 k2 l0 a1 (x6_2 ++ [(⟨bt418.1, bt418.2⟩ : S51)]) l0 (l0.length : Int) (wrap64 (x20_2 + 1))) else (none))) else (none)) else (none)) else (if 0 ≤ (wrap64 ((wrap64 (x20_2 + 1)) - a1)) then (if (wrap64 ((wrap64 (x20_2 + 1)) - a1)) ≤ (wrap64 (x20_2 + 1)) then (if (wrap64 (x20_2 + 1)) ≤ (l0.length : Int) then ((spec_l17All.f k2 ((l0.take ((wrap64 (x20_2 + 1)) : Int).toNat).drop ((wrap64 ((wrap64 (x20_2 + 1)) - a1)) : Int).toNat)).bind fun bt427 => (if x6_2.length < 8796093022208 then (spec_SlideOver.l0 k2 l0 a1 (x6_2 ++ [(⟨bt427.1, bt427.2⟩ : S51)]) l0 (l0.length : Int) (wrap64 (x20_2 + 1))) else (none))) else (none)) else (none)) else (none))) else (some (([] : List (S51)), false))) = some (r1, r2) := H
         have A10 := xm A100
         clear A100
         by_cases c11 : t413 = true
         ·subst c11
          have H1 : (if (wrap64 ((wrap64 (x20_2 + 1)) - a1)) < 0 then (if 0 ≤ (wrap64 (x20_2 + 1)) then (if (wrap64 (x20_2 + 1)) ≤ (l0.length : Int) then ((spec_l17All.f k2 ((l0.take ((wrap64 (x20_2 + 1)) : Int).toNat).drop 0)).bind fun bt418 => (if x6_2.length < 8796093022208 then (spec_SlideOver.l0 k2 l0 a1 (x6_2 ++ [(⟨bt418.1, bt418.2⟩ : S51)]) l0 (l0.length : Int) (wrap64 (x20_2 + 1))) else (none))) else (none)) else (none)) else (if 0 ≤ (wrap64 ((wrap64 (x20_2 + 1)) - a1)) then (if (wrap64 ((wrap64 (x20_2 + 1)) - a1)) ≤ (wrap64 (x20_2 + 1)) then (if (wrap64 (x20_2 + 1)) ≤ (l0.length : Int) then ((spec_l17All.f k2 ((l0.take ((wrap64 (x20_2 + 1)) : Int).toNat).drop ((wrap64 ((wrap64 (x20_2 + 1)) - a1)) : Int).toNat)).bind fun bt427 => (if x6_2.length < 8796093022208 then (spec_SlideOver.l0 k2 l0 a1 (x6_2 ++ [(⟨bt427.1, bt427.2⟩ : S51)]) l0 (l0.length : Int) (wrap64 (x20_2 + 1))) else (none))) else (none)) else (none)) else (none))) = some (r1, r2) := by first | (with_reducible rfl) | (rw [if_pos rfl] at H; exact H)
          clear H
          have H := H1
          clear H1
          by_cases c12 : (wrap64 ((wrap64 (x20_2 + 1)) - a1)) < 0
          ·rw [if_pos c12] at H
           have c12b0 : decide ((wrap64 ((wrap64 (x20_2 + 1)) - a1)) < 0) = true := decide_eq_true c12
           clear c12
           obtain ⟨ji13, hji13⟩ : ∃ j_ : Int, (wrap64 (x20_2 + 1)) = j_ := ⟨_, rfl⟩
           replace H : (if 0 ≤ (ji13) then (if (ji13) ≤ (l0.length : Int) then ((spec_l17All.f k2 ((l0.take ((ji13) : Int).toNat).drop 0)).bind fun bt418 => (if x6_2.length < 8796093022208 then (spec_SlideOver.l0 k2 l0 a1 (x6_2 ++ [(⟨bt418.1, bt418.2⟩ : S51)]) l0 (l0.length : Int) ji13) else (none))) else (none)) else (none)) = some (r1, r2) := by first | (rw [hji13] at H; exact H) | (simp only [hji13] at H ⊢; exact H)
           (try rw [hji13] at c12b0)
           (try rw [hji13] at A10)
           have hji13w : (IntKind.i64.wrap (x20_2 + 1)) = ji13 := (i64_w _).trans hji13
           by_cases c14 : 0 ≤ (ji13)
           ·rw [if_pos c14] at H
            have c14b0 := eq_true c14
            have c14b1 : decide (0 ≤ (ji13)) = true := decide_eq_true c14
            clear c14
            by_cases c15 : (ji13) ≤ (l0.length : Int)
            ·rw [if_pos c15] at H
             have c15b0 := eq_true c15
             have c15b1 : decide ((ji13) ≤ (l0.length : Int)) = true := decide_eq_true c15
             clear c15
             obtain ⟨y414, hy414⟩ : ∃ y_ : List (S51), y_ = ((l0.take ((ji13) : Int).toNat).drop 0) := ⟨_, rfl⟩
             replace H : ((spec_l17All.f k2 y414).bind fun bt418 => (if x6_2.length < 8796093022208 then (spec_SlideOver.l0 k2 l0 a1 (x6_2 ++ [(⟨bt418.1, bt418.2⟩ : S51)]) l0 (l0.length : Int) ji13) else (none))) = some (r1, r2) := by first | (rw [hy414]; with_reducible exact H) | (have H2_ := (Option.bind_some _ _).symm.trans H; rw [hy414]; with_reducible exact H2_) | (have H2_ := (Option.bind_some _ _).symm.trans H; with_reducible exact H2_) | with_reducible exact H | (rw [hy414]; exact H) | exact H
             have Ny414 := xm hy414
             clear hy414
             replace H := Option.bind_eq_some_iff.mp H
             obtain ⟨⟨t418, t419⟩, A160, H⟩ := H
             replace H : (if x6_2.length < 8796093022208 then (spec_SlideOver.l0 k2 l0 a1 (x6_2 ++ [(⟨t418, t419⟩ : S51)]) l0 (l0.length : Int) ji13) else (none)) = some (r1, r2) := H
             have A16 := xm A160
             clear A160
             by_cases c17 : x6_2.length < 8796093022208
             ·rw [if_pos c17] at H
              have LMc17 := xm c17
              clear c17
              obtain ⟨y420, hy420⟩ : ∃ y_ : List (S51), y_ = (x6_2 ++ [(⟨t418, t419⟩ : S51)]) := ⟨_, rfl⟩
              replace H : (spec_SlideOver.l0 k2 l0 a1 y420 l0 (l0.length : Int) ji13) = some (r1, r2) := by first | (rw [hy420]; with_reducible exact H) | (have H2_ := (Option.bind_some _ _).symm.trans H; rw [hy420]; with_reducible exact H2_) | (have H2_ := (Option.bind_some _ _).symm.trans H; with_reducible exact H2_) | with_reducible exact H | (rw [hy420]; exact H) | exact H
              have Ny420 := xm hy420
              clear hy420
              have H' := xm H
              clear H
              have p411 : 0 ≤ (x20_2 : Int) := of_decide_eq_true (by first | (with_reducible assumption) | assumption)
              have q411 : x20_2 < (l0.length : Int) := of_decide_eq_true (by first | (with_reducible assumption) | assumption)
              obtain ⟨ad411, e411, hx411_0, hx411_1⟩ := at_T51 HR0.out x20_2 p411 q411
              cases e411
              replace hx411_0 := (HB.out.cell (World.block_lt_of_cell? w _ hx411_0)).trans hx411_0
              replace hx411_1 := (HB.out.cell (World.block_lt_of_cell? w _ hx411_1)).trans hx411_1
              replace p411 := eq_true p411
              replace q411 := eq_true q411
              go_wp2_with (first | ((with_reducible refine gate_dst (N := 8) rfl ?_); refine box_event ?hg (N := 8) ?hd (cs := #[.int .i64 0, .int .i64 0]) (t := 51) ?hr ?_; (case hd => rfl); (case hg => rfl); (case hr => first | (go_simp; done) | (go_simp; rfl)); intro gb412 hg w18 hbox hb; have n0_ := xm (Kd.R_below (Kd.R_elderB (by (with_reducible repeat (first | apply Kd.R_alloc | apply Kd.R_drewN | apply Kd.R_drew)); exact HO_6.out) gb412 (Nat.le_of_eq hg.symm)) hb); have n1_ := xm (below_step (by repeat (first | (with_reducible first | exact HB.out | apply xa | apply xn | apply xd) | exact HB.out)) hb); have n2_ := xm (hbox); have n3_ := xm ((by rw [hg]; exact (xz (by repeat (first | (with_reducible first | exact HB.out | apply xa | apply xn | apply xd) | exact HB.out))) : w.heap.size ≤ gb412)); have n4_ := xm ((by rw [hg]; exact (xz (by repeat (first | (with_reducible first | exact HB.out | apply xa | apply xn | apply xd) | exact HB.out))) : w.heap.size ≤ gb412)); clear HO_6; clear HB; have HO_6 := n0_; have HB := n1_; have BK412 := n2_; have GW412 := n3_; have GE412 := n4_; clear n0_ n1_ n2_ n3_ n4_; clear hb hbox hg; have hcz19_0 : w18.cell? ⟨gb412, 0, none⟩ = some (.int .i64 0) := (xc BK412.out 0).trans rfl; have hcz19_1 : w18.cell? ⟨gb412, 1, none⟩ = some (.int .i64 0) := (xc BK412.out 1).trans rfl; have hfz19_0 := xf BK412.out 0; have hfz19_1 := xf BK412.out 1) | ((with_reducible refine gate_callee (f := 94) rfl ?_); refine goesL_ (some 26) rfl rfl Try.func94 (by kernel_rfl) rfl #[.agg #[.int .i64 ((rd_T51 l0 x20_2).f0), .int .i64 ((rd_T51 l0 x20_2).f1)]] rfl (by (try simp only [List.map_toArray, List.map_cons, List.map_nil]); first | done | rfl | (simp only [List.length_drop, List.length_take]; rfl)) ?_; (with_reducible refine (spec_GoodMap.calls ((rd_T51 l0 x20_2).f0) ((rd_T51 l0 x20_2).f1) true _ A10.out).mono ?_); rintro e w20 ⟨rfl, hb⟩; refine ⟨_, rfl, ?_⟩; have n0_ := xm (Kd.R_below (by (with_reducible repeat (first | apply Kd.R_alloc | apply Kd.R_drewN | apply Kd.R_drew)); exact (Kd.R_mono (Kd.R_far (p := ⟨gb412, 1, none⟩) (Kd.R_far (p := ⟨gb412, 0, none⟩) (Kd.R_mono HO_6.out (fun k_ hk => (⟨hk, hk.2⟩ : _ ∧ k_ ≠ gb412))) (fun _ hk => hk.2) (.int .i64 ((rd_T51 l0 x20_2).f0))) (fun _ hk => hk.2) (.int .i64 ((rd_T51 l0 x20_2).f1))) (fun _ h_ => h_.1))) hb); have n1_ := xm (blk_below (g := gb412) (o := .cells #[.int .i64 ((rd_T51 l0 x20_2).f0), .int .i64 ((rd_T51 l0 x20_2).f1)] 51 (0, 0)) (by (with_reducible repeat (first | refine xq ?_ _ | refine xr ?_ | refine xo ?_ _)); refine blk_put (cs := #[.int .i64 ((rd_T51 l0 x20_2).f0), .int .i64 0]) ?_ 1 _ rfl; (with_reducible repeat (first | refine xq ?_ _ | refine xr ?_ | refine xo ?_ _)); refine blk_put (cs := #[.int .i64 0, .int .i64 0]) ?_ 0 _ rfl; (with_reducible repeat (first | refine xq ?_ _ | refine xr ?_ | refine xo ?_ _)); exact BK412.out) hb); have n2_ := xm (below_step (by repeat (first | (with_reducible first | exact HB.out | apply xa | apply xn | apply xd | refine xt ?_ GE412.out) | exact HB.out)) hb); clear HO_6; clear BK412; clear HB; have HO_6 := n0_; have BK412 := n1_; have HB := n2_; clear n0_ n1_ n2_; (try clear hb); (try clear hb2); (try clear hk); (try clear hi); have q21 : ((ji13) : Int) ≤ ((l0.length : Int) : Int) := of_decide_eq_true (by first | (with_reducible assumption) | assumption); obtain ⟨i021, hi021, _, hsz21, _⟩ := info_parts info51; have hroom21 : l0.length ≤ c0 := HC0.out; have hC21 : Kd.C k51 _ (some ad411) l0.length l0 := HR0.out; have ql21 : (0 : Int) ≤ ((ji13) : Int) := of_decide_eq_true (by first | (with_reducible assumption) | assumption); have hcut21 := cut_mid (P := Try.prog) 50 51 .i64 .i64 Try.underlying50 hi021 2 hsz21 (some ad411) l0.length c0 0 (ji13) (by omega) ql21 q21 hroom21; have hr21 := Kd.C_mid (lo := (0 : Int).toNat) (hi := ((ji13) : Int).toNat) (c := c0) hC21 (by omega) (by omega) hroom21; obtain ⟨A21, hA21⟩ : ∃ A1, A1 = (if c0 = (0 : Int).toNat then (some ad411) else ((some ad411) : Option Addr).map (·.add ((0 : Int).toNat * 2))) := ⟨_, rfl⟩; obtain ⟨c21, hc21⟩ : ∃ c1, c1 = c0 - (0 : Int).toNat := ⟨_, rfl⟩; have hy21 : y414.length = ((ji13) : Int).toNat - (0 : Int).toNat := (by rw [Ny414.out, List.length_drop, List.length_take] <;> omega); rw [show ((l0).take ((ji13) : Int).toNat).drop (0 : Int).toNat = y414 from Ny414.out.symm] at hr21; replace hr21 : Kd.C k51 _ A21 y414.length y414 := (by rw [hA21]; exact hr21); rw [← hy21, ← hA21, ← hc21] at hcut21; have HR417 := xm hr21; have HC417 := xm (show y414.length ≤ c21 from by rw [hy21, hc21]; exact Nat.sub_le_sub_right (Nat.le_trans (by omega) hroom21) _); clear hr21 hC21 hroom21 hi021 hsz21 hc21; have KY21 := xm hy21; have KA21 := xm hA21; clear hy21 hA21; replace q21 := eq_true q21) | ((with_reducible refine gate_callee (f := 95) rfl ?_); refine goesL_ (some 40) rfl rfl Try.func95 (by kernel_rfl) rfl #[.slice A21 y414.length c21] rfl (by (try simp only [List.map_toArray, List.map_cons, List.map_nil]); first | done | rfl | (simp only [List.length_drop, List.length_take]; rfl)) ?_; (with_reducible refine (spec_l17All.calls k2 _ _ y414 t418 t419 _ ?side1 ?side2 A16.out).mono ?_); (case side1 => repeat (first | exact (Kd.C_below HR417.out HB.out) | (with_reducible refine Kd.C_alloc ?_ _) | (with_reducible refine Kd.C_drewN ?_ _) | (with_reducible refine Kd.C_drew ?_))); (case side2 => exact HC417.out); rintro e w22 ⟨rfl, hb⟩; refine ⟨_, rfl, ?_⟩; have n0_ := xm (Kd.R_below (by (with_reducible repeat (first | apply Kd.R_alloc | apply Kd.R_drewN | apply Kd.R_drew)); exact HO_6.out) hb); have n1_ := xm (blk_below (g := gb412) (o := .cells #[.int .i64 ((rd_T51 l0 x20_2).f0), .int .i64 ((rd_T51 l0 x20_2).f1)] 51 (0, 0)) (by (with_reducible repeat (first | refine xq ?_ _ | refine xr ?_ | refine xo ?_ _)); exact BK412.out) hb); have n2_ := xm (below_step (by repeat (first | (with_reducible first | exact HB.out | apply xa | apply xn | apply xd | refine xt ?_ GE412.out) | exact HB.out)) hb); clear HO_6; clear BK412; clear HB; have HO_6 := n0_; have BK412 := n1_; have HB := n2_; clear n0_ n1_ n2_; (try clear hb); (try clear hb2); (try clear hk); (try clear hi)) | ((with_reducible refine gate_builtin (b := .append) (xs := #[.tmp 34, .tmp 41]) rfl ?_); at_builtin; refine Kd.R_append k51 (w0 := w) w.heap.size rfl (.tmp 34) (.tmp 41) 50 51 (.agg #[(.int .i64 0), (.int .i64 0)]) 16 rfl Try.underlying50 info51 rfl (by decide) (by omega) u6 x6_2 (⟨t418, t419⟩ : S51) [.int .i64 t418, .int .i64 t419] (fun k_ => k_ ≠ gb412) (fun _ => False) rfl rfl ?aP (fun _ hk => hk.elim) ?aF ?aO ?aB ?aS ?aL ?_; (case aP => exact k51_mkM _ _ _ (⟨t418, t419⟩ : S51)); (case aB => exact (by repeat (first | (with_reducible first | exact HB.out | apply xa | apply xn | apply xd | refine xt ?_ GE412.out) | exact HB.out))); (case aF => exact (fun k_ hk => Kd.freshB (g := gb412) (o := .cells #[.int .i64 ((rd_T51 l0 x20_2).f0), .int .i64 ((rd_T51 l0 x20_2).f1)] 51 (0, 0)) (by (with_reducible repeat (first | refine xq ?_ _ | refine xr ?_ | refine xo ?_ _)); exact BK412.out) k_ hk)); (case aO => exact (by (with_reducible repeat (first | apply Kd.R_alloc | apply Kd.R_drewN | apply Kd.R_drew)); exact Kd.R_mono HO_6.out (fun _ hk => hk.2))); (case aS => exact (xz (by repeat (first | (with_reducible first | exact HB.out | apply xa | apply xn | apply xd | refine xt ?_ GE412.out) | exact HB.out)))); (case aL => have := LMc17.out; omega); intro v421 w23 ho hb hg hat; rw [← Ny420.out] at ho; have n0_ := xm (blk_grown (g := gb412) (o := .cells #[.int .i64 ((rd_T51 l0 x20_2).f0), .int .i64 ((rd_T51 l0 x20_2).f1)] 51 (0, 0)) (by (with_reducible repeat (first | refine xq ?_ _ | refine xr ?_ | refine xo ?_ _)); exact BK412.out) hg (Kd.R_away HO_6.out (fun _ hk => hk.2))); have n1_ := xm (hb); have n2_ := xm (ho); clear BK412; clear HB; clear HO_6; have BK412 := n0_; have HB := n1_; have HO422 := n2_; clear n0_ n1_ n2_; clear ho hb hg hat))
              go_roundg k2
              case measure => have := HJ2.out; have := HK2.out; omega
              case rel => exact ⟨(y420), (ji13), (by first | rfl | (simp; done) | (simp only [← hji13] <;> (first | rfl | simp)) | (simp [*]; done)), H', ⟨by have := HJ2.out; have := HK2.out; omega⟩, ⟨by (with_reducible repeat (first | apply Kd.R_alloc | apply Kd.R_drewN | apply Kd.R_drew)); exact Kd.R_mono HO422.out (fun _ hk => trivial)⟩, ⟨by repeat (first | (with_reducible first | exact HB.out | apply xa | apply xn | apply xd | refine xt ?_ GE412.out) | exact HB.out)⟩⟩
             ·rw [if_neg c17] at H
              exact absurd H (by simp)
            ·rw [if_neg c15] at H
             exact absurd H (by simp)
           ·rw [if_neg c14] at H
            exact absurd H (by simp)
          ·rw [if_neg c12] at H
           have c12b0 : decide ((wrap64 ((wrap64 (x20_2 + 1)) - a1)) < 0) = false := decide_eq_false c12
           clear c12
           obtain ⟨ji24, hji24⟩ : ∃ j_ : Int, (wrap64 ((wrap64 (x20_2 + 1)) - a1)) = j_ := ⟨_, rfl⟩
           replace H : (if 0 ≤ (ji24) then (if (ji24) ≤ (wrap64 (x20_2 + 1)) then (if (wrap64 (x20_2 + 1)) ≤ (l0.length : Int) then ((spec_l17All.f k2 ((l0.take ((wrap64 (x20_2 + 1)) : Int).toNat).drop ((ji24) : Int).toNat)).bind fun bt427 => (if x6_2.length < 8796093022208 then (spec_SlideOver.l0 k2 l0 a1 (x6_2 ++ [(⟨bt427.1, bt427.2⟩ : S51)]) l0 (l0.length : Int) (wrap64 (x20_2 + 1))) else (none))) else (none)) else (none)) else (none)) = some (r1, r2) := by first | (rw [hji24] at H; exact H) | (simp only [hji24] at H ⊢; exact H)
           (try rw [hji24] at c12b0)
           (try rw [hji24] at A10)
           have hji24w : (IntKind.i64.wrap ((wrap64 (x20_2 + 1)) - a1)) = ji24 := (i64_w _).trans hji24
           by_cases c25 : 0 ≤ (ji24)
           ·rw [if_pos c25] at H
            have c25b0 := eq_true c25
            have c25b1 : decide (0 ≤ (ji24)) = true := decide_eq_true c25
            clear c25
            by_cases c26 : (ji24) ≤ (wrap64 (x20_2 + 1))
            ·rw [if_pos c26] at H
             have c26b0 := eq_true c26
             have c26b1 : decide ((ji24) ≤ (wrap64 (x20_2 + 1))) = true := decide_eq_true c26
             by_cases c27 : (wrap64 (x20_2 + 1)) ≤ (l0.length : Int)
             ·rw [if_pos c27] at H
              have c27b0 := eq_true c27
              have c27b1 : decide ((wrap64 (x20_2 + 1)) ≤ (l0.length : Int)) = true := decide_eq_true c27
              obtain ⟨y423, hy423⟩ : ∃ y_ : List (S51), y_ = ((l0.take ((wrap64 (x20_2 + 1)) : Int).toNat).drop ((ji24) : Int).toNat) := ⟨_, rfl⟩
              replace H : ((spec_l17All.f k2 y423).bind fun bt427 => (if x6_2.length < 8796093022208 then (spec_SlideOver.l0 k2 l0 a1 (x6_2 ++ [(⟨bt427.1, bt427.2⟩ : S51)]) l0 (l0.length : Int) (wrap64 (x20_2 + 1))) else (none))) = some (r1, r2) := by first | (rw [hy423]; with_reducible exact H) | (have H2_ := (Option.bind_some _ _).symm.trans H; rw [hy423]; with_reducible exact H2_) | (have H2_ := (Option.bind_some _ _).symm.trans H; with_reducible exact H2_) | with_reducible exact H | (rw [hy423]; exact H) | exact H
              have Ny423 := xm hy423
              clear hy423
              replace H := Option.bind_eq_some_iff.mp H
              obtain ⟨⟨t427, t428⟩, A280, H⟩ := H
              replace H : (if x6_2.length < 8796093022208 then (spec_SlideOver.l0 k2 l0 a1 (x6_2 ++ [(⟨t427, t428⟩ : S51)]) l0 (l0.length : Int) (wrap64 (x20_2 + 1))) else (none)) = some (r1, r2) := H
              have A28 := xm A280
              clear A280
              by_cases c29 : x6_2.length < 8796093022208
              ·rw [if_pos c29] at H
               have LMc29 := xm c29
               clear c29
               obtain ⟨y429, hy429⟩ : ∃ y_ : List (S51), y_ = (x6_2 ++ [(⟨t427, t428⟩ : S51)]) := ⟨_, rfl⟩
               replace H : (spec_SlideOver.l0 k2 l0 a1 y429 l0 (l0.length : Int) (wrap64 (x20_2 + 1))) = some (r1, r2) := by first | (rw [hy429]; with_reducible exact H) | (have H2_ := (Option.bind_some _ _).symm.trans H; rw [hy429]; with_reducible exact H2_) | (have H2_ := (Option.bind_some _ _).symm.trans H; with_reducible exact H2_) | with_reducible exact H | (rw [hy429]; exact H) | exact H
               have Ny429 := xm hy429
               clear hy429
               have H' := xm H
               clear H
               have p411 : 0 ≤ (x20_2 : Int) := of_decide_eq_true (by first | (with_reducible assumption) | assumption)
               have q411 : x20_2 < (l0.length : Int) := of_decide_eq_true (by first | (with_reducible assumption) | assumption)
               obtain ⟨ad411, e411, hx411_0, hx411_1⟩ := at_T51 HR0.out x20_2 p411 q411
               cases e411
               replace hx411_0 := (HB.out.cell (World.block_lt_of_cell? w _ hx411_0)).trans hx411_0
               replace hx411_1 := (HB.out.cell (World.block_lt_of_cell? w _ hx411_1)).trans hx411_1
               replace p411 := eq_true p411
               replace q411 := eq_true q411
               go_wp2_with (first | ((with_reducible refine gate_dst (N := 8) rfl ?_); refine box_event ?hg (N := 8) ?hd (cs := #[.int .i64 0, .int .i64 0]) (t := 51) ?hr ?_; (case hd => rfl); (case hg => rfl); (case hr => first | (go_simp; done) | (go_simp; rfl)); intro gb412 hg w30 hbox hb; have n0_ := xm (Kd.R_below (Kd.R_elderB (by (with_reducible repeat (first | apply Kd.R_alloc | apply Kd.R_drewN | apply Kd.R_drew)); exact HO_6.out) gb412 (Nat.le_of_eq hg.symm)) hb); have n1_ := xm (below_step (by repeat (first | (with_reducible first | exact HB.out | apply xa | apply xn | apply xd) | exact HB.out)) hb); have n2_ := xm (hbox); have n3_ := xm ((by rw [hg]; exact (xz (by repeat (first | (with_reducible first | exact HB.out | apply xa | apply xn | apply xd) | exact HB.out))) : w.heap.size ≤ gb412)); have n4_ := xm ((by rw [hg]; exact (xz (by repeat (first | (with_reducible first | exact HB.out | apply xa | apply xn | apply xd) | exact HB.out))) : w.heap.size ≤ gb412)); clear HO_6; clear HB; have HO_6 := n0_; have HB := n1_; have BK412 := n2_; have GW412 := n3_; have GE412 := n4_; clear n0_ n1_ n2_ n3_ n4_; clear hb hbox hg; have hcz31_0 : w30.cell? ⟨gb412, 0, none⟩ = some (.int .i64 0) := (xc BK412.out 0).trans rfl; have hcz31_1 : w30.cell? ⟨gb412, 1, none⟩ = some (.int .i64 0) := (xc BK412.out 1).trans rfl; have hfz31_0 := xf BK412.out 0; have hfz31_1 := xf BK412.out 1) | ((with_reducible refine gate_callee (f := 94) rfl ?_); refine goesL_ (some 26) rfl rfl Try.func94 (by kernel_rfl) rfl #[.agg #[.int .i64 ((rd_T51 l0 x20_2).f0), .int .i64 ((rd_T51 l0 x20_2).f1)]] rfl (by (try simp only [List.map_toArray, List.map_cons, List.map_nil]); first | done | rfl | (simp only [List.length_drop, List.length_take]; rfl)) ?_; (with_reducible refine (spec_GoodMap.calls ((rd_T51 l0 x20_2).f0) ((rd_T51 l0 x20_2).f1) true _ A10.out).mono ?_); rintro e w32 ⟨rfl, hb⟩; refine ⟨_, rfl, ?_⟩; have n0_ := xm (Kd.R_below (by (with_reducible repeat (first | apply Kd.R_alloc | apply Kd.R_drewN | apply Kd.R_drew)); exact (Kd.R_mono (Kd.R_far (p := ⟨gb412, 1, none⟩) (Kd.R_far (p := ⟨gb412, 0, none⟩) (Kd.R_mono HO_6.out (fun k_ hk => (⟨hk, hk.2⟩ : _ ∧ k_ ≠ gb412))) (fun _ hk => hk.2) (.int .i64 ((rd_T51 l0 x20_2).f0))) (fun _ hk => hk.2) (.int .i64 ((rd_T51 l0 x20_2).f1))) (fun _ h_ => h_.1))) hb); have n1_ := xm (blk_below (g := gb412) (o := .cells #[.int .i64 ((rd_T51 l0 x20_2).f0), .int .i64 ((rd_T51 l0 x20_2).f1)] 51 (0, 0)) (by (with_reducible repeat (first | refine xq ?_ _ | refine xr ?_ | refine xo ?_ _)); refine blk_put (cs := #[.int .i64 ((rd_T51 l0 x20_2).f0), .int .i64 0]) ?_ 1 _ rfl; (with_reducible repeat (first | refine xq ?_ _ | refine xr ?_ | refine xo ?_ _)); refine blk_put (cs := #[.int .i64 0, .int .i64 0]) ?_ 0 _ rfl; (with_reducible repeat (first | refine xq ?_ _ | refine xr ?_ | refine xo ?_ _)); exact BK412.out) hb); have n2_ := xm (below_step (by repeat (first | (with_reducible first | exact HB.out | apply xa | apply xn | apply xd | refine xt ?_ GE412.out) | exact HB.out)) hb); clear HO_6; clear BK412; clear HB; have HO_6 := n0_; have BK412 := n1_; have HB := n2_; clear n0_ n1_ n2_; (try clear hb); (try clear hb2); (try clear hk); (try clear hi); have q33 : ((wrap64 (x20_2 + 1)) : Int) ≤ ((l0.length : Int) : Int) := of_decide_eq_true (by first | (with_reducible assumption) | assumption); obtain ⟨i033, hi033, _, hsz33, _⟩ := info_parts info51; have hroom33 : l0.length ≤ c0 := HC0.out; have hC33 : Kd.C k51 _ (some ad411) l0.length l0 := HR0.out; have ql33 : ((ji24) : Int) ≤ ((wrap64 (x20_2 + 1)) : Int) := of_decide_eq_true (by first | (with_reducible assumption) | assumption); have q033 : (0 : Int) ≤ ((ji24) : Int) := of_decide_eq_true (by first | (with_reducible assumption) | assumption); have hcut33 := cut_mid (P := Try.prog) 50 51 .i64 .i64 Try.underlying50 hi033 2 hsz33 (some ad411) l0.length c0 (ji24) (wrap64 (x20_2 + 1)) q033 ql33 q33 hroom33; have hr33 := Kd.C_mid (lo := ((ji24) : Int).toNat) (hi := ((wrap64 (x20_2 + 1)) : Int).toNat) (c := c0) hC33 (by omega) (by omega) hroom33; obtain ⟨A33, hA33⟩ : ∃ A1, A1 = (if c0 = ((ji24) : Int).toNat then (some ad411) else ((some ad411) : Option Addr).map (·.add (((ji24) : Int).toNat * 2))) := ⟨_, rfl⟩; obtain ⟨c33, hc33⟩ : ∃ c1, c1 = c0 - ((ji24) : Int).toNat := ⟨_, rfl⟩; have hy33 : y423.length = ((wrap64 (x20_2 + 1)) : Int).toNat - ((ji24) : Int).toNat := (by rw [Ny423.out, List.length_drop, List.length_take] <;> omega); rw [show ((l0).take ((wrap64 (x20_2 + 1)) : Int).toNat).drop ((ji24) : Int).toNat = y423 from Ny423.out.symm] at hr33; replace hr33 : Kd.C k51 _ A33 y423.length y423 := (by rw [hA33]; exact hr33); rw [← hy33, ← hA33, ← hc33] at hcut33; have HR426 := xm hr33; have HC426 := xm (show y423.length ≤ c33 from by rw [hy33, hc33]; exact Nat.sub_le_sub_right (Nat.le_trans (by omega) hroom33) _); clear hr33 hC33 hroom33 hi033 hsz33 hc33; have KY33 := xm hy33; have KA33 := xm hA33; clear hy33 hA33; replace q33 := eq_true q33) | ((with_reducible refine gate_callee (f := 95) rfl ?_); refine goesL_ (some 40) rfl rfl Try.func95 (by kernel_rfl) rfl #[.slice A33 y423.length c33] rfl (by (try simp only [List.map_toArray, List.map_cons, List.map_nil]); first | done | rfl | (simp only [List.length_drop, List.length_take]; rfl)) ?_; (with_reducible refine (spec_l17All.calls k2 _ _ y423 t427 t428 _ ?side1 ?side2 A28.out).mono ?_); (case side1 => repeat (first | exact (Kd.C_below HR426.out HB.out) | (with_reducible refine Kd.C_alloc ?_ _) | (with_reducible refine Kd.C_drewN ?_ _) | (with_reducible refine Kd.C_drew ?_))); (case side2 => exact HC426.out); rintro e w34 ⟨rfl, hb⟩; refine ⟨_, rfl, ?_⟩; have n0_ := xm (Kd.R_below (by (with_reducible repeat (first | apply Kd.R_alloc | apply Kd.R_drewN | apply Kd.R_drew)); exact HO_6.out) hb); have n1_ := xm (blk_below (g := gb412) (o := .cells #[.int .i64 ((rd_T51 l0 x20_2).f0), .int .i64 ((rd_T51 l0 x20_2).f1)] 51 (0, 0)) (by (with_reducible repeat (first | refine xq ?_ _ | refine xr ?_ | refine xo ?_ _)); exact BK412.out) hb); have n2_ := xm (below_step (by repeat (first | (with_reducible first | exact HB.out | apply xa | apply xn | apply xd | refine xt ?_ GE412.out) | exact HB.out)) hb); clear HO_6; clear BK412; clear HB; have HO_6 := n0_; have BK412 := n1_; have HB := n2_; clear n0_ n1_ n2_; (try clear hb); (try clear hb2); (try clear hk); (try clear hi)) | ((with_reducible refine gate_builtin (b := .append) (xs := #[.tmp 34, .tmp 41]) rfl ?_); at_builtin; refine Kd.R_append k51 (w0 := w) w.heap.size rfl (.tmp 34) (.tmp 41) 50 51 (.agg #[(.int .i64 0), (.int .i64 0)]) 16 rfl Try.underlying50 info51 rfl (by decide) (by omega) u6 x6_2 (⟨t427, t428⟩ : S51) [.int .i64 t427, .int .i64 t428] (fun k_ => k_ ≠ gb412) (fun _ => False) rfl rfl ?aP (fun _ hk => hk.elim) ?aF ?aO ?aB ?aS ?aL ?_; (case aP => exact k51_mkM _ _ _ (⟨t427, t428⟩ : S51)); (case aB => exact (by repeat (first | (with_reducible first | exact HB.out | apply xa | apply xn | apply xd | refine xt ?_ GE412.out) | exact HB.out))); (case aF => exact (fun k_ hk => Kd.freshB (g := gb412) (o := .cells #[.int .i64 ((rd_T51 l0 x20_2).f0), .int .i64 ((rd_T51 l0 x20_2).f1)] 51 (0, 0)) (by (with_reducible repeat (first | refine xq ?_ _ | refine xr ?_ | refine xo ?_ _)); exact BK412.out) k_ hk)); (case aO => exact (by (with_reducible repeat (first | apply Kd.R_alloc | apply Kd.R_drewN | apply Kd.R_drew)); exact Kd.R_mono HO_6.out (fun _ hk => hk.2))); (case aS => exact (xz (by repeat (first | (with_reducible first | exact HB.out | apply xa | apply xn | apply xd | refine xt ?_ GE412.out) | exact HB.out)))); (case aL => have := LMc29.out; omega); intro v430 w35 ho hb hg hat; rw [← Ny429.out] at ho; have n0_ := xm (blk_grown (g := gb412) (o := .cells #[.int .i64 ((rd_T51 l0 x20_2).f0), .int .i64 ((rd_T51 l0 x20_2).f1)] 51 (0, 0)) (by (with_reducible repeat (first | refine xq ?_ _ | refine xr ?_ | refine xo ?_ _)); exact BK412.out) hg (Kd.R_away HO_6.out (fun _ hk => hk.2))); have n1_ := xm (hb); have n2_ := xm (ho); clear BK412; clear HB; clear HO_6; have BK412 := n0_; have HB := n1_; have HO431 := n2_; clear n0_ n1_ n2_; clear ho hb hg hat))
               go_roundg k2
               case measure => have := HJ2.out; have := HK2.out; omega
               case rel => exact ⟨(y429), (wrap64 (x20_2 + 1)), (by first | rfl | (simp; done) | (simp [*]; done)), H', ⟨by have := HJ2.out; have := HK2.out; omega⟩, ⟨by (with_reducible repeat (first | apply Kd.R_alloc | apply Kd.R_drewN | apply Kd.R_drew)); exact Kd.R_mono HO431.out (fun _ hk => trivial)⟩, ⟨by repeat (first | (with_reducible first | exact HB.out | apply xa | apply xn | apply xd | refine xt ?_ GE412.out) | exact HB.out)⟩⟩
              ·rw [if_neg c29] at H
               exact absurd H (by simp)
             ·rw [if_neg c27] at H
              exact absurd H (by simp)
            ·rw [if_neg c26] at H
             exact absurd H (by simp)
           ·rw [if_neg c25] at H
            exact absurd H (by simp)
         ·replace c11 := Bool.eq_false_iff.mpr c11
          subst c11
          have H1 : (some (([] : List (S51)), false)) = some (r1, r2) := by first | (with_reducible rfl) | (rw [if_neg (show ¬ (false = true) by decide)] at H; exact H)
          clear H
          have H := H1
          clear H1
          simp only [Option.some.injEq, Prod.mk.injEq] at H
          obtain ⟨rfl, rfl⟩ := H
          have p411 : 0 ≤ (x20_2 : Int) := of_decide_eq_true (by first | (with_reducible assumption) | assumption)
          have q411 : x20_2 < (l0.length : Int) := of_decide_eq_true (by first | (with_reducible assumption) | assumption)
          obtain ⟨ad411, e411, hx411_0, hx411_1⟩ := at_T51 HR0.out x20_2 p411 q411
          cases e411
          replace hx411_0 := (HB.out.cell (World.block_lt_of_cell? w _ hx411_0)).trans hx411_0
          replace hx411_1 := (HB.out.cell (World.block_lt_of_cell? w _ hx411_1)).trans hx411_1
          replace p411 := eq_true p411
          replace q411 := eq_true q411
          go_wp2_with (first | ((with_reducible refine gate_dst (N := 8) rfl ?_); refine box_event ?hg (N := 8) ?hd (cs := #[.int .i64 0, .int .i64 0]) (t := 51) ?hr ?_; (case hd => rfl); (case hg => rfl); (case hr => first | (go_simp; done) | (go_simp; rfl)); intro gb412 hg w36 hbox hb; have n0_ := xm (Kd.R_below (Kd.R_elderB (by (with_reducible repeat (first | apply Kd.R_alloc | apply Kd.R_drewN | apply Kd.R_drew)); exact HO_6.out) gb412 (Nat.le_of_eq hg.symm)) hb); have n1_ := xm (below_step (by repeat (first | (with_reducible first | exact HB.out | apply xa | apply xn | apply xd) | exact HB.out)) hb); have n2_ := xm (hbox); have n3_ := xm ((by rw [hg]; exact (xz (by repeat (first | (with_reducible first | exact HB.out | apply xa | apply xn | apply xd) | exact HB.out))) : w.heap.size ≤ gb412)); have n4_ := xm ((by rw [hg]; exact (xz (by repeat (first | (with_reducible first | exact HB.out | apply xa | apply xn | apply xd) | exact HB.out))) : w.heap.size ≤ gb412)); clear HO_6; clear HB; have HO_6 := n0_; have HB := n1_; have BK412 := n2_; have GW412 := n3_; have GE412 := n4_; clear n0_ n1_ n2_ n3_ n4_; clear hb hbox hg; have hcz37_0 : w36.cell? ⟨gb412, 0, none⟩ = some (.int .i64 0) := (xc BK412.out 0).trans rfl; have hcz37_1 : w36.cell? ⟨gb412, 1, none⟩ = some (.int .i64 0) := (xc BK412.out 1).trans rfl; have hfz37_0 := xf BK412.out 0; have hfz37_1 := xf BK412.out 1) | ((with_reducible refine gate_callee (f := 94) rfl ?_); refine goesL_ (some 26) rfl rfl Try.func94 (by kernel_rfl) rfl #[.agg #[.int .i64 ((rd_T51 l0 x20_2).f0), .int .i64 ((rd_T51 l0 x20_2).f1)]] rfl (by (try simp only [List.map_toArray, List.map_cons, List.map_nil]); first | done | rfl | (simp only [List.length_drop, List.length_take]; rfl)) ?_; (with_reducible refine (spec_GoodMap.calls ((rd_T51 l0 x20_2).f0) ((rd_T51 l0 x20_2).f1) false _ A10.out).mono ?_); rintro e w38 ⟨rfl, hb⟩; refine ⟨_, rfl, ?_⟩; have n0_ := xm (Kd.R_below (by (with_reducible repeat (first | apply Kd.R_alloc | apply Kd.R_drewN | apply Kd.R_drew)); exact (Kd.R_mono (Kd.R_far (p := ⟨gb412, 1, none⟩) (Kd.R_far (p := ⟨gb412, 0, none⟩) (Kd.R_mono HO_6.out (fun k_ hk => (⟨hk, hk.2⟩ : _ ∧ k_ ≠ gb412))) (fun _ hk => hk.2) (.int .i64 ((rd_T51 l0 x20_2).f0))) (fun _ hk => hk.2) (.int .i64 ((rd_T51 l0 x20_2).f1))) (fun _ h_ => h_.1))) hb); have n1_ := xm (blk_below (g := gb412) (o := .cells #[.int .i64 ((rd_T51 l0 x20_2).f0), .int .i64 ((rd_T51 l0 x20_2).f1)] 51 (0, 0)) (by (with_reducible repeat (first | refine xq ?_ _ | refine xr ?_ | refine xo ?_ _)); refine blk_put (cs := #[.int .i64 ((rd_T51 l0 x20_2).f0), .int .i64 0]) ?_ 1 _ rfl; (with_reducible repeat (first | refine xq ?_ _ | refine xr ?_ | refine xo ?_ _)); refine blk_put (cs := #[.int .i64 0, .int .i64 0]) ?_ 0 _ rfl; (with_reducible repeat (first | refine xq ?_ _ | refine xr ?_ | refine xo ?_ _)); exact BK412.out) hb); have n2_ := xm (below_step (by repeat (first | (with_reducible first | exact HB.out | apply xa | apply xn | apply xd | refine xt ?_ GE412.out) | exact HB.out)) hb); clear HO_6; clear BK412; clear HB; have HO_6 := n0_; have BK412 := n1_; have HB := n2_; clear n0_ n1_ n2_; (try clear hb); (try clear hb2); (try clear hk); (try clear hi)))
          go_ret2
          exact ⟨_, by first | rfl | (simp [errW_none, errW_some] <;> rfl) | (simp [*, errW_none, errW_some] <;> rfl), by first | exact Kd.R_nil _ _ _ _ _ | exact Kd.N_nil _ _ _ _ _ | exact Kd.V_nil _ _ _ _ _ | exact Kd.Q_nil _ _ _ _ _ | exact Kd.S_nil _ _ _ _ _, by repeat (first | (with_reducible first | exact HB.out | apply xa | apply xn | apply xd | refine xt ?_ GE412.out) | exact HB.out)⟩
        ·rw [if_neg c9] at H
         exact absurd H (by simp)
       ·rw [if_neg c8] at H
        exact absurd H (by simp)
      ·rw [if_neg c7] at H
       have c7b0 : decide (x20_2 < (l0.length : Int)) = false := decide_eq_false c7
       clear c7
       simp only [Option.some.injEq, Prod.mk.injEq] at H
       obtain ⟨rfl, rfl⟩ := H
       go_wp2
       go_ret2
       exact ⟨_, by first | rfl | (simp [errW_none, errW_some] <;> rfl) | (simp [*, errW_none, errW_some] <;> rfl), by (with_reducible repeat (first | apply Kd.R_alloc | apply Kd.R_drewN | apply Kd.R_drew)); exact HO_6.out, by repeat (first | (with_reducible first | exact HB.out | apply xa | apply xn | apply xd) | exact HB.out)⟩

/-! ### impl_NewWindow: function 103 -/
def impl_NewWindow.f  : Option ((List (S51)) × (List (S51)) × (List (S51)) × Int × Int) := (impl_same.f).bind fun bt433 => (some (([] : List (S51)), ([] : List (S51)), ([] : List (S51)), bt433.1, bt433.2))
set_option maxHeartbeats 8000000 in
set_option maxRecDepth 100000 in
theorem impl_NewWindow.calls  (r1 : List (S51)) (r2 : List (S51)) (r3 : List (S51)) (r4 : Int) (r5 : Int) (w : World) (h : impl_NewWindow.f  = some (r1, r2, r3, r4, r5)) :
  Calls Try.prog 103 #[] w fun e w' => ∃ v0_ v1_ v2_ : Value, e = .returned (.agg #[v0_, v1_, v2_, .int .i64 r4, .int .i64 r5]) ∧ Kd.R k51 51 w' w.heap.size (fun k_ => some k_ ≠ (v1_ : Value).ownBlock ∧ some k_ ≠ (v2_ : Value).ownBlock) v0_ r1 ∧ Kd.R k51 51 w' w.heap.size (fun k_ => some k_ ≠ (v0_ : Value).ownBlock ∧ some k_ ≠ (v2_ : Value).ownBlock) v1_ r2 ∧ Kd.R k51 51 w' w.heap.size (fun k_ => some k_ ≠ (v0_ : Value).ownBlock ∧ some k_ ≠ (v1_ : Value).ownBlock) v2_ r3 ∧ Below w.heap.size w w' := by
 have hu53 := Try.underlying53
 have HB := xm (Below.refl w.heap.size w)
 have H : ((impl_same.f).bind fun bt433 => (some (([] : List (S51)), ([] : List (S51)), ([] : List (S51)), bt433.1, bt433.2))) = some (r1, r2, r3, r4, r5) := h
 clear h
 replace H := Option.bind_eq_some_iff.mp H
 obtain ⟨⟨t433, t434⟩, A10, H⟩ := H
 replace H : (some (([] : List (S51)), ([] : List (S51)), ([] : List (S51)), t433, t434)) = some (r1, r2, r3, r4, r5) := H
 have A1 := xm A10
 clear A10
 simp only [Option.some.injEq, Prod.mk.injEq] at H
 obtain ⟨rfl, rfl, rfl, rfl, rfl⟩ := H
 go_enter Try.func103, Try.ntmps103
 go_wp2_with (first | ((with_reducible refine gate_dst (N := 0) rfl ?_); refine box_event ?hg (N := 0) ?hd (cs := #[.slice none 0 0, .slice none 0 0, .slice none 0 0, .int .i64 0, .int .i64 0]) (t := 53) ?hr ?_; (case hd => rfl); (case hg => rfl); (case hr => first | (go_simp; done) | (go_simp; rfl)); intro gb432 hg w2 hbox hb; have n0_ := xm (below_step (by repeat (first | (with_reducible first | exact HB.out | apply xa | apply xn | apply xd) | exact HB.out)) hb); have n1_ := xm (hbox); have n2_ := xm ((by rw [hg]; exact (xz (by repeat (first | (with_reducible first | exact HB.out | apply xa | apply xn | apply xd) | exact HB.out))) : w.heap.size ≤ gb432)); have n3_ := xm ((by rw [hg]; exact (xz (by repeat (first | (with_reducible first | exact HB.out | apply xa | apply xn | apply xd) | exact HB.out))) : w.heap.size ≤ gb432)); clear HB; have HB := n0_; have BK432 := n1_; have GW432 := n2_; have GE432 := n3_; clear n0_ n1_ n2_ n3_; clear hb hbox hg) | ((with_reducible refine gate_callee (f := 150) rfl ?_); refine goesL_ (some 1) rfl rfl Try.func150 (by kernel_rfl) rfl #[] rfl (by (try simp only [List.map_toArray, List.map_cons, List.map_nil]); first | done | rfl | (simp only [List.length_drop, List.length_take]; rfl)) ?_; (with_reducible refine (impl_same.calls  t433 t434 _ A1.out).mono ?_); rintro e w3 ⟨rfl, hb⟩; refine ⟨_, rfl, ?_⟩; have n0_ := xm (blk_below (g := gb432) (o := .cells #[.slice none 0 0, .slice none 0 0, .slice none 0 0, .int .i64 0, .int .i64 0] 53 (0, 0)) (by (with_reducible repeat (first | refine xq ?_ _ | refine xr ?_ | refine xo ?_ _)); exact BK432.out) hb); have n1_ := xm (below_step (by repeat (first | (with_reducible first | exact HB.out | apply xa | apply xn | apply xd | refine xt ?_ GE432.out) | exact HB.out)) hb); clear BK432; clear HB; have BK432 := n0_; have HB := n1_; clear n0_ n1_; (try clear hb); (try clear hb2); (try clear hk); (try clear hi); have hcz4_0 : w3.cell? ⟨gb432, 0, none⟩ = some (.slice none 0 0) := (xc BK432.out 0).trans rfl; have hcz4_1 : w3.cell? ⟨gb432, 1, none⟩ = some (.slice none 0 0) := (xc BK432.out 1).trans rfl; have hcz4_2 : w3.cell? ⟨gb432, 2, none⟩ = some (.slice none 0 0) := (xc BK432.out 2).trans rfl; have hcz4_3 : w3.cell? ⟨gb432, 3, none⟩ = some (.int .i64 0) := (xc BK432.out 3).trans rfl; have hcz4_4 : w3.cell? ⟨gb432, 4, none⟩ = some (.int .i64 0) := (xc BK432.out 4).trans rfl; have hfz4_0 := xf BK432.out 0; have hfz4_1 := xf BK432.out 1; have hfz4_2 := xf BK432.out 2; have hfz4_3 := xf BK432.out 3; have hfz4_4 := xf BK432.out 4))
 refine bodyPost_ret (results_cell_row rfl _ _ gb432 53 #[.slice none 0 0, .slice none 0 0, .slice none 0 0, .int .i64 t433, .int .i64 t434] (0, 0) _ rfl (by (with_reducible repeat (first | refine xq ?_ _ | refine xr ?_ | refine xo ?_ _)); refine blk_put (cs := #[.slice none 0 0, .slice none 0 0, .slice none 0 0, .int .i64 t433, .int .i64 0]) ?_ 4 _ rfl; (with_reducible repeat (first | refine xq ?_ _ | refine xr ?_ | refine xo ?_ _)); refine blk_put (cs := #[.slice none 0 0, .slice none 0 0, .slice none 0 0, .int .i64 0, .int .i64 0]) ?_ 3 _ rfl; (with_reducible repeat (first | refine xq ?_ _ | refine xr ?_ | refine xo ?_ _)); refine blk_put (cs := #[.slice none 0 0, .slice none 0 0, .slice none 0 0, .int .i64 0, .int .i64 0]) ?_ 2 _ rfl; (with_reducible repeat (first | refine xq ?_ _ | refine xr ?_ | refine xo ?_ _)); refine blk_put (cs := #[.slice none 0 0, .slice none 0 0, .slice none 0 0, .int .i64 0, .int .i64 0]) ?_ 1 _ rfl; (with_reducible repeat (first | refine xq ?_ _ | refine xr ?_ | refine xo ?_ _)); refine blk_put (cs := #[.slice none 0 0, .slice none 0 0, .slice none 0 0, .int .i64 0, .int .i64 0]) ?_ 0 _ rfl; (with_reducible repeat (first | refine xq ?_ _ | refine xr ?_ | refine xo ?_ _)); exact BK432.out) Try.underlying53 rfl (by kernel_rfl)) rfl ?_
 exact ⟨_, _, _, by first | rfl | (simp [errW_none, errW_some] <;> rfl) | (simp [*, errW_none, errW_some] <;> rfl), by first | exact Kd.R_nil _ _ _ _ _ | exact Kd.N_nil _ _ _ _ _ | exact Kd.V_nil _ _ _ _ _ | exact Kd.Q_nil _ _ _ _ _ | exact Kd.S_nil _ _ _ _ _, by first | exact Kd.R_nil _ _ _ _ _ | exact Kd.N_nil _ _ _ _ _ | exact Kd.V_nil _ _ _ _ _ | exact Kd.Q_nil _ _ _ _ _ | exact Kd.S_nil _ _ _ _ _, by first | exact Kd.R_nil _ _ _ _ _ | exact Kd.N_nil _ _ _ _ _ | exact Kd.V_nil _ _ _ _ _ | exact Kd.Q_nil _ _ _ _ _ | exact Kd.S_nil _ _ _ _ _, by repeat (first | (with_reducible first | exact HB.out | apply xa | apply xn | apply xd | refine xt ?_ GE432.out) | exact HB.out)⟩

end Go.Proofs.Ytpbpglbldgpckaa.G
