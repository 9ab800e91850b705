/- Written by a program of this claim's own, out of the translation: functions of the program as plain functions, and that the calls answer as these. No conditions. -/
import Derived.Test.YtaddemalepndfahG0
import Derived.Test.YtaddemalepndfahG1
import Derived.Test.YtaddemalepndfahG2
namespace Go.Proofs.Ytaddemalepndfah.G
open Go.RowKit Go.Proofs.Ytaddemalepndfah.X Go.Proofs.YtaddemalepndfahW.PrintWords Go.Proofs.YtaddemalepndfahW.PrintLast Go.Proofs.YtaddemalepndfahW.PrintMore
attribute [local go_sem] max2_int min2_int max_two min_two max_three min_three max_four min_four   -- for this text's walks alone
set_option linter.unusedVariables false
set_option linter.unusedSimpArgs false

/-! ### spec_l7Closure: function 19 -/
mutual
def spec_l7Closure.l0 : Nat → List (S35) → List Int → Option (List Int)
 | 0, _, _ => none
 | k + 1, x0, x5 => spec_l7Closure.l1 k x0 x5 (x5.length : Int) x0 (x0.length : Int) 0
def spec_l7Closure.l1 : Nat → List (S35) → List Int → Int → List (S35) → Int → Int → Option (List Int)
 | 0, _, _, _, _, _, _ => none
 | k + 1, x0, x5, x6, x16, x17, x18 => if x18 < x17 then (if 0 ≤ x18 then (if x18 < (x16.length : Int) then ((spec_l7All.f k x5 ((rd_T35 x16 x18).f0)).bind fun t162 => (if t162 = true then (spec_l7Closure.l2 k x0 x5 x6 x16 x17 x18 ((rd_T35 x16 x18).f1) (((rd_T35 x16 x18).f1).length : Int) 0) else (spec_l7Closure.l1 k x0 x5 x6 x16 x17 (wrap64 (x18 + 1))))) else (none)) else (none)) else (if (x5.length : Int) = x6 then (some x5) else (spec_l7Closure.l0 k x0 x5))
def spec_l7Closure.l2 : Nat → List (S35) → List Int → Int → List (S35) → Int → Int → List Int → Int → Int → Option (List Int)
 | 0, _, _, _, _, _, _, _, _, _ => none
 | k + 1, x0, x5, x6, x16, x17, x18, x27, x28, x29 => if x29 < x28 then (if 0 ≤ x29 then (if x29 < (x27.length : Int) then ((spec_l7Put.f k x5 (rd x27 x29)).bind fun t164 => (spec_l7Closure.l2 k x0 t164 x6 x16 x17 x18 x27 x28 (wrap64 (x29 + 1)))) else (none)) else (none)) else (spec_l7Closure.l1 k x0 x5 x6 x16 x17 (wrap64 (x18 + 1)))
end
def spec_l7Closure.f (k : Nat) (l0 : List (S35)) (l1 : List Int) : Option (List Int) := (some (([] : List Int) : List Int)).bind fun y154 => (if y154.length + l1.length < 17592186044416 then (spec_l7Closure.l0 k l0 (y154 ++ l1)) else (none))
theorem spec_l7Closure.mono_l : ∀ k, (∀ y0 y1, LeO (spec_l7Closure.l0 k y0 y1) (spec_l7Closure.l0 (k + 1) y0 y1)) ∧ (∀ y0 y1 y2 y3 y4 y5, LeO (spec_l7Closure.l1 k y0 y1 y2 y3 y4 y5) (spec_l7Closure.l1 (k + 1) y0 y1 y2 y3 y4 y5)) ∧ (∀ y0 y1 y2 y3 y4 y5 y6 y7 y8, LeO (spec_l7Closure.l2 k y0 y1 y2 y3 y4 y5 y6 y7 y8) (spec_l7Closure.l2 (k + 1) y0 y1 y2 y3 y4 y5 y6 y7 y8))
 | 0 => ⟨fun _ _ r h => by simp [spec_l7Closure.l0] at h, fun _ _ _ _ _ _ r h => by simp [spec_l7Closure.l1] at h, fun _ _ _ _ _ _ _ _ _ r h => by simp [spec_l7Closure.l2] at h⟩
 | k + 1 => by
  obtain ⟨ih0, ih1, ih2⟩ := spec_l7Closure.mono_l k
  refine ⟨?_, ?_, ?_⟩
  ·intro y0 y1
   unfold spec_l7Closure.l0
   repeat' first
   | (with_reducible exact ih0 _ _)
   | (with_reducible exact ih1 _ _ _ _ _ _)
   | (with_reducible exact ih2 _ _ _ _ _ _ _ _ _)
   | (with_reducible exact spec_l7All.mono _ _ _)
   | (with_reducible exact spec_l7Put.mono _ _ _)
   | (with_reducible exact LeO.refl _)
   | (with_reducible exact LeO.none _)
   | (with_reducible refine LeO.ite ?_ ?_)
   | (with_reducible refine LeO.bind ?_ (fun _ => ?_))
   | exact ih0 _ _
   | exact ih1 _ _ _ _ _ _
   | exact ih2 _ _ _ _ _ _ _ _ _
   | exact spec_l7All.mono _ _ _
   | exact spec_l7Put.mono _ _ _
   | exact LeO.none _
   | refine LeO.ite ?_ ?_
   | refine LeO.bind ?_ (fun _ => ?_)
  ·intro y0 y1 y2 y3 y4 y5
   unfold spec_l7Closure.l1
   repeat' first
   | (with_reducible exact ih0 _ _)
   | (with_reducible exact ih1 _ _ _ _ _ _)
   | (with_reducible exact ih2 _ _ _ _ _ _ _ _ _)
   | (with_reducible exact spec_l7All.mono _ _ _)
   | (with_reducible exact spec_l7Put.mono _ _ _)
   | (with_reducible exact LeO.refl _)
   | (with_reducible exact LeO.none _)
   | (with_reducible refine LeO.ite ?_ ?_)
   | (with_reducible refine LeO.bind ?_ (fun _ => ?_))
   | exact ih0 _ _
   | exact ih1 _ _ _ _ _ _
   | exact ih2 _ _ _ _ _ _ _ _ _
   | exact spec_l7All.mono _ _ _
   | exact spec_l7Put.mono _ _ _
   | exact LeO.none _
   | refine LeO.ite ?_ ?_
   | refine LeO.bind ?_ (fun _ => ?_)
  ·intro y0 y1 y2 y3 y4 y5 y6 y7 y8
   unfold spec_l7Closure.l2
   repeat' first
   | (with_reducible exact ih0 _ _)
   | (with_reducible exact ih1 _ _ _ _ _ _)
   | (with_reducible exact ih2 _ _ _ _ _ _ _ _ _)
   | (with_reducible exact spec_l7All.mono _ _ _)
   | (with_reducible exact spec_l7Put.mono _ _ _)
   | (with_reducible exact LeO.refl _)
   | (with_reducible exact LeO.none _)
   | (with_reducible refine LeO.ite ?_ ?_)
   | (with_reducible refine LeO.bind ?_ (fun _ => ?_))
   | exact ih0 _ _
   | exact ih1 _ _ _ _ _ _
   | exact ih2 _ _ _ _ _ _ _ _ _
   | exact spec_l7All.mono _ _ _
   | exact spec_l7Put.mono _ _ _
   | exact LeO.none _
   | refine LeO.ite ?_ ?_
   | refine LeO.bind ?_ (fun _ => ?_)
theorem spec_l7Closure.mono : ∀ a0 a1 k, LeO (spec_l7Closure.f k a0 a1) (spec_l7Closure.f (k + 1) a0 a1) := by
 intro a0 a1 k
 obtain ⟨ih0, ih1, ih2⟩ := spec_l7Closure.mono_l k
 unfold spec_l7Closure.f
 repeat' first
   | (with_reducible exact ih0 _ _)
   | (with_reducible exact ih1 _ _ _ _ _ _)
   | (with_reducible exact ih2 _ _ _ _ _ _ _ _ _)
   | (with_reducible exact spec_l7All.mono _ _ _)
   | (with_reducible exact spec_l7Put.mono _ _ _)
   | (with_reducible exact LeO.refl _)
   | (with_reducible exact LeO.none _)
   | (with_reducible refine LeO.ite ?_ ?_)
   | (with_reducible refine LeO.bind ?_ (fun _ => ?_))
   | exact ih0 _ _
   | exact ih1 _ _ _ _ _ _
   | exact ih2 _ _ _ _ _ _ _ _ _
   | exact spec_l7All.mono _ _ _
   | exact spec_l7Put.mono _ _ _
   | exact LeO.none _
   | refine LeO.ite ?_ ?_
   | refine LeO.bind ?_ (fun _ => ?_)
set_option maxHeartbeats 8000000 in
set_option maxRecDepth 100000 in
theorem spec_l7Closure.calls (k : Nat) (A0 : Option Addr) (c0 : Nat) (l0 : List (S35)) (A1 : Option Addr) (c1 : Nat) (l1 : List Int) (r : List Int) (w : World) (hr0 : Kd.C k35 w A0 l0.length l0) (hc0 : l0.length ≤ c0) (hr1 : Kd.C (Kd.int .i64) w A1 l1.length l1) (hc1 : l1.length ≤ c1) (h : spec_l7Closure.f k l0 l1 = some r) :
  Calls Try.prog 19 #[.slice A0 l0.length c0, .slice A1 l1.length c1] w fun e w' => ∃ v0_ : Value, e = .returned (v0_) ∧ Kd.R (Kd.int .i64) 3 w' w.heap.size (fun _ => True) v0_ r ∧ Below w.heap.size w w' := by
 have hu35 := Try.underlying35
 have HR0 := xm hr0
 have HC0 := xm hc0
 clear hr0 hc0
 have HR1 := xm hr1
 have HC1 := xm hc1
 clear hr1 hc1
 have HB := xm (Below.refl w.heap.size w)
 have H : ((some (([] : List Int) : List Int)).bind fun y154 => (if y154.length + l1.length < 17592186044416 then (spec_l7Closure.l0 k l0 (y154 ++ l1)) else (none))) = some r := h
 clear h
 obtain ⟨y154, hy154⟩ : ∃ y_ : List Int, y_ = (([] : List Int)) := ⟨_, rfl⟩
 replace H : (if y154.length + l1.length < 17592186044416 then (spec_l7Closure.l0 k l0 (y154 ++ l1)) else (none)) = some r := by first | (rw [hy154]; with_reducible exact H) | (have H2_ := (Option.bind_some _ _).symm.trans H; rw [hy154]; with_reducible exact H2_) | (have H2_ := (Option.bind_some _ _).symm.trans H; with_reducible exact H2_) | with_reducible exact H | (rw [hy154]; exact H) | exact H
 have Ny154 := xm hy154
 clear hy154
 by_cases c3 : y154.length + l1.length < 17592186044416
 ·rw [if_pos c3] at H
  have LMc3 := xm c3
  clear c3
  obtain ⟨y157, hy157⟩ : ∃ y_ : List Int, y_ = (y154 ++ l1) := ⟨_, rfl⟩
  replace H : (spec_l7Closure.l0 k l0 y157) = some r := by first | (rw [hy157]; with_reducible exact H) | (have H2_ := (Option.bind_some _ _).symm.trans H; rw [hy157]; with_reducible exact H2_) | (have H2_ := (Option.bind_some _ _).symm.trans H; with_reducible exact H2_) | with_reducible exact H | (rw [hy157]; exact H) | exact H
  have Ny157 := xm hy157
  clear hy157
  have H' := xm H
  clear H
  go_enter Try.func19, Try.ntmps19
  go_wp2_with (first | ((with_reducible refine gate_dst (N := 11) rfl ?_); refine Kd.R_lit (Kd.int .i64) _ 3 ?hg (N := 11) ?hd (xs := ([] : List Int)) (inner := []) (ok := fun _ => True) (okp := fun _ => True) ?hr ?hp (fun _ hk => hk) trivial (Below.refl _ _) (Nat.le_refl _) (by simp) ?_; (case hd => rfl); (case hg => rfl); (case hr => exact zB); (case hp => exact (Reps.none _ _)); intro v155 w4 ho5 hb hg_ hnew_; clear hg_ hnew_; (first | rw [← Ny154.out] at ho5 | (simp only [Int.reduceToNat] at ho5; rw [← Ny154.out] at ho5)); have n0_ := xm (Kd.R_lower ho5 (xz bB)); have n1_ := xm (below_step bB hb); revert n0_ n1_; clear HB; intro HO156 HB; clear hb ho5) | ((with_reducible refine gate_builtin (b := .append) (xs := #[.tmp 11, .tmp 12]) rfl ?_); at_builtin; refine Kd.R_append_rows (Kd.int .i64) (w0 := w) w.heap.size rfl (.tmp 11) (.tmp 12) 23 3 (.int .i64 0) 8 rfl Try.underlying23 info3 rfl (by decide) (by omega) v155 y154 l1 _ _ _ (fun _ => True) (fun _ => False) rfl rfl ?aO ?aR (fun _ _ h => h) (fun _ h => h.elim) ?aF ?aB ?aS ?aL ?_; (case aR => exact cB (Kd.C_below HR1.out HB.out)); (case aB => exact bB); (case aF => exact (fun _ _ => trivial)); (case aO => exact (rB HO156)); (case aS => exact (xz bB)); (case aL => have := LMc3.out; omega); intro v158 w6 ho hb hg hat; rw [← Ny157.out] at ho; have n0_ := xm (hb); have n1_ := xm (ho); revert n0_ n1_; clear HB HO156; intro HB HO159; clear ho hb hg hat))
  go_loopg [5] k (fun kq v5 w' => ∃ (x5_1 : List Int), Aside0 (spec_l7Closure.l0 kq l0 x5_1 = some r) ∧ Aside0 (kq ≤ k) ∧ Aside0 (Kd.R (Kd.int .i64) 3 w' w.heap.size (fun _ => True) v5 x5_1) ∧ Aside0 (Below w.heap.size w w'))
  case atStart => exact ⟨(y157), H', ⟨Nat.le_refl _⟩, ⟨rB HO159⟩, ⟨bG⟩⟩
  case round =>
   clear H'
   try clear c1
   try clear p2
   try clear c3
   obtain ⟨x5_1, HA, HK1, HO_5, HB⟩ := hrel
   cases gk with
   | zero => exact absurd HA.out (by simp [spec_l7Closure.l0])
   | succ k1 =>
    have H := HA.out
    clear HA
    simp only [spec_l7Closure.l0] at H
    have H' := xm H
    clear H
    obtain ⟨Ao7, co7, eo7⟩ := Kd.R_slice HO_5.out
    subst eo7
    go_wp2
    go_loopg [5, 18] k1 (fun kq v5 v18 w' => ∃ (x5_2 : List Int) (x18_2 : Int), v18 = .int .i64 x18_2 ∧ Aside0 (spec_l7Closure.l1 kq l0 x5_2 (x5_1.length : Int) l0 (l0.length : Int) x18_2 = some r) ∧ Aside0 (kq ≤ k1) ∧ Aside0 (Kd.R (Kd.int .i64) 3 w' w.heap.size (fun _ => True) v5 x5_2) ∧ Aside0 (Below w.heap.size w w'))
    case atStart => exact ⟨(x5_1), (0), sB, H', ⟨Nat.le_refl _⟩, ⟨rB HO_5⟩, ⟨bG⟩⟩
    case round =>
     clear H'
     try clear c1
     try clear p2
     try clear c3
     try clear p2
     obtain ⟨x5_2, x18_2, rfl, HA, HK2, HO_5, HB⟩ := hrel
     cases gk with
     | zero => exact absurd HA.out (by simp [spec_l7Closure.l1])
     | succ k2 =>
      have H := HA.out
      clear HA
      simp only [spec_l7Closure.l1] at H
      by_cases c8 : x18_2 < (l0.length : Int)
      ·rw [if_pos c8] at H
       have c8b0 : decide (x18_2 < (l0.length : Int)) = true := decide_eq_true c8
       clear c8
       by_cases c9 : 0 ≤ x18_2
       ·rw [if_pos c9] at H
        have c9b0 : decide (0 ≤ x18_2) = true := decide_eq_true c9
        clear c9
        by_cases c10 : x18_2 < (l0.length : Int)
        ·rw [if_pos c10] at H
         have c10b0 : decide (x18_2 < (l0.length : Int)) = true := decide_eq_true c10
         clear c10
         replace H := Option.bind_eq_some_iff.mp H
         obtain ⟨t162, A110, H⟩ := H
         replace H : (if t162 = true then (spec_l7Closure.l2 k2 l0 x5_2 (x5_1.length : Int) l0 (l0.length : Int) x18_2 ((rd_T35 l0 x18_2).f1) (((rd_T35 l0 x18_2).f1).length : Int) 0) else (spec_l7Closure.l1 k2 l0 x5_2 (x5_1.length : Int) l0 (l0.length : Int) (wrap64 (x18_2 + 1)))) = some r := H
         have A11 := xm A110
         clear A110
         by_cases c12 : t162 = true
         ·subst c12
          have H1 : (spec_l7Closure.l2 k2 l0 x5_2 (x5_1.length : Int) l0 (l0.length : Int) x18_2 ((rd_T35 l0 x18_2).f1) (((rd_T35 l0 x18_2).f1).length : Int) 0) = some r := by first | (with_reducible rfl) | (rw [if_pos rfl] at H; exact H)
          clear H
          have H := H1
          clear H1
          have H' := xm H
          clear H
          have p160 : 0 ≤ (x18_2 : Int) := of_decide_eq_true aB
          have q160 : x18_2 < (l0.length : Int) := of_decide_eq_true aB
          obtain ⟨ad160, A160_0, c160_0, A160_1, c160_1, e160, hx160_0, hx160_1, hl160_0, hi160_0, hl160_1, hi160_1⟩ := at_T35 HR0.out x18_2 p160 q160
          cases e160
          replace hx160_0 := hU hx160_0
          replace hx160_1 := hU hx160_1
          have HR160_0 := xm hi160_0
          have HC160_0 := xm hl160_0
          clear hi160_0 hl160_0
          have HR160_1 := xm hi160_1
          have HC160_1 := xm hl160_1
          clear hi160_1 hl160_1
          replace p160 := eq_true p160
          replace q160 := eq_true q160
          go_wp2_with (first | ((with_reducible refine gate_dst (N := 8) rfl ?_); refine box_event ?hg (N := 8) ?hd (cs := #[.slice none 0 0, .slice none 0 0]) (t := 35) ?hr ?_; (case hd => rfl); (case hg => rfl); (case hr => exact zB); intro gb161 hg w13 hbox hb; have n0_ := xm (Kd.R_below (rB HO_5) hb); have n1_ := xm (below_step bB hb); have n2_ := xm (hbox); have n3_ := xm ((by rw [hg]; exact (xz bB) : w.heap.size ≤ gb161)); have n4_ := xm ((by rw [hg]; exact (xz bB) : w.heap.size ≤ gb161)); revert n0_ n1_ n2_ n3_ n4_; clear HO_5 HB; intro HO_5 HB BK161 GW161 GE161; clear hb hbox hg; obtain ⟨hcz14_0, hcz14_1, hfz14_0, hfz14_1⟩ := cz2 BK161.out; obtain ⟨Ao15, co15, eo15⟩ := Kd.R_slice HO_5.out; subst eo15) | ((with_reducible refine gate_callee (f := 36) rfl ?_); refine goesL_ (some 25) rfl rfl Try.func36 (by kernel_rfl) rfl #[.slice Ao15 x5_2.length co15, .slice A160_0 ((rd_T35 l0 x18_2).f0).length c160_0] rfl mB ?_; (with_reducible refine (spec_l7All.calls k2 _ _ x5_2 _ _ ((rd_T35 l0 x18_2).f0) true _ ?side1 ?side2 ?side3 ?side4 A11.out).mono ?_); (case side1 => refine (Kd.R_reads' (e := 3) (base := w.heap.size) (ok := fun k_ => True) (n := x5_2.length) (c := co15) ?_).2.2; exact (by (with_reducible repeat (first | apply Kd.R_alloc | apply Kd.R_drewN | apply Kd.R_drew)); exact (Kd.R_mono (Kd.R_far (p := ⟨gb161, 1, none⟩) (Kd.R_far (p := ⟨gb161, 0, none⟩) (Kd.R_types HO_5.out BK161.out (by decide)) (fun _ hk => hk.2) (.slice A160_0 ((rd_T35 l0 x18_2).f0).length c160_0)) (fun _ hk => hk.2) (.slice A160_1 ((rd_T35 l0 x18_2).f1).length c160_1)) (fun _ h_ => h_.1)))); (case side2 => exact (Kd.R_reads' HO_5.out).2.1); (case side3 => exact Kd.C_below HR160_0.out bG); (case side4 => exact HC160_0.out); rintro e w' ⟨rfl, ⟨nd, rfl⟩⟩; refine ⟨_, rfl, ?_⟩))
          go_loopg [5, 29] k2 (fun kq v5 v29 w' => ∃ (x5_3 : List Int) (x29_3 : Int), v29 = .int .i64 x29_3 ∧ Aside0 (spec_l7Closure.l2 kq l0 x5_3 (x5_1.length : Int) l0 (l0.length : Int) x18_2 ((rd_T35 l0 x18_2).f1) (((rd_T35 l0 x18_2).f1).length : Int) x29_3 = some r) ∧ Aside0 (kq ≤ k2) ∧ Aside0 (Kd.R (Kd.int .i64) 3 w' w.heap.size (fun _ => True) v5 x5_3) ∧ Aside0 (w'.heap[gb161]? = some (.cells #[(.slice A160_0 ((rd_T35 l0 x18_2).f0).length c160_0), (.slice A160_1 ((rd_T35 l0 x18_2).f1).length c160_1)] 35 (0, 0))) ∧ Aside0 (Below w.heap.size w w'))
          case atStart => exact ⟨(x5_2), (0), sB, H', ⟨Nat.le_refl _⟩, ⟨by (with_reducible repeat (first | apply Kd.R_alloc | apply Kd.R_drewN | apply Kd.R_drew)); exact Kd.R_mono (Kd.R_far (p := ⟨gb161, 1, none⟩) (Kd.R_far (p := ⟨gb161, 0, none⟩) (Kd.R_types HO_5.out BK161.out (by decide)) (fun _ hk => hk.2) (.slice A160_0 ((rd_T35 l0 x18_2).f0).length c160_0)) (fun _ hk => hk.2) (.slice A160_1 ((rd_T35 l0 x18_2).f1).length c160_1)) (fun _ hk => trivial)⟩, ⟨by (with_reducible repeat (first | refine xq ?_ _ | refine xr ?_ | refine xo ?_ _)); refine blk_put (cs := #[.slice A160_0 ((rd_T35 l0 x18_2).f0).length c160_0, .slice none 0 0]) ?_ 1 _ rfl; (with_reducible repeat (first | refine xq ?_ _ | refine xr ?_ | refine xo ?_ _)); refine blk_put (cs := #[.slice none 0 0, .slice none 0 0]) ?_ 0 _ rfl; (with_reducible repeat (first | refine xq ?_ _ | refine xr ?_ | refine xo ?_ _)); exact BK161.out⟩, ⟨bG⟩⟩
          case round =>
           clear H'
           try clear c1
           try clear p1
           try clear q1
           try clear hx1
           try clear p2
           try clear c3
           try clear p6
           try clear c8
           try clear c8b0
           try clear c9
           try clear c9b0
           try clear c10
           try clear c10b0
           try clear c12
           try clear hcz14_0 hcz14_1 hfz14_0 hfz14_1
           try clear hx160_0
           try clear hx160_1
           try clear p160
           try clear p2
           try clear q160
           obtain ⟨x5_3, x29_3, rfl, HA, HK3, HO_5, BK161, HB⟩ := hrel
           cases gk with
           | zero => exact absurd HA.out (by simp [spec_l7Closure.l2])
           | succ k3 =>
            have H := HA.out
            clear HA
            simp only [spec_l7Closure.l2] at H
            by_cases c16 : x29_3 < (((rd_T35 l0 x18_2).f1).length : Int)
            ·rw [if_pos c16] at H
             have c16b0 : decide (x29_3 < (((rd_T35 l0 x18_2).f1).length : Int)) = true := decide_eq_true c16
             clear c16
             by_cases c17 : 0 ≤ x29_3
             ·rw [if_pos c17] at H
              have c17b0 : decide (0 ≤ x29_3) = true := decide_eq_true c17
              clear c17
              by_cases c18 : x29_3 < (((rd_T35 l0 x18_2).f1).length : Int)
              ·rw [if_pos c18] at H
               have c18b0 : decide (x29_3 < (((rd_T35 l0 x18_2).f1).length : Int)) = true := decide_eq_true c18
               clear c18
               replace H := Option.bind_eq_some_iff.mp H
               obtain ⟨t164, A190, H⟩ := H
               replace H : (spec_l7Closure.l2 k3 l0 t164 (x5_1.length : Int) l0 (l0.length : Int) x18_2 ((rd_T35 l0 x18_2).f1) (((rd_T35 l0 x18_2).f1).length : Int) (wrap64 (x29_3 + 1))) = some r := H
               have A19 := xm A190
               clear A190
               have H' := xm H
               clear H
               have p163 : 0 ≤ (x29_3 : Int) := of_decide_eq_true aB
               have q163 : x29_3 < (((rd_T35 l0 x18_2).f1).length : Int) := of_decide_eq_true aB
               obtain ⟨ad163, e163, hx163_0⟩ := Kd.at_int HR160_1.out x29_3 p163 q163
               cases e163
               replace hx163_0 := hU hx163_0
               replace p163 := eq_true p163
               replace q163 := eq_true q163
               obtain ⟨Ao20, co20, eo20⟩ := Kd.R_slice HO_5.out
               subst eo20
               go_wp2_with (first | ((with_reducible refine gate_callee (f := 37) rfl ?_); refine goesL_ (some 35) rfl rfl Try.func37 (by kernel_rfl) rfl #[.slice Ao20 x5_3.length co20, .int .i64 (rd ((rd_T35 l0 x18_2).f1) x29_3)] rfl mB ?_; (with_reducible refine (spec_l7Put.calls k3 (fun k_ => some k_ = (.slice Ao20 x5_3.length co20 : Value).ownBlock) (.slice Ao20 x5_3.length co20) x5_3 (rd ((rd_T35 l0 x18_2).f1) x29_3) t164 w _ ?side1 ?side2 A19.out).mono ?_); (case side1 => repeat (first | (with_reducible first | exact HB.out | apply xa | apply xn | apply xd | refine xt ?_ GE161.out) | exact HB.out)); (case side2 => exact Kd.R_tight rfl HO_5.out); rintro e w21 ⟨v165, rfl, ho0, hb, hkp⟩; refine ⟨_, rfl, ?_⟩; have n0_ := xm (blk_kept (kB BK161) hkp (fun hs_ => (fun e_ => (Kd.R_ne HO_5.out BK161.out (by decide)) e_) hs_)); have n1_ := xm (Kd.R_mono (ok' := fun k_ => True) ho0 (fun k_ hk_ => trivial)); have n2_ := xm (hb); revert n0_ n1_ n2_; clear BK161 HB HO_5; intro BK161 HO166 HB; (try clear hb); (try clear hkp); (try clear ho0)))
               go_roundg k3
               case measure => have := HK1.out; have := HK2.out; have := HK3.out; omega
               case rel => exact ⟨(t164), (wrap64 (x29_3 + 1)), sB, H', ⟨by have := HK1.out; have := HK2.out; have := HK3.out; omega⟩, ⟨rB HO166⟩, ⟨kB BK161⟩, ⟨bG⟩⟩
              ·rw [if_neg c18] at H
               exact absurd H (by simp)
             ·rw [if_neg c17] at H
              exact absurd H (by simp)
            ·rw [if_neg c16] at H
             have c16b0 : decide (x29_3 < (((rd_T35 l0 x18_2).f1).length : Int)) = false := decide_eq_false c16
             clear c16
             have H' := xm H
             clear H
             go_wp2
             go_roundg k3
             case measure => have := HK1.out; have := HK2.out; have := HK3.out; omega
             case rel => exact ⟨(x5_3), (wrap64 (x18_2 + 1)), sB, H', ⟨by have := HK1.out; have := HK2.out; have := HK3.out; omega⟩, ⟨rB HO_5⟩, ⟨bG⟩⟩
         ·replace c12 := Bool.eq_false_iff.mpr c12
          subst c12
          have H1 : (spec_l7Closure.l1 k2 l0 x5_2 (x5_1.length : Int) l0 (l0.length : Int) (wrap64 (x18_2 + 1))) = some r := by first | (with_reducible rfl) | (rw [if_neg (show ¬ (false = true) by decide)] at H; exact H)
          clear H
          have H := H1
          clear H1
          have H' := xm H
          clear H
          have p160 : 0 ≤ (x18_2 : Int) := of_decide_eq_true aB
          have q160 : x18_2 < (l0.length : Int) := of_decide_eq_true aB
          obtain ⟨ad160, A160_0, c160_0, A160_1, c160_1, e160, hx160_0, hx160_1, hl160_0, hi160_0, hl160_1, hi160_1⟩ := at_T35 HR0.out x18_2 p160 q160
          cases e160
          replace hx160_0 := hU hx160_0
          replace hx160_1 := hU hx160_1
          have HR160_0 := xm hi160_0
          have HC160_0 := xm hl160_0
          clear hi160_0 hl160_0
          have HR160_1 := xm hi160_1
          have HC160_1 := xm hl160_1
          clear hi160_1 hl160_1
          replace p160 := eq_true p160
          replace q160 := eq_true q160
          go_wp2_with (first | ((with_reducible refine gate_dst (N := 8) rfl ?_); refine box_event ?hg (N := 8) ?hd (cs := #[.slice none 0 0, .slice none 0 0]) (t := 35) ?hr ?_; (case hd => rfl); (case hg => rfl); (case hr => exact zB); intro gb161 hg w22 hbox hb; have n0_ := xm (Kd.R_below (rB HO_5) hb); have n1_ := xm (below_step bB hb); have n2_ := xm (hbox); have n3_ := xm ((by rw [hg]; exact (xz bB) : w.heap.size ≤ gb161)); have n4_ := xm ((by rw [hg]; exact (xz bB) : w.heap.size ≤ gb161)); revert n0_ n1_ n2_ n3_ n4_; clear HO_5 HB; intro HO_5 HB BK161 GW161 GE161; clear hb hbox hg; obtain ⟨hcz23_0, hcz23_1, hfz23_0, hfz23_1⟩ := cz2 BK161.out; obtain ⟨Ao24, co24, eo24⟩ := Kd.R_slice HO_5.out; subst eo24) | ((with_reducible refine gate_callee (f := 36) rfl ?_); refine goesL_ (some 25) rfl rfl Try.func36 (by kernel_rfl) rfl #[.slice Ao24 x5_2.length co24, .slice A160_0 ((rd_T35 l0 x18_2).f0).length c160_0] rfl mB ?_; (with_reducible refine (spec_l7All.calls k2 _ _ x5_2 _ _ ((rd_T35 l0 x18_2).f0) false _ ?side1 ?side2 ?side3 ?side4 A11.out).mono ?_); (case side1 => refine (Kd.R_reads' (e := 3) (base := w.heap.size) (ok := fun k_ => True) (n := x5_2.length) (c := co24) ?_).2.2; exact (by (with_reducible repeat (first | apply Kd.R_alloc | apply Kd.R_drewN | apply Kd.R_drew)); exact (Kd.R_mono (Kd.R_far (p := ⟨gb161, 1, none⟩) (Kd.R_far (p := ⟨gb161, 0, none⟩) (Kd.R_types HO_5.out BK161.out (by decide)) (fun _ hk => hk.2) (.slice A160_0 ((rd_T35 l0 x18_2).f0).length c160_0)) (fun _ hk => hk.2) (.slice A160_1 ((rd_T35 l0 x18_2).f1).length c160_1)) (fun _ h_ => h_.1)))); (case side2 => exact (Kd.R_reads' HO_5.out).2.1); (case side3 => exact Kd.C_below HR160_0.out bG); (case side4 => exact HC160_0.out); rintro e w' ⟨rfl, ⟨nd, rfl⟩⟩; refine ⟨_, rfl, ?_⟩))
          go_roundg k2
          case measure => have := HK1.out; have := HK2.out; omega
          case rel => exact ⟨(x5_2), (wrap64 (x18_2 + 1)), sB, H', ⟨by have := HK1.out; have := HK2.out; omega⟩, ⟨by (with_reducible repeat (first | apply Kd.R_alloc | apply Kd.R_drewN | apply Kd.R_drew)); exact Kd.R_mono (Kd.R_far (p := ⟨gb161, 1, none⟩) (Kd.R_far (p := ⟨gb161, 0, none⟩) (Kd.R_types HO_5.out BK161.out (by decide)) (fun _ hk => hk.2) (.slice A160_0 ((rd_T35 l0 x18_2).f0).length c160_0)) (fun _ hk => hk.2) (.slice A160_1 ((rd_T35 l0 x18_2).f1).length c160_1)) (fun _ hk => trivial)⟩, ⟨bG⟩⟩
        ·rw [if_neg c10] at H
         exact absurd H (by simp)
       ·rw [if_neg c9] at H
        exact absurd H (by simp)
      ·rw [if_neg c8] at H
       have c8b0 : decide (x18_2 < (l0.length : Int)) = false := decide_eq_false c8
       clear c8
       by_cases c25 : (x5_2.length : Int) = (x5_1.length : Int)
       ·rw [if_pos c25] at H
        have c25b0 : ((x5_2.length : Int) == (x5_1.length : Int)) = true := beq_iff_eq.mpr c25
        have c25b1 : ((x5_2.length : Int) != (x5_1.length : Int)) = false := bne_eq_false_iff_eq.mpr c25
        have c25b2 : (x5_2.length == x5_1.length) = true := by first | simpa using c25 | (simp at c25 ⊢; omega)
        clear c25
        obtain rfl := Option.some.inj H
        obtain ⟨Ao26, co26, eo26⟩ := Kd.R_slice HO_5.out
        subst eo26
        go_wp2
        go_ret
        exact ⟨_, eB, rB HO_5, bG⟩
       ·rw [if_neg c25] at H
        have c25b0 : ((x5_2.length : Int) == (x5_1.length : Int)) = false := beq_eq_false_iff_ne.mpr c25
        have c25b1 : ((x5_2.length : Int) != (x5_1.length : Int)) = true := bne_iff_ne.mpr c25
        have c25b2 : (x5_2.length == x5_1.length) = false := by first | simpa using c25 | (simp at c25 ⊢; omega)
        have H' := xm H
        clear H
        obtain ⟨Ao27, co27, eo27⟩ := Kd.R_slice HO_5.out
        subst eo27
        go_wp2
        go_roundg k2
        case measure => have := HK1.out; have := HK2.out; omega
        case rel => exact ⟨(x5_2), H', ⟨by have := HK1.out; have := HK2.out; omega⟩, ⟨rB HO_5⟩, ⟨bG⟩⟩
 ·rw [if_neg c3] at H
  exact absurd H (by simp)

/-! ### spec_l7Implies: function 35 -/
def spec_l7Implies.f (k : Nat) (l0 : List (S35)) (l1_0 : List Int) (l1_1 : List Int) : Option (Bool) := (spec_l7Closure.f k l0 l1_0).bind fun t168 => ((spec_l7All.f k t168 l1_1).bind fun t171 => (some t171))
theorem spec_l7Implies.mono : ∀ a0 a1 a2 k, LeO (spec_l7Implies.f k a0 a1 a2) (spec_l7Implies.f (k + 1) a0 a1 a2) := by
 intro a0 a1 a2 k
 unfold spec_l7Implies.f
 repeat' first
   | (with_reducible exact spec_l7All.mono _ _ _)
   | (with_reducible exact spec_l7Closure.mono _ _ _)
   | (with_reducible exact LeO.refl _)
   | (with_reducible exact LeO.none _)
   | (with_reducible refine LeO.ite ?_ ?_)
   | (with_reducible refine LeO.bind ?_ (fun _ => ?_))
   | exact spec_l7All.mono _ _ _
   | exact spec_l7Closure.mono _ _ _
   | exact LeO.none _
   | refine LeO.ite ?_ ?_
   | refine LeO.bind ?_ (fun _ => ?_)
def spec_l7Implies.T1 : Bool × List (List Nat × List Nat) := (true, [([], []), ([], []), ([1], [1]), ([0, 2], [0, 2]), ([], []), ([4], [4]), ([3, 5, 3], [3, 5]), ([6, 6, 0, 1, 2, 3, 4, 5, 6], [6])])
def spec_l7Implies.B1 : List Nat := [0, 0, 2, 7, 0, 16, 63, 127]
theorem spec_l7Implies.tab1 : rtab .any (opsOf Try.f35 1) = spec_l7Implies.T1 := by kernel_rfl
theorem spec_l7Implies.bits1 : waitsOk spec_l7Implies.T1.2 spec_l7Implies.B1 = true := by kernel_rfl
set_option maxHeartbeats 8000000 in
set_option maxRecDepth 100000 in
theorem spec_l7Implies.calls (k : Nat) (A0 : Option Addr) (c0 : Nat) (l0 : List (S35)) (A1_0 : Option Addr) (c1_0 : Nat) (l1_0 : List Int) (A1_1 : Option Addr) (c1_1 : Nat) (l1_1 : List Int) (r : Bool) (w : World) (hr0 : Kd.C k35 w A0 l0.length l0) (hc0 : l0.length ≤ c0) (hr1_0 : Kd.C (Kd.int .i64) w A1_0 l1_0.length l1_0) (hc1_0 : l1_0.length ≤ c1_0) (hr1_1 : Kd.C (Kd.int .i64) w A1_1 l1_1.length l1_1) (hc1_1 : l1_1.length ≤ c1_1) (h : spec_l7Implies.f k l0 l1_0 l1_1 = some r) :
  Calls Try.prog 35 #[.slice A0 l0.length c0, .agg #[.slice A1_0 l1_0.length c1_0, .slice A1_1 l1_1.length c1_1]] w fun e w' => e = .returned (.bool r) ∧ Below w.heap.size w w' := by
 have hu35 := Try.underlying35
 have HR0 := xm hr0
 have HC0 := xm hc0
 clear hr0 hc0
 have HR1_0 := xm hr1_0
 have HC1_0 := xm hc1_0
 clear hr1_0 hc1_0
 have HR1_1 := xm hr1_1
 have HC1_1 := xm hc1_1
 clear hr1_1 hc1_1
 have HB := xm (Below.refl w.heap.size w)
 have H : ((spec_l7Closure.f k l0 l1_0).bind fun t168 => ((spec_l7All.f k t168 l1_1).bind fun t171 => (some t171))) = some r := h
 clear h
 replace H := Option.bind_eq_some_iff.mp H
 obtain ⟨t168, A30, H⟩ := H
 replace H : ((spec_l7All.f k t168 l1_1).bind fun t171 => (some t171)) = some r := H
 have A3 := xm A30
 clear A30
 replace H := Option.bind_eq_some_iff.mp H
 obtain ⟨t171, A40, H⟩ := H
 replace H : (some t171) = some r := H
 have A4 := xm A40
 clear A40
 obtain rfl := Option.some.inj H
 go_enter Try.func35, Try.ntmps35
 try go_wp2_with (first | ((with_reducible refine gate_dst (N := 3) rfl ?_); refine box_event ?hg (N := 3) ?hd (cs := #[.slice A1_0 l1_0.length c1_0, .slice A1_1 l1_1.length c1_1]) (t := 35) ?hr ?_; (case hd => rfl); (case hg => rfl); (case hr => exact zB); intro gb167 hg w5 hbox hb; have n0_ := xm (below_step bB hb); have n1_ := xm (hbox); have n2_ := xm ((by rw [hg]; exact (xz bB) : w.heap.size ≤ gb167)); have n3_ := xm ((by rw [hg]; exact (xz bB) : w.heap.size ≤ gb167)); revert n0_ n1_ n2_ n3_; clear HB; intro HB BK167 GW167 GE167; clear hb hbox hg))
 have n0_ := xm (xr BK167.out)
 have n1_ := xm (xd HB.out)
 revert n0_ n1_; clear BK167 HB; intro BK167 HB
 refine start_ (n := 8) (S := fun w' => w'.cell? ⟨gb167, 0, none⟩ = some (.slice A1_0 l1_0.length c1_0) ∧ w'.cell? ⟨gb167, 1, none⟩ = some (.slice A1_1 l1_1.length c1_1)) (ds := []) #[Z,Z,Z,Z,Z,Z,Z,Z] (by kernel_rfl) rfl rfl ⟨(xc BK167.out 0).trans rfl, (xc BK167.out 1).trans rfl⟩ (fun hHeld => ?_); refine with_tabW spec_l7Implies.tab1 spec_l7Implies.bits1 (fun HT_ HW_ => ?_)
 generalize w5.drew = w6 at BK167 HB hHeld ⊢
 refine pu 0 8 1 ?_
 refine pu 1 8 3 ?_
 refine pu 4 8 19 ?_
 refine tx 2 8 23 rfl rfl (take_ofW HT_.out HW_.out (by kernel_rfl)) hHeld (by rintro w' ⟨s0, s1⟩; go_simp; with_reducible rfl) ?_
 refine tx 5 8 55 rfl rfl (take_ofW HT_.out HW_.out (by kernel_rfl)) hHeld (by rintro w' ⟨s0, s1⟩; go_simp; with_reducible rfl) ?_
 refine one_ (i := 3) (N := some 8) #[Y,Y,Y,Y,Y,Y,Z,Z] rfl rfl (one_of HT_.out (by kernel_rfl)) (by decide) (fun K hK => ?_)
 refine goes_ Try.func19 (by kernel_rfl) rfl #[.slice A0 l0.length c0, .slice A1_0 l1_0.length c1_0] (by rfl) rfl rfl mB ?_
 with_reducible refine (spec_l7Closure.calls k _ _ l0 _ _ l1_0 t168 _ ?side1 ?side2 ?side3 ?side4 A3.out).mono ?_
 (case side1 => exact cB (Kd.C_below HR0.out HB.out))
 (case side2 => exact HC0.out)
 (case side3 => exact cB (Kd.C_below HR1_0.out HB.out))
 (case side4 => exact HC1_0.out)
 rintro e w7 ⟨v169, rfl, ho0, hb⟩
 refine ⟨_, rfl, ?_⟩
 have n0_ := xm (Kd.R_lower ho0 (xz bG))
 have n1_ := xm (blk_below (kB BK167) hb)
 have n2_ := xm (below_step bG hb)
 revert n0_ n1_ n2_; clear BK167 HB; intro HO170 BK167 HB
 (try clear hb)
 (try clear hb2)
 (try clear hk)
 (try clear hi)
 (try clear ho0)
 obtain ⟨Ao8, co8, eo8⟩ := Kd.R_slice HO170.out
 (first | subst eo8 | (injection eo8 with f1_ f2_ f3_; have f4_ := f1_.symm; have f5_ := f3_.symm; clear f1_ f2_ f3_; subst f4_; subst f5_))
 refine hK.out _ _ ⟨(xc BK167.out 0).trans rfl, (xc BK167.out 1).trans rfl⟩ (fun hHeld => nC ?_)
 clear hK K
 refine one_ (i := 6) (N := some 11) #[Y,Y,Y,Y,Y,Y,Y,Z] rfl rfl (one_of HT_.out (by kernel_rfl)) (by decide) (fun K hK => ?_)
 refine goes_ Try.func36 (by kernel_rfl) rfl #[.slice Ao8 t168.length co8, .slice A1_1 l1_1.length c1_1] (by rfl) rfl rfl mB ?_
 with_reducible refine (spec_l7All.calls k _ _ t168 _ _ l1_1 t171 _ ?side1 ?side2 ?side3 ?side4 A4.out).mono ?_
 (case side1 => repeat (first | exact (Kd.R_reads' HO170.out).2.2 | (with_reducible refine Kd.C_alloc ?_ _) | (with_reducible refine Kd.C_drewN ?_ _) | (with_reducible refine Kd.C_drew ?_)))
 (case side2 => exact (Kd.R_reads' HO170.out).2.1)
 (case side3 => exact cB (Kd.C_below HR1_1.out HB.out))
 (case side4 => exact HC1_1.out)
 rintro e w' ⟨rfl, ⟨nd, rfl⟩⟩
 refine ⟨_, rfl, ?_⟩
 refine hK.out _ _ ⟨(xc BK167.out 0).trans rfl, (xc BK167.out 1).trans rfl⟩ (fun hHeld => nC ?_)
 clear hK K
 refine pu 7 8 255 ?_
 refine done_ (done_of HT_.out (by kernel_rfl)) ?_
 try go_wp2
 go_ret
 exact ⟨eB, bG⟩

/-! ### spec_Implies: function 18 -/
def spec_Implies.f (k : Nat) (l0 : List (S35)) (a1 : Int) (l2_0 : List Int) (l2_1 : List Int) : Option (Bool × Bool) := (spec_GoodDepends.f k l0 a1).bind fun t173 => (if t173 = true then ((spec_l7Depend.f k l2_0 l2_1 a1).bind fun t174 => (if t174 = true then ((spec_l7Implies.f k l0 l2_0 l2_1).bind fun t175 => (some (t175, true))) else (some (false, false)))) else (some (false, false)))
theorem spec_Implies.mono : ∀ a0 a1 a2 a3 k, LeO (spec_Implies.f k a0 a1 a2 a3) (spec_Implies.f (k + 1) a0 a1 a2 a3) := by
 intro a0 a1 a2 a3 k
 unfold spec_Implies.f
 repeat' first
   | (with_reducible exact spec_GoodDepends.mono _ _ _)
   | (with_reducible exact spec_l7Depend.mono _ _ _ _)
   | (with_reducible exact spec_l7Implies.mono _ _ _ _)
   | (with_reducible exact LeO.refl _)
   | (with_reducible exact LeO.none _)
   | (with_reducible refine LeO.ite ?_ ?_)
   | (with_reducible refine LeO.bind ?_ (fun _ => ?_))
   | exact spec_GoodDepends.mono _ _ _
   | exact spec_l7Depend.mono _ _ _ _
   | exact spec_l7Implies.mono _ _ _ _
   | exact LeO.none _
   | refine LeO.ite ?_ ?_
   | refine LeO.bind ?_ (fun _ => ?_)
set_option maxHeartbeats 8000000 in
set_option maxRecDepth 100000 in
theorem spec_Implies.calls (k : Nat) (A0 : Option Addr) (c0 : Nat) (l0 : List (S35)) (a1 : Int) (A2_0 : Option Addr) (c2_0 : Nat) (l2_0 : List Int) (A2_1 : Option Addr) (c2_1 : Nat) (l2_1 : List Int) (r1 : Bool) (r2 : Bool) (w : World) (hr0 : Kd.C k35 w A0 l0.length l0) (hc0 : l0.length ≤ c0) (hr2_0 : Kd.C (Kd.int .i64) w A2_0 l2_0.length l2_0) (hc2_0 : l2_0.length ≤ c2_0) (hr2_1 : Kd.C (Kd.int .i64) w A2_1 l2_1.length l2_1) (hc2_1 : l2_1.length ≤ c2_1) (h : spec_Implies.f k l0 a1 l2_0 l2_1 = some (r1, r2)) :
  Calls Try.prog 18 #[.slice A0 l0.length c0, .int .i64 a1, .agg #[.slice A2_0 l2_0.length c2_0, .slice A2_1 l2_1.length c2_1]] w fun e w' => e = .returned (.tuple #[.bool r1, .bool r2]) ∧ Below w.heap.size w w' := by
 have hu35 := Try.underlying35
 have HR0 := xm hr0
 have HC0 := xm hc0
 clear hr0 hc0
 have HR2_0 := xm hr2_0
 have HC2_0 := xm hc2_0
 clear hr2_0 hc2_0
 have HR2_1 := xm hr2_1
 have HC2_1 := xm hc2_1
 clear hr2_1 hc2_1
 have HB := xm (Below.refl w.heap.size w)
 have H : ((spec_GoodDepends.f k l0 a1).bind fun t173 => (if t173 = true then ((spec_l7Depend.f k l2_0 l2_1 a1).bind fun t174 => (if t174 = true then ((spec_l7Implies.f k l0 l2_0 l2_1).bind fun t175 => (some (t175, true))) else (some (false, false)))) else (some (false, false)))) = some (r1, r2) := h
 clear h
 replace H := Option.bind_eq_some_iff.mp H
 obtain ⟨t173, A40, H⟩ := H
 replace H : (if t173 = true then ((spec_l7Depend.f k l2_0 l2_1 a1).bind fun t174 => (if t174 = true then ((spec_l7Implies.f k l0 l2_0 l2_1).bind fun t175 => (some (t175, true))) else (some (false, false)))) else (some (false, false))) = some (r1, r2) := H
 have A4 := xm A40
 clear A40
 by_cases c5 : t173 = true
 ·subst c5
  have H1 : ((spec_l7Depend.f k l2_0 l2_1 a1).bind fun t174 => (if t174 = true then ((spec_l7Implies.f k l0 l2_0 l2_1).bind fun t175 => (some (t175, true))) else (some (false, false)))) = some (r1, r2) := by first | (with_reducible rfl) | (rw [if_pos rfl] at H; exact H)
  clear H
  have H := H1
  clear H1
  replace H := Option.bind_eq_some_iff.mp H
  obtain ⟨t174, A60, H⟩ := H
  replace H : (if t174 = true then ((spec_l7Implies.f k l0 l2_0 l2_1).bind fun t175 => (some (t175, true))) else (some (false, false))) = some (r1, r2) := H
  have A6 := xm A60
  clear A60
  by_cases c7 : t174 = true
  ·subst c7
   have H1 : ((spec_l7Implies.f k l0 l2_0 l2_1).bind fun t175 => (some (t175, true))) = some (r1, r2) := by first | (with_reducible rfl) | (rw [if_pos rfl] at H; exact H)
   clear H
   have H := H1
   clear H1
   replace H := Option.bind_eq_some_iff.mp H
   obtain ⟨t175, A80, H⟩ := H
   replace H : (some (t175, true)) = some (r1, r2) := H
   have A8 := xm A80
   clear A80
   simp only [Option.some.injEq, Prod.mk.injEq] at H
   obtain ⟨rfl, rfl⟩ := H
   go_enter Try.func18, Try.ntmps18
   go_wp2_with (first | ((with_reducible refine gate_dst (N := 5) rfl ?_); refine box_event ?hg (N := 5) ?hd (cs := #[.slice A2_0 l2_0.length c2_0, .slice A2_1 l2_1.length c2_1]) (t := 35) ?hr ?_; (case hd => rfl); (case hg => rfl); (case hr => exact zB); intro gb172 hg w9 hbox hb; have n0_ := xm (below_step bB hb); have n1_ := xm (hbox); have n2_ := xm ((by rw [hg]; exact (xz bB) : w.heap.size ≤ gb172)); have n3_ := xm ((by rw [hg]; exact (xz bB) : w.heap.size ≤ gb172)); revert n0_ n1_ n2_ n3_; clear HB; intro HB BK172 GW172 GE172; clear hb hbox hg) | ((with_reducible refine gate_callee (f := 33) rfl ?_); refine goesL_ (some 10) rfl rfl Try.func33 (by kernel_rfl) rfl #[.slice A0 l0.length c0, .int .i64 a1] rfl mB ?_; (with_reducible refine (spec_GoodDepends.calls k _ _ l0 a1 true _ ?side1 ?side2 A4.out).mono ?_); (case side1 => exact cB (Kd.C_below HR0.out HB.out)); (case side2 => exact HC0.out); rintro e w10 ⟨rfl, hb⟩; refine ⟨_, rfl, ?_⟩; have n0_ := xm (blk_below (kB BK172) hb); have n1_ := xm (below_step bG hb); revert n0_ n1_; clear BK172 HB; intro BK172 HB; (try clear hb); obtain ⟨hcz11_0, hcz11_1, hfz11_0, hfz11_1⟩ := cz2 BK172.out) | (go_at_call 34; (with_reducible refine (spec_l7Depend.calls k _ _ l2_0 _ _ l2_1 a1 true _ ?side1 ?side2 ?side3 ?side4 A6.out).mono ?_); (case side1 => exact cB (Kd.C_below HR2_0.out HB.out)); (case side2 => exact HC2_0.out); (case side3 => exact cB (Kd.C_below HR2_1.out HB.out)); (case side4 => exact HC2_1.out); rintro e w12 ⟨rfl, hb⟩; have n0_ := xm (blk_below (kB BK172) hb); have n1_ := xm (below_step bG hb); revert n0_ n1_; clear BK172 HB; intro BK172 HB; (try clear hb); obtain ⟨hcz13_0, hcz13_1, hfz13_0, hfz13_1⟩ := cz2 BK172.out) | ((with_reducible refine gate_callee (f := 35) rfl ?_); refine goesL_ (some 20) rfl rfl Try.func35 (by kernel_rfl) rfl #[.slice A0 l0.length c0, .agg #[.slice A2_0 l2_0.length c2_0, .slice A2_1 l2_1.length c2_1]] rfl mB ?_; (with_reducible refine (spec_l7Implies.calls k _ _ l0 _ _ l2_0 _ _ l2_1 t175 _ ?side1 ?side2 ?side3 ?side4 ?side5 ?side6 A8.out).mono ?_); (case side1 => exact cB (Kd.C_below HR0.out HB.out)); (case side2 => exact HC0.out); (case side3 => exact cB (Kd.C_below HR2_0.out HB.out)); (case side4 => exact HC2_0.out); (case side5 => exact cB (Kd.C_below HR2_1.out HB.out)); (case side6 => exact HC2_1.out); rintro e w14 ⟨rfl, hb⟩; refine ⟨_, rfl, ?_⟩; have n0_ := xm (blk_below (kB BK172) hb); have n1_ := xm (below_step bG hb); revert n0_ n1_; clear BK172 HB; intro BK172 HB; (try clear hb)))
   go_ret2
   exact ⟨eB, bG⟩
  ·replace c7 := Bool.eq_false_iff.mpr c7
   subst c7
   have H1 : (some (false, false)) = some (r1, r2) := by first | (with_reducible rfl) | (rw [if_neg (show ¬ (false = true) by decide)] at H; exact H)
   clear H
   have H := H1
   clear H1
   simp only [Option.some.injEq, Prod.mk.injEq] at H
   obtain ⟨rfl, rfl⟩ := H
   go_enter Try.func18, Try.ntmps18
   go_wp2_with (first | ((with_reducible refine gate_dst (N := 5) rfl ?_); refine box_event ?hg (N := 5) ?hd (cs := #[.slice A2_0 l2_0.length c2_0, .slice A2_1 l2_1.length c2_1]) (t := 35) ?hr ?_; (case hd => rfl); (case hg => rfl); (case hr => exact zB); intro gb172 hg w15 hbox hb; have n0_ := xm (below_step bB hb); have n1_ := xm (hbox); have n2_ := xm ((by rw [hg]; exact (xz bB) : w.heap.size ≤ gb172)); have n3_ := xm ((by rw [hg]; exact (xz bB) : w.heap.size ≤ gb172)); revert n0_ n1_ n2_ n3_; clear HB; intro HB BK172 GW172 GE172; clear hb hbox hg) | ((with_reducible refine gate_callee (f := 33) rfl ?_); refine goesL_ (some 10) rfl rfl Try.func33 (by kernel_rfl) rfl #[.slice A0 l0.length c0, .int .i64 a1] rfl mB ?_; (with_reducible refine (spec_GoodDepends.calls k _ _ l0 a1 true _ ?side1 ?side2 A4.out).mono ?_); (case side1 => exact cB (Kd.C_below HR0.out HB.out)); (case side2 => exact HC0.out); rintro e w16 ⟨rfl, hb⟩; refine ⟨_, rfl, ?_⟩; have n0_ := xm (blk_below (kB BK172) hb); have n1_ := xm (below_step bG hb); revert n0_ n1_; clear BK172 HB; intro BK172 HB; (try clear hb); obtain ⟨hcz17_0, hcz17_1, hfz17_0, hfz17_1⟩ := cz2 BK172.out) | (go_at_call 34; (with_reducible refine (spec_l7Depend.calls k _ _ l2_0 _ _ l2_1 a1 false _ ?side1 ?side2 ?side3 ?side4 A6.out).mono ?_); (case side1 => exact cB (Kd.C_below HR2_0.out HB.out)); (case side2 => exact HC2_0.out); (case side3 => exact cB (Kd.C_below HR2_1.out HB.out)); (case side4 => exact HC2_1.out); rintro e w18 ⟨rfl, hb⟩; have n0_ := xm (blk_below (kB BK172) hb); have n1_ := xm (below_step bG hb); revert n0_ n1_; clear BK172 HB; intro BK172 HB; (try clear hb)))
   go_ret2
   exact ⟨eB, bG⟩
 ·replace c5 := Bool.eq_false_iff.mpr c5
  subst c5
  have H1 : (some (false, false)) = some (r1, r2) := by first | (with_reducible rfl) | (rw [if_neg (show ¬ (false = true) by decide)] at H; exact H)
  clear H
  have H := H1
  clear H1
  simp only [Option.some.injEq, Prod.mk.injEq] at H
  obtain ⟨rfl, rfl⟩ := H
  go_enter Try.func18, Try.ntmps18
  go_wp2_with (first | ((with_reducible refine gate_dst (N := 5) rfl ?_); refine box_event ?hg (N := 5) ?hd (cs := #[.slice A2_0 l2_0.length c2_0, .slice A2_1 l2_1.length c2_1]) (t := 35) ?hr ?_; (case hd => rfl); (case hg => rfl); (case hr => exact zB); intro gb172 hg w19 hbox hb; have n0_ := xm (below_step bB hb); have n1_ := xm (hbox); have n2_ := xm ((by rw [hg]; exact (xz bB) : w.heap.size ≤ gb172)); have n3_ := xm ((by rw [hg]; exact (xz bB) : w.heap.size ≤ gb172)); revert n0_ n1_ n2_ n3_; clear HB; intro HB BK172 GW172 GE172; clear hb hbox hg) | ((with_reducible refine gate_callee (f := 33) rfl ?_); refine goesL_ (some 10) rfl rfl Try.func33 (by kernel_rfl) rfl #[.slice A0 l0.length c0, .int .i64 a1] rfl mB ?_; (with_reducible refine (spec_GoodDepends.calls k _ _ l0 a1 false _ ?side1 ?side2 A4.out).mono ?_); (case side1 => exact cB (Kd.C_below HR0.out HB.out)); (case side2 => exact HC0.out); rintro e w20 ⟨rfl, hb⟩; refine ⟨_, rfl, ?_⟩; have n0_ := xm (blk_below (kB BK172) hb); have n1_ := xm (below_step bG hb); revert n0_ n1_; clear BK172 HB; intro BK172 HB; (try clear hb)))
  go_ret2
  exact ⟨eB, bG⟩

/-! ### spec_l2OwnRow: function 38 -/
def spec_l2OwnRow.f (l0_0 : List Int) : Option (List Int) := (some (([] : List Int) : List Int)).bind fun y178 => (if y178.length + l0_0.length < 17592186044416 then (some (y178 ++ l0_0)) else (none))
set_option maxHeartbeats 8000000 in
set_option maxRecDepth 100000 in
theorem spec_l2OwnRow.calls (A0_0 : Option Addr) (c0_0 : Nat) (l0_0 : List Int) (r : List Int) (w : World) (hr0_0 : Kd.C (Kd.int .i64) w A0_0 l0_0.length l0_0) (hc0_0 : l0_0.length ≤ c0_0) (h : spec_l2OwnRow.f l0_0 = some r) :
  Calls Try.prog 38 #[.agg #[.slice A0_0 l0_0.length c0_0]] w fun e w' => ∃ v0_ : Value, e = .returned (.agg #[v0_]) ∧ Kd.R (Kd.int .i64) 3 w' w.heap.size (fun _ => True) v0_ r ∧ Below w.heap.size w w' := by
 have hu49 := Try.underlying49
 have HR0_0 := xm hr0_0
 have HC0_0 := xm hc0_0
 clear hr0_0 hc0_0
 have HB := xm (Below.refl w.heap.size w)
 have H : ((some (([] : List Int) : List Int)).bind fun y178 => (if y178.length + l0_0.length < 17592186044416 then (some (y178 ++ l0_0)) else (none))) = some r := h
 clear h
 obtain ⟨y178, hy178⟩ : ∃ y_ : List Int, y_ = (([] : List Int)) := ⟨_, rfl⟩
 replace H : (if y178.length + l0_0.length < 17592186044416 then (some (y178 ++ l0_0)) else (none)) = some r := by first | (rw [hy178]; with_reducible exact H) | (have H2_ := (Option.bind_some _ _).symm.trans H; rw [hy178]; with_reducible exact H2_) | (have H2_ := (Option.bind_some _ _).symm.trans H; with_reducible exact H2_) | with_reducible exact H | (rw [hy178]; exact H) | exact H
 have Ny178 := xm hy178
 clear hy178
 by_cases c2 : y178.length + l0_0.length < 17592186044416
 ·rw [if_pos c2] at H
  have LMc2 := xm c2
  clear c2
  obtain ⟨y181, hy181⟩ : ∃ y_ : List Int, y_ = (y178 ++ l0_0) := ⟨_, rfl⟩
  replace H : (some y181) = some r := by first | (rw [hy181]; with_reducible exact H) | (have H2_ := (Option.bind_some _ _).symm.trans H; rw [hy181]; with_reducible exact H2_) | (have H2_ := (Option.bind_some _ _).symm.trans H; with_reducible exact H2_) | with_reducible exact H | (rw [hy181]; exact H) | exact H
  have Ny181 := xm hy181
  clear hy181
  obtain rfl := Option.some.inj H
  go_enter Try.func38, Try.ntmps38
  go_wp2_with (first | ((with_reducible refine gate_dst (N := 1) rfl ?_); refine box_event ?hg (N := 1) ?hd (cs := #[.slice A0_0 l0_0.length c0_0]) (t := 49) ?hr ?_; (case hd => rfl); (case hg => rfl); (case hr => exact zB); intro gb176 hg w3 hbox hb; have n0_ := xm (below_step bB hb); have n1_ := xm (hbox); have n2_ := xm ((by rw [hg]; exact (xz bB) : w.heap.size ≤ gb176)); have n3_ := xm ((by rw [hg]; exact (xz bB) : w.heap.size ≤ gb176)); revert n0_ n1_ n2_ n3_; clear HB; intro HB BK176 GW176 GE176; clear hb hbox hg) | ((with_reducible refine gate_dst (N := 2) rfl ?_); refine box_event ?hg (N := 2) ?hd (cs := #[.slice none 0 0]) (t := 49) ?hr ?_; (case hd => rfl); (case hg => rfl); (case hr => exact zB); intro gb177 hg w4 hbox hb; have n0_ := xm (blk_below (kB BK176) hb); have n1_ := xm (below_step bG hb); have n2_ := xm (hbox); have n3_ := xm ((by rw [hg]; exact (xz bG) : w.heap.size ≤ gb177)); have n4_ := xm ((by rw [hg]; exact (xz bG) : w.heap.size ≤ gb177)); have n5_ := xm ((by rw [hg]; exact Nat.ne_of_lt (blk_lt (kB BK176)) : gb176 ≠ gb177)); have n6_ := xm ((by rw [hg]; exact Nat.ne_of_gt (blk_lt (kB BK176)) : gb177 ≠ gb176)); revert n0_ n1_ n2_ n3_ n4_ n5_ n6_; clear BK176 HB; intro BK176 HB BK177 GW177 GE177 NB176_177 NB177_176; clear hb hbox hg) | ((with_reducible refine gate_dst (N := 3) rfl ?_); refine Kd.R_lit (Kd.int .i64) _ 3 ?hg (N := 3) ?hd (xs := ([] : List Int)) (inner := []) (ok := fun _ => True) (okp := fun _ => True) ?hr ?hp (fun _ hk => hk) trivial (Below.refl _ _) (Nat.le_refl _) (by simp) ?_; (case hd => rfl); (case hg => rfl); (case hr => exact zB); (case hp => exact (Reps.none _ _)); intro v179 w5 ho6 hb hg_ hnew_; clear hg_ hnew_; (first | rw [← Ny178.out] at ho6 | (simp only [Int.reduceToNat] at ho6; rw [← Ny178.out] at ho6)); have n0_ := xm (Kd.R_lower ho6 (xz bG)); have n1_ := xm (blk_below (kB BK176) hb); have n2_ := xm (blk_below (kB BK177) hb); have n3_ := xm (below_step bG hb); revert n0_ n1_ n2_ n3_; clear BK176 BK177 HB; intro HO180 BK176 BK177 HB; clear hb ho6; have hnb7 := NB176_177.out; have hnc7 := NB177_176.out; obtain ⟨hcz8_0, hfz8_0⟩ := cz1 BK176.out) | ((with_reducible refine gate_builtin (b := .append) (xs := #[.tmp 3, .tmp 5]) rfl ?_); at_builtin; refine Kd.R_append_rows (Kd.int .i64) (w0 := w) w.heap.size rfl (.tmp 3) (.tmp 5) 23 3 (.int .i64 0) 8 rfl Try.underlying23 info3 rfl (by decide) (by omega) v179 y178 l0_0 _ _ _ (fun _ => True) (fun _ => False) rfl rfl ?aO ?aR (fun _ _ h => h) (fun _ h => h.elim) ?aF ?aB ?aS ?aL ?_; (case aR => exact cB (Kd.C_below HR0_0.out HB.out)); (case aB => exact bG); (case aF => exact (fun _ _ => trivial)); (case aO => exact (rB HO180)); (case aS => exact (xz bG)); (case aL => have := LMc2.out; omega); intro v182 w9 ho hb hg hat; rw [← Ny181.out] at ho; have n0_ := xm (blk_grown (kB BK176) hg (Kd.R_ne HO180.out BK176.out (by decide))); have n1_ := xm (blk_grown (kB BK177) hg (Kd.R_ne HO180.out BK177.out (by decide))); have n2_ := xm (hb); have n3_ := xm (ho); revert n0_ n1_ n2_ n3_; clear BK176 BK177 HB HO180; intro BK176 BK177 HB HO183; clear ho hb hg hat; obtain ⟨Ao10, co10, eo10⟩ := Kd.R_slice HO183.out; subst eo10; obtain ⟨hcz11_0, hfz11_0⟩ := cz1 BK177.out))
  refine bodyPost_ret (results_cell_row rfl _ _ gb177 49 #[.slice Ao10 y181.length co10] (0, 0) _ rfl (by (with_reducible repeat (first | refine xq ?_ _ | refine xr ?_ | refine xo ?_ _)); refine blk_put (cs := #[.slice none 0 0]) ?_ 0 _ rfl; (with_reducible repeat (first | refine xq ?_ _ | refine xr ?_ | refine xo ?_ _)); exact BK177.out) Try.underlying49 rfl (by kernel_rfl)) rfl ?_
  exact ⟨_, eB, by (with_reducible repeat (first | apply Kd.R_alloc | apply Kd.R_drewN | apply Kd.R_drew)); exact Kd.R_mono (Kd.R_far (p := ⟨gb177, 0, none⟩) (Kd.R_types HO183.out BK177.out (by decide)) (fun _ hk => hk.2) (.slice Ao10 y181.length co10)) (fun _ hk => trivial), bG⟩
 ·rw [if_neg c2] at H
  exact absurd H (by simp)

end Go.Proofs.Ytaddemalepndfah.G
