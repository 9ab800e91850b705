/- Written by a program of this claim's own, out of the translation: functions of the program as plain functions, and that the calls answer as these. No conditions. -/
import Derived.Test.YtmelechhnimlnadG0
import Derived.Test.YtmelechhnimlnadG1
import Derived.Test.YtmelechhnimlnadG2
namespace Go.Proofs.Ytmelechhnimlnad.G
open Go.RowKit Go.Proofs.Ytmelechhnimlnad.X Go.Proofs.YtmelechhnimlnadW.PrintWords Go.Proofs.YtmelechhnimlnadW.PrintLast Go.Proofs.YtmelechhnimlnadW.PrintMore
attribute [local go_sem] max2_int min2_int max_two min_two max_three min_three max_four min_four   -- for this text's walks alone
set_option linter.unusedVariables false
set_option linter.unusedSimpArgs false

/-! ### spec_l7Depend: function 33 -/
def spec_l7Depend.f (k : Nat) (l0_0 : List Int) (l0_1 : List Int) (a1 : Int) : Option (Bool) := (spec_l1Some.f k l0_0 a1).bind fun t156 => (if t156 = true then ((spec_l1Some.f k l0_1 a1).bind fun t157 => (some t157)) else (some false))
theorem spec_l7Depend.mono : ∀ a0 a1 a2 k, LeO (spec_l7Depend.f k a0 a1 a2) (spec_l7Depend.f (k + 1) a0 a1 a2) := by
 intro a0 a1 a2 k
 unfold spec_l7Depend.f
 repeat' first
   | (with_reducible exact spec_l1Some.mono _ _ _)
   | (with_reducible exact LeO.refl _)
   | (with_reducible exact LeO.none _)
   | (with_reducible refine LeO.ite ?_ ?_)
   | (with_reducible refine LeO.bind ?_ (fun _ => ?_))
   | exact spec_l1Some.mono _ _ _
   | exact LeO.none _
   | refine LeO.ite ?_ ?_
   | refine LeO.bind ?_ (fun _ => ?_)
set_option maxHeartbeats 8000000 in
set_option maxRecDepth 100000 in
theorem spec_l7Depend.calls (k : Nat) (A0_0 : Option Addr) (c0_0 : Nat) (l0_0 : List Int) (A0_1 : Option Addr) (c0_1 : Nat) (l0_1 : List Int) (a1 : Int) (r : Bool) (w : World) (hr0_0 : Kd.C (Kd.int .i64) w A0_0 l0_0.length l0_0) (hc0_0 : l0_0.length ≤ c0_0) (hr0_1 : Kd.C (Kd.int .i64) w A0_1 l0_1.length l0_1) (hc0_1 : l0_1.length ≤ c0_1) (h : spec_l7Depend.f k l0_0 l0_1 a1 = some r) :
  Calls Try.prog 33 #[.agg #[.slice A0_0 l0_0.length c0_0, .slice A0_1 l0_1.length c0_1], .int .i64 a1] w fun e w' => e = .returned (.bool r) ∧ Below w.heap.size w w' := by
 have hu49 := Try.underlying49
 have HR0_0 := xm hr0_0
 have HC0_0 := xm hc0_0
 clear hr0_0 hc0_0
 have HR0_1 := xm hr0_1
 have HC0_1 := xm hc0_1
 clear hr0_1 hc0_1
 have HB := xm (Below.refl w.heap.size w)
 have H : ((spec_l1Some.f k l0_0 a1).bind fun t156 => (if t156 = true then ((spec_l1Some.f k l0_1 a1).bind fun t157 => (some t157)) else (some false))) = some r := h
 clear h
 replace H := Option.bind_eq_some_iff.mp H
 obtain ⟨t156, A30, H⟩ := H
 replace H : (if t156 = true then ((spec_l1Some.f k l0_1 a1).bind fun t157 => (some t157)) else (some false)) = some r := H
 have A3 := xm A30
 clear A30
 by_cases c4 : t156 = true
 ·subst c4
  have H1 : ((spec_l1Some.f k l0_1 a1).bind fun t157 => (some t157)) = some r := by first | (with_reducible rfl) | (rw [if_pos rfl] at H; exact H)
  clear H
  have H := H1
  clear H1
  replace H := Option.bind_eq_some_iff.mp H
  obtain ⟨t157, A50, H⟩ := H
  replace H : (some t157) = some r := H
  have A5 := xm A50
  clear A50
  obtain rfl := Option.some.inj H
  go_enter Try.func33, Try.ntmps33
  go_wp2_with (first | ((with_reducible refine gate_dst (N := 2) rfl ?_); refine box_event ?hg (N := 2) ?hd (cs := #[.slice A0_0 l0_0.length c0_0, .slice A0_1 l0_1.length c0_1]) (t := 49) ?hr ?_; (case hd => rfl); (case hg => rfl); (case hr => exact zB); intro gb155 hg w6 hbox hb; have n0_ := xm (below_step bB hb); have n1_ := xm (hbox); have n2_ := xm ((by rw [hg]; exact (xz bB) : w.heap.size ≤ gb155)); have n3_ := xm ((by rw [hg]; exact (xz bB) : w.heap.size ≤ gb155)); revert n0_ n1_ n2_ n3_; clear HB; intro HB BK155 GW155 GE155; clear hb hbox hg; obtain ⟨hcz7_0, hcz7_1, hfz7_0, hfz7_1⟩ := cz2 BK155.out) | ((with_reducible refine gate_callee (f := 30) rfl ?_); refine goesL_ (some 8) rfl rfl Try.func30 (by kernel_rfl) rfl #[.slice A0_0 l0_0.length c0_0, .int .i64 a1] rfl mB ?_; (with_reducible refine (spec_l1Some.calls k _ _ l0_0 a1 true _ ?side1 ?side2 A3.out).mono ?_); (case side1 => exact cB (Kd.C_below HR0_0.out HB.out)); (case side2 => exact HC0_0.out); rintro e w' ⟨rfl, ⟨nd, rfl⟩⟩; refine ⟨_, rfl, ?_⟩) | (go_at_call 30; (with_reducible refine (spec_l1Some.calls k _ _ l0_1 a1 t157 _ ?side1 ?side2 A5.out).mono ?_); (case side1 => repeat (first | exact (Kd.C_below HR0_1.out bG) | (with_reducible refine Kd.C_alloc ?_ _) | (with_reducible refine Kd.C_drewN ?_ _) | (with_reducible refine Kd.C_drew ?_))); (case side2 => exact HC0_1.out); rintro e w' ⟨rfl, ⟨nd, rfl⟩⟩))
  go_ret
  exact ⟨eB, bG⟩
 ·replace c4 := Bool.eq_false_iff.mpr c4
  subst c4
  have H1 : (some false) = some r := by first | (with_reducible rfl) | (rw [if_neg (show ¬ (false = true) by decide)] at H; exact H)
  clear H
  have H := H1
  clear H1
  obtain rfl := Option.some.inj H
  go_enter Try.func33, Try.ntmps33
  go_wp2_with (first | ((with_reducible refine gate_dst (N := 2) rfl ?_); refine box_event ?hg (N := 2) ?hd (cs := #[.slice A0_0 l0_0.length c0_0, .slice A0_1 l0_1.length c0_1]) (t := 49) ?hr ?_; (case hd => rfl); (case hg => rfl); (case hr => exact zB); intro gb155 hg w8 hbox hb; have n0_ := xm (below_step bB hb); have n1_ := xm (hbox); have n2_ := xm ((by rw [hg]; exact (xz bB) : w.heap.size ≤ gb155)); have n3_ := xm ((by rw [hg]; exact (xz bB) : w.heap.size ≤ gb155)); revert n0_ n1_ n2_ n3_; clear HB; intro HB BK155 GW155 GE155; clear hb hbox hg; obtain ⟨hcz9_0, hcz9_1, hfz9_0, hfz9_1⟩ := cz2 BK155.out) | ((with_reducible refine gate_callee (f := 30) rfl ?_); refine goesL_ (some 8) rfl rfl Try.func30 (by kernel_rfl) rfl #[.slice A0_0 l0_0.length c0_0, .int .i64 a1] rfl mB ?_; (with_reducible refine (spec_l1Some.calls k _ _ l0_0 a1 false _ ?side1 ?side2 A3.out).mono ?_); (case side1 => exact cB (Kd.C_below HR0_0.out HB.out)); (case side2 => exact HC0_0.out); rintro e w' ⟨rfl, ⟨nd, rfl⟩⟩; refine ⟨_, rfl, ?_⟩))
  go_ret
  exact ⟨eB, bG⟩

/-! ### spec_GoodDepends: function 15 -/
def spec_GoodDepends.l0 : Nat → List (S49) → Int → List (S49) → Int → Int → Option (Bool)
 | 0, _, _, _, _, _ => none
 | k + 1, x0, x1, x7, x8, x9 => if x9 < x8 then (if 0 ≤ x9 then (if x9 < (x7.length : Int) then ((spec_l7Depend.f k ((rd_T49 x7 x9).f0) ((rd_T49 x7 x9).f1) x1).bind fun t160 => (if t160 = true then (spec_GoodDepends.l0 k x0 x1 x7 x8 (wrap64 (x9 + 1))) else (some false))) else (none)) else (none)) else ((spec_l1In.f x1 1 6).bind fun t161 => (if t161 = true then (some (decide ((x0.length : Int) ≤ 10))) else (some false)))
def spec_GoodDepends.f (k : Nat) (l0 : List (S49)) (a1 : Int) : Option (Bool) := spec_GoodDepends.l0 k l0 a1 l0 (l0.length : Int) 0
theorem spec_GoodDepends.mono_l : ∀ k, (∀ y0 y1 y2 y3 y4, LeO (spec_GoodDepends.l0 k y0 y1 y2 y3 y4) (spec_GoodDepends.l0 (k + 1) y0 y1 y2 y3 y4))
 | 0 => fun _ _ _ _ _ r h => by simp [spec_GoodDepends.l0] at h
 | k + 1 => by
  have ih0 := spec_GoodDepends.mono_l k
  ·intro y0 y1 y2 y3 y4
   unfold spec_GoodDepends.l0
   repeat' first
   | (with_reducible exact ih0 _ _ _ _ _)
   | (with_reducible exact spec_l7Depend.mono _ _ _ _)
   | (with_reducible exact LeO.refl _)
   | (with_reducible exact LeO.none _)
   | (with_reducible refine LeO.ite ?_ ?_)
   | (with_reducible refine LeO.bind ?_ (fun _ => ?_))
   | exact ih0 _ _ _ _ _
   | exact spec_l7Depend.mono _ _ _ _
   | exact LeO.none _
   | refine LeO.ite ?_ ?_
   | refine LeO.bind ?_ (fun _ => ?_)
theorem spec_GoodDepends.mono : ∀ a0 a1 k, LeO (spec_GoodDepends.f k a0 a1) (spec_GoodDepends.f (k + 1) a0 a1) := by
 intro a0 a1 k
 have ih0 := spec_GoodDepends.mono_l k
 unfold spec_GoodDepends.f
 repeat' first
   | (with_reducible exact ih0 _ _ _ _ _)
   | (with_reducible exact spec_l7Depend.mono _ _ _ _)
   | (with_reducible exact LeO.refl _)
   | (with_reducible exact LeO.none _)
   | (with_reducible refine LeO.ite ?_ ?_)
   | (with_reducible refine LeO.bind ?_ (fun _ => ?_))
   | exact ih0 _ _ _ _ _
   | exact spec_l7Depend.mono _ _ _ _
   | exact LeO.none _
   | refine LeO.ite ?_ ?_
   | refine LeO.bind ?_ (fun _ => ?_)
set_option maxHeartbeats 8000000 in
set_option maxRecDepth 100000 in
theorem spec_GoodDepends.calls (k : Nat) (A0 : Option Addr) (c0 : Nat) (l0 : List (S49)) (a1 : Int) (r : Bool) (w : World) (hr0 : Kd.C k49 w A0 l0.length l0) (hc0 : l0.length ≤ c0) (h : spec_GoodDepends.f k l0 a1 = some r) :
  Calls Try.prog 15 #[.slice A0 l0.length c0, .int .i64 a1] w fun e w' => e = .returned (.bool r) ∧ Below w.heap.size w w' := by
 have hu49 := Try.underlying49
 have HR0 := xm hr0
 have HC0 := xm hc0
 clear hr0 hc0
 have HB := xm (Below.refl w.heap.size w)
 have H : (spec_GoodDepends.l0 k l0 a1 l0 (l0.length : Int) 0) = some r := h
 clear h
 have H' := xm H
 clear H
 go_enter Try.func15, Try.ntmps15
 go_wp2
 go_loopg [9] k (fun kq v9 w' => ∃ (x9_1 : Int), v9 = .int .i64 x9_1 ∧ Aside0 (spec_GoodDepends.l0 kq l0 a1 l0 (l0.length : Int) x9_1 = some r) ∧ Aside0 (kq ≤ k) ∧ Aside0 (Below w.heap.size w w'))
 case atStart => exact ⟨(0), sB, H', ⟨Nat.le_refl _⟩, ⟨bG⟩⟩
 case round =>
  clear H'
  try clear c1
  try clear p2
  obtain ⟨x9_1, rfl, HA, HK1, HB⟩ := hrel
  cases gk with
  | zero => exact absurd HA.out (by simp [spec_GoodDepends.l0])
  | succ k1 =>
   have H := HA.out
   clear HA
   simp only [spec_GoodDepends.l0] at H
   by_cases c3 : x9_1 < (l0.length : Int)
   ·rw [if_pos c3] at H
    have c3b0 : decide (x9_1 < (l0.length : Int)) = true := decide_eq_true c3
    clear c3
    by_cases c4 : 0 ≤ x9_1
    ·rw [if_pos c4] at H
     have c4b0 : decide (0 ≤ x9_1) = true := decide_eq_true c4
     clear c4
     by_cases c5 : x9_1 < (l0.length : Int)
     ·rw [if_pos c5] at H
      have c5b0 : decide (x9_1 < (l0.length : Int)) = true := decide_eq_true c5
      clear c5
      replace H := Option.bind_eq_some_iff.mp H
      obtain ⟨t160, A60, H⟩ := H
      replace H : (if t160 = true then (spec_GoodDepends.l0 k1 l0 a1 l0 (l0.length : Int) (wrap64 (x9_1 + 1))) else (some false)) = some r := H
      have A6 := xm A60
      clear A60
      by_cases c7 : t160 = true
      ·subst c7
       have H1 : (spec_GoodDepends.l0 k1 l0 a1 l0 (l0.length : Int) (wrap64 (x9_1 + 1))) = some r := by first | (with_reducible rfl) | (rw [if_pos rfl] at H; exact H)
       clear H
       have H := H1
       clear H1
       have H' := xm H
       clear H
       have p158 : 0 ≤ (x9_1 : Int) := of_decide_eq_true aB
       have q158 : x9_1 < (l0.length : Int) := of_decide_eq_true aB
       obtain ⟨ad158, A158_0, c158_0, A158_1, c158_1, e158, hx158_0, hx158_1, hl158_0, hi158_0, hl158_1, hi158_1⟩ := at_T49 HR0.out x9_1 p158 q158
       cases e158
       replace hx158_0 := hU hx158_0
       replace hx158_1 := hU hx158_1
       have HR158_0 := xm hi158_0
       have HC158_0 := xm hl158_0
       clear hi158_0 hl158_0
       have HR158_1 := xm hi158_1
       have HC158_1 := xm hl158_1
       clear hi158_1 hl158_1
       replace p158 := eq_true p158
       replace q158 := eq_true q158
       go_wp2_with (first | ((with_reducible refine gate_dst (N := 6) rfl ?_); (try (refine gate_guard (by rfl) ?_; dsimp only)); refine box_event ?hg (N := 6) ?hd (cs := #[.slice none 0 0, .slice none 0 0]) (t := 49) ?hr ?_; (case hd => rfl); (case hg => rfl); (case hr => exact zB); intro gb159 hg w8 hbox hb; have n0_ := xm (below_step bB hb); have n1_ := xm (hbox); have n2_ := xm ((by rw [hg]; exact (xz bB) : w.heap.size ≤ gb159)); have n3_ := xm ((by rw [hg]; exact (xz bB) : w.heap.size ≤ gb159)); revert n0_ n1_ n2_ n3_; clear HB; intro HB BK159 GW159 GE159; clear hb hbox hg; obtain ⟨hcz9_0, hcz9_1, hfz9_0, hfz9_1⟩ := cz2 BK159.out) | ((with_reducible refine gate_callee (f := 33) rfl ?_); refine goesL_ (some 15) rfl rfl Try.func33 (by kernel_rfl) rfl #[.agg #[.slice A158_0 ((rd_T49 l0 x9_1).f0).length c158_0, .slice A158_1 ((rd_T49 l0 x9_1).f1).length c158_1], .int .i64 a1] rfl mB ?_; (with_reducible refine (spec_l7Depend.calls k1 _ _ ((rd_T49 l0 x9_1).f0) _ _ ((rd_T49 l0 x9_1).f1) a1 true _ ?side1 ?side2 ?side3 ?side4 A6.out).mono ?_); (case side1 => exact Kd.C_below HR158_0.out bG); (case side2 => exact HC158_0.out); (case side3 => exact Kd.C_below HR158_1.out bG); (case side4 => exact HC158_1.out); rintro e w10 ⟨rfl, hb⟩; refine ⟨_, rfl, ?_⟩; have n0_ := xm (blk_below (g := gb159) (o := .cells #[.slice A158_0 ((rd_T49 l0 x9_1).f0).length c158_0, .slice A158_1 ((rd_T49 l0 x9_1).f1).length c158_1] 49 (0, 0)) (by (with_reducible repeat (first | refine xq ?_ _ | refine xr ?_ | refine xo ?_ _)); refine blk_put (cs := #[.slice A158_0 ((rd_T49 l0 x9_1).f0).length c158_0, .slice none 0 0]) ?_ 1 _ rfl; (with_reducible repeat (first | refine xq ?_ _ | refine xr ?_ | refine xo ?_ _)); refine blk_put (cs := #[.slice none 0 0, .slice none 0 0]) ?_ 0 _ rfl; (with_reducible repeat (first | refine xq ?_ _ | refine xr ?_ | refine xo ?_ _)); exact BK159.out) hb); have n1_ := xm (below_step bG hb); revert n0_ n1_; clear BK159 HB; intro BK159 HB; (try clear hb)))
       go_roundg k1
       case measure => have := HK1.out; omega
       case rel => exact ⟨(wrap64 (x9_1 + 1)), sB, H', ⟨by have := HK1.out; omega⟩, ⟨bG⟩⟩
      ·replace c7 := Bool.eq_false_iff.mpr c7
       subst c7
       have H1 : (some false) = some r := by first | (with_reducible rfl) | (rw [if_neg (show ¬ (false = true) by decide)] at H; exact H)
       clear H
       have H := H1
       clear H1
       obtain rfl := Option.some.inj H
       have p158 : 0 ≤ (x9_1 : Int) := of_decide_eq_true aB
       have q158 : x9_1 < (l0.length : Int) := of_decide_eq_true aB
       obtain ⟨ad158, A158_0, c158_0, A158_1, c158_1, e158, hx158_0, hx158_1, hl158_0, hi158_0, hl158_1, hi158_1⟩ := at_T49 HR0.out x9_1 p158 q158
       cases e158
       replace hx158_0 := hU hx158_0
       replace hx158_1 := hU hx158_1
       have HR158_0 := xm hi158_0
       have HC158_0 := xm hl158_0
       clear hi158_0 hl158_0
       have HR158_1 := xm hi158_1
       have HC158_1 := xm hl158_1
       clear hi158_1 hl158_1
       replace p158 := eq_true p158
       replace q158 := eq_true q158
       go_wp2_with (first | ((with_reducible refine gate_dst (N := 6) rfl ?_); (try (refine gate_guard (by rfl) ?_; dsimp only)); refine box_event ?hg (N := 6) ?hd (cs := #[.slice none 0 0, .slice none 0 0]) (t := 49) ?hr ?_; (case hd => rfl); (case hg => rfl); (case hr => exact zB); intro gb159 hg w11 hbox hb; have n0_ := xm (below_step bB hb); have n1_ := xm (hbox); have n2_ := xm ((by rw [hg]; exact (xz bB) : w.heap.size ≤ gb159)); have n3_ := xm ((by rw [hg]; exact (xz bB) : w.heap.size ≤ gb159)); revert n0_ n1_ n2_ n3_; clear HB; intro HB BK159 GW159 GE159; clear hb hbox hg; obtain ⟨hcz12_0, hcz12_1, hfz12_0, hfz12_1⟩ := cz2 BK159.out) | ((with_reducible refine gate_callee (f := 33) rfl ?_); refine goesL_ (some 15) rfl rfl Try.func33 (by kernel_rfl) rfl #[.agg #[.slice A158_0 ((rd_T49 l0 x9_1).f0).length c158_0, .slice A158_1 ((rd_T49 l0 x9_1).f1).length c158_1], .int .i64 a1] rfl mB ?_; (with_reducible refine (spec_l7Depend.calls k1 _ _ ((rd_T49 l0 x9_1).f0) _ _ ((rd_T49 l0 x9_1).f1) a1 false _ ?side1 ?side2 ?side3 ?side4 A6.out).mono ?_); (case side1 => exact Kd.C_below HR158_0.out bG); (case side2 => exact HC158_0.out); (case side3 => exact Kd.C_below HR158_1.out bG); (case side4 => exact HC158_1.out); rintro e w13 ⟨rfl, hb⟩; refine ⟨_, rfl, ?_⟩; have n0_ := xm (blk_below (g := gb159) (o := .cells #[.slice A158_0 ((rd_T49 l0 x9_1).f0).length c158_0, .slice A158_1 ((rd_T49 l0 x9_1).f1).length c158_1] 49 (0, 0)) (by (with_reducible repeat (first | refine xq ?_ _ | refine xr ?_ | refine xo ?_ _)); refine blk_put (cs := #[.slice A158_0 ((rd_T49 l0 x9_1).f0).length c158_0, .slice none 0 0]) ?_ 1 _ rfl; (with_reducible repeat (first | refine xq ?_ _ | refine xr ?_ | refine xo ?_ _)); refine blk_put (cs := #[.slice none 0 0, .slice none 0 0]) ?_ 0 _ rfl; (with_reducible repeat (first | refine xq ?_ _ | refine xr ?_ | refine xo ?_ _)); exact BK159.out) hb); have n1_ := xm (below_step bG hb); revert n0_ n1_; clear BK159 HB; intro BK159 HB; (try clear hb)))
       go_ret
       exact ⟨eB, bG⟩
     ·rw [if_neg c5] at H
      exact absurd H (by simp)
    ·rw [if_neg c4] at H
     exact absurd H (by simp)
   ·rw [if_neg c3] at H
    have c3b0 : decide (x9_1 < (l0.length : Int)) = false := decide_eq_false c3
    clear c3
    replace H := Option.bind_eq_some_iff.mp H
    obtain ⟨t161, A140, H⟩ := H
    replace H : (if t161 = true then (some (decide ((l0.length : Int) ≤ 10))) else (some false)) = some r := H
    have A14 := xm A140
    clear A140
    by_cases c15 : t161 = true
    ·subst c15
     have H1 : (some (decide ((l0.length : Int) ≤ 10))) = some r := by first | (with_reducible rfl) | (rw [if_pos rfl] at H; exact H)
     clear H
     have H := H1
     clear H1
     obtain rfl := Option.some.inj H
     go_wp2_with (first | ((with_reducible refine gate_callee (f := 32) rfl ?_); refine goesL_ (some 19) rfl rfl Try.func32 (by kernel_rfl) rfl #[.int .i64 a1, .int .i64 1, .int .i64 6] rfl mB ?_; (with_reducible refine (spec_l1In.calls a1 1 6 true _ A14.out).mono ?_); rintro e w' ⟨rfl, ⟨nd, rfl⟩⟩; refine ⟨_, rfl, ?_⟩))
     go_ret
     exact ⟨eB, bG⟩
    ·replace c15 := Bool.eq_false_iff.mpr c15
     subst c15
     have H1 : (some false) = some r := by first | (with_reducible rfl) | (rw [if_neg (show ¬ (false = true) by decide)] at H; exact H)
     clear H
     have H := H1
     clear H1
     obtain rfl := Option.some.inj H
     go_wp2_with (first | ((with_reducible refine gate_callee (f := 32) rfl ?_); refine goesL_ (some 19) rfl rfl Try.func32 (by kernel_rfl) rfl #[.int .i64 a1, .int .i64 1, .int .i64 6] rfl mB ?_; (with_reducible refine (spec_l1In.calls a1 1 6 false _ A14.out).mono ?_); rintro e w' ⟨rfl, ⟨nd, rfl⟩⟩; refine ⟨_, rfl, ?_⟩))
     go_ret
     exact ⟨eB, bG⟩

/-! ### spec_l1Compare: function 49 -/
mutual
def spec_l1Compare.l0 : Nat → Int → List Int → List Int → Option (Int)
 | 0, _, _, _ => none
 | k + 1, x5, x163000, x164000 => if x5 < (x163000.length : Int) then (spec_l1Compare.j1 k x5 (decide (x5 < (x164000.length : Int))) x163000 x164000) else (spec_l1Compare.j1 k x5 false x163000 x164000)
def spec_l1Compare.j1 : Nat → Int → Bool → List Int → List Int → Option (Int)
 | 0, _, _, _, _ => none
 | k + 1, x5, x17, x163000, x164000 => if x17 = true then (if 0 ≤ x5 then (if x5 < (x163000.length : Int) then (if x5 < (x164000.length : Int) then (if (rd x163000 x5) < (rd x164000 x5) then (some (-1)) else (if (rd x163000 x5) > (rd x164000 x5) then (some 1) else (spec_l1Compare.l0 k (wrap64 (x5 + 1)) x163000 x164000))) else (none)) else (none)) else (none)) else (if (x163000.length : Int) < (x164000.length : Int) then (some (-1)) else (if (x163000.length : Int) > (x164000.length : Int) then (some 1) else (some 0)))
end
def spec_l1Compare.f (k : Nat) (l0_0 : List Int) (l1_0 : List Int) : Option (Int) := spec_l1Compare.l0 k 0 l0_0 l1_0
theorem spec_l1Compare.mono_l : ∀ k, (∀ y0 y1 y2, LeO (spec_l1Compare.l0 k y0 y1 y2) (spec_l1Compare.l0 (k + 1) y0 y1 y2)) ∧ (∀ y0 y1 y2 y3, LeO (spec_l1Compare.j1 k y0 y1 y2 y3) (spec_l1Compare.j1 (k + 1) y0 y1 y2 y3))
 | 0 => ⟨fun _ _ _ r h => by simp [spec_l1Compare.l0] at h, fun _ _ _ _ r h => by simp [spec_l1Compare.j1] at h⟩
 | k + 1 => by
  obtain ⟨ih0, ih1⟩ := spec_l1Compare.mono_l k
  refine ⟨?_, ?_⟩
  ·intro y0 y1 y2
   unfold spec_l1Compare.l0
   repeat' first
   | (with_reducible exact ih0 _ _ _)
   | (with_reducible exact ih1 _ _ _ _)
   | (with_reducible exact LeO.refl _)
   | (with_reducible exact LeO.none _)
   | (with_reducible refine LeO.ite ?_ ?_)
   | (with_reducible refine LeO.bind ?_ (fun _ => ?_))
   | exact ih0 _ _ _
   | exact ih1 _ _ _ _
   | exact LeO.none _
   | refine LeO.ite ?_ ?_
   | refine LeO.bind ?_ (fun _ => ?_)
  ·intro y0 y1 y2 y3
   unfold spec_l1Compare.j1
   repeat' first
   | (with_reducible exact ih0 _ _ _)
   | (with_reducible exact ih1 _ _ _ _)
   | (with_reducible exact LeO.refl _)
   | (with_reducible exact LeO.none _)
   | (with_reducible refine LeO.ite ?_ ?_)
   | (with_reducible refine LeO.bind ?_ (fun _ => ?_))
   | exact ih0 _ _ _
   | exact ih1 _ _ _ _
   | exact LeO.none _
   | refine LeO.ite ?_ ?_
   | refine LeO.bind ?_ (fun _ => ?_)
theorem spec_l1Compare.mono : ∀ a0 a1 k, LeO (spec_l1Compare.f k a0 a1) (spec_l1Compare.f (k + 1) a0 a1) := by
 intro a0 a1 k
 obtain ⟨ih0, ih1⟩ := spec_l1Compare.mono_l k
 unfold spec_l1Compare.f
 repeat' first
   | (with_reducible exact ih0 _ _ _)
   | (with_reducible exact ih1 _ _ _ _)
   | (with_reducible exact LeO.refl _)
   | (with_reducible exact LeO.none _)
   | (with_reducible refine LeO.ite ?_ ?_)
   | (with_reducible refine LeO.bind ?_ (fun _ => ?_))
   | exact ih0 _ _ _
   | exact ih1 _ _ _ _
   | exact LeO.none _
   | refine LeO.ite ?_ ?_
   | refine LeO.bind ?_ (fun _ => ?_)
set_option maxHeartbeats 8000000 in
set_option maxRecDepth 100000 in
theorem spec_l1Compare.calls (k : Nat) (A0_0 : Option Addr) (c0_0 : Nat) (l0_0 : List Int) (A1_0 : Option Addr) (c1_0 : Nat) (l1_0 : List Int) (r : Int) (w : World) (hr0_0 : Kd.C (Kd.int .i64) w A0_0 l0_0.length l0_0) (hc0_0 : l0_0.length ≤ c0_0) (hr1_0 : Kd.C (Kd.int .i64) w A1_0 l1_0.length l1_0) (hc1_0 : l1_0.length ≤ c1_0) (h : spec_l1Compare.f k l0_0 l1_0 = some r) :
  Calls Try.prog 49 #[.agg #[.slice A0_0 l0_0.length c0_0], .agg #[.slice A1_0 l1_0.length c1_0]] w fun e w' => e = .returned (.int .i64 r) ∧ Below w.heap.size w w' := by
 have hu48 := Try.underlying48
 have HR0_0 := xm hr0_0
 have HC0_0 := xm hc0_0
 clear hr0_0 hc0_0
 have HR1_0 := xm hr1_0
 have HC1_0 := xm hc1_0
 clear hr1_0 hc1_0
 have HB := xm (Below.refl w.heap.size w)
 have H : (spec_l1Compare.l0 k 0 l0_0 l1_0) = some r := h
 clear h
 have H' := xm H
 clear H
 go_enter Try.func49, Try.ntmps49
 go_wp2_with (first | ((with_reducible refine gate_dst (N := 2) rfl ?_); (try (refine gate_guard (by rfl) ?_; dsimp only)); refine box_event ?hg (N := 2) ?hd (cs := #[.slice A0_0 l0_0.length c0_0]) (t := 48) ?hr ?_; (case hd => rfl); (case hg => rfl); (case hr => exact zB); intro gb162 hg w3 hbox hb; have n0_ := xm (below_step bB hb); have n1_ := xm (hbox); have n2_ := xm ((by rw [hg]; exact (xz bB) : w.heap.size ≤ gb162)); have n3_ := xm ((by rw [hg]; exact (xz bB) : w.heap.size ≤ gb162)); revert n0_ n1_ n2_ n3_; clear HB; intro HB BK162 GW162 GE162; clear hb hbox hg) | ((with_reducible refine gate_dst (N := 3) rfl ?_); (try (refine gate_guard (by rfl) ?_; dsimp only)); refine box_event ?hg (N := 3) ?hd (cs := #[.slice A1_0 l1_0.length c1_0]) (t := 48) ?hr ?_; (case hd => rfl); (case hg => rfl); (case hr => exact zB); intro gb163 hg w4 hbox hb; have n0_ := xm (blk_below (kB BK162) hb); have n1_ := xm (below_step bG hb); have n2_ := xm (hbox); have n3_ := xm ((by rw [hg]; exact (xz bG) : w.heap.size ≤ gb163)); have n4_ := xm ((by rw [hg]; exact (xz bG) : w.heap.size ≤ gb163)); have n5_ := xm ((by rw [hg]; exact Nat.ne_of_lt (blk_lt (kB BK162)) : gb162 ≠ gb163)); have n6_ := xm ((by rw [hg]; exact Nat.ne_of_gt (blk_lt (kB BK162)) : gb163 ≠ gb162)); revert n0_ n1_ n2_ n3_ n4_ n5_ n6_; clear BK162 HB; intro BK162 HB BK163 GW163 GE163 NB162_163 NB163_162; clear hb hbox hg))
 repeat (go_quiet (first | ((with_reducible refine gate_dst (N := 2) rfl ?_); (try (refine gate_guard (by rfl) ?_; dsimp only)); refine box_event ?hg (N := 2) ?hd (cs := #[.slice A0_0 l0_0.length c0_0]) (t := 48) ?hr ?_; (case hd => rfl); (case hg => rfl); (case hr => exact zB); intro gb162 hg w3 hbox hb; have n0_ := xm (below_step bB hb); have n1_ := xm (hbox); have n2_ := xm ((by rw [hg]; exact (xz bB) : w.heap.size ≤ gb162)); have n3_ := xm ((by rw [hg]; exact (xz bB) : w.heap.size ≤ gb162)); revert n0_ n1_ n2_ n3_; clear HB; intro HB BK162 GW162 GE162; clear hb hbox hg) | ((with_reducible refine gate_dst (N := 3) rfl ?_); (try (refine gate_guard (by rfl) ?_; dsimp only)); refine box_event ?hg (N := 3) ?hd (cs := #[.slice A1_0 l1_0.length c1_0]) (t := 48) ?hr ?_; (case hd => rfl); (case hg => rfl); (case hr => exact zB); intro gb163 hg w4 hbox hb; have n0_ := xm (blk_below (kB BK162) hb); have n1_ := xm (below_step bG hb); have n2_ := xm (hbox); have n3_ := xm ((by rw [hg]; exact (xz bG) : w.heap.size ≤ gb163)); have n4_ := xm ((by rw [hg]; exact (xz bG) : w.heap.size ≤ gb163)); have n5_ := xm ((by rw [hg]; exact Nat.ne_of_lt (blk_lt (kB BK162)) : gb162 ≠ gb163)); have n6_ := xm ((by rw [hg]; exact Nat.ne_of_gt (blk_lt (kB BK162)) : gb163 ≠ gb162)); revert n0_ n1_ n2_ n3_ n4_ n5_ n6_; clear BK162 HB; intro BK162 HB BK163 GW163 GE163 NB162_163 NB163_162; clear hb hbox hg)); try go_wp2_with (first | ((with_reducible refine gate_dst (N := 2) rfl ?_); (try (refine gate_guard (by rfl) ?_; dsimp only)); refine box_event ?hg (N := 2) ?hd (cs := #[.slice A0_0 l0_0.length c0_0]) (t := 48) ?hr ?_; (case hd => rfl); (case hg => rfl); (case hr => exact zB); intro gb162 hg w3 hbox hb; have n0_ := xm (below_step bB hb); have n1_ := xm (hbox); have n2_ := xm ((by rw [hg]; exact (xz bB) : w.heap.size ≤ gb162)); have n3_ := xm ((by rw [hg]; exact (xz bB) : w.heap.size ≤ gb162)); revert n0_ n1_ n2_ n3_; clear HB; intro HB BK162 GW162 GE162; clear hb hbox hg) | ((with_reducible refine gate_dst (N := 3) rfl ?_); (try (refine gate_guard (by rfl) ?_; dsimp only)); refine box_event ?hg (N := 3) ?hd (cs := #[.slice A1_0 l1_0.length c1_0]) (t := 48) ?hr ?_; (case hd => rfl); (case hg => rfl); (case hr => exact zB); intro gb163 hg w4 hbox hb; have n0_ := xm (blk_below (kB BK162) hb); have n1_ := xm (below_step bG hb); have n2_ := xm (hbox); have n3_ := xm ((by rw [hg]; exact (xz bG) : w.heap.size ≤ gb163)); have n4_ := xm ((by rw [hg]; exact (xz bG) : w.heap.size ≤ gb163)); have n5_ := xm ((by rw [hg]; exact Nat.ne_of_lt (blk_lt (kB BK162)) : gb162 ≠ gb163)); have n6_ := xm ((by rw [hg]; exact Nat.ne_of_gt (blk_lt (kB BK162)) : gb163 ≠ gb162)); revert n0_ n1_ n2_ n3_ n4_ n5_ n6_; clear BK162 HB; intro BK162 HB BK163 GW163 GE163 NB162_163 NB163_162; clear hb hbox hg)))
 go_loopg [5] k (fun kq v5 w' => ∃ (x5_1 : Int), v5 = .int .i64 x5_1 ∧ Aside0 (spec_l1Compare.l0 kq x5_1 l0_0 l1_0 = some r) ∧ Aside0 (kq ≤ k) ∧ Aside0 (w'.heap[gb162]? = some (.cells #[(.slice A0_0 l0_0.length c0_0)] 48 (0, 0))) ∧ Aside0 (w'.heap[gb163]? = some (.cells #[(.slice A1_0 l1_0.length c1_0)] 48 (0, 0))) ∧ Aside0 (Below w.heap.size w w'))
 case atStart => exact ⟨(0), sB, H', ⟨Nat.le_refl _⟩, ⟨kB BK162⟩, ⟨kB BK163⟩, ⟨bG⟩⟩
 case round =>
  clear H'
  try clear c1
  try clear p2
  try clear c4
  obtain ⟨x5_1, rfl, HA, HK1, BK162, BK163, HB⟩ := hrel
  cases gk with
  | zero => exact absurd HA.out (by simp [spec_l1Compare.l0])
  | succ k1 =>
   have H := HA.out
   clear HA
   simp only [spec_l1Compare.l0] at H
   have HC5 := xm H
   clear H
   go_upto_region 2 with (fail)
   repeat (go_quiet (fail); go_upto_region 2 with (fail))
   go_cut [17] (fun v17 wc => ∃ (kq : Nat) (x17_4 : Bool), v17 = .bool x17_4 ∧ Aside0 (spec_l1Compare.j1 kq x5_1 x17_4 l0_0 l1_0 = some r) ∧ Aside0 (kq ≤ k1) ∧ Aside0 (wc.heap[gb162]? = some (.cells #[(.slice A0_0 l0_0.length c0_0)] 48 (0, 0))) ∧ Aside0 (wc.heap[gb163]? = some (.cells #[(.slice A1_0 l1_0.length c1_0)] 48 (0, 0))) ∧ Aside0 (Below w.heap.size w wc))
   case first =>
    have H := HC5.out
    clear HC5
    by_cases c6 : x5_1 < (l0_0.length : Int)
    ·rw [if_pos c6] at H
     have c6b0 : decide (x5_1 < (l0_0.length : Int)) = true := decide_eq_true c6
     clear c6
     (first | rw [c6b0] | (simp only [i64_w, i32_w]; rw [c6b0]) | skip)
     have H' := xm H
     clear H
     have hnb7 := NB162_163.out
     have hnc7 := NB163_162.out
     obtain ⟨hcz8_0, hfz8_0⟩ := cz1 BK162.out
     obtain ⟨hcz9_0, hfz9_0⟩ := cz1 BK163.out
     go_wp2
     repeat (go_quiet (fail); try go_wp2)
     go_meet
     case rel => exact ⟨_, (decide (x5_1 < (l1_0.length : Int))), sB, H', ⟨by have := HK1.out; first | omega | exact Nat.le_refl _⟩, ⟨kB BK162⟩, ⟨kB BK163⟩, ⟨bG⟩⟩
    ·rw [if_neg c6] at H
     have c6b0 : decide (x5_1 < (l0_0.length : Int)) = false := decide_eq_false c6
     clear c6
     (first | rw [c6b0] | (simp only [i64_w, i32_w]; rw [c6b0]) | skip)
     have H' := xm H
     clear H
     have hnb10 := NB162_163.out
     have hnc10 := NB163_162.out
     obtain ⟨hcz11_0, hfz11_0⟩ := cz1 BK162.out
     go_wp2
     repeat (go_quiet (fail); try go_wp2)
     go_meet
     case rel => exact ⟨_, (false), sB, H', ⟨by have := HK1.out; first | omega | exact Nat.le_refl _⟩, ⟨kB BK162⟩, ⟨kB BK163⟩, ⟨bG⟩⟩
   case rest =>
    clear HC5
    try clear c1
    try clear p2
    try clear c4
    try clear c6
    try clear c6b0
    try clear c7
    try clear c10
    try clear hcz11_0
    try clear hcz8_0
    try clear hcz9_0
    try clear hfz11_0
    try clear hfz8_0
    try clear hfz9_0
    try clear p2
    obtain ⟨kq, x17_4, rfl, HA, HJ4, BK162, BK163, HB⟩ := hcut
    cases kq with
    | zero => exact absurd HA.out (by simp [spec_l1Compare.j1])
    | succ kj4 =>
     have H := HA.out
     clear HA
     simp only [spec_l1Compare.j1] at H
     by_cases c12 : x17_4 = true
     ·subst c12
      have H1 : (if 0 ≤ x5_1 then (if x5_1 < (l0_0.length : Int) then (if x5_1 < (l1_0.length : Int) then (if (rd l0_0 x5_1) < (rd l1_0 x5_1) then (some (-1)) else (if (rd l0_0 x5_1) > (rd l1_0 x5_1) then (some 1) else (spec_l1Compare.l0 kj4 (wrap64 (x5_1 + 1)) l0_0 l1_0))) else (none)) else (none)) else (none)) = some r := by first | (with_reducible rfl) | (rw [if_pos rfl] at H; exact H)
      clear H
      have H := H1
      clear H1
      by_cases c13 : 0 ≤ x5_1
      ·rw [if_pos c13] at H
       have c13b0 : decide (0 ≤ x5_1) = true := decide_eq_true c13
       clear c13
       by_cases c14 : x5_1 < (l0_0.length : Int)
       ·rw [if_pos c14] at H
        have c14b0 : decide (x5_1 < (l0_0.length : Int)) = true := decide_eq_true c14
        clear c14
        by_cases c15 : x5_1 < (l1_0.length : Int)
        ·rw [if_pos c15] at H
         have c15b0 : decide (x5_1 < (l1_0.length : Int)) = true := decide_eq_true c15
         clear c15
         by_cases c16 : (rd l0_0 x5_1) < (rd l1_0 x5_1)
         ·rw [if_pos c16] at H
          have c16b0 : decide ((rd l0_0 x5_1) < (rd l1_0 x5_1)) = true := decide_eq_true c16
          clear c16
          obtain rfl := Option.some.inj H
          have hnb17 := NB162_163.out
          have hnc17 := NB163_162.out
          obtain ⟨hcz18_0, hfz18_0⟩ := cz1 BK162.out
          have p164 : 0 ≤ (x5_1 : Int) := of_decide_eq_true aB
          have q164 : x5_1 < (l0_0.length : Int) := of_decide_eq_true aB
          obtain ⟨ad164, e164, hx164_0⟩ := Kd.at_int HR0_0.out x5_1 p164 q164
          cases e164
          replace hx164_0 := hU hx164_0
          replace p164 := eq_true p164
          replace q164 := eq_true q164
          obtain ⟨hcz19_0, hfz19_0⟩ := cz1 BK163.out
          have p165 : 0 ≤ (x5_1 : Int) := of_decide_eq_true aB
          have q165 : x5_1 < (l1_0.length : Int) := of_decide_eq_true aB
          obtain ⟨ad165, e165, hx165_0⟩ := Kd.at_int HR1_0.out x5_1 p165 q165
          cases e165
          replace hx165_0 := hU hx165_0
          replace p165 := eq_true p165
          replace q165 := eq_true q165
          go_wp2
          repeat (go_quiet (fail); try go_wp2)
          go_ret
          exact ⟨eB, bG⟩
         ·rw [if_neg c16] at H
          have c16b0 : decide ((rd l0_0 x5_1) < (rd l1_0 x5_1)) = false := decide_eq_false c16
          clear c16
          by_cases c20 : (rd l0_0 x5_1) > (rd l1_0 x5_1)
          ·rw [if_pos c20] at H
           have c20b0 : decide ((rd l1_0 x5_1) < (rd l0_0 x5_1)) = true := decide_eq_true c20
           clear c20
           obtain rfl := Option.some.inj H
           have hnb21 := NB162_163.out
           have hnc21 := NB163_162.out
           obtain ⟨hcz22_0, hfz22_0⟩ := cz1 BK162.out
           have p164 : 0 ≤ (x5_1 : Int) := of_decide_eq_true aB
           have q164 : x5_1 < (l0_0.length : Int) := of_decide_eq_true aB
           obtain ⟨ad164, e164, hx164_0⟩ := Kd.at_int HR0_0.out x5_1 p164 q164
           cases e164
           replace hx164_0 := hU hx164_0
           replace p164 := eq_true p164
           replace q164 := eq_true q164
           obtain ⟨hcz23_0, hfz23_0⟩ := cz1 BK163.out
           have p165 : 0 ≤ (x5_1 : Int) := of_decide_eq_true aB
           have q165 : x5_1 < (l1_0.length : Int) := of_decide_eq_true aB
           obtain ⟨ad165, e165, hx165_0⟩ := Kd.at_int HR1_0.out x5_1 p165 q165
           cases e165
           replace hx165_0 := hU hx165_0
           replace p165 := eq_true p165
           replace q165 := eq_true q165
           have p166 : 0 ≤ (x5_1 : Int) := of_decide_eq_true aB
           have q166 : x5_1 < (l0_0.length : Int) := of_decide_eq_true aB
           obtain ⟨ad166, e166, hx166_0⟩ := Kd.at_int HR0_0.out x5_1 p166 q166
           obtain rfl : ad164 = ad166 := (by injection e166)
           replace hx166_0 := hU hx166_0
           replace p166 := eq_true p166
           replace q166 := eq_true q166
           have p167 : 0 ≤ (x5_1 : Int) := of_decide_eq_true aB
           have q167 : x5_1 < (l1_0.length : Int) := of_decide_eq_true aB
           obtain ⟨ad167, e167, hx167_0⟩ := Kd.at_int HR1_0.out x5_1 p167 q167
           obtain rfl : ad165 = ad167 := (by injection e167)
           replace hx167_0 := hU hx167_0
           replace p167 := eq_true p167
           replace q167 := eq_true q167
           go_wp2
           repeat (go_quiet (fail); try go_wp2)
           go_ret
           exact ⟨eB, bG⟩
          ·rw [if_neg c20] at H
           have c20b0 : decide ((rd l1_0 x5_1) < (rd l0_0 x5_1)) = false := decide_eq_false c20
           clear c20
           have H' := xm H
           clear H
           have hnb24 := NB162_163.out
           have hnc24 := NB163_162.out
           obtain ⟨hcz25_0, hfz25_0⟩ := cz1 BK162.out
           have p164 : 0 ≤ (x5_1 : Int) := of_decide_eq_true aB
           have q164 : x5_1 < (l0_0.length : Int) := of_decide_eq_true aB
           obtain ⟨ad164, e164, hx164_0⟩ := Kd.at_int HR0_0.out x5_1 p164 q164
           cases e164
           replace hx164_0 := hU hx164_0
           replace p164 := eq_true p164
           replace q164 := eq_true q164
           obtain ⟨hcz26_0, hfz26_0⟩ := cz1 BK163.out
           have p165 : 0 ≤ (x5_1 : Int) := of_decide_eq_true aB
           have q165 : x5_1 < (l1_0.length : Int) := of_decide_eq_true aB
           obtain ⟨ad165, e165, hx165_0⟩ := Kd.at_int HR1_0.out x5_1 p165 q165
           cases e165
           replace hx165_0 := hU hx165_0
           replace p165 := eq_true p165
           replace q165 := eq_true q165
           have p166 : 0 ≤ (x5_1 : Int) := of_decide_eq_true aB
           have q166 : x5_1 < (l0_0.length : Int) := of_decide_eq_true aB
           obtain ⟨ad166, e166, hx166_0⟩ := Kd.at_int HR0_0.out x5_1 p166 q166
           obtain rfl : ad164 = ad166 := (by injection e166)
           replace hx166_0 := hU hx166_0
           replace p166 := eq_true p166
           replace q166 := eq_true q166
           have p167 : 0 ≤ (x5_1 : Int) := of_decide_eq_true aB
           have q167 : x5_1 < (l1_0.length : Int) := of_decide_eq_true aB
           obtain ⟨ad167, e167, hx167_0⟩ := Kd.at_int HR1_0.out x5_1 p167 q167
           obtain rfl : ad165 = ad167 := (by injection e167)
           replace hx167_0 := hU hx167_0
           replace p167 := eq_true p167
           replace q167 := eq_true q167
           go_wp2
           repeat (go_quiet (fail); try go_wp2)
           go_roundg kj4
           case measure => have := HK1.out; have := HJ4.out; omega
           case rel => exact ⟨(wrap64 (x5_1 + 1)), sB, H', ⟨by have := HK1.out; have := HJ4.out; omega⟩, ⟨kB BK162⟩, ⟨kB BK163⟩, ⟨bG⟩⟩
        ·rw [if_neg c15] at H
         exact absurd H (by simp)
       ·rw [if_neg c14] at H
        exact absurd H (by simp)
      ·rw [if_neg c13] at H
       exact absurd H (by simp)
     ·replace c12 := Bool.eq_false_iff.mpr c12
      subst c12
      have H1 : (if (l0_0.length : Int) < (l1_0.length : Int) then (some (-1)) else (if (l0_0.length : Int) > (l1_0.length : Int) then (some 1) else (some 0))) = some r := by first | (with_reducible rfl) | (rw [if_neg (show ¬ (false = true) by decide)] at H; exact H)
      clear H
      have H := H1
      clear H1
      by_cases c27 : (l0_0.length : Int) < (l1_0.length : Int)
      ·rw [if_pos c27] at H
       have c27b0 : decide ((l0_0.length : Int) < (l1_0.length : Int)) = true := decide_eq_true c27
       have c27b1 : decide (l0_0.length < l1_0.length) = true := decide_eq_true (Int.ofNat_lt.mp c27)
       clear c27
       obtain rfl := Option.some.inj H
       have hnb28 := NB162_163.out
       have hnc28 := NB163_162.out
       obtain ⟨hcz29_0, hfz29_0⟩ := cz1 BK162.out
       obtain ⟨hcz30_0, hfz30_0⟩ := cz1 BK163.out
       go_wp2
       repeat (go_quiet (fail); try go_wp2)
       go_ret
       exact ⟨eB, bG⟩
      ·rw [if_neg c27] at H
       have c27b0 : decide ((l0_0.length : Int) < (l1_0.length : Int)) = false := decide_eq_false c27
       have c27b1 : decide (l0_0.length < l1_0.length) = false := decide_eq_false (fun h => c27 (Int.ofNat_lt.mpr h))
       clear c27
       by_cases c31 : (l0_0.length : Int) > (l1_0.length : Int)
       ·rw [if_pos c31] at H
        have c31b0 : decide ((l1_0.length : Int) < (l0_0.length : Int)) = true := decide_eq_true c31
        have c31b1 : decide (l1_0.length < l0_0.length) = true := decide_eq_true (Int.ofNat_lt.mp c31)
        clear c31
        obtain rfl := Option.some.inj H
        have hnb32 := NB162_163.out
        have hnc32 := NB163_162.out
        obtain ⟨hcz33_0, hfz33_0⟩ := cz1 BK162.out
        obtain ⟨hcz34_0, hfz34_0⟩ := cz1 BK163.out
        go_wp2
        repeat (go_quiet (fail); try go_wp2)
        go_ret
        exact ⟨eB, bG⟩
       ·rw [if_neg c31] at H
        have c31b0 : decide ((l1_0.length : Int) < (l0_0.length : Int)) = false := decide_eq_false c31
        have c31b1 : decide (l1_0.length < l0_0.length) = false := decide_eq_false (fun h => c31 (Int.ofNat_lt.mpr h))
        clear c31
        obtain rfl := Option.some.inj H
        have hnb35 := NB162_163.out
        have hnc35 := NB163_162.out
        obtain ⟨hcz36_0, hfz36_0⟩ := cz1 BK162.out
        obtain ⟨hcz37_0, hfz37_0⟩ := cz1 BK163.out
        go_wp2
        repeat (go_quiet (fail); try go_wp2)
        go_ret
        exact ⟨eB, bG⟩

end Go.Proofs.Ytmelechhnimlnad.G
