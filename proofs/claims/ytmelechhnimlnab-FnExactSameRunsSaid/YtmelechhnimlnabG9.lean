/- Written by a program of this claim's own, out of the translation: functions of the program as plain functions, and that the calls answer as these. No conditions. -/
import Derived.Test.YtmelechhnimlnabG0
import Derived.Test.YtmelechhnimlnabXP
import Derived.Test.YtmelechhnimlnabG2
import Derived.Test.YtmelechhnimlnabG6
import Derived.Test.YtmelechhnimlnabG7
import Derived.Test.YtmelechhnimlnabG8
namespace Go.Proofs.Ytmelechhnimlnab.G
open Go.RowKit Go.Proofs.Ytmelechhnimlnab.X Go.Proofs.YtmelechhnimlnabW.PrintWords Go.Proofs.YtmelechhnimlnabW.PrintLast Go.Proofs.YtmelechhnimlnabW.PrintMore
attribute [local go_sem] max2_int min2_int max_two min_two max_three min_three max_four min_four   -- for this text's walks alone
set_option linter.unusedVariables false
set_option linter.unusedSimpArgs false

attribute [local go_sem high] eqA44
/-! ### slices_Equal_Limpl_place_impl_place: function 18 -/
def slices_Equal_Limpl_place_impl_place.l0 : Nat → List (S44) → List (S44) → Int → Int → Option (Bool)
 | 0, _, _, _, _ => none
 | k + 1, x0, x1, x12, x13 => if x13 < x12 then (if 0 ≤ x13 then (if x13 < (x0.length : Int) then (if x13 < (x1.length : Int) then (if (!(((rd_T44 x0 x13).f0) == ((rd_T44 x1 x13).f0)) || (!(((rd_T44 x0 x13).f1) == ((rd_T44 x1 x13).f1)))) = true then (some false) else (slices_Equal_Limpl_place_impl_place.l0 k x0 x1 x12 (wrap64 (x13 + 1)))) else (none)) else (none)) else (none)) else (some true)
def slices_Equal_Limpl_place_impl_place.f (k : Nat) (l0 : List (S44)) (l1 : List (S44)) : Option (Bool) := if (l0.length : Int) = (l1.length : Int) then (slices_Equal_Limpl_place_impl_place.l0 k l0 l1 (l0.length : Int) 0) else (some false)
theorem slices_Equal_Limpl_place_impl_place.mono_l : ∀ k, (∀ y0 y1 y2 y3, LeO (slices_Equal_Limpl_place_impl_place.l0 k y0 y1 y2 y3) (slices_Equal_Limpl_place_impl_place.l0 (k + 1) y0 y1 y2 y3))
 | 0 => fun _ _ _ _ r h => by simp [slices_Equal_Limpl_place_impl_place.l0] at h
 | k + 1 => by
  have ih0 := slices_Equal_Limpl_place_impl_place.mono_l k
  ·intro y0 y1 y2 y3
   unfold slices_Equal_Limpl_place_impl_place.l0
   repeat' first
   | (with_reducible exact ih0 _ _ _ _)
   | (with_reducible exact LeO.refl _)
   | (with_reducible exact LeO.none _)
   | (with_reducible refine LeO.ite ?_ ?_)
   | (with_reducible refine LeO.bind ?_ (fun _ => ?_))
   | exact ih0 _ _ _ _
   | exact LeO.none _
   | refine LeO.ite ?_ ?_
   | refine LeO.bind ?_ (fun _ => ?_)
theorem slices_Equal_Limpl_place_impl_place.mono : ∀ a0 a1 k, LeO (slices_Equal_Limpl_place_impl_place.f k a0 a1) (slices_Equal_Limpl_place_impl_place.f (k + 1) a0 a1) := by
 intro a0 a1 k
 have ih0 := slices_Equal_Limpl_place_impl_place.mono_l k
 unfold slices_Equal_Limpl_place_impl_place.f
 repeat' first
   | (with_reducible exact ih0 _ _ _ _)
   | (with_reducible exact LeO.refl _)
   | (with_reducible exact LeO.none _)
   | (with_reducible refine LeO.ite ?_ ?_)
   | (with_reducible refine LeO.bind ?_ (fun _ => ?_))
   | exact ih0 _ _ _ _
   | exact LeO.none _
   | refine LeO.ite ?_ ?_
   | refine LeO.bind ?_ (fun _ => ?_)
set_option maxHeartbeats 8000000 in
set_option maxRecDepth 100000 in
theorem slices_Equal_Limpl_place_impl_place.calls (k : Nat) (A0 : Option Addr) (c0 : Nat) (l0 : List (S44)) (A1 : Option Addr) (c1 : Nat) (l1 : List (S44)) (r : Bool) (w : World) (hr0 : Kd.C k44 w A0 l0.length l0) (hc0 : l0.length ≤ c0) (hr1 : Kd.C k44 w A1 l1.length l1) (hc1 : l1.length ≤ c1) (h : slices_Equal_Limpl_place_impl_place.f k l0 l1 = some r) :
  Calls Try.prog 18 #[.slice A0 l0.length c0, .slice A1 l1.length c1] w fun e w' => e = .returned (.bool r) ∧ Drawn0 w w' := by
 have hu44 := Try.underlying44
 have HR0 := xm hr0
 have HC0 := xm hc0
 clear hr0 hc0
 have HR1 := xm hr1
 have HC1 := xm hc1
 clear hr1 hc1
 have H : (if (l0.length : Int) = (l1.length : Int) then (slices_Equal_Limpl_place_impl_place.l0 k l0 l1 (l0.length : Int) 0) else (some false)) = some r := h
 clear h
 by_cases c3 : (l0.length : Int) = (l1.length : Int)
 ·rw [if_pos c3] at H
  have c3b0 : ((l0.length : Int) == (l1.length : Int)) = true := beq_iff_eq.mpr c3
  have c3b1 : ((l0.length : Int) != (l1.length : Int)) = false := bne_eq_false_iff_eq.mpr c3
  have c3b2 : (l0.length == l1.length) = true := by first | simpa using c3 | (simp at c3 ⊢; omega)
  clear c3
  have H' := xm H
  clear H
  go_enter Try.func18, Try.ntmps18
  go_wp2
  repeat (go_quiet (fail); try go_wp2)
  go_loopg [13] k (fun kq v13 w' => ∃ (x13_1 : Int), v13 = .int .i64 x13_1 ∧ Aside0 (slices_Equal_Limpl_place_impl_place.l0 kq l0 l1 (l0.length : Int) x13_1 = some r) ∧ Aside0 (kq ≤ k) ∧ Drawn0 w w')
  case atStart => exact ⟨(0), sB, H', ⟨Nat.le_refl _⟩, by repeat (first | exact Drawn0.refl _ | apply Drawn0.step)⟩
  case round =>
   clear H'
   try clear c1
   try clear p2
   try clear c3
   try clear c3b0 c3b1 c3b2
   obtain ⟨x13_1, rfl, HA, HK1, ⟨m1, rfl⟩⟩ := hrel
   cases gk with
   | zero => exact absurd HA.out (by simp [slices_Equal_Limpl_place_impl_place.l0])
   | succ k1 =>
    have H := HA.out
    clear HA
    simp only [slices_Equal_Limpl_place_impl_place.l0] at H
    by_cases c4 : x13_1 < (l0.length : Int)
    ·rw [if_pos c4] at H
     have c4b0 : decide (x13_1 < (l0.length : Int)) = true := decide_eq_true c4
     clear c4
     by_cases c5 : 0 ≤ x13_1
     ·rw [if_pos c5] at H
      have c5b0 : decide (0 ≤ x13_1) = true := decide_eq_true c5
      clear c5
      by_cases c6 : x13_1 < (l0.length : Int)
      ·rw [if_pos c6] at H
       have c6b0 : decide (x13_1 < (l0.length : Int)) = true := decide_eq_true c6
       clear c6
       by_cases c7 : x13_1 < (l1.length : Int)
       ·rw [if_pos c7] at H
        have c7b0 : decide (x13_1 < (l1.length : Int)) = true := decide_eq_true c7
        clear c7
        by_cases c8 : (!(((rd_T44 l0 x13_1).f0) == ((rd_T44 l1 x13_1).f0)) || (!(((rd_T44 l0 x13_1).f1) == ((rd_T44 l1 x13_1).f1)))) = true
        ·rw [if_pos c8] at H
         have c8b0 : (!(((rd_T44 l0 x13_1).f0) == ((rd_T44 l1 x13_1).f0)) || (!(((rd_T44 l0 x13_1).f1) == ((rd_T44 l1 x13_1).f1)))) = true := c8
         clear c8
         obtain rfl := Option.some.inj H
         have p177 : 0 ≤ (x13_1 : Int) := of_decide_eq_true aB
         have q177 : x13_1 < (l0.length : Int) := of_decide_eq_true aB
         obtain ⟨ad177, e177, hx177_0, hx177_1⟩ := at_T44 HR0.out x13_1 p177 q177
         cases e177
         replace p177 := eq_true p177
         replace q177 := eq_true q177
         have p178 : 0 ≤ (x13_1 : Int) := of_decide_eq_true aB
         have q178 : x13_1 < (l1.length : Int) := of_decide_eq_true aB
         obtain ⟨ad178, e178, hx178_0, hx178_1⟩ := at_T44 HR1.out x13_1 p178 q178
         cases e178
         replace p178 := eq_true p178
         replace q178 := eq_true q178
         go_wp2
         repeat (go_quiet (fail); try go_wp2)
         go_ret
         exact ⟨sB, dB⟩
        ·rw [if_neg c8] at H
         have c8b0 : (!(((rd_T44 l0 x13_1).f0) == ((rd_T44 l1 x13_1).f0)) || (!(((rd_T44 l0 x13_1).f1) == ((rd_T44 l1 x13_1).f1)))) = false := by simpa using c8
         clear c8
         have H' := xm H
         clear H
         have p177 : 0 ≤ (x13_1 : Int) := of_decide_eq_true aB
         have q177 : x13_1 < (l0.length : Int) := of_decide_eq_true aB
         obtain ⟨ad177, e177, hx177_0, hx177_1⟩ := at_T44 HR0.out x13_1 p177 q177
         cases e177
         replace p177 := eq_true p177
         replace q177 := eq_true q177
         have p178 : 0 ≤ (x13_1 : Int) := of_decide_eq_true aB
         have q178 : x13_1 < (l1.length : Int) := of_decide_eq_true aB
         obtain ⟨ad178, e178, hx178_0, hx178_1⟩ := at_T44 HR1.out x13_1 p178 q178
         cases e178
         replace p178 := eq_true p178
         replace q178 := eq_true q178
         go_wp2
         repeat (go_quiet (fail); try go_wp2)
         go_roundg k1
         case measure => have := HK1.out; omega
         case rel => exact ⟨(wrap64 (x13_1 + 1)), sB, H', ⟨by have := HK1.out; omega⟩, by repeat (first | exact Drawn0.refl _ | apply Drawn0.step)⟩
       ·rw [if_neg c7] at H
        exact absurd H (by simp)
      ·rw [if_neg c6] at H
       exact absurd H (by simp)
     ·rw [if_neg c5] at H
      exact absurd H (by simp)
    ·rw [if_neg c4] at H
     have c4b0 : decide (x13_1 < (l0.length : Int)) = false := decide_eq_false c4
     clear c4
     obtain rfl := Option.some.inj H
     go_wp2
     repeat (go_quiet (fail); try go_wp2)
     go_ret
     exact ⟨sB, dB⟩
 ·rw [if_neg c3] at H
  have c3b0 : ((l0.length : Int) == (l1.length : Int)) = false := beq_eq_false_iff_ne.mpr c3
  have c3b1 : ((l0.length : Int) != (l1.length : Int)) = true := bne_iff_ne.mpr c3
  have c3b2 : (l0.length == l1.length) = false := by first | simpa using c3 | (simp at c3 ⊢; omega)
  obtain rfl := Option.some.inj H
  go_enter Try.func18, Try.ntmps18
  go_wp2
  repeat (go_quiet (fail); try go_wp2)
  go_ret
  exact ⟨sB, dB⟩

/-! ### impl_SameRuns: function 7 -/
attribute [local go_sem high] eqA44
theorem maps_Equal.grown {w w' : World} (h : Below w.heap.size w w') : w.grownBy w' none := ⟨h.os, h.tape, h.output, h.size, fun i hi _ => h.block i hi⟩
theorem maps_Equal.below {w w' : World} (h : w.grownBy w' none) : Below w.heap.size w w' := ⟨h.os, h.tape, h.output, h.size, fun i hi => h.block i hi (by simp)⟩
theorem maps_Equal.zero (w : World) : (zeroValue 44).run Try.prog w = .ok (plV (0, 0)) w := by kernel_rfl
set_option maxHeartbeats 8000000 in
set_option maxRecDepth 100000 in
theorem maps_Equal.own (b1 b2 n1 n2 : Nat) (D1 D2 : DataW Unit) (w : World) (h1 : w.ownsMap Try.prog 44 elP b1 n1 D1) (h2 : w.ownsMap Try.prog 44 elP b2 n2 D2) :
  Calls Try.prog 17 #[.map (some b1), .map (some b2)] w fun e w' => e = .returned (.bool (Lib.equalFuncD eqP D1 D2)) ∧ Below w.heap.size w w' := by
 have hu44 := Try.underlying44
 have hu38 := Try.underlying38
 have l1 := fun ty => h1.len (t := 38) Try.underlying38 ty
 have l2 := fun ty => h2.len (t := 38) Try.underlying38 ty
 obtain ⟨es1, rfl, hap, hkeys⟩ := h1.entries placeKeyed
 have HAP := xm hap
 have HKE := xm hkeys
 have HLT := xm (And.intro h1.lt h2.lt)
 clear hap hkeys
 obtain ⟨res, hres⟩ : ∃ res, Lib.equalFuncD eqP (.map es1) D2 = res := ⟨_, rfl⟩
 rw [hres]
 have RES := xm hres
 clear hres
 by_cases hsz : Maps.size (.map es1 : DataW Unit) = Maps.size D2
 ·go_enter Try.func17, Try.ntmps17
  go_wp2_with (first
   | (at_range; refine wpList_range_own _ rfl _ 38 rfl 44 44 placeKeyed Try.underlying38 elP b1 n1 _ rfl h1 ?_; intro w0 hrg0 hg0 hs0))
  go_frame
  go_loopw [] (fun wr => ∃ (left : Lit → Bool) (cnt : Nat), wr.ranges Try.prog 44 elP b1 w.heap.size n1 (.map es1) left cnt ∧ wr.ownsMap Try.prog 44 elP b2 n2 D2 ∧ w.grownBy wr none ∧ Aside0 (Maps.GoodAt eqP es1 D2 left))
   (fun wr => wr.rangeLeft b1 w.heap.size)
  case atStart => exact ⟨_, _, hrg0, h2.kept hg0 (by simp), hg0, ⟨Maps.good_start HKE.out D2⟩⟩
  case round =>
   obtain ⟨left, cnt, hrg, h2r, hgw, G⟩ := hrel
   go_wp2_with (first
    | (at_next; refine wpList_next_ranges _ rfl _ rfl 44 placeKeyed elP plV plV (fun key kl hk => by obtain ⟨p, _, h, _⟩ := keyP_inv hk; exact ⟨p, h⟩) (fun v y hv => by obtain ⟨p, h, _⟩ := elP_inv hv; exact ⟨p, h⟩) b1 w.heap.size n1 _ _ _ rfl hrg ?_ ?_))
   ·intro _ hl0
    go_wp2
    go_ret
    exact ⟨by rw [← RES.out, Maps.all_good G.out hl0 hsz]; rfl, maps_Equal.below hgw⟩
   ·intro x0 x1 c0 c1 kl y yp w1 cnt1 hkey hlx hv hat hrg1 hlt hg1 hs1 hen
    simp only [plV] at hen ⊢
    have hkey2 : keyOf Try.prog 44 (.agg #[.int .i64 x0, .int .i64 x1]) = some kl := hkey
    have hgw1 : w.grownBy w1 none := hgw.andThen hg1 (fun j hj => by cases hj; exact Or.inl (Nat.le_refl _))
    have h2w1 := h2r.kept hg1 (fun e => by have := Option.some.inj e; have := HLT.out.2; omega)
    have hal : ∀ o1 o2 o3, w1.grownBy (((w1.alloc o1).alloc o2).alloc o3) none := fun o1 o2 o3 => maps_Equal.grown (xa (xa (xa (Below.refl _ _) _) _) _)
    obtain ⟨d0, d1, hd⟩ : ∃ d0 d1, D2.atKey kl (deP (0, 0)) = deP (d0, d1) := by
     obtain ⟨v, ps, _, hv2⟩ := h2w1.look_ok placeKeyed Try.underlying38 (maps_Equal.zero _) (elP_mk (0, 0)) hkey
     obtain ⟨p, _, hp⟩ := elP_inv hv2
     exact ⟨p.1, p.2, (Prod.mk.inj hp).1⟩
    have hy : y = deP (c0, c1) := by rw [elP_mk] at hv; exact (Prod.mk.inj (Option.some.inj hv)).1.symm
    have HAT := xm hat
    have HK2 := xm hkey2
    have HD := xm hd
    have HO2 := xm h2w1
    have HGW := xm hgw1
    have HAL := xm hal
    clear hat hkey hkey2 hv hd h2w1 hgw1 hal hg1 hs1 h2r hgw
    cases hh : Maps.has D2 kl
    ·have hbad : Lib.goodD eqP D2 (kl, y) = false := by unfold Lib.goodD; rw [hh]; rfl
     have HH := xm hh
     have HBAD := xm hbad
     clear hh hbad
     go_wp2_with (first
      | (at_lookup; refine pl_look rfl _ _ 38 44 44 rfl placeKeyed Try.underlying38 (maps_Equal.zero _) (b := b2) rfl ((HO2.out.alloc _).alloc _) _ kl rfl HK2.out d0 d1 HD.out (.tuple #[.agg #[.int .i64 d0, .int .i64 d1], .bool false]) (by rw [HH.out]) ?_))
     go_ret
     exact ⟨by rw [← RES.out, Maps.bad_false HAP.out HKE.out HAT.out HBAD.out]; rfl, maps_Equal.below (HGW.out.andThen (HAL.out _ _ _) (fun j hj => by cases hj))⟩
    ·have hhd : Lib.goodD eqP D2 (kl, y) = (c0 == d0 && c1 == d1) := by unfold Lib.goodD; rw [hh, Maps.atKey_indep hh .nil (deP (0, 0)), HD.out, hy]; rfl
     have HH := xm hh
     clear hh
     cases hq : (c0 == d0 && (c1 == d1))
     ·have HBAD := xm (hhd.trans hq)
      clear hhd
      go_wp2_with (first
       | (at_lookup; refine pl_look rfl _ _ 38 44 44 rfl placeKeyed Try.underlying38 (maps_Equal.zero _) (b := b2) rfl ((HO2.out.alloc _).alloc _) _ kl rfl HK2.out d0 d1 HD.out (.tuple #[.agg #[.int .i64 d0, .int .i64 d1], .bool true]) (by rw [HH.out]) ?_))
      go_ret
      exact ⟨by rw [← RES.out, Maps.bad_false HAP.out HKE.out HAT.out HBAD.out]; rfl, maps_Equal.below (HGW.out.andThen (HAL.out _ _ _) (fun j hj => by cases hj))⟩
     ·have HGOOD := xm (hhd.trans hq)
      clear hhd
      go_wp2_with (first
       | (at_lookup; refine pl_look rfl _ _ 38 44 44 rfl placeKeyed Try.underlying38 (maps_Equal.zero _) (b := b2) rfl ((HO2.out.alloc _).alloc _) _ kl rfl HK2.out d0 d1 HD.out (.tuple #[.agg #[.int .i64 d0, .int .i64 d1], .bool true]) (by rw [HH.out]) ?_))
      have hrg2 := hrg1.kept (HAL.out (.cells #[.int .i64 x0, .int .i64 x1] 44) (.cells #[.int .i64 c0, .int .i64 c1] 44) (.cells #[.int .i64 d0, .int .i64 d1] 44)) (by simp) (by simp)
      go_roundw
      case rel => exact ⟨_, cnt1, hrg2, HO2.out.kept (HAL.out _ _ _) (by simp), HGW.out.andThen (HAL.out _ _ _) (fun j hj => by cases hj), ⟨Maps.good_step HAP.out HKE.out HAT.out G.out HGOOD.out⟩⟩
      case measure => rw [hrg2.left_eq, hrg.left_eq]; exact hlt
 ·have hne : ¬ ((Maps.size (.map es1 : DataW Unit) : Int) = (Maps.size D2 : Int)) := fun e => hsz (by exact_mod_cast e)
  go_enter Try.func17, Try.ntmps17
  go_wp2
  go_ret
  exact ⟨by rw [← RES.out, Maps.sizes_false hsz]; rfl, Below.refl _ _⟩
def impl_SameRuns.same (k : Nat) (a b : List S32) : Nat → Int → Option Bool
 | 0, _ => some true
 | d + 1, t => (impl_stepsOf.f a t).bind fun x => (impl_stepsOf.f b t).bind fun y => (slices_Equal_Limpl_Step_impl_Step.f k x y).bind fun e => if e = true then impl_SameRuns.same k a b d (t + 1) else some false
theorem impl_SameRuns.same_mono (k : Nat) (a b : List S32) : ∀ d t, LeO (impl_SameRuns.same k a b d t) (impl_SameRuns.same (k + 1) a b d t)
 | 0, _ => LeO.refl _
 | d + 1, t => LeO.bind (LeO.refl _) (fun _ => LeO.bind (LeO.refl _) (fun _ => LeO.bind (slices_Equal_Limpl_Step_impl_Step.mono _ _ k) (fun _ => LeO.ite (impl_SameRuns.same_mono k a b d (t + 1)) (LeO.refl _))))
def impl_SameRuns.rest (k : Nat) (l0 : List S32) (l1 : List S32) : Option (Bool × Bool) := (impl_meaning.f k l0).bind fun x => (impl_meaning.f k l1).bind fun y => if eqM x.1 y.1 = true then (slices_Equal_Limpl_place_impl_place.f k x.2 y.2).bind fun r => some (r, true) else some (false, true)
def impl_SameRuns.f (k : Nat) (l0 : List S32) (l1 : List S32) : Option (Bool × Bool) := (impl_GoodSteps.f l0).bind fun g0 => if g0 = true then ((impl_GoodSteps.f l1).bind fun g1 => if g1 = true then ((impl_SameRuns.same k l0 l1 6 0).bind fun s => if s = true then impl_SameRuns.rest k l0 l1 else some (false, true)) else some (false, false)) else some (false, false)
theorem impl_SameRuns.mono : ∀ a0 a1 k, LeO (impl_SameRuns.f k a0 a1) (impl_SameRuns.f (k + 1) a0 a1) := fun a0 a1 k =>
 LeO.bind (LeO.refl _) (fun _ => LeO.ite (LeO.bind (LeO.refl _) (fun _ => LeO.ite (LeO.bind (impl_SameRuns.same_mono k a0 a1 6 0) (fun _ => LeO.ite (LeO.bind (impl_meaning.mono a0 k) (fun _ => LeO.bind (impl_meaning.mono a1 k) (fun _ => LeO.ite (LeO.bind (slices_Equal_Limpl_place_impl_place.mono _ _ k) (fun _ => LeO.refl _)) (LeO.refl _)))) (LeO.refl _))) (LeO.refl _))) (LeO.refl _))
set_option maxHeartbeats 8000000 in
set_option maxRecDepth 100000 in
theorem impl_SameRuns.calls (k : Nat) (A0 : Option Addr) (c0 : Nat) (l0 : List S32) (A1 : Option Addr) (c1 : Nat) (l1 : List S32) (r1 : Bool) (r2 : Bool) (w : World) (hr0 : Kd.C k32 w A0 l0.length l0) (hc0 : l0.length ≤ c0) (hr1 : Kd.C k32 w A1 l1.length l1) (hc1 : l1.length ≤ c1) (h : impl_SameRuns.f k l0 l1 = some (r1, r2)) :
  Calls Try.prog 7 #[.slice A0 l0.length c0, .slice A1 l1.length c1] w fun e w' => e = .returned (.tuple #[.bool r1, .bool r2]) ∧ Below w.heap.size w w' := by
 have HR0 := xm hr0
 have HC0 := xm hc0
 have HR1 := xm hr1
 have HC1 := xm hc1
 have HB := xm (Below.refl w.heap.size w)
 unfold impl_SameRuns.f at h
 obtain ⟨g0, hg0, h⟩ := Option.bind_eq_some_iff.mp h
 have HG0 := xm hg0
 clear hr0 hc0 hr1 hc1 hg0
 cases g0 with
 | false =>
  rw [if_neg (by decide)] at h
  obtain ⟨rfl, rfl⟩ := Prod.mk.inj (Option.some.inj h)
  clear h
  go_enter Try.func7, Try.ntmps7
  go_wp2_with (first
   | ((with_reducible refine gate_callee (f := 13) rfl ?_); refine goesL_ (some 12) rfl rfl Try.func13 (by kernel_rfl) rfl #[.slice A0 l0.length c0] rfl mB ?_; refine (impl_GoodSteps.calls _ _ l0 false _ HR0.out HC0.out HG0.out).mono ?_; rintro e w1 ⟨rfl, hb⟩; refine ⟨_, rfl, ?_⟩; have n0_ := xm (below_step HB.out hb); clear HB hb; revert n0_; intro HB))
  go_ret2
  exact ⟨rfl, HB.out⟩
 | true =>
  rw [if_pos rfl] at h
  obtain ⟨g1, hg1, h⟩ := Option.bind_eq_some_iff.mp h
  have HG1 := xm hg1
  clear hg1
  cases g1 with
  | false =>
   rw [if_neg (by decide)] at h
   obtain ⟨rfl, rfl⟩ := Prod.mk.inj (Option.some.inj h)
   clear h
   go_enter Try.func7, Try.ntmps7
   go_wp2_with (first
    | ((with_reducible refine gate_callee (f := 13) rfl ?_); refine goesL_ (some 12) rfl rfl Try.func13 (by kernel_rfl) rfl #[.slice A0 l0.length c0] rfl mB ?_; refine (impl_GoodSteps.calls _ _ l0 true _ HR0.out HC0.out HG0.out).mono ?_; rintro e w1 ⟨rfl, hb⟩; refine ⟨_, rfl, ?_⟩; have n0_ := xm (below_step HB.out hb); clear HB hb; revert n0_; intro HB)
    | (go_at_call 13; refine (impl_GoodSteps.calls _ _ l1 false _ (Kd.C_below HR1.out HB.out) HC1.out HG1.out).mono ?_; rintro e w2 ⟨rfl, hb⟩; have n0_ := xm (below_step HB.out hb); clear HB hb; revert n0_; intro HB))
   go_ret2
   exact ⟨rfl, HB.out⟩
  | true =>
   rw [if_pos rfl] at h
   obtain ⟨s, hs, h⟩ := Option.bind_eq_some_iff.mp h
   have HS := xm hs
   have HREST := xm h
   clear hs h
   go_enter Try.func7, Try.ntmps7
   go_wp2_with (first
    | ((with_reducible refine gate_callee (f := 13) rfl ?_); refine goesL_ (some 12) rfl rfl Try.func13 (by kernel_rfl) rfl #[.slice A0 l0.length c0] rfl mB ?_; refine (impl_GoodSteps.calls _ _ l0 true _ HR0.out HC0.out HG0.out).mono ?_; rintro e w1 ⟨rfl, hb⟩; refine ⟨_, rfl, ?_⟩; have n0_ := xm (below_step HB.out hb); clear HB hb; revert n0_; intro HB)
    | (go_at_call 13; refine (impl_GoodSteps.calls _ _ l1 true _ (Kd.C_below HR1.out HB.out) HC1.out HG1.out).mono ?_; rintro e w2 ⟨rfl, hb⟩; have n0_ := xm (below_step HB.out hb); clear HB hb; revert n0_; intro HB))
   go_loopg [19] 6 (fun kq v19 w' => ∃ (d : Nat) (x : Int), v19 = .int .i64 x ∧ Aside0 (x + d = 6 ∧ 0 ≤ x) ∧ Aside0 (d ≤ kq) ∧ Aside0 (impl_SameRuns.same k l0 l1 d x = some s) ∧ Aside0 (Below w.heap.size w w'))
   case atStart => exact ⟨6, 0, rfl, ⟨by omega⟩, ⟨Nat.le_refl _⟩, ⟨HS.out⟩, ⟨HB.out⟩⟩
   case round =>
    clear HS HB
    obtain ⟨d, x, rfl, HX, HK, HS, HB⟩ := hrel
    cases d with
    | zero =>
     have hlt : decide (x < 6) = false := decide_eq_false (by have := HX.out; omega)
     have hf := HS.out
     unfold impl_SameRuns.same at hf
     obtain rfl := Option.some.inj hf
     have hr := HREST.out
     rw [if_pos rfl] at hr
     unfold impl_SameRuns.rest at hr
     obtain ⟨⟨m1, p1⟩, hm1, hr⟩ := Option.bind_eq_some_iff.mp hr
     obtain ⟨⟨m2, p2⟩, hm2, hr⟩ := Option.bind_eq_some_iff.mp hr
     have HM1 := xm hm1
     have HM2 := xm hm2
     clear hf HS HREST HX HK hm1 hm2
     cases hq : eqM m1 m2 with
     | false =>
      rw [if_neg (by show ¬ (eqM m1 m2 = true); rw [hq]; decide)] at hr
      obtain ⟨rfl, rfl⟩ := Prod.mk.inj (Option.some.inj hr)
      have HQ := xm hq
      clear hr hq
      go_wp2_with (first
       | ((with_reducible refine gate_callee (f := 16) rfl ?_); refine goesL_ (some 33) rfl rfl Try.func16 (by kernel_rfl) rfl #[.slice A0 l0.length c0] rfl mB ?_; refine (impl_meaning.calls k _ _ l0 m1 p1 _ (Kd.C_below HR0.out HB.out) HC0.out HM1.out).mono ?_; rintro e w3 ⟨b1, n1, v1, rfl, ho1, hb1, hp1, hb⟩; refine ⟨_, rfl, ?_⟩; have HO1 := xm ho1; have HP1 := xm hp1; have n0_ := xm (below_step HB.out hb); clear HB hb ho1 hp1 hb1; revert n0_; intro HB)
       | ((with_reducible refine gate_callee (f := 16) rfl ?_); refine goesL_ (some 38) rfl rfl Try.func16 (by kernel_rfl) rfl #[.slice A1 l1.length c1] rfl mB ?_; refine (impl_meaning.calls k _ _ l1 m2 p2 _ (Kd.C_below HR1.out HB.out) HC1.out HM2.out).mono ?_; rintro e w4 ⟨b2, n2, v2, rfl, ho2, hb2, hp2, hb⟩; refine ⟨_, rfl, ?_⟩; have HO2 := xm ho2; have HP2 := xm hp2; have n0_ := xm (below_step HB.out hb); have n1_ := xm (HO1.out.kept (maps_Equal.grown hb) (by simp)); have n2_ := xm (Kd.R_below HP1.out hb); clear HB HO1 HP1 hb ho2 hp2 hb2; revert n0_ n1_ n2_; intro HB HO1 HP1)
       | (go_at_call 17; refine (maps_Equal.own _ _ _ _ _ _ _ HO1.out HO2.out).mono ?_; rintro e w5 ⟨rfl, hb⟩; rw [show Lib.equalFuncD eqP (mapP m1) (mapP m2) = false from HQ.out]; have n0_ := xm (below_step HB.out hb); clear HB hb; revert n0_; intro HB))
      go_ret2
      exact ⟨rfl, HB.out⟩
     | true =>
      rw [if_pos (show eqM m1 m2 = true from hq)] at hr
      obtain ⟨r, hrr, hr⟩ := Option.bind_eq_some_iff.mp hr
      obtain ⟨rfl, rfl⟩ := Prod.mk.inj (Option.some.inj hr)
      have HQ := xm hq
      have HRR := xm hrr
      clear hr hq hrr
      go_wp2_with (first
       | ((with_reducible refine gate_callee (f := 16) rfl ?_); refine goesL_ (some 33) rfl rfl Try.func16 (by kernel_rfl) rfl #[.slice A0 l0.length c0] rfl mB ?_; refine (impl_meaning.calls k _ _ l0 m1 p1 _ (Kd.C_below HR0.out HB.out) HC0.out HM1.out).mono ?_; rintro e w3 ⟨b1, n1, v1, rfl, ho1, hb1, hp1, hb⟩; refine ⟨_, rfl, ?_⟩; obtain ⟨B1, d1, ev1⟩ := Kd.R_slice hp1; subst ev1; have HO1 := xm ho1; have HP1 := xm hp1; have n0_ := xm (below_step HB.out hb); clear HB hb ho1 hp1 hb1; revert n0_; intro HB)
       | ((with_reducible refine gate_callee (f := 16) rfl ?_); refine goesL_ (some 38) rfl rfl Try.func16 (by kernel_rfl) rfl #[.slice A1 l1.length c1] rfl mB ?_; refine (impl_meaning.calls k _ _ l1 m2 p2 _ (Kd.C_below HR1.out HB.out) HC1.out HM2.out).mono ?_; rintro e w4 ⟨b2, n2, v2, rfl, ho2, hb2, hp2, hb⟩; refine ⟨_, rfl, ?_⟩; obtain ⟨B2, d2, ev2⟩ := Kd.R_slice hp2; subst ev2; have HO2 := xm ho2; have HP2 := xm hp2; have n0_ := xm (below_step HB.out hb); have n1_ := xm (HO1.out.kept (maps_Equal.grown hb) (by simp)); have n2_ := xm (Kd.R_below HP1.out hb); clear HB HO1 HP1 hb ho2 hp2 hb2; revert n0_ n1_ n2_; intro HB HO1 HP1)
       | (go_at_call 17; refine (maps_Equal.own _ _ _ _ _ _ _ HO1.out HO2.out).mono ?_; rintro e w5 ⟨rfl, hb⟩; rw [show Lib.equalFuncD eqP (mapP m1) (mapP m2) = true from HQ.out]; have n0_ := xm (below_step HB.out hb); have n1_ := xm (Kd.R_below HP1.out hb); have n2_ := xm (Kd.R_below HP2.out hb); clear HB HP1 HP2 hb; revert n0_ n1_ n2_; intro HB HP1 HP2)
       | (go_at_call 18; refine (slices_Equal_Limpl_place_impl_place.calls k _ _ p1 _ _ p2 r _ (Kd.R_reads' HP1.out).2.2 (Kd.R_reads' HP1.out).2.1 (Kd.R_reads' HP2.out).2.2 (Kd.R_reads' HP2.out).2.1 HRR.out).mono ?_; rintro e w6 ⟨rfl, hd⟩; have n0_ := xm (below_step HB.out hd.below); clear HB hd; revert n0_; intro HB))
      go_ret2
      exact ⟨rfl, HB.out⟩
    | succ d =>
     have hlt : decide (x < 6) = true := decide_eq_true (by have := HX.out; omega)
     have hf := HS.out
     unfold impl_SameRuns.same at hf
     obtain ⟨x1, h1, hf⟩ := Option.bind_eq_some_iff.mp hf
     obtain ⟨x2, h2, hf⟩ := Option.bind_eq_some_iff.mp hf
     obtain ⟨e0, h3, hf⟩ := Option.bind_eq_some_iff.mp hf
     have H1 := xm h1
     have H2 := xm h2
     have H3 := xm h3
     clear h1 h2 h3 HS
     cases e0 with
     | false =>
      rw [if_neg (by decide)] at hf
      obtain rfl := Option.some.inj hf
      have hr := HREST.out
      rw [if_neg (by decide)] at hr
      obtain ⟨rfl, rfl⟩ := Prod.mk.inj (Option.some.inj hr)
      clear hr hf HREST
      go_wp2_with (first
       | ((with_reducible refine gate_callee (f := 15) rfl ?_); refine goesL_ (some 24) rfl rfl Try.func15 (by kernel_rfl) rfl #[.slice A0 l0.length c0, .int .i64 x] rfl mB ?_; refine (impl_stepsOf.calls _ _ l0 x x1 _ (Kd.C_below HR0.out HB.out) HC0.out H1.out).mono ?_; rintro e w3 ⟨v1, rfl, ho1, hb⟩; refine ⟨_, rfl, ?_⟩; obtain ⟨B1, d1, ev1⟩ := Kd.R_slice ho1; subst ev1; have HO1 := xm ho1; have n0_ := xm (below_step HB.out hb); clear HB hb ho1; revert n0_; intro HB)
       | ((with_reducible refine gate_callee (f := 15) rfl ?_); refine goesL_ (some 27) rfl rfl Try.func15 (by kernel_rfl) rfl #[.slice A1 l1.length c1, .int .i64 x] rfl mB ?_; refine (impl_stepsOf.calls _ _ l1 x x2 _ (Kd.C_below HR1.out HB.out) HC1.out H2.out).mono ?_; rintro e w4 ⟨v2, rfl, ho2, hb⟩; refine ⟨_, rfl, ?_⟩; obtain ⟨B2, d2, ev2⟩ := Kd.R_slice ho2; subst ev2; have HO2 := xm ho2; have n0_ := xm (below_step HB.out hb); have n1_ := xm (Kd.R_below HO1.out hb); clear HB HO1 hb ho2; revert n0_ n1_; intro HB HO1)
       | (go_at_call 14; refine (slices_Equal_Limpl_Step_impl_Step.calls k _ _ x1 _ _ x2 false _ (Kd.R_reads' HO1.out).2.2 (Kd.R_reads' HO1.out).2.1 (Kd.R_reads' HO2.out).2.2 (Kd.R_reads' HO2.out).2.1 H3.out).mono ?_; rintro e w5 ⟨rfl, hd⟩; have n0_ := xm (below_step HB.out hd.below); clear HB hd; revert n0_; intro HB))
      go_ret2
      exact ⟨rfl, HB.out⟩
     | true =>
      rw [if_pos rfl] at hf
      have HF := xm hf
      clear hf
      go_wp2_with (first
       | ((with_reducible refine gate_callee (f := 15) rfl ?_); refine goesL_ (some 24) rfl rfl Try.func15 (by kernel_rfl) rfl #[.slice A0 l0.length c0, .int .i64 x] rfl mB ?_; refine (impl_stepsOf.calls _ _ l0 x x1 _ (Kd.C_below HR0.out HB.out) HC0.out H1.out).mono ?_; rintro e w3 ⟨v1, rfl, ho1, hb⟩; refine ⟨_, rfl, ?_⟩; obtain ⟨B1, d1, ev1⟩ := Kd.R_slice ho1; subst ev1; have HO1 := xm ho1; have n0_ := xm (below_step HB.out hb); clear HB hb ho1; revert n0_; intro HB)
       | ((with_reducible refine gate_callee (f := 15) rfl ?_); refine goesL_ (some 27) rfl rfl Try.func15 (by kernel_rfl) rfl #[.slice A1 l1.length c1, .int .i64 x] rfl mB ?_; refine (impl_stepsOf.calls _ _ l1 x x2 _ (Kd.C_below HR1.out HB.out) HC1.out H2.out).mono ?_; rintro e w4 ⟨v2, rfl, ho2, hb⟩; refine ⟨_, rfl, ?_⟩; obtain ⟨B2, d2, ev2⟩ := Kd.R_slice ho2; subst ev2; have HO2 := xm ho2; have n0_ := xm (below_step HB.out hb); have n1_ := xm (Kd.R_below HO1.out hb); clear HB HO1 hb ho2; revert n0_ n1_; intro HB HO1)
       | (go_at_call 14; refine (slices_Equal_Limpl_Step_impl_Step.calls k _ _ x1 _ _ x2 true _ (Kd.R_reads' HO1.out).2.2 (Kd.R_reads' HO1.out).2.1 (Kd.R_reads' HO2.out).2.2 (Kd.R_reads' HO2.out).2.1 H3.out).mono ?_; rintro e w5 ⟨rfl, hd⟩; have n0_ := xm (below_step HB.out hd.below); clear HB hd; revert n0_; intro HB))
      go_roundg d
      case measure => have := HK.out; omega
      case rel => exact ⟨d, x + 1, congrArg (Value.int .i64) (by have := HX.out; unfold wrap64; omega), ⟨by have := HX.out; omega⟩, ⟨Nat.le_refl _⟩, HF, HB⟩

/-! ### laws_eqStep: function 19 -/
def laws_eqStep.f (a0_0 : Int) (a0_1 : Int) (a0_2 : Int) (a1_0 : Int) (a1_1 : Int) (a1_2 : Int) : Option (Bool) := if a0_0 = a1_0 then (if a0_1 = a1_1 then (if a0_2 = a1_2 then (some true) else (some false)) else (some false)) else (some false)
set_option maxHeartbeats 8000000 in
set_option maxRecDepth 100000 in
theorem laws_eqStep.calls (a0_0 : Int) (a0_1 : Int) (a0_2 : Int) (a1_0 : Int) (a1_1 : Int) (a1_2 : Int) (r : Bool) (w : World) (h : laws_eqStep.f a0_0 a0_1 a0_2 a1_0 a1_1 a1_2 = some r) :
  Calls Try.prog 19 #[.agg #[.int .i64 a0_0, .int .i64 a0_1, .int .i64 a0_2], .agg #[.int .i64 a1_0, .int .i64 a1_1, .int .i64 a1_2]] w fun e w' => e = .returned (.bool r) ∧ Below w.heap.size w w' := by
 have hu32 := Try.underlying32
 have HB := xm (Below.refl w.heap.size w)
 have H : (if a0_0 = a1_0 then (if a0_1 = a1_1 then (if a0_2 = a1_2 then (some true) else (some false)) else (some false)) else (some false)) = some r := h
 clear h
 by_cases c3 : a0_0 = a1_0
 ·rw [if_pos c3] at H
  have c3b0 : (a0_0 == a1_0) = true := beq_iff_eq.mpr c3
  have c3b1 : (a0_0 != a1_0) = false := bne_eq_false_iff_eq.mpr c3
  clear c3
  by_cases c4 : a0_1 = a1_1
  ·rw [if_pos c4] at H
   have c4b0 : (a0_1 == a1_1) = true := beq_iff_eq.mpr c4
   have c4b1 : (a0_1 != a1_1) = false := bne_eq_false_iff_eq.mpr c4
   clear c4
   by_cases c5 : a0_2 = a1_2
   ·rw [if_pos c5] at H
    have c5b0 : (a0_2 == a1_2) = true := beq_iff_eq.mpr c5
    have c5b1 : (a0_2 != a1_2) = false := bne_eq_false_iff_eq.mpr c5
    clear c5
    obtain rfl := Option.some.inj H
    go_enter Try.func19, Try.ntmps19
    go_wp2_with (first | ((with_reducible refine gate_dst (N := 2) rfl ?_); refine box_event ?hg (N := 2) ?hd (cs := #[.int .i64 a0_0, .int .i64 a0_1, .int .i64 a0_2]) (t := 32) ?hr ?_; (case hd => rfl); (case hg => rfl); (case hr => exact zB); intro gb179 hg w6 hbox hb; have n0_ := xm (below_step bB hb); have n1_ := xm (hbox); have n2_ := xm ((by rw [hg]; exact (xz bB) : w.heap.size ≤ gb179)); have n3_ := xm ((by rw [hg]; exact (xz bB) : w.heap.size ≤ gb179)); revert n0_ n1_ n2_ n3_; clear HB; intro HB BK179 GW179 GE179; clear hb hbox hg) | ((with_reducible refine gate_dst (N := 3) rfl ?_); refine box_event ?hg (N := 3) ?hd (cs := #[.int .i64 a1_0, .int .i64 a1_1, .int .i64 a1_2]) (t := 32) ?hr ?_; (case hd => rfl); (case hg => rfl); (case hr => exact zB); intro gb180 hg w7 hbox hb; have n0_ := xm (blk_below (kB BK179) hb); have n1_ := xm (below_step bG hb); have n2_ := xm (hbox); have n3_ := xm ((by rw [hg]; exact (xz bG) : w.heap.size ≤ gb180)); have n4_ := xm ((by rw [hg]; exact (xz bG) : w.heap.size ≤ gb180)); have n5_ := xm ((by rw [hg]; exact Nat.ne_of_lt (blk_lt (kB BK179)) : gb179 ≠ gb180)); have n6_ := xm ((by rw [hg]; exact Nat.ne_of_gt (blk_lt (kB BK179)) : gb180 ≠ gb179)); revert n0_ n1_ n2_ n3_ n4_ n5_ n6_; clear BK179 HB; intro BK179 HB BK180 GW180 GE180 NB179_180 NB180_179; clear hb hbox hg; have hnb8 := NB179_180.out; have hnc8 := NB180_179.out; obtain ⟨hcz9_0, hcz9_1, hcz9_2, hfz9_0, hfz9_1, hfz9_2⟩ := cz3 BK179.out; obtain ⟨hcz10_0, hcz10_1, hcz10_2, hfz10_0, hfz10_1, hfz10_2⟩ := cz3 BK180.out))
    go_ret
    exact ⟨eB, bG⟩
   ·rw [if_neg c5] at H
    have c5b0 : (a0_2 == a1_2) = false := beq_eq_false_iff_ne.mpr c5
    have c5b1 : (a0_2 != a1_2) = true := bne_iff_ne.mpr c5
    obtain rfl := Option.some.inj H
    go_enter Try.func19, Try.ntmps19
    go_wp2_with (first | ((with_reducible refine gate_dst (N := 2) rfl ?_); refine box_event ?hg (N := 2) ?hd (cs := #[.int .i64 a0_0, .int .i64 a0_1, .int .i64 a0_2]) (t := 32) ?hr ?_; (case hd => rfl); (case hg => rfl); (case hr => exact zB); intro gb179 hg w11 hbox hb; have n0_ := xm (below_step bB hb); have n1_ := xm (hbox); have n2_ := xm ((by rw [hg]; exact (xz bB) : w.heap.size ≤ gb179)); have n3_ := xm ((by rw [hg]; exact (xz bB) : w.heap.size ≤ gb179)); revert n0_ n1_ n2_ n3_; clear HB; intro HB BK179 GW179 GE179; clear hb hbox hg) | ((with_reducible refine gate_dst (N := 3) rfl ?_); refine box_event ?hg (N := 3) ?hd (cs := #[.int .i64 a1_0, .int .i64 a1_1, .int .i64 a1_2]) (t := 32) ?hr ?_; (case hd => rfl); (case hg => rfl); (case hr => exact zB); intro gb180 hg w12 hbox hb; have n0_ := xm (blk_below (kB BK179) hb); have n1_ := xm (below_step bG hb); have n2_ := xm (hbox); have n3_ := xm ((by rw [hg]; exact (xz bG) : w.heap.size ≤ gb180)); have n4_ := xm ((by rw [hg]; exact (xz bG) : w.heap.size ≤ gb180)); have n5_ := xm ((by rw [hg]; exact Nat.ne_of_lt (blk_lt (kB BK179)) : gb179 ≠ gb180)); have n6_ := xm ((by rw [hg]; exact Nat.ne_of_gt (blk_lt (kB BK179)) : gb180 ≠ gb179)); revert n0_ n1_ n2_ n3_ n4_ n5_ n6_; clear BK179 HB; intro BK179 HB BK180 GW180 GE180 NB179_180 NB180_179; clear hb hbox hg; have hnb13 := NB179_180.out; have hnc13 := NB180_179.out; obtain ⟨hcz14_0, hcz14_1, hcz14_2, hfz14_0, hfz14_1, hfz14_2⟩ := cz3 BK179.out; obtain ⟨hcz15_0, hcz15_1, hcz15_2, hfz15_0, hfz15_1, hfz15_2⟩ := cz3 BK180.out))
    go_ret
    exact ⟨eB, bG⟩
  ·rw [if_neg c4] at H
   have c4b0 : (a0_1 == a1_1) = false := beq_eq_false_iff_ne.mpr c4
   have c4b1 : (a0_1 != a1_1) = true := bne_iff_ne.mpr c4
   obtain rfl := Option.some.inj H
   go_enter Try.func19, Try.ntmps19
   go_wp2_with (first | ((with_reducible refine gate_dst (N := 2) rfl ?_); refine box_event ?hg (N := 2) ?hd (cs := #[.int .i64 a0_0, .int .i64 a0_1, .int .i64 a0_2]) (t := 32) ?hr ?_; (case hd => rfl); (case hg => rfl); (case hr => exact zB); intro gb179 hg w16 hbox hb; have n0_ := xm (below_step bB hb); have n1_ := xm (hbox); have n2_ := xm ((by rw [hg]; exact (xz bB) : w.heap.size ≤ gb179)); have n3_ := xm ((by rw [hg]; exact (xz bB) : w.heap.size ≤ gb179)); revert n0_ n1_ n2_ n3_; clear HB; intro HB BK179 GW179 GE179; clear hb hbox hg) | ((with_reducible refine gate_dst (N := 3) rfl ?_); refine box_event ?hg (N := 3) ?hd (cs := #[.int .i64 a1_0, .int .i64 a1_1, .int .i64 a1_2]) (t := 32) ?hr ?_; (case hd => rfl); (case hg => rfl); (case hr => exact zB); intro gb180 hg w17 hbox hb; have n0_ := xm (blk_below (kB BK179) hb); have n1_ := xm (below_step bG hb); have n2_ := xm (hbox); have n3_ := xm ((by rw [hg]; exact (xz bG) : w.heap.size ≤ gb180)); have n4_ := xm ((by rw [hg]; exact (xz bG) : w.heap.size ≤ gb180)); have n5_ := xm ((by rw [hg]; exact Nat.ne_of_lt (blk_lt (kB BK179)) : gb179 ≠ gb180)); have n6_ := xm ((by rw [hg]; exact Nat.ne_of_gt (blk_lt (kB BK179)) : gb180 ≠ gb179)); revert n0_ n1_ n2_ n3_ n4_ n5_ n6_; clear BK179 HB; intro BK179 HB BK180 GW180 GE180 NB179_180 NB180_179; clear hb hbox hg; have hnb18 := NB179_180.out; have hnc18 := NB180_179.out; obtain ⟨hcz19_0, hcz19_1, hcz19_2, hfz19_0, hfz19_1, hfz19_2⟩ := cz3 BK179.out; obtain ⟨hcz20_0, hcz20_1, hcz20_2, hfz20_0, hfz20_1, hfz20_2⟩ := cz3 BK180.out))
   go_ret
   exact ⟨eB, bG⟩
 ·rw [if_neg c3] at H
  have c3b0 : (a0_0 == a1_0) = false := beq_eq_false_iff_ne.mpr c3
  have c3b1 : (a0_0 != a1_0) = true := bne_iff_ne.mpr c3
  obtain rfl := Option.some.inj H
  go_enter Try.func19, Try.ntmps19
  go_wp2_with (first | ((with_reducible refine gate_dst (N := 2) rfl ?_); refine box_event ?hg (N := 2) ?hd (cs := #[.int .i64 a0_0, .int .i64 a0_1, .int .i64 a0_2]) (t := 32) ?hr ?_; (case hd => rfl); (case hg => rfl); (case hr => exact zB); intro gb179 hg w21 hbox hb; have n0_ := xm (below_step bB hb); have n1_ := xm (hbox); have n2_ := xm ((by rw [hg]; exact (xz bB) : w.heap.size ≤ gb179)); have n3_ := xm ((by rw [hg]; exact (xz bB) : w.heap.size ≤ gb179)); revert n0_ n1_ n2_ n3_; clear HB; intro HB BK179 GW179 GE179; clear hb hbox hg) | ((with_reducible refine gate_dst (N := 3) rfl ?_); refine box_event ?hg (N := 3) ?hd (cs := #[.int .i64 a1_0, .int .i64 a1_1, .int .i64 a1_2]) (t := 32) ?hr ?_; (case hd => rfl); (case hg => rfl); (case hr => exact zB); intro gb180 hg w22 hbox hb; have n0_ := xm (blk_below (kB BK179) hb); have n1_ := xm (below_step bG hb); have n2_ := xm (hbox); have n3_ := xm ((by rw [hg]; exact (xz bG) : w.heap.size ≤ gb180)); have n4_ := xm ((by rw [hg]; exact (xz bG) : w.heap.size ≤ gb180)); have n5_ := xm ((by rw [hg]; exact Nat.ne_of_lt (blk_lt (kB BK179)) : gb179 ≠ gb180)); have n6_ := xm ((by rw [hg]; exact Nat.ne_of_gt (blk_lt (kB BK179)) : gb180 ≠ gb179)); revert n0_ n1_ n2_ n3_ n4_ n5_ n6_; clear BK179 HB; intro BK179 HB BK180 GW180 GE180 NB179_180 NB180_179; clear hb hbox hg; have hnb23 := NB179_180.out; have hnc23 := NB180_179.out; obtain ⟨hcz24_0, hcz24_1, hcz24_2, hfz24_0, hfz24_1, hfz24_2⟩ := cz3 BK179.out; obtain ⟨hcz25_0, hcz25_1, hcz25_2, hfz25_0, hfz25_1, hfz25_2⟩ := cz3 BK180.out))
  go_ret
  exact ⟨eB, bG⟩

end Go.Proofs.Ytmelechhnimlnab.G
