/- Written by a program of this claim's own, out of the translation: functions of the program as plain functions, and that the calls answer as these. No conditions. -/
import Derived.Test.YtaddemalepndfahG0
import Derived.Test.YtaddemalepndfahG8
import Derived.Test.YtaddemalepndfahG9
import Derived.Test.YtaddemalepndfahG10
import Derived.Test.YtaddemalepndfahG11
namespace Go.Proofs.Ytaddemalepndfah.G
open Go.RowKit Go.Proofs.Ytaddemalepndfah.X Go.Proofs.YtaddemalepndfahW.PrintWords Go.Proofs.YtaddemalepndfahW.PrintLast Go.Proofs.YtaddemalepndfahW.PrintMore
attribute [local go_sem] max2_int min2_int max_two min_two max_three min_three max_four min_four   -- for this text's walks alone
set_option linter.unusedVariables false
set_option linter.unusedSimpArgs false

/-! ### impl_WitnessFor: function 9 -/
mutual
def impl_WitnessFor.j0 : Nat → List (S35) → Int → Bool → List Int → List Int → Option (Int × (List (S53)) × Bool)
 | 0, _, _, _, _, _ => none
 | k + 1, x0, x1, x25, x305000, x305001 => if x25 = true then (some (0, ([] : List (S53)), false)) else (if 0 ≤ x1 then (if (x1 : Int).toNat ≤ 35184372088832 then ((some (List.replicate (x1 : Int).toNat 0 : List Int)).bind fun y311 => ((impl_rulesOf.f k x0).bind fun t314 => ((impl_setOf.f k x305000).bind fun t317 => ((impl_closure.f k t314 t317).bind fun t318 => (impl_WitnessFor.l0 k x1 (List.replicate (x1 : Int).toNat 0) y311 t318 (y311.length : Int) 0))))) else (none)) else (none))
def impl_WitnessFor.l0 : Nat → Int → List Int → List Int → Int → Int → Int → Option (Int × (List (S53)) × Bool)
 | 0, _, _, _, _, _, _ => none
 | k + 1, x1, x10, x11, x12, x38, x39 => if x39 < x38 then (if 0 ≤ x39 then ((impl_set_has.f x12 (shl .i64 1 x39)).bind fun t319 => (if t319 = true then (impl_WitnessFor.l0 k x1 x10 x11 x12 x38 (wrap64 (x39 + 1))) else (if x39 < (x11.length : Int) then (impl_WitnessFor.l0 k x1 x10 (x11.set (x39 : Int).toNat 1) x12 x38 (wrap64 (x39 + 1))) else (none)))) else (none)) else (some (x1, (([(⟨(⟨x10⟩ : S49), 1⟩ : S53), (⟨(⟨x11⟩ : S49), 1⟩ : S53)] : List (S53))), true))
end
def impl_WitnessFor.f (k : Nat) (l0 : List (S35)) (a1 : Int) (l2_0 : List Int) (l2_1 : List Int) : Option (Int × (List (S53)) × Bool) := (impl_Implies.f k l0 a1 l2_0 l2_1).bind fun bt306 => (if bt306.2 = true then (impl_WitnessFor.j0 k l0 a1 bt306.1 l2_0 l2_1) else (impl_WitnessFor.j0 k l0 a1 true l2_0 l2_1))
theorem impl_WitnessFor.mono_l : ∀ k, (∀ y0 y1 y2 y3 y4, LeO (impl_WitnessFor.j0 k y0 y1 y2 y3 y4) (impl_WitnessFor.j0 (k + 1) y0 y1 y2 y3 y4)) ∧ (∀ y0 y1 y2 y3 y4 y5, LeO (impl_WitnessFor.l0 k y0 y1 y2 y3 y4 y5) (impl_WitnessFor.l0 (k + 1) y0 y1 y2 y3 y4 y5))
 | 0 => ⟨fun _ _ _ _ _ r h => by simp [impl_WitnessFor.j0] at h, fun _ _ _ _ _ _ r h => by simp [impl_WitnessFor.l0] at h⟩
 | k + 1 => by
  obtain ⟨ih0, ih1⟩ := impl_WitnessFor.mono_l k
  refine ⟨?_, ?_⟩
  ·intro y0 y1 y2 y3 y4
   unfold impl_WitnessFor.j0
   repeat' first
   | (with_reducible exact ih0 _ _ _ _ _)
   | (with_reducible exact ih1 _ _ _ _ _ _)
   | (with_reducible exact impl_Implies.mono _ _ _ _ _)
   | (with_reducible exact impl_closure.mono _ _ _)
   | (with_reducible exact impl_rulesOf.mono _ _)
   | (with_reducible exact impl_setOf.mono _ _)
   | (with_reducible exact LeO.refl _)
   | (with_reducible exact LeO.none _)
   | (with_reducible refine LeO.ite ?_ ?_)
   | (with_reducible refine LeO.bind ?_ (fun _ => ?_))
   | exact ih0 _ _ _ _ _
   | exact ih1 _ _ _ _ _ _
   | exact impl_Implies.mono _ _ _ _ _
   | exact impl_closure.mono _ _ _
   | exact impl_rulesOf.mono _ _
   | exact impl_setOf.mono _ _
   | exact LeO.none _
   | refine LeO.ite ?_ ?_
   | refine LeO.bind ?_ (fun _ => ?_)
  ·intro y0 y1 y2 y3 y4 y5
   unfold impl_WitnessFor.l0
   repeat' first
   | (with_reducible exact ih0 _ _ _ _ _)
   | (with_reducible exact ih1 _ _ _ _ _ _)
   | (with_reducible exact impl_Implies.mono _ _ _ _ _)
   | (with_reducible exact impl_closure.mono _ _ _)
   | (with_reducible exact impl_rulesOf.mono _ _)
   | (with_reducible exact impl_setOf.mono _ _)
   | (with_reducible exact LeO.refl _)
   | (with_reducible exact LeO.none _)
   | (with_reducible refine LeO.ite ?_ ?_)
   | (with_reducible refine LeO.bind ?_ (fun _ => ?_))
   | exact ih0 _ _ _ _ _
   | exact ih1 _ _ _ _ _ _
   | exact impl_Implies.mono _ _ _ _ _
   | exact impl_closure.mono _ _ _
   | exact impl_rulesOf.mono _ _
   | exact impl_setOf.mono _ _
   | exact LeO.none _
   | refine LeO.ite ?_ ?_
   | refine LeO.bind ?_ (fun _ => ?_)
theorem impl_WitnessFor.mono : ∀ a0 a1 a2 a3 k, LeO (impl_WitnessFor.f k a0 a1 a2 a3) (impl_WitnessFor.f (k + 1) a0 a1 a2 a3) := by
 intro a0 a1 a2 a3 k
 obtain ⟨ih0, ih1⟩ := impl_WitnessFor.mono_l k
 unfold impl_WitnessFor.f
 repeat' first
   | (with_reducible exact ih0 _ _ _ _ _)
   | (with_reducible exact ih1 _ _ _ _ _ _)
   | (with_reducible exact impl_Implies.mono _ _ _ _ _)
   | (with_reducible exact impl_closure.mono _ _ _)
   | (with_reducible exact impl_rulesOf.mono _ _)
   | (with_reducible exact impl_setOf.mono _ _)
   | (with_reducible exact LeO.refl _)
   | (with_reducible exact LeO.none _)
   | (with_reducible refine LeO.ite ?_ ?_)
   | (with_reducible refine LeO.bind ?_ (fun _ => ?_))
   | exact ih0 _ _ _ _ _
   | exact ih1 _ _ _ _ _ _
   | exact impl_Implies.mono _ _ _ _ _
   | exact impl_closure.mono _ _ _
   | exact impl_rulesOf.mono _ _
   | exact impl_setOf.mono _ _
   | exact LeO.none _
   | refine LeO.ite ?_ ?_
   | refine LeO.bind ?_ (fun _ => ?_)
set_option maxHeartbeats 8000000 in
set_option maxRecDepth 100000 in
theorem impl_WitnessFor.calls (k : Nat) (A0 : Option Addr) (c0 : Nat) (l0 : List (S35)) (a1 : Int) (A2_0 : Option Addr) (c2_0 : Nat) (l2_0 : List Int) (A2_1 : Option Addr) (c2_1 : Nat) (l2_1 : List Int) (r1 : Int) (r2 : List (S53)) (r3 : Bool) (w : World) (hr0 : Kd.C k35 w A0 l0.length l0) (hc0 : l0.length ≤ c0) (hr2_0 : Kd.C (Kd.int .i64) w A2_0 l2_0.length l2_0) (hc2_0 : l2_0.length ≤ c2_0) (hr2_1 : Kd.C (Kd.int .i64) w A2_1 l2_1.length l2_1) (hc2_1 : l2_1.length ≤ c2_1) (h : impl_WitnessFor.f k l0 a1 l2_0 l2_1 = some (r1, r2, r3)) :
  Calls Try.prog 9 #[.slice A0 l0.length c0, .int .i64 a1, .agg #[.slice A2_0 l2_0.length c2_0, .slice A2_1 l2_1.length c2_1]] w fun e w' => ∃ v1_ : Value, e = .returned (.tuple #[.agg #[.int .i64 r1, v1_], .bool r3]) ∧ Kd.S k53 53 w' w.heap.size (fun _ => True) v1_ r2 ∧ Below w.heap.size w w' := by
 have hu35 := Try.underlying35
 have hu30 := Try.underlying30
 have hu49 := Try.underlying49
 have hu53 := Try.underlying53
 have HR0 := xm hr0
 have HC0 := xm hc0
 clear hr0 hc0
 have HR2_0 := xm hr2_0
 have HC2_0 := xm hc2_0
 clear hr2_0 hc2_0
 have HR2_1 := xm hr2_1
 have HC2_1 := xm hc2_1
 clear hr2_1 hc2_1
 have HB := xm (Below.refl w.heap.size w)
 have H : ((impl_Implies.f k l0 a1 l2_0 l2_1).bind fun bt306 => (if bt306.2 = true then (impl_WitnessFor.j0 k l0 a1 bt306.1 l2_0 l2_1) else (impl_WitnessFor.j0 k l0 a1 true l2_0 l2_1))) = some (r1, r2, r3) := h
 clear h
 replace H := Option.bind_eq_some_iff.mp H
 obtain ⟨⟨t306, t307⟩, A40, H⟩ := H
 replace H : (if t307 = true then (impl_WitnessFor.j0 k l0 a1 t306 l2_0 l2_1) else (impl_WitnessFor.j0 k l0 a1 true l2_0 l2_1)) = some (r1, r2, r3) := H
 have A4 := xm A40
 clear A40
 have HC5 := xm H
 clear H
 go_enter Try.func9, Try.ntmps9
 go_upto_region 2 with (first | ((with_reducible refine gate_dst (N := 5) rfl ?_); refine box_event ?hg (N := 5) ?hd (cs := #[.slice A2_0 l2_0.length c2_0, .slice A2_1 l2_1.length c2_1]) (t := 35) ?hr ?_; (case hd => rfl); (case hg => rfl); (case hr => exact zB); intro gb304 hg w6 hbox hb; have n0_ := xm (below_step bB hb); have n1_ := xm (hbox); have n2_ := xm ((by rw [hg]; exact (xz bB) : w.heap.size ≤ gb304)); have n3_ := xm ((by rw [hg]; exact (xz bB) : w.heap.size ≤ gb304)); revert n0_ n1_ n2_ n3_; clear HB; intro HB BK304 GW304 GE304; clear hb hbox hg) | ((with_reducible refine gate_dst (N := 6) rfl ?_); refine box_event ?hg (N := 6) ?hd (cs := #[.int .i64 0, .slice none 0 0]) (t := 30) ?hr ?_; (case hd => rfl); (case hg => rfl); (case hr => exact zB); intro gb305 hg w7 hbox hb; have n0_ := xm (blk_below (kB BK304) hb); have n1_ := xm (below_step bG hb); have n2_ := xm (hbox); have n3_ := xm ((by rw [hg]; exact (xz bG) : w.heap.size ≤ gb305)); have n4_ := xm ((by rw [hg]; exact (xz bG) : w.heap.size ≤ gb305)); have n5_ := xm ((by rw [hg]; exact Nat.ne_of_lt (blk_lt (kB BK304)) : gb304 ≠ gb305)); have n6_ := xm ((by rw [hg]; exact Nat.ne_of_gt (blk_lt (kB BK304)) : gb305 ≠ gb304)); revert n0_ n1_ n2_ n3_ n4_ n5_ n6_; clear BK304 HB; intro BK304 HB BK305 GW305 GE305 NB304_305 NB305_304; clear hb hbox hg; have hnb8 := NB304_305.out; have hnc8 := NB305_304.out; obtain ⟨hcz9_0, hcz9_1, hfz9_0, hfz9_1⟩ := cz2 BK304.out) | ((with_reducible refine gate_callee (f := 23) rfl ?_); refine goesL_ (some 18) rfl rfl Try.func23 (by kernel_rfl) rfl #[.slice A0 l0.length c0, .int .i64 a1, .agg #[.slice A2_0 l2_0.length c2_0, .slice A2_1 l2_1.length c2_1]] rfl mB ?_; (with_reducible refine (impl_Implies.calls k _ _ l0 a1 _ _ l2_0 _ _ l2_1 t306 t307 _ ?side1 ?side2 ?side3 ?side4 ?side5 ?side6 A4.out).mono ?_); (case side1 => exact cB (Kd.C_below HR0.out HB.out)); (case side2 => exact HC0.out); (case side3 => exact cB (Kd.C_below HR2_0.out HB.out)); (case side4 => exact HC2_0.out); (case side5 => exact cB (Kd.C_below HR2_1.out HB.out)); (case side6 => exact HC2_1.out); rintro e w10 ⟨rfl, hb⟩; refine ⟨_, rfl, ?_⟩; have n0_ := xm (blk_below (kB BK304) hb); have n1_ := xm (blk_below (kB BK305) hb); have n2_ := xm (below_step bG hb); revert n0_ n1_ n2_; clear BK304 BK305 HB; intro BK304 BK305 HB; (try clear hb)))
 (try simp only [Act.put, xi, xj, xk])
 go_cut [25] (fun v25 wc => ∃ (kq : Nat) (x25_4 : Bool), v25 = .bool x25_4 ∧ Aside0 (impl_WitnessFor.j0 kq l0 a1 x25_4 l2_0 l2_1 = some (r1, r2, r3)) ∧ Aside0 (kq ≤ k) ∧ Aside0 (wc.heap[gb304]? = some (.cells #[(.slice A2_0 l2_0.length c2_0), (.slice A2_1 l2_1.length c2_1)] 35 (0, 0))) ∧ Aside0 (wc.heap[gb305]? = some (.cells #[.int .i64 0, (.slice none 0 0)] 30 (0, 0))) ∧ Aside0 (Below w.heap.size w wc))
 case first =>
  have H := HC5.out
  clear HC5
  by_cases c11 : t307 = true
  ·subst c11
   have H1 : (impl_WitnessFor.j0 k l0 a1 t306 l2_0 l2_1) = some (r1, r2, r3) := by first | (with_reducible rfl) | (rw [if_pos rfl] at H; exact H)
   clear H
   have H := H1
   clear H1
   have H' := xm H
   clear H
   go_wp2
   go_meet
   case rel => exact ⟨_, (t306), sB, H', ⟨by first | omega | exact Nat.le_refl _⟩, ⟨kB BK304⟩, ⟨kB BK305⟩, ⟨bG⟩⟩
  ·replace c11 := Bool.eq_false_iff.mpr c11
   subst c11
   have H1 : (impl_WitnessFor.j0 k l0 a1 true l2_0 l2_1) = some (r1, r2, r3) := by first | (with_reducible rfl) | (rw [if_neg (show ¬ (false = true) by decide)] at H; exact H)
   clear H
   have H := H1
   clear H1
   have H' := xm H
   clear H
   go_wp2
   go_meet
   case rel => exact ⟨_, (true), sB, H', ⟨by first | omega | exact Nat.le_refl _⟩, ⟨kB BK304⟩, ⟨kB BK305⟩, ⟨bG⟩⟩
 case rest =>
  clear HC5
  try clear c1
  try clear c2
  try clear p2
  try clear c8
  try clear c9
  try clear c11
  try clear hcz9_0 hcz9_1 hfz9_0 hfz9_1
  obtain ⟨kq, x25_4, rfl, HA, HJ4, BK304, BK305, HB⟩ := hcut
  cases kq with
  | zero => exact absurd HA.out (by simp [impl_WitnessFor.j0])
  | succ kj4 =>
   have H := HA.out
   clear HA
   simp only [impl_WitnessFor.j0] at H
   by_cases c12 : x25_4 = true
   ·subst c12
    have H1 : (some (0, ([] : List (S53)), false)) = some (r1, r2, r3) := by first | (with_reducible rfl) | (rw [if_pos rfl] at H; exact H)
    clear H
    have H := H1
    clear H1
    simp only [Option.some.injEq, Prod.mk.injEq] at H
    obtain ⟨rfl, rfl, rfl⟩ := H
    have hnb13 := NB305_304.out
    have hnc13 := NB304_305.out
    obtain ⟨hcz14_0, hcz14_1, hfz14_0, hfz14_1⟩ := cz2 BK305.out
    go_wp2
    refine bodyPost_ret (results_ct rfl _ _ gb305 30 #[.int .i64 0, .slice none 0 0] (0, 0) _ rfl (by (with_reducible repeat (first | refine xq ?_ _ | refine xr ?_ | refine xo ?_ _)); refine blk_put (cs := #[.int .i64 0, .slice none 0 0]) ?_ 1 _ rfl; (with_reducible repeat (first | refine xq ?_ _ | refine xr ?_ | refine xo ?_ _)); refine blk_put (cs := #[.int .i64 0, .slice none 0 0]) ?_ 0 _ rfl; (with_reducible repeat (first | refine xq ?_ _ | refine xr ?_ | refine xo ?_ _)); exact BK305.out) Try.underlying30 rfl (by kernel_rfl)) rfl ?_
    exact ⟨_, eB, by first | exact Kd.S_nil _ _ _ _ _ | exact Kd.N_nil _ _ _ _ _ | exact Kd.V_nil _ _ _ _ _ | exact Kd.Q_nil _ _ _ _ _ | exact Kd.R_nil _ _ _ _ _, bG⟩
   ·replace c12 := Bool.eq_false_iff.mpr c12
    subst c12
    have H1 : (if 0 ≤ a1 then (if (a1 : Int).toNat ≤ 35184372088832 then ((some (List.replicate (a1 : Int).toNat 0 : List Int)).bind fun y311 => ((impl_rulesOf.f kj4 l0).bind fun t314 => ((impl_setOf.f kj4 l2_0).bind fun t317 => ((impl_closure.f kj4 t314 t317).bind fun t318 => (impl_WitnessFor.l0 kj4 a1 (List.replicate (a1 : Int).toNat 0) y311 t318 (y311.length : Int) 0))))) else (none)) else (none)) = some (r1, r2, r3) := by first | (with_reducible rfl) | (rw [if_neg (show ¬ (false = true) by decide)] at H; exact H)
    clear H
    have H := H1
    clear H1
    by_cases c15 : 0 ≤ a1
    ·rw [if_pos c15] at H
     have c15b0 := eq_true c15
     have c15b1 : decide (0 ≤ a1) = true := decide_eq_true c15
     clear c15
     by_cases c16 : (a1 : Int).toNat ≤ 35184372088832
     ·rw [if_pos c16] at H
      have c16b0 := eq_true c16
      have c16b1 : decide ((a1 : Int).toNat ≤ 35184372088832) = true := decide_eq_true c16
      clear c16
      obtain ⟨y308, hy308⟩ : ∃ y_ : List Int, y_ = (List.replicate (a1 : Int).toNat 0) := ⟨_, rfl⟩
      replace H : ((some (List.replicate (a1 : Int).toNat 0 : List Int)).bind fun y311 => ((impl_rulesOf.f kj4 l0).bind fun t314 => ((impl_setOf.f kj4 l2_0).bind fun t317 => ((impl_closure.f kj4 t314 t317).bind fun t318 => (impl_WitnessFor.l0 kj4 a1 y308 y311 t318 (y311.length : Int) 0))))) = some (r1, r2, r3) := by first | (rw [hy308]; with_reducible exact H) | (have H2_ := (Option.bind_some _ _).symm.trans H; rw [hy308]; with_reducible exact H2_) | (have H2_ := (Option.bind_some _ _).symm.trans H; with_reducible exact H2_) | with_reducible exact H | (rw [hy308]; exact H) | exact H
      have Ny308 := xm hy308
      clear hy308
      obtain ⟨y311, hy311⟩ : ∃ y_ : List Int, y_ = (List.replicate (a1 : Int).toNat 0) := ⟨_, rfl⟩
      replace H : ((impl_rulesOf.f kj4 l0).bind fun t314 => ((impl_setOf.f kj4 l2_0).bind fun t317 => ((impl_closure.f kj4 t314 t317).bind fun t318 => (impl_WitnessFor.l0 kj4 a1 y308 y311 t318 (y311.length : Int) 0)))) = some (r1, r2, r3) := by first | (rw [hy311]; with_reducible exact H) | (have H2_ := (Option.bind_some _ _).symm.trans H; rw [hy311]; with_reducible exact H2_) | (have H2_ := (Option.bind_some _ _).symm.trans H; with_reducible exact H2_) | with_reducible exact H | (rw [hy311]; exact H) | exact H
      have Ny311 := xm hy311
      clear hy311
      replace H := Option.bind_eq_some_iff.mp H
      obtain ⟨t314, A170, H⟩ := H
      replace H : ((impl_setOf.f kj4 l2_0).bind fun t317 => ((impl_closure.f kj4 t314 t317).bind fun t318 => (impl_WitnessFor.l0 kj4 a1 y308 y311 t318 (y311.length : Int) 0))) = some (r1, r2, r3) := H
      have A17 := xm A170
      clear A170
      replace H := Option.bind_eq_some_iff.mp H
      obtain ⟨t317, A180, H⟩ := H
      replace H : ((impl_closure.f kj4 t314 t317).bind fun t318 => (impl_WitnessFor.l0 kj4 a1 y308 y311 t318 (y311.length : Int) 0)) = some (r1, r2, r3) := H
      have A18 := xm A180
      clear A180
      replace H := Option.bind_eq_some_iff.mp H
      obtain ⟨t318, A190, H⟩ := H
      replace H : (impl_WitnessFor.l0 kj4 a1 y308 y311 t318 (y311.length : Int) 0) = some (r1, r2, r3) := H
      have A19 := xm A190
      clear A190
      have H' := xm H
      clear H
      try go_wp2
      have n0_ := xm (xr BK304.out)
      have n1_ := xm (xr BK305.out)
      have n2_ := xm (xd HB.out)
      revert n0_ n1_ n2_; clear BK304 BK305 HB; intro BK304 BK305 HB
      refine start_ (n := 6) (S := fun w' => True) (ds := []) #[false, false, false, false, false, false] (by kernel_rfl) rfl rfl trivial (fun hHeld => ?_)
      generalize wc.drew = w20 at BK304 BK305 HB hHeld ⊢
      refine px 0 6 1 (by kernel_rfl) ?_
      refine px 2 6 5 (by kernel_rfl) ?_
      refine join_ (σ := Value × Value) 1 #[true, true, true, true, true, false] (fun s_ => [(28, s_.1), (30, s_.2), (10, s_.1)]) (fun s_ w' => (Kd.R (Kd.int .i64) 3 w' w.heap.size (fun k_ => (w.heap.size ≤ k_) ∧ some k_ ≠ (s_.2 : Value).ownBlock) s_.1 y308) ∧ (Kd.R (Kd.int .i64) 3 w' w.heap.size (fun k_ => (w.heap.size ≤ k_) ∧ some k_ ≠ (s_.1 : Value).ownBlock) s_.2 y311) ∧ (w'.heap[gb304]? = some (.cells #[.slice A2_0 l2_0.length c2_0, .slice A2_1 l2_1.length c2_1] 35 (0, 0))) ∧ (w'.heap[gb305]? = some (.cells #[.int .i64 0, .slice none 0 0] 30 (0, 0))) ∧ (Below w.heap.size w w')) ?_ ?_
      rotate_left
      ·intro hCont
       refine two_ (i := 1) (j := 3) (Ni := some 28) (Nj := some 30) #[true, true, true, false, false, false] #[true, false, true, true, false, false] rfl rfl rfl rfl (by kernel_rfl) (by decide) (by decide) (fun K hK => ?_) (fun K hK => ?_)
       ·skip
        refine Kd.R_make_step (Kd.int .i64) _ 3 (by rfl) (N := 28) rfl 23 _ _ rfl a1 rfl rfl Try.underlying23 (.int .i64 0) 8 info3 rfl (by decide) (by omega) 0 (ok := fun _ => True) (okp := fun _ => True) rfl (fun _ hk => hk) trivial (of_decide_eq_true aB) (Nat.le_trans (Nat.mul_le_mul_right _ (of_decide_eq_true aB : a1.toNat ≤ 35184372088832)) (by omega)) (Below.refl _ _) (Nat.le_refl _) ?_
        intro v309 w21 ho22 hb hg_ hnew_
        clear hg_ hnew_
        (first | rw [← Ny308.out] at ho22 | (simp only [Int.reduceToNat] at ho22; rw [← Ny308.out] at ho22))
        have n0_ := xm (Kd.R_lower (Kd.R_newM (M := fun k_ => (w.heap.size ≤ k_)) ho22 (xz bG) (fun k_ h_ => h_)) (xz bG))
        have n1_ := xm (blk_below (kB BK304) hb)
        have n2_ := xm (blk_below (kB BK305) hb)
        have n3_ := xm (below_step bG hb)
        revert n0_ n1_ n2_ n3_; clear BK304 BK305 HB; intro HO310 BK304 BK305 HB
        clear hb ho22
        refine hK.out _ _ trivial (fun hHeld => nC ?_)
        clear hK K
        refine px 4 6 23 (by kernel_rfl) ?_
        refine one_ (i := 3) (N := some 30) #[true, true, true, true, true, false] rfl rfl (by kernel_rfl) (by decide) (fun K hK => ?_)
        refine Kd.R_make_step (Kd.int .i64) _ 3 (by rfl) (N := 30) rfl 23 _ _ rfl a1 rfl rfl Try.underlying23 (.int .i64 0) 8 info3 rfl (by decide) (by omega) 0 (ok := fun _ => True) (okp := fun _ => True) rfl (fun _ hk => hk) trivial (of_decide_eq_true aB) (Nat.le_trans (Nat.mul_le_mul_right _ (of_decide_eq_true aB : a1.toNat ≤ 35184372088832)) (by omega)) (Below.refl _ _) (Nat.le_refl _) ?_
        intro v312 w23 ho24 hb hg_ hnew_
        clear hg_ hnew_
        (first | rw [← Ny311.out] at ho24 | (simp only [Int.reduceToNat] at ho24; rw [← Ny311.out] at ho24))
        have n0_ := xm (Kd.R_elder' (rB HO310) (Kd.R_base ho24) hb)
        have n1_ := xm (Kd.R_lower (Kd.R_new' (Kd.R_newM (M := fun k_ => (w.heap.size ≤ k_)) ho24 (xz bG) (fun k_ h_ => h_)) (Kd.R_lt (rB HO310))) (xz bG))
        have n2_ := xm (blk_below (kB BK304) hb)
        have n3_ := xm (blk_below (kB BK305) hb)
        have n4_ := xm (below_step bG hb)
        revert n0_ n1_ n2_ n3_ n4_; clear HO310 BK304 BK305 HB; intro HO310 HO313 BK304 BK305 HB
        clear hb ho24
        refine hK.out _ _ trivial (fun hHeld => nC ?_)
        clear hK K
        exact norm_ (by simp only [putAll, Act.put, xi, xj, xk]) (hCont (v309, v312) _ ⟨(by (with_reducible repeat (first | apply Kd.R_alloc | apply Kd.R_drewN | apply Kd.R_drew)); exact Kd.R_mono HO310.out (fun _ hk => ⟨hk.1.1, hk.2⟩)), (by (with_reducible repeat (first | apply Kd.R_alloc | apply Kd.R_drewN | apply Kd.R_drew)); exact Kd.R_mono HO313.out (fun _ hk => ⟨hk.1.1, hk.2⟩)), (kB BK304), (kB BK305), bG⟩)
       ·skip
        refine Kd.R_make_step (Kd.int .i64) _ 3 (by rfl) (N := 30) rfl 23 _ _ rfl a1 rfl rfl Try.underlying23 (.int .i64 0) 8 info3 rfl (by decide) (by omega) 0 (ok := fun _ => True) (okp := fun _ => True) rfl (fun _ hk => hk) trivial (of_decide_eq_true aB) (Nat.le_trans (Nat.mul_le_mul_right _ (of_decide_eq_true aB : a1.toNat ≤ 35184372088832)) (by omega)) (Below.refl _ _) (Nat.le_refl _) ?_
        intro v312 w21 ho22 hb hg_ hnew_
        clear hg_ hnew_
        (first | rw [← Ny311.out] at ho22 | (simp only [Int.reduceToNat] at ho22; rw [← Ny311.out] at ho22))
        have n0_ := xm (Kd.R_lower (Kd.R_newM (M := fun k_ => (w.heap.size ≤ k_)) ho22 (xz bG) (fun k_ h_ => h_)) (xz bG))
        have n1_ := xm (blk_below (kB BK304) hb)
        have n2_ := xm (blk_below (kB BK305) hb)
        have n3_ := xm (below_step bG hb)
        revert n0_ n1_ n2_ n3_; clear BK304 BK305 HB; intro HO313 BK304 BK305 HB
        clear hb ho22
        refine hK.out _ _ trivial (fun hHeld => nC ?_)
        clear hK K
        refine one_ (i := 1) (N := some 28) #[true, true, true, true, false, false] rfl rfl (by kernel_rfl) (by decide) (fun K hK => ?_)
        refine Kd.R_make_step (Kd.int .i64) _ 3 (by rfl) (N := 28) rfl 23 _ _ rfl a1 rfl rfl Try.underlying23 (.int .i64 0) 8 info3 rfl (by decide) (by omega) 0 (ok := fun _ => True) (okp := fun _ => True) rfl (fun _ hk => hk) trivial (of_decide_eq_true aB) (Nat.le_trans (Nat.mul_le_mul_right _ (of_decide_eq_true aB : a1.toNat ≤ 35184372088832)) (by omega)) (Below.refl _ _) (Nat.le_refl _) ?_
        intro v309 w23 ho24 hb hg_ hnew_
        clear hg_ hnew_
        (first | rw [← Ny308.out] at ho24 | (simp only [Int.reduceToNat] at ho24; rw [← Ny308.out] at ho24))
        have n0_ := xm (Kd.R_elder' (rB HO313) (Kd.R_base ho24) hb)
        have n1_ := xm (Kd.R_lower (Kd.R_new' (Kd.R_newM (M := fun k_ => (w.heap.size ≤ k_)) ho24 (xz bG) (fun k_ h_ => h_)) (Kd.R_lt (rB HO313))) (xz bG))
        have n2_ := xm (blk_below (kB BK304) hb)
        have n3_ := xm (blk_below (kB BK305) hb)
        have n4_ := xm (below_step bG hb)
        revert n0_ n1_ n2_ n3_ n4_; clear HO313 BK304 BK305 HB; intro HO313 HO310 BK304 BK305 HB
        clear hb ho24
        refine hK.out _ _ trivial (fun hHeld => nC ?_)
        clear hK K
        refine px 4 6 31 (by kernel_rfl) ?_
        exact norm_ (by simp only [putAll, Act.put, xi, xj, xk]) (hCont (v309, v312) _ ⟨(by (with_reducible repeat (first | apply Kd.R_alloc | apply Kd.R_drewN | apply Kd.R_drew)); exact Kd.R_mono HO310.out (fun _ hk => ⟨hk.1.1, hk.2⟩)), (by (with_reducible repeat (first | apply Kd.R_alloc | apply Kd.R_drewN | apply Kd.R_drew)); exact Kd.R_mono HO313.out (fun _ hk => ⟨hk.1.1, hk.2⟩)), (kB BK304), (kB BK305), bG⟩)
      rintro ⟨v309, v312⟩ w25 ⟨h0_, h1_, h2_, h3_, h4_⟩
      (try dsimp only at h0_ h1_ h2_ h3_ h4_)
      have n0_ := xm h0_
      have n1_ := xm h1_
      have n2_ := xm h2_
      have n3_ := xm h3_
      have n4_ := xm h4_
      clear BK304
      clear BK305
      clear HB
      clear h0_ h1_ h2_ h3_ h4_
      revert n0_ n1_ n2_ n3_ n4_; intro HO310 HO313 BK304 BK305 HB
      have hHeld := trivial
      refine norm_ (a' := ?_) ?_ ?_
      rotate_left
      ·simp only [putAll, Act.put, xi, xj, xk]
       rfl
      refine px 5 6 63 (by kernel_rfl) ?_
      refine done_ (by kernel_rfl) ?_
      try go_wp2
      have n0_ := xm (Kd.R_drew HO310.out)
      have n1_ := xm (Kd.R_drew HO313.out)
      have n2_ := xm (xr BK304.out)
      have n3_ := xm (xr BK305.out)
      have n4_ := xm (xd HB.out)
      revert n0_ n1_ n2_ n3_ n4_; clear HO310 HO313 BK304 BK305 HB; intro HO310 HO313 BK304 BK305 HB
      refine start_ (n := 7) (S := fun w' => w'.cell? ⟨gb304, 0, none⟩ = some (.slice A2_0 l2_0.length c2_0) ∧ w'.cell? ⟨gb304, 1, none⟩ = some (.slice A2_1 l2_1.length c2_1)) (ds := []) #[false, false, false, false, false, false, false] (by kernel_rfl) rfl rfl ⟨(xc BK304.out 0).trans rfl, (xc BK304.out 1).trans rfl⟩ (fun hHeld => ?_)
      generalize w25.drew = w26 at HO310 HO313 BK304 BK305 HB hHeld ⊢
      refine px 0 7 1 (by kernel_rfl) ?_
      refine px 2 7 5 (by kernel_rfl) ?_
      refine tx 3 7 13 rfl rfl (by kernel_rfl) hHeld (by rintro w' ⟨s0, s1⟩; go_simp; with_reducible rfl) ?_
      refine one_ (i := 1) (N := some 32) #[true, true, true, true, false, false, false] rfl rfl (by kernel_rfl) (by decide) (fun K hK => ?_)
      refine goes_ Try.func25 (by kernel_rfl) rfl #[.slice A0 l0.length c0] (by rfl) rfl rfl mB ?_
      with_reducible refine (impl_rulesOf.calls kj4 _ _ l0 t314 _ ?side1 ?side2 A17.out).mono ?_
      (case side1 => exact cB (Kd.C_below HR0.out HB.out))
      (case side2 => exact HC0.out)
      rintro e w27 ⟨v315, rfl, ho0, hb⟩
      refine ⟨_, rfl, ?_⟩
      have n0_ := xm (Kd.R_below (rB HO310) hb)
      have n1_ := xm (Kd.R_below (rB HO313) hb)
      have n2_ := xm (Kd.R_lower (Kd.R_newM (M := fun k_ => (w.heap.size ≤ k_)) ho0 (xz bG) (fun k_ h_ => h_)) (xz bG))
      have n3_ := xm (blk_below (kB BK304) hb)
      have n4_ := xm (blk_below (kB BK305) hb)
      have n5_ := xm (below_step bG hb)
      revert n0_ n1_ n2_ n3_ n4_ n5_; clear HO310 HO313 BK304 BK305 HB; intro HO310 HO313 HO316 BK304 BK305 HB
      (try clear hb)
      (try clear hb2)
      (try clear hk)
      (try clear hi)
      (try clear ho0)
      refine hK.out _ _ ⟨(xc BK304.out 0).trans rfl, (xc BK304.out 1).trans rfl⟩ (fun hHeld => nC ?_)
      clear hK K
      refine one_ (i := 4) (N := some 35) #[true, true, true, true, true, false, false] rfl rfl (by kernel_rfl) (by decide) (fun K hK => ?_)
      refine goes_ Try.func26 (by kernel_rfl) rfl #[.slice A2_0 l2_0.length c2_0] (by rfl) rfl rfl mB ?_
      with_reducible refine (impl_setOf.calls kj4 _ _ l2_0 t317 _ ?side1 ?side2 A18.out).mono ?_
      (case side1 => exact cB (Kd.C_below HR2_0.out HB.out))
      (case side2 => exact HC2_0.out)
      rintro e w' ⟨rfl, ⟨nd, rfl⟩⟩
      refine ⟨_, rfl, ?_⟩
      obtain ⟨Ao28, co28, eo28⟩ := Kd.R_slice HO316.out
      (first | subst eo28 | (injection eo28 with f1_ f2_ f3_; have f4_ := f1_.symm; have f5_ := f3_.symm; clear f1_ f2_ f3_; subst f4_; subst f5_))
      refine hK.out _ _ ⟨(xc BK304.out 0).trans rfl, (xc BK304.out 1).trans rfl⟩ (fun hHeld => nC ?_)
      clear hK K
      refine one_ (i := 5) (N := some 36) #[true, true, true, true, true, true, false] rfl rfl (by kernel_rfl) (by decide) (fun K hK => ?_)
      refine goes_ Try.func24 (by kernel_rfl) rfl #[.slice Ao28 t314.length co28, .int .i64 t317] (by rfl) rfl rfl mB ?_
      with_reducible refine (impl_closure.calls kj4 _ _ t314 t317 t318 _ ?side1 ?side2 A19.out).mono ?_
      (case side1 => repeat (first | exact (Kd.R_reads' HO316.out).2.2 | (with_reducible refine Kd.C_alloc ?_ _) | (with_reducible refine Kd.C_drewN ?_ _) | (with_reducible refine Kd.C_drew ?_)))
      (case side2 => exact (Kd.R_reads' HO316.out).2.1)
      rintro e w29 ⟨rfl, hb⟩
      refine ⟨_, rfl, ?_⟩
      have n0_ := xm (Kd.R_below (rB HO310) hb)
      have n1_ := xm (Kd.R_below (rB HO313) hb)
      have n2_ := xm (Kd.R_below (rB HO316) hb)
      have n3_ := xm (blk_below (kB BK304) hb)
      have n4_ := xm (blk_below (kB BK305) hb)
      have n5_ := xm (below_step bG hb)
      revert n0_ n1_ n2_ n3_ n4_ n5_; clear HO310 HO313 HO316 BK304 BK305 HB; intro HO310 HO313 HO316 BK304 BK305 HB
      (try clear hb)
      (try clear hb2)
      (try clear hk)
      (try clear hi)
      refine hK.out _ _ ⟨(xc BK304.out 0).trans rfl, (xc BK304.out 1).trans rfl⟩ (fun hHeld => nC ?_)
      clear hK K
      refine px 6 7 127 (by kernel_rfl) ?_
      refine done_ (by kernel_rfl) ?_
      obtain ⟨Ao30, co30, eo30⟩ := Kd.R_slice HO313.out
      subst eo30
      try go_wp2
      go_loopg [39] kj4 (fun kq v39 w' => ∃ (x11_2 : List Int) (x39_2 : Int), v39 = .int .i64 x39_2 ∧ Aside0 (impl_WitnessFor.l0 kq a1 y308 x11_2 t318 (y311.length : Int) x39_2 = some (r1, r2, r3)) ∧ Aside0 (kq ≤ kj4) ∧ Aside0 (Kd.R (Kd.int .i64) 3 w' w.heap.size (fun k_ => (w.heap.size ≤ k_) ∧ some k_ ≠ ((.slice Ao30 y311.length co30) : Value).ownBlock) v309 y308) ∧ Aside0 (Kd.R (Kd.int .i64) 3 w' w.heap.size (fun k_ => (w.heap.size ≤ k_) ∧ some k_ ≠ (v309 : Value).ownBlock) (.slice Ao30 y311.length co30) x11_2) ∧ Aside0 (w'.heap[gb304]? = some (.cells #[(.slice A2_0 l2_0.length c2_0), (.slice A2_1 l2_1.length c2_1)] 35 (0, 0))) ∧ Aside0 (w'.heap[gb305]? = some (.cells #[.int .i64 0, (.slice none 0 0)] 30 (0, 0))) ∧ Aside0 (Below w.heap.size w w'))
      case atStart => exact ⟨(y311), (0), sB, H', ⟨Nat.le_refl _⟩, ⟨rB HO310⟩, ⟨rB HO313⟩, ⟨kB BK304⟩, ⟨kB BK305⟩, ⟨bG⟩⟩
      case round =>
       clear H'
       try clear c1
       try clear c2
       try clear p2
       try clear c8
       try clear c9
       try clear c11
       try clear c12
       try clear c13
       try clear c15
       try clear c15b0 c15b1
       try clear c16
       try clear c16b0 c16b1
       try clear c23
       try clear c24
       try clear c25
       try clear c26
       try clear hcz14_0 hcz14_1
       try clear hcz9_0 hcz9_1
       try clear hfz14_0 hfz14_1
       try clear hfz9_0 hfz9_1
       try clear p2
       obtain ⟨x11_2, x39_2, rfl, HA, HK2, HO_10, HO_11, BK304, BK305, HB⟩ := hrel
       have hl11_2 := (Kd.R_reads' HO_11.out).1
       rw [hl11_2] at HO_11
       (try simp only [hl11_2])
       (try simp only [hl11_2] at BK304)
       (try simp only [hl11_2] at BK305)
       (try simp only [hl11_2] at HO_10)
       cases gk with
       | zero => exact absurd HA.out (by simp [impl_WitnessFor.l0])
       | succ k2 =>
        have H := HA.out
        clear HA
        simp only [impl_WitnessFor.l0] at H
        by_cases c31 : x39_2 < (y311.length : Int)
        ·rw [if_pos c31] at H
         have c31b0 : decide (x39_2 < (y311.length : Int)) = true := decide_eq_true c31
         clear c31
         have c31b0e : decide (x39_2 < (x11_2.length : Int)) = true := by rw [← hl11_2]; exact c31b0
         by_cases c32 : 0 ≤ x39_2
         ·rw [if_pos c32] at H
          have c32b0 := eq_true c32
          have c32b1 : decide (0 ≤ x39_2) = true := decide_eq_true c32
          clear c32
          obtain ⟨ji33, hji33⟩ : ∃ j_ : Int, (shl .i64 1 x39_2) = j_ := ⟨_, rfl⟩
          replace H : ((impl_set_has.f t318 (ji33)).bind fun t319 => (if t319 = true then (impl_WitnessFor.l0 k2 a1 y308 x11_2 t318 (y311.length : Int) (wrap64 (x39_2 + 1))) else (if x39_2 < (x11_2.length : Int) then (impl_WitnessFor.l0 k2 a1 y308 (x11_2.set (x39_2 : Int).toNat 1) t318 (y311.length : Int) (wrap64 (x39_2 + 1))) else (none)))) = some (r1, r2, r3) := by first | (rw [hji33] at H; exact H) | (simp only [hji33] at H ⊢; exact H)
          have hji33_ : (IntKind.i64.wrap (1 * 2 ^ min x39_2.toNat 64)) = ji33 := hji33
          have hji33z : x39_2 ≤ 64 → (IntKind.i64.wrap (1 * 2 ^ x39_2.toNat)) = ji33 := shl_small hji33
          have hji33u : (IntKind.i64.wrap (2 ^ min x39_2.toNat 64)) = ji33 := by have h_ := hji33_; rw [Int.one_mul] at h_; exact h_
          have hji33v : x39_2 ≤ 64 → (IntKind.i64.wrap (2 ^ x39_2.toNat)) = ji33 := fun hle_ => by have h_ := hji33z hle_; rw [Int.one_mul] at h_; exact h_
          have hji33y : (wrap64 (1 * 2 ^ min x39_2.toNat 64)) = ji33 := (i64_w _).symm.trans hji33_
          have hji33x : x39_2 ≤ 64 → (wrap64 (1 * 2 ^ x39_2.toNat)) = ji33 := fun h_ => (i64_w _).symm.trans (hji33z h_)
          replace H := Option.bind_eq_some_iff.mp H
          obtain ⟨t319, A340, H⟩ := H
          replace H : (if t319 = true then (impl_WitnessFor.l0 k2 a1 y308 x11_2 t318 (y311.length : Int) (wrap64 (x39_2 + 1))) else (if x39_2 < (x11_2.length : Int) then (impl_WitnessFor.l0 k2 a1 y308 (x11_2.set (x39_2 : Int).toNat 1) t318 (y311.length : Int) (wrap64 (x39_2 + 1))) else (none))) = some (r1, r2, r3) := H
          have A34 := xm A340
          clear A340
          by_cases c35 : t319 = true
          ·subst c35
           have H1 : (impl_WitnessFor.l0 k2 a1 y308 x11_2 t318 (y311.length : Int) (wrap64 (x39_2 + 1))) = some (r1, r2, r3) := by first | (with_reducible rfl) | (rw [if_pos rfl] at H; exact H)
           clear H
           have H := H1
           clear H1
           have H' := xm H
           clear H
           go_wp2_with (first | ((with_reducible refine gate_callee (f := 27) rfl ?_); refine goesL_ (some 45) rfl rfl Try.func27 (by kernel_rfl) rfl #[.int .i64 t318, .int .i64 ji33] rfl (by (try simp only [List.map_toArray, List.map_cons, List.map_nil]); first | done | (simp only [hji33]; rfl) | rfl | (simp only [List.length_drop, List.length_take]; rfl)) ?_; (with_reducible refine (impl_set_has.calls t318 ji33 true _ A34.out).mono ?_); rintro e w' ⟨rfl, ⟨nd, rfl⟩⟩; refine ⟨_, rfl, ?_⟩))
           (try simp only [← hl11_2])
           go_roundg k2
           case measure => have := HJ4.out; have := HK2.out; omega
           case rel => exact ⟨(x11_2), (wrap64 (x39_2 + 1)), sB, H', ⟨by have := HJ4.out; have := HK2.out; omega⟩, ⟨by (try simp only [hl11_2]); (with_reducible repeat (first | apply Kd.R_alloc | apply Kd.R_drewN | apply Kd.R_drew)); exact HO_10.out⟩, ⟨by (try simp only [hl11_2]); (with_reducible repeat (first | apply Kd.R_alloc | apply Kd.R_drewN | apply Kd.R_drew)); exact HO_11.out⟩, ⟨by (try simp only [hl11_2]); (with_reducible repeat (first | refine xq ?_ _ | refine xr ?_ | refine xo ?_ _)); exact BK304.out⟩, ⟨by (try simp only [hl11_2]); (with_reducible repeat (first | refine xq ?_ _ | refine xr ?_ | refine xo ?_ _)); exact BK305.out⟩, ⟨bG⟩⟩
          ·replace c35 := Bool.eq_false_iff.mpr c35
           subst c35
           have H1 : (if x39_2 < (x11_2.length : Int) then (impl_WitnessFor.l0 k2 a1 y308 (x11_2.set (x39_2 : Int).toNat 1) t318 (y311.length : Int) (wrap64 (x39_2 + 1))) else (none)) = some (r1, r2, r3) := by first | (with_reducible rfl) | (rw [if_neg (show ¬ (false = true) by decide)] at H; exact H)
           clear H
           have H := H1
           clear H1
           by_cases c36 : x39_2 < (x11_2.length : Int)
           ·rw [if_pos c36] at H
            have c36b0 : decide (x39_2 < (x11_2.length : Int)) = true := decide_eq_true c36
            clear c36
            obtain ⟨y320, hy320⟩ : ∃ y_ : List Int, y_ = (x11_2.set (x39_2 : Int).toNat 1) := ⟨_, rfl⟩
            replace H : (impl_WitnessFor.l0 k2 a1 y308 y320 t318 (y311.length : Int) (wrap64 (x39_2 + 1))) = some (r1, r2, r3) := by first | (rw [hy320]; with_reducible exact H) | (have H2_ := (Option.bind_some _ _).symm.trans H; rw [hy320]; with_reducible exact H2_) | (have H2_ := (Option.bind_some _ _).symm.trans H; with_reducible exact H2_) | with_reducible exact H | (rw [hy320]; exact H) | exact H
            have Ny320 := xm hy320
            clear hy320
            have H' := xm H
            clear H
            go_wp2_with (first | ((with_reducible refine gate_callee (f := 27) rfl ?_); refine goesL_ (some 45) rfl rfl Try.func27 (by kernel_rfl) rfl #[.int .i64 t318, .int .i64 ji33] rfl (by (try simp only [List.map_toArray, List.map_cons, List.map_nil]); first | done | (simp only [hji33]; rfl) | rfl | (simp only [List.length_drop, List.length_take]; rfl)) ?_; (with_reducible refine (impl_set_has.calls t318 ji33 false _ A34.out).mono ?_); rintro e w' ⟨rfl, ⟨nd, rfl⟩⟩; refine ⟨_, rfl, ?_⟩; (first | (rw [drewN_self wr]; generalize hq_ : World.drewN wr _ = wr; have n0_ : Aside0 (Kd.R (Kd.int .i64) 3 wr w.heap.size (fun k_ => (w.heap.size ≤ k_) ∧ some k_ ≠ (.slice Ao30 x11_2.length co30 : Value).ownBlock) v309 y308) := ⟨by rw [← hq_]; exact (rB HO_10)⟩; have n1_ : Aside0 (Kd.R (Kd.int .i64) 3 wr w.heap.size (fun k_ => (w.heap.size ≤ k_) ∧ some k_ ≠ (v309 : Value).ownBlock) (.slice Ao30 x11_2.length co30) x11_2) := ⟨by rw [← hq_]; exact (rB HO_11)⟩; have n2_ : Aside0 (wr.heap[gb304]? = some (.cells #[.slice A2_0 l2_0.length c2_0, .slice A2_1 l2_1.length c2_1] 35 (0, 0))) := ⟨by rw [← hq_]; exact (kB BK304)⟩; have n3_ : Aside0 (wr.heap[gb305]? = some (.cells #[.int .i64 0, .slice none 0 0] 30 (0, 0))) := ⟨by rw [← hq_]; exact (kB BK305)⟩; have n4_ : Aside0 (Below w.heap.size w wr) := ⟨by rw [← hq_]; exact bG⟩; clear HO_10 HO_11 BK304 BK305 HB hq_; revert n0_ n1_ n2_ n3_ n4_; intro HO_10 HO_11 BK304 BK305 HB) | (have n0_ : Aside0 (Kd.R (Kd.int .i64) 3 wr w.heap.size (fun k_ => (w.heap.size ≤ k_) ∧ some k_ ≠ (.slice Ao30 x11_2.length co30 : Value).ownBlock) v309 y308) := ⟨(rB HO_10)⟩; have n1_ : Aside0 (Kd.R (Kd.int .i64) 3 wr w.heap.size (fun k_ => (w.heap.size ≤ k_) ∧ some k_ ≠ (v309 : Value).ownBlock) (.slice Ao30 x11_2.length co30) x11_2) := ⟨(rB HO_11)⟩; have n2_ : Aside0 (wr.heap[gb304]? = some (.cells #[.slice A2_0 l2_0.length c2_0, .slice A2_1 l2_1.length c2_1] 35 (0, 0))) := ⟨(kB BK304)⟩; have n3_ : Aside0 (wr.heap[gb305]? = some (.cells #[.int .i64 0, .slice none 0 0] 30 (0, 0))) := ⟨(kB BK305)⟩; have n4_ : Aside0 (Below w.heap.size w wr) := ⟨bG⟩; clear HO_10 HO_11 BK304 BK305 HB; revert n0_ n1_ n2_ n3_ n4_; intro HO_10 HO_11 BK304 BK305 HB)); have p37 : 0 ≤ (x39_2 : Int) := of_decide_eq_true aB; have q37 : (x39_2 : Int) < ((x11_2.length : Int) : Int) := of_decide_eq_true aB; obtain ⟨go37, co37, eo37, gb37, gl37, cl37, HG37⟩ := Kd.R_form HO_11.out (by omega); (first | cases eo37 | (injection eo37 with ea_ en_ ec_; (first | subst ea_ | (injection ea_ with ea_; subst ea_)); subst ec_; clear en_)); have GB37 := xm gb37; have GG37 := xm HG37; clear gb37 gl37 HG37; obtain ⟨hx37_0, hf37_0⟩ := Kd.R_celln 0 HO_11.out (x39_2 : Int) p37 q37; replace p37 := eq_true p37; replace q37 := eq_true q37; obtain ⟨hy38_, hz38_⟩ := Kd.R_celln 0 HO_11.out (x39_2 : Int) (of_decide_eq_true aB) (of_decide_eq_true aB); have HP38 := Kd.R_putg HO_11.out (x39_2 : Int) 1) | ((with_reducible refine gate_store (t := 3) (p := 49) rfl ?_); refine store_event (t := 3) (p := 49) (v := ?vo_w39) (w1 := (wr.setCell ⟨go37, (x39_2 : Int).toNat, none⟩ (.int .i64 1))) ?hg ?ho ?hn ?hr ?_; (case ho => rfl); (case hg => rfl); (case hn => rfl); (case hr => exact zB); intro w39 hw; have hg : wr.grownBy w39 (some go37) := (by rw [hw]; exact HP38.2); have hp_ : Kd.R (Kd.int .i64) 3 w39 w.heap.size (fun k_ => (w.heap.size ≤ k_) ∧ some k_ ≠ (v309 : Value).ownBlock) (.slice (some ⟨go37, 0, none⟩) x11_2.length co30) y320 := (by rw [hw, Ny320.out]; exact HP38.1); clear HP38; have n0_ := xm (Kd.R_after (v := (.slice (some ⟨go37, 0, none⟩) x11_2.length co30)) (v1 := (.slice (some ⟨go37, 0, none⟩) x11_2.length co30)) (ok := (fun k_ => (w.heap.size ≤ k_))) (rB HO_10) hg (.inl rfl)); have n1_ := xm (hp_); have n2_ := xm (blk_grown (kB BK304) hg (Kd.R_ne HO_11.out BK304.out (by decide))); have n3_ := xm (blk_grown (kB BK305) hg (Kd.R_ne HO_11.out BK305.out (by decide))); have n4_ := xm ((by rw [hw]; exact xt (HB.out) GB37.out : Below w.heap.size w w39)); revert n0_ n1_ n2_ n3_ n4_; clear HO_10 HO_11 BK304 BK305 HB; intro HO_10 HO_11 BK304 BK305 HB; clear hg hw hp_))
            (try simp only [← hl11_2])
            go_roundg k2
            case measure => have := HJ4.out; have := HK2.out; omega
            case rel => exact ⟨(y320), (wrap64 (x39_2 + 1)), sB, H', ⟨by have := HJ4.out; have := HK2.out; omega⟩, ⟨by (try simp only [hl11_2]); (with_reducible repeat (first | apply Kd.R_alloc | apply Kd.R_drewN | apply Kd.R_drew)); exact HO_10.out⟩, ⟨by (try simp only [hl11_2]); (with_reducible repeat (first | apply Kd.R_alloc | apply Kd.R_drewN | apply Kd.R_drew)); exact HO_11.out⟩, ⟨by (try simp only [hl11_2]); (with_reducible repeat (first | refine xq ?_ _ | refine xr ?_ | refine xo ?_ _)); exact BK304.out⟩, ⟨by (try simp only [hl11_2]); (with_reducible repeat (first | refine xq ?_ _ | refine xr ?_ | refine xo ?_ _)); exact BK305.out⟩, ⟨bG⟩⟩
           ·rw [if_neg c36] at H
            exact absurd H (by simp)
         ·rw [if_neg c32] at H
          exact absurd H (by simp)
        ·rw [if_neg c31] at H
         have c31b0 : decide (x39_2 < (y311.length : Int)) = false := decide_eq_false c31
         clear c31
         have c31b0e : decide (x39_2 < (x11_2.length : Int)) = false := by rw [← hl11_2]; exact c31b0
         obtain ⟨y321, hy321⟩ : ∃ y_ : List (S53), y_ = (([(⟨(⟨y308⟩ : S49), 1⟩ : S53), (⟨(⟨x11_2⟩ : S49), 1⟩ : S53)] : List (S53))) := ⟨_, rfl⟩
         replace H : (some (a1, y321, true)) = some (r1, r2, r3) := by first | (rw [hy321]; with_reducible exact H) | (have H2_ := (Option.bind_some _ _).symm.trans H; rw [hy321]; with_reducible exact H2_) | (have H2_ := (Option.bind_some _ _).symm.trans H; with_reducible exact H2_) | with_reducible exact H | (rw [hy321]; exact H) | exact H
         have Ny321 := xm hy321
         clear hy321
         simp only [Option.some.injEq, Prod.mk.injEq] at H
         obtain ⟨rfl, rfl, rfl⟩ := H
         obtain ⟨Ao40, co40, eo40⟩ := Kd.R_slice HO_10.out
         subst eo40
         go_wp2_with (first | ((with_reducible refine gate_dst (N := 58) rfl ?_); refine Kd.S_lits k53 (w0 := w) w.heap.size 53 ?hg (N := 58) ?hd (xs := ([(⟨(⟨y308⟩ : S49), 1⟩ : S53), (⟨(⟨x11_2⟩ : S49), 1⟩ : S53)] : List (S53))) (inner := [.slice Ao40 y308.length co40, .int .i64 1, .slice Ao30 x11_2.length co30, .int .i64 1]) (ok := fun _ => True) (fun j_ k_ => (j_ = 0 ∧ some k_ = (.slice Ao40 y308.length co40 : Value).ownBlock) ∨ (j_ = 1 ∧ some k_ = (.slice Ao30 x11_2.length co30 : Value).ownBlock)) ?hr rfl ?hp ?ha (fun _ _ _ => trivial) trivial bB (xz bB) (by simp) ?_; (case hd => rfl); (case hg => rfl); (case hr => exact zB); (case hp => exact fun j_ x_ hj_ => match j_, hj_ with | 0, hj_ => (by obtain rfl := Option.some.inj hj_; exact k53_mkM _ _ _ (⟨(⟨y308⟩ : S49), 1⟩ : S53) (Kd.R_mono (Kd.R_tight rfl HO_10.out) (fun _ h_ => .inl ⟨rfl, h_⟩))) | 1, hj_ => (by obtain rfl := Option.some.inj hj_; exact k53_mkM _ _ _ (⟨(⟨x11_2⟩ : S49), 1⟩ : S53) (Kd.R_mono (Kd.R_tight rfl HO_11.out) (fun _ h_ => .inr ⟨rfl, h_⟩))) | j_ + 2, hj_ => (by cases hj_)); (case ha => exact fun i_ j_ k_ h1_ h2_ => h1_.elim (fun a_ => h2_.elim (fun b_ => a_.1.trans b_.1.symm) (fun b_ => absurd b_.2 (HO_10.out.1 k_ a_.2.symm).2)) (fun a_ => h2_.elim (fun b_ => absurd a_.2 (HO_10.out.1 k_ b_.2.symm).2) (fun b_ => a_.1.trans b_.1.symm))); intro v322 w41 ho42 hb hg_ hnew_; clear hnew_; (first | rw [← Ny321.out] at ho42 | (simp only [Int.reduceToNat] at ho42; rw [← Ny321.out] at ho42)); have n0_ := xm ho42; have n1_ := xm (blk_grown (kB BK304) hg_ (by simp)); have n2_ := xm (blk_grown (kB BK305) hg_ (by simp)); have n3_ := xm hb; clear BK304 BK305 HB HO_10 HO_11 hb hg_ ho42; revert n0_ n1_ n2_ n3_; intro HO323 BK304 BK305 HB; obtain ⟨Ao43, co43, eo43⟩ := Kd.S_slice HO323.out; subst eo43; have hnb44 := NB305_304.out; have hnc44 := NB304_305.out; obtain ⟨hcz45_0, hcz45_1, hfz45_0, hfz45_1⟩ := cz2 BK305.out))
         refine bodyPost_ret (results_ct rfl _ _ gb305 30 #[.int .i64 a1, .slice Ao43 y321.length co43] (0, 0) _ rfl (by (with_reducible repeat (first | refine xq ?_ _ | refine xr ?_ | refine xo ?_ _)); refine blk_put (cs := #[.int .i64 a1, .slice none 0 0]) ?_ 1 _ rfl; (with_reducible repeat (first | refine xq ?_ _ | refine xr ?_ | refine xo ?_ _)); refine blk_put (cs := #[.int .i64 0, .slice none 0 0]) ?_ 0 _ rfl; (with_reducible repeat (first | refine xq ?_ _ | refine xr ?_ | refine xo ?_ _)); exact BK305.out) Try.underlying30 rfl (by kernel_rfl)) rfl ?_
         exact ⟨_, eB, by (with_reducible repeat (first | apply Kd.S_alloc | apply Kd.S_drewN | apply Kd.S_drew)); exact Kd.S_mono (Kd.S_far (p := ⟨gb305, 1, none⟩) (Kd.S_far (p := ⟨gb305, 0, none⟩) (Kd.S_types HO323.out BK305.out (by decide)) (fun _ hk => hk.2) (.int .i64 a1)) (fun _ hk => hk.2) (.slice Ao43 y321.length co43)) (fun _ _ => trivial), bG⟩
     ·rw [if_neg c16] at H
      exact absurd H (by simp)
    ·rw [if_neg c15] at H
     exact absurd H (by simp)

end Go.Proofs.Ytaddemalepndfah.G
