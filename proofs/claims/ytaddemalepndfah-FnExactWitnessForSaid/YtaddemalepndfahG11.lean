/- Written by a program of this claim's own, out of the translation: functions of the program as plain functions, and that the calls answer as these. No conditions. -/
import Derived.Test.YtaddemalepndfahG0
import Derived.Test.YtaddemalepndfahG9
import Derived.Test.YtaddemalepndfahG10
namespace Go.Proofs.Ytaddemalepndfah.G
open Go.RowKit Go.Proofs.Ytaddemalepndfah.X Go.Proofs.YtaddemalepndfahW.PrintWords Go.Proofs.YtaddemalepndfahW.PrintLast Go.Proofs.YtaddemalepndfahW.PrintMore
attribute [local go_sem] max2_int min2_int max_two min_two max_three min_three max_four min_four   -- for this text's walks alone
set_option linter.unusedVariables false
set_option linter.unusedSimpArgs false

/-! ### impl_Implies: function 23 -/
def impl_Implies.j0 : Nat → List (S35) → Bool → List Int → List Int → Option (Bool × Bool)
 | 0, _, _, _, _ => none
 | k + 1, x0, x17, x296000, x296001 => if x17 = true then (some (false, false)) else ((impl_rulesOf.f k x0).bind fun t298 => ((impl_ruleOf.f k x296000 x296001).bind fun bt301 => ((impl_implies.f k t298 bt301.1 bt301.2).bind fun t303 => (some (t303, true)))))
def impl_Implies.f (k : Nat) (l0 : List (S35)) (a1 : Int) (l2_0 : List Int) (l2_1 : List Int) : Option (Bool × Bool) := (impl_GoodDepends.f k l0 a1).bind fun t296 => (if t296 = true then ((impl_isDepend.f k l2_0 l2_1 a1).bind fun t297 => (impl_Implies.j0 k l0 (!t297) l2_0 l2_1)) else (impl_Implies.j0 k l0 true l2_0 l2_1))
theorem impl_Implies.mono_l : ∀ k, (∀ y0 y1 y2 y3, LeO (impl_Implies.j0 k y0 y1 y2 y3) (impl_Implies.j0 (k + 1) y0 y1 y2 y3))
 | 0 => fun _ _ _ _ r h => by simp [impl_Implies.j0] at h
 | k + 1 => by
  have ih0 := impl_Implies.mono_l k
  ·intro y0 y1 y2 y3
   unfold impl_Implies.j0
   repeat' first
   | (with_reducible exact ih0 _ _ _ _)
   | (with_reducible exact impl_GoodDepends.mono _ _ _)
   | (with_reducible exact impl_implies.mono _ _ _ _)
   | (with_reducible exact impl_isDepend.mono _ _ _ _)
   | (with_reducible exact impl_ruleOf.mono _ _ _)
   | (with_reducible exact impl_rulesOf.mono _ _)
   | (with_reducible exact LeO.refl _)
   | (with_reducible exact LeO.none _)
   | (with_reducible refine LeO.ite ?_ ?_)
   | (with_reducible refine LeO.bind ?_ (fun _ => ?_))
   | exact ih0 _ _ _ _
   | exact impl_GoodDepends.mono _ _ _
   | exact impl_implies.mono _ _ _ _
   | exact impl_isDepend.mono _ _ _ _
   | exact impl_ruleOf.mono _ _ _
   | exact impl_rulesOf.mono _ _
   | exact LeO.none _
   | refine LeO.ite ?_ ?_
   | refine LeO.bind ?_ (fun _ => ?_)
theorem impl_Implies.mono : ∀ a0 a1 a2 a3 k, LeO (impl_Implies.f k a0 a1 a2 a3) (impl_Implies.f (k + 1) a0 a1 a2 a3) := by
 intro a0 a1 a2 a3 k
 have ih0 := impl_Implies.mono_l k
 unfold impl_Implies.f
 repeat' first
   | (with_reducible exact ih0 _ _ _ _)
   | (with_reducible exact impl_GoodDepends.mono _ _ _)
   | (with_reducible exact impl_implies.mono _ _ _ _)
   | (with_reducible exact impl_isDepend.mono _ _ _ _)
   | (with_reducible exact impl_ruleOf.mono _ _ _)
   | (with_reducible exact impl_rulesOf.mono _ _)
   | (with_reducible exact LeO.refl _)
   | (with_reducible exact LeO.none _)
   | (with_reducible refine LeO.ite ?_ ?_)
   | (with_reducible refine LeO.bind ?_ (fun _ => ?_))
   | exact ih0 _ _ _ _
   | exact impl_GoodDepends.mono _ _ _
   | exact impl_implies.mono _ _ _ _
   | exact impl_isDepend.mono _ _ _ _
   | exact impl_ruleOf.mono _ _ _
   | exact impl_rulesOf.mono _ _
   | exact LeO.none _
   | refine LeO.ite ?_ ?_
   | refine LeO.bind ?_ (fun _ => ?_)
set_option maxHeartbeats 8000000 in
set_option maxRecDepth 100000 in
theorem impl_Implies.calls (k : Nat) (A0 : Option Addr) (c0 : Nat) (l0 : List (S35)) (a1 : Int) (A2_0 : Option Addr) (c2_0 : Nat) (l2_0 : List Int) (A2_1 : Option Addr) (c2_1 : Nat) (l2_1 : List Int) (r1 : Bool) (r2 : Bool) (w : World) (hr0 : Kd.C k35 w A0 l0.length l0) (hc0 : l0.length ≤ c0) (hr2_0 : Kd.C (Kd.int .i64) w A2_0 l2_0.length l2_0) (hc2_0 : l2_0.length ≤ c2_0) (hr2_1 : Kd.C (Kd.int .i64) w A2_1 l2_1.length l2_1) (hc2_1 : l2_1.length ≤ c2_1) (h : impl_Implies.f k l0 a1 l2_0 l2_1 = some (r1, r2)) :
  Calls Try.prog 23 #[.slice A0 l0.length c0, .int .i64 a1, .agg #[.slice A2_0 l2_0.length c2_0, .slice A2_1 l2_1.length c2_1]] w fun e w' => e = .returned (.tuple #[.bool r1, .bool r2]) ∧ Below w.heap.size w w' := by
 have hu35 := Try.underlying35
 have HR0 := xm hr0
 have HC0 := xm hc0
 clear hr0 hc0
 have HR2_0 := xm hr2_0
 have HC2_0 := xm hc2_0
 clear hr2_0 hc2_0
 have HR2_1 := xm hr2_1
 have HC2_1 := xm hc2_1
 clear hr2_1 hc2_1
 have HB := xm (Below.refl w.heap.size w)
 have H : ((impl_GoodDepends.f k l0 a1).bind fun t296 => (if t296 = true then ((impl_isDepend.f k l2_0 l2_1 a1).bind fun t297 => (impl_Implies.j0 k l0 (!t297) l2_0 l2_1)) else (impl_Implies.j0 k l0 true l2_0 l2_1))) = some (r1, r2) := h
 clear h
 have HC4 := xm H
 clear H
 go_enter Try.func23, Try.ntmps23
 go_upto_region 1 with (first | ((with_reducible refine gate_dst (N := 5) rfl ?_); refine box_event ?hg (N := 5) ?hd (cs := #[.slice A2_0 l2_0.length c2_0, .slice A2_1 l2_1.length c2_1]) (t := 35) ?hr ?_; (case hd => rfl); (case hg => rfl); (case hr => exact zB); intro gb295 hg w5 hbox hb; have n0_ := xm (below_step bB hb); have n1_ := xm (hbox); have n2_ := xm ((by rw [hg]; exact (xz bB) : w.heap.size ≤ gb295)); have n3_ := xm ((by rw [hg]; exact (xz bB) : w.heap.size ≤ gb295)); revert n0_ n1_ n2_ n3_; clear HB; intro HB BK295 GW295 GE295; clear hb hbox hg))
 (try simp only [Act.put, xi, xj, xk])
 go_cut [17] (fun v17 wc => ∃ (kq : Nat) (x17_3 : Bool), v17 = .bool x17_3 ∧ Aside0 (impl_Implies.j0 kq l0 x17_3 l2_0 l2_1 = some (r1, r2)) ∧ Aside0 (kq ≤ k) ∧ Aside0 (wc.heap[gb295]? = some (.cells #[(.slice A2_0 l2_0.length c2_0), (.slice A2_1 l2_1.length c2_1)] 35 (0, 0))) ∧ Aside0 (Below w.heap.size w wc))
 case first =>
  have H := HC4.out
  clear HC4
  replace H := Option.bind_eq_some_iff.mp H
  obtain ⟨t296, A60, H⟩ := H
  replace H : (if t296 = true then ((impl_isDepend.f k l2_0 l2_1 a1).bind fun t297 => (impl_Implies.j0 k l0 (!t297) l2_0 l2_1)) else (impl_Implies.j0 k l0 true l2_0 l2_1)) = some (r1, r2) := H
  have A6 := xm A60
  clear A60
  by_cases c7 : t296 = true
  ·subst c7
   have H1 : ((impl_isDepend.f k l2_0 l2_1 a1).bind fun t297 => (impl_Implies.j0 k l0 (!t297) l2_0 l2_1)) = some (r1, r2) := by first | (with_reducible rfl) | (rw [if_pos rfl] at H; exact H)
   clear H
   have H := H1
   clear H1
   replace H := Option.bind_eq_some_iff.mp H
   obtain ⟨t297, A80, H⟩ := H
   replace H : (impl_Implies.j0 k l0 (!t297) l2_0 l2_1) = some (r1, r2) := H
   have A8 := xm A80
   clear A80
   have H' := xm H
   clear H
   go_wp2_with (first | ((with_reducible refine gate_callee (f := 40) rfl ?_); refine goesL_ (some 10) rfl rfl Try.func40 (by kernel_rfl) rfl #[.slice A0 l0.length c0, .int .i64 a1] rfl mB ?_; (with_reducible refine (impl_GoodDepends.calls k _ _ l0 a1 true _ ?side1 ?side2 A6.out).mono ?_); (case side1 => exact cB (Kd.C_below HR0.out HB.out)); (case side2 => exact HC0.out); rintro e w9 ⟨rfl, hb⟩; refine ⟨_, rfl, ?_⟩; have n0_ := xm (blk_below (kB BK295) hb); have n1_ := xm (below_step bG hb); revert n0_ n1_; clear BK295 HB; intro BK295 HB; (try clear hb); obtain ⟨hcz10_0, hcz10_1, hfz10_0, hfz10_1⟩ := cz2 BK295.out) | (go_at_call 41; (with_reducible refine (impl_isDepend.calls k _ _ l2_0 _ _ l2_1 a1 t297 _ ?side1 ?side2 ?side3 ?side4 A8.out).mono ?_); (case side1 => exact cB (Kd.C_below HR2_0.out HB.out)); (case side2 => exact HC2_0.out); (case side3 => exact cB (Kd.C_below HR2_1.out HB.out)); (case side4 => exact HC2_1.out); rintro e w11 ⟨rfl, hb⟩; have n0_ := xm (blk_below (kB BK295) hb); have n1_ := xm (below_step bG hb); revert n0_ n1_; clear BK295 HB; intro BK295 HB; (try clear hb)))
   go_meet
   case rel => exact ⟨_, (!t297), sB, H', ⟨by first | omega | exact Nat.le_refl _⟩, ⟨kB BK295⟩, ⟨bG⟩⟩
  ·replace c7 := Bool.eq_false_iff.mpr c7
   subst c7
   have H1 : (impl_Implies.j0 k l0 true l2_0 l2_1) = some (r1, r2) := by first | (with_reducible rfl) | (rw [if_neg (show ¬ (false = true) by decide)] at H; exact H)
   clear H
   have H := H1
   clear H1
   have H' := xm H
   clear H
   go_wp2_with (first | ((with_reducible refine gate_callee (f := 40) rfl ?_); refine goesL_ (some 10) rfl rfl Try.func40 (by kernel_rfl) rfl #[.slice A0 l0.length c0, .int .i64 a1] rfl mB ?_; (with_reducible refine (impl_GoodDepends.calls k _ _ l0 a1 false _ ?side1 ?side2 A6.out).mono ?_); (case side1 => exact cB (Kd.C_below HR0.out HB.out)); (case side2 => exact HC0.out); rintro e w12 ⟨rfl, hb⟩; refine ⟨_, rfl, ?_⟩; have n0_ := xm (blk_below (kB BK295) hb); have n1_ := xm (below_step bG hb); revert n0_ n1_; clear BK295 HB; intro BK295 HB; (try clear hb)))
   go_meet
   case rel => exact ⟨_, (true), sB, H', ⟨by first | omega | exact Nat.le_refl _⟩, ⟨kB BK295⟩, ⟨bG⟩⟩
 case rest =>
  clear HC4
  try clear c2
  try clear p2
  try clear c4
  try clear c7
  try clear hcz10_0 hcz10_1 hfz10_0 hfz10_1
  obtain ⟨kq, x17_3, rfl, HA, HJ3, BK295, HB⟩ := hcut
  cases kq with
  | zero => exact absurd HA.out (by simp [impl_Implies.j0])
  | succ kj3 =>
   have H := HA.out
   clear HA
   simp only [impl_Implies.j0] at H
   by_cases c13 : x17_3 = true
   ·subst c13
    have H1 : (some (false, false)) = some (r1, r2) := by first | (with_reducible rfl) | (rw [if_pos rfl] at H; exact H)
    clear H
    have H := H1
    clear H1
    simp only [Option.some.injEq, Prod.mk.injEq] at H
    obtain ⟨rfl, rfl⟩ := H
    go_wp2
    go_ret2
    exact ⟨eB, bG⟩
   ·replace c13 := Bool.eq_false_iff.mpr c13
    subst c13
    have H1 : ((impl_rulesOf.f kj3 l0).bind fun t298 => ((impl_ruleOf.f kj3 l2_0 l2_1).bind fun bt301 => ((impl_implies.f kj3 t298 bt301.1 bt301.2).bind fun t303 => (some (t303, true))))) = some (r1, r2) := by first | (with_reducible rfl) | (rw [if_neg (show ¬ (false = true) by decide)] at H; exact H)
    clear H
    have H := H1
    clear H1
    replace H := Option.bind_eq_some_iff.mp H
    obtain ⟨t298, A140, H⟩ := H
    replace H : ((impl_ruleOf.f kj3 l2_0 l2_1).bind fun bt301 => ((impl_implies.f kj3 t298 bt301.1 bt301.2).bind fun t303 => (some (t303, true)))) = some (r1, r2) := H
    have A14 := xm A140
    clear A140
    replace H := Option.bind_eq_some_iff.mp H
    obtain ⟨⟨t301, t302⟩, A150, H⟩ := H
    replace H : ((impl_implies.f kj3 t298 t301 t302).bind fun t303 => (some (t303, true))) = some (r1, r2) := H
    have A15 := xm A150
    clear A150
    replace H := Option.bind_eq_some_iff.mp H
    obtain ⟨t303, A160, H⟩ := H
    replace H : (some (t303, true)) = some (r1, r2) := H
    have A16 := xm A160
    clear A160
    simp only [Option.some.injEq, Prod.mk.injEq] at H
    obtain ⟨rfl, rfl⟩ := H
    try go_wp2
    have n0_ := xm (xr BK295.out)
    have n1_ := xm (xd HB.out)
    revert n0_ n1_; clear BK295 HB; intro BK295 HB
    refine start_ (n := 7) (S := fun w' => w'.cell? ⟨gb295, 0, none⟩ = some (.slice A2_0 l2_0.length c2_0) ∧ w'.cell? ⟨gb295, 1, none⟩ = some (.slice A2_1 l2_1.length c2_1)) (ds := []) #[false, false, false, false, false, false, false] (by kernel_rfl) rfl rfl ⟨(xc BK295.out 0).trans rfl, (xc BK295.out 1).trans rfl⟩ (fun hHeld => ?_)
    generalize wc.drew = w17 at BK295 HB hHeld ⊢
    refine px 0 7 1 (by kernel_rfl) ?_
    refine tx 2 7 5 rfl rfl (by kernel_rfl) hHeld (by rintro w' ⟨s0, s1⟩; go_simp; with_reducible rfl) ?_
    refine one_ (i := 1) (N := some 19) #[true, true, true, false, false, false, false] rfl rfl (by kernel_rfl) (by decide) (fun K hK => ?_)
    refine goes_ Try.func25 (by kernel_rfl) rfl #[.slice A0 l0.length c0] (by rfl) rfl rfl mB ?_
    with_reducible refine (impl_rulesOf.calls kj3 _ _ l0 t298 _ ?side1 ?side2 A14.out).mono ?_
    (case side1 => exact cB (Kd.C_below HR0.out HB.out))
    (case side2 => exact HC0.out)
    rintro e w18 ⟨v299, rfl, ho0, hb⟩
    refine ⟨_, rfl, ?_⟩
    have n0_ := xm (Kd.R_lower ho0 (xz bG))
    have n1_ := xm (blk_below (kB BK295) hb)
    have n2_ := xm (below_step bG hb)
    revert n0_ n1_ n2_; clear BK295 HB; intro HO300 BK295 HB
    (try clear hb)
    (try clear hb2)
    (try clear hk)
    (try clear hi)
    (try clear ho0)
    refine hK.out _ _ ⟨(xc BK295.out 0).trans rfl, (xc BK295.out 1).trans rfl⟩ (fun hHeld => nC ?_)
    clear hK K
    refine one_ (i := 3) (N := some 21) #[true, true, true, true, false, false, false] rfl rfl (by kernel_rfl) (by decide) (fun K hK => ?_)
    refine goes_ Try.func43 (by kernel_rfl) rfl #[.agg #[.slice A2_0 l2_0.length c2_0, .slice A2_1 l2_1.length c2_1]] (by rfl) rfl rfl mB ?_
    with_reducible refine (impl_ruleOf.calls kj3 _ _ l2_0 _ _ l2_1 t301 t302 _ ?side1 ?side2 ?side3 ?side4 A15.out).mono ?_
    (case side1 => exact cB (Kd.C_below HR2_0.out HB.out))
    (case side2 => exact HC2_0.out)
    (case side3 => exact cB (Kd.C_below HR2_1.out HB.out))
    (case side4 => exact HC2_1.out)
    rintro e w19 ⟨rfl, hb⟩
    refine ⟨_, rfl, ?_⟩
    have n0_ := xm (Kd.R_below (rB HO300) hb)
    have n1_ := xm (blk_below (kB BK295) hb)
    have n2_ := xm (below_step bG hb)
    revert n0_ n1_ n2_; clear HO300 BK295 HB; intro HO300 BK295 HB
    (try clear hb)
    (try clear hb2)
    (try clear hk)
    (try clear hi)
    obtain ⟨Ao20, co20, eo20⟩ := Kd.R_slice HO300.out
    (first | subst eo20 | (injection eo20 with f1_ f2_ f3_; have f4_ := f1_.symm; have f5_ := f3_.symm; clear f1_ f2_ f3_; subst f4_; subst f5_))
    refine hK.out _ _ ⟨(xc BK295.out 0).trans rfl, (xc BK295.out 1).trans rfl⟩ (fun hHeld => nC ?_)
    clear hK K
    refine one_ (i := 4) (N := some 22) #[true, true, true, true, true, false, false] rfl rfl (by kernel_rfl) (by decide) (fun K hK => ?_)
    refine goes_ Try.func42 (by kernel_rfl) rfl #[.slice Ao20 t298.length co20, .agg #[.int .i64 t301, .int .i64 t302]] (by rfl) rfl rfl mB ?_
    with_reducible refine (impl_implies.calls kj3 _ _ t298 t301 t302 t303 _ ?side1 ?side2 A16.out).mono ?_
    (case side1 => repeat (first | exact (Kd.R_reads' HO300.out).2.2 | (with_reducible refine Kd.C_alloc ?_ _) | (with_reducible refine Kd.C_drewN ?_ _) | (with_reducible refine Kd.C_drew ?_)))
    (case side2 => exact (Kd.R_reads' HO300.out).2.1)
    rintro e w21 ⟨rfl, hb⟩
    refine ⟨_, rfl, ?_⟩
    have n0_ := xm (Kd.R_below (rB HO300) hb)
    have n1_ := xm (blk_below (kB BK295) hb)
    have n2_ := xm (below_step bG hb)
    revert n0_ n1_ n2_; clear HO300 BK295 HB; intro HO300 BK295 HB
    (try clear hb)
    (try clear hb2)
    (try clear hk)
    (try clear hi)
    refine hK.out _ _ ⟨(xc BK295.out 0).trans rfl, (xc BK295.out 1).trans rfl⟩ (fun hHeld => nC ?_)
    clear hK K
    refine px 5 7 63 (by kernel_rfl) ?_
    refine px 6 7 127 (by kernel_rfl) ?_
    refine done_ (by kernel_rfl) ?_
    try go_wp2
    go_ret2
    exact ⟨eB, bG⟩

end Go.Proofs.Ytaddemalepndfah.G
