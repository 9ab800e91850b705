/- Written by a program of this claim's own, out of the translation: functions of the program as plain functions, and that the calls answer as these. No conditions. -/
import Derived.Test.YtaddemalepndfaeG0
import Derived.Test.YtaddemalepndfaeG7
import Derived.Test.YtaddemalepndfaeG9
import Derived.Test.YtaddemalepndfaeG10
import Derived.Test.YtaddemalepndfaeG11
namespace Go.Proofs.Ytaddemalepndfae.G
open Go.RowKit Go.Proofs.Ytaddemalepndfae.X Go.Proofs.YtaddemalepndfaeW.PrintWords Go.Proofs.YtaddemalepndfaeW.PrintLast Go.Proofs.YtaddemalepndfaeW.PrintMore
attribute [local go_sem] max2_int min2_int max_two min_two max_three min_three max_four min_four   -- for this text's walks alone
set_option linter.unusedVariables false
set_option linter.unusedSimpArgs false

/-! ### impl_CheckView: function 7 -/
mutual
def impl_CheckView.j0 : Nat → Bool → List Int → List (S47) → Option (List Int × Bool)
 | 0, _, _, _ => none
 | k + 1, x26, x264000, x264001 => if x26 = true then (some (([] : List Int), false)) else (impl_CheckView.l0 k ([] : List Int) x264001 (x264001.length : Int) 0 x264000 x264001)
def impl_CheckView.l0 : Nat → List Int → List (S47) → Int → Int → List Int → List (S47) → Option (List Int × Bool)
 | 0, _, _, _, _, _, _ => none
 | k + 1, x4, x28, x29, x30, x264000, x264001 => if x30 < x29 then (if 0 ≤ x30 then (if x30 < (x28.length : Int) then ((impl_View_columnsOf.f k x264000 x264001 ((rd_T47 x28 x30).f0) ((rd_T47 x28 x30).f1) ((rd_T47 x28 x30).f2) ((rd_T47 x28 x30).f3) ((rd_T47 x28 x30).f4) ((rd_T47 x28 x30).f5) x4).bind fun bt269 => (if bt269.2 = true then ((impl_Part_uses.f ((rd_T47 x28 x30).f0) ((rd_T47 x28 x30).f1) ((rd_T47 x28 x30).f2) ((rd_T47 x28 x30).f3) ((rd_T47 x28 x30).f4) ((rd_T47 x28 x30).f5)).bind fun t271 => (if t271 = true then (if x4.length < 17592186044416 then (impl_CheckView.l0 k (x4 ++ [bt269.1]) x28 x29 (wrap64 (x30 + 1)) x264000 x264001) else (none)) else (some (([] : List Int), false)))) else (some (([] : List Int), false)))) else (none)) else (none)) else (some (x4, true))
end
def impl_CheckView.f (k : Nat) (l0_0 : List Int) (l0_1 : List (S47)) : Option (List Int × Bool) := (impl_within.f (l0_0.length : Int) 1 4).bind fun t264 => (if t264 = true then ((impl_areAll_int__impl_isColumns.f l0_0).bind fun t265 => (if t265 = true then ((impl_within.f (l0_1.length : Int) 1 12).bind fun t266 => (impl_CheckView.j0 k (!t266) l0_0 l0_1)) else (impl_CheckView.j0 k true l0_0 l0_1))) else (impl_CheckView.j0 k true l0_0 l0_1))
theorem impl_CheckView.mono_l : ∀ k, (∀ y0 y1 y2, LeO (impl_CheckView.j0 k y0 y1 y2) (impl_CheckView.j0 (k + 1) y0 y1 y2)) ∧ (∀ y0 y1 y2 y3 y4 y5, LeO (impl_CheckView.l0 k y0 y1 y2 y3 y4 y5) (impl_CheckView.l0 (k + 1) y0 y1 y2 y3 y4 y5))
 | 0 => ⟨fun _ _ _ r h => by simp [impl_CheckView.j0] at h, fun _ _ _ _ _ _ r h => by simp [impl_CheckView.l0] at h⟩
 | k + 1 => by
  obtain ⟨ih0, ih1⟩ := impl_CheckView.mono_l k
  refine ⟨?_, ?_⟩
  ·intro y0 y1 y2
   unfold impl_CheckView.j0
   repeat' first
   | (with_reducible exact ih0 _ _ _)
   | (with_reducible exact ih1 _ _ _ _ _ _)
   | (with_reducible exact impl_View_columnsOf.mono _ _ _ _ _ _ _ _ _ _)
   | (with_reducible exact LeO.refl _)
   | (with_reducible exact LeO.none _)
   | (with_reducible refine LeO.ite ?_ ?_)
   | (with_reducible refine LeO.bind ?_ (fun _ => ?_))
   | exact ih0 _ _ _
   | exact ih1 _ _ _ _ _ _
   | exact impl_View_columnsOf.mono _ _ _ _ _ _ _ _ _ _
   | exact LeO.none _
   | refine LeO.ite ?_ ?_
   | refine LeO.bind ?_ (fun _ => ?_)
  ·intro y0 y1 y2 y3 y4 y5
   unfold impl_CheckView.l0
   repeat' first
   | (with_reducible exact ih0 _ _ _)
   | (with_reducible exact ih1 _ _ _ _ _ _)
   | (with_reducible exact impl_View_columnsOf.mono _ _ _ _ _ _ _ _ _ _)
   | (with_reducible exact LeO.refl _)
   | (with_reducible exact LeO.none _)
   | (with_reducible refine LeO.ite ?_ ?_)
   | (with_reducible refine LeO.bind ?_ (fun _ => ?_))
   | exact ih0 _ _ _
   | exact ih1 _ _ _ _ _ _
   | exact impl_View_columnsOf.mono _ _ _ _ _ _ _ _ _ _
   | exact LeO.none _
   | refine LeO.ite ?_ ?_
   | refine LeO.bind ?_ (fun _ => ?_)
theorem impl_CheckView.mono : ∀ a0 a1 k, LeO (impl_CheckView.f k a0 a1) (impl_CheckView.f (k + 1) a0 a1) := by
 intro a0 a1 k
 obtain ⟨ih0, ih1⟩ := impl_CheckView.mono_l k
 unfold impl_CheckView.f
 repeat' first
   | (with_reducible exact ih0 _ _ _)
   | (with_reducible exact ih1 _ _ _ _ _ _)
   | (with_reducible exact impl_View_columnsOf.mono _ _ _ _ _ _ _ _ _ _)
   | (with_reducible exact LeO.refl _)
   | (with_reducible exact LeO.none _)
   | (with_reducible refine LeO.ite ?_ ?_)
   | (with_reducible refine LeO.bind ?_ (fun _ => ?_))
   | exact ih0 _ _ _
   | exact ih1 _ _ _ _ _ _
   | exact impl_View_columnsOf.mono _ _ _ _ _ _ _ _ _ _
   | exact LeO.none _
   | refine LeO.ite ?_ ?_
   | refine LeO.bind ?_ (fun _ => ?_)
set_option maxHeartbeats 8000000 in
set_option maxRecDepth 100000 in
theorem impl_CheckView.calls (k : Nat) (A0_0 : Option Addr) (c0_0 : Nat) (l0_0 : List Int) (A0_1 : Option Addr) (c0_1 : Nat) (l0_1 : List (S47)) (r1 : List Int) (r2 : Bool) (w : World) (hr0_0 : Kd.C (Kd.int .i64) w A0_0 l0_0.length l0_0) (hc0_0 : l0_0.length ≤ c0_0) (hr0_1 : Kd.C k47 w A0_1 l0_1.length l0_1) (hc0_1 : l0_1.length ≤ c0_1) (h : impl_CheckView.f k l0_0 l0_1 = some (r1, r2)) :
  Calls Try.prog 7 #[.agg #[.slice A0_0 l0_0.length c0_0, .slice A0_1 l0_1.length c0_1]] w fun e w' => ∃ v0_ : Value, e = .returned (.tuple #[v0_, .bool r2]) ∧ Kd.R (Kd.int .i64) 3 w' w.heap.size (fun _ => True) v0_ r1 ∧ Below w.heap.size w w' := by
 have hu31 := Try.underlying31
 have hu47 := Try.underlying47
 have HR0_0 := xm hr0_0
 have HC0_0 := xm hc0_0
 clear hr0_0 hc0_0
 have HR0_1 := xm hr0_1
 have HC0_1 := xm hc0_1
 clear hr0_1 hc0_1
 have HB := xm (Below.refl w.heap.size w)
 have H : ((impl_within.f (l0_0.length : Int) 1 4).bind fun t264 => (if t264 = true then ((impl_areAll_int__impl_isColumns.f l0_0).bind fun t265 => (if t265 = true then ((impl_within.f (l0_1.length : Int) 1 12).bind fun t266 => (impl_CheckView.j0 k (!t266) l0_0 l0_1)) else (impl_CheckView.j0 k true l0_0 l0_1))) else (impl_CheckView.j0 k true l0_0 l0_1))) = some (r1, r2) := h
 clear h
 have HC2 := xm H
 clear H
 go_enter Try.func7, Try.ntmps7
 go_upto_region 1 with (first | ((with_reducible refine gate_dst (N := 1) rfl ?_); (try (refine gate_guard (by rfl) ?_; dsimp only)); refine box_event ?hg (N := 1) ?hd (cs := #[.slice A0_0 l0_0.length c0_0, .slice A0_1 l0_1.length c0_1]) (t := 31) ?hr ?_; (case hd => rfl); (case hg => rfl); (case hr => exact zB); intro gb263 hg w3 hbox hb; have n0_ := xm (below_step bB hb); have n1_ := xm (hbox); have n2_ := xm ((by rw [hg]; exact (xz bB) : w.heap.size ≤ gb263)); have n3_ := xm ((by rw [hg]; exact (xz bB) : w.heap.size ≤ gb263)); revert n0_ n1_ n2_ n3_; clear HB; intro HB BK263 GW263 GE263; clear hb hbox hg))
 (try simp only [Act.put, xi, xj, xk])
 go_cut [26] (fun v26 wc => ∃ (kq : Nat) (x26_1 : Bool), v26 = .bool x26_1 ∧ Aside0 (impl_CheckView.j0 kq x26_1 l0_0 l0_1 = some (r1, r2)) ∧ Aside0 (kq ≤ k) ∧ Aside0 (wc.heap[gb263]? = some (.cells #[(.slice A0_0 l0_0.length c0_0), (.slice A0_1 l0_1.length c0_1)] 31 (0, 0))) ∧ Aside0 (Below w.heap.size w wc))
 case first =>
  have H := HC2.out
  clear HC2
  replace H := Option.bind_eq_some_iff.mp H
  obtain ⟨t264, A40, H⟩ := H
  replace H : (if t264 = true then ((impl_areAll_int__impl_isColumns.f l0_0).bind fun t265 => (if t265 = true then ((impl_within.f (l0_1.length : Int) 1 12).bind fun t266 => (impl_CheckView.j0 k (!t266) l0_0 l0_1)) else (impl_CheckView.j0 k true l0_0 l0_1))) else (impl_CheckView.j0 k true l0_0 l0_1)) = some (r1, r2) := H
  have A4 := xm A40
  clear A40
  by_cases c5 : t264 = true
  ·subst c5
   have H1 : ((impl_areAll_int__impl_isColumns.f l0_0).bind fun t265 => (if t265 = true then ((impl_within.f (l0_1.length : Int) 1 12).bind fun t266 => (impl_CheckView.j0 k (!t266) l0_0 l0_1)) else (impl_CheckView.j0 k true l0_0 l0_1))) = some (r1, r2) := by first | (with_reducible rfl) | (rw [if_pos rfl] at H; exact H)
   clear H
   have H := H1
   clear H1
   replace H := Option.bind_eq_some_iff.mp H
   obtain ⟨t265, A60, H⟩ := H
   replace H : (if t265 = true then ((impl_within.f (l0_1.length : Int) 1 12).bind fun t266 => (impl_CheckView.j0 k (!t266) l0_0 l0_1)) else (impl_CheckView.j0 k true l0_0 l0_1)) = some (r1, r2) := H
   have A6 := xm A60
   clear A60
   by_cases c7 : t265 = true
   ·subst c7
    have H1 : ((impl_within.f (l0_1.length : Int) 1 12).bind fun t266 => (impl_CheckView.j0 k (!t266) l0_0 l0_1)) = some (r1, r2) := by first | (with_reducible rfl) | (rw [if_pos rfl] at H; exact H)
    clear H
    have H := H1
    clear H1
    replace H := Option.bind_eq_some_iff.mp H
    obtain ⟨t266, A80, H⟩ := H
    replace H : (impl_CheckView.j0 k (!t266) l0_0 l0_1) = some (r1, r2) := H
    have A8 := xm A80
    clear A80
    have H' := xm H
    clear H
    obtain ⟨hcz9_0, hcz9_1, hfz9_0, hfz9_1⟩ := cz2 BK263.out
    go_wp2_with (first | ((with_reducible refine gate_callee (f := 18) rfl ?_); refine goesL_ (some 12) rfl rfl Try.func18 (by kernel_rfl) rfl #[.int .i64 (l0_0.length : Int), .int .i64 1, .int .i64 4] rfl mB ?_; (with_reducible refine (impl_within.calls (l0_0.length : Int) 1 4 true _ A4.out).mono ?_); rintro e w' ⟨rfl, ⟨nd, rfl⟩⟩; refine ⟨_, rfl, ?_⟩) | (go_at_call 19; (with_reducible refine (impl_areAll_int__impl_isColumns.calls _ _ l0_0 true _ ?side1 ?side2 A6.out).mono ?_); (case side1 => repeat (first | exact (Kd.C_below HR0_0.out bG) | (with_reducible refine Kd.C_alloc ?_ _) | (with_reducible refine Kd.C_drewN ?_ _) | (with_reducible refine Kd.C_drew ?_))); (case side2 => exact HC0_0.out); rintro e w10 ⟨rfl, hb⟩; have n0_ := xm (blk_below (kB BK263) hb); have n1_ := xm (below_step bG hb); revert n0_ n1_; clear BK263 HB; intro BK263 HB; (try clear hb); obtain ⟨hcz11_0, hcz11_1, hfz11_0, hfz11_1⟩ := cz2 BK263.out) | (go_at_call 18; (with_reducible refine (impl_within.calls (l0_1.length : Int) 1 12 t266 _ A8.out).mono ?_); rintro e w' ⟨rfl, ⟨nd, rfl⟩⟩))
    go_meet
    case rel => exact ⟨_, (!t266), sB, H', ⟨by first | omega | exact Nat.le_refl _⟩, ⟨kB BK263⟩, ⟨bG⟩⟩
   ·replace c7 := Bool.eq_false_iff.mpr c7
    subst c7
    have H1 : (impl_CheckView.j0 k true l0_0 l0_1) = some (r1, r2) := by first | (with_reducible rfl) | (rw [if_neg (show ¬ (false = true) by decide)] at H; exact H)
    clear H
    have H := H1
    clear H1
    have H' := xm H
    clear H
    obtain ⟨hcz12_0, hcz12_1, hfz12_0, hfz12_1⟩ := cz2 BK263.out
    go_wp2_with (first | ((with_reducible refine gate_callee (f := 18) rfl ?_); refine goesL_ (some 12) rfl rfl Try.func18 (by kernel_rfl) rfl #[.int .i64 (l0_0.length : Int), .int .i64 1, .int .i64 4] rfl mB ?_; (with_reducible refine (impl_within.calls (l0_0.length : Int) 1 4 true _ A4.out).mono ?_); rintro e w' ⟨rfl, ⟨nd, rfl⟩⟩; refine ⟨_, rfl, ?_⟩) | (go_at_call 19; (with_reducible refine (impl_areAll_int__impl_isColumns.calls _ _ l0_0 false _ ?side1 ?side2 A6.out).mono ?_); (case side1 => repeat (first | exact (Kd.C_below HR0_0.out bG) | (with_reducible refine Kd.C_alloc ?_ _) | (with_reducible refine Kd.C_drewN ?_ _) | (with_reducible refine Kd.C_drew ?_))); (case side2 => exact HC0_0.out); rintro e w13 ⟨rfl, hb⟩; have n0_ := xm (blk_below (kB BK263) hb); have n1_ := xm (below_step bG hb); revert n0_ n1_; clear BK263 HB; intro BK263 HB; (try clear hb)))
    go_meet
    case rel => exact ⟨_, (true), sB, H', ⟨by first | omega | exact Nat.le_refl _⟩, ⟨kB BK263⟩, ⟨bG⟩⟩
  ·replace c5 := Bool.eq_false_iff.mpr c5
   subst c5
   have H1 : (impl_CheckView.j0 k true l0_0 l0_1) = some (r1, r2) := by first | (with_reducible rfl) | (rw [if_neg (show ¬ (false = true) by decide)] at H; exact H)
   clear H
   have H := H1
   clear H1
   have H' := xm H
   clear H
   obtain ⟨hcz14_0, hcz14_1, hfz14_0, hfz14_1⟩ := cz2 BK263.out
   go_wp2_with (first | ((with_reducible refine gate_callee (f := 18) rfl ?_); refine goesL_ (some 12) rfl rfl Try.func18 (by kernel_rfl) rfl #[.int .i64 (l0_0.length : Int), .int .i64 1, .int .i64 4] rfl mB ?_; (with_reducible refine (impl_within.calls (l0_0.length : Int) 1 4 false _ A4.out).mono ?_); rintro e w' ⟨rfl, ⟨nd, rfl⟩⟩; refine ⟨_, rfl, ?_⟩))
   go_meet
   case rel => exact ⟨_, (true), sB, H', ⟨by first | omega | exact Nat.le_refl _⟩, ⟨kB BK263⟩, ⟨bG⟩⟩
 case rest =>
  clear HC2
  try clear c1
  try clear p2
  try clear c5
  try clear c7
  try clear hcz11_0 hcz11_1
  try clear hcz12_0 hcz12_1
  try clear hcz14_0 hcz14_1
  try clear hcz9_0 hcz9_1
  try clear hfz11_0 hfz11_1
  try clear hfz12_0 hfz12_1
  try clear hfz14_0 hfz14_1
  try clear hfz9_0 hfz9_1
  obtain ⟨kq, x26_1, rfl, HA, HJ1, BK263, HB⟩ := hcut
  cases kq with
  | zero => exact absurd HA.out (by simp [impl_CheckView.j0])
  | succ kj1 =>
   have H := HA.out
   clear HA
   simp only [impl_CheckView.j0] at H
   by_cases c15 : x26_1 = true
   ·subst c15
    have H1 : (some (([] : List Int), false)) = some (r1, r2) := by first | (with_reducible rfl) | (rw [if_pos rfl] at H; exact H)
    clear H
    have H := H1
    clear H1
    simp only [Option.some.injEq, Prod.mk.injEq] at H
    obtain ⟨rfl, rfl⟩ := H
    go_wp2
    go_ret2
    exact ⟨_, eB, by first | exact Kd.R_nil _ _ _ _ _ | exact Kd.N_nil _ _ _ _ _ | exact Kd.V_nil _ _ _ _ _ | exact Kd.Q_nil _ _ _ _ _ | exact Kd.S_nil _ _ _ _ _, bG⟩
   ·replace c15 := Bool.eq_false_iff.mpr c15
    subst c15
    have H1 : (impl_CheckView.l0 kj1 ([] : List Int) l0_1 (l0_1.length : Int) 0 l0_0 l0_1) = some (r1, r2) := by first | (with_reducible rfl) | (rw [if_neg (show ¬ (false = true) by decide)] at H; exact H)
    clear H
    have H := H1
    clear H1
    have H' := xm H
    clear H
    obtain ⟨hcz16_0, hcz16_1, hfz16_0, hfz16_1⟩ := cz2 BK263.out
    go_wp2
    go_loopg [4, 30] kj1 (fun kq v4 v30 w' => ∃ (x4_2 : List Int) (x30_2 : Int), v30 = .int .i64 x30_2 ∧ Aside0 (impl_CheckView.l0 kq x4_2 l0_1 (l0_1.length : Int) x30_2 l0_0 l0_1 = some (r1, r2)) ∧ Aside0 (kq ≤ kj1) ∧ Aside0 (Kd.R (Kd.int .i64) 3 w' w.heap.size (fun _ => True) v4 x4_2) ∧ Aside0 (w'.heap[gb263]? = some (.cells #[(.slice A0_0 l0_0.length c0_0), (.slice A0_1 l0_1.length c0_1)] 31 (0, 0))) ∧ Aside0 (Below w.heap.size w w'))
    case atStart => exact ⟨(([] : List Int)), (0), sB, H', ⟨Nat.le_refl _⟩, ⟨by first | exact Kd.R_nil _ _ _ _ _ | exact Kd.N_nil _ _ _ _ _ | exact Kd.V_nil _ _ _ _ _ | exact Kd.Q_nil _ _ _ _ _ | exact Kd.S_nil _ _ _ _ _⟩, ⟨kB BK263⟩, ⟨bG⟩⟩
    case round =>
     clear H'
     try clear c1
     try clear p2
     try clear c5
     try clear c7
     try clear c15
     try clear hcz11_0 hcz11_1
     try clear hcz12_0 hcz12_1
     try clear hcz14_0 hcz14_1
     try clear hcz16_0 hcz16_1
     try clear hcz9_0 hcz9_1
     try clear hfz11_0 hfz11_1
     try clear hfz12_0 hfz12_1
     try clear hfz14_0 hfz14_1
     try clear hfz16_0 hfz16_1
     try clear hfz9_0 hfz9_1
     try clear p2
     obtain ⟨x4_2, x30_2, rfl, HA, HK2, HO_4, BK263, HB⟩ := hrel
     cases gk with
     | zero => exact absurd HA.out (by simp [impl_CheckView.l0])
     | succ k2 =>
      have H := HA.out
      clear HA
      simp only [impl_CheckView.l0] at H
      by_cases c17 : x30_2 < (l0_1.length : Int)
      ·rw [if_pos c17] at H
       have c17b0 : decide (x30_2 < (l0_1.length : Int)) = true := decide_eq_true c17
       clear c17
       by_cases c18 : 0 ≤ x30_2
       ·rw [if_pos c18] at H
        have c18b0 : decide (0 ≤ x30_2) = true := decide_eq_true c18
        clear c18
        by_cases c19 : x30_2 < (l0_1.length : Int)
        ·rw [if_pos c19] at H
         have c19b0 : decide (x30_2 < (l0_1.length : Int)) = true := decide_eq_true c19
         clear c19
         replace H := Option.bind_eq_some_iff.mp H
         obtain ⟨⟨t269, t270⟩, A200, H⟩ := H
         replace H : (if t270 = true then ((impl_Part_uses.f ((rd_T47 l0_1 x30_2).f0) ((rd_T47 l0_1 x30_2).f1) ((rd_T47 l0_1 x30_2).f2) ((rd_T47 l0_1 x30_2).f3) ((rd_T47 l0_1 x30_2).f4) ((rd_T47 l0_1 x30_2).f5)).bind fun t271 => (if t271 = true then (if x4_2.length < 17592186044416 then (impl_CheckView.l0 k2 (x4_2 ++ [t269]) l0_1 (l0_1.length : Int) (wrap64 (x30_2 + 1)) l0_0 l0_1) else (none)) else (some (([] : List Int), false)))) else (some (([] : List Int), false))) = some (r1, r2) := H
         have A20 := xm A200
         clear A200
         by_cases c21 : t270 = true
         ·subst c21
          have H1 : ((impl_Part_uses.f ((rd_T47 l0_1 x30_2).f0) ((rd_T47 l0_1 x30_2).f1) ((rd_T47 l0_1 x30_2).f2) ((rd_T47 l0_1 x30_2).f3) ((rd_T47 l0_1 x30_2).f4) ((rd_T47 l0_1 x30_2).f5)).bind fun t271 => (if t271 = true then (if x4_2.length < 17592186044416 then (impl_CheckView.l0 k2 (x4_2 ++ [t269]) l0_1 (l0_1.length : Int) (wrap64 (x30_2 + 1)) l0_0 l0_1) else (none)) else (some (([] : List Int), false)))) = some (r1, r2) := by first | (with_reducible rfl) | (rw [if_pos rfl] at H; exact H)
          clear H
          have H := H1
          clear H1
          replace H := Option.bind_eq_some_iff.mp H
          obtain ⟨t271, A220, H⟩ := H
          replace H : (if t271 = true then (if x4_2.length < 17592186044416 then (impl_CheckView.l0 k2 (x4_2 ++ [t269]) l0_1 (l0_1.length : Int) (wrap64 (x30_2 + 1)) l0_0 l0_1) else (none)) else (some (([] : List Int), false))) = some (r1, r2) := H
          have A22 := xm A220
          clear A220
          by_cases c23 : t271 = true
          ·subst c23
           have H1 : (if x4_2.length < 17592186044416 then (impl_CheckView.l0 k2 (x4_2 ++ [t269]) l0_1 (l0_1.length : Int) (wrap64 (x30_2 + 1)) l0_0 l0_1) else (none)) = some (r1, r2) := by first | (with_reducible rfl) | (rw [if_pos rfl] at H; exact H)
           clear H
           have H := H1
           clear H1
           by_cases c24 : x4_2.length < 17592186044416
           ·rw [if_pos c24] at H
            have LMc24 := xm c24
            clear c24
            obtain ⟨y272, hy272⟩ : ∃ y_ : List Int, y_ = (x4_2 ++ [t269]) := ⟨_, rfl⟩
            replace H : (impl_CheckView.l0 k2 y272 l0_1 (l0_1.length : Int) (wrap64 (x30_2 + 1)) l0_0 l0_1) = some (r1, r2) := by first | (rw [hy272]; with_reducible exact H) | (have H2_ := (Option.bind_some _ _).symm.trans H; rw [hy272]; with_reducible exact H2_) | (have H2_ := (Option.bind_some _ _).symm.trans H; with_reducible exact H2_) | with_reducible exact H | (rw [hy272]; exact H) | exact H
            have Ny272 := xm hy272
            clear hy272
            have H' := xm H
            clear H
            have p267 : 0 ≤ (x30_2 : Int) := of_decide_eq_true aB
            have q267 : x30_2 < (l0_1.length : Int) := of_decide_eq_true aB
            obtain ⟨ad267, A267_3, c267_3, A267_4, c267_4, A267_5, c267_5, e267, hx267_0, hx267_1, hx267_2, hx267_3, hx267_4, hx267_5, hl267_3, hi267_3, hl267_4, hi267_4, hl267_5, hi267_5⟩ := at_T47 HR0_1.out x30_2 p267 q267
            cases e267
            replace hx267_0 := hU hx267_0
            replace hx267_1 := hU hx267_1
            replace hx267_2 := hU hx267_2
            replace hx267_3 := hU hx267_3
            replace hx267_4 := hU hx267_4
            replace hx267_5 := hU hx267_5
            have HR267_3 := xm hi267_3
            have HC267_3 := xm hl267_3
            clear hi267_3 hl267_3
            have HR267_4 := xm hi267_4
            have HC267_4 := xm hl267_4
            clear hi267_4 hl267_4
            have HR267_5 := xm hi267_5
            have HC267_5 := xm hl267_5
            clear hi267_5 hl267_5
            replace p267 := eq_true p267
            replace q267 := eq_true q267
            go_wp2_with (first | ((with_reducible refine gate_dst (N := 6) rfl ?_); (try (refine gate_guard (by rfl) ?_; dsimp only)); refine box_event ?hg (N := 6) ?hd (cs := #[.int .i64 0, .int .i64 0, .int .i64 0, .slice none 0 0, .slice none 0 0, .slice none 0 0]) (t := 47) ?hr ?_; (case hd => rfl); (case hg => rfl); (case hr => exact zB); intro gb268 hg w25 hbox hb; have n0_ := xm (Kd.R_below (rB HO_4) hb); have n1_ := xm (blk_below (kB BK263) hb); have n2_ := xm (below_step bG hb); have n3_ := xm (hbox); have n4_ := xm ((by rw [hg]; exact (xz bG) : w.heap.size ≤ gb268)); have n5_ := xm ((by rw [hg]; exact (xz bG) : w.heap.size ≤ gb268)); have n6_ := xm ((by rw [hg]; exact Nat.ne_of_lt (blk_lt (kB BK263)) : gb263 ≠ gb268)); have n7_ := xm ((by rw [hg]; exact Nat.ne_of_gt (blk_lt (kB BK263)) : gb268 ≠ gb263)); revert n0_ n1_ n2_ n3_ n4_ n5_ n6_ n7_; clear HO_4 BK263 HB; intro HO_4 BK263 HB BK268 GW268 GE268 NB263_268 NB268_263; clear hb hbox hg; have hnb26 := NB268_263.out; have hnc26 := NB263_268.out; obtain ⟨hcz27_0, hcz27_1, hcz27_2, hcz27_3, hcz27_4, hcz27_5, hfz27_0, hfz27_1, hfz27_2, hfz27_3, hfz27_4, hfz27_5⟩ := cz6 BK268.out; obtain ⟨hcz28_0, hcz28_1, hfz28_0, hfz28_1⟩ := cz2 BK263.out; obtain ⟨Ao29, co29, eo29⟩ := Kd.R_slice HO_4.out; subst eo29) | ((with_reducible refine gate_callee (f := 21) rfl ?_); refine goesL_ (some 38) rfl rfl Try.func21 (by kernel_rfl) rfl #[.agg #[.slice A0_0 l0_0.length c0_0, .slice (some ad267) l0_1.length c0_1], .agg #[.int .i64 ((rd_T47 l0_1 x30_2).f0), .int .i64 ((rd_T47 l0_1 x30_2).f1), .int .i64 ((rd_T47 l0_1 x30_2).f2), .slice A267_3 ((rd_T47 l0_1 x30_2).f3).length c267_3, .slice A267_4 ((rd_T47 l0_1 x30_2).f4).length c267_4, .slice A267_5 ((rd_T47 l0_1 x30_2).f5).length c267_5], .slice Ao29 x4_2.length co29] rfl mB ?_; (with_reducible refine (impl_View_columnsOf.calls k2 _ _ l0_0 _ _ l0_1 ((rd_T47 l0_1 x30_2).f0) ((rd_T47 l0_1 x30_2).f1) ((rd_T47 l0_1 x30_2).f2) _ _ ((rd_T47 l0_1 x30_2).f3) _ _ ((rd_T47 l0_1 x30_2).f4) _ _ ((rd_T47 l0_1 x30_2).f5) _ _ x4_2 t269 true _ ?side1 ?side2 ?side3 ?side4 ?side5 ?side6 ?side7 ?side8 ?side9 ?side10 ?side11 ?side12 A20.out).mono ?_); (case side1 => exact Kd.C_below HR0_0.out bG); (case side2 => exact HC0_0.out); (case side3 => exact Kd.C_below HR0_1.out bG); (case side4 => exact HC0_1.out); (case side5 => exact Kd.C_below HR267_3.out bG); (case side6 => exact HC267_3.out); (case side7 => exact Kd.C_below HR267_4.out bG); (case side8 => exact HC267_4.out); (case side9 => exact Kd.C_below HR267_5.out bG); (case side10 => exact HC267_5.out); (case side11 => refine (Kd.R_reads' (e := 3) (base := w.heap.size) (ok := fun k_ => True) (n := x4_2.length) (c := co29) ?_).2.2; exact (by (with_reducible repeat (first | apply Kd.R_alloc | apply Kd.R_drewN | apply Kd.R_drew)); exact (Kd.R_mono (Kd.R_far (p := ⟨gb268, 5, none⟩) (Kd.R_far (p := ⟨gb268, 4, none⟩) (Kd.R_far (p := ⟨gb268, 3, none⟩) (Kd.R_far (p := ⟨gb268, 2, none⟩) (Kd.R_far (p := ⟨gb268, 1, none⟩) (Kd.R_far (p := ⟨gb268, 0, none⟩) (Kd.R_types HO_4.out BK268.out (by decide)) (fun _ hk => hk.2) (.int .i64 ((rd_T47 l0_1 x30_2).f0))) (fun _ hk => hk.2) (.int .i64 ((rd_T47 l0_1 x30_2).f1))) (fun _ hk => hk.2) (.int .i64 ((rd_T47 l0_1 x30_2).f2))) (fun _ hk => hk.2) (.slice A267_3 ((rd_T47 l0_1 x30_2).f3).length c267_3)) (fun _ hk => hk.2) (.slice A267_4 ((rd_T47 l0_1 x30_2).f4).length c267_4)) (fun _ hk => hk.2) (.slice A267_5 ((rd_T47 l0_1 x30_2).f5).length c267_5)) (fun _ h_ => h_.1)))); (case side12 => exact (Kd.R_reads' HO_4.out).2.1); rintro e w30 ⟨rfl, hb⟩; refine ⟨_, rfl, ?_⟩; have n0_ := xm (Kd.R_below (by (with_reducible repeat (first | apply Kd.R_alloc | apply Kd.R_drewN | apply Kd.R_drew)); exact (Kd.R_mono (Kd.R_far (p := ⟨gb268, 5, none⟩) (Kd.R_far (p := ⟨gb268, 4, none⟩) (Kd.R_far (p := ⟨gb268, 3, none⟩) (Kd.R_far (p := ⟨gb268, 2, none⟩) (Kd.R_far (p := ⟨gb268, 1, none⟩) (Kd.R_far (p := ⟨gb268, 0, none⟩) (Kd.R_types HO_4.out BK268.out (by decide)) (fun _ hk => hk.2) (.int .i64 ((rd_T47 l0_1 x30_2).f0))) (fun _ hk => hk.2) (.int .i64 ((rd_T47 l0_1 x30_2).f1))) (fun _ hk => hk.2) (.int .i64 ((rd_T47 l0_1 x30_2).f2))) (fun _ hk => hk.2) (.slice A267_3 ((rd_T47 l0_1 x30_2).f3).length c267_3)) (fun _ hk => hk.2) (.slice A267_4 ((rd_T47 l0_1 x30_2).f4).length c267_4)) (fun _ hk => hk.2) (.slice A267_5 ((rd_T47 l0_1 x30_2).f5).length c267_5)) (fun _ h_ => h_.1))) hb); have n1_ := xm (blk_below (g := gb263) (o := .cells #[.slice A0_0 l0_0.length c0_0, .slice (some ad267) l0_1.length c0_1] 31 (0, 0)) (by (with_reducible repeat (first | refine xq ?_ _ | refine xr ?_ | refine xo ?_ _)); refine blk_far ?_ NB263_268.out _; (with_reducible repeat (first | refine xq ?_ _ | refine xr ?_ | refine xo ?_ _)); refine blk_far ?_ NB263_268.out _; (with_reducible repeat (first | refine xq ?_ _ | refine xr ?_ | refine xo ?_ _)); refine blk_far ?_ NB263_268.out _; (with_reducible repeat (first | refine xq ?_ _ | refine xr ?_ | refine xo ?_ _)); refine blk_far ?_ NB263_268.out _; (with_reducible repeat (first | refine xq ?_ _ | refine xr ?_ | refine xo ?_ _)); refine blk_far ?_ NB263_268.out _; (with_reducible repeat (first | refine xq ?_ _ | refine xr ?_ | refine xo ?_ _)); refine blk_far ?_ NB263_268.out _; (with_reducible repeat (first | refine xq ?_ _ | refine xr ?_ | refine xo ?_ _)); exact BK263.out) hb); have n2_ := xm (blk_below (g := gb268) (o := .cells #[.int .i64 ((rd_T47 l0_1 x30_2).f0), .int .i64 ((rd_T47 l0_1 x30_2).f1), .int .i64 ((rd_T47 l0_1 x30_2).f2), .slice A267_3 ((rd_T47 l0_1 x30_2).f3).length c267_3, .slice A267_4 ((rd_T47 l0_1 x30_2).f4).length c267_4, .slice A267_5 ((rd_T47 l0_1 x30_2).f5).length c267_5] 47 (0, 0)) (by (with_reducible repeat (first | refine xq ?_ _ | refine xr ?_ | refine xo ?_ _)); refine blk_put (cs := #[.int .i64 ((rd_T47 l0_1 x30_2).f0), .int .i64 ((rd_T47 l0_1 x30_2).f1), .int .i64 ((rd_T47 l0_1 x30_2).f2), .slice A267_3 ((rd_T47 l0_1 x30_2).f3).length c267_3, .slice A267_4 ((rd_T47 l0_1 x30_2).f4).length c267_4, .slice none 0 0]) ?_ 5 _ rfl; (with_reducible repeat (first | refine xq ?_ _ | refine xr ?_ | refine xo ?_ _)); refine blk_put (cs := #[.int .i64 ((rd_T47 l0_1 x30_2).f0), .int .i64 ((rd_T47 l0_1 x30_2).f1), .int .i64 ((rd_T47 l0_1 x30_2).f2), .slice A267_3 ((rd_T47 l0_1 x30_2).f3).length c267_3, .slice none 0 0, .slice none 0 0]) ?_ 4 _ rfl; (with_reducible repeat (first | refine xq ?_ _ | refine xr ?_ | refine xo ?_ _)); refine blk_put (cs := #[.int .i64 ((rd_T47 l0_1 x30_2).f0), .int .i64 ((rd_T47 l0_1 x30_2).f1), .int .i64 ((rd_T47 l0_1 x30_2).f2), .slice none 0 0, .slice none 0 0, .slice none 0 0]) ?_ 3 _ rfl; (with_reducible repeat (first | refine xq ?_ _ | refine xr ?_ | refine xo ?_ _)); refine blk_put (cs := #[.int .i64 ((rd_T47 l0_1 x30_2).f0), .int .i64 ((rd_T47 l0_1 x30_2).f1), .int .i64 0, .slice none 0 0, .slice none 0 0, .slice none 0 0]) ?_ 2 _ rfl; (with_reducible repeat (first | refine xq ?_ _ | refine xr ?_ | refine xo ?_ _)); refine blk_put (cs := #[.int .i64 ((rd_T47 l0_1 x30_2).f0), .int .i64 0, .int .i64 0, .slice none 0 0, .slice none 0 0, .slice none 0 0]) ?_ 1 _ rfl; (with_reducible repeat (first | refine xq ?_ _ | refine xr ?_ | refine xo ?_ _)); refine blk_put (cs := #[.int .i64 0, .int .i64 0, .int .i64 0, .slice none 0 0, .slice none 0 0, .slice none 0 0]) ?_ 0 _ rfl; (with_reducible repeat (first | refine xq ?_ _ | refine xr ?_ | refine xo ?_ _)); exact BK268.out) hb); have n3_ := xm (below_step bG hb); revert n0_ n1_ n2_ n3_; clear HO_4 BK263 BK268 HB; intro HO_4 BK263 BK268 HB; (try clear hb); (try clear hk); obtain ⟨hcz31_0, hcz31_1, hcz31_2, hcz31_3, hcz31_4, hcz31_5, hfz31_0, hfz31_1, hfz31_2, hfz31_3, hfz31_4, hfz31_5⟩ := cz6 BK268.out) | (go_at_call 22; (with_reducible refine (impl_Part_uses.calls ((rd_T47 l0_1 x30_2).f0) ((rd_T47 l0_1 x30_2).f1) ((rd_T47 l0_1 x30_2).f2) _ _ ((rd_T47 l0_1 x30_2).f3) _ _ ((rd_T47 l0_1 x30_2).f4) _ _ ((rd_T47 l0_1 x30_2).f5) true _ ?side1 ?side2 ?side3 ?side4 ?side5 ?side6 A22.out).mono ?_); (case side1 => exact cB (Kd.C_below HR267_3.out HB.out)); (case side2 => exact HC267_3.out); (case side3 => exact cB (Kd.C_below HR267_4.out HB.out)); (case side4 => exact HC267_4.out); (case side5 => exact cB (Kd.C_below HR267_5.out HB.out)); (case side6 => exact HC267_5.out); rintro e w32 ⟨rfl, hb⟩; have n0_ := xm (Kd.R_below (rB HO_4) hb); have n1_ := xm (blk_below (kB BK263) hb); have n2_ := xm (blk_below (kB BK268) hb); have n3_ := xm (below_step bG hb); revert n0_ n1_ n2_ n3_; clear HO_4 BK263 BK268 HB; intro HO_4 BK263 BK268 HB; (try clear hb); (try clear hk)) | ((with_reducible refine gate_builtin (b := .append) (xs := #[.tmp 48, .tmp 50]) rfl ?_); (try (refine gate_guard (by rfl) ?_; dsimp only)); at_builtin; refine Kd.R_append (Kd.int .i64) (w0 := w) w.heap.size rfl (.tmp 48) (.tmp 50) 22 3 (.int .i64 0) 8 rfl Try.underlying22 info3 rfl (by decide) (by omega) (.slice Ao29 x4_2.length co29) x4_2 t269 [.int .i64 t269] (fun _ => True) (fun _ => False) rfl rfl ?aP (fun _ hk => hk.elim) ?aF ?aO ?aB ?aS ?aL ?_; (case aP => exact rfl); (case aB => exact bG); (case aF => exact (fun _ _ => trivial)); (case aO => exact (rB HO_4)); (case aS => exact (xz bG)); (case aL => have := LMc24.out; omega); intro v273 w33 ho hb hg hat; rw [← Ny272.out] at ho; have n0_ := xm (blk_grown (kB BK263) hg (Kd.R_ne HO_4.out BK263.out (by decide))); have n1_ := xm (blk_grown (kB BK268) hg (Kd.R_ne HO_4.out BK268.out (by decide))); have n2_ := xm (hb); have n3_ := xm (ho); revert n0_ n1_ n2_ n3_; clear BK263 BK268 HB HO_4; intro BK263 BK268 HB HO274; clear ho hb hg hat))
            go_roundg k2
            case measure => have := HJ1.out; have := HK2.out; omega
            case rel => exact ⟨(y272), (wrap64 (x30_2 + 1)), sB, H', ⟨by have := HJ1.out; have := HK2.out; omega⟩, ⟨rB HO274⟩, ⟨kB BK263⟩, ⟨bG⟩⟩
           ·rw [if_neg c24] at H
            exact absurd H (by simp)
          ·replace c23 := Bool.eq_false_iff.mpr c23
           subst c23
           have H1 : (some (([] : List Int), false)) = some (r1, r2) := by first | (with_reducible rfl) | (rw [if_neg (show ¬ (false = true) by decide)] at H; exact H)
           clear H
           have H := H1
           clear H1
           simp only [Option.some.injEq, Prod.mk.injEq] at H
           obtain ⟨rfl, rfl⟩ := H
           have p267 : 0 ≤ (x30_2 : Int) := of_decide_eq_true aB
           have q267 : x30_2 < (l0_1.length : Int) := of_decide_eq_true aB
           obtain ⟨ad267, A267_3, c267_3, A267_4, c267_4, A267_5, c267_5, e267, hx267_0, hx267_1, hx267_2, hx267_3, hx267_4, hx267_5, hl267_3, hi267_3, hl267_4, hi267_4, hl267_5, hi267_5⟩ := at_T47 HR0_1.out x30_2 p267 q267
           cases e267
           replace hx267_0 := hU hx267_0
           replace hx267_1 := hU hx267_1
           replace hx267_2 := hU hx267_2
           replace hx267_3 := hU hx267_3
           replace hx267_4 := hU hx267_4
           replace hx267_5 := hU hx267_5
           have HR267_3 := xm hi267_3
           have HC267_3 := xm hl267_3
           clear hi267_3 hl267_3
           have HR267_4 := xm hi267_4
           have HC267_4 := xm hl267_4
           clear hi267_4 hl267_4
           have HR267_5 := xm hi267_5
           have HC267_5 := xm hl267_5
           clear hi267_5 hl267_5
           replace p267 := eq_true p267
           replace q267 := eq_true q267
           go_wp2_with (first | ((with_reducible refine gate_dst (N := 6) rfl ?_); (try (refine gate_guard (by rfl) ?_; dsimp only)); refine box_event ?hg (N := 6) ?hd (cs := #[.int .i64 0, .int .i64 0, .int .i64 0, .slice none 0 0, .slice none 0 0, .slice none 0 0]) (t := 47) ?hr ?_; (case hd => rfl); (case hg => rfl); (case hr => exact zB); intro gb268 hg w34 hbox hb; have n0_ := xm (Kd.R_below (rB HO_4) hb); have n1_ := xm (blk_below (kB BK263) hb); have n2_ := xm (below_step bG hb); have n3_ := xm (hbox); have n4_ := xm ((by rw [hg]; exact (xz bG) : w.heap.size ≤ gb268)); have n5_ := xm ((by rw [hg]; exact (xz bG) : w.heap.size ≤ gb268)); have n6_ := xm ((by rw [hg]; exact Nat.ne_of_lt (blk_lt (kB BK263)) : gb263 ≠ gb268)); have n7_ := xm ((by rw [hg]; exact Nat.ne_of_gt (blk_lt (kB BK263)) : gb268 ≠ gb263)); revert n0_ n1_ n2_ n3_ n4_ n5_ n6_ n7_; clear HO_4 BK263 HB; intro HO_4 BK263 HB BK268 GW268 GE268 NB263_268 NB268_263; clear hb hbox hg; have hnb35 := NB268_263.out; have hnc35 := NB263_268.out; obtain ⟨hcz36_0, hcz36_1, hcz36_2, hcz36_3, hcz36_4, hcz36_5, hfz36_0, hfz36_1, hfz36_2, hfz36_3, hfz36_4, hfz36_5⟩ := cz6 BK268.out; obtain ⟨hcz37_0, hcz37_1, hfz37_0, hfz37_1⟩ := cz2 BK263.out; obtain ⟨Ao38, co38, eo38⟩ := Kd.R_slice HO_4.out; subst eo38) | ((with_reducible refine gate_callee (f := 21) rfl ?_); refine goesL_ (some 38) rfl rfl Try.func21 (by kernel_rfl) rfl #[.agg #[.slice A0_0 l0_0.length c0_0, .slice (some ad267) l0_1.length c0_1], .agg #[.int .i64 ((rd_T47 l0_1 x30_2).f0), .int .i64 ((rd_T47 l0_1 x30_2).f1), .int .i64 ((rd_T47 l0_1 x30_2).f2), .slice A267_3 ((rd_T47 l0_1 x30_2).f3).length c267_3, .slice A267_4 ((rd_T47 l0_1 x30_2).f4).length c267_4, .slice A267_5 ((rd_T47 l0_1 x30_2).f5).length c267_5], .slice Ao38 x4_2.length co38] rfl mB ?_; (with_reducible refine (impl_View_columnsOf.calls k2 _ _ l0_0 _ _ l0_1 ((rd_T47 l0_1 x30_2).f0) ((rd_T47 l0_1 x30_2).f1) ((rd_T47 l0_1 x30_2).f2) _ _ ((rd_T47 l0_1 x30_2).f3) _ _ ((rd_T47 l0_1 x30_2).f4) _ _ ((rd_T47 l0_1 x30_2).f5) _ _ x4_2 t269 true _ ?side1 ?side2 ?side3 ?side4 ?side5 ?side6 ?side7 ?side8 ?side9 ?side10 ?side11 ?side12 A20.out).mono ?_); (case side1 => exact Kd.C_below HR0_0.out bG); (case side2 => exact HC0_0.out); (case side3 => exact Kd.C_below HR0_1.out bG); (case side4 => exact HC0_1.out); (case side5 => exact Kd.C_below HR267_3.out bG); (case side6 => exact HC267_3.out); (case side7 => exact Kd.C_below HR267_4.out bG); (case side8 => exact HC267_4.out); (case side9 => exact Kd.C_below HR267_5.out bG); (case side10 => exact HC267_5.out); (case side11 => refine (Kd.R_reads' (e := 3) (base := w.heap.size) (ok := fun k_ => True) (n := x4_2.length) (c := co38) ?_).2.2; exact (by (with_reducible repeat (first | apply Kd.R_alloc | apply Kd.R_drewN | apply Kd.R_drew)); exact (Kd.R_mono (Kd.R_far (p := ⟨gb268, 5, none⟩) (Kd.R_far (p := ⟨gb268, 4, none⟩) (Kd.R_far (p := ⟨gb268, 3, none⟩) (Kd.R_far (p := ⟨gb268, 2, none⟩) (Kd.R_far (p := ⟨gb268, 1, none⟩) (Kd.R_far (p := ⟨gb268, 0, none⟩) (Kd.R_types HO_4.out BK268.out (by decide)) (fun _ hk => hk.2) (.int .i64 ((rd_T47 l0_1 x30_2).f0))) (fun _ hk => hk.2) (.int .i64 ((rd_T47 l0_1 x30_2).f1))) (fun _ hk => hk.2) (.int .i64 ((rd_T47 l0_1 x30_2).f2))) (fun _ hk => hk.2) (.slice A267_3 ((rd_T47 l0_1 x30_2).f3).length c267_3)) (fun _ hk => hk.2) (.slice A267_4 ((rd_T47 l0_1 x30_2).f4).length c267_4)) (fun _ hk => hk.2) (.slice A267_5 ((rd_T47 l0_1 x30_2).f5).length c267_5)) (fun _ h_ => h_.1)))); (case side12 => exact (Kd.R_reads' HO_4.out).2.1); rintro e w39 ⟨rfl, hb⟩; refine ⟨_, rfl, ?_⟩; have n0_ := xm (Kd.R_below (by (with_reducible repeat (first | apply Kd.R_alloc | apply Kd.R_drewN | apply Kd.R_drew)); exact (Kd.R_mono (Kd.R_far (p := ⟨gb268, 5, none⟩) (Kd.R_far (p := ⟨gb268, 4, none⟩) (Kd.R_far (p := ⟨gb268, 3, none⟩) (Kd.R_far (p := ⟨gb268, 2, none⟩) (Kd.R_far (p := ⟨gb268, 1, none⟩) (Kd.R_far (p := ⟨gb268, 0, none⟩) (Kd.R_types HO_4.out BK268.out (by decide)) (fun _ hk => hk.2) (.int .i64 ((rd_T47 l0_1 x30_2).f0))) (fun _ hk => hk.2) (.int .i64 ((rd_T47 l0_1 x30_2).f1))) (fun _ hk => hk.2) (.int .i64 ((rd_T47 l0_1 x30_2).f2))) (fun _ hk => hk.2) (.slice A267_3 ((rd_T47 l0_1 x30_2).f3).length c267_3)) (fun _ hk => hk.2) (.slice A267_4 ((rd_T47 l0_1 x30_2).f4).length c267_4)) (fun _ hk => hk.2) (.slice A267_5 ((rd_T47 l0_1 x30_2).f5).length c267_5)) (fun _ h_ => h_.1))) hb); have n1_ := xm (blk_below (g := gb263) (o := .cells #[.slice A0_0 l0_0.length c0_0, .slice (some ad267) l0_1.length c0_1] 31 (0, 0)) (by (with_reducible repeat (first | refine xq ?_ _ | refine xr ?_ | refine xo ?_ _)); refine blk_far ?_ NB263_268.out _; (with_reducible repeat (first | refine xq ?_ _ | refine xr ?_ | refine xo ?_ _)); refine blk_far ?_ NB263_268.out _; (with_reducible repeat (first | refine xq ?_ _ | refine xr ?_ | refine xo ?_ _)); refine blk_far ?_ NB263_268.out _; (with_reducible repeat (first | refine xq ?_ _ | refine xr ?_ | refine xo ?_ _)); refine blk_far ?_ NB263_268.out _; (with_reducible repeat (first | refine xq ?_ _ | refine xr ?_ | refine xo ?_ _)); refine blk_far ?_ NB263_268.out _; (with_reducible repeat (first | refine xq ?_ _ | refine xr ?_ | refine xo ?_ _)); refine blk_far ?_ NB263_268.out _; (with_reducible repeat (first | refine xq ?_ _ | refine xr ?_ | refine xo ?_ _)); exact BK263.out) hb); have n2_ := xm (blk_below (g := gb268) (o := .cells #[.int .i64 ((rd_T47 l0_1 x30_2).f0), .int .i64 ((rd_T47 l0_1 x30_2).f1), .int .i64 ((rd_T47 l0_1 x30_2).f2), .slice A267_3 ((rd_T47 l0_1 x30_2).f3).length c267_3, .slice A267_4 ((rd_T47 l0_1 x30_2).f4).length c267_4, .slice A267_5 ((rd_T47 l0_1 x30_2).f5).length c267_5] 47 (0, 0)) (by (with_reducible repeat (first | refine xq ?_ _ | refine xr ?_ | refine xo ?_ _)); refine blk_put (cs := #[.int .i64 ((rd_T47 l0_1 x30_2).f0), .int .i64 ((rd_T47 l0_1 x30_2).f1), .int .i64 ((rd_T47 l0_1 x30_2).f2), .slice A267_3 ((rd_T47 l0_1 x30_2).f3).length c267_3, .slice A267_4 ((rd_T47 l0_1 x30_2).f4).length c267_4, .slice none 0 0]) ?_ 5 _ rfl; (with_reducible repeat (first | refine xq ?_ _ | refine xr ?_ | refine xo ?_ _)); refine blk_put (cs := #[.int .i64 ((rd_T47 l0_1 x30_2).f0), .int .i64 ((rd_T47 l0_1 x30_2).f1), .int .i64 ((rd_T47 l0_1 x30_2).f2), .slice A267_3 ((rd_T47 l0_1 x30_2).f3).length c267_3, .slice none 0 0, .slice none 0 0]) ?_ 4 _ rfl; (with_reducible repeat (first | refine xq ?_ _ | refine xr ?_ | refine xo ?_ _)); refine blk_put (cs := #[.int .i64 ((rd_T47 l0_1 x30_2).f0), .int .i64 ((rd_T47 l0_1 x30_2).f1), .int .i64 ((rd_T47 l0_1 x30_2).f2), .slice none 0 0, .slice none 0 0, .slice none 0 0]) ?_ 3 _ rfl; (with_reducible repeat (first | refine xq ?_ _ | refine xr ?_ | refine xo ?_ _)); refine blk_put (cs := #[.int .i64 ((rd_T47 l0_1 x30_2).f0), .int .i64 ((rd_T47 l0_1 x30_2).f1), .int .i64 0, .slice none 0 0, .slice none 0 0, .slice none 0 0]) ?_ 2 _ rfl; (with_reducible repeat (first | refine xq ?_ _ | refine xr ?_ | refine xo ?_ _)); refine blk_put (cs := #[.int .i64 ((rd_T47 l0_1 x30_2).f0), .int .i64 0, .int .i64 0, .slice none 0 0, .slice none 0 0, .slice none 0 0]) ?_ 1 _ rfl; (with_reducible repeat (first | refine xq ?_ _ | refine xr ?_ | refine xo ?_ _)); refine blk_put (cs := #[.int .i64 0, .int .i64 0, .int .i64 0, .slice none 0 0, .slice none 0 0, .slice none 0 0]) ?_ 0 _ rfl; (with_reducible repeat (first | refine xq ?_ _ | refine xr ?_ | refine xo ?_ _)); exact BK268.out) hb); have n3_ := xm (below_step bG hb); revert n0_ n1_ n2_ n3_; clear HO_4 BK263 BK268 HB; intro HO_4 BK263 BK268 HB; (try clear hb); (try clear hk); obtain ⟨hcz40_0, hcz40_1, hcz40_2, hcz40_3, hcz40_4, hcz40_5, hfz40_0, hfz40_1, hfz40_2, hfz40_3, hfz40_4, hfz40_5⟩ := cz6 BK268.out) | (go_at_call 22; (with_reducible refine (impl_Part_uses.calls ((rd_T47 l0_1 x30_2).f0) ((rd_T47 l0_1 x30_2).f1) ((rd_T47 l0_1 x30_2).f2) _ _ ((rd_T47 l0_1 x30_2).f3) _ _ ((rd_T47 l0_1 x30_2).f4) _ _ ((rd_T47 l0_1 x30_2).f5) false _ ?side1 ?side2 ?side3 ?side4 ?side5 ?side6 A22.out).mono ?_); (case side1 => exact cB (Kd.C_below HR267_3.out HB.out)); (case side2 => exact HC267_3.out); (case side3 => exact cB (Kd.C_below HR267_4.out HB.out)); (case side4 => exact HC267_4.out); (case side5 => exact cB (Kd.C_below HR267_5.out HB.out)); (case side6 => exact HC267_5.out); rintro e w41 ⟨rfl, hb⟩; have n0_ := xm (Kd.R_below (rB HO_4) hb); have n1_ := xm (blk_below (kB BK263) hb); have n2_ := xm (blk_below (kB BK268) hb); have n3_ := xm (below_step bG hb); revert n0_ n1_ n2_ n3_; clear HO_4 BK263 BK268 HB; intro HO_4 BK263 BK268 HB; (try clear hb)))
           go_ret2
           exact ⟨_, eB, by first | exact Kd.R_nil _ _ _ _ _ | exact Kd.N_nil _ _ _ _ _ | exact Kd.V_nil _ _ _ _ _ | exact Kd.Q_nil _ _ _ _ _ | exact Kd.S_nil _ _ _ _ _, bG⟩
         ·replace c21 := Bool.eq_false_iff.mpr c21
          subst c21
          have H1 : (some (([] : List Int), false)) = some (r1, r2) := by first | (with_reducible rfl) | (rw [if_neg (show ¬ (false = true) by decide)] at H; exact H)
          clear H
          have H := H1
          clear H1
          simp only [Option.some.injEq, Prod.mk.injEq] at H
          obtain ⟨rfl, rfl⟩ := H
          have p267 : 0 ≤ (x30_2 : Int) := of_decide_eq_true aB
          have q267 : x30_2 < (l0_1.length : Int) := of_decide_eq_true aB
          obtain ⟨ad267, A267_3, c267_3, A267_4, c267_4, A267_5, c267_5, e267, hx267_0, hx267_1, hx267_2, hx267_3, hx267_4, hx267_5, hl267_3, hi267_3, hl267_4, hi267_4, hl267_5, hi267_5⟩ := at_T47 HR0_1.out x30_2 p267 q267
          cases e267
          replace hx267_0 := hU hx267_0
          replace hx267_1 := hU hx267_1
          replace hx267_2 := hU hx267_2
          replace hx267_3 := hU hx267_3
          replace hx267_4 := hU hx267_4
          replace hx267_5 := hU hx267_5
          have HR267_3 := xm hi267_3
          have HC267_3 := xm hl267_3
          clear hi267_3 hl267_3
          have HR267_4 := xm hi267_4
          have HC267_4 := xm hl267_4
          clear hi267_4 hl267_4
          have HR267_5 := xm hi267_5
          have HC267_5 := xm hl267_5
          clear hi267_5 hl267_5
          replace p267 := eq_true p267
          replace q267 := eq_true q267
          go_wp2_with (first | ((with_reducible refine gate_dst (N := 6) rfl ?_); (try (refine gate_guard (by rfl) ?_; dsimp only)); refine box_event ?hg (N := 6) ?hd (cs := #[.int .i64 0, .int .i64 0, .int .i64 0, .slice none 0 0, .slice none 0 0, .slice none 0 0]) (t := 47) ?hr ?_; (case hd => rfl); (case hg => rfl); (case hr => exact zB); intro gb268 hg w42 hbox hb; have n0_ := xm (Kd.R_below (rB HO_4) hb); have n1_ := xm (blk_below (kB BK263) hb); have n2_ := xm (below_step bG hb); have n3_ := xm (hbox); have n4_ := xm ((by rw [hg]; exact (xz bG) : w.heap.size ≤ gb268)); have n5_ := xm ((by rw [hg]; exact (xz bG) : w.heap.size ≤ gb268)); have n6_ := xm ((by rw [hg]; exact Nat.ne_of_lt (blk_lt (kB BK263)) : gb263 ≠ gb268)); have n7_ := xm ((by rw [hg]; exact Nat.ne_of_gt (blk_lt (kB BK263)) : gb268 ≠ gb263)); revert n0_ n1_ n2_ n3_ n4_ n5_ n6_ n7_; clear HO_4 BK263 HB; intro HO_4 BK263 HB BK268 GW268 GE268 NB263_268 NB268_263; clear hb hbox hg; have hnb43 := NB268_263.out; have hnc43 := NB263_268.out; obtain ⟨hcz44_0, hcz44_1, hcz44_2, hcz44_3, hcz44_4, hcz44_5, hfz44_0, hfz44_1, hfz44_2, hfz44_3, hfz44_4, hfz44_5⟩ := cz6 BK268.out; obtain ⟨hcz45_0, hcz45_1, hfz45_0, hfz45_1⟩ := cz2 BK263.out; obtain ⟨Ao46, co46, eo46⟩ := Kd.R_slice HO_4.out; subst eo46) | ((with_reducible refine gate_callee (f := 21) rfl ?_); refine goesL_ (some 38) rfl rfl Try.func21 (by kernel_rfl) rfl #[.agg #[.slice A0_0 l0_0.length c0_0, .slice (some ad267) l0_1.length c0_1], .agg #[.int .i64 ((rd_T47 l0_1 x30_2).f0), .int .i64 ((rd_T47 l0_1 x30_2).f1), .int .i64 ((rd_T47 l0_1 x30_2).f2), .slice A267_3 ((rd_T47 l0_1 x30_2).f3).length c267_3, .slice A267_4 ((rd_T47 l0_1 x30_2).f4).length c267_4, .slice A267_5 ((rd_T47 l0_1 x30_2).f5).length c267_5], .slice Ao46 x4_2.length co46] rfl mB ?_; (with_reducible refine (impl_View_columnsOf.calls k2 _ _ l0_0 _ _ l0_1 ((rd_T47 l0_1 x30_2).f0) ((rd_T47 l0_1 x30_2).f1) ((rd_T47 l0_1 x30_2).f2) _ _ ((rd_T47 l0_1 x30_2).f3) _ _ ((rd_T47 l0_1 x30_2).f4) _ _ ((rd_T47 l0_1 x30_2).f5) _ _ x4_2 t269 false _ ?side1 ?side2 ?side3 ?side4 ?side5 ?side6 ?side7 ?side8 ?side9 ?side10 ?side11 ?side12 A20.out).mono ?_); (case side1 => exact Kd.C_below HR0_0.out bG); (case side2 => exact HC0_0.out); (case side3 => exact Kd.C_below HR0_1.out bG); (case side4 => exact HC0_1.out); (case side5 => exact Kd.C_below HR267_3.out bG); (case side6 => exact HC267_3.out); (case side7 => exact Kd.C_below HR267_4.out bG); (case side8 => exact HC267_4.out); (case side9 => exact Kd.C_below HR267_5.out bG); (case side10 => exact HC267_5.out); (case side11 => refine (Kd.R_reads' (e := 3) (base := w.heap.size) (ok := fun k_ => True) (n := x4_2.length) (c := co46) ?_).2.2; exact (by (with_reducible repeat (first | apply Kd.R_alloc | apply Kd.R_drewN | apply Kd.R_drew)); exact (Kd.R_mono (Kd.R_far (p := ⟨gb268, 5, none⟩) (Kd.R_far (p := ⟨gb268, 4, none⟩) (Kd.R_far (p := ⟨gb268, 3, none⟩) (Kd.R_far (p := ⟨gb268, 2, none⟩) (Kd.R_far (p := ⟨gb268, 1, none⟩) (Kd.R_far (p := ⟨gb268, 0, none⟩) (Kd.R_types HO_4.out BK268.out (by decide)) (fun _ hk => hk.2) (.int .i64 ((rd_T47 l0_1 x30_2).f0))) (fun _ hk => hk.2) (.int .i64 ((rd_T47 l0_1 x30_2).f1))) (fun _ hk => hk.2) (.int .i64 ((rd_T47 l0_1 x30_2).f2))) (fun _ hk => hk.2) (.slice A267_3 ((rd_T47 l0_1 x30_2).f3).length c267_3)) (fun _ hk => hk.2) (.slice A267_4 ((rd_T47 l0_1 x30_2).f4).length c267_4)) (fun _ hk => hk.2) (.slice A267_5 ((rd_T47 l0_1 x30_2).f5).length c267_5)) (fun _ h_ => h_.1)))); (case side12 => exact (Kd.R_reads' HO_4.out).2.1); rintro e w47 ⟨rfl, hb⟩; refine ⟨_, rfl, ?_⟩; have n0_ := xm (Kd.R_below (by (with_reducible repeat (first | apply Kd.R_alloc | apply Kd.R_drewN | apply Kd.R_drew)); exact (Kd.R_mono (Kd.R_far (p := ⟨gb268, 5, none⟩) (Kd.R_far (p := ⟨gb268, 4, none⟩) (Kd.R_far (p := ⟨gb268, 3, none⟩) (Kd.R_far (p := ⟨gb268, 2, none⟩) (Kd.R_far (p := ⟨gb268, 1, none⟩) (Kd.R_far (p := ⟨gb268, 0, none⟩) (Kd.R_types HO_4.out BK268.out (by decide)) (fun _ hk => hk.2) (.int .i64 ((rd_T47 l0_1 x30_2).f0))) (fun _ hk => hk.2) (.int .i64 ((rd_T47 l0_1 x30_2).f1))) (fun _ hk => hk.2) (.int .i64 ((rd_T47 l0_1 x30_2).f2))) (fun _ hk => hk.2) (.slice A267_3 ((rd_T47 l0_1 x30_2).f3).length c267_3)) (fun _ hk => hk.2) (.slice A267_4 ((rd_T47 l0_1 x30_2).f4).length c267_4)) (fun _ hk => hk.2) (.slice A267_5 ((rd_T47 l0_1 x30_2).f5).length c267_5)) (fun _ h_ => h_.1))) hb); have n1_ := xm (blk_below (g := gb263) (o := .cells #[.slice A0_0 l0_0.length c0_0, .slice (some ad267) l0_1.length c0_1] 31 (0, 0)) (by (with_reducible repeat (first | refine xq ?_ _ | refine xr ?_ | refine xo ?_ _)); refine blk_far ?_ NB263_268.out _; (with_reducible repeat (first | refine xq ?_ _ | refine xr ?_ | refine xo ?_ _)); refine blk_far ?_ NB263_268.out _; (with_reducible repeat (first | refine xq ?_ _ | refine xr ?_ | refine xo ?_ _)); refine blk_far ?_ NB263_268.out _; (with_reducible repeat (first | refine xq ?_ _ | refine xr ?_ | refine xo ?_ _)); refine blk_far ?_ NB263_268.out _; (with_reducible repeat (first | refine xq ?_ _ | refine xr ?_ | refine xo ?_ _)); refine blk_far ?_ NB263_268.out _; (with_reducible repeat (first | refine xq ?_ _ | refine xr ?_ | refine xo ?_ _)); refine blk_far ?_ NB263_268.out _; (with_reducible repeat (first | refine xq ?_ _ | refine xr ?_ | refine xo ?_ _)); exact BK263.out) hb); have n2_ := xm (blk_below (g := gb268) (o := .cells #[.int .i64 ((rd_T47 l0_1 x30_2).f0), .int .i64 ((rd_T47 l0_1 x30_2).f1), .int .i64 ((rd_T47 l0_1 x30_2).f2), .slice A267_3 ((rd_T47 l0_1 x30_2).f3).length c267_3, .slice A267_4 ((rd_T47 l0_1 x30_2).f4).length c267_4, .slice A267_5 ((rd_T47 l0_1 x30_2).f5).length c267_5] 47 (0, 0)) (by (with_reducible repeat (first | refine xq ?_ _ | refine xr ?_ | refine xo ?_ _)); refine blk_put (cs := #[.int .i64 ((rd_T47 l0_1 x30_2).f0), .int .i64 ((rd_T47 l0_1 x30_2).f1), .int .i64 ((rd_T47 l0_1 x30_2).f2), .slice A267_3 ((rd_T47 l0_1 x30_2).f3).length c267_3, .slice A267_4 ((rd_T47 l0_1 x30_2).f4).length c267_4, .slice none 0 0]) ?_ 5 _ rfl; (with_reducible repeat (first | refine xq ?_ _ | refine xr ?_ | refine xo ?_ _)); refine blk_put (cs := #[.int .i64 ((rd_T47 l0_1 x30_2).f0), .int .i64 ((rd_T47 l0_1 x30_2).f1), .int .i64 ((rd_T47 l0_1 x30_2).f2), .slice A267_3 ((rd_T47 l0_1 x30_2).f3).length c267_3, .slice none 0 0, .slice none 0 0]) ?_ 4 _ rfl; (with_reducible repeat (first | refine xq ?_ _ | refine xr ?_ | refine xo ?_ _)); refine blk_put (cs := #[.int .i64 ((rd_T47 l0_1 x30_2).f0), .int .i64 ((rd_T47 l0_1 x30_2).f1), .int .i64 ((rd_T47 l0_1 x30_2).f2), .slice none 0 0, .slice none 0 0, .slice none 0 0]) ?_ 3 _ rfl; (with_reducible repeat (first | refine xq ?_ _ | refine xr ?_ | refine xo ?_ _)); refine blk_put (cs := #[.int .i64 ((rd_T47 l0_1 x30_2).f0), .int .i64 ((rd_T47 l0_1 x30_2).f1), .int .i64 0, .slice none 0 0, .slice none 0 0, .slice none 0 0]) ?_ 2 _ rfl; (with_reducible repeat (first | refine xq ?_ _ | refine xr ?_ | refine xo ?_ _)); refine blk_put (cs := #[.int .i64 ((rd_T47 l0_1 x30_2).f0), .int .i64 0, .int .i64 0, .slice none 0 0, .slice none 0 0, .slice none 0 0]) ?_ 1 _ rfl; (with_reducible repeat (first | refine xq ?_ _ | refine xr ?_ | refine xo ?_ _)); refine blk_put (cs := #[.int .i64 0, .int .i64 0, .int .i64 0, .slice none 0 0, .slice none 0 0, .slice none 0 0]) ?_ 0 _ rfl; (with_reducible repeat (first | refine xq ?_ _ | refine xr ?_ | refine xo ?_ _)); exact BK268.out) hb); have n3_ := xm (below_step bG hb); revert n0_ n1_ n2_ n3_; clear HO_4 BK263 BK268 HB; intro HO_4 BK263 BK268 HB; (try clear hb); (try clear hk)))
          go_ret2
          exact ⟨_, eB, by first | exact Kd.R_nil _ _ _ _ _ | exact Kd.N_nil _ _ _ _ _ | exact Kd.V_nil _ _ _ _ _ | exact Kd.Q_nil _ _ _ _ _ | exact Kd.S_nil _ _ _ _ _, bG⟩
        ·rw [if_neg c19] at H
         exact absurd H (by simp)
       ·rw [if_neg c18] at H
        exact absurd H (by simp)
      ·rw [if_neg c17] at H
       have c17b0 : decide (x30_2 < (l0_1.length : Int)) = false := decide_eq_false c17
       clear c17
       simp only [Option.some.injEq, Prod.mk.injEq] at H
       obtain ⟨rfl, rfl⟩ := H
       go_wp2
       go_ret2
       exact ⟨_, eB, rB HO_4, bG⟩

end Go.Proofs.Ytaddemalepndfae.G
