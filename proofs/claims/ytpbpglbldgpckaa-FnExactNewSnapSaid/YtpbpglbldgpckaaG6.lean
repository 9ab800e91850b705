/- Written by a program of this claim's own, out of the translation: functions of the program as plain functions, and that the calls answer as these. No conditions. -/
import Derived.Test.YtpbpglbldgpckaaG0
import Derived.Test.YtpbpglbldgpckaaG5
namespace Go.Proofs.Ytpbpglbldgpckaa.G
open Go.RowKit Go.Proofs.Ytpbpglbldgpckaa.X Go.Proofs.YtpbpglbldgpckaaW.PrintWords Go.Proofs.YtpbpglbldgpckaaW.PrintLast Go.Proofs.YtpbpglbldgpckaaW.PrintMore
attribute [local go_sem] max2_int min2_int max_two min_two max_three min_three max_four min_four   -- for this text's walks alone
set_option linter.unusedVariables false
set_option linter.unusedSimpArgs false

/-! ### impl_GoodSnap: function 58 -/
mutual
def impl_GoodSnap.j0 : Nat → Int → Bool → List (S138) → List (S140) → Option (Bool)
 | 0, _, _, _, _ => none
 | k + 1, x3, x23, x159000, x159001 => if x23 = true then (some false) else (impl_GoodSnap.l0 k x3 0 x159000 (x159000.length : Int) 0 x159000 x159001)
def impl_GoodSnap.l0 : Nat → Int → Int → List (S138) → Int → Int → List (S138) → List (S140) → Option (Bool)
 | 0, _, _, _, _, _, _, _ => none
 | k + 1, x3, x4, x25, x26, x27, x159000, x159001 => if x27 < x26 then (if 0 ≤ x27 then (if x27 < (x25.length : Int) then ((impl_within.f ((rd_T138 x25 x27).f0) 0 2000000000).bind fun t162 => (if t162 = true then ((impl_within.f ((rd_T138 x25 x27).f1) 0 2000000000).bind fun t163 => (if t163 = true then (if ((rd_T138 x25 x27).f2 = true) then (impl_GoodSnap.l0 k x3 (wrap64 (x4 + (wrap64 (((rd_T138 x25 x27).f0) + ((rd_T138 x25 x27).f1))))) x25 x26 (wrap64 (x27 + 1)) x159000 x159001) else (if ((rd_T138 x25 x27).f1) = 0 then (impl_GoodSnap.l0 k x3 (wrap64 (x4 + (wrap64 (((rd_T138 x25 x27).f0) + ((rd_T138 x25 x27).f1))))) x25 x26 (wrap64 (x27 + 1)) x159000 x159001) else (some false))) else (some false))) else (some false))) else (none)) else (none)) else (impl_GoodSnap.l1 k x3 x4 x159001 (x159001.length : Int) 0 x159000 x159001)
def impl_GoodSnap.l1 : Nat → Int → Int → List (S140) → Int → Int → List (S138) → List (S140) → Option (Bool)
 | 0, _, _, _, _, _, _, _ => none
 | k + 1, x3, x4, x60, x61, x62, x159000, x159001 => if x62 < x61 then (if 0 ≤ x62 then (if x62 < (x60.length : Int) then (if x3 = 0 then (none) else (if 0 ≤ (Int.tmod x62 x3) then (if (Int.tmod x62 x3) < (x159000.length : Int) then ((impl_Wire_isWire.f ((rd_T140 x60 x62).f0) ((rd_T140 x60 x62).f1) ((rd_T140 x60 x62).f2) ((rd_T138 x159000 (Int.tmod x62 x3)).f0) ((rd_T138 x159000 (Int.tmod x62 x3)).f1) ((rd_T138 x159000 (Int.tmod x62 x3)).f2)).bind fun t167 => (if t167 = true then (if (wrap64 (Int.tdiv x62 x3)) = (Int.tmod x62 x3) then ((impl_Wire_isNone.f ((rd_T140 x60 x62).f0) ((rd_T140 x60 x62).f1) ((rd_T140 x60 x62).f2)).bind fun t168 => (impl_GoodSnap.j3 k x3 x4 x60 x61 x62 (!t168) x159000 x159001 ((rd_T140 x60 x62).f0) ((rd_T140 x60 x62).f1) ((rd_T140 x60 x62).f2))) else (impl_GoodSnap.j3 k x3 x4 x60 x61 x62 false x159000 x159001 ((rd_T140 x60 x62).f0) ((rd_T140 x60 x62).f1) ((rd_T140 x60 x62).f2))) else (impl_GoodSnap.j3 k x3 x4 x60 x61 x62 true x159000 x159001 ((rd_T140 x60 x62).f0) ((rd_T140 x60 x62).f1) ((rd_T140 x60 x62).f2)))) else (none)) else (none))) else (none)) else (none)) else (some (decide (x4 ≤ 2000000000)))
def impl_GoodSnap.j3 : Nat → Int → Int → List (S140) → Int → Int → Bool → List (S138) → List (S140) → List Int → List Int → Bool → Option (Bool)
 | 0, _, _, _, _, _, _, _, _, _, _, _ => none
 | k + 1, x3, x4, x60, x61, x62, x90, x159000, x159001, x166000, x166001, x166002 => if x90 = true then (some false) else ((impl_sumOf.f k x166000).bind fun t169 => ((impl_sumOf.f k x166001).bind fun t170 => (impl_GoodSnap.l1 k x3 (wrap64 (x4 + (wrap64 (t169 + t170)))) x60 x61 (wrap64 (x62 + 1)) x159000 x159001)))
end
def impl_GoodSnap.f (k : Nat) (l0_0 : List (S138)) (l0_1 : List (S140)) : Option (Bool) := (impl_within.f (l0_0.length : Int) 2 4).bind fun t159 => (if t159 = true then (impl_GoodSnap.j0 k (l0_0.length : Int) ((l0_1.length : Int) != (wrap64 ((l0_0.length : Int) * (l0_0.length : Int)))) l0_0 l0_1) else (impl_GoodSnap.j0 k (l0_0.length : Int) true l0_0 l0_1))
theorem impl_GoodSnap.mono_l : ∀ k, (∀ y0 y1 y2 y3, LeO (impl_GoodSnap.j0 k y0 y1 y2 y3) (impl_GoodSnap.j0 (k + 1) y0 y1 y2 y3)) ∧ (∀ y0 y1 y2 y3 y4 y5 y6, LeO (impl_GoodSnap.l0 k y0 y1 y2 y3 y4 y5 y6) (impl_GoodSnap.l0 (k + 1) y0 y1 y2 y3 y4 y5 y6)) ∧ (∀ y0 y1 y2 y3 y4 y5 y6, LeO (impl_GoodSnap.l1 k y0 y1 y2 y3 y4 y5 y6) (impl_GoodSnap.l1 (k + 1) y0 y1 y2 y3 y4 y5 y6)) ∧ (∀ y0 y1 y2 y3 y4 y5 y6 y7 y8 y9 y10, LeO (impl_GoodSnap.j3 k y0 y1 y2 y3 y4 y5 y6 y7 y8 y9 y10) (impl_GoodSnap.j3 (k + 1) y0 y1 y2 y3 y4 y5 y6 y7 y8 y9 y10))
 | 0 => ⟨fun _ _ _ _ r h => by simp [impl_GoodSnap.j0] at h, fun _ _ _ _ _ _ _ r h => by simp [impl_GoodSnap.l0] at h, fun _ _ _ _ _ _ _ r h => by simp [impl_GoodSnap.l1] at h, fun _ _ _ _ _ _ _ _ _ _ _ r h => by simp [impl_GoodSnap.j3] at h⟩
 | k + 1 => by
  obtain ⟨ih0, ih1, ih2, ih3⟩ := impl_GoodSnap.mono_l k
  refine ⟨?_, ?_, ?_, ?_⟩
  ·intro y0 y1 y2 y3
   unfold impl_GoodSnap.j0
   repeat' first
   | (with_reducible exact ih0 _ _ _ _)
   | (with_reducible exact ih1 _ _ _ _ _ _ _)
   | (with_reducible exact ih2 _ _ _ _ _ _ _)
   | (with_reducible exact ih3 _ _ _ _ _ _ _ _ _ _ _)
   | (with_reducible exact impl_sumOf.mono _ _)
   | (with_reducible exact LeO.refl _)
   | (with_reducible exact LeO.none _)
   | (with_reducible refine LeO.ite ?_ ?_)
   | (with_reducible refine LeO.bind ?_ (fun _ => ?_))
   | exact ih0 _ _ _ _
   | exact ih1 _ _ _ _ _ _ _
   | exact ih2 _ _ _ _ _ _ _
   | exact ih3 _ _ _ _ _ _ _ _ _ _ _
   | exact impl_sumOf.mono _ _
   | exact LeO.none _
   | refine LeO.ite ?_ ?_
   | refine LeO.bind ?_ (fun _ => ?_)
  ·intro y0 y1 y2 y3 y4 y5 y6
   unfold impl_GoodSnap.l0
   repeat' first
   | (with_reducible exact ih0 _ _ _ _)
   | (with_reducible exact ih1 _ _ _ _ _ _ _)
   | (with_reducible exact ih2 _ _ _ _ _ _ _)
   | (with_reducible exact ih3 _ _ _ _ _ _ _ _ _ _ _)
   | (with_reducible exact impl_sumOf.mono _ _)
   | (with_reducible exact LeO.refl _)
   | (with_reducible exact LeO.none _)
   | (with_reducible refine LeO.ite ?_ ?_)
   | (with_reducible refine LeO.bind ?_ (fun _ => ?_))
   | exact ih0 _ _ _ _
   | exact ih1 _ _ _ _ _ _ _
   | exact ih2 _ _ _ _ _ _ _
   | exact ih3 _ _ _ _ _ _ _ _ _ _ _
   | exact impl_sumOf.mono _ _
   | exact LeO.none _
   | refine LeO.ite ?_ ?_
   | refine LeO.bind ?_ (fun _ => ?_)
  ·intro y0 y1 y2 y3 y4 y5 y6
   unfold impl_GoodSnap.l1
   repeat' first
   | (with_reducible exact ih0 _ _ _ _)
   | (with_reducible exact ih1 _ _ _ _ _ _ _)
   | (with_reducible exact ih2 _ _ _ _ _ _ _)
   | (with_reducible exact ih3 _ _ _ _ _ _ _ _ _ _ _)
   | (with_reducible exact impl_sumOf.mono _ _)
   | (with_reducible exact LeO.refl _)
   | (with_reducible exact LeO.none _)
   | (with_reducible refine LeO.ite ?_ ?_)
   | (with_reducible refine LeO.bind ?_ (fun _ => ?_))
   | exact ih0 _ _ _ _
   | exact ih1 _ _ _ _ _ _ _
   | exact ih2 _ _ _ _ _ _ _
   | exact ih3 _ _ _ _ _ _ _ _ _ _ _
   | exact impl_sumOf.mono _ _
   | exact LeO.none _
   | refine LeO.ite ?_ ?_
   | refine LeO.bind ?_ (fun _ => ?_)
  ·intro y0 y1 y2 y3 y4 y5 y6 y7 y8 y9 y10
   unfold impl_GoodSnap.j3
   repeat' first
   | (with_reducible exact ih0 _ _ _ _)
   | (with_reducible exact ih1 _ _ _ _ _ _ _)
   | (with_reducible exact ih2 _ _ _ _ _ _ _)
   | (with_reducible exact ih3 _ _ _ _ _ _ _ _ _ _ _)
   | (with_reducible exact impl_sumOf.mono _ _)
   | (with_reducible exact LeO.refl _)
   | (with_reducible exact LeO.none _)
   | (with_reducible refine LeO.ite ?_ ?_)
   | (with_reducible refine LeO.bind ?_ (fun _ => ?_))
   | exact ih0 _ _ _ _
   | exact ih1 _ _ _ _ _ _ _
   | exact ih2 _ _ _ _ _ _ _
   | exact ih3 _ _ _ _ _ _ _ _ _ _ _
   | exact impl_sumOf.mono _ _
   | exact LeO.none _
   | refine LeO.ite ?_ ?_
   | refine LeO.bind ?_ (fun _ => ?_)
theorem impl_GoodSnap.mono : ∀ a0 a1 k, LeO (impl_GoodSnap.f k a0 a1) (impl_GoodSnap.f (k + 1) a0 a1) := by
 intro a0 a1 k
 obtain ⟨ih0, ih1, ih2, ih3⟩ := impl_GoodSnap.mono_l k
 unfold impl_GoodSnap.f
 repeat' first
   | (with_reducible exact ih0 _ _ _ _)
   | (with_reducible exact ih1 _ _ _ _ _ _ _)
   | (with_reducible exact ih2 _ _ _ _ _ _ _)
   | (with_reducible exact ih3 _ _ _ _ _ _ _ _ _ _ _)
   | (with_reducible exact impl_sumOf.mono _ _)
   | (with_reducible exact LeO.refl _)
   | (with_reducible exact LeO.none _)
   | (with_reducible refine LeO.ite ?_ ?_)
   | (with_reducible refine LeO.bind ?_ (fun _ => ?_))
   | exact ih0 _ _ _ _
   | exact ih1 _ _ _ _ _ _ _
   | exact ih2 _ _ _ _ _ _ _
   | exact ih3 _ _ _ _ _ _ _ _ _ _ _
   | exact impl_sumOf.mono _ _
   | exact LeO.none _
   | refine LeO.ite ?_ ?_
   | refine LeO.bind ?_ (fun _ => ?_)
def impl_GoodSnap.T15 : Bool × List (List Nat × List Nat) := (true, [([], []), ([], []), ([1], [1]), ([], []), ([], []), ([3, 4], [3, 4]), ([2, 5], [2, 5]), ([6], [6]), ([0, 7], [0, 7]), ([8], [8]), ([9, 8], [9]), ([10], [10]), ([10], [10]), ([11, 12, 10], [10, 11, 12]), ([10], [10]), ([10], [10]), ([14, 15, 10], [10, 14, 15]), ([13, 16, 10], [10, 13, 16]), ([17, 10, 10], [10, 17]), ([18], [18]), ([19, 18, 18], [18, 19]), ([20, 18], [18, 20]), ([18, 21, 10], [10, 18, 21]), ([10, 22], [10, 22])])
def impl_GoodSnap.B15 : List Nat := [0, 0, 2, 0, 0, 24, 62, 126, 255, 511, 1023, 2047, 2047, 8191, 2047, 2047, 51199, 131071, 262143, 524287, 1048575, 2097151, 4194303, 8388607]
theorem impl_GoodSnap.tab15 : rtab .any (opsOf Try.f58 15) = impl_GoodSnap.T15 := by kernel_rfl
theorem impl_GoodSnap.bits15 : waitsOk impl_GoodSnap.T15.2 impl_GoodSnap.B15 = true := by kernel_rfl
def impl_GoodSnap.T17 : Bool × List (List Nat × List Nat) := (true, [([], []), ([], []), ([1], [1]), ([2], [2]), ([], []), ([4], [4]), ([5, 3], [5]), ([3, 6], [3, 6]), ([0, 7], [0, 7]), ([8, 6, 0, 1, 2, 3, 4, 5, 6, 7, 8], [0, 8])])
def impl_GoodSnap.B17 : List Nat := [0, 0, 2, 6, 0, 16, 62, 126, 255, 511]
theorem impl_GoodSnap.tab17 : rtab .any (opsOf Try.f58 17) = impl_GoodSnap.T17 := by kernel_rfl
theorem impl_GoodSnap.bits17 : waitsOk impl_GoodSnap.T17.2 impl_GoodSnap.B17 = true := by kernel_rfl
set_option maxHeartbeats 8000000 in
set_option maxRecDepth 100000 in
theorem impl_GoodSnap.calls (k : Nat) (A0_0 : Option Addr) (c0_0 : Nat) (l0_0 : List (S138)) (A0_1 : Option Addr) (c0_1 : Nat) (l0_1 : List (S140)) (r : Bool) (w : World) (hr0_0 : Kd.C k138 w A0_0 l0_0.length l0_0) (hc0_0 : l0_0.length ≤ c0_0) (hr0_1 : Kd.C k140 w A0_1 l0_1.length l0_1) (hc0_1 : l0_1.length ≤ c0_1) (h : impl_GoodSnap.f k l0_0 l0_1 = some r) :
  Calls Try.prog 58 #[.agg #[.slice A0_0 l0_0.length c0_0, .slice A0_1 l0_1.length c0_1]] w fun e w' => e = .returned (.bool r) ∧ Below w.heap.size w w' := by
 have hu85 := Try.underlying85
 have hu138 := Try.underlying138
 have hu140 := Try.underlying140
 have HR0_0 := xm hr0_0
 have HC0_0 := xm hc0_0
 clear hr0_0 hc0_0
 have HR0_1 := xm hr0_1
 have HC0_1 := xm hc0_1
 clear hr0_1 hc0_1
 have HB := xm (Below.refl w.heap.size w)
 have H : ((impl_within.f (l0_0.length : Int) 2 4).bind fun t159 => (if t159 = true then (impl_GoodSnap.j0 k (l0_0.length : Int) ((l0_1.length : Int) != (wrap64 ((l0_0.length : Int) * (l0_0.length : Int)))) l0_0 l0_1) else (impl_GoodSnap.j0 k (l0_0.length : Int) true l0_0 l0_1))) = some r := h
 clear h
 have HC2 := xm H
 clear H
 go_enter Try.func58, Try.ntmps58
 go_upto_region 2 with (first | ((with_reducible refine gate_dst (N := 1) rfl ?_); (try (refine gate_guard (by rfl) ?_; dsimp only)); refine box_event ?hg (N := 1) ?hd (cs := #[.slice A0_0 l0_0.length c0_0, .slice A0_1 l0_1.length c0_1]) (t := 85) ?hr ?_; (case hd => rfl); (case hg => rfl); (case hr => exact zB); intro gb158 hg w3 hbox hb; have n0_ := xm (below_step bB hb); have n1_ := xm (hbox); have n2_ := xm ((by rw [hg]; exact (xz bB) : w.heap.size ≤ gb158)); have n3_ := xm ((by rw [hg]; exact (xz bB) : w.heap.size ≤ gb158)); clear HB; have HB := n0_; have BK158 := n1_; have GW158 := n2_; have GE158 := n3_; clear n0_ n1_ n2_ n3_; clear hb hbox hg; obtain ⟨hcz4_0, hcz4_1, hfz4_0, hfz4_1⟩ := cz2 BK158.out))
 (try simp only [Act.put, xi, xj, xk])
 go_cut [23] (fun v23 wc => ∃ (kq : Nat) (x23_1 : Bool), v23 = .bool x23_1 ∧ Aside0 (impl_GoodSnap.j0 kq (l0_0.length : Int) x23_1 l0_0 l0_1 = some r) ∧ Aside0 (kq ≤ k) ∧ Aside0 (wc.heap[gb158]? = some (.cells #[(.slice A0_0 l0_0.length c0_0), (.slice A0_1 l0_1.length c0_1)] 85 (0, 0))) ∧ Aside0 (Below w.heap.size w wc))
 case first =>
  have H := HC2.out
  clear HC2
  replace H := Option.bind_eq_some_iff.mp H
  obtain ⟨t159, A50, H⟩ := H
  replace H : (if t159 = true then (impl_GoodSnap.j0 k (l0_0.length : Int) ((l0_1.length : Int) != (wrap64 ((l0_0.length : Int) * (l0_0.length : Int)))) l0_0 l0_1) else (impl_GoodSnap.j0 k (l0_0.length : Int) true l0_0 l0_1)) = some r := H
  have A5 := xm A50
  clear A50
  by_cases c6 : t159 = true
  ·subst c6
   have H1 : (impl_GoodSnap.j0 k (l0_0.length : Int) ((l0_1.length : Int) != (wrap64 ((l0_0.length : Int) * (l0_0.length : Int)))) l0_0 l0_1) = some r := by first | (with_reducible rfl) | (rw [if_pos rfl] at H; exact H)
   clear H
   have H := H1
   clear H1
   have H' := xm H
   clear H
   go_wp2_with (first | ((with_reducible refine gate_callee (f := 86) rfl ?_); refine goesL_ (some 13) rfl rfl Try.func86 (by kernel_rfl) rfl #[.int .i64 (l0_0.length : Int), .int .i64 2, .int .i64 4] rfl mB ?_; (with_reducible refine (impl_within.calls (l0_0.length : Int) 2 4 true _ A5.out).mono ?_); rintro e w' ⟨rfl, ⟨nd, rfl⟩⟩; refine ⟨_, rfl, ?_⟩; obtain ⟨hcz7_0, hcz7_1, hfz7_0, hfz7_1⟩ := cz2 BK158.out))
   go_meet
   case rel => exact ⟨_, (((l0_1.length : Int) != (wrap64 ((l0_0.length : Int) * (l0_0.length : Int))))), (by first | rfl | (simp; done) | (simp [*]; done)), H', ⟨by first | omega | exact Nat.le_refl _⟩, ⟨by (with_reducible repeat (first | refine xq ?_ _ | refine xr ?_ | refine xo ?_ _)); exact BK158.out⟩, ⟨by repeat (first | (with_reducible first | exact HB.out | apply xa | apply xn | apply xd | refine xt ?_ GE158.out) | exact HB.out)⟩⟩
  ·replace c6 := Bool.eq_false_iff.mpr c6
   subst c6
   have H1 : (impl_GoodSnap.j0 k (l0_0.length : Int) true l0_0 l0_1) = some r := by first | (with_reducible rfl) | (rw [if_neg (show ¬ (false = true) by decide)] at H; exact H)
   clear H
   have H := H1
   clear H1
   have H' := xm H
   clear H
   go_wp2_with (first | ((with_reducible refine gate_callee (f := 86) rfl ?_); refine goesL_ (some 13) rfl rfl Try.func86 (by kernel_rfl) rfl #[.int .i64 (l0_0.length : Int), .int .i64 2, .int .i64 4] rfl mB ?_; (with_reducible refine (impl_within.calls (l0_0.length : Int) 2 4 false _ A5.out).mono ?_); rintro e w' ⟨rfl, ⟨nd, rfl⟩⟩; refine ⟨_, rfl, ?_⟩))
   go_meet
   case rel => exact ⟨_, (true), (by first | rfl | (simp; done) | (simp [*]; done)), H', ⟨by first | omega | exact Nat.le_refl _⟩, ⟨by (with_reducible repeat (first | refine xq ?_ _ | refine xr ?_ | refine xo ?_ _)); exact BK158.out⟩, ⟨by repeat (first | (with_reducible first | exact HB.out | apply xa | apply xn | apply xd | refine xt ?_ GE158.out) | exact HB.out)⟩⟩
 case rest =>
  clear HC2
  try clear p2
  try clear c5
  try clear c6
  try clear p6
  try clear hcz4_0
  try clear hcz4_1
  try clear hcz7_0
  try clear hcz7_1
  try clear hfz4_0
  try clear hfz4_1
  try clear hfz7_0
  try clear hfz7_1
  obtain ⟨kq, x23_1, rfl, HA, HJ1, BK158, HB⟩ := hcut
  cases kq with
  | zero => exact absurd HA.out (by simp [impl_GoodSnap.j0])
  | succ kj1 =>
   have H := HA.out
   clear HA
   simp only [impl_GoodSnap.j0] at H
   by_cases c8 : x23_1 = true
   ·subst c8
    have H1 : (some false) = some r := by first | (with_reducible rfl) | (rw [if_pos rfl] at H; exact H)
    clear H
    have H := H1
    clear H1
    obtain rfl := Option.some.inj H
    go_wp2
    go_ret
    exact ⟨by first | rfl | (simp [errW_none, errW_some] <;> rfl) | (simp [*, errW_none, errW_some] <;> rfl), by repeat (first | (with_reducible first | exact HB.out | apply xa | apply xn | apply xd | refine xt ?_ GE158.out) | exact HB.out)⟩
   ·replace c8 := Bool.eq_false_iff.mpr c8
    subst c8
    have H1 : (impl_GoodSnap.l0 kj1 (l0_0.length : Int) 0 l0_0 (l0_0.length : Int) 0 l0_0 l0_1) = some r := by first | (with_reducible rfl) | (rw [if_neg (show ¬ (false = true) by decide)] at H; exact H)
    clear H
    have H := H1
    clear H1
    have H' := xm H
    clear H
    obtain ⟨hcz9_0, hcz9_1, hfz9_0, hfz9_1⟩ := cz2 BK158.out
    go_wp2
    go_loopg [4, 27] kj1 (fun kq v4 v27 w' => ∃ (x4_2 : Int) (x27_2 : Int), v4 = .int .i64 x4_2 ∧ v27 = .int .i64 x27_2 ∧ Aside0 (impl_GoodSnap.l0 kq (l0_0.length : Int) x4_2 l0_0 (l0_0.length : Int) x27_2 l0_0 l0_1 = some r) ∧ Aside0 (kq ≤ kj1) ∧ Aside0 (w'.heap[gb158]? = some (.cells #[(.slice A0_0 l0_0.length c0_0), (.slice A0_1 l0_1.length c0_1)] 85 (0, 0))) ∧ Aside0 (Below w.heap.size w w'))
    case atStart => exact ⟨(0), (0), (by first | rfl | (simp; done) | (simp [*]; done)), (by first | rfl | (simp; done) | (simp [*]; done)), H', ⟨Nat.le_refl _⟩, ⟨by (with_reducible repeat (first | refine xq ?_ _ | refine xr ?_ | refine xo ?_ _)); exact BK158.out⟩, ⟨by repeat (first | (with_reducible first | exact HB.out | apply xa | apply xn | apply xd | refine xt ?_ GE158.out) | exact HB.out)⟩⟩
    case round =>
     clear H'
     try clear p2
     try clear c5
     try clear c6
     try clear p6
     try clear c8
     try clear hcz4_0
     try clear hcz4_1
     try clear hcz7_0
     try clear hcz7_1
     try clear hcz9_0
     try clear hcz9_1
     try clear hfz4_0
     try clear hfz4_1
     try clear hfz7_0
     try clear hfz7_1
     try clear hfz9_0
     try clear hfz9_1
     try clear p2
     try clear p6
     obtain ⟨x4_2, x27_2, rfl, rfl, HA, HK2, BK158, HB⟩ := hrel
     cases gk with
     | zero => exact absurd HA.out (by simp [impl_GoodSnap.l0])
     | succ k2 =>
      have H := HA.out
      clear HA
      simp only [impl_GoodSnap.l0] at H
      by_cases c10 : x27_2 < (l0_0.length : Int)
      ·rw [if_pos c10] at H
       have c10b0 : decide (x27_2 < (l0_0.length : Int)) = true := decide_eq_true c10
       clear c10
       by_cases c11 : 0 ≤ x27_2
       ·rw [if_pos c11] at H
        have c11b0 : decide (0 ≤ x27_2) = true := decide_eq_true c11
        clear c11
        by_cases c12 : x27_2 < (l0_0.length : Int)
        ·rw [if_pos c12] at H
         have c12b0 : decide (x27_2 < (l0_0.length : Int)) = true := decide_eq_true c12
         clear c12
         replace H := Option.bind_eq_some_iff.mp H
         obtain ⟨t162, A130, H⟩ := H
         replace H : (if t162 = true then ((impl_within.f ((rd_T138 l0_0 x27_2).f1) 0 2000000000).bind fun t163 => (if t163 = true then (if ((rd_T138 l0_0 x27_2).f2 = true) then (impl_GoodSnap.l0 k2 (l0_0.length : Int) (wrap64 (x4_2 + (wrap64 (((rd_T138 l0_0 x27_2).f0) + ((rd_T138 l0_0 x27_2).f1))))) l0_0 (l0_0.length : Int) (wrap64 (x27_2 + 1)) l0_0 l0_1) else (if ((rd_T138 l0_0 x27_2).f1) = 0 then (impl_GoodSnap.l0 k2 (l0_0.length : Int) (wrap64 (x4_2 + (wrap64 (((rd_T138 l0_0 x27_2).f0) + ((rd_T138 l0_0 x27_2).f1))))) l0_0 (l0_0.length : Int) (wrap64 (x27_2 + 1)) l0_0 l0_1) else (some false))) else (some false))) else (some false)) = some r := H
         have A13 := xm A130
         clear A130
         by_cases c14 : t162 = true
         ·subst c14
          have H1 : ((impl_within.f ((rd_T138 l0_0 x27_2).f1) 0 2000000000).bind fun t163 => (if t163 = true then (if ((rd_T138 l0_0 x27_2).f2 = true) then (impl_GoodSnap.l0 k2 (l0_0.length : Int) (wrap64 (x4_2 + (wrap64 (((rd_T138 l0_0 x27_2).f0) + ((rd_T138 l0_0 x27_2).f1))))) l0_0 (l0_0.length : Int) (wrap64 (x27_2 + 1)) l0_0 l0_1) else (if ((rd_T138 l0_0 x27_2).f1) = 0 then (impl_GoodSnap.l0 k2 (l0_0.length : Int) (wrap64 (x4_2 + (wrap64 (((rd_T138 l0_0 x27_2).f0) + ((rd_T138 l0_0 x27_2).f1))))) l0_0 (l0_0.length : Int) (wrap64 (x27_2 + 1)) l0_0 l0_1) else (some false))) else (some false))) = some r := by first | (with_reducible rfl) | (rw [if_pos rfl] at H; exact H)
          clear H
          have H := H1
          clear H1
          replace H := Option.bind_eq_some_iff.mp H
          obtain ⟨t163, A150, H⟩ := H
          replace H : (if t163 = true then (if ((rd_T138 l0_0 x27_2).f2 = true) then (impl_GoodSnap.l0 k2 (l0_0.length : Int) (wrap64 (x4_2 + (wrap64 (((rd_T138 l0_0 x27_2).f0) + ((rd_T138 l0_0 x27_2).f1))))) l0_0 (l0_0.length : Int) (wrap64 (x27_2 + 1)) l0_0 l0_1) else (if ((rd_T138 l0_0 x27_2).f1) = 0 then (impl_GoodSnap.l0 k2 (l0_0.length : Int) (wrap64 (x4_2 + (wrap64 (((rd_T138 l0_0 x27_2).f0) + ((rd_T138 l0_0 x27_2).f1))))) l0_0 (l0_0.length : Int) (wrap64 (x27_2 + 1)) l0_0 l0_1) else (some false))) else (some false)) = some r := H
          have A15 := xm A150
          clear A150
          by_cases c16 : t163 = true
          ·subst c16
           have H1 : (if ((rd_T138 l0_0 x27_2).f2 = true) then (impl_GoodSnap.l0 k2 (l0_0.length : Int) (wrap64 (x4_2 + (wrap64 (((rd_T138 l0_0 x27_2).f0) + ((rd_T138 l0_0 x27_2).f1))))) l0_0 (l0_0.length : Int) (wrap64 (x27_2 + 1)) l0_0 l0_1) else (if ((rd_T138 l0_0 x27_2).f1) = 0 then (impl_GoodSnap.l0 k2 (l0_0.length : Int) (wrap64 (x4_2 + (wrap64 (((rd_T138 l0_0 x27_2).f0) + ((rd_T138 l0_0 x27_2).f1))))) l0_0 (l0_0.length : Int) (wrap64 (x27_2 + 1)) l0_0 l0_1) else (some false))) = some r := by first | (with_reducible rfl) | (rw [if_pos rfl] at H; exact H)
           clear H
           have H := H1
           clear H1
           obtain ⟨bq17, hbq17⟩ : ∃ b_ : Bool, b_ = ((rd_T138 l0_0 x27_2).f2) := ⟨_, rfl⟩
           replace H : (if (bq17 = true) then (impl_GoodSnap.l0 k2 (l0_0.length : Int) (wrap64 (x4_2 + (wrap64 (((rd_T138 l0_0 x27_2).f0) + ((rd_T138 l0_0 x27_2).f1))))) l0_0 (l0_0.length : Int) (wrap64 (x27_2 + 1)) l0_0 l0_1) else (if ((rd_T138 l0_0 x27_2).f1) = 0 then (impl_GoodSnap.l0 k2 (l0_0.length : Int) (wrap64 (x4_2 + (wrap64 (((rd_T138 l0_0 x27_2).f0) + ((rd_T138 l0_0 x27_2).f1))))) l0_0 (l0_0.length : Int) (wrap64 (x27_2 + 1)) l0_0 l0_1) else (some false))) = some r := by rw [← hbq17] at H; exact H
           have Nbq17 := xm hbq17
           clear hbq17
           by_cases c18 : (bq17 = true)
           ·subst c18
            have H1 : (impl_GoodSnap.l0 k2 (l0_0.length : Int) (wrap64 (x4_2 + (wrap64 (((rd_T138 l0_0 x27_2).f0) + ((rd_T138 l0_0 x27_2).f1))))) l0_0 (l0_0.length : Int) (wrap64 (x27_2 + 1)) l0_0 l0_1) = some r := by first | (with_reducible rfl) | (rw [if_pos rfl] at H; exact H)
            clear H
            have H := H1
            clear H1
            have H' := xm H
            clear H
            have p160 : 0 ≤ (x27_2 : Int) := of_decide_eq_true aB
            have q160 : x27_2 < (l0_0.length : Int) := of_decide_eq_true aB
            obtain ⟨ad160, e160, hx160_0, hx160_1, hx160_2⟩ := at_T138 HR0_0.out x27_2 p160 q160
            (try rw [← Nbq17.out] at hx160_2)
            cases e160
            replace hx160_0 := (HB.out.cell (World.block_lt_of_cell? w _ hx160_0)).trans hx160_0
            replace hx160_1 := (HB.out.cell (World.block_lt_of_cell? w _ hx160_1)).trans hx160_1
            replace hx160_2 := (HB.out.cell (World.block_lt_of_cell? w _ hx160_2)).trans hx160_2
            replace p160 := eq_true p160
            replace q160 := eq_true q160
            go_wp2_with (first | ((with_reducible refine gate_dst (N := 6) rfl ?_); (try (refine gate_guard (by rfl) ?_; dsimp only)); refine box_event ?hg (N := 6) ?hd (cs := #[.int .i64 0, .int .i64 0, .bool false]) (t := 138) ?hr ?_; (case hd => rfl); (case hg => rfl); (case hr => exact zB); intro gb161 hg w19 hbox hb; have n0_ := xm (blk_below (kB BK158) hb); have n1_ := xm (below_step bG hb); have n2_ := xm (hbox); have n3_ := xm ((by rw [hg]; exact (xz bG) : w.heap.size ≤ gb161)); have n4_ := xm ((by rw [hg]; exact (xz bG) : w.heap.size ≤ gb161)); have n5_ := xm ((by rw [hg]; exact Nat.ne_of_lt (blk_lt (kB BK158)) : gb158 ≠ gb161)); have n6_ := xm ((by rw [hg]; exact Nat.ne_of_gt (blk_lt (kB BK158)) : gb161 ≠ gb158)); clear BK158; clear HB; have BK158 := n0_; have HB := n1_; have BK161 := n2_; have GW161 := n3_; have GE161 := n4_; have NB158_161 := n5_; have NB161_158 := n6_; clear n0_ n1_ n2_ n3_ n4_ n5_ n6_; clear hb hbox hg; have hnb20 := NB161_158.out; have hnc20 := NB158_161.out; obtain ⟨hcz21_0, hcz21_1, hcz21_2, hfz21_0, hfz21_1, hfz21_2⟩ := cz3 BK161.out) | ((with_reducible refine gate_callee (f := 86) rfl ?_); refine goesL_ (some 33) rfl rfl Try.func86 (by kernel_rfl) rfl #[.int .i64 ((rd_T138 l0_0 x27_2).f0), .int .i64 0, .int .i64 2000000000] rfl mB ?_; (with_reducible refine (impl_within.calls ((rd_T138 l0_0 x27_2).f0) 0 2000000000 true _ A13.out).mono ?_); rintro e w' ⟨rfl, ⟨nd, rfl⟩⟩; refine ⟨_, rfl, ?_⟩) | (go_at_call 86; (with_reducible refine (impl_within.calls ((rd_T138 l0_0 x27_2).f1) 0 2000000000 true _ A15.out).mono ?_); rintro e w' ⟨rfl, ⟨nd, rfl⟩⟩))
            go_roundg k2
            case measure => have := HJ1.out; have := HK2.out; omega
            case rel => (try rw [← Nbq17.out]); exact ⟨(wrap64 (x4_2 + (wrap64 (((rd_T138 l0_0 x27_2).f0) + ((rd_T138 l0_0 x27_2).f1))))), (wrap64 (x27_2 + 1)), (by first | rfl | (simp; done) | (simp [*]; done)), (by first | rfl | (simp; done) | (simp [*]; done)), H', ⟨by have := HJ1.out; have := HK2.out; omega⟩, ⟨by (with_reducible repeat (first | refine xq ?_ _ | refine xr ?_ | refine xo ?_ _)); refine blk_far ?_ NB158_161.out _; (with_reducible repeat (first | refine xq ?_ _ | refine xr ?_ | refine xo ?_ _)); refine blk_far ?_ NB158_161.out _; (with_reducible repeat (first | refine xq ?_ _ | refine xr ?_ | refine xo ?_ _)); refine blk_far ?_ NB158_161.out _; (with_reducible repeat (first | refine xq ?_ _ | refine xr ?_ | refine xo ?_ _)); exact BK158.out⟩, ⟨by repeat (first | (with_reducible first | exact HB.out | apply xa | apply xn | apply xd | refine xt ?_ GE158.out | refine xt ?_ GE161.out) | exact HB.out)⟩⟩
           ·replace c18 := Bool.eq_false_iff.mpr c18
            subst c18
            have H1 : (if ((rd_T138 l0_0 x27_2).f1) = 0 then (impl_GoodSnap.l0 k2 (l0_0.length : Int) (wrap64 (x4_2 + (wrap64 (((rd_T138 l0_0 x27_2).f0) + ((rd_T138 l0_0 x27_2).f1))))) l0_0 (l0_0.length : Int) (wrap64 (x27_2 + 1)) l0_0 l0_1) else (some false)) = some r := by first | (with_reducible rfl) | (rw [if_neg (show ¬ (false = true) by decide)] at H; exact H)
            clear H
            have H := H1
            clear H1
            by_cases c22 : ((rd_T138 l0_0 x27_2).f1) = 0
            ·rw [if_pos c22] at H
             have c22b0 : (((rd_T138 l0_0 x27_2).f1) == 0) = true := beq_iff_eq.mpr c22
             have c22b1 : (((rd_T138 l0_0 x27_2).f1) != 0) = false := bne_eq_false_iff_eq.mpr c22
             clear c22
             have H' := xm H
             clear H
             have p160 : 0 ≤ (x27_2 : Int) := of_decide_eq_true aB
             have q160 : x27_2 < (l0_0.length : Int) := of_decide_eq_true aB
             obtain ⟨ad160, e160, hx160_0, hx160_1, hx160_2⟩ := at_T138 HR0_0.out x27_2 p160 q160
             (try rw [← Nbq17.out] at hx160_2)
             cases e160
             replace hx160_0 := (HB.out.cell (World.block_lt_of_cell? w _ hx160_0)).trans hx160_0
             replace hx160_1 := (HB.out.cell (World.block_lt_of_cell? w _ hx160_1)).trans hx160_1
             replace hx160_2 := (HB.out.cell (World.block_lt_of_cell? w _ hx160_2)).trans hx160_2
             replace p160 := eq_true p160
             replace q160 := eq_true q160
             go_wp2_with (first | ((with_reducible refine gate_dst (N := 6) rfl ?_); (try (refine gate_guard (by rfl) ?_; dsimp only)); refine box_event ?hg (N := 6) ?hd (cs := #[.int .i64 0, .int .i64 0, .bool false]) (t := 138) ?hr ?_; (case hd => rfl); (case hg => rfl); (case hr => exact zB); intro gb161 hg w23 hbox hb; have n0_ := xm (blk_below (kB BK158) hb); have n1_ := xm (below_step bG hb); have n2_ := xm (hbox); have n3_ := xm ((by rw [hg]; exact (xz bG) : w.heap.size ≤ gb161)); have n4_ := xm ((by rw [hg]; exact (xz bG) : w.heap.size ≤ gb161)); have n5_ := xm ((by rw [hg]; exact Nat.ne_of_lt (blk_lt (kB BK158)) : gb158 ≠ gb161)); have n6_ := xm ((by rw [hg]; exact Nat.ne_of_gt (blk_lt (kB BK158)) : gb161 ≠ gb158)); clear BK158; clear HB; have BK158 := n0_; have HB := n1_; have BK161 := n2_; have GW161 := n3_; have GE161 := n4_; have NB158_161 := n5_; have NB161_158 := n6_; clear n0_ n1_ n2_ n3_ n4_ n5_ n6_; clear hb hbox hg; have hnb24 := NB161_158.out; have hnc24 := NB158_161.out; obtain ⟨hcz25_0, hcz25_1, hcz25_2, hfz25_0, hfz25_1, hfz25_2⟩ := cz3 BK161.out) | ((with_reducible refine gate_callee (f := 86) rfl ?_); refine goesL_ (some 33) rfl rfl Try.func86 (by kernel_rfl) rfl #[.int .i64 ((rd_T138 l0_0 x27_2).f0), .int .i64 0, .int .i64 2000000000] rfl mB ?_; (with_reducible refine (impl_within.calls ((rd_T138 l0_0 x27_2).f0) 0 2000000000 true _ A13.out).mono ?_); rintro e w' ⟨rfl, ⟨nd, rfl⟩⟩; refine ⟨_, rfl, ?_⟩) | (go_at_call 86; (with_reducible refine (impl_within.calls ((rd_T138 l0_0 x27_2).f1) 0 2000000000 true _ A15.out).mono ?_); rintro e w' ⟨rfl, ⟨nd, rfl⟩⟩))
             go_roundg k2
             case measure => have := HJ1.out; have := HK2.out; omega
             case rel => (try rw [← Nbq17.out]); exact ⟨(wrap64 (x4_2 + (wrap64 (((rd_T138 l0_0 x27_2).f0) + ((rd_T138 l0_0 x27_2).f1))))), (wrap64 (x27_2 + 1)), (by first | rfl | (simp; done) | (simp [*]; done)), (by first | rfl | (simp; done) | (simp [*]; done)), H', ⟨by have := HJ1.out; have := HK2.out; omega⟩, ⟨by (with_reducible repeat (first | refine xq ?_ _ | refine xr ?_ | refine xo ?_ _)); refine blk_far ?_ NB158_161.out _; (with_reducible repeat (first | refine xq ?_ _ | refine xr ?_ | refine xo ?_ _)); refine blk_far ?_ NB158_161.out _; (with_reducible repeat (first | refine xq ?_ _ | refine xr ?_ | refine xo ?_ _)); refine blk_far ?_ NB158_161.out _; (with_reducible repeat (first | refine xq ?_ _ | refine xr ?_ | refine xo ?_ _)); exact BK158.out⟩, ⟨by repeat (first | (with_reducible first | exact HB.out | apply xa | apply xn | apply xd | refine xt ?_ GE158.out | refine xt ?_ GE161.out) | exact HB.out)⟩⟩
            ·rw [if_neg c22] at H
             have c22b0 : (((rd_T138 l0_0 x27_2).f1) == 0) = false := beq_eq_false_iff_ne.mpr c22
             have c22b1 : (((rd_T138 l0_0 x27_2).f1) != 0) = true := bne_iff_ne.mpr c22
             obtain rfl := Option.some.inj H
             have p160 : 0 ≤ (x27_2 : Int) := of_decide_eq_true aB
             have q160 : x27_2 < (l0_0.length : Int) := of_decide_eq_true aB
             obtain ⟨ad160, e160, hx160_0, hx160_1, hx160_2⟩ := at_T138 HR0_0.out x27_2 p160 q160
             (try rw [← Nbq17.out] at hx160_2)
             cases e160
             replace hx160_0 := (HB.out.cell (World.block_lt_of_cell? w _ hx160_0)).trans hx160_0
             replace hx160_1 := (HB.out.cell (World.block_lt_of_cell? w _ hx160_1)).trans hx160_1
             replace hx160_2 := (HB.out.cell (World.block_lt_of_cell? w _ hx160_2)).trans hx160_2
             replace p160 := eq_true p160
             replace q160 := eq_true q160
             go_wp2_with (first | ((with_reducible refine gate_dst (N := 6) rfl ?_); (try (refine gate_guard (by rfl) ?_; dsimp only)); refine box_event ?hg (N := 6) ?hd (cs := #[.int .i64 0, .int .i64 0, .bool false]) (t := 138) ?hr ?_; (case hd => rfl); (case hg => rfl); (case hr => exact zB); intro gb161 hg w26 hbox hb; have n0_ := xm (blk_below (kB BK158) hb); have n1_ := xm (below_step bG hb); have n2_ := xm (hbox); have n3_ := xm ((by rw [hg]; exact (xz bG) : w.heap.size ≤ gb161)); have n4_ := xm ((by rw [hg]; exact (xz bG) : w.heap.size ≤ gb161)); have n5_ := xm ((by rw [hg]; exact Nat.ne_of_lt (blk_lt (kB BK158)) : gb158 ≠ gb161)); have n6_ := xm ((by rw [hg]; exact Nat.ne_of_gt (blk_lt (kB BK158)) : gb161 ≠ gb158)); clear BK158; clear HB; have BK158 := n0_; have HB := n1_; have BK161 := n2_; have GW161 := n3_; have GE161 := n4_; have NB158_161 := n5_; have NB161_158 := n6_; clear n0_ n1_ n2_ n3_ n4_ n5_ n6_; clear hb hbox hg; have hnb27 := NB161_158.out; have hnc27 := NB158_161.out; obtain ⟨hcz28_0, hcz28_1, hcz28_2, hfz28_0, hfz28_1, hfz28_2⟩ := cz3 BK161.out) | ((with_reducible refine gate_callee (f := 86) rfl ?_); refine goesL_ (some 33) rfl rfl Try.func86 (by kernel_rfl) rfl #[.int .i64 ((rd_T138 l0_0 x27_2).f0), .int .i64 0, .int .i64 2000000000] rfl mB ?_; (with_reducible refine (impl_within.calls ((rd_T138 l0_0 x27_2).f0) 0 2000000000 true _ A13.out).mono ?_); rintro e w' ⟨rfl, ⟨nd, rfl⟩⟩; refine ⟨_, rfl, ?_⟩) | (go_at_call 86; (with_reducible refine (impl_within.calls ((rd_T138 l0_0 x27_2).f1) 0 2000000000 true _ A15.out).mono ?_); rintro e w' ⟨rfl, ⟨nd, rfl⟩⟩))
             go_ret
             exact ⟨by first | rfl | (simp [errW_none, errW_some] <;> rfl) | (simp [*, errW_none, errW_some] <;> rfl), by repeat (first | (with_reducible first | exact HB.out | apply xa | apply xn | apply xd | refine xt ?_ GE158.out | refine xt ?_ GE161.out) | exact HB.out)⟩
          ·replace c16 := Bool.eq_false_iff.mpr c16
           subst c16
           have H1 : (some false) = some r := by first | (with_reducible rfl) | (rw [if_neg (show ¬ (false = true) by decide)] at H; exact H)
           clear H
           have H := H1
           clear H1
           obtain rfl := Option.some.inj H
           have p160 : 0 ≤ (x27_2 : Int) := of_decide_eq_true aB
           have q160 : x27_2 < (l0_0.length : Int) := of_decide_eq_true aB
           obtain ⟨ad160, e160, hx160_0, hx160_1, hx160_2⟩ := at_T138 HR0_0.out x27_2 p160 q160
           cases e160
           replace hx160_0 := (HB.out.cell (World.block_lt_of_cell? w _ hx160_0)).trans hx160_0
           replace hx160_1 := (HB.out.cell (World.block_lt_of_cell? w _ hx160_1)).trans hx160_1
           replace hx160_2 := (HB.out.cell (World.block_lt_of_cell? w _ hx160_2)).trans hx160_2
           replace p160 := eq_true p160
           replace q160 := eq_true q160
           go_wp2_with (first | ((with_reducible refine gate_dst (N := 6) rfl ?_); (try (refine gate_guard (by rfl) ?_; dsimp only)); refine box_event ?hg (N := 6) ?hd (cs := #[.int .i64 0, .int .i64 0, .bool false]) (t := 138) ?hr ?_; (case hd => rfl); (case hg => rfl); (case hr => exact zB); intro gb161 hg w29 hbox hb; have n0_ := xm (blk_below (kB BK158) hb); have n1_ := xm (below_step bG hb); have n2_ := xm (hbox); have n3_ := xm ((by rw [hg]; exact (xz bG) : w.heap.size ≤ gb161)); have n4_ := xm ((by rw [hg]; exact (xz bG) : w.heap.size ≤ gb161)); have n5_ := xm ((by rw [hg]; exact Nat.ne_of_lt (blk_lt (kB BK158)) : gb158 ≠ gb161)); have n6_ := xm ((by rw [hg]; exact Nat.ne_of_gt (blk_lt (kB BK158)) : gb161 ≠ gb158)); clear BK158; clear HB; have BK158 := n0_; have HB := n1_; have BK161 := n2_; have GW161 := n3_; have GE161 := n4_; have NB158_161 := n5_; have NB161_158 := n6_; clear n0_ n1_ n2_ n3_ n4_ n5_ n6_; clear hb hbox hg; have hnb30 := NB161_158.out; have hnc30 := NB158_161.out; obtain ⟨hcz31_0, hcz31_1, hcz31_2, hfz31_0, hfz31_1, hfz31_2⟩ := cz3 BK161.out) | ((with_reducible refine gate_callee (f := 86) rfl ?_); refine goesL_ (some 33) rfl rfl Try.func86 (by kernel_rfl) rfl #[.int .i64 ((rd_T138 l0_0 x27_2).f0), .int .i64 0, .int .i64 2000000000] rfl mB ?_; (with_reducible refine (impl_within.calls ((rd_T138 l0_0 x27_2).f0) 0 2000000000 true _ A13.out).mono ?_); rintro e w' ⟨rfl, ⟨nd, rfl⟩⟩; refine ⟨_, rfl, ?_⟩) | (go_at_call 86; (with_reducible refine (impl_within.calls ((rd_T138 l0_0 x27_2).f1) 0 2000000000 false _ A15.out).mono ?_); rintro e w' ⟨rfl, ⟨nd, rfl⟩⟩))
           go_ret
           exact ⟨by first | rfl | (simp [errW_none, errW_some] <;> rfl) | (simp [*, errW_none, errW_some] <;> rfl), by repeat (first | (with_reducible first | exact HB.out | apply xa | apply xn | apply xd | refine xt ?_ GE158.out | refine xt ?_ GE161.out) | exact HB.out)⟩
         ·replace c14 := Bool.eq_false_iff.mpr c14
          subst c14
          have H1 : (some false) = some r := by first | (with_reducible rfl) | (rw [if_neg (show ¬ (false = true) by decide)] at H; exact H)
          clear H
          have H := H1
          clear H1
          obtain rfl := Option.some.inj H
          have p160 : 0 ≤ (x27_2 : Int) := of_decide_eq_true aB
          have q160 : x27_2 < (l0_0.length : Int) := of_decide_eq_true aB
          obtain ⟨ad160, e160, hx160_0, hx160_1, hx160_2⟩ := at_T138 HR0_0.out x27_2 p160 q160
          cases e160
          replace hx160_0 := (HB.out.cell (World.block_lt_of_cell? w _ hx160_0)).trans hx160_0
          replace hx160_1 := (HB.out.cell (World.block_lt_of_cell? w _ hx160_1)).trans hx160_1
          replace hx160_2 := (HB.out.cell (World.block_lt_of_cell? w _ hx160_2)).trans hx160_2
          replace p160 := eq_true p160
          replace q160 := eq_true q160
          go_wp2_with (first | ((with_reducible refine gate_dst (N := 6) rfl ?_); (try (refine gate_guard (by rfl) ?_; dsimp only)); refine box_event ?hg (N := 6) ?hd (cs := #[.int .i64 0, .int .i64 0, .bool false]) (t := 138) ?hr ?_; (case hd => rfl); (case hg => rfl); (case hr => exact zB); intro gb161 hg w32 hbox hb; have n0_ := xm (blk_below (kB BK158) hb); have n1_ := xm (below_step bG hb); have n2_ := xm (hbox); have n3_ := xm ((by rw [hg]; exact (xz bG) : w.heap.size ≤ gb161)); have n4_ := xm ((by rw [hg]; exact (xz bG) : w.heap.size ≤ gb161)); have n5_ := xm ((by rw [hg]; exact Nat.ne_of_lt (blk_lt (kB BK158)) : gb158 ≠ gb161)); have n6_ := xm ((by rw [hg]; exact Nat.ne_of_gt (blk_lt (kB BK158)) : gb161 ≠ gb158)); clear BK158; clear HB; have BK158 := n0_; have HB := n1_; have BK161 := n2_; have GW161 := n3_; have GE161 := n4_; have NB158_161 := n5_; have NB161_158 := n6_; clear n0_ n1_ n2_ n3_ n4_ n5_ n6_; clear hb hbox hg; have hnb33 := NB161_158.out; have hnc33 := NB158_161.out; obtain ⟨hcz34_0, hcz34_1, hcz34_2, hfz34_0, hfz34_1, hfz34_2⟩ := cz3 BK161.out) | ((with_reducible refine gate_callee (f := 86) rfl ?_); refine goesL_ (some 33) rfl rfl Try.func86 (by kernel_rfl) rfl #[.int .i64 ((rd_T138 l0_0 x27_2).f0), .int .i64 0, .int .i64 2000000000] rfl mB ?_; (with_reducible refine (impl_within.calls ((rd_T138 l0_0 x27_2).f0) 0 2000000000 false _ A13.out).mono ?_); rintro e w' ⟨rfl, ⟨nd, rfl⟩⟩; refine ⟨_, rfl, ?_⟩))
          go_ret
          exact ⟨by first | rfl | (simp [errW_none, errW_some] <;> rfl) | (simp [*, errW_none, errW_some] <;> rfl), by repeat (first | (with_reducible first | exact HB.out | apply xa | apply xn | apply xd | refine xt ?_ GE158.out | refine xt ?_ GE161.out) | exact HB.out)⟩
        ·rw [if_neg c12] at H
         exact absurd H (by simp)
       ·rw [if_neg c11] at H
        exact absurd H (by simp)
      ·rw [if_neg c10] at H
       have c10b0 : decide (x27_2 < (l0_0.length : Int)) = false := decide_eq_false c10
       clear c10
       have H' := xm H
       clear H
       obtain ⟨hcz35_0, hcz35_1, hfz35_0, hfz35_1⟩ := cz2 BK158.out
       go_wp2
       go_loopg [4, 62] k2 (fun kq v4 v62 w' => ∃ (x4_3 : Int) (x62_3 : Int), v4 = .int .i64 x4_3 ∧ v62 = .int .i64 x62_3 ∧ Aside0 (impl_GoodSnap.l1 kq (l0_0.length : Int) x4_3 l0_1 (l0_1.length : Int) x62_3 l0_0 l0_1 = some r) ∧ Aside0 (kq ≤ k2) ∧ Aside0 (w'.heap[gb158]? = some (.cells #[(.slice A0_0 l0_0.length c0_0), (.slice A0_1 l0_1.length c0_1)] 85 (0, 0))) ∧ Aside0 (Below w.heap.size w w'))
       case atStart => exact ⟨(x4_2), (0), (by first | rfl | (simp; done) | (simp [*]; done)), (by first | rfl | (simp; done) | (simp [*]; done)), H', ⟨Nat.le_refl _⟩, ⟨by (with_reducible repeat (first | refine xq ?_ _ | refine xr ?_ | refine xo ?_ _)); exact BK158.out⟩, ⟨by repeat (first | (with_reducible first | exact HB.out | apply xa | apply xn | apply xd | refine xt ?_ GE158.out) | exact HB.out)⟩⟩
       case round =>
        clear H'
        try clear c1
        try clear p1
        try clear q1
        try clear hx1
        try clear c2
        try clear p2
        try clear c3
        try clear c5
        try clear c6
        try clear p6
        try clear c8
        try clear c10
        try clear c10b0
        try clear c11
        try clear c11b0
        try clear c12
        try clear c12b0
        try clear c14
        try clear c16
        try clear p16
        try clear q16
        try clear hx16
        try clear q17
        try clear c18
        try clear c20
        try clear c22
        try clear c22b0
        try clear c22b1
        try clear c24
        try clear c27
        try clear c30
        try clear c33
        try clear hcz21_0
        try clear hcz21_1
        try clear hcz21_2
        try clear hcz25_0
        try clear hcz25_1
        try clear hcz25_2
        try clear hcz28_0
        try clear hcz28_1
        try clear hcz28_2
        try clear hcz31_0
        try clear hcz31_1
        try clear hcz31_2
        try clear hcz34_0
        try clear hcz34_1
        try clear hcz34_2
        try clear hcz35_0
        try clear hcz35_1
        try clear hcz4_0
        try clear hcz4_1
        try clear hcz7_0
        try clear hcz7_1
        try clear hcz9_0
        try clear hcz9_1
        try clear hfz21_0
        try clear hfz21_1
        try clear hfz21_2
        try clear hfz25_0
        try clear hfz25_1
        try clear hfz25_2
        try clear hfz28_0
        try clear hfz28_1
        try clear hfz28_2
        try clear hfz31_0
        try clear hfz31_1
        try clear hfz31_2
        try clear hfz34_0
        try clear hfz34_1
        try clear hfz34_2
        try clear hfz35_0
        try clear hfz35_1
        try clear hfz4_0
        try clear hfz4_1
        try clear hfz7_0
        try clear hfz7_1
        try clear hfz9_0
        try clear hfz9_1
        try clear hx160_0
        try clear hx160_1
        try clear hx160_2
        try clear p160
        try clear p2
        try clear p6
        try clear q160
        obtain ⟨x4_3, x62_3, rfl, rfl, HA, HK3, BK158, HB⟩ := hrel
        cases gk with
        | zero => exact absurd HA.out (by simp [impl_GoodSnap.l1])
        | succ k3 =>
         have H := HA.out
         clear HA
         simp only [impl_GoodSnap.l1] at H
         by_cases c36 : x62_3 < (l0_1.length : Int)
         ·rw [if_pos c36] at H
          have c36b0 : decide (x62_3 < (l0_1.length : Int)) = true := decide_eq_true c36
          clear c36
          by_cases c37 : 0 ≤ x62_3
          ·rw [if_pos c37] at H
           have c37b0 : decide (0 ≤ x62_3) = true := decide_eq_true c37
           clear c37
           by_cases c38 : x62_3 < (l0_1.length : Int)
           ·rw [if_pos c38] at H
            have c38b0 : decide (x62_3 < (l0_1.length : Int)) = true := decide_eq_true c38
            clear c38
            have HC39 := xm H
            clear H
            have p164 : 0 ≤ (x62_3 : Int) := of_decide_eq_true aB
            have q164 : x62_3 < (l0_1.length : Int) := of_decide_eq_true aB
            obtain ⟨ad164, A164_0, c164_0, A164_1, c164_1, e164, hx164_0, hx164_1, hx164_2, hl164_0, hi164_0, hl164_1, hi164_1⟩ := at_T140 HR0_1.out x62_3 p164 q164
            cases e164
            replace hx164_0 := (HB.out.cell (World.block_lt_of_cell? w _ hx164_0)).trans hx164_0
            replace hx164_1 := (HB.out.cell (World.block_lt_of_cell? w _ hx164_1)).trans hx164_1
            replace hx164_2 := (HB.out.cell (World.block_lt_of_cell? w _ hx164_2)).trans hx164_2
            have HR164_0 := xm hi164_0
            have HC164_0 := xm hl164_0
            clear hi164_0 hl164_0
            have HR164_1 := xm hi164_1
            have HC164_1 := xm hl164_1
            clear hi164_1 hl164_1
            replace p164 := eq_true p164
            replace q164 := eq_true q164
            go_upto_region 15 with (first | ((with_reducible refine gate_dst (N := 8) rfl ?_); (try (refine gate_guard (by rfl) ?_; dsimp only)); refine box_event ?hg (N := 8) ?hd (cs := #[.slice none 0 0, .slice none 0 0, .bool false]) (t := 140) ?hr ?_; (case hd => rfl); (case hg => rfl); (case hr => exact zB); intro gb165 hg w40 hbox hb; have n0_ := xm (blk_below (kB BK158) hb); have n1_ := xm (below_step bG hb); have n2_ := xm (hbox); have n3_ := xm ((by rw [hg]; exact (xz bG) : w.heap.size ≤ gb165)); have n4_ := xm ((by rw [hg]; exact (xz bG) : w.heap.size ≤ gb165)); have n5_ := xm ((by rw [hg]; exact Nat.ne_of_lt (blk_lt (kB BK158)) : gb158 ≠ gb165)); have n6_ := xm ((by rw [hg]; exact Nat.ne_of_gt (blk_lt (kB BK158)) : gb165 ≠ gb158)); clear BK158; clear HB; have BK158 := n0_; have HB := n1_; have BK165 := n2_; have GW165 := n3_; have GE165 := n4_; have NB158_165 := n5_; have NB165_158 := n6_; clear n0_ n1_ n2_ n3_ n4_ n5_ n6_; clear hb hbox hg; have hnb41 := NB165_158.out; have hnc41 := NB158_165.out; obtain ⟨hcz42_0, hcz42_1, hcz42_2, hfz42_0, hfz42_1, hfz42_2⟩ := cz3 BK165.out))
            (try simp only [Act.put, xi, xj, xk])
            go_cut [90] (fun v90 wc => ∃ (kq : Nat) (x90_38 : Bool), v90 = .bool x90_38 ∧ Aside0 (impl_GoodSnap.j3 kq (l0_0.length : Int) x4_3 l0_1 (l0_1.length : Int) x62_3 x90_38 l0_0 l0_1 ((rd_T140 l0_1 x62_3).f0) ((rd_T140 l0_1 x62_3).f1) ((rd_T140 l0_1 x62_3).f2) = some r) ∧ Aside0 (kq ≤ k3) ∧ Aside0 (wc.heap[gb158]? = some (.cells #[(.slice A0_0 l0_0.length c0_0), (.slice (some ad164) l0_1.length c0_1)] 85 (0, 0))) ∧ Aside0 (wc.heap[gb165]? = some (.cells #[(.slice A164_0 ((rd_T140 l0_1 x62_3).f0).length c164_0), (.slice A164_1 ((rd_T140 l0_1 x62_3).f1).length c164_1), .bool ((rd_T140 l0_1 x62_3).f2)] 140 (0, 0))) ∧ Aside0 (Below w.heap.size w wc))
            case first =>
             have H := HC39.out
             clear HC39
             by_cases c43 : (l0_0.length : Int) = 0
             ·rw [if_pos c43] at H
              exact absurd H (by simp)
             ·rw [if_neg c43] at H
              have c43b0 : ((l0_0.length : Int) == 0) = false := beq_eq_false_iff_ne.mpr c43
              have c43b1 : ((l0_0.length : Int) != 0) = true := bne_iff_ne.mpr c43
              have c43b2 : ¬ (l0_0 = []) := fun h_ => c43 (by rw [h_]; rfl)
              (first | rw [c43b0] | (simp only [i64_w, i32_w]; rw [c43b0]) | skip)
              obtain ⟨ji44, hji44⟩ : ∃ j_ : Int, (Int.tmod x62_3 (l0_0.length : Int)) = j_ := ⟨_, rfl⟩
              replace H : (if 0 ≤ (ji44) then (if (ji44) < (l0_0.length : Int) then ((impl_Wire_isWire.f ((rd_T140 l0_1 x62_3).f0) ((rd_T140 l0_1 x62_3).f1) ((rd_T140 l0_1 x62_3).f2) ((rd_T138 l0_0 (ji44)).f0) ((rd_T138 l0_0 (ji44)).f1) ((rd_T138 l0_0 (ji44)).f2)).bind fun t167 => (if t167 = true then (if (wrap64 (Int.tdiv x62_3 (l0_0.length : Int))) = (ji44) then ((impl_Wire_isNone.f ((rd_T140 l0_1 x62_3).f0) ((rd_T140 l0_1 x62_3).f1) ((rd_T140 l0_1 x62_3).f2)).bind fun t168 => (impl_GoodSnap.j3 k3 (l0_0.length : Int) x4_3 l0_1 (l0_1.length : Int) x62_3 (!t168) l0_0 l0_1 ((rd_T140 l0_1 x62_3).f0) ((rd_T140 l0_1 x62_3).f1) ((rd_T140 l0_1 x62_3).f2))) else (impl_GoodSnap.j3 k3 (l0_0.length : Int) x4_3 l0_1 (l0_1.length : Int) x62_3 false l0_0 l0_1 ((rd_T140 l0_1 x62_3).f0) ((rd_T140 l0_1 x62_3).f1) ((rd_T140 l0_1 x62_3).f2))) else (impl_GoodSnap.j3 k3 (l0_0.length : Int) x4_3 l0_1 (l0_1.length : Int) x62_3 true l0_0 l0_1 ((rd_T140 l0_1 x62_3).f0) ((rd_T140 l0_1 x62_3).f1) ((rd_T140 l0_1 x62_3).f2)))) else (none)) else (none)) = some r := by first | (rw [hji44] at H; exact H) | (simp only [hji44] at H ⊢; exact H)
              by_cases c45 : 0 ≤ (ji44)
              ·rw [if_pos c45] at H
               have c45b0 : decide (0 ≤ (ji44)) = true := decide_eq_true c45
               clear c45
               by_cases c46 : (ji44) < (l0_0.length : Int)
               ·rw [if_pos c46] at H
                have c46b0 : decide ((ji44) < (l0_0.length : Int)) = true := decide_eq_true c46
                clear c46
                replace H := Option.bind_eq_some_iff.mp H
                obtain ⟨t167, A470, H⟩ := H
                replace H : (if t167 = true then (if (wrap64 (Int.tdiv x62_3 (l0_0.length : Int))) = (ji44) then ((impl_Wire_isNone.f ((rd_T140 l0_1 x62_3).f0) ((rd_T140 l0_1 x62_3).f1) ((rd_T140 l0_1 x62_3).f2)).bind fun t168 => (impl_GoodSnap.j3 k3 (l0_0.length : Int) x4_3 l0_1 (l0_1.length : Int) x62_3 (!t168) l0_0 l0_1 ((rd_T140 l0_1 x62_3).f0) ((rd_T140 l0_1 x62_3).f1) ((rd_T140 l0_1 x62_3).f2))) else (impl_GoodSnap.j3 k3 (l0_0.length : Int) x4_3 l0_1 (l0_1.length : Int) x62_3 false l0_0 l0_1 ((rd_T140 l0_1 x62_3).f0) ((rd_T140 l0_1 x62_3).f1) ((rd_T140 l0_1 x62_3).f2))) else (impl_GoodSnap.j3 k3 (l0_0.length : Int) x4_3 l0_1 (l0_1.length : Int) x62_3 true l0_0 l0_1 ((rd_T140 l0_1 x62_3).f0) ((rd_T140 l0_1 x62_3).f1) ((rd_T140 l0_1 x62_3).f2))) = some r := H
                have A47 := xm A470
                clear A470
                by_cases c48 : t167 = true
                ·subst c48
                 have H1 : (if (wrap64 (Int.tdiv x62_3 (l0_0.length : Int))) = (ji44) then ((impl_Wire_isNone.f ((rd_T140 l0_1 x62_3).f0) ((rd_T140 l0_1 x62_3).f1) ((rd_T140 l0_1 x62_3).f2)).bind fun t168 => (impl_GoodSnap.j3 k3 (l0_0.length : Int) x4_3 l0_1 (l0_1.length : Int) x62_3 (!t168) l0_0 l0_1 ((rd_T140 l0_1 x62_3).f0) ((rd_T140 l0_1 x62_3).f1) ((rd_T140 l0_1 x62_3).f2))) else (impl_GoodSnap.j3 k3 (l0_0.length : Int) x4_3 l0_1 (l0_1.length : Int) x62_3 false l0_0 l0_1 ((rd_T140 l0_1 x62_3).f0) ((rd_T140 l0_1 x62_3).f1) ((rd_T140 l0_1 x62_3).f2))) = some r := by first | (with_reducible rfl) | (rw [if_pos rfl] at H; exact H)
                 clear H
                 have H := H1
                 clear H1
                 by_cases c49 : (wrap64 (Int.tdiv x62_3 (l0_0.length : Int))) = (ji44)
                 ·rw [if_pos c49] at H
                  have c49b0 : ((wrap64 (Int.tdiv x62_3 (l0_0.length : Int))) == (ji44)) = true := beq_iff_eq.mpr c49
                  have c49b1 : ((wrap64 (Int.tdiv x62_3 (l0_0.length : Int))) != (ji44)) = false := bne_eq_false_iff_eq.mpr c49
                  clear c49
                  replace H := Option.bind_eq_some_iff.mp H
                  obtain ⟨t168, A500, H⟩ := H
                  replace H : (impl_GoodSnap.j3 k3 (l0_0.length : Int) x4_3 l0_1 (l0_1.length : Int) x62_3 (!t168) l0_0 l0_1 ((rd_T140 l0_1 x62_3).f0) ((rd_T140 l0_1 x62_3).f1) ((rd_T140 l0_1 x62_3).f2)) = some r := H
                  have A50 := xm A500
                  clear A500
                  have H' := xm H
                  clear H
                  try go_wp2
                  have n0_ : Aside0 ((((w40.setCell ⟨gb165, 0, none⟩ (.slice A164_0 ((rd_T140 l0_1 x62_3).f0).length c164_0)).setCell ⟨gb165, 1, none⟩ (.slice A164_1 ((rd_T140 l0_1 x62_3).f1).length c164_1)).setCell ⟨gb165, 2, none⟩ (.bool ((rd_T140 l0_1 x62_3).f2))).heap[gb158]? = some (.cells #[.slice A0_0 l0_0.length c0_0, .slice (some ad164) l0_1.length c0_1] 85 (0, 0))) := ⟨by (with_reducible repeat (first | refine xq ?_ _ | refine xr ?_ | refine xo ?_ _)); refine blk_far ?_ NB158_165.out _; (with_reducible repeat (first | refine xq ?_ _ | refine xr ?_ | refine xo ?_ _)); refine blk_far ?_ NB158_165.out _; (with_reducible repeat (first | refine xq ?_ _ | refine xr ?_ | refine xo ?_ _)); refine blk_far ?_ NB158_165.out _; (with_reducible repeat (first | refine xq ?_ _ | refine xr ?_ | refine xo ?_ _)); exact BK158.out⟩
                  have n1_ : Aside0 ((((w40.setCell ⟨gb165, 0, none⟩ (.slice A164_0 ((rd_T140 l0_1 x62_3).f0).length c164_0)).setCell ⟨gb165, 1, none⟩ (.slice A164_1 ((rd_T140 l0_1 x62_3).f1).length c164_1)).setCell ⟨gb165, 2, none⟩ (.bool ((rd_T140 l0_1 x62_3).f2))).heap[gb165]? = some (.cells #[.slice A164_0 ((rd_T140 l0_1 x62_3).f0).length c164_0, .slice A164_1 ((rd_T140 l0_1 x62_3).f1).length c164_1, .bool ((rd_T140 l0_1 x62_3).f2)] 140 (0, 0))) := ⟨by (with_reducible repeat (first | refine xq ?_ _ | refine xr ?_ | refine xo ?_ _)); refine blk_put (cs := #[.slice A164_0 ((rd_T140 l0_1 x62_3).f0).length c164_0, .slice A164_1 ((rd_T140 l0_1 x62_3).f1).length c164_1, .bool false]) ?_ 2 _ rfl; (with_reducible repeat (first | refine xq ?_ _ | refine xr ?_ | refine xo ?_ _)); refine blk_put (cs := #[.slice A164_0 ((rd_T140 l0_1 x62_3).f0).length c164_0, .slice none 0 0, .bool false]) ?_ 1 _ rfl; (with_reducible repeat (first | refine xq ?_ _ | refine xr ?_ | refine xo ?_ _)); refine blk_put (cs := #[.slice none 0 0, .slice none 0 0, .bool false]) ?_ 0 _ rfl; (with_reducible repeat (first | refine xq ?_ _ | refine xr ?_ | refine xo ?_ _)); exact BK165.out⟩
                  have n2_ : Aside0 (Below w.heap.size w (((w40.setCell ⟨gb165, 0, none⟩ (.slice A164_0 ((rd_T140 l0_1 x62_3).f0).length c164_0)).setCell ⟨gb165, 1, none⟩ (.slice A164_1 ((rd_T140 l0_1 x62_3).f1).length c164_1)).setCell ⟨gb165, 2, none⟩ (.bool ((rd_T140 l0_1 x62_3).f2)))) := ⟨by repeat (first | (with_reducible first | exact HB.out | apply xa | apply xn | apply xd | refine xt ?_ GE158.out | refine xt ?_ GE165.out) | exact HB.out)⟩
                  (try clear BK158)
                  (try clear BK165)
                  (try clear HB)
                  generalize (((w40.setCell ⟨gb165, 0, none⟩ (.slice A164_0 ((rd_T140 l0_1 x62_3).f0).length c164_0)).setCell ⟨gb165, 1, none⟩ (.slice A164_1 ((rd_T140 l0_1 x62_3).f1).length c164_1)).setCell ⟨gb165, 2, none⟩ (.bool ((rd_T140 l0_1 x62_3).f2))) = w51 at n0_ n1_ n2_ ⊢
                  have BK158 := n0_
                  have BK165 := n1_
                  have HB := n2_
                  clear n0_ n1_ n2_
                  have n0_ := xm (xr BK158.out)
                  have n1_ := xm (xr BK165.out)
                  have n2_ := xm (xd HB.out)
                  clear BK158
                  clear BK165
                  clear HB
                  have BK158 := n0_
                  have BK165 := n1_
                  have HB := n2_
                  clear n0_ n1_ n2_
                  have p166 : 0 ≤ ((ji44) : Int) := of_decide_eq_true aB
                  have q166 : (ji44) < (l0_0.length : Int) := of_decide_eq_true aB
                  obtain ⟨ad166, e166, hx166_0, hx166_1, hx166_2⟩ := at_T138 HR0_0.out (ji44) p166 q166
                  have hw166_2 := hx166_2
                  have hw166_1 := hx166_1
                  have hw166_0 := hx166_0
                  cases e166
                  replace hx166_0 := (HB.out.cell (World.block_lt_of_cell? w _ hx166_0)).trans hx166_0
                  replace hx166_1 := (HB.out.cell (World.block_lt_of_cell? w _ hx166_1)).trans hx166_1
                  replace hx166_2 := (HB.out.cell (World.block_lt_of_cell? w _ hx166_2)).trans hx166_2
                  replace p166 := eq_true p166
                  replace q166 := eq_true q166
                  refine start_ (n := 24) (S := fun w' => w'.cell? ⟨gb165, 0, none⟩ = some (.slice A164_0 ((rd_T140 l0_1 x62_3).f0).length c164_0) ∧ w'.cell? ⟨gb165, 1, none⟩ = some (.slice A164_1 ((rd_T140 l0_1 x62_3).f1).length c164_1) ∧ w'.cell? ⟨gb165, 2, none⟩ = some (.bool ((rd_T140 l0_1 x62_3).f2)) ∧ w'.cell? ⟨gb158, 0, none⟩ = some (.slice (some ad166) l0_0.length c0_0) ∧ w'.cell? ⟨gb158, 1, none⟩ = some (.slice (some ad164) l0_1.length c0_1) ∧ w'.cell? (ad166.add (((ji44)).toNat * 3)) = some (.int .i64 ((rd_T138 l0_0 (ji44)).f0)) ∧ w'.cell? ⟨(ad166.add (((ji44)).toNat * 3)).block, (ad166.add (((ji44)).toNat * 3)).off + 1, none⟩ = some (.int .i64 ((rd_T138 l0_0 (ji44)).f1)) ∧ w'.cell? ⟨(ad166.add (((ji44)).toNat * 3)).block, (ad166.add (((ji44)).toNat * 3)).off + 2, none⟩ = some (.bool ((rd_T138 l0_0 (ji44)).f2))) (ds := []) #[Z,Z,Z,Z,Z,Z,Z,Z,Z,Z,Z,Z,Z,Z,Z,Z,Z,Z,Z,Z,Z,Z,Z,Z] (by kernel_rfl) rfl rfl ⟨(xc BK165.out 0).trans rfl, (xc BK165.out 1).trans rfl, (xc BK165.out 2).trans rfl, (xc BK158.out 0).trans rfl, (xc BK158.out 1).trans rfl, ((HB.out.cell (World.block_lt_of_cell? w _ hw166_0)).trans hw166_0), ((HB.out.cell (World.block_lt_of_cell? w _ hw166_1)).trans hw166_1), ((HB.out.cell (World.block_lt_of_cell? w _ hw166_2)).trans hw166_2)⟩ (fun hHeld => ?_); refine with_tabW impl_GoodSnap.tab15 impl_GoodSnap.bits15 (fun HT_ HW_ => ?_)
                  generalize w51.drew = w52 at BK158 BK165 HB hx166_0 hx166_1 hx166_2 hHeld ⊢
                  refine px 1 24 2 (any_of HT_.out (by kernel_rfl)) ?_
                  refine px 3 24 10 (any_of HT_.out (by kernel_rfl)) ?_
                  refine px 4 24 26 (any_of HT_.out (by kernel_rfl)) ?_
                  refine px 5 24 58 (any_of HT_.out (by kernel_rfl)) ?_
                  refine tx 0 24 59 rfl rfl (take_ofW HT_.out HW_.out (by kernel_rfl)) hHeld (by rintro w' ⟨s0, s1, s2, s3, s4, s5, s6, s7⟩; go_simp; with_reducible rfl) ?_
                  refine tx 2 24 63 rfl rfl (take_ofW HT_.out HW_.out (by kernel_rfl)) hHeld (by rintro w' ⟨s0, s1, s2, s3, s4, s5, s6, s7⟩; go_simp; with_reducible rfl) ?_
                  refine px 6 24 127 (any_of HT_.out (by kernel_rfl)) ?_
                  refine tx 7 24 255 rfl rfl (take_ofW HT_.out HW_.out (by kernel_rfl)) hHeld (by rintro w' ⟨s0, s1, s2, s3, s4, s5, s6, s7⟩; go_simp; with_reducible rfl) ?_
                  refine one_ (i := 8) (N := some 75) #[Y,Y,Y,Y,Y,Y,Y,Y,Y,Z,Z,Z,Z,Z,Z,Z,Z,Z,Z,Z,Z,Z,Z,Z] rfl rfl (one_of HT_.out (by kernel_rfl)) (by decide) (fun K hK => ?_)
                  refine goes_ Try.func121 (by kernel_rfl) rfl #[.agg #[.slice A164_0 ((rd_T140 l0_1 x62_3).f0).length c164_0, .slice A164_1 ((rd_T140 l0_1 x62_3).f1).length c164_1, .bool ((rd_T140 l0_1 x62_3).f2)], .agg #[.int .i64 ((rd_T138 l0_0 (ji44)).f0), .int .i64 ((rd_T138 l0_0 (ji44)).f1), .bool ((rd_T138 l0_0 (ji44)).f2)]] (by rfl) rfl rfl (by (try simp only [List.map_toArray, List.map_cons, List.map_nil]); first | done | (simp only [hji44]; rfl) | rfl | (simp only [List.length_drop, List.length_take]; rfl)) ?_
                  with_reducible refine (impl_Wire_isWire.calls _ _ ((rd_T140 l0_1 x62_3).f0) _ _ ((rd_T140 l0_1 x62_3).f1) ((rd_T140 l0_1 x62_3).f2) ((rd_T138 l0_0 (ji44)).f0) ((rd_T138 l0_0 (ji44)).f1) ((rd_T138 l0_0 (ji44)).f2) true _ ?side1 ?side2 ?side3 ?side4 A47.out).mono ?_
                  (case side1 => exact cB (Kd.C_below HR164_0.out HB.out))
                  (case side2 => exact HC164_0.out)
                  (case side3 => exact cB (Kd.C_below HR164_1.out HB.out))
                  (case side4 => exact HC164_1.out)
                  rintro e w53 ⟨rfl, hb⟩
                  refine ⟨_, rfl, ?_⟩
                  have n0_ := xm (blk_below (kB BK158) hb)
                  have n1_ := xm (blk_below (kB BK165) hb)
                  have n2_ := xm (below_step bG hb)
                  clear BK158
                  clear BK165
                  clear HB
                  have BK158 := n0_
                  have BK165 := n1_
                  have HB := n2_
                  clear n0_ n1_ n2_
                  (try clear hb)
                  (try clear hb2)
                  (try clear hk)
                  (try clear hi)
                  refine hK.out _ _ ⟨(xc BK165.out 0).trans rfl, (xc BK165.out 1).trans rfl, (xc BK165.out 2).trans rfl, (xc BK158.out 0).trans rfl, (xc BK158.out 1).trans rfl, ((HB.out.cell (World.block_lt_of_cell? w _ hw166_0)).trans hw166_0), ((HB.out.cell (World.block_lt_of_cell? w _ hw166_1)).trans hw166_1), ((HB.out.cell (World.block_lt_of_cell? w _ hw166_2)).trans hw166_2)⟩ (fun hHeld => ?_)
                  clear hK K
                  refine norm_ (a' := ?_) ?_ ?_
                  rotate_left
                  ·show Act.put _ (some 75) _ = _
                   simp only [Act.put, xi, xj, xk, i64_w, i32_w]
                   rfl
                  refine px 9 24 1023 (any_of HT_.out (by kernel_rfl)) ?_
                  refine px 10 24 2047 (any_of HT_.out (by kernel_rfl)) ?_
                  refine px 11 24 4095 (any_of HT_.out (by kernel_rfl)) ?_
                  refine px 12 24 8191 (any_of HT_.out (by kernel_rfl)) ?_
                  refine px 13 24 16383 (any_of HT_.out (by kernel_rfl)) ?_
                  refine px 14 24 32767 (any_of HT_.out (by kernel_rfl)) ?_
                  refine px 15 24 65535 (any_of HT_.out (by kernel_rfl)) ?_
                  refine px 16 24 131071 (any_of HT_.out (by kernel_rfl)) ?_
                  refine px 17 24 262143 (any_of HT_.out (by kernel_rfl)) ?_
                  refine px 18 24 524287 (any_of HT_.out (by kernel_rfl)) ?_
                  refine tx 19 24 1048575 rfl rfl (take_ofW HT_.out HW_.out (by kernel_rfl)) hHeld (by rintro w' ⟨s0, s1, s2, s3, s4, s5, s6, s7⟩; go_simp; with_reducible rfl) ?_
                  refine one_ (i := 20) (N := some 87) #[Y,Y,Y,Y,Y,Y,Y,Y,Y,Y,Y,Y,Y,Y,Y,Y,Y,Y,Y,Y,Y,Z,Z,Z] rfl rfl (one_of HT_.out (by kernel_rfl)) (by decide) (fun K hK => ?_)
                  refine goes_ Try.func122 (by kernel_rfl) rfl #[.agg #[.slice A164_0 ((rd_T140 l0_1 x62_3).f0).length c164_0, .slice A164_1 ((rd_T140 l0_1 x62_3).f1).length c164_1, .bool ((rd_T140 l0_1 x62_3).f2)]] (by rfl) rfl rfl mB ?_
                  with_reducible refine (impl_Wire_isNone.calls _ _ ((rd_T140 l0_1 x62_3).f0) _ _ ((rd_T140 l0_1 x62_3).f1) ((rd_T140 l0_1 x62_3).f2) t168 _ ?side1 ?side2 ?side3 ?side4 A50.out).mono ?_
                  (case side1 => exact cB (Kd.C_below HR164_0.out HB.out))
                  (case side2 => exact HC164_0.out)
                  (case side3 => exact cB (Kd.C_below HR164_1.out HB.out))
                  (case side4 => exact HC164_1.out)
                  rintro e w54 ⟨rfl, hb⟩
                  refine ⟨_, rfl, ?_⟩
                  have n0_ := xm (blk_below (kB BK158) hb)
                  have n1_ := xm (blk_below (kB BK165) hb)
                  have n2_ := xm (below_step bG hb)
                  clear BK158
                  clear BK165
                  clear HB
                  have BK158 := n0_
                  have BK165 := n1_
                  have HB := n2_
                  clear n0_ n1_ n2_
                  (try clear hb)
                  (try clear hb2)
                  (try clear hk)
                  (try clear hi)
                  refine hK.out _ _ ⟨(xc BK165.out 0).trans rfl, (xc BK165.out 1).trans rfl, (xc BK165.out 2).trans rfl, (xc BK158.out 0).trans rfl, (xc BK158.out 1).trans rfl, ((HB.out.cell (World.block_lt_of_cell? w _ hw166_0)).trans hw166_0), ((HB.out.cell (World.block_lt_of_cell? w _ hw166_1)).trans hw166_1), ((HB.out.cell (World.block_lt_of_cell? w _ hw166_2)).trans hw166_2)⟩ (fun hHeld => ?_)
                  clear hK K
                  refine norm_ (a' := ?_) ?_ ?_
                  rotate_left
                  ·show Act.put _ (some 87) _ = _
                   simp only [Act.put, xi, xj, xk, i64_w, i32_w]
                   rfl
                  refine px 21 24 4194303 (any_of HT_.out (by kernel_rfl)) ?_
                  refine px 22 24 8388607 (any_of HT_.out (by kernel_rfl)) ?_
                  refine px 23 24 16777215 (any_of HT_.out (by kernel_rfl)) ?_
                  refine done_ (done_of HT_.out (by kernel_rfl)) ?_
                  try go_wp2
                  go_meet
                  case rel => exact ⟨_, (!t168), (by first | rfl | (simp; done) | (simp [*]; done)), H', ⟨by have := HJ1.out; have := HK2.out; have := HK3.out; first | omega | exact Nat.le_refl _⟩, ⟨by (with_reducible repeat (first | refine xq ?_ _ | refine xr ?_ | refine xo ?_ _)); exact BK158.out⟩, ⟨by (with_reducible repeat (first | refine xq ?_ _ | refine xr ?_ | refine xo ?_ _)); exact BK165.out⟩, ⟨by repeat (first | (with_reducible first | exact HB.out | apply xa | apply xn | apply xd | refine xt ?_ GE158.out | refine xt ?_ GE165.out) | exact HB.out)⟩⟩
                 ·rw [if_neg c49] at H
                  have c49b0 : ((wrap64 (Int.tdiv x62_3 (l0_0.length : Int))) == (ji44)) = false := beq_eq_false_iff_ne.mpr c49
                  have c49b1 : ((wrap64 (Int.tdiv x62_3 (l0_0.length : Int))) != (ji44)) = true := bne_iff_ne.mpr c49
                  have H' := xm H
                  clear H
                  try go_wp2
                  have n0_ : Aside0 ((((w40.setCell ⟨gb165, 0, none⟩ (.slice A164_0 ((rd_T140 l0_1 x62_3).f0).length c164_0)).setCell ⟨gb165, 1, none⟩ (.slice A164_1 ((rd_T140 l0_1 x62_3).f1).length c164_1)).setCell ⟨gb165, 2, none⟩ (.bool ((rd_T140 l0_1 x62_3).f2))).heap[gb158]? = some (.cells #[.slice A0_0 l0_0.length c0_0, .slice (some ad164) l0_1.length c0_1] 85 (0, 0))) := ⟨by (with_reducible repeat (first | refine xq ?_ _ | refine xr ?_ | refine xo ?_ _)); refine blk_far ?_ NB158_165.out _; (with_reducible repeat (first | refine xq ?_ _ | refine xr ?_ | refine xo ?_ _)); refine blk_far ?_ NB158_165.out _; (with_reducible repeat (first | refine xq ?_ _ | refine xr ?_ | refine xo ?_ _)); refine blk_far ?_ NB158_165.out _; (with_reducible repeat (first | refine xq ?_ _ | refine xr ?_ | refine xo ?_ _)); exact BK158.out⟩
                  have n1_ : Aside0 ((((w40.setCell ⟨gb165, 0, none⟩ (.slice A164_0 ((rd_T140 l0_1 x62_3).f0).length c164_0)).setCell ⟨gb165, 1, none⟩ (.slice A164_1 ((rd_T140 l0_1 x62_3).f1).length c164_1)).setCell ⟨gb165, 2, none⟩ (.bool ((rd_T140 l0_1 x62_3).f2))).heap[gb165]? = some (.cells #[.slice A164_0 ((rd_T140 l0_1 x62_3).f0).length c164_0, .slice A164_1 ((rd_T140 l0_1 x62_3).f1).length c164_1, .bool ((rd_T140 l0_1 x62_3).f2)] 140 (0, 0))) := ⟨by (with_reducible repeat (first | refine xq ?_ _ | refine xr ?_ | refine xo ?_ _)); refine blk_put (cs := #[.slice A164_0 ((rd_T140 l0_1 x62_3).f0).length c164_0, .slice A164_1 ((rd_T140 l0_1 x62_3).f1).length c164_1, .bool false]) ?_ 2 _ rfl; (with_reducible repeat (first | refine xq ?_ _ | refine xr ?_ | refine xo ?_ _)); refine blk_put (cs := #[.slice A164_0 ((rd_T140 l0_1 x62_3).f0).length c164_0, .slice none 0 0, .bool false]) ?_ 1 _ rfl; (with_reducible repeat (first | refine xq ?_ _ | refine xr ?_ | refine xo ?_ _)); refine blk_put (cs := #[.slice none 0 0, .slice none 0 0, .bool false]) ?_ 0 _ rfl; (with_reducible repeat (first | refine xq ?_ _ | refine xr ?_ | refine xo ?_ _)); exact BK165.out⟩
                  have n2_ : Aside0 (Below w.heap.size w (((w40.setCell ⟨gb165, 0, none⟩ (.slice A164_0 ((rd_T140 l0_1 x62_3).f0).length c164_0)).setCell ⟨gb165, 1, none⟩ (.slice A164_1 ((rd_T140 l0_1 x62_3).f1).length c164_1)).setCell ⟨gb165, 2, none⟩ (.bool ((rd_T140 l0_1 x62_3).f2)))) := ⟨by repeat (first | (with_reducible first | exact HB.out | apply xa | apply xn | apply xd | refine xt ?_ GE158.out | refine xt ?_ GE165.out) | exact HB.out)⟩
                  (try clear BK158)
                  (try clear BK165)
                  (try clear HB)
                  generalize (((w40.setCell ⟨gb165, 0, none⟩ (.slice A164_0 ((rd_T140 l0_1 x62_3).f0).length c164_0)).setCell ⟨gb165, 1, none⟩ (.slice A164_1 ((rd_T140 l0_1 x62_3).f1).length c164_1)).setCell ⟨gb165, 2, none⟩ (.bool ((rd_T140 l0_1 x62_3).f2))) = w55 at n0_ n1_ n2_ ⊢
                  have BK158 := n0_
                  have BK165 := n1_
                  have HB := n2_
                  clear n0_ n1_ n2_
                  have n0_ := xm (xr BK158.out)
                  have n1_ := xm (xr BK165.out)
                  have n2_ := xm (xd HB.out)
                  clear BK158
                  clear BK165
                  clear HB
                  have BK158 := n0_
                  have BK165 := n1_
                  have HB := n2_
                  clear n0_ n1_ n2_
                  have p166 : 0 ≤ ((ji44) : Int) := of_decide_eq_true aB
                  have q166 : (ji44) < (l0_0.length : Int) := of_decide_eq_true aB
                  obtain ⟨ad166, e166, hx166_0, hx166_1, hx166_2⟩ := at_T138 HR0_0.out (ji44) p166 q166
                  have hw166_2 := hx166_2
                  have hw166_1 := hx166_1
                  have hw166_0 := hx166_0
                  cases e166
                  replace hx166_0 := (HB.out.cell (World.block_lt_of_cell? w _ hx166_0)).trans hx166_0
                  replace hx166_1 := (HB.out.cell (World.block_lt_of_cell? w _ hx166_1)).trans hx166_1
                  replace hx166_2 := (HB.out.cell (World.block_lt_of_cell? w _ hx166_2)).trans hx166_2
                  replace p166 := eq_true p166
                  replace q166 := eq_true q166
                  refine start_ (n := 24) (S := fun w' => w'.cell? ⟨gb165, 0, none⟩ = some (.slice A164_0 ((rd_T140 l0_1 x62_3).f0).length c164_0) ∧ w'.cell? ⟨gb165, 1, none⟩ = some (.slice A164_1 ((rd_T140 l0_1 x62_3).f1).length c164_1) ∧ w'.cell? ⟨gb165, 2, none⟩ = some (.bool ((rd_T140 l0_1 x62_3).f2)) ∧ w'.cell? ⟨gb158, 0, none⟩ = some (.slice (some ad166) l0_0.length c0_0) ∧ w'.cell? ⟨gb158, 1, none⟩ = some (.slice (some ad164) l0_1.length c0_1) ∧ w'.cell? (ad166.add (((ji44)).toNat * 3)) = some (.int .i64 ((rd_T138 l0_0 (ji44)).f0)) ∧ w'.cell? ⟨(ad166.add (((ji44)).toNat * 3)).block, (ad166.add (((ji44)).toNat * 3)).off + 1, none⟩ = some (.int .i64 ((rd_T138 l0_0 (ji44)).f1)) ∧ w'.cell? ⟨(ad166.add (((ji44)).toNat * 3)).block, (ad166.add (((ji44)).toNat * 3)).off + 2, none⟩ = some (.bool ((rd_T138 l0_0 (ji44)).f2))) (ds := []) #[Z,Z,Z,Z,Z,Z,Z,Z,Z,Z,Z,Z,Z,Z,Z,Z,Z,Z,Z,Z,Z,Z,Z,Z] (by kernel_rfl) rfl rfl ⟨(xc BK165.out 0).trans rfl, (xc BK165.out 1).trans rfl, (xc BK165.out 2).trans rfl, (xc BK158.out 0).trans rfl, (xc BK158.out 1).trans rfl, ((HB.out.cell (World.block_lt_of_cell? w _ hw166_0)).trans hw166_0), ((HB.out.cell (World.block_lt_of_cell? w _ hw166_1)).trans hw166_1), ((HB.out.cell (World.block_lt_of_cell? w _ hw166_2)).trans hw166_2)⟩ (fun hHeld => ?_); refine with_tabW impl_GoodSnap.tab15 impl_GoodSnap.bits15 (fun HT_ HW_ => ?_)
                  generalize w55.drew = w56 at BK158 BK165 HB hx166_0 hx166_1 hx166_2 hHeld ⊢
                  refine px 1 24 2 (any_of HT_.out (by kernel_rfl)) ?_
                  refine px 3 24 10 (any_of HT_.out (by kernel_rfl)) ?_
                  refine px 4 24 26 (any_of HT_.out (by kernel_rfl)) ?_
                  refine px 5 24 58 (any_of HT_.out (by kernel_rfl)) ?_
                  refine tx 0 24 59 rfl rfl (take_ofW HT_.out HW_.out (by kernel_rfl)) hHeld (by rintro w' ⟨s0, s1, s2, s3, s4, s5, s6, s7⟩; go_simp; with_reducible rfl) ?_
                  refine tx 2 24 63 rfl rfl (take_ofW HT_.out HW_.out (by kernel_rfl)) hHeld (by rintro w' ⟨s0, s1, s2, s3, s4, s5, s6, s7⟩; go_simp; with_reducible rfl) ?_
                  refine px 6 24 127 (any_of HT_.out (by kernel_rfl)) ?_
                  refine tx 7 24 255 rfl rfl (take_ofW HT_.out HW_.out (by kernel_rfl)) hHeld (by rintro w' ⟨s0, s1, s2, s3, s4, s5, s6, s7⟩; go_simp; with_reducible rfl) ?_
                  refine one_ (i := 8) (N := some 75) #[Y,Y,Y,Y,Y,Y,Y,Y,Y,Z,Z,Z,Z,Z,Z,Z,Z,Z,Z,Z,Z,Z,Z,Z] rfl rfl (one_of HT_.out (by kernel_rfl)) (by decide) (fun K hK => ?_)
                  refine goes_ Try.func121 (by kernel_rfl) rfl #[.agg #[.slice A164_0 ((rd_T140 l0_1 x62_3).f0).length c164_0, .slice A164_1 ((rd_T140 l0_1 x62_3).f1).length c164_1, .bool ((rd_T140 l0_1 x62_3).f2)], .agg #[.int .i64 ((rd_T138 l0_0 (ji44)).f0), .int .i64 ((rd_T138 l0_0 (ji44)).f1), .bool ((rd_T138 l0_0 (ji44)).f2)]] (by rfl) rfl rfl (by (try simp only [List.map_toArray, List.map_cons, List.map_nil]); first | done | (simp only [hji44]; rfl) | rfl | (simp only [List.length_drop, List.length_take]; rfl)) ?_
                  with_reducible refine (impl_Wire_isWire.calls _ _ ((rd_T140 l0_1 x62_3).f0) _ _ ((rd_T140 l0_1 x62_3).f1) ((rd_T140 l0_1 x62_3).f2) ((rd_T138 l0_0 (ji44)).f0) ((rd_T138 l0_0 (ji44)).f1) ((rd_T138 l0_0 (ji44)).f2) true _ ?side1 ?side2 ?side3 ?side4 A47.out).mono ?_
                  (case side1 => exact cB (Kd.C_below HR164_0.out HB.out))
                  (case side2 => exact HC164_0.out)
                  (case side3 => exact cB (Kd.C_below HR164_1.out HB.out))
                  (case side4 => exact HC164_1.out)
                  rintro e w57 ⟨rfl, hb⟩
                  refine ⟨_, rfl, ?_⟩
                  have n0_ := xm (blk_below (kB BK158) hb)
                  have n1_ := xm (blk_below (kB BK165) hb)
                  have n2_ := xm (below_step bG hb)
                  clear BK158
                  clear BK165
                  clear HB
                  have BK158 := n0_
                  have BK165 := n1_
                  have HB := n2_
                  clear n0_ n1_ n2_
                  (try clear hb)
                  (try clear hb2)
                  (try clear hk)
                  (try clear hi)
                  refine hK.out _ _ ⟨(xc BK165.out 0).trans rfl, (xc BK165.out 1).trans rfl, (xc BK165.out 2).trans rfl, (xc BK158.out 0).trans rfl, (xc BK158.out 1).trans rfl, ((HB.out.cell (World.block_lt_of_cell? w _ hw166_0)).trans hw166_0), ((HB.out.cell (World.block_lt_of_cell? w _ hw166_1)).trans hw166_1), ((HB.out.cell (World.block_lt_of_cell? w _ hw166_2)).trans hw166_2)⟩ (fun hHeld => ?_)
                  clear hK K
                  refine norm_ (a' := ?_) ?_ ?_
                  rotate_left
                  ·show Act.put _ (some 75) _ = _
                   simp only [Act.put, xi, xj, xk, i64_w, i32_w]
                   rfl
                  refine px 9 24 1023 (any_of HT_.out (by kernel_rfl)) ?_
                  refine px 10 24 2047 (any_of HT_.out (by kernel_rfl)) ?_
                  refine px 11 24 4095 (any_of HT_.out (by kernel_rfl)) ?_
                  refine px 12 24 8191 (any_of HT_.out (by kernel_rfl)) ?_
                  refine px 13 24 16383 (any_of HT_.out (by kernel_rfl)) ?_
                  refine px 14 24 32767 (any_of HT_.out (by kernel_rfl)) ?_
                  refine px 15 24 65535 (any_of HT_.out (by kernel_rfl)) ?_
                  refine px 16 24 131071 (any_of HT_.out (by kernel_rfl)) ?_
                  refine px 17 24 262143 (any_of HT_.out (by kernel_rfl)) ?_
                  refine px 18 24 524287 (any_of HT_.out (by kernel_rfl)) ?_
                  refine ox 19 24 1048575 (any_of HT_.out (by kernel_rfl)) ?_
                  refine ox 20 24 2097151 (any_of HT_.out (by kernel_rfl)) ?_
                  refine ox 21 24 4194303 (any_of HT_.out (by kernel_rfl)) ?_
                  refine px 22 24 8388607 (any_of HT_.out (by kernel_rfl)) ?_
                  refine px 23 24 16777215 (any_of HT_.out (by kernel_rfl)) ?_
                  refine done_ (done_of HT_.out (by kernel_rfl)) ?_
                  try go_wp2
                  go_meet
                  case rel => exact ⟨_, (false), (by first | rfl | (simp; done) | (simp [*]; done)), H', ⟨by have := HJ1.out; have := HK2.out; have := HK3.out; first | omega | exact Nat.le_refl _⟩, ⟨by (with_reducible repeat (first | refine xq ?_ _ | refine xr ?_ | refine xo ?_ _)); exact BK158.out⟩, ⟨by (with_reducible repeat (first | refine xq ?_ _ | refine xr ?_ | refine xo ?_ _)); exact BK165.out⟩, ⟨by repeat (first | (with_reducible first | exact HB.out | apply xa | apply xn | apply xd | refine xt ?_ GE158.out | refine xt ?_ GE165.out) | exact HB.out)⟩⟩
                ·replace c48 := Bool.eq_false_iff.mpr c48
                 subst c48
                 have H1 : (impl_GoodSnap.j3 k3 (l0_0.length : Int) x4_3 l0_1 (l0_1.length : Int) x62_3 true l0_0 l0_1 ((rd_T140 l0_1 x62_3).f0) ((rd_T140 l0_1 x62_3).f1) ((rd_T140 l0_1 x62_3).f2)) = some r := by first | (with_reducible rfl) | (rw [if_neg (show ¬ (false = true) by decide)] at H; exact H)
                 clear H
                 have H := H1
                 clear H1
                 have H' := xm H
                 clear H
                 try go_wp2
                 have n0_ : Aside0 ((((w40.setCell ⟨gb165, 0, none⟩ (.slice A164_0 ((rd_T140 l0_1 x62_3).f0).length c164_0)).setCell ⟨gb165, 1, none⟩ (.slice A164_1 ((rd_T140 l0_1 x62_3).f1).length c164_1)).setCell ⟨gb165, 2, none⟩ (.bool ((rd_T140 l0_1 x62_3).f2))).heap[gb158]? = some (.cells #[.slice A0_0 l0_0.length c0_0, .slice (some ad164) l0_1.length c0_1] 85 (0, 0))) := ⟨by (with_reducible repeat (first | refine xq ?_ _ | refine xr ?_ | refine xo ?_ _)); refine blk_far ?_ NB158_165.out _; (with_reducible repeat (first | refine xq ?_ _ | refine xr ?_ | refine xo ?_ _)); refine blk_far ?_ NB158_165.out _; (with_reducible repeat (first | refine xq ?_ _ | refine xr ?_ | refine xo ?_ _)); refine blk_far ?_ NB158_165.out _; (with_reducible repeat (first | refine xq ?_ _ | refine xr ?_ | refine xo ?_ _)); exact BK158.out⟩
                 have n1_ : Aside0 ((((w40.setCell ⟨gb165, 0, none⟩ (.slice A164_0 ((rd_T140 l0_1 x62_3).f0).length c164_0)).setCell ⟨gb165, 1, none⟩ (.slice A164_1 ((rd_T140 l0_1 x62_3).f1).length c164_1)).setCell ⟨gb165, 2, none⟩ (.bool ((rd_T140 l0_1 x62_3).f2))).heap[gb165]? = some (.cells #[.slice A164_0 ((rd_T140 l0_1 x62_3).f0).length c164_0, .slice A164_1 ((rd_T140 l0_1 x62_3).f1).length c164_1, .bool ((rd_T140 l0_1 x62_3).f2)] 140 (0, 0))) := ⟨by (with_reducible repeat (first | refine xq ?_ _ | refine xr ?_ | refine xo ?_ _)); refine blk_put (cs := #[.slice A164_0 ((rd_T140 l0_1 x62_3).f0).length c164_0, .slice A164_1 ((rd_T140 l0_1 x62_3).f1).length c164_1, .bool false]) ?_ 2 _ rfl; (with_reducible repeat (first | refine xq ?_ _ | refine xr ?_ | refine xo ?_ _)); refine blk_put (cs := #[.slice A164_0 ((rd_T140 l0_1 x62_3).f0).length c164_0, .slice none 0 0, .bool false]) ?_ 1 _ rfl; (with_reducible repeat (first | refine xq ?_ _ | refine xr ?_ | refine xo ?_ _)); refine blk_put (cs := #[.slice none 0 0, .slice none 0 0, .bool false]) ?_ 0 _ rfl; (with_reducible repeat (first | refine xq ?_ _ | refine xr ?_ | refine xo ?_ _)); exact BK165.out⟩
                 have n2_ : Aside0 (Below w.heap.size w (((w40.setCell ⟨gb165, 0, none⟩ (.slice A164_0 ((rd_T140 l0_1 x62_3).f0).length c164_0)).setCell ⟨gb165, 1, none⟩ (.slice A164_1 ((rd_T140 l0_1 x62_3).f1).length c164_1)).setCell ⟨gb165, 2, none⟩ (.bool ((rd_T140 l0_1 x62_3).f2)))) := ⟨by repeat (first | (with_reducible first | exact HB.out | apply xa | apply xn | apply xd | refine xt ?_ GE158.out | refine xt ?_ GE165.out) | exact HB.out)⟩
                 (try clear BK158)
                 (try clear BK165)
                 (try clear HB)
                 generalize (((w40.setCell ⟨gb165, 0, none⟩ (.slice A164_0 ((rd_T140 l0_1 x62_3).f0).length c164_0)).setCell ⟨gb165, 1, none⟩ (.slice A164_1 ((rd_T140 l0_1 x62_3).f1).length c164_1)).setCell ⟨gb165, 2, none⟩ (.bool ((rd_T140 l0_1 x62_3).f2))) = w58 at n0_ n1_ n2_ ⊢
                 have BK158 := n0_
                 have BK165 := n1_
                 have HB := n2_
                 clear n0_ n1_ n2_
                 have n0_ := xm (xr BK158.out)
                 have n1_ := xm (xr BK165.out)
                 have n2_ := xm (xd HB.out)
                 clear BK158
                 clear BK165
                 clear HB
                 have BK158 := n0_
                 have BK165 := n1_
                 have HB := n2_
                 clear n0_ n1_ n2_
                 have p166 : 0 ≤ ((ji44) : Int) := of_decide_eq_true aB
                 have q166 : (ji44) < (l0_0.length : Int) := of_decide_eq_true aB
                 obtain ⟨ad166, e166, hx166_0, hx166_1, hx166_2⟩ := at_T138 HR0_0.out (ji44) p166 q166
                 have hw166_2 := hx166_2
                 have hw166_1 := hx166_1
                 have hw166_0 := hx166_0
                 cases e166
                 replace hx166_0 := (HB.out.cell (World.block_lt_of_cell? w _ hx166_0)).trans hx166_0
                 replace hx166_1 := (HB.out.cell (World.block_lt_of_cell? w _ hx166_1)).trans hx166_1
                 replace hx166_2 := (HB.out.cell (World.block_lt_of_cell? w _ hx166_2)).trans hx166_2
                 replace p166 := eq_true p166
                 replace q166 := eq_true q166
                 refine start_ (n := 24) (S := fun w' => w'.cell? ⟨gb165, 0, none⟩ = some (.slice A164_0 ((rd_T140 l0_1 x62_3).f0).length c164_0) ∧ w'.cell? ⟨gb165, 1, none⟩ = some (.slice A164_1 ((rd_T140 l0_1 x62_3).f1).length c164_1) ∧ w'.cell? ⟨gb165, 2, none⟩ = some (.bool ((rd_T140 l0_1 x62_3).f2)) ∧ w'.cell? ⟨gb158, 0, none⟩ = some (.slice (some ad166) l0_0.length c0_0) ∧ w'.cell? ⟨gb158, 1, none⟩ = some (.slice (some ad164) l0_1.length c0_1) ∧ w'.cell? (ad166.add (((ji44)).toNat * 3)) = some (.int .i64 ((rd_T138 l0_0 (ji44)).f0)) ∧ w'.cell? ⟨(ad166.add (((ji44)).toNat * 3)).block, (ad166.add (((ji44)).toNat * 3)).off + 1, none⟩ = some (.int .i64 ((rd_T138 l0_0 (ji44)).f1)) ∧ w'.cell? ⟨(ad166.add (((ji44)).toNat * 3)).block, (ad166.add (((ji44)).toNat * 3)).off + 2, none⟩ = some (.bool ((rd_T138 l0_0 (ji44)).f2))) (ds := []) #[Z,Z,Z,Z,Z,Z,Z,Z,Z,Z,Z,Z,Z,Z,Z,Z,Z,Z,Z,Z,Z,Z,Z,Z] (by kernel_rfl) rfl rfl ⟨(xc BK165.out 0).trans rfl, (xc BK165.out 1).trans rfl, (xc BK165.out 2).trans rfl, (xc BK158.out 0).trans rfl, (xc BK158.out 1).trans rfl, ((HB.out.cell (World.block_lt_of_cell? w _ hw166_0)).trans hw166_0), ((HB.out.cell (World.block_lt_of_cell? w _ hw166_1)).trans hw166_1), ((HB.out.cell (World.block_lt_of_cell? w _ hw166_2)).trans hw166_2)⟩ (fun hHeld => ?_); refine with_tabW impl_GoodSnap.tab15 impl_GoodSnap.bits15 (fun HT_ HW_ => ?_)
                 generalize w58.drew = w59 at BK158 BK165 HB hx166_0 hx166_1 hx166_2 hHeld ⊢
                 refine px 1 24 2 (any_of HT_.out (by kernel_rfl)) ?_
                 refine px 3 24 10 (any_of HT_.out (by kernel_rfl)) ?_
                 refine px 4 24 26 (any_of HT_.out (by kernel_rfl)) ?_
                 refine px 5 24 58 (any_of HT_.out (by kernel_rfl)) ?_
                 refine tx 0 24 59 rfl rfl (take_ofW HT_.out HW_.out (by kernel_rfl)) hHeld (by rintro w' ⟨s0, s1, s2, s3, s4, s5, s6, s7⟩; go_simp; with_reducible rfl) ?_
                 refine tx 2 24 63 rfl rfl (take_ofW HT_.out HW_.out (by kernel_rfl)) hHeld (by rintro w' ⟨s0, s1, s2, s3, s4, s5, s6, s7⟩; go_simp; with_reducible rfl) ?_
                 refine px 6 24 127 (any_of HT_.out (by kernel_rfl)) ?_
                 refine tx 7 24 255 rfl rfl (take_ofW HT_.out HW_.out (by kernel_rfl)) hHeld (by rintro w' ⟨s0, s1, s2, s3, s4, s5, s6, s7⟩; go_simp; with_reducible rfl) ?_
                 refine one_ (i := 8) (N := some 75) #[Y,Y,Y,Y,Y,Y,Y,Y,Y,Z,Z,Z,Z,Z,Z,Z,Z,Z,Z,Z,Z,Z,Z,Z] rfl rfl (one_of HT_.out (by kernel_rfl)) (by decide) (fun K hK => ?_)
                 refine goes_ Try.func121 (by kernel_rfl) rfl #[.agg #[.slice A164_0 ((rd_T140 l0_1 x62_3).f0).length c164_0, .slice A164_1 ((rd_T140 l0_1 x62_3).f1).length c164_1, .bool ((rd_T140 l0_1 x62_3).f2)], .agg #[.int .i64 ((rd_T138 l0_0 (ji44)).f0), .int .i64 ((rd_T138 l0_0 (ji44)).f1), .bool ((rd_T138 l0_0 (ji44)).f2)]] (by rfl) rfl rfl (by (try simp only [List.map_toArray, List.map_cons, List.map_nil]); first | done | (simp only [hji44]; rfl) | rfl | (simp only [List.length_drop, List.length_take]; rfl)) ?_
                 with_reducible refine (impl_Wire_isWire.calls _ _ ((rd_T140 l0_1 x62_3).f0) _ _ ((rd_T140 l0_1 x62_3).f1) ((rd_T140 l0_1 x62_3).f2) ((rd_T138 l0_0 (ji44)).f0) ((rd_T138 l0_0 (ji44)).f1) ((rd_T138 l0_0 (ji44)).f2) false _ ?side1 ?side2 ?side3 ?side4 A47.out).mono ?_
                 (case side1 => exact cB (Kd.C_below HR164_0.out HB.out))
                 (case side2 => exact HC164_0.out)
                 (case side3 => exact cB (Kd.C_below HR164_1.out HB.out))
                 (case side4 => exact HC164_1.out)
                 rintro e w60 ⟨rfl, hb⟩
                 refine ⟨_, rfl, ?_⟩
                 have n0_ := xm (blk_below (kB BK158) hb)
                 have n1_ := xm (blk_below (kB BK165) hb)
                 have n2_ := xm (below_step bG hb)
                 clear BK158
                 clear BK165
                 clear HB
                 have BK158 := n0_
                 have BK165 := n1_
                 have HB := n2_
                 clear n0_ n1_ n2_
                 (try clear hb)
                 (try clear hb2)
                 (try clear hk)
                 (try clear hi)
                 refine hK.out _ _ ⟨(xc BK165.out 0).trans rfl, (xc BK165.out 1).trans rfl, (xc BK165.out 2).trans rfl, (xc BK158.out 0).trans rfl, (xc BK158.out 1).trans rfl, ((HB.out.cell (World.block_lt_of_cell? w _ hw166_0)).trans hw166_0), ((HB.out.cell (World.block_lt_of_cell? w _ hw166_1)).trans hw166_1), ((HB.out.cell (World.block_lt_of_cell? w _ hw166_2)).trans hw166_2)⟩ (fun hHeld => ?_)
                 clear hK K
                 refine norm_ (a' := ?_) ?_ ?_
                 rotate_left
                 ·show Act.put _ (some 75) _ = _
                  simp only [Act.put, xi, xj, xk, i64_w, i32_w]
                  rfl
                 refine px 9 24 1023 (any_of HT_.out (by kernel_rfl)) ?_
                 refine px 10 24 2047 (any_of HT_.out (by kernel_rfl)) ?_
                 refine ox 11 24 4095 (any_of HT_.out (by kernel_rfl)) ?_
                 refine ox 12 24 8191 (any_of HT_.out (by kernel_rfl)) ?_
                 refine ox 13 24 16383 (any_of HT_.out (by kernel_rfl)) ?_
                 refine ox 14 24 32767 (any_of HT_.out (by kernel_rfl)) ?_
                 refine ox 15 24 65535 (any_of HT_.out (by kernel_rfl)) ?_
                 refine ox 16 24 131071 (any_of HT_.out (by kernel_rfl)) ?_
                 refine ox 17 24 262143 (any_of HT_.out (by kernel_rfl)) ?_
                 refine ox 18 24 524287 (any_of HT_.out (by kernel_rfl)) ?_
                 refine ox 19 24 1048575 (any_of HT_.out (by kernel_rfl)) ?_
                 refine ox 20 24 2097151 (any_of HT_.out (by kernel_rfl)) ?_
                 refine ox 21 24 4194303 (any_of HT_.out (by kernel_rfl)) ?_
                 refine ox 22 24 8388607 (any_of HT_.out (by kernel_rfl)) ?_
                 refine px 23 24 16777215 (any_of HT_.out (by kernel_rfl)) ?_
                 refine done_ (done_of HT_.out (by kernel_rfl)) ?_
                 try go_wp2
                 go_meet
                 case rel => exact ⟨_, (true), (by first | rfl | (simp; done) | (simp [*]; done)), H', ⟨by have := HJ1.out; have := HK2.out; have := HK3.out; first | omega | exact Nat.le_refl _⟩, ⟨by (with_reducible repeat (first | refine xq ?_ _ | refine xr ?_ | refine xo ?_ _)); exact BK158.out⟩, ⟨by (with_reducible repeat (first | refine xq ?_ _ | refine xr ?_ | refine xo ?_ _)); exact BK165.out⟩, ⟨by repeat (first | (with_reducible first | exact HB.out | apply xa | apply xn | apply xd | refine xt ?_ GE158.out | refine xt ?_ GE165.out) | exact HB.out)⟩⟩
               ·rw [if_neg c46] at H
                exact absurd H (by simp)
              ·rw [if_neg c45] at H
               exact absurd H (by simp)
            case rest =>
             clear HC39
             try clear c1
             try clear p1
             try clear q1
             try clear hx1
             try clear p2
             try clear c4
             try clear p6
             try clear c12
             try clear c16
             try clear p16
             try clear q16
             try clear hx16
             try clear c45
             try clear c46
             try clear c48
             try clear c49
             try clear c49b0
             try clear c49b1
             try clear hx166_0
             try clear hx166_1
             try clear hx166_2
             try clear p166
             try clear q166
             obtain ⟨kq, x90_38, rfl, HA, HJ38, BK158, BK165, HB⟩ := hcut
             cases kq with
             | zero => exact absurd HA.out (by simp [impl_GoodSnap.j3])
             | succ kj38 =>
              have H := HA.out
              clear HA
              simp only [impl_GoodSnap.j3] at H
              by_cases c61 : x90_38 = true
              ·subst c61
               have H1 : (some false) = some r := by first | (with_reducible rfl) | (rw [if_pos rfl] at H; exact H)
               clear H
               have H := H1
               clear H1
               obtain rfl := Option.some.inj H
               go_wp2
               go_ret
               exact ⟨by first | rfl | (simp [errW_none, errW_some] <;> rfl) | (simp [*, errW_none, errW_some] <;> rfl), by repeat (first | (with_reducible first | exact HB.out | apply xa | apply xn | apply xd | refine xt ?_ GE158.out | refine xt ?_ GE165.out) | exact HB.out)⟩
              ·replace c61 := Bool.eq_false_iff.mpr c61
               subst c61
               have H1 : ((impl_sumOf.f kj38 ((rd_T140 l0_1 x62_3).f0)).bind fun t169 => ((impl_sumOf.f kj38 ((rd_T140 l0_1 x62_3).f1)).bind fun t170 => (impl_GoodSnap.l1 kj38 (l0_0.length : Int) (wrap64 (x4_3 + (wrap64 (t169 + t170)))) l0_1 (l0_1.length : Int) (wrap64 (x62_3 + 1)) l0_0 l0_1))) = some r := by first | (with_reducible rfl) | (rw [if_neg (show ¬ (false = true) by decide)] at H; exact H)
               clear H
               have H := H1
               clear H1
               replace H := Option.bind_eq_some_iff.mp H
               obtain ⟨t169, A620, H⟩ := H
               replace H : ((impl_sumOf.f kj38 ((rd_T140 l0_1 x62_3).f1)).bind fun t170 => (impl_GoodSnap.l1 kj38 (l0_0.length : Int) (wrap64 (x4_3 + (wrap64 (t169 + t170)))) l0_1 (l0_1.length : Int) (wrap64 (x62_3 + 1)) l0_0 l0_1)) = some r := H
               have A62 := xm A620
               clear A620
               replace H := Option.bind_eq_some_iff.mp H
               obtain ⟨t170, A630, H⟩ := H
               replace H : (impl_GoodSnap.l1 kj38 (l0_0.length : Int) (wrap64 (x4_3 + (wrap64 (t169 + t170)))) l0_1 (l0_1.length : Int) (wrap64 (x62_3 + 1)) l0_0 l0_1) = some r := H
               have A63 := xm A630
               clear A630
               have H' := xm H
               clear H
               try go_wp2
               have n0_ := xm (xr BK158.out)
               have n1_ := xm (xr BK165.out)
               have n2_ := xm (xd HB.out)
               clear BK158
               clear BK165
               clear HB
               have BK158 := n0_
               have BK165 := n1_
               have HB := n2_
               clear n0_ n1_ n2_
               refine start_ (n := 10) (S := fun w' => w'.cell? ⟨gb165, 0, none⟩ = some (.slice A164_0 ((rd_T140 l0_1 x62_3).f0).length c164_0) ∧ w'.cell? ⟨gb165, 1, none⟩ = some (.slice A164_1 ((rd_T140 l0_1 x62_3).f1).length c164_1) ∧ w'.cell? ⟨gb165, 2, none⟩ = some (.bool ((rd_T140 l0_1 x62_3).f2))) (ds := []) #[Z,Z,Z,Z,Z,Z,Z,Z,Z,Z] (by kernel_rfl) rfl rfl ⟨(xc BK165.out 0).trans rfl, (xc BK165.out 1).trans rfl, (xc BK165.out 2).trans rfl⟩ (fun hHeld => ?_); refine with_tabW impl_GoodSnap.tab17 impl_GoodSnap.bits17 (fun HT_ HW_ => ?_)
               generalize wc.drew = w64 at BK158 BK165 HB hHeld ⊢
               refine px 0 10 1 (any_of HT_.out (by kernel_rfl)) ?_
               refine px 1 10 3 (any_of HT_.out (by kernel_rfl)) ?_
               refine px 4 10 19 (any_of HT_.out (by kernel_rfl)) ?_
               refine tx 2 10 23 rfl rfl (take_ofW HT_.out HW_.out (by kernel_rfl)) hHeld (by rintro w' ⟨s0, s1, s2⟩; go_simp; with_reducible rfl) ?_
               refine tx 5 10 55 rfl rfl (take_ofW HT_.out HW_.out (by kernel_rfl)) hHeld (by rintro w' ⟨s0, s1, s2⟩; go_simp; with_reducible rfl) ?_
               refine one_ (i := 3) (N := some 94) #[Y,Y,Y,Y,Y,Y,Z,Z,Z,Z] rfl rfl (one_of HT_.out (by kernel_rfl)) (by decide) (fun K hK => ?_)
               refine goes_ Try.func123 (by kernel_rfl) rfl #[.slice A164_0 ((rd_T140 l0_1 x62_3).f0).length c164_0] (by rfl) rfl rfl mB ?_
               with_reducible refine (impl_sumOf.calls kj38 _ _ ((rd_T140 l0_1 x62_3).f0) t169 _ ?side1 ?side2 A62.out).mono ?_
               (case side1 => exact cB (Kd.C_below HR164_0.out HB.out))
               (case side2 => exact HC164_0.out)
               rintro e w' ⟨rfl, ⟨nd, rfl⟩⟩
               refine ⟨_, rfl, ?_⟩
               refine hK.out _ _ ⟨(xc BK165.out 0).trans rfl, (xc BK165.out 1).trans rfl, (xc BK165.out 2).trans rfl⟩ (fun hHeld => ?_)
               clear hK K
               refine norm_ (a' := ?_) ?_ ?_
               rotate_left
               ·show Act.put _ (some 94) _ = _
                simp only [Act.put, xi, xj, xk, i64_w, i32_w]
                rfl
               refine one_ (i := 6) (N := some 97) #[Y,Y,Y,Y,Y,Y,Y,Z,Z,Z] rfl rfl (one_of HT_.out (by kernel_rfl)) (by decide) (fun K hK => ?_)
               refine goes_ Try.func123 (by kernel_rfl) rfl #[.slice A164_1 ((rd_T140 l0_1 x62_3).f1).length c164_1] (by rfl) rfl rfl mB ?_
               with_reducible refine (impl_sumOf.calls kj38 _ _ ((rd_T140 l0_1 x62_3).f1) t170 _ ?side1 ?side2 A63.out).mono ?_
               (case side1 => repeat (first | exact (Kd.C_below HR164_1.out bG) | (with_reducible refine Kd.C_alloc ?_ _) | (with_reducible refine Kd.C_drewN ?_ _) | (with_reducible refine Kd.C_drew ?_)))
               (case side2 => exact HC164_1.out)
               rintro e w' ⟨rfl, ⟨nd, rfl⟩⟩
               refine ⟨_, rfl, ?_⟩
               refine hK.out _ _ ⟨(xc BK165.out 0).trans rfl, (xc BK165.out 1).trans rfl, (xc BK165.out 2).trans rfl⟩ (fun hHeld => ?_)
               clear hK K
               refine norm_ (a' := ?_) ?_ ?_
               rotate_left
               ·show Act.put _ (some 97) _ = _
                simp only [Act.put, xi, xj, xk, i64_w, i32_w]
                rfl
               refine px 7 10 255 (any_of HT_.out (by kernel_rfl)) ?_
               refine px 8 10 511 (any_of HT_.out (by kernel_rfl)) ?_
               refine px 9 10 1023 (any_of HT_.out (by kernel_rfl)) ?_
               refine done_ (done_of HT_.out (by kernel_rfl)) ?_
               try go_wp2
               go_roundg kj38
               case measure => have := HJ1.out; have := HK2.out; have := HK3.out; have := HJ38.out; omega
               case rel => exact ⟨(wrap64 (x4_3 + (wrap64 (t169 + t170)))), (wrap64 (x62_3 + 1)), (by first | rfl | (simp; done) | (simp [*]; done)), (by first | rfl | (simp; done) | (simp [*]; done)), H', ⟨by have := HJ1.out; have := HK2.out; have := HK3.out; have := HJ38.out; omega⟩, ⟨by (with_reducible repeat (first | refine xq ?_ _ | refine xr ?_ | refine xo ?_ _)); exact BK158.out⟩, ⟨by repeat (first | (with_reducible first | exact HB.out | apply xa | apply xn | apply xd | refine xt ?_ GE158.out | refine xt ?_ GE165.out) | exact HB.out)⟩⟩
           ·rw [if_neg c38] at H
            exact absurd H (by simp)
          ·rw [if_neg c37] at H
           exact absurd H (by simp)
         ·rw [if_neg c36] at H
          have c36b0 : decide (x62_3 < (l0_1.length : Int)) = false := decide_eq_false c36
          clear c36
          obtain rfl := Option.some.inj H
          go_wp2
          go_ret
          exact ⟨by first | rfl | (simp [errW_none, errW_some] <;> rfl) | (simp [*, errW_none, errW_some] <;> rfl), by repeat (first | (with_reducible first | exact HB.out | apply xa | apply xn | apply xd | refine xt ?_ GE158.out) | exact HB.out)⟩

end Go.Proofs.Ytpbpglbldgpckaa.G
