/- Written by a program of this claim's own, out of the translation: functions of the program as plain functions, and that the calls answer as these. No conditions. -/
import Derived.Test.YtpbpglbldgpckaaG0
import Derived.Test.YtpbpglbldgpckaaG6
import Derived.Test.YtpbpglbldgpckaaG49
namespace Go.Proofs.Ytpbpglbldgpckaa.G
open Go.RowKit Go.Proofs.Ytpbpglbldgpckaa.X Go.Proofs.YtpbpglbldgpckaaW.PrintWords Go.Proofs.YtpbpglbldgpckaaW.PrintLast Go.Proofs.YtpbpglbldgpckaaW.PrintMore
attribute [local go_sem] max2_int min2_int max_two min_two max_three min_three max_four min_four   -- for this text's walks alone
set_option linter.unusedVariables false
set_option linter.unusedSimpArgs false

/-! ### impl_GoodSnap: function 58 -/
mutual
def impl_GoodSnap.j0 : Nat → Int → Bool → List (S138) → List (S140) → Option (Bool)
 | 0, _, _, _, _ => none
 | k + 1, x3, x23, x880000, x880001 => if x23 = true then (some false) else (impl_GoodSnap.l0 k x3 0 x880000 (x880000.length : Int) 0 x880000 x880001)
def impl_GoodSnap.l0 : Nat → Int → Int → List (S138) → Int → Int → List (S138) → List (S140) → Option (Bool)
 | 0, _, _, _, _, _, _, _ => none
 | k + 1, x3, x4, x25, x26, x27, x880000, x880001 => if x27 < x26 then (if 0 ≤ x27 then (if x27 < (x25.length : Int) then ((impl_within.f ((rd_T138 x25 x27).f0) 0 2000000000).bind fun t883 => (if t883 = true then ((impl_within.f ((rd_T138 x25 x27).f1) 0 2000000000).bind fun t884 => (if t884 = true then (if ((rd_T138 x25 x27).f2 = true) then (impl_GoodSnap.l0 k x3 (wrap64 (x4 + (wrap64 (((rd_T138 x25 x27).f0) + ((rd_T138 x25 x27).f1))))) x25 x26 (wrap64 (x27 + 1)) x880000 x880001) else (if ((rd_T138 x25 x27).f1) = 0 then (impl_GoodSnap.l0 k x3 (wrap64 (x4 + (wrap64 (((rd_T138 x25 x27).f0) + ((rd_T138 x25 x27).f1))))) x25 x26 (wrap64 (x27 + 1)) x880000 x880001) else (some false))) else (some false))) else (some false))) else (none)) else (none)) else (impl_GoodSnap.l1 k x3 x4 x880001 (x880001.length : Int) 0 x880000 x880001)
def impl_GoodSnap.l1 : Nat → Int → Int → List (S140) → Int → Int → List (S138) → List (S140) → Option (Bool)
 | 0, _, _, _, _, _, _, _ => none
 | k + 1, x3, x4, x60, x61, x62, x880000, x880001 => if x62 < x61 then (if 0 ≤ x62 then (if x62 < (x60.length : Int) then (if x3 = 0 then (none) else (if 0 ≤ (Int.tmod x62 x3) then (if (Int.tmod x62 x3) < (x880000.length : Int) then ((impl_Wire_isWire.f ((rd_T140 x60 x62).f0) ((rd_T140 x60 x62).f1) ((rd_T140 x60 x62).f2) ((rd_T138 x880000 (Int.tmod x62 x3)).f0) ((rd_T138 x880000 (Int.tmod x62 x3)).f1) ((rd_T138 x880000 (Int.tmod x62 x3)).f2)).bind fun t888 => (if t888 = true then (if (wrap64 (Int.tdiv x62 x3)) = (Int.tmod x62 x3) then ((impl_Wire_isNone.f ((rd_T140 x60 x62).f0) ((rd_T140 x60 x62).f1) ((rd_T140 x60 x62).f2)).bind fun t889 => (impl_GoodSnap.j3 k x3 x4 x60 x61 x62 (!t889) x880000 x880001 ((rd_T140 x60 x62).f0) ((rd_T140 x60 x62).f1) ((rd_T140 x60 x62).f2))) else (impl_GoodSnap.j3 k x3 x4 x60 x61 x62 false x880000 x880001 ((rd_T140 x60 x62).f0) ((rd_T140 x60 x62).f1) ((rd_T140 x60 x62).f2))) else (impl_GoodSnap.j3 k x3 x4 x60 x61 x62 true x880000 x880001 ((rd_T140 x60 x62).f0) ((rd_T140 x60 x62).f1) ((rd_T140 x60 x62).f2)))) else (none)) else (none))) else (none)) else (none)) else (some (decide (x4 ≤ 2000000000)))
def impl_GoodSnap.j3 : Nat → Int → Int → List (S140) → Int → Int → Bool → List (S138) → List (S140) → List Int → List Int → Bool → Option (Bool)
 | 0, _, _, _, _, _, _, _, _, _, _, _ => none
 | k + 1, x3, x4, x60, x61, x62, x90, x880000, x880001, x887000, x887001, x887002 => if x90 = true then (some false) else ((impl_sumOf.f k x887000).bind fun t890 => ((impl_sumOf.f k x887001).bind fun t891 => (impl_GoodSnap.l1 k x3 (wrap64 (x4 + (wrap64 (t890 + t891)))) x60 x61 (wrap64 (x62 + 1)) x880000 x880001)))
end
def impl_GoodSnap.f (k : Nat) (l0_0 : List (S138)) (l0_1 : List (S140)) : Option (Bool) := (impl_within.f (l0_0.length : Int) 2 4).bind fun t880 => (if t880 = true then (impl_GoodSnap.j0 k (l0_0.length : Int) ((l0_1.length : Int) != (wrap64 ((l0_0.length : Int) * (l0_0.length : Int)))) l0_0 l0_1) else (impl_GoodSnap.j0 k (l0_0.length : Int) true l0_0 l0_1))
theorem impl_GoodSnap.mono_l : ∀ k, (∀ y0 y1 y2 y3, LeO (impl_GoodSnap.j0 k y0 y1 y2 y3) (impl_GoodSnap.j0 (k + 1) y0 y1 y2 y3)) ∧ (∀ y0 y1 y2 y3 y4 y5 y6, LeO (impl_GoodSnap.l0 k y0 y1 y2 y3 y4 y5 y6) (impl_GoodSnap.l0 (k + 1) y0 y1 y2 y3 y4 y5 y6)) ∧ (∀ y0 y1 y2 y3 y4 y5 y6, LeO (impl_GoodSnap.l1 k y0 y1 y2 y3 y4 y5 y6) (impl_GoodSnap.l1 (k + 1) y0 y1 y2 y3 y4 y5 y6)) ∧ (∀ y0 y1 y2 y3 y4 y5 y6 y7 y8 y9 y10, LeO (impl_GoodSnap.j3 k y0 y1 y2 y3 y4 y5 y6 y7 y8 y9 y10) (impl_GoodSnap.j3 (k + 1) y0 y1 y2 y3 y4 y5 y6 y7 y8 y9 y10))
 | 0 => ⟨fun _ _ _ _ r h => by simp [impl_GoodSnap.j0] at h, fun _ _ _ _ _ _ _ r h => by simp [impl_GoodSnap.l0] at h, fun _ _ _ _ _ _ _ r h => by simp [impl_GoodSnap.l1] at h, fun _ _ _ _ _ _ _ _ _ _ _ r h => by simp [impl_GoodSnap.j3] at h⟩
 | k + 1 => by
  obtain ⟨ih0, ih1, ih2, ih3⟩ := impl_GoodSnap.mono_l k
  refine ⟨?_, ?_, ?_, ?_⟩
  ·intro y0 y1 y2 y3
   unfold impl_GoodSnap.j0
   repeat' first
   | (with_reducible exact ih0 _ _ _ _)
   | (with_reducible exact ih1 _ _ _ _ _ _ _)
   | (with_reducible exact ih2 _ _ _ _ _ _ _)
   | (with_reducible exact ih3 _ _ _ _ _ _ _ _ _ _ _)
   | (with_reducible exact impl_sumOf.mono _ _)
   | (with_reducible exact LeO.refl _)
   | (with_reducible exact LeO.none _)
   | (with_reducible refine LeO.ite ?_ ?_)
   | (with_reducible refine LeO.bind ?_ (fun _ => ?_))
   | exact ih0 _ _ _ _
   | exact ih1 _ _ _ _ _ _ _
   | exact ih2 _ _ _ _ _ _ _
   | exact ih3 _ _ _ _ _ _ _ _ _ _ _
   | exact impl_sumOf.mono _ _
   | exact LeO.none _
   | refine LeO.ite ?_ ?_
   | refine LeO.bind ?_ (fun _ => ?_)
  ·intro y0 y1 y2 y3 y4 y5 y6
   unfold impl_GoodSnap.l0
   repeat' first
   | (with_reducible exact ih0 _ _ _ _)
   | (with_reducible exact ih1 _ _ _ _ _ _ _)
   | (with_reducible exact ih2 _ _ _ _ _ _ _)
   | (with_reducible exact ih3 _ _ _ _ _ _ _ _ _ _ _)
   | (with_reducible exact impl_sumOf.mono _ _)
   | (with_reducible exact LeO.refl _)
   | (with_reducible exact LeO.none _)
   | (with_reducible refine LeO.ite ?_ ?_)
   | (with_reducible refine LeO.bind ?_ (fun _ => ?_))
   | exact ih0 _ _ _ _
   | exact ih1 _ _ _ _ _ _ _
   | exact ih2 _ _ _ _ _ _ _
   | exact ih3 _ _ _ _ _ _ _ _ _ _ _
   | exact impl_sumOf.mono _ _
   | exact LeO.none _
   | refine LeO.ite ?_ ?_
   | refine LeO.bind ?_ (fun _ => ?_)
  ·intro y0 y1 y2 y3 y4 y5 y6
   unfold impl_GoodSnap.l1
   repeat' first
   | (with_reducible exact ih0 _ _ _ _)
   | (with_reducible exact ih1 _ _ _ _ _ _ _)
   | (with_reducible exact ih2 _ _ _ _ _ _ _)
   | (with_reducible exact ih3 _ _ _ _ _ _ _ _ _ _ _)
   | (with_reducible exact impl_sumOf.mono _ _)
   | (with_reducible exact LeO.refl _)
   | (with_reducible exact LeO.none _)
   | (with_reducible refine LeO.ite ?_ ?_)
   | (with_reducible refine LeO.bind ?_ (fun _ => ?_))
   | exact ih0 _ _ _ _
   | exact ih1 _ _ _ _ _ _ _
   | exact ih2 _ _ _ _ _ _ _
   | exact ih3 _ _ _ _ _ _ _ _ _ _ _
   | exact impl_sumOf.mono _ _
   | exact LeO.none _
   | refine LeO.ite ?_ ?_
   | refine LeO.bind ?_ (fun _ => ?_)
  ·intro y0 y1 y2 y3 y4 y5 y6 y7 y8 y9 y10
   unfold impl_GoodSnap.j3
   repeat' first
   | (with_reducible exact ih0 _ _ _ _)
   | (with_reducible exact ih1 _ _ _ _ _ _ _)
   | (with_reducible exact ih2 _ _ _ _ _ _ _)
   | (with_reducible exact ih3 _ _ _ _ _ _ _ _ _ _ _)
   | (with_reducible exact impl_sumOf.mono _ _)
   | (with_reducible exact LeO.refl _)
   | (with_reducible exact LeO.none _)
   | (with_reducible refine LeO.ite ?_ ?_)
   | (with_reducible refine LeO.bind ?_ (fun _ => ?_))
   | exact ih0 _ _ _ _
   | exact ih1 _ _ _ _ _ _ _
   | exact ih2 _ _ _ _ _ _ _
   | exact ih3 _ _ _ _ _ _ _ _ _ _ _
   | exact impl_sumOf.mono _ _
   | exact LeO.none _
   | refine LeO.ite ?_ ?_
   | refine LeO.bind ?_ (fun _ => ?_)
theorem impl_GoodSnap.mono : ∀ a0 a1 k, LeO (impl_GoodSnap.f k a0 a1) (impl_GoodSnap.f (k + 1) a0 a1) := by
 intro a0 a1 k
 obtain ⟨ih0, ih1, ih2, ih3⟩ := impl_GoodSnap.mono_l k
 unfold impl_GoodSnap.f
 repeat' first
   | (with_reducible exact ih0 _ _ _ _)
   | (with_reducible exact ih1 _ _ _ _ _ _ _)
   | (with_reducible exact ih2 _ _ _ _ _ _ _)
   | (with_reducible exact ih3 _ _ _ _ _ _ _ _ _ _ _)
   | (with_reducible exact impl_sumOf.mono _ _)
   | (with_reducible exact LeO.refl _)
   | (with_reducible exact LeO.none _)
   | (with_reducible refine LeO.ite ?_ ?_)
   | (with_reducible refine LeO.bind ?_ (fun _ => ?_))
   | exact ih0 _ _ _ _
   | exact ih1 _ _ _ _ _ _ _
   | exact ih2 _ _ _ _ _ _ _
   | exact ih3 _ _ _ _ _ _ _ _ _ _ _
   | exact impl_sumOf.mono _ _
   | exact LeO.none _
   | refine LeO.ite ?_ ?_
   | refine LeO.bind ?_ (fun _ => ?_)
def impl_GoodSnap.T15 : Bool × List (List Nat × List Nat) := (true, [([], []), ([], []), ([1], [1]), ([], []), ([], []), ([3, 4], [3, 4]), ([2, 5], [2, 5]), ([6], [6]), ([0, 7], [0, 7]), ([8], [8]), ([9, 8], [9]), ([10], [10]), ([10], [10]), ([11, 12, 10], [10, 11, 12]), ([10], [10]), ([10], [10]), ([14, 15, 10], [10, 14, 15]), ([13, 16, 10], [10, 13, 16]), ([17, 10, 10], [10, 17]), ([18], [18]), ([19, 18, 18], [18, 19]), ([20, 18], [18, 20]), ([18, 21, 10], [10, 18, 21]), ([10, 22], [10, 22])])
def impl_GoodSnap.B15 : List Nat := [0, 0, 2, 0, 0, 24, 62, 126, 255, 511, 1023, 2047, 2047, 8191, 2047, 2047, 51199, 131071, 262143, 524287, 1048575, 2097151, 4194303, 8388607]
theorem impl_GoodSnap.tab15 : rtab .any (opsOf Try.f58 15) = impl_GoodSnap.T15 := by kernel_rfl
theorem impl_GoodSnap.bits15 : waitsOk impl_GoodSnap.T15.2 impl_GoodSnap.B15 = true := by kernel_rfl
def impl_GoodSnap.T17 : Bool × List (List Nat × List Nat) := (true, [([], []), ([], []), ([1], [1]), ([2], [2]), ([], []), ([4], [4]), ([5, 3], [5]), ([3, 6], [3, 6]), ([0, 7], [0, 7]), ([8, 6, 0, 1, 2, 3, 4, 5, 6, 7, 8], [0, 8])])
def impl_GoodSnap.B17 : List Nat := [0, 0, 2, 6, 0, 16, 62, 126, 255, 511]
theorem impl_GoodSnap.tab17 : rtab .any (opsOf Try.f58 17) = impl_GoodSnap.T17 := by kernel_rfl
theorem impl_GoodSnap.bits17 : waitsOk impl_GoodSnap.T17.2 impl_GoodSnap.B17 = true := by kernel_rfl
set_option maxHeartbeats 8000000 in
set_option maxRecDepth 100000 in
theorem impl_GoodSnap.calls (k : Nat) (A0_0 : Option Addr) (c0_0 : Nat) (l0_0 : List (S138)) (A0_1 : Option Addr) (c0_1 : Nat) (l0_1 : List (S140)) (r : Bool) (w : World) (hr0_0 : Kd.C k138 w A0_0 l0_0.length l0_0) (hc0_0 : l0_0.length ≤ c0_0) (hr0_1 : Kd.C k140 w A0_1 l0_1.length l0_1) (hc0_1 : l0_1.length ≤ c0_1) (h : impl_GoodSnap.f k l0_0 l0_1 = some r) :
  Calls Try.prog 58 #[.agg #[.slice A0_0 l0_0.length c0_0, .slice A0_1 l0_1.length c0_1]] w fun e w' => e = .returned (.bool r) ∧ Below w.heap.size w w' := by
 have hu85 := Try.underlying85
 have hu138 := Try.underlying138
 have hu140 := Try.underlying140
 have HR0_0 := xm hr0_0
 have HC0_0 := xm hc0_0
 clear hr0_0 hc0_0
 have HR0_1 := xm hr0_1
 have HC0_1 := xm hc0_1
 clear hr0_1 hc0_1
 have HB := xm (Below.refl w.heap.size w)
 have H : ((impl_within.f (l0_0.length : Int) 2 4).bind fun t880 => (if t880 = true then (impl_GoodSnap.j0 k (l0_0.length : Int) ((l0_1.length : Int) != (wrap64 ((l0_0.length : Int) * (l0_0.length : Int)))) l0_0 l0_1) else (impl_GoodSnap.j0 k (l0_0.length : Int) true l0_0 l0_1))) = some r := h
 clear h
 have HC2 := xm H
 clear H
 go_enter Try.func58, Try.ntmps58
 go_upto_region 2 with (first | ((with_reducible refine gate_dst (N := 1) rfl ?_); (try (refine gate_guard (by rfl) ?_; dsimp only)); refine box_event ?hg (N := 1) ?hd (cs := #[.slice A0_0 l0_0.length c0_0, .slice A0_1 l0_1.length c0_1]) (t := 85) ?hr ?_; (case hd => rfl); (case hg => rfl); (case hr => first | (go_simp; done) | (go_simp; rfl)); intro gb879 hg w3 hbox hb; have n0_ := xm (below_step (by repeat (first | (with_reducible first | exact HB.out | apply xa | apply xn | apply xd) | exact HB.out)) hb); have n1_ := xm (hbox); have n2_ := xm ((by rw [hg]; exact (xz (by repeat (first | (with_reducible first | exact HB.out | apply xa | apply xn | apply xd) | exact HB.out))) : w.heap.size ≤ gb879)); have n3_ := xm ((by rw [hg]; exact (xz (by repeat (first | (with_reducible first | exact HB.out | apply xa | apply xn | apply xd) | exact HB.out))) : w.heap.size ≤ gb879)); clear HB; have HB := n0_; have BK879 := n1_; have GW879 := n2_; have GE879 := n3_; clear n0_ n1_ n2_ n3_; clear hb hbox hg; have hcz4_0 : w3.cell? ⟨gb879, 0, none⟩ = some (.slice A0_0 l0_0.length c0_0) := (xc BK879.out 0).trans rfl; have hcz4_1 : w3.cell? ⟨gb879, 1, none⟩ = some (.slice A0_1 l0_1.length c0_1) := (xc BK879.out 1).trans rfl; have hfz4_0 := xf BK879.out 0; have hfz4_1 := xf BK879.out 1))
 (try simp only [Act.put, xi, xj, xk])
 go_cut [23] (fun v23 wc => ∃ (kq : Nat) (x23_1 : Bool), v23 = .bool x23_1 ∧ Aside0 (impl_GoodSnap.j0 kq (l0_0.length : Int) x23_1 l0_0 l0_1 = some r) ∧ Aside0 (kq ≤ k) ∧ Aside0 (wc.heap[gb879]? = some (.cells #[(.slice A0_0 l0_0.length c0_0), (.slice A0_1 l0_1.length c0_1)] 85 (0, 0))) ∧ Aside0 (Below w.heap.size w wc))
 case first =>
  have H := HC2.out
  clear HC2
  replace H := Option.bind_eq_some_iff.mp H
  obtain ⟨t880, A50, H⟩ := H
  replace H : (if t880 = true then (impl_GoodSnap.j0 k (l0_0.length : Int) ((l0_1.length : Int) != (wrap64 ((l0_0.length : Int) * (l0_0.length : Int)))) l0_0 l0_1) else (impl_GoodSnap.j0 k (l0_0.length : Int) true l0_0 l0_1)) = some r := H
  have A5 := xm A50
  clear A50
  by_cases c6 : t880 = true
  ·subst c6
   have H1 : (impl_GoodSnap.j0 k (l0_0.length : Int) ((l0_1.length : Int) != (wrap64 ((l0_0.length : Int) * (l0_0.length : Int)))) l0_0 l0_1) = some r := by first | (with_reducible rfl) | (rw [if_pos rfl] at H; exact H)
   clear H
   have H := H1
   clear H1
   have H' := xm H
   clear H
   go_wp2_with (first | ((with_reducible refine gate_callee (f := 86) rfl ?_); refine goesL_ (some 13) rfl rfl Try.func86 (by kernel_rfl) rfl #[.int .i64 (l0_0.length : Int), .int .i64 2, .int .i64 4] rfl (by (try simp only [List.map_toArray, List.map_cons, List.map_nil]); first | done | rfl | (simp only [List.length_drop, List.length_take]; rfl)) ?_; (with_reducible refine (impl_within.calls (l0_0.length : Int) 2 4 true _ A5.out).mono ?_); rintro e w' ⟨rfl, ⟨nd, rfl⟩⟩; refine ⟨_, rfl, ?_⟩; have hcz7_0 : w3.cell? ⟨gb879, 0, none⟩ = some (.slice A0_0 l0_0.length c0_0) := (xc BK879.out 0).trans rfl; have hcz7_1 : w3.cell? ⟨gb879, 1, none⟩ = some (.slice A0_1 l0_1.length c0_1) := (xc BK879.out 1).trans rfl; have hfz7_0 := xf BK879.out 0; have hfz7_1 := xf BK879.out 1))
   go_meet
   case rel => exact ⟨_, (((l0_1.length : Int) != (wrap64 ((l0_0.length : Int) * (l0_0.length : Int))))), (by first | rfl | (simp; done) | (simp [*]; done)), H', ⟨by first | omega | exact Nat.le_refl _⟩, ⟨by (with_reducible repeat (first | refine xq ?_ _ | refine xr ?_ | refine xo ?_ _)); exact BK879.out⟩, ⟨by repeat (first | (with_reducible first | exact HB.out | apply xa | apply xn | apply xd | refine xt ?_ GE879.out) | exact HB.out)⟩⟩
  ·replace c6 := Bool.eq_false_iff.mpr c6
   subst c6
   have H1 : (impl_GoodSnap.j0 k (l0_0.length : Int) true l0_0 l0_1) = some r := by first | (with_reducible rfl) | (rw [if_neg (show ¬ (false = true) by decide)] at H; exact H)
   clear H
   have H := H1
   clear H1
   have H' := xm H
   clear H
   go_wp2_with (first | ((with_reducible refine gate_callee (f := 86) rfl ?_); refine goesL_ (some 13) rfl rfl Try.func86 (by kernel_rfl) rfl #[.int .i64 (l0_0.length : Int), .int .i64 2, .int .i64 4] rfl (by (try simp only [List.map_toArray, List.map_cons, List.map_nil]); first | done | rfl | (simp only [List.length_drop, List.length_take]; rfl)) ?_; (with_reducible refine (impl_within.calls (l0_0.length : Int) 2 4 false _ A5.out).mono ?_); rintro e w' ⟨rfl, ⟨nd, rfl⟩⟩; refine ⟨_, rfl, ?_⟩))
   go_meet
   case rel => exact ⟨_, (true), (by first | rfl | (simp; done) | (simp [*]; done)), H', ⟨by first | omega | exact Nat.le_refl _⟩, ⟨by (with_reducible repeat (first | refine xq ?_ _ | refine xr ?_ | refine xo ?_ _)); exact BK879.out⟩, ⟨by repeat (first | (with_reducible first | exact HB.out | apply xa | apply xn | apply xd | refine xt ?_ GE879.out) | exact HB.out)⟩⟩
 case rest =>
  clear HC2
  try clear p2
  try clear c5
  try clear c6
  try clear p6
  try clear hcz4_0
  try clear hcz4_1
  try clear hcz7_0
  try clear hcz7_1
  try clear hfz4_0
  try clear hfz4_1
  try clear hfz7_0
  try clear hfz7_1
  obtain ⟨kq, x23_1, rfl, HA, HJ1, BK879, HB⟩ := hcut
  cases kq with
  | zero => exact absurd HA.out (by simp [impl_GoodSnap.j0])
  | succ kj1 =>
   have H := HA.out
   clear HA
   simp only [impl_GoodSnap.j0] at H
   by_cases c8 : x23_1 = true
   ·subst c8
    have H1 : (some false) = some r := by first | (with_reducible rfl) | (rw [if_pos rfl] at H; exact H)
    clear H
    have H := H1
    clear H1
    obtain rfl := Option.some.inj H
    go_wp2
    go_ret
    exact ⟨by first | rfl | (simp [errW_none, errW_some] <;> rfl) | (simp [*, errW_none, errW_some] <;> rfl), by repeat (first | (with_reducible first | exact HB.out | apply xa | apply xn | apply xd | refine xt ?_ GE879.out) | exact HB.out)⟩
   ·replace c8 := Bool.eq_false_iff.mpr c8
    subst c8
    have H1 : (impl_GoodSnap.l0 kj1 (l0_0.length : Int) 0 l0_0 (l0_0.length : Int) 0 l0_0 l0_1) = some r := by first | (with_reducible rfl) | (rw [if_neg (show ¬ (false = true) by decide)] at H; exact H)
    clear H
    have H := H1
    clear H1
    have H' := xm H
    clear H
    have hcz9_0 : wc.cell? ⟨gb879, 0, none⟩ = some (.slice A0_0 l0_0.length c0_0) := (xc BK879.out 0).trans rfl
    have hcz9_1 : wc.cell? ⟨gb879, 1, none⟩ = some (.slice A0_1 l0_1.length c0_1) := (xc BK879.out 1).trans rfl
    have hfz9_0 := xf BK879.out 0
    have hfz9_1 := xf BK879.out 1
    go_wp2
    go_loopg [4, 27] kj1 (fun kq v4 v27 w' => ∃ (x4_2 : Int) (x27_2 : Int), v4 = .int .i64 x4_2 ∧ v27 = .int .i64 x27_2 ∧ Aside0 (impl_GoodSnap.l0 kq (l0_0.length : Int) x4_2 l0_0 (l0_0.length : Int) x27_2 l0_0 l0_1 = some r) ∧ Aside0 (kq ≤ kj1) ∧ Aside0 (w'.heap[gb879]? = some (.cells #[(.slice A0_0 l0_0.length c0_0), (.slice A0_1 l0_1.length c0_1)] 85 (0, 0))) ∧ Aside0 (Below w.heap.size w w'))
    case atStart => exact ⟨(0), (0), (by first | rfl | (simp; done) | (simp [*]; done)), (by first | rfl | (simp; done) | (simp [*]; done)), H', ⟨Nat.le_refl _⟩, ⟨by (with_reducible repeat (first | refine xq ?_ _ | refine xr ?_ | refine xo ?_ _)); exact BK879.out⟩, ⟨by repeat (first | (with_reducible first | exact HB.out | apply xa | apply xn | apply xd | refine xt ?_ GE879.out) | exact HB.out)⟩⟩
    case round =>
     clear H'
     try clear p2
     try clear c5
     try clear c6
     try clear p6
     try clear c8
     try clear hcz4_0
     try clear hcz4_1
     try clear hcz7_0
     try clear hcz7_1
     try clear hcz9_0
     try clear hcz9_1
     try clear hfz4_0
     try clear hfz4_1
     try clear hfz7_0
     try clear hfz7_1
     try clear hfz9_0
     try clear hfz9_1
     try clear p2
     try clear p6
     obtain ⟨x4_2, x27_2, rfl, rfl, HA, HK2, BK879, HB⟩ := hrel
     cases gk with
     | zero => exact absurd HA.out (by simp [impl_GoodSnap.l0])
     | succ k2 =>
      have H := HA.out
      clear HA
      simp only [impl_GoodSnap.l0] at H
      by_cases c10 : x27_2 < (l0_0.length : Int)
      ·rw [if_pos c10] at H
       have c10b0 : decide (x27_2 < (l0_0.length : Int)) = true := decide_eq_true c10
       clear c10
       by_cases c11 : 0 ≤ x27_2
       ·rw [if_pos c11] at H
        have c11b0 : decide (0 ≤ x27_2) = true := decide_eq_true c11
        clear c11
        by_cases c12 : x27_2 < (l0_0.length : Int)
        ·rw [if_pos c12] at H
         have c12b0 : decide (x27_2 < (l0_0.length : Int)) = true := decide_eq_true c12
         clear c12
         replace H := Option.bind_eq_some_iff.mp H
         obtain ⟨t883, A130, H⟩ := H
         replace H : (if t883 = true then ((impl_within.f ((rd_T138 l0_0 x27_2).f1) 0 2000000000).bind fun t884 => (if t884 = true then (if ((rd_T138 l0_0 x27_2).f2 = true) then (impl_GoodSnap.l0 k2 (l0_0.length : Int) (wrap64 (x4_2 + (wrap64 (((rd_T138 l0_0 x27_2).f0) + ((rd_T138 l0_0 x27_2).f1))))) l0_0 (l0_0.length : Int) (wrap64 (x27_2 + 1)) l0_0 l0_1) else (if ((rd_T138 l0_0 x27_2).f1) = 0 then (impl_GoodSnap.l0 k2 (l0_0.length : Int) (wrap64 (x4_2 + (wrap64 (((rd_T138 l0_0 x27_2).f0) + ((rd_T138 l0_0 x27_2).f1))))) l0_0 (l0_0.length : Int) (wrap64 (x27_2 + 1)) l0_0 l0_1) else (some false))) else (some false))) else (some false)) = some r := H
         have A13 := xm A130
         clear A130
         by_cases c14 : t883 = true
         ·subst c14
          have H1 : ((impl_within.f ((rd_T138 l0_0 x27_2).f1) 0 2000000000).bind fun t884 => (if t884 = true then (if ((rd_T138 l0_0 x27_2).f2 = true) then (impl_GoodSnap.l0 k2 (l0_0.length : Int) (wrap64 (x4_2 + (wrap64 (((rd_T138 l0_0 x27_2).f0) + ((rd_T138 l0_0 x27_2).f1))))) l0_0 (l0_0.length : Int) (wrap64 (x27_2 + 1)) l0_0 l0_1) else (if ((rd_T138 l0_0 x27_2).f1) = 0 then (impl_GoodSnap.l0 k2 (l0_0.length : Int) (wrap64 (x4_2 + (wrap64 (((rd_T138 l0_0 x27_2).f0) + ((rd_T138 l0_0 x27_2).f1))))) l0_0 (l0_0.length : Int) (wrap64 (x27_2 + 1)) l0_0 l0_1) else (some false))) else (some false))) = some r := by first | (with_reducible rfl) | (rw [if_pos rfl] at H; exact H)
          clear H
          have H := H1
          clear H1
          replace H := Option.bind_eq_some_iff.mp H
          obtain ⟨t884, A150, H⟩ := H
          replace H : (if t884 = true then (if ((rd_T138 l0_0 x27_2).f2 = true) then (impl_GoodSnap.l0 k2 (l0_0.length : Int) (wrap64 (x4_2 + (wrap64 (((rd_T138 l0_0 x27_2).f0) + ((rd_T138 l0_0 x27_2).f1))))) l0_0 (l0_0.length : Int) (wrap64 (x27_2 + 1)) l0_0 l0_1) else (if ((rd_T138 l0_0 x27_2).f1) = 0 then (impl_GoodSnap.l0 k2 (l0_0.length : Int) (wrap64 (x4_2 + (wrap64 (((rd_T138 l0_0 x27_2).f0) + ((rd_T138 l0_0 x27_2).f1))))) l0_0 (l0_0.length : Int) (wrap64 (x27_2 + 1)) l0_0 l0_1) else (some false))) else (some false)) = some r := H
          have A15 := xm A150
          clear A150
          by_cases c16 : t884 = true
          ·subst c16
           have H1 : (if ((rd_T138 l0_0 x27_2).f2 = true) then (impl_GoodSnap.l0 k2 (l0_0.length : Int) (wrap64 (x4_2 + (wrap64 (((rd_T138 l0_0 x27_2).f0) + ((rd_T138 l0_0 x27_2).f1))))) l0_0 (l0_0.length : Int) (wrap64 (x27_2 + 1)) l0_0 l0_1) else (if ((rd_T138 l0_0 x27_2).f1) = 0 then (impl_GoodSnap.l0 k2 (l0_0.length : Int) (wrap64 (x4_2 + (wrap64 (((rd_T138 l0_0 x27_2).f0) + ((rd_T138 l0_0 x27_2).f1))))) l0_0 (l0_0.length : Int) (wrap64 (x27_2 + 1)) l0_0 l0_1) else (some false))) = some r := by first | (with_reducible rfl) | (rw [if_pos rfl] at H; exact H)
           clear H
           have H := H1
           clear H1
           obtain ⟨bq17, hbq17⟩ : ∃ b_ : Bool, b_ = ((rd_T138 l0_0 x27_2).f2) := ⟨_, rfl⟩
           replace H : (if (bq17 = true) then (impl_GoodSnap.l0 k2 (l0_0.length : Int) (wrap64 (x4_2 + (wrap64 (((rd_T138 l0_0 x27_2).f0) + ((rd_T138 l0_0 x27_2).f1))))) l0_0 (l0_0.length : Int) (wrap64 (x27_2 + 1)) l0_0 l0_1) else (if ((rd_T138 l0_0 x27_2).f1) = 0 then (impl_GoodSnap.l0 k2 (l0_0.length : Int) (wrap64 (x4_2 + (wrap64 (((rd_T138 l0_0 x27_2).f0) + ((rd_T138 l0_0 x27_2).f1))))) l0_0 (l0_0.length : Int) (wrap64 (x27_2 + 1)) l0_0 l0_1) else (some false))) = some r := by rw [← hbq17] at H; exact H
           have Nbq17 := xm hbq17
           clear hbq17
           by_cases c18 : (bq17 = true)
           ·subst c18
            have H1 : (impl_GoodSnap.l0 k2 (l0_0.length : Int) (wrap64 (x4_2 + (wrap64 (((rd_T138 l0_0 x27_2).f0) + ((rd_T138 l0_0 x27_2).f1))))) l0_0 (l0_0.length : Int) (wrap64 (x27_2 + 1)) l0_0 l0_1) = some r := by first | (with_reducible rfl) | (rw [if_pos rfl] at H; exact H)
            clear H
            have H := H1
            clear H1
            have H' := xm H
            clear H
            have p881 : 0 ≤ (x27_2 : Int) := of_decide_eq_true (by first | (with_reducible assumption) | assumption)
            have q881 : x27_2 < (l0_0.length : Int) := of_decide_eq_true (by first | (with_reducible assumption) | assumption)
            obtain ⟨ad881, e881, hx881_0, hx881_1, hx881_2⟩ := at_T138 HR0_0.out x27_2 p881 q881
            (try rw [← Nbq17.out] at hx881_2)
            cases e881
            replace hx881_0 := (HB.out.cell (World.block_lt_of_cell? w _ hx881_0)).trans hx881_0
            replace hx881_1 := (HB.out.cell (World.block_lt_of_cell? w _ hx881_1)).trans hx881_1
            replace hx881_2 := (HB.out.cell (World.block_lt_of_cell? w _ hx881_2)).trans hx881_2
            replace p881 := eq_true p881
            replace q881 := eq_true q881
            go_wp2_with (first | ((with_reducible refine gate_dst (N := 6) rfl ?_); (try (refine gate_guard (by rfl) ?_; dsimp only)); refine box_event ?hg (N := 6) ?hd (cs := #[.int .i64 0, .int .i64 0, .bool false]) (t := 138) ?hr ?_; (case hd => rfl); (case hg => rfl); (case hr => first | (go_simp; done) | (go_simp; rfl)); intro gb882 hg w19 hbox hb; have n0_ := xm (blk_below (g := gb879) (o := .cells #[.slice (some ad881) l0_0.length c0_0, .slice A0_1 l0_1.length c0_1] 85 (0, 0)) (by (with_reducible repeat (first | refine xq ?_ _ | refine xr ?_ | refine xo ?_ _)); exact BK879.out) hb); have n1_ := xm (below_step (by repeat (first | (with_reducible first | exact HB.out | apply xa | apply xn | apply xd | refine xt ?_ GE879.out) | exact HB.out)) hb); have n2_ := xm (hbox); have n3_ := xm ((by rw [hg]; exact (xz (by repeat (first | (with_reducible first | exact HB.out | apply xa | apply xn | apply xd | refine xt ?_ GE879.out) | exact HB.out))) : w.heap.size ≤ gb882)); have n4_ := xm ((by rw [hg]; exact (xz (by repeat (first | (with_reducible first | exact HB.out | apply xa | apply xn | apply xd | refine xt ?_ GE879.out) | exact HB.out))) : w.heap.size ≤ gb882)); have n5_ := xm ((by rw [hg]; exact Nat.ne_of_lt (blk_lt (g := gb879) (o := .cells #[.slice (some ad881) l0_0.length c0_0, .slice A0_1 l0_1.length c0_1] 85 (0, 0)) (by (with_reducible repeat (first | refine xq ?_ _ | refine xr ?_ | refine xo ?_ _)); exact BK879.out)) : gb879 ≠ gb882)); have n6_ := xm ((by rw [hg]; exact Nat.ne_of_gt (blk_lt (g := gb879) (o := .cells #[.slice (some ad881) l0_0.length c0_0, .slice A0_1 l0_1.length c0_1] 85 (0, 0)) (by (with_reducible repeat (first | refine xq ?_ _ | refine xr ?_ | refine xo ?_ _)); exact BK879.out)) : gb882 ≠ gb879)); clear BK879; clear HB; have BK879 := n0_; have HB := n1_; have BK882 := n2_; have GW882 := n3_; have GE882 := n4_; have NB879_882 := n5_; have NB882_879 := n6_; clear n0_ n1_ n2_ n3_ n4_ n5_ n6_; clear hb hbox hg; have hnb20 := NB882_879.out; have hnc20 := NB879_882.out; have hcz21_0 : w19.cell? ⟨gb882, 0, none⟩ = some (.int .i64 0) := (xc BK882.out 0).trans rfl; have hcz21_1 : w19.cell? ⟨gb882, 1, none⟩ = some (.int .i64 0) := (xc BK882.out 1).trans rfl; have hcz21_2 : w19.cell? ⟨gb882, 2, none⟩ = some (.bool false) := (xc BK882.out 2).trans rfl; have hfz21_0 := xf BK882.out 0; have hfz21_1 := xf BK882.out 1; have hfz21_2 := xf BK882.out 2) | ((with_reducible refine gate_callee (f := 86) rfl ?_); refine goesL_ (some 33) rfl rfl Try.func86 (by kernel_rfl) rfl #[.int .i64 ((rd_T138 l0_0 x27_2).f0), .int .i64 0, .int .i64 2000000000] rfl (by (try simp only [List.map_toArray, List.map_cons, List.map_nil]); first | done | rfl | (simp only [List.length_drop, List.length_take]; rfl)) ?_; (with_reducible refine (impl_within.calls ((rd_T138 l0_0 x27_2).f0) 0 2000000000 true _ A13.out).mono ?_); rintro e w' ⟨rfl, ⟨nd, rfl⟩⟩; refine ⟨_, rfl, ?_⟩) | (go_at_call 86; (with_reducible refine (impl_within.calls ((rd_T138 l0_0 x27_2).f1) 0 2000000000 true _ A15.out).mono ?_); rintro e w' ⟨rfl, ⟨nd, rfl⟩⟩))
            go_roundg k2
            case measure => have := HJ1.out; have := HK2.out; omega
            case rel => (try rw [← Nbq17.out]); exact ⟨(wrap64 (x4_2 + (wrap64 (((rd_T138 l0_0 x27_2).f0) + ((rd_T138 l0_0 x27_2).f1))))), (wrap64 (x27_2 + 1)), (by first | rfl | (simp; done) | (simp [*]; done)), (by first | rfl | (simp; done) | (simp [*]; done)), H', ⟨by have := HJ1.out; have := HK2.out; omega⟩, ⟨by (with_reducible repeat (first | refine xq ?_ _ | refine xr ?_ | refine xo ?_ _)); refine blk_far ?_ NB879_882.out _; (with_reducible repeat (first | refine xq ?_ _ | refine xr ?_ | refine xo ?_ _)); refine blk_far ?_ NB879_882.out _; (with_reducible repeat (first | refine xq ?_ _ | refine xr ?_ | refine xo ?_ _)); refine blk_far ?_ NB879_882.out _; (with_reducible repeat (first | refine xq ?_ _ | refine xr ?_ | refine xo ?_ _)); exact BK879.out⟩, ⟨by repeat (first | (with_reducible first | exact HB.out | apply xa | apply xn | apply xd | refine xt ?_ GE879.out | refine xt ?_ GE882.out) | exact HB.out)⟩⟩
           ·replace c18 := Bool.eq_false_iff.mpr c18
            subst c18
            have H1 : (if ((rd_T138 l0_0 x27_2).f1) = 0 then (impl_GoodSnap.l0 k2 (l0_0.length : Int) (wrap64 (x4_2 + (wrap64 (((rd_T138 l0_0 x27_2).f0) + ((rd_T138 l0_0 x27_2).f1))))) l0_0 (l0_0.length : Int) (wrap64 (x27_2 + 1)) l0_0 l0_1) else (some false)) = some r := by first | (with_reducible rfl) | (rw [if_neg (show ¬ (false = true) by decide)] at H; exact H)
            clear H
            have H := H1
            clear H1
            by_cases c22 : ((rd_T138 l0_0 x27_2).f1) = 0
            ·rw [if_pos c22] at H
             have c22b0 : (((rd_T138 l0_0 x27_2).f1) == 0) = true := beq_iff_eq.mpr c22
             have c22b1 : (((rd_T138 l0_0 x27_2).f1) != 0) = false := bne_eq_false_iff_eq.mpr c22
             clear c22
             have H' := xm H
             clear H
             have p881 : 0 ≤ (x27_2 : Int) := of_decide_eq_true (by first | (with_reducible assumption) | assumption)
             have q881 : x27_2 < (l0_0.length : Int) := of_decide_eq_true (by first | (with_reducible assumption) | assumption)
             obtain ⟨ad881, e881, hx881_0, hx881_1, hx881_2⟩ := at_T138 HR0_0.out x27_2 p881 q881
             (try rw [← Nbq17.out] at hx881_2)
             cases e881
             replace hx881_0 := (HB.out.cell (World.block_lt_of_cell? w _ hx881_0)).trans hx881_0
             replace hx881_1 := (HB.out.cell (World.block_lt_of_cell? w _ hx881_1)).trans hx881_1
             replace hx881_2 := (HB.out.cell (World.block_lt_of_cell? w _ hx881_2)).trans hx881_2
             replace p881 := eq_true p881
             replace q881 := eq_true q881
             go_wp2_with (first | ((with_reducible refine gate_dst (N := 6) rfl ?_); (try (refine gate_guard (by rfl) ?_; dsimp only)); refine box_event ?hg (N := 6) ?hd (cs := #[.int .i64 0, .int .i64 0, .bool false]) (t := 138) ?hr ?_; (case hd => rfl); (case hg => rfl); (case hr => first | (go_simp; done) | (go_simp; rfl)); intro gb882 hg w23 hbox hb; have n0_ := xm (blk_below (g := gb879) (o := .cells #[.slice (some ad881) l0_0.length c0_0, .slice A0_1 l0_1.length c0_1] 85 (0, 0)) (by (with_reducible repeat (first | refine xq ?_ _ | refine xr ?_ | refine xo ?_ _)); exact BK879.out) hb); have n1_ := xm (below_step (by repeat (first | (with_reducible first | exact HB.out | apply xa | apply xn | apply xd | refine xt ?_ GE879.out) | exact HB.out)) hb); have n2_ := xm (hbox); have n3_ := xm ((by rw [hg]; exact (xz (by repeat (first | (with_reducible first | exact HB.out | apply xa | apply xn | apply xd | refine xt ?_ GE879.out) | exact HB.out))) : w.heap.size ≤ gb882)); have n4_ := xm ((by rw [hg]; exact (xz (by repeat (first | (with_reducible first | exact HB.out | apply xa | apply xn | apply xd | refine xt ?_ GE879.out) | exact HB.out))) : w.heap.size ≤ gb882)); have n5_ := xm ((by rw [hg]; exact Nat.ne_of_lt (blk_lt (g := gb879) (o := .cells #[.slice (some ad881) l0_0.length c0_0, .slice A0_1 l0_1.length c0_1] 85 (0, 0)) (by (with_reducible repeat (first | refine xq ?_ _ | refine xr ?_ | refine xo ?_ _)); exact BK879.out)) : gb879 ≠ gb882)); have n6_ := xm ((by rw [hg]; exact Nat.ne_of_gt (blk_lt (g := gb879) (o := .cells #[.slice (some ad881) l0_0.length c0_0, .slice A0_1 l0_1.length c0_1] 85 (0, 0)) (by (with_reducible repeat (first | refine xq ?_ _ | refine xr ?_ | refine xo ?_ _)); exact BK879.out)) : gb882 ≠ gb879)); clear BK879; clear HB; have BK879 := n0_; have HB := n1_; have BK882 := n2_; have GW882 := n3_; have GE882 := n4_; have NB879_882 := n5_; have NB882_879 := n6_; clear n0_ n1_ n2_ n3_ n4_ n5_ n6_; clear hb hbox hg; have hnb24 := NB882_879.out; have hnc24 := NB879_882.out; have hcz25_0 : w23.cell? ⟨gb882, 0, none⟩ = some (.int .i64 0) := (xc BK882.out 0).trans rfl; have hcz25_1 : w23.cell? ⟨gb882, 1, none⟩ = some (.int .i64 0) := (xc BK882.out 1).trans rfl; have hcz25_2 : w23.cell? ⟨gb882, 2, none⟩ = some (.bool false) := (xc BK882.out 2).trans rfl; have hfz25_0 := xf BK882.out 0; have hfz25_1 := xf BK882.out 1; have hfz25_2 := xf BK882.out 2) | ((with_reducible refine gate_callee (f := 86) rfl ?_); refine goesL_ (some 33) rfl rfl Try.func86 (by kernel_rfl) rfl #[.int .i64 ((rd_T138 l0_0 x27_2).f0), .int .i64 0, .int .i64 2000000000] rfl (by (try simp only [List.map_toArray, List.map_cons, List.map_nil]); first | done | rfl | (simp only [List.length_drop, List.length_take]; rfl)) ?_; (with_reducible refine (impl_within.calls ((rd_T138 l0_0 x27_2).f0) 0 2000000000 true _ A13.out).mono ?_); rintro e w' ⟨rfl, ⟨nd, rfl⟩⟩; refine ⟨_, rfl, ?_⟩) | (go_at_call 86; (with_reducible refine (impl_within.calls ((rd_T138 l0_0 x27_2).f1) 0 2000000000 true _ A15.out).mono ?_); rintro e w' ⟨rfl, ⟨nd, rfl⟩⟩))
             go_roundg k2
             case measure => have := HJ1.out; have := HK2.out; omega
             case rel => (try rw [← Nbq17.out]); exact ⟨(wrap64 (x4_2 + (wrap64 (((rd_T138 l0_0 x27_2).f0) + ((rd_T138 l0_0 x27_2).f1))))), (wrap64 (x27_2 + 1)), (by first | rfl | (simp; done) | (simp [*]; done)), (by first | rfl | (simp; done) | (simp [*]; done)), H', ⟨by have := HJ1.out; have := HK2.out; omega⟩, ⟨by (with_reducible repeat (first | refine xq ?_ _ | refine xr ?_ | refine xo ?_ _)); refine blk_far ?_ NB879_882.out _; (with_reducible repeat (first | refine xq ?_ _ | refine xr ?_ | refine xo ?_ _)); refine blk_far ?_ NB879_882.out _; (with_reducible repeat (first | refine xq ?_ _ | refine xr ?_ | refine xo ?_ _)); refine blk_far ?_ NB879_882.out _; (with_reducible repeat (first | refine xq ?_ _ | refine xr ?_ | refine xo ?_ _)); exact BK879.out⟩, ⟨by repeat (first | (with_reducible first | exact HB.out | apply xa | apply xn | apply xd | refine xt ?_ GE879.out | refine xt ?_ GE882.out) | exact HB.out)⟩⟩
            ·rw [if_neg c22] at H
             have c22b0 : (((rd_T138 l0_0 x27_2).f1) == 0) = false := beq_eq_false_iff_ne.mpr c22
             have c22b1 : (((rd_T138 l0_0 x27_2).f1) != 0) = true := bne_iff_ne.mpr c22
             obtain rfl := Option.some.inj H
             have p881 : 0 ≤ (x27_2 : Int) := of_decide_eq_true (by first | (with_reducible assumption) | assumption)
             have q881 : x27_2 < (l0_0.length : Int) := of_decide_eq_true (by first | (with_reducible assumption) | assumption)
             obtain ⟨ad881, e881, hx881_0, hx881_1, hx881_2⟩ := at_T138 HR0_0.out x27_2 p881 q881
             (try rw [← Nbq17.out] at hx881_2)
             cases e881
             replace hx881_0 := (HB.out.cell (World.block_lt_of_cell? w _ hx881_0)).trans hx881_0
             replace hx881_1 := (HB.out.cell (World.block_lt_of_cell? w _ hx881_1)).trans hx881_1
             replace hx881_2 := (HB.out.cell (World.block_lt_of_cell? w _ hx881_2)).trans hx881_2
             replace p881 := eq_true p881
             replace q881 := eq_true q881
             go_wp2_with (first | ((with_reducible refine gate_dst (N := 6) rfl ?_); (try (refine gate_guard (by rfl) ?_; dsimp only)); refine box_event ?hg (N := 6) ?hd (cs := #[.int .i64 0, .int .i64 0, .bool false]) (t := 138) ?hr ?_; (case hd => rfl); (case hg => rfl); (case hr => first | (go_simp; done) | (go_simp; rfl)); intro gb882 hg w26 hbox hb; have n0_ := xm (blk_below (g := gb879) (o := .cells #[.slice (some ad881) l0_0.length c0_0, .slice A0_1 l0_1.length c0_1] 85 (0, 0)) (by (with_reducible repeat (first | refine xq ?_ _ | refine xr ?_ | refine xo ?_ _)); exact BK879.out) hb); have n1_ := xm (below_step (by repeat (first | (with_reducible first | exact HB.out | apply xa | apply xn | apply xd | refine xt ?_ GE879.out) | exact HB.out)) hb); have n2_ := xm (hbox); have n3_ := xm ((by rw [hg]; exact (xz (by repeat (first | (with_reducible first | exact HB.out | apply xa | apply xn | apply xd | refine xt ?_ GE879.out) | exact HB.out))) : w.heap.size ≤ gb882)); have n4_ := xm ((by rw [hg]; exact (xz (by repeat (first | (with_reducible first | exact HB.out | apply xa | apply xn | apply xd | refine xt ?_ GE879.out) | exact HB.out))) : w.heap.size ≤ gb882)); have n5_ := xm ((by rw [hg]; exact Nat.ne_of_lt (blk_lt (g := gb879) (o := .cells #[.slice (some ad881) l0_0.length c0_0, .slice A0_1 l0_1.length c0_1] 85 (0, 0)) (by (with_reducible repeat (first | refine xq ?_ _ | refine xr ?_ | refine xo ?_ _)); exact BK879.out)) : gb879 ≠ gb882)); have n6_ := xm ((by rw [hg]; exact Nat.ne_of_gt (blk_lt (g := gb879) (o := .cells #[.slice (some ad881) l0_0.length c0_0, .slice A0_1 l0_1.length c0_1] 85 (0, 0)) (by (with_reducible repeat (first | refine xq ?_ _ | refine xr ?_ | refine xo ?_ _)); exact BK879.out)) : gb882 ≠ gb879)); clear BK879; clear HB; have BK879 := n0_; have HB := n1_; have BK882 := n2_; have GW882 := n3_; have GE882 := n4_; have NB879_882 := n5_; have NB882_879 := n6_; clear n0_ n1_ n2_ n3_ n4_ n5_ n6_; clear hb hbox hg; have hnb27 := NB882_879.out; have hnc27 := NB879_882.out; have hcz28_0 : w26.cell? ⟨gb882, 0, none⟩ = some (.int .i64 0) := (xc BK882.out 0).trans rfl; have hcz28_1 : w26.cell? ⟨gb882, 1, none⟩ = some (.int .i64 0) := (xc BK882.out 1).trans rfl; have hcz28_2 : w26.cell? ⟨gb882, 2, none⟩ = some (.bool false) := (xc BK882.out 2).trans rfl; have hfz28_0 := xf BK882.out 0; have hfz28_1 := xf BK882.out 1; have hfz28_2 := xf BK882.out 2) | ((with_reducible refine gate_callee (f := 86) rfl ?_); refine goesL_ (some 33) rfl rfl Try.func86 (by kernel_rfl) rfl #[.int .i64 ((rd_T138 l0_0 x27_2).f0), .int .i64 0, .int .i64 2000000000] rfl (by (try simp only [List.map_toArray, List.map_cons, List.map_nil]); first | done | rfl | (simp only [List.length_drop, List.length_take]; rfl)) ?_; (with_reducible refine (impl_within.calls ((rd_T138 l0_0 x27_2).f0) 0 2000000000 true _ A13.out).mono ?_); rintro e w' ⟨rfl, ⟨nd, rfl⟩⟩; refine ⟨_, rfl, ?_⟩) | (go_at_call 86; (with_reducible refine (impl_within.calls ((rd_T138 l0_0 x27_2).f1) 0 2000000000 true _ A15.out).mono ?_); rintro e w' ⟨rfl, ⟨nd, rfl⟩⟩))
             go_ret
             exact ⟨by first | rfl | (simp [errW_none, errW_some] <;> rfl) | (simp [*, errW_none, errW_some] <;> rfl), by repeat (first | (with_reducible first | exact HB.out | apply xa | apply xn | apply xd | refine xt ?_ GE879.out | refine xt ?_ GE882.out) | exact HB.out)⟩
          ·replace c16 := Bool.eq_false_iff.mpr c16
           subst c16
           have H1 : (some false) = some r := by first | (with_reducible rfl) | (rw [if_neg (show ¬ (false = true) by decide)] at H; exact H)
           clear H
           have H := H1
           clear H1
           obtain rfl := Option.some.inj H
           have p881 : 0 ≤ (x27_2 : Int) := of_decide_eq_true (by first | (with_reducible assumption) | assumption)
           have q881 : x27_2 < (l0_0.length : Int) := of_decide_eq_true (by first | (with_reducible assumption) | assumption)
           obtain ⟨ad881, e881, hx881_0, hx881_1, hx881_2⟩ := at_T138 HR0_0.out x27_2 p881 q881
           cases e881
           replace hx881_0 := (HB.out.cell (World.block_lt_of_cell? w _ hx881_0)).trans hx881_0
           replace hx881_1 := (HB.out.cell (World.block_lt_of_cell? w _ hx881_1)).trans hx881_1
           replace hx881_2 := (HB.out.cell (World.block_lt_of_cell? w _ hx881_2)).trans hx881_2
           replace p881 := eq_true p881
           replace q881 := eq_true q881
           go_wp2_with (first | ((with_reducible refine gate_dst (N := 6) rfl ?_); (try (refine gate_guard (by rfl) ?_; dsimp only)); refine box_event ?hg (N := 6) ?hd (cs := #[.int .i64 0, .int .i64 0, .bool false]) (t := 138) ?hr ?_; (case hd => rfl); (case hg => rfl); (case hr => first | (go_simp; done) | (go_simp; rfl)); intro gb882 hg w29 hbox hb; have n0_ := xm (blk_below (g := gb879) (o := .cells #[.slice (some ad881) l0_0.length c0_0, .slice A0_1 l0_1.length c0_1] 85 (0, 0)) (by (with_reducible repeat (first | refine xq ?_ _ | refine xr ?_ | refine xo ?_ _)); exact BK879.out) hb); have n1_ := xm (below_step (by repeat (first | (with_reducible first | exact HB.out | apply xa | apply xn | apply xd | refine xt ?_ GE879.out) | exact HB.out)) hb); have n2_ := xm (hbox); have n3_ := xm ((by rw [hg]; exact (xz (by repeat (first | (with_reducible first | exact HB.out | apply xa | apply xn | apply xd | refine xt ?_ GE879.out) | exact HB.out))) : w.heap.size ≤ gb882)); have n4_ := xm ((by rw [hg]; exact (xz (by repeat (first | (with_reducible first | exact HB.out | apply xa | apply xn | apply xd | refine xt ?_ GE879.out) | exact HB.out))) : w.heap.size ≤ gb882)); have n5_ := xm ((by rw [hg]; exact Nat.ne_of_lt (blk_lt (g := gb879) (o := .cells #[.slice (some ad881) l0_0.length c0_0, .slice A0_1 l0_1.length c0_1] 85 (0, 0)) (by (with_reducible repeat (first | refine xq ?_ _ | refine xr ?_ | refine xo ?_ _)); exact BK879.out)) : gb879 ≠ gb882)); have n6_ := xm ((by rw [hg]; exact Nat.ne_of_gt (blk_lt (g := gb879) (o := .cells #[.slice (some ad881) l0_0.length c0_0, .slice A0_1 l0_1.length c0_1] 85 (0, 0)) (by (with_reducible repeat (first | refine xq ?_ _ | refine xr ?_ | refine xo ?_ _)); exact BK879.out)) : gb882 ≠ gb879)); clear BK879; clear HB; have BK879 := n0_; have HB := n1_; have BK882 := n2_; have GW882 := n3_; have GE882 := n4_; have NB879_882 := n5_; have NB882_879 := n6_; clear n0_ n1_ n2_ n3_ n4_ n5_ n6_; clear hb hbox hg; have hnb30 := NB882_879.out; have hnc30 := NB879_882.out; have hcz31_0 : w29.cell? ⟨gb882, 0, none⟩ = some (.int .i64 0) := (xc BK882.out 0).trans rfl; have hcz31_1 : w29.cell? ⟨gb882, 1, none⟩ = some (.int .i64 0) := (xc BK882.out 1).trans rfl; have hcz31_2 : w29.cell? ⟨gb882, 2, none⟩ = some (.bool false) := (xc BK882.out 2).trans rfl; have hfz31_0 := xf BK882.out 0; have hfz31_1 := xf BK882.out 1; have hfz31_2 := xf BK882.out 2) | ((with_reducible refine gate_callee (f := 86) rfl ?_); refine goesL_ (some 33) rfl rfl Try.func86 (by kernel_rfl) rfl #[.int .i64 ((rd_T138 l0_0 x27_2).f0), .int .i64 0, .int .i64 2000000000] rfl (by (try simp only [List.map_toArray, List.map_cons, List.map_nil]); first | done | rfl | (simp only [List.length_drop, List.length_take]; rfl)) ?_; (with_reducible refine (impl_within.calls ((rd_T138 l0_0 x27_2).f0) 0 2000000000 true _ A13.out).mono ?_); rintro e w' ⟨rfl, ⟨nd, rfl⟩⟩; refine ⟨_, rfl, ?_⟩) | (go_at_call 86; (with_reducible refine (impl_within.calls ((rd_T138 l0_0 x27_2).f1) 0 2000000000 false _ A15.out).mono ?_); rintro e w' ⟨rfl, ⟨nd, rfl⟩⟩))
           go_ret
           exact ⟨by first | rfl | (simp [errW_none, errW_some] <;> rfl) | (simp [*, errW_none, errW_some] <;> rfl), by repeat (first | (with_reducible first | exact HB.out | apply xa | apply xn | apply xd | refine xt ?_ GE879.out | refine xt ?_ GE882.out) | exact HB.out)⟩
         ·replace c14 := Bool.eq_false_iff.mpr c14
          subst c14
          have H1 : (some false) = some r := by first | (with_reducible rfl) | (rw [if_neg (show ¬ (false = true) by decide)] at H; exact H)
          clear H
          have H := H1
          clear H1
          obtain rfl := Option.some.inj H
          have p881 : 0 ≤ (x27_2 : Int) := of_decide_eq_true (by first | (with_reducible assumption) | assumption)
          have q881 : x27_2 < (l0_0.length : Int) := of_decide_eq_true (by first | (with_reducible assumption) | assumption)
          obtain ⟨ad881, e881, hx881_0, hx881_1, hx881_2⟩ := at_T138 HR0_0.out x27_2 p881 q881
          cases e881
          replace hx881_0 := (HB.out.cell (World.block_lt_of_cell? w _ hx881_0)).trans hx881_0
          replace hx881_1 := (HB.out.cell (World.block_lt_of_cell? w _ hx881_1)).trans hx881_1
          replace hx881_2 := (HB.out.cell (World.block_lt_of_cell? w _ hx881_2)).trans hx881_2
          replace p881 := eq_true p881
          replace q881 := eq_true q881
          go_wp2_with (first | ((with_reducible refine gate_dst (N := 6) rfl ?_); (try (refine gate_guard (by rfl) ?_; dsimp only)); refine box_event ?hg (N := 6) ?hd (cs := #[.int .i64 0, .int .i64 0, .bool false]) (t := 138) ?hr ?_; (case hd => rfl); (case hg => rfl); (case hr => first | (go_simp; done) | (go_simp; rfl)); intro gb882 hg w32 hbox hb; have n0_ := xm (blk_below (g := gb879) (o := .cells #[.slice (some ad881) l0_0.length c0_0, .slice A0_1 l0_1.length c0_1] 85 (0, 0)) (by (with_reducible repeat (first | refine xq ?_ _ | refine xr ?_ | refine xo ?_ _)); exact BK879.out) hb); have n1_ := xm (below_step (by repeat (first | (with_reducible first | exact HB.out | apply xa | apply xn | apply xd | refine xt ?_ GE879.out) | exact HB.out)) hb); have n2_ := xm (hbox); have n3_ := xm ((by rw [hg]; exact (xz (by repeat (first | (with_reducible first | exact HB.out | apply xa | apply xn | apply xd | refine xt ?_ GE879.out) | exact HB.out))) : w.heap.size ≤ gb882)); have n4_ := xm ((by rw [hg]; exact (xz (by repeat (first | (with_reducible first | exact HB.out | apply xa | apply xn | apply xd | refine xt ?_ GE879.out) | exact HB.out))) : w.heap.size ≤ gb882)); have n5_ := xm ((by rw [hg]; exact Nat.ne_of_lt (blk_lt (g := gb879) (o := .cells #[.slice (some ad881) l0_0.length c0_0, .slice A0_1 l0_1.length c0_1] 85 (0, 0)) (by (with_reducible repeat (first | refine xq ?_ _ | refine xr ?_ | refine xo ?_ _)); exact BK879.out)) : gb879 ≠ gb882)); have n6_ := xm ((by rw [hg]; exact Nat.ne_of_gt (blk_lt (g := gb879) (o := .cells #[.slice (some ad881) l0_0.length c0_0, .slice A0_1 l0_1.length c0_1] 85 (0, 0)) (by (with_reducible repeat (first | refine xq ?_ _ | refine xr ?_ | refine xo ?_ _)); exact BK879.out)) : gb882 ≠ gb879)); clear BK879; clear HB; have BK879 := n0_; have HB := n1_; have BK882 := n2_; have GW882 := n3_; have GE882 := n4_; have NB879_882 := n5_; have NB882_879 := n6_; clear n0_ n1_ n2_ n3_ n4_ n5_ n6_; clear hb hbox hg; have hnb33 := NB882_879.out; have hnc33 := NB879_882.out; have hcz34_0 : w32.cell? ⟨gb882, 0, none⟩ = some (.int .i64 0) := (xc BK882.out 0).trans rfl; have hcz34_1 : w32.cell? ⟨gb882, 1, none⟩ = some (.int .i64 0) := (xc BK882.out 1).trans rfl; have hcz34_2 : w32.cell? ⟨gb882, 2, none⟩ = some (.bool false) := (xc BK882.out 2).trans rfl; have hfz34_0 := xf BK882.out 0; have hfz34_1 := xf BK882.out 1; have hfz34_2 := xf BK882.out 2) | ((with_reducible refine gate_callee (f := 86) rfl ?_); refine goesL_ (some 33) rfl rfl Try.func86 (by kernel_rfl) rfl #[.int .i64 ((rd_T138 l0_0 x27_2).f0), .int .i64 0, .int .i64 2000000000] rfl (by (try simp only [List.map_toArray, List.map_cons, List.map_nil]); first | done | rfl | (simp only [List.length_drop, List.length_take]; rfl)) ?_; (with_reducible refine (impl_within.calls ((rd_T138 l0_0 x27_2).f0) 0 2000000000 false _ A13.out).mono ?_); rintro e w' ⟨rfl, ⟨nd, rfl⟩⟩; refine ⟨_, rfl, ?_⟩))
          go_ret
          exact ⟨by first | rfl | (simp [errW_none, errW_some] <;> rfl) | (simp [*, errW_none, errW_some] <;> rfl), by repeat (first | (with_reducible first | exact HB.out | apply xa | apply xn | apply xd | refine xt ?_ GE879.out | refine xt ?_ GE882.out) | exact HB.out)⟩
        ·rw [if_neg c12] at H
         exact absurd H (by simp)
       ·rw [if_neg c11] at H
        exact absurd H (by simp)
      ·rw [if_neg c10] at H
       have c10b0 : decide (x27_2 < (l0_0.length : Int)) = false := decide_eq_false c10
       clear c10
       have H' := xm H
       clear H
       have hcz35_0 : wr.cell? ⟨gb879, 0, none⟩ = some (.slice A0_0 l0_0.length c0_0) := (xc BK879.out 0).trans rfl
       have hcz35_1 : wr.cell? ⟨gb879, 1, none⟩ = some (.slice A0_1 l0_1.length c0_1) := (xc BK879.out 1).trans rfl
       have hfz35_0 := xf BK879.out 0
       have hfz35_1 := xf BK879.out 1
       go_wp2
       go_loopg [4, 62] k2 (fun kq v4 v62 w' => ∃ (x4_3 : Int) (x62_3 : Int), v4 = .int .i64 x4_3 ∧ v62 = .int .i64 x62_3 ∧ Aside0 (impl_GoodSnap.l1 kq (l0_0.length : Int) x4_3 l0_1 (l0_1.length : Int) x62_3 l0_0 l0_1 = some r) ∧ Aside0 (kq ≤ k2) ∧ Aside0 (w'.heap[gb879]? = some (.cells #[(.slice A0_0 l0_0.length c0_0), (.slice A0_1 l0_1.length c0_1)] 85 (0, 0))) ∧ Aside0 (Below w.heap.size w w'))
       case atStart => exact ⟨(x4_2), (0), (by first | rfl | (simp; done) | (simp [*]; done)), (by first | rfl | (simp; done) | (simp [*]; done)), H', ⟨Nat.le_refl _⟩, ⟨by (with_reducible repeat (first | refine xq ?_ _ | refine xr ?_ | refine xo ?_ _)); exact BK879.out⟩, ⟨by repeat (first | (with_reducible first | exact HB.out | apply xa | apply xn | apply xd | refine xt ?_ GE879.out) | exact HB.out)⟩⟩
       case round =>
        clear H'
        try clear c1
        try clear q1
        try clear c2
        try clear p2
        try clear c3
        try clear c5
        try clear c6
        try clear p6
        try clear c8
        try clear p8
        try clear q8
        try clear hx8
        try clear c10
        try clear c10b0
        try clear c11
        try clear c11b0
        try clear c12
        try clear c12b0
        try clear c14
        try clear c16
        try clear q17
        try clear c18
        try clear c20
        try clear c22
        try clear c22b0
        try clear c22b1
        try clear c24
        try clear c27
        try clear c30
        try clear c33
        try clear hcz21_0
        try clear hcz21_1
        try clear hcz21_2
        try clear hcz25_0
        try clear hcz25_1
        try clear hcz25_2
        try clear hcz28_0
        try clear hcz28_1
        try clear hcz28_2
        try clear hcz31_0
        try clear hcz31_1
        try clear hcz31_2
        try clear hcz34_0
        try clear hcz34_1
        try clear hcz34_2
        try clear hcz35_0
        try clear hcz35_1
        try clear hcz4_0
        try clear hcz4_1
        try clear hcz7_0
        try clear hcz7_1
        try clear hcz9_0
        try clear hcz9_1
        try clear hfz21_0
        try clear hfz21_1
        try clear hfz21_2
        try clear hfz25_0
        try clear hfz25_1
        try clear hfz25_2
        try clear hfz28_0
        try clear hfz28_1
        try clear hfz28_2
        try clear hfz31_0
        try clear hfz31_1
        try clear hfz31_2
        try clear hfz34_0
        try clear hfz34_1
        try clear hfz34_2
        try clear hfz35_0
        try clear hfz35_1
        try clear hfz4_0
        try clear hfz4_1
        try clear hfz7_0
        try clear hfz7_1
        try clear hfz9_0
        try clear hfz9_1
        try clear hx881_0
        try clear hx881_1
        try clear hx881_2
        try clear p2
        try clear p6
        try clear p881
        try clear q881
        obtain ⟨x4_3, x62_3, rfl, rfl, HA, HK3, BK879, HB⟩ := hrel
        cases gk with
        | zero => exact absurd HA.out (by simp [impl_GoodSnap.l1])
        | succ k3 =>
         have H := HA.out
         clear HA
         simp only [impl_GoodSnap.l1] at H
         by_cases c36 : x62_3 < (l0_1.length : Int)
         ·rw [if_pos c36] at H
          have c36b0 : decide (x62_3 < (l0_1.length : Int)) = true := decide_eq_true c36
          clear c36
          by_cases c37 : 0 ≤ x62_3
          ·rw [if_pos c37] at H
           have c37b0 : decide (0 ≤ x62_3) = true := decide_eq_true c37
           clear c37
           by_cases c38 : x62_3 < (l0_1.length : Int)
           ·rw [if_pos c38] at H
            have c38b0 : decide (x62_3 < (l0_1.length : Int)) = true := decide_eq_true c38
            clear c38
            have HC39 := xm H
            clear H
            have p885 : 0 ≤ (x62_3 : Int) := of_decide_eq_true (by first | (with_reducible assumption) | assumption)
            have q885 : x62_3 < (l0_1.length : Int) := of_decide_eq_true (by first | (with_reducible assumption) | assumption)
            obtain ⟨ad885, A885_0, c885_0, A885_1, c885_1, e885, hx885_0, hx885_1, hx885_2, hl885_0, hi885_0, hl885_1, hi885_1⟩ := at_T140 HR0_1.out x62_3 p885 q885
            cases e885
            replace hx885_0 := (HB.out.cell (World.block_lt_of_cell? w _ hx885_0)).trans hx885_0
            replace hx885_1 := (HB.out.cell (World.block_lt_of_cell? w _ hx885_1)).trans hx885_1
            replace hx885_2 := (HB.out.cell (World.block_lt_of_cell? w _ hx885_2)).trans hx885_2
            have HR885_0 := xm hi885_0
            have HC885_0 := xm hl885_0
            clear hi885_0 hl885_0
            have HR885_1 := xm hi885_1
            have HC885_1 := xm hl885_1
            clear hi885_1 hl885_1
            replace p885 := eq_true p885
            replace q885 := eq_true q885
            go_upto_region 15 with (first | ((with_reducible refine gate_dst (N := 8) rfl ?_); (try (refine gate_guard (by rfl) ?_; dsimp only)); refine box_event ?hg (N := 8) ?hd (cs := #[.slice none 0 0, .slice none 0 0, .bool false]) (t := 140) ?hr ?_; (case hd => rfl); (case hg => rfl); (case hr => first | (go_simp; done) | (go_simp; rfl)); intro gb886 hg w40 hbox hb; have n0_ := xm (blk_below (g := gb879) (o := .cells #[.slice A0_0 l0_0.length c0_0, .slice (some ad885) l0_1.length c0_1] 85 (0, 0)) (by (with_reducible repeat (first | refine xq ?_ _ | refine xr ?_ | refine xo ?_ _)); exact BK879.out) hb); have n1_ := xm (below_step (by repeat (first | (with_reducible first | exact HB.out | apply xa | apply xn | apply xd | refine xt ?_ GE879.out) | exact HB.out)) hb); have n2_ := xm (hbox); have n3_ := xm ((by rw [hg]; exact (xz (by repeat (first | (with_reducible first | exact HB.out | apply xa | apply xn | apply xd | refine xt ?_ GE879.out) | exact HB.out))) : w.heap.size ≤ gb886)); have n4_ := xm ((by rw [hg]; exact (xz (by repeat (first | (with_reducible first | exact HB.out | apply xa | apply xn | apply xd | refine xt ?_ GE879.out) | exact HB.out))) : w.heap.size ≤ gb886)); have n5_ := xm ((by rw [hg]; exact Nat.ne_of_lt (blk_lt (g := gb879) (o := .cells #[.slice A0_0 l0_0.length c0_0, .slice (some ad885) l0_1.length c0_1] 85 (0, 0)) (by (with_reducible repeat (first | refine xq ?_ _ | refine xr ?_ | refine xo ?_ _)); exact BK879.out)) : gb879 ≠ gb886)); have n6_ := xm ((by rw [hg]; exact Nat.ne_of_gt (blk_lt (g := gb879) (o := .cells #[.slice A0_0 l0_0.length c0_0, .slice (some ad885) l0_1.length c0_1] 85 (0, 0)) (by (with_reducible repeat (first | refine xq ?_ _ | refine xr ?_ | refine xo ?_ _)); exact BK879.out)) : gb886 ≠ gb879)); clear BK879; clear HB; have BK879 := n0_; have HB := n1_; have BK886 := n2_; have GW886 := n3_; have GE886 := n4_; have NB879_886 := n5_; have NB886_879 := n6_; clear n0_ n1_ n2_ n3_ n4_ n5_ n6_; clear hb hbox hg; have hnb41 := NB886_879.out; have hnc41 := NB879_886.out; have hcz42_0 : w40.cell? ⟨gb886, 0, none⟩ = some (.slice none 0 0) := (xc BK886.out 0).trans rfl; have hcz42_1 : w40.cell? ⟨gb886, 1, none⟩ = some (.slice none 0 0) := (xc BK886.out 1).trans rfl; have hcz42_2 : w40.cell? ⟨gb886, 2, none⟩ = some (.bool false) := (xc BK886.out 2).trans rfl; have hfz42_0 := xf BK886.out 0; have hfz42_1 := xf BK886.out 1; have hfz42_2 := xf BK886.out 2))
            (try simp only [Act.put, xi, xj, xk])
            go_cut [90] (fun v90 wc => ∃ (kq : Nat) (x90_38 : Bool), v90 = .bool x90_38 ∧ Aside0 (impl_GoodSnap.j3 kq (l0_0.length : Int) x4_3 l0_1 (l0_1.length : Int) x62_3 x90_38 l0_0 l0_1 ((rd_T140 l0_1 x62_3).f0) ((rd_T140 l0_1 x62_3).f1) ((rd_T140 l0_1 x62_3).f2) = some r) ∧ Aside0 (kq ≤ k3) ∧ Aside0 (wc.heap[gb879]? = some (.cells #[(.slice A0_0 l0_0.length c0_0), (.slice (some ad885) l0_1.length c0_1)] 85 (0, 0))) ∧ Aside0 (wc.heap[gb886]? = some (.cells #[(.slice A885_0 ((rd_T140 l0_1 x62_3).f0).length c885_0), (.slice A885_1 ((rd_T140 l0_1 x62_3).f1).length c885_1), .bool ((rd_T140 l0_1 x62_3).f2)] 140 (0, 0))) ∧ Aside0 (Below w.heap.size w wc))
            case first =>
             have H := HC39.out
             clear HC39
             by_cases c43 : (l0_0.length : Int) = 0
             ·rw [if_pos c43] at H
              exact absurd H (by simp)
             ·rw [if_neg c43] at H
              have c43b0 : ((l0_0.length : Int) == 0) = false := beq_eq_false_iff_ne.mpr c43
              have c43b1 : ((l0_0.length : Int) != 0) = true := bne_iff_ne.mpr c43
              have c43b2 : ¬ (l0_0 = []) := fun h_ => c43 (by rw [h_]; rfl)
              (first | rw [c43b0] | (simp only [i64_w, i32_w]; rw [c43b0]) | skip)
              obtain ⟨ji44, hji44⟩ : ∃ j_ : Int, (Int.tmod x62_3 (l0_0.length : Int)) = j_ := ⟨_, rfl⟩
              replace H : (if 0 ≤ (ji44) then (if (ji44) < (l0_0.length : Int) then ((impl_Wire_isWire.f ((rd_T140 l0_1 x62_3).f0) ((rd_T140 l0_1 x62_3).f1) ((rd_T140 l0_1 x62_3).f2) ((rd_T138 l0_0 (ji44)).f0) ((rd_T138 l0_0 (ji44)).f1) ((rd_T138 l0_0 (ji44)).f2)).bind fun t888 => (if t888 = true then (if (wrap64 (Int.tdiv x62_3 (l0_0.length : Int))) = (ji44) then ((impl_Wire_isNone.f ((rd_T140 l0_1 x62_3).f0) ((rd_T140 l0_1 x62_3).f1) ((rd_T140 l0_1 x62_3).f2)).bind fun t889 => (impl_GoodSnap.j3 k3 (l0_0.length : Int) x4_3 l0_1 (l0_1.length : Int) x62_3 (!t889) l0_0 l0_1 ((rd_T140 l0_1 x62_3).f0) ((rd_T140 l0_1 x62_3).f1) ((rd_T140 l0_1 x62_3).f2))) else (impl_GoodSnap.j3 k3 (l0_0.length : Int) x4_3 l0_1 (l0_1.length : Int) x62_3 false l0_0 l0_1 ((rd_T140 l0_1 x62_3).f0) ((rd_T140 l0_1 x62_3).f1) ((rd_T140 l0_1 x62_3).f2))) else (impl_GoodSnap.j3 k3 (l0_0.length : Int) x4_3 l0_1 (l0_1.length : Int) x62_3 true l0_0 l0_1 ((rd_T140 l0_1 x62_3).f0) ((rd_T140 l0_1 x62_3).f1) ((rd_T140 l0_1 x62_3).f2)))) else (none)) else (none)) = some r := by first | (rw [hji44] at H; exact H) | (simp only [hji44] at H ⊢; exact H)
              by_cases c45 : 0 ≤ (ji44)
              ·rw [if_pos c45] at H
               have c45b0 : decide (0 ≤ (ji44)) = true := decide_eq_true c45
               clear c45
               by_cases c46 : (ji44) < (l0_0.length : Int)
               ·rw [if_pos c46] at H
                have c46b0 : decide ((ji44) < (l0_0.length : Int)) = true := decide_eq_true c46
                clear c46
                replace H := Option.bind_eq_some_iff.mp H
                obtain ⟨t888, A470, H⟩ := H
                replace H : (if t888 = true then (if (wrap64 (Int.tdiv x62_3 (l0_0.length : Int))) = (ji44) then ((impl_Wire_isNone.f ((rd_T140 l0_1 x62_3).f0) ((rd_T140 l0_1 x62_3).f1) ((rd_T140 l0_1 x62_3).f2)).bind fun t889 => (impl_GoodSnap.j3 k3 (l0_0.length : Int) x4_3 l0_1 (l0_1.length : Int) x62_3 (!t889) l0_0 l0_1 ((rd_T140 l0_1 x62_3).f0) ((rd_T140 l0_1 x62_3).f1) ((rd_T140 l0_1 x62_3).f2))) else (impl_GoodSnap.j3 k3 (l0_0.length : Int) x4_3 l0_1 (l0_1.length : Int) x62_3 false l0_0 l0_1 ((rd_T140 l0_1 x62_3).f0) ((rd_T140 l0_1 x62_3).f1) ((rd_T140 l0_1 x62_3).f2))) else (impl_GoodSnap.j3 k3 (l0_0.length : Int) x4_3 l0_1 (l0_1.length : Int) x62_3 true l0_0 l0_1 ((rd_T140 l0_1 x62_3).f0) ((rd_T140 l0_1 x62_3).f1) ((rd_T140 l0_1 x62_3).f2))) = some r := H
                have A47 := xm A470
                clear A470
                by_cases c48 : t888 = true
                ·subst c48
                 have H1 : (if (wrap64 (Int.tdiv x62_3 (l0_0.length : Int))) = (ji44) then ((impl_Wire_isNone.f ((rd_T140 l0_1 x62_3).f0) ((rd_T140 l0_1 x62_3).f1) ((rd_T140 l0_1 x62_3).f2)).bind fun t889 => (impl_GoodSnap.j3 k3 (l0_0.length : Int) x4_3 l0_1 (l0_1.length : Int) x62_3 (!t889) l0_0 l0_1 ((rd_T140 l0_1 x62_3).f0) ((rd_T140 l0_1 x62_3).f1) ((rd_T140 l0_1 x62_3).f2))) else (impl_GoodSnap.j3 k3 (l0_0.length : Int) x4_3 l0_1 (l0_1.length : Int) x62_3 false l0_0 l0_1 ((rd_T140 l0_1 x62_3).f0) ((rd_T140 l0_1 x62_3).f1) ((rd_T140 l0_1 x62_3).f2))) = some r := by first | (with_reducible rfl) | (rw [if_pos rfl] at H; exact H)
                 clear H
                 have H := H1
                 clear H1
                 by_cases c49 : (wrap64 (Int.tdiv x62_3 (l0_0.length : Int))) = (ji44)
                 ·rw [if_pos c49] at H
                  have c49b0 : ((wrap64 (Int.tdiv x62_3 (l0_0.length : Int))) == (ji44)) = true := beq_iff_eq.mpr c49
                  have c49b1 : ((wrap64 (Int.tdiv x62_3 (l0_0.length : Int))) != (ji44)) = false := bne_eq_false_iff_eq.mpr c49
                  clear c49
                  replace H := Option.bind_eq_some_iff.mp H
                  obtain ⟨t889, A500, H⟩ := H
                  replace H : (impl_GoodSnap.j3 k3 (l0_0.length : Int) x4_3 l0_1 (l0_1.length : Int) x62_3 (!t889) l0_0 l0_1 ((rd_T140 l0_1 x62_3).f0) ((rd_T140 l0_1 x62_3).f1) ((rd_T140 l0_1 x62_3).f2)) = some r := H
                  have A50 := xm A500
                  clear A500
                  have H' := xm H
                  clear H
                  try go_wp2
                  have n0_ : Aside0 ((((w40.setCell ⟨gb886, 0, none⟩ (.slice A885_0 ((rd_T140 l0_1 x62_3).f0).length c885_0)).setCell ⟨gb886, 1, none⟩ (.slice A885_1 ((rd_T140 l0_1 x62_3).f1).length c885_1)).setCell ⟨gb886, 2, none⟩ (.bool ((rd_T140 l0_1 x62_3).f2))).heap[gb879]? = some (.cells #[.slice A0_0 l0_0.length c0_0, .slice (some ad885) l0_1.length c0_1] 85 (0, 0))) := ⟨by (with_reducible repeat (first | refine xq ?_ _ | refine xr ?_ | refine xo ?_ _)); refine blk_far ?_ NB879_886.out _; (with_reducible repeat (first | refine xq ?_ _ | refine xr ?_ | refine xo ?_ _)); refine blk_far ?_ NB879_886.out _; (with_reducible repeat (first | refine xq ?_ _ | refine xr ?_ | refine xo ?_ _)); refine blk_far ?_ NB879_886.out _; (with_reducible repeat (first | refine xq ?_ _ | refine xr ?_ | refine xo ?_ _)); exact BK879.out⟩
                  have n1_ : Aside0 ((((w40.setCell ⟨gb886, 0, none⟩ (.slice A885_0 ((rd_T140 l0_1 x62_3).f0).length c885_0)).setCell ⟨gb886, 1, none⟩ (.slice A885_1 ((rd_T140 l0_1 x62_3).f1).length c885_1)).setCell ⟨gb886, 2, none⟩ (.bool ((rd_T140 l0_1 x62_3).f2))).heap[gb886]? = some (.cells #[.slice A885_0 ((rd_T140 l0_1 x62_3).f0).length c885_0, .slice A885_1 ((rd_T140 l0_1 x62_3).f1).length c885_1, .bool ((rd_T140 l0_1 x62_3).f2)] 140 (0, 0))) := ⟨by (with_reducible repeat (first | refine xq ?_ _ | refine xr ?_ | refine xo ?_ _)); refine blk_put (cs := #[.slice A885_0 ((rd_T140 l0_1 x62_3).f0).length c885_0, .slice A885_1 ((rd_T140 l0_1 x62_3).f1).length c885_1, .bool false]) ?_ 2 _ rfl; (with_reducible repeat (first | refine xq ?_ _ | refine xr ?_ | refine xo ?_ _)); refine blk_put (cs := #[.slice A885_0 ((rd_T140 l0_1 x62_3).f0).length c885_0, .slice none 0 0, .bool false]) ?_ 1 _ rfl; (with_reducible repeat (first | refine xq ?_ _ | refine xr ?_ | refine xo ?_ _)); refine blk_put (cs := #[.slice none 0 0, .slice none 0 0, .bool false]) ?_ 0 _ rfl; (with_reducible repeat (first | refine xq ?_ _ | refine xr ?_ | refine xo ?_ _)); exact BK886.out⟩
                  have n2_ : Aside0 (Below w.heap.size w (((w40.setCell ⟨gb886, 0, none⟩ (.slice A885_0 ((rd_T140 l0_1 x62_3).f0).length c885_0)).setCell ⟨gb886, 1, none⟩ (.slice A885_1 ((rd_T140 l0_1 x62_3).f1).length c885_1)).setCell ⟨gb886, 2, none⟩ (.bool ((rd_T140 l0_1 x62_3).f2)))) := ⟨by repeat (first | (with_reducible first | exact HB.out | apply xa | apply xn | apply xd | refine xt ?_ GE879.out | refine xt ?_ GE886.out) | exact HB.out)⟩
                  (try clear BK879)
                  (try clear BK886)
                  (try clear HB)
                  generalize (((w40.setCell ⟨gb886, 0, none⟩ (.slice A885_0 ((rd_T140 l0_1 x62_3).f0).length c885_0)).setCell ⟨gb886, 1, none⟩ (.slice A885_1 ((rd_T140 l0_1 x62_3).f1).length c885_1)).setCell ⟨gb886, 2, none⟩ (.bool ((rd_T140 l0_1 x62_3).f2))) = w51 at n0_ n1_ n2_ ⊢
                  have BK879 := n0_
                  have BK886 := n1_
                  have HB := n2_
                  clear n0_ n1_ n2_
                  have n0_ := xm (xr BK879.out)
                  have n1_ := xm (xr BK886.out)
                  have n2_ := xm (xd HB.out)
                  clear BK879
                  clear BK886
                  clear HB
                  have BK879 := n0_
                  have BK886 := n1_
                  have HB := n2_
                  clear n0_ n1_ n2_
                  have p887 : 0 ≤ ((ji44) : Int) := of_decide_eq_true (by first | (with_reducible assumption) | assumption)
                  have q887 : (ji44) < (l0_0.length : Int) := of_decide_eq_true (by first | (with_reducible assumption) | assumption)
                  obtain ⟨ad887, e887, hx887_0, hx887_1, hx887_2⟩ := at_T138 HR0_0.out (ji44) p887 q887
                  have hw887_2 := hx887_2
                  have hw887_1 := hx887_1
                  have hw887_0 := hx887_0
                  cases e887
                  replace hx887_0 := (HB.out.cell (World.block_lt_of_cell? w _ hx887_0)).trans hx887_0
                  replace hx887_1 := (HB.out.cell (World.block_lt_of_cell? w _ hx887_1)).trans hx887_1
                  replace hx887_2 := (HB.out.cell (World.block_lt_of_cell? w _ hx887_2)).trans hx887_2
                  replace p887 := eq_true p887
                  replace q887 := eq_true q887
                  refine start_ (n := 24) (S := fun w' => w'.cell? ⟨gb886, 0, none⟩ = some (.slice A885_0 ((rd_T140 l0_1 x62_3).f0).length c885_0) ∧ w'.cell? ⟨gb886, 1, none⟩ = some (.slice A885_1 ((rd_T140 l0_1 x62_3).f1).length c885_1) ∧ w'.cell? ⟨gb886, 2, none⟩ = some (.bool ((rd_T140 l0_1 x62_3).f2)) ∧ w'.cell? ⟨gb879, 0, none⟩ = some (.slice (some ad887) l0_0.length c0_0) ∧ w'.cell? ⟨gb879, 1, none⟩ = some (.slice (some ad885) l0_1.length c0_1) ∧ w'.cell? (ad887.add (((ji44)).toNat * 3)) = some (.int .i64 ((rd_T138 l0_0 (ji44)).f0)) ∧ w'.cell? ⟨(ad887.add (((ji44)).toNat * 3)).block, (ad887.add (((ji44)).toNat * 3)).off + 1, none⟩ = some (.int .i64 ((rd_T138 l0_0 (ji44)).f1)) ∧ w'.cell? ⟨(ad887.add (((ji44)).toNat * 3)).block, (ad887.add (((ji44)).toNat * 3)).off + 2, none⟩ = some (.bool ((rd_T138 l0_0 (ji44)).f2))) (ds := []) #[Z,Z,Z,Z,Z,Z,Z,Z,Z,Z,Z,Z,Z,Z,Z,Z,Z,Z,Z,Z,Z,Z,Z,Z] (by kernel_rfl) rfl rfl ⟨(xc BK886.out 0).trans rfl, (xc BK886.out 1).trans rfl, (xc BK886.out 2).trans rfl, (xc BK879.out 0).trans rfl, (xc BK879.out 1).trans rfl, ((HB.out.cell (World.block_lt_of_cell? w _ hw887_0)).trans hw887_0), ((HB.out.cell (World.block_lt_of_cell? w _ hw887_1)).trans hw887_1), ((HB.out.cell (World.block_lt_of_cell? w _ hw887_2)).trans hw887_2)⟩ (fun hHeld => ?_); refine with_tabW impl_GoodSnap.tab15 impl_GoodSnap.bits15 (fun HT_ HW_ => ?_)
                  generalize w51.drew = w52 at BK879 BK886 HB hx887_0 hx887_1 hx887_2 hHeld ⊢
                  refine pure_ (i := 1) (N := some 68) (v := ?_) (a' := ?_) #[Z,Y,Z,Z,Z,Z,Z,Z,Z,Z,Z,Z,Z,Z,Z,Z,Z,Z,Z,Z,Z,Z,Z,Z] rfl rfl (any_of HT_.out (by kernel_rfl)) (fun _ _ _ h => h) (Or.inl ⟨by rfl, ?_⟩) ?_ ?_
                  rotate_left
                  ·intro w'
                   go_simp
                   with_reducible rfl
                  rotate_left
                  ·simp only [Act.put, xi, xj, xk, i64_w, i32_w]
                   rfl
                  refine pure_ (i := 3) (N := some 70) (v := ?_) (a' := ?_) #[Z,Y,Z,Y,Z,Z,Z,Z,Z,Z,Z,Z,Z,Z,Z,Z,Z,Z,Z,Z,Z,Z,Z,Z] rfl rfl (any_of HT_.out (by kernel_rfl)) (fun _ _ _ h => h) (Or.inl ⟨by rfl, ?_⟩) ?_ ?_
                  rotate_left
                  ·intro w'
                   go_simp
                   with_reducible rfl
                  rotate_left
                  ·simp only [Act.put, xi, xj, xk, i64_w, i32_w]
                   rfl
                  refine pure_ (i := 4) (N := some 71) (v := ?_) (a' := ?_) #[Z,Y,Z,Y,Y,Z,Z,Z,Z,Z,Z,Z,Z,Z,Z,Z,Z,Z,Z,Z,Z,Z,Z,Z] rfl rfl (any_of HT_.out (by kernel_rfl)) (fun _ _ _ h => h) (Or.inl ⟨by rfl, ?_⟩) ?_ ?_
                  rotate_left
                  ·intro w'
                   go_simp
                   with_reducible rfl
                  rotate_left
                  ·simp only [Act.put, xi, xj, xk, i64_w, i32_w]
                   rfl
                  refine pure_ (i := 5) (N := some 72) (v := ?_) (a' := ?_) #[Z,Y,Z,Y,Y,Y,Z,Z,Z,Z,Z,Z,Z,Z,Z,Z,Z,Z,Z,Z,Z,Z,Z,Z] rfl rfl (any_of HT_.out (by kernel_rfl)) (fun _ _ _ h => h) (Or.inl ⟨by rfl, ?_⟩) ?_ ?_
                  rotate_left
                  ·intro w'
                   go_simp
                   with_reducible rfl
                  rotate_left
                  ·simp only [Act.put, xi, xj, xk, i64_w, i32_w]
                   rfl
                  refine take_ (i := 0) (N := some 67) (v := ?_) (a' := ?_) #[Y,Y,Z,Y,Y,Y,Z,Z,Z,Z,Z,Z,Z,Z,Z,Z,Z,Z,Z,Z,Z,Z,Z,Z] rfl rfl (take_ofW HT_.out HW_.out (by kernel_rfl)) (fun _ _ _ h => h) (Or.inl ⟨by rfl, ?_⟩) hHeld ?_ ?_
                  rotate_left
                  ·rintro w' ⟨s0, s1, s2, s3, s4, s5, s6, s7⟩
                   go_simp
                   with_reducible rfl
                  rotate_left
                  ·simp only [Act.put, xi, xj, xk, i64_w, i32_w]
                   rfl
                  refine take_ (i := 2) (N := some 69) (v := ?_) (a' := ?_) #[Y,Y,Y,Y,Y,Y,Z,Z,Z,Z,Z,Z,Z,Z,Z,Z,Z,Z,Z,Z,Z,Z,Z,Z] rfl rfl (take_ofW HT_.out HW_.out (by kernel_rfl)) (fun _ _ _ h => h) (Or.inl ⟨by rfl, ?_⟩) hHeld ?_ ?_
                  rotate_left
                  ·rintro w' ⟨s0, s1, s2, s3, s4, s5, s6, s7⟩
                   go_simp
                   with_reducible rfl
                  rotate_left
                  ·simp only [Act.put, xi, xj, xk, i64_w, i32_w]
                   rfl
                  refine pure_ (i := 6) (N := some 73) (v := ?_) (a' := ?_) #[Y,Y,Y,Y,Y,Y,Y,Z,Z,Z,Z,Z,Z,Z,Z,Z,Z,Z,Z,Z,Z,Z,Z,Z] rfl rfl (any_of HT_.out (by kernel_rfl)) (fun _ _ _ h => h) (Or.inl ⟨by rfl, ?_⟩) ?_ ?_
                  rotate_left
                  ·intro w'
                   go_simp
                   with_reducible rfl
                  rotate_left
                  ·simp only [Act.put, xi, xj, xk, i64_w, i32_w]
                   rfl
                  refine take_ (i := 7) (N := some 74) (v := ?_) (a' := ?_) #[Y,Y,Y,Y,Y,Y,Y,Y,Z,Z,Z,Z,Z,Z,Z,Z,Z,Z,Z,Z,Z,Z,Z,Z] rfl rfl (take_ofW HT_.out HW_.out (by kernel_rfl)) (fun _ _ _ h => h) (Or.inl ⟨by rfl, ?_⟩) hHeld ?_ ?_
                  rotate_left
                  ·rintro w' ⟨s0, s1, s2, s3, s4, s5, s6, s7⟩
                   go_simp
                   with_reducible rfl
                  rotate_left
                  ·simp only [Act.put, xi, xj, xk, i64_w, i32_w]
                   rfl
                  refine one_ (i := 8) (N := some 75) #[Y,Y,Y,Y,Y,Y,Y,Y,Y,Z,Z,Z,Z,Z,Z,Z,Z,Z,Z,Z,Z,Z,Z,Z] rfl rfl (one_of HT_.out (by kernel_rfl)) (by decide) (fun K hK => ?_)
                  refine goes_ Try.func121 (by kernel_rfl) rfl #[.agg #[.slice A885_0 ((rd_T140 l0_1 x62_3).f0).length c885_0, .slice A885_1 ((rd_T140 l0_1 x62_3).f1).length c885_1, .bool ((rd_T140 l0_1 x62_3).f2)], .agg #[.int .i64 ((rd_T138 l0_0 (ji44)).f0), .int .i64 ((rd_T138 l0_0 (ji44)).f1), .bool ((rd_T138 l0_0 (ji44)).f2)]] (by rfl) rfl rfl (by (try simp only [List.map_toArray, List.map_cons, List.map_nil]); first | done | (simp only [hji44]; rfl) | rfl | (simp only [List.length_drop, List.length_take]; rfl)) ?_
                  with_reducible refine (impl_Wire_isWire.calls _ _ ((rd_T140 l0_1 x62_3).f0) _ _ ((rd_T140 l0_1 x62_3).f1) ((rd_T140 l0_1 x62_3).f2) ((rd_T138 l0_0 (ji44)).f0) ((rd_T138 l0_0 (ji44)).f1) ((rd_T138 l0_0 (ji44)).f2) true _ ?side1 ?side2 ?side3 ?side4 A47.out).mono ?_
                  (case side1 => repeat (first | exact (Kd.C_below HR885_0.out HB.out) | (with_reducible refine Kd.C_alloc ?_ _) | (with_reducible refine Kd.C_drewN ?_ _) | (with_reducible refine Kd.C_drew ?_)))
                  (case side2 => exact HC885_0.out)
                  (case side3 => repeat (first | exact (Kd.C_below HR885_1.out HB.out) | (with_reducible refine Kd.C_alloc ?_ _) | (with_reducible refine Kd.C_drewN ?_ _) | (with_reducible refine Kd.C_drew ?_)))
                  (case side4 => exact HC885_1.out)
                  rintro e w53 ⟨rfl, hb⟩
                  refine ⟨_, rfl, ?_⟩
                  have n0_ := xm (blk_below (g := gb879) (o := .cells #[.slice (some ad887) l0_0.length c0_0, .slice (some ad885) l0_1.length c0_1] 85 (0, 0)) (by (with_reducible repeat (first | refine xq ?_ _ | refine xr ?_ | refine xo ?_ _)); exact BK879.out) hb)
                  have n1_ := xm (blk_below (g := gb886) (o := .cells #[.slice A885_0 ((rd_T140 l0_1 x62_3).f0).length c885_0, .slice A885_1 ((rd_T140 l0_1 x62_3).f1).length c885_1, .bool ((rd_T140 l0_1 x62_3).f2)] 140 (0, 0)) (by (with_reducible repeat (first | refine xq ?_ _ | refine xr ?_ | refine xo ?_ _)); exact BK886.out) hb)
                  have n2_ := xm (below_step (by repeat (first | (with_reducible first | exact HB.out | apply xa | apply xn | apply xd | refine xt ?_ GE879.out | refine xt ?_ GE886.out) | exact HB.out)) hb)
                  clear BK879
                  clear BK886
                  clear HB
                  have BK879 := n0_
                  have BK886 := n1_
                  have HB := n2_
                  clear n0_ n1_ n2_
                  (try clear hb)
                  (try clear hb2)
                  (try clear hk)
                  (try clear hi)
                  refine hK.out _ _ ⟨(xc BK886.out 0).trans rfl, (xc BK886.out 1).trans rfl, (xc BK886.out 2).trans rfl, (xc BK879.out 0).trans rfl, (xc BK879.out 1).trans rfl, ((HB.out.cell (World.block_lt_of_cell? w _ hw887_0)).trans hw887_0), ((HB.out.cell (World.block_lt_of_cell? w _ hw887_1)).trans hw887_1), ((HB.out.cell (World.block_lt_of_cell? w _ hw887_2)).trans hw887_2)⟩ (fun hHeld => ?_)
                  clear hK K
                  refine norm_ (a' := ?_) ?_ ?_
                  rotate_left
                  ·show Act.put _ (some 75) _ = _
                   simp only [Act.put, xi, xj, xk, i64_w, i32_w]
                   rfl
                  refine pure_ (i := 9) (N := some 76) (v := ?_) (a' := ?_) #[Y,Y,Y,Y,Y,Y,Y,Y,Y,Y,Z,Z,Z,Z,Z,Z,Z,Z,Z,Z,Z,Z,Z,Z] rfl rfl (any_of HT_.out (by kernel_rfl)) (fun _ _ _ h => h) (Or.inl ⟨by rfl, ?_⟩) ?_ ?_
                  rotate_left
                  ·intro w'
                   go_simp
                   with_reducible rfl
                  rotate_left
                  ·simp only [Act.put, xi, xj, xk, i64_w, i32_w]
                   rfl
                  refine pure_ (i := 10) (N := some 77) (v := ?_) (a' := ?_) #[Y,Y,Y,Y,Y,Y,Y,Y,Y,Y,Y,Z,Z,Z,Z,Z,Z,Z,Z,Z,Z,Z,Z,Z] rfl rfl (any_of HT_.out (by kernel_rfl)) (fun _ _ _ h => h) (Or.inl ⟨by rfl, ?_⟩) ?_ ?_
                  rotate_left
                  ·intro w'
                   go_simp
                   with_reducible rfl
                  rotate_left
                  ·simp only [Act.put, xi, xj, xk, i64_w, i32_w]
                   rfl
                  refine pure_ (i := 11) (N := some 78) (v := ?_) (a' := ?_) #[Y,Y,Y,Y,Y,Y,Y,Y,Y,Y,Y,Y,Z,Z,Z,Z,Z,Z,Z,Z,Z,Z,Z,Z] rfl rfl (any_of HT_.out (by kernel_rfl)) (fun _ _ _ h => h) (Or.inl ⟨by rfl, ?_⟩) ?_ ?_
                  rotate_left
                  ·intro w'
                   go_simp
                   with_reducible rfl
                  rotate_left
                  ·simp only [Act.put, xi, xj, xk, i64_w, i32_w]
                   rfl
                  refine pure_ (i := 12) (N := some 79) (v := ?_) (a' := ?_) #[Y,Y,Y,Y,Y,Y,Y,Y,Y,Y,Y,Y,Y,Z,Z,Z,Z,Z,Z,Z,Z,Z,Z,Z] rfl rfl (any_of HT_.out (by kernel_rfl)) (fun _ _ _ h => h) (Or.inl ⟨by rfl, ?_⟩) ?_ ?_
                  rotate_left
                  ·intro w'
                   go_simp
                   with_reducible rfl
                  rotate_left
                  ·simp only [Act.put, xi, xj, xk, i64_w, i32_w]
                   rfl
                  refine pure_ (i := 13) (N := some 80) (v := ?_) (a' := ?_) #[Y,Y,Y,Y,Y,Y,Y,Y,Y,Y,Y,Y,Y,Y,Z,Z,Z,Z,Z,Z,Z,Z,Z,Z] rfl rfl (any_of HT_.out (by kernel_rfl)) (fun _ _ _ h => h) (Or.inl ⟨by rfl, ?_⟩) ?_ ?_
                  rotate_left
                  ·intro w'
                   go_simp
                   with_reducible rfl
                  rotate_left
                  ·simp only [Act.put, xi, xj, xk, i64_w, i32_w]
                   rfl
                  refine pure_ (i := 14) (N := some 81) (v := ?_) (a' := ?_) #[Y,Y,Y,Y,Y,Y,Y,Y,Y,Y,Y,Y,Y,Y,Y,Z,Z,Z,Z,Z,Z,Z,Z,Z] rfl rfl (any_of HT_.out (by kernel_rfl)) (fun _ _ _ h => h) (Or.inl ⟨by rfl, ?_⟩) ?_ ?_
                  rotate_left
                  ·intro w'
                   go_simp
                   with_reducible rfl
                  rotate_left
                  ·simp only [Act.put, xi, xj, xk, i64_w, i32_w]
                   rfl
                  refine pure_ (i := 15) (N := some 82) (v := ?_) (a' := ?_) #[Y,Y,Y,Y,Y,Y,Y,Y,Y,Y,Y,Y,Y,Y,Y,Y,Z,Z,Z,Z,Z,Z,Z,Z] rfl rfl (any_of HT_.out (by kernel_rfl)) (fun _ _ _ h => h) (Or.inl ⟨by rfl, ?_⟩) ?_ ?_
                  rotate_left
                  ·intro w'
                   go_simp
                   with_reducible rfl
                  rotate_left
                  ·simp only [Act.put, xi, xj, xk, i64_w, i32_w]
                   rfl
                  refine pure_ (i := 16) (N := some 83) (v := ?_) (a' := ?_) #[Y,Y,Y,Y,Y,Y,Y,Y,Y,Y,Y,Y,Y,Y,Y,Y,Y,Z,Z,Z,Z,Z,Z,Z] rfl rfl (any_of HT_.out (by kernel_rfl)) (fun _ _ _ h => h) (Or.inl ⟨by rfl, ?_⟩) ?_ ?_
                  rotate_left
                  ·intro w'
                   go_simp
                   with_reducible rfl
                  rotate_left
                  ·simp only [Act.put, xi, xj, xk, i64_w, i32_w]
                   rfl
                  refine pure_ (i := 17) (N := some 84) (v := ?_) (a' := ?_) #[Y,Y,Y,Y,Y,Y,Y,Y,Y,Y,Y,Y,Y,Y,Y,Y,Y,Y,Z,Z,Z,Z,Z,Z] rfl rfl (any_of HT_.out (by kernel_rfl)) (fun _ _ _ h => h) (Or.inl ⟨by rfl, ?_⟩) ?_ ?_
                  rotate_left
                  ·intro w'
                   go_simp
                   with_reducible rfl
                  rotate_left
                  ·simp only [Act.put, xi, xj, xk, i64_w, i32_w]
                   rfl
                  refine pure_ (i := 18) (N := some 85) (v := ?_) (a' := ?_) #[Y,Y,Y,Y,Y,Y,Y,Y,Y,Y,Y,Y,Y,Y,Y,Y,Y,Y,Y,Z,Z,Z,Z,Z] rfl rfl (any_of HT_.out (by kernel_rfl)) (fun _ _ _ h => h) (Or.inl ⟨by rfl, ?_⟩) ?_ ?_
                  rotate_left
                  ·intro w'
                   go_simp
                   with_reducible rfl
                  rotate_left
                  ·simp only [Act.put, xi, xj, xk, i64_w, i32_w]
                   rfl
                  refine take_ (i := 19) (N := some 86) (v := ?_) (a' := ?_) #[Y,Y,Y,Y,Y,Y,Y,Y,Y,Y,Y,Y,Y,Y,Y,Y,Y,Y,Y,Y,Z,Z,Z,Z] rfl rfl (take_ofW HT_.out HW_.out (by kernel_rfl)) (fun _ _ _ h => h) (Or.inl ⟨by rfl, ?_⟩) hHeld ?_ ?_
                  rotate_left
                  ·rintro w' ⟨s0, s1, s2, s3, s4, s5, s6, s7⟩
                   go_simp
                   with_reducible rfl
                  rotate_left
                  ·simp only [Act.put, xi, xj, xk, i64_w, i32_w]
                   rfl
                  refine one_ (i := 20) (N := some 87) #[Y,Y,Y,Y,Y,Y,Y,Y,Y,Y,Y,Y,Y,Y,Y,Y,Y,Y,Y,Y,Y,Z,Z,Z] rfl rfl (one_of HT_.out (by kernel_rfl)) (by decide) (fun K hK => ?_)
                  refine goes_ Try.func122 (by kernel_rfl) rfl #[.agg #[.slice A885_0 ((rd_T140 l0_1 x62_3).f0).length c885_0, .slice A885_1 ((rd_T140 l0_1 x62_3).f1).length c885_1, .bool ((rd_T140 l0_1 x62_3).f2)]] (by rfl) rfl rfl (by (try simp only [List.map_toArray, List.map_cons, List.map_nil]); first | done | rfl | (simp only [List.length_drop, List.length_take]; rfl)) ?_
                  with_reducible refine (impl_Wire_isNone.calls _ _ ((rd_T140 l0_1 x62_3).f0) _ _ ((rd_T140 l0_1 x62_3).f1) ((rd_T140 l0_1 x62_3).f2) t889 _ ?side1 ?side2 ?side3 ?side4 A50.out).mono ?_
                  (case side1 => repeat (first | exact (Kd.C_below HR885_0.out HB.out) | (with_reducible refine Kd.C_alloc ?_ _) | (with_reducible refine Kd.C_drewN ?_ _) | (with_reducible refine Kd.C_drew ?_)))
                  (case side2 => exact HC885_0.out)
                  (case side3 => repeat (first | exact (Kd.C_below HR885_1.out HB.out) | (with_reducible refine Kd.C_alloc ?_ _) | (with_reducible refine Kd.C_drewN ?_ _) | (with_reducible refine Kd.C_drew ?_)))
                  (case side4 => exact HC885_1.out)
                  rintro e w54 ⟨rfl, hb⟩
                  refine ⟨_, rfl, ?_⟩
                  have n0_ := xm (blk_below (g := gb879) (o := .cells #[.slice (some ad887) l0_0.length c0_0, .slice (some ad885) l0_1.length c0_1] 85 (0, 0)) (by (with_reducible repeat (first | refine xq ?_ _ | refine xr ?_ | refine xo ?_ _)); exact BK879.out) hb)
                  have n1_ := xm (blk_below (g := gb886) (o := .cells #[.slice A885_0 ((rd_T140 l0_1 x62_3).f0).length c885_0, .slice A885_1 ((rd_T140 l0_1 x62_3).f1).length c885_1, .bool ((rd_T140 l0_1 x62_3).f2)] 140 (0, 0)) (by (with_reducible repeat (first | refine xq ?_ _ | refine xr ?_ | refine xo ?_ _)); exact BK886.out) hb)
                  have n2_ := xm (below_step (by repeat (first | (with_reducible first | exact HB.out | apply xa | apply xn | apply xd | refine xt ?_ GE879.out | refine xt ?_ GE886.out) | exact HB.out)) hb)
                  clear BK879
                  clear BK886
                  clear HB
                  have BK879 := n0_
                  have BK886 := n1_
                  have HB := n2_
                  clear n0_ n1_ n2_
                  (try clear hb)
                  (try clear hb2)
                  (try clear hk)
                  (try clear hi)
                  refine hK.out _ _ ⟨(xc BK886.out 0).trans rfl, (xc BK886.out 1).trans rfl, (xc BK886.out 2).trans rfl, (xc BK879.out 0).trans rfl, (xc BK879.out 1).trans rfl, ((HB.out.cell (World.block_lt_of_cell? w _ hw887_0)).trans hw887_0), ((HB.out.cell (World.block_lt_of_cell? w _ hw887_1)).trans hw887_1), ((HB.out.cell (World.block_lt_of_cell? w _ hw887_2)).trans hw887_2)⟩ (fun hHeld => ?_)
                  clear hK K
                  refine norm_ (a' := ?_) ?_ ?_
                  rotate_left
                  ·show Act.put _ (some 87) _ = _
                   simp only [Act.put, xi, xj, xk, i64_w, i32_w]
                   rfl
                  refine pure_ (i := 21) (N := some 88) (v := ?_) (a' := ?_) #[Y,Y,Y,Y,Y,Y,Y,Y,Y,Y,Y,Y,Y,Y,Y,Y,Y,Y,Y,Y,Y,Y,Z,Z] rfl rfl (any_of HT_.out (by kernel_rfl)) (fun _ _ _ h => h) (Or.inl ⟨by rfl, ?_⟩) ?_ ?_
                  rotate_left
                  ·intro w'
                   go_simp
                   with_reducible rfl
                  rotate_left
                  ·simp only [Act.put, xi, xj, xk, i64_w, i32_w]
                   rfl
                  refine pure_ (i := 22) (N := some 89) (v := ?_) (a' := ?_) #[Y,Y,Y,Y,Y,Y,Y,Y,Y,Y,Y,Y,Y,Y,Y,Y,Y,Y,Y,Y,Y,Y,Y,Z] rfl rfl (any_of HT_.out (by kernel_rfl)) (fun _ _ _ h => h) (Or.inl ⟨by rfl, ?_⟩) ?_ ?_
                  rotate_left
                  ·intro w'
                   go_simp
                   with_reducible rfl
                  rotate_left
                  ·simp only [Act.put, xi, xj, xk, i64_w, i32_w]
                   rfl
                  refine pure_ (i := 23) (N := some 90) (v := ?_) (a' := ?_) #[Y,Y,Y,Y,Y,Y,Y,Y,Y,Y,Y,Y,Y,Y,Y,Y,Y,Y,Y,Y,Y,Y,Y,Y] rfl rfl (any_of HT_.out (by kernel_rfl)) (fun _ _ _ h => h) (Or.inl ⟨by rfl, ?_⟩) ?_ ?_
                  rotate_left
                  ·intro w'
                   go_simp
                   with_reducible rfl
                  rotate_left
                  ·simp only [Act.put, xi, xj, xk, i64_w, i32_w]
                   rfl
                  refine done_ (done_of HT_.out (by kernel_rfl)) ?_
                  try go_wp2
                  go_meet
                  case rel => exact ⟨_, (!t889), (by first | rfl | (simp; done) | (simp [*]; done)), H', ⟨by have := HJ1.out; have := HK2.out; have := HK3.out; first | omega | exact Nat.le_refl _⟩, ⟨by (with_reducible repeat (first | refine xq ?_ _ | refine xr ?_ | refine xo ?_ _)); exact BK879.out⟩, ⟨by (with_reducible repeat (first | refine xq ?_ _ | refine xr ?_ | refine xo ?_ _)); exact BK886.out⟩, ⟨by repeat (first | (with_reducible first | exact HB.out | apply xa | apply xn | apply xd | refine xt ?_ GE879.out | refine xt ?_ GE886.out) | exact HB.out)⟩⟩
                 ·rw [if_neg c49] at H
                  have c49b0 : ((wrap64 (Int.tdiv x62_3 (l0_0.length : Int))) == (ji44)) = false := beq_eq_false_iff_ne.mpr c49
                  have c49b1 : ((wrap64 (Int.tdiv x62_3 (l0_0.length : Int))) != (ji44)) = true := bne_iff_ne.mpr c49
                  have H' := xm H
                  clear H
                  try go_wp2
                  have n0_ : Aside0 ((((w40.setCell ⟨gb886, 0, none⟩ (.slice A885_0 ((rd_T140 l0_1 x62_3).f0).length c885_0)).setCell ⟨gb886, 1, none⟩ (.slice A885_1 ((rd_T140 l0_1 x62_3).f1).length c885_1)).setCell ⟨gb886, 2, none⟩ (.bool ((rd_T140 l0_1 x62_3).f2))).heap[gb879]? = some (.cells #[.slice A0_0 l0_0.length c0_0, .slice (some ad885) l0_1.length c0_1] 85 (0, 0))) := ⟨by (with_reducible repeat (first | refine xq ?_ _ | refine xr ?_ | refine xo ?_ _)); refine blk_far ?_ NB879_886.out _; (with_reducible repeat (first | refine xq ?_ _ | refine xr ?_ | refine xo ?_ _)); refine blk_far ?_ NB879_886.out _; (with_reducible repeat (first | refine xq ?_ _ | refine xr ?_ | refine xo ?_ _)); refine blk_far ?_ NB879_886.out _; (with_reducible repeat (first | refine xq ?_ _ | refine xr ?_ | refine xo ?_ _)); exact BK879.out⟩
                  have n1_ : Aside0 ((((w40.setCell ⟨gb886, 0, none⟩ (.slice A885_0 ((rd_T140 l0_1 x62_3).f0).length c885_0)).setCell ⟨gb886, 1, none⟩ (.slice A885_1 ((rd_T140 l0_1 x62_3).f1).length c885_1)).setCell ⟨gb886, 2, none⟩ (.bool ((rd_T140 l0_1 x62_3).f2))).heap[gb886]? = some (.cells #[.slice A885_0 ((rd_T140 l0_1 x62_3).f0).length c885_0, .slice A885_1 ((rd_T140 l0_1 x62_3).f1).length c885_1, .bool ((rd_T140 l0_1 x62_3).f2)] 140 (0, 0))) := ⟨by (with_reducible repeat (first | refine xq ?_ _ | refine xr ?_ | refine xo ?_ _)); refine blk_put (cs := #[.slice A885_0 ((rd_T140 l0_1 x62_3).f0).length c885_0, .slice A885_1 ((rd_T140 l0_1 x62_3).f1).length c885_1, .bool false]) ?_ 2 _ rfl; (with_reducible repeat (first | refine xq ?_ _ | refine xr ?_ | refine xo ?_ _)); refine blk_put (cs := #[.slice A885_0 ((rd_T140 l0_1 x62_3).f0).length c885_0, .slice none 0 0, .bool false]) ?_ 1 _ rfl; (with_reducible repeat (first | refine xq ?_ _ | refine xr ?_ | refine xo ?_ _)); refine blk_put (cs := #[.slice none 0 0, .slice none 0 0, .bool false]) ?_ 0 _ rfl; (with_reducible repeat (first | refine xq ?_ _ | refine xr ?_ | refine xo ?_ _)); exact BK886.out⟩
                  have n2_ : Aside0 (Below w.heap.size w (((w40.setCell ⟨gb886, 0, none⟩ (.slice A885_0 ((rd_T140 l0_1 x62_3).f0).length c885_0)).setCell ⟨gb886, 1, none⟩ (.slice A885_1 ((rd_T140 l0_1 x62_3).f1).length c885_1)).setCell ⟨gb886, 2, none⟩ (.bool ((rd_T140 l0_1 x62_3).f2)))) := ⟨by repeat (first | (with_reducible first | exact HB.out | apply xa | apply xn | apply xd | refine xt ?_ GE879.out | refine xt ?_ GE886.out) | exact HB.out)⟩
                  (try clear BK879)
                  (try clear BK886)
                  (try clear HB)
                  generalize (((w40.setCell ⟨gb886, 0, none⟩ (.slice A885_0 ((rd_T140 l0_1 x62_3).f0).length c885_0)).setCell ⟨gb886, 1, none⟩ (.slice A885_1 ((rd_T140 l0_1 x62_3).f1).length c885_1)).setCell ⟨gb886, 2, none⟩ (.bool ((rd_T140 l0_1 x62_3).f2))) = w55 at n0_ n1_ n2_ ⊢
                  have BK879 := n0_
                  have BK886 := n1_
                  have HB := n2_
                  clear n0_ n1_ n2_
                  have n0_ := xm (xr BK879.out)
                  have n1_ := xm (xr BK886.out)
                  have n2_ := xm (xd HB.out)
                  clear BK879
                  clear BK886
                  clear HB
                  have BK879 := n0_
                  have BK886 := n1_
                  have HB := n2_
                  clear n0_ n1_ n2_
                  have p887 : 0 ≤ ((ji44) : Int) := of_decide_eq_true (by first | (with_reducible assumption) | assumption)
                  have q887 : (ji44) < (l0_0.length : Int) := of_decide_eq_true (by first | (with_reducible assumption) | assumption)
                  obtain ⟨ad887, e887, hx887_0, hx887_1, hx887_2⟩ := at_T138 HR0_0.out (ji44) p887 q887
                  have hw887_2 := hx887_2
                  have hw887_1 := hx887_1
                  have hw887_0 := hx887_0
                  cases e887
                  replace hx887_0 := (HB.out.cell (World.block_lt_of_cell? w _ hx887_0)).trans hx887_0
                  replace hx887_1 := (HB.out.cell (World.block_lt_of_cell? w _ hx887_1)).trans hx887_1
                  replace hx887_2 := (HB.out.cell (World.block_lt_of_cell? w _ hx887_2)).trans hx887_2
                  replace p887 := eq_true p887
                  replace q887 := eq_true q887
                  refine start_ (n := 24) (S := fun w' => w'.cell? ⟨gb886, 0, none⟩ = some (.slice A885_0 ((rd_T140 l0_1 x62_3).f0).length c885_0) ∧ w'.cell? ⟨gb886, 1, none⟩ = some (.slice A885_1 ((rd_T140 l0_1 x62_3).f1).length c885_1) ∧ w'.cell? ⟨gb886, 2, none⟩ = some (.bool ((rd_T140 l0_1 x62_3).f2)) ∧ w'.cell? ⟨gb879, 0, none⟩ = some (.slice (some ad887) l0_0.length c0_0) ∧ w'.cell? ⟨gb879, 1, none⟩ = some (.slice (some ad885) l0_1.length c0_1) ∧ w'.cell? (ad887.add (((ji44)).toNat * 3)) = some (.int .i64 ((rd_T138 l0_0 (ji44)).f0)) ∧ w'.cell? ⟨(ad887.add (((ji44)).toNat * 3)).block, (ad887.add (((ji44)).toNat * 3)).off + 1, none⟩ = some (.int .i64 ((rd_T138 l0_0 (ji44)).f1)) ∧ w'.cell? ⟨(ad887.add (((ji44)).toNat * 3)).block, (ad887.add (((ji44)).toNat * 3)).off + 2, none⟩ = some (.bool ((rd_T138 l0_0 (ji44)).f2))) (ds := []) #[Z,Z,Z,Z,Z,Z,Z,Z,Z,Z,Z,Z,Z,Z,Z,Z,Z,Z,Z,Z,Z,Z,Z,Z] (by kernel_rfl) rfl rfl ⟨(xc BK886.out 0).trans rfl, (xc BK886.out 1).trans rfl, (xc BK886.out 2).trans rfl, (xc BK879.out 0).trans rfl, (xc BK879.out 1).trans rfl, ((HB.out.cell (World.block_lt_of_cell? w _ hw887_0)).trans hw887_0), ((HB.out.cell (World.block_lt_of_cell? w _ hw887_1)).trans hw887_1), ((HB.out.cell (World.block_lt_of_cell? w _ hw887_2)).trans hw887_2)⟩ (fun hHeld => ?_); refine with_tabW impl_GoodSnap.tab15 impl_GoodSnap.bits15 (fun HT_ HW_ => ?_)
                  generalize w55.drew = w56 at BK879 BK886 HB hx887_0 hx887_1 hx887_2 hHeld ⊢
                  refine pure_ (i := 1) (N := some 68) (v := ?_) (a' := ?_) #[Z,Y,Z,Z,Z,Z,Z,Z,Z,Z,Z,Z,Z,Z,Z,Z,Z,Z,Z,Z,Z,Z,Z,Z] rfl rfl (any_of HT_.out (by kernel_rfl)) (fun _ _ _ h => h) (Or.inl ⟨by rfl, ?_⟩) ?_ ?_
                  rotate_left
                  ·intro w'
                   go_simp
                   with_reducible rfl
                  rotate_left
                  ·simp only [Act.put, xi, xj, xk, i64_w, i32_w]
                   rfl
                  refine pure_ (i := 3) (N := some 70) (v := ?_) (a' := ?_) #[Z,Y,Z,Y,Z,Z,Z,Z,Z,Z,Z,Z,Z,Z,Z,Z,Z,Z,Z,Z,Z,Z,Z,Z] rfl rfl (any_of HT_.out (by kernel_rfl)) (fun _ _ _ h => h) (Or.inl ⟨by rfl, ?_⟩) ?_ ?_
                  rotate_left
                  ·intro w'
                   go_simp
                   with_reducible rfl
                  rotate_left
                  ·simp only [Act.put, xi, xj, xk, i64_w, i32_w]
                   rfl
                  refine pure_ (i := 4) (N := some 71) (v := ?_) (a' := ?_) #[Z,Y,Z,Y,Y,Z,Z,Z,Z,Z,Z,Z,Z,Z,Z,Z,Z,Z,Z,Z,Z,Z,Z,Z] rfl rfl (any_of HT_.out (by kernel_rfl)) (fun _ _ _ h => h) (Or.inl ⟨by rfl, ?_⟩) ?_ ?_
                  rotate_left
                  ·intro w'
                   go_simp
                   with_reducible rfl
                  rotate_left
                  ·simp only [Act.put, xi, xj, xk, i64_w, i32_w]
                   rfl
                  refine pure_ (i := 5) (N := some 72) (v := ?_) (a' := ?_) #[Z,Y,Z,Y,Y,Y,Z,Z,Z,Z,Z,Z,Z,Z,Z,Z,Z,Z,Z,Z,Z,Z,Z,Z] rfl rfl (any_of HT_.out (by kernel_rfl)) (fun _ _ _ h => h) (Or.inl ⟨by rfl, ?_⟩) ?_ ?_
                  rotate_left
                  ·intro w'
                   go_simp
                   with_reducible rfl
                  rotate_left
                  ·simp only [Act.put, xi, xj, xk, i64_w, i32_w]
                   rfl
                  refine take_ (i := 0) (N := some 67) (v := ?_) (a' := ?_) #[Y,Y,Z,Y,Y,Y,Z,Z,Z,Z,Z,Z,Z,Z,Z,Z,Z,Z,Z,Z,Z,Z,Z,Z] rfl rfl (take_ofW HT_.out HW_.out (by kernel_rfl)) (fun _ _ _ h => h) (Or.inl ⟨by rfl, ?_⟩) hHeld ?_ ?_
                  rotate_left
                  ·rintro w' ⟨s0, s1, s2, s3, s4, s5, s6, s7⟩
                   go_simp
                   with_reducible rfl
                  rotate_left
                  ·simp only [Act.put, xi, xj, xk, i64_w, i32_w]
                   rfl
                  refine take_ (i := 2) (N := some 69) (v := ?_) (a' := ?_) #[Y,Y,Y,Y,Y,Y,Z,Z,Z,Z,Z,Z,Z,Z,Z,Z,Z,Z,Z,Z,Z,Z,Z,Z] rfl rfl (take_ofW HT_.out HW_.out (by kernel_rfl)) (fun _ _ _ h => h) (Or.inl ⟨by rfl, ?_⟩) hHeld ?_ ?_
                  rotate_left
                  ·rintro w' ⟨s0, s1, s2, s3, s4, s5, s6, s7⟩
                   go_simp
                   with_reducible rfl
                  rotate_left
                  ·simp only [Act.put, xi, xj, xk, i64_w, i32_w]
                   rfl
                  refine pure_ (i := 6) (N := some 73) (v := ?_) (a' := ?_) #[Y,Y,Y,Y,Y,Y,Y,Z,Z,Z,Z,Z,Z,Z,Z,Z,Z,Z,Z,Z,Z,Z,Z,Z] rfl rfl (any_of HT_.out (by kernel_rfl)) (fun _ _ _ h => h) (Or.inl ⟨by rfl, ?_⟩) ?_ ?_
                  rotate_left
                  ·intro w'
                   go_simp
                   with_reducible rfl
                  rotate_left
                  ·simp only [Act.put, xi, xj, xk, i64_w, i32_w]
                   rfl
                  refine take_ (i := 7) (N := some 74) (v := ?_) (a' := ?_) #[Y,Y,Y,Y,Y,Y,Y,Y,Z,Z,Z,Z,Z,Z,Z,Z,Z,Z,Z,Z,Z,Z,Z,Z] rfl rfl (take_ofW HT_.out HW_.out (by kernel_rfl)) (fun _ _ _ h => h) (Or.inl ⟨by rfl, ?_⟩) hHeld ?_ ?_
                  rotate_left
                  ·rintro w' ⟨s0, s1, s2, s3, s4, s5, s6, s7⟩
                   go_simp
                   with_reducible rfl
                  rotate_left
                  ·simp only [Act.put, xi, xj, xk, i64_w, i32_w]
                   rfl
                  refine one_ (i := 8) (N := some 75) #[Y,Y,Y,Y,Y,Y,Y,Y,Y,Z,Z,Z,Z,Z,Z,Z,Z,Z,Z,Z,Z,Z,Z,Z] rfl rfl (one_of HT_.out (by kernel_rfl)) (by decide) (fun K hK => ?_)
                  refine goes_ Try.func121 (by kernel_rfl) rfl #[.agg #[.slice A885_0 ((rd_T140 l0_1 x62_3).f0).length c885_0, .slice A885_1 ((rd_T140 l0_1 x62_3).f1).length c885_1, .bool ((rd_T140 l0_1 x62_3).f2)], .agg #[.int .i64 ((rd_T138 l0_0 (ji44)).f0), .int .i64 ((rd_T138 l0_0 (ji44)).f1), .bool ((rd_T138 l0_0 (ji44)).f2)]] (by rfl) rfl rfl (by (try simp only [List.map_toArray, List.map_cons, List.map_nil]); first | done | (simp only [hji44]; rfl) | rfl | (simp only [List.length_drop, List.length_take]; rfl)) ?_
                  with_reducible refine (impl_Wire_isWire.calls _ _ ((rd_T140 l0_1 x62_3).f0) _ _ ((rd_T140 l0_1 x62_3).f1) ((rd_T140 l0_1 x62_3).f2) ((rd_T138 l0_0 (ji44)).f0) ((rd_T138 l0_0 (ji44)).f1) ((rd_T138 l0_0 (ji44)).f2) true _ ?side1 ?side2 ?side3 ?side4 A47.out).mono ?_
                  (case side1 => repeat (first | exact (Kd.C_below HR885_0.out HB.out) | (with_reducible refine Kd.C_alloc ?_ _) | (with_reducible refine Kd.C_drewN ?_ _) | (with_reducible refine Kd.C_drew ?_)))
                  (case side2 => exact HC885_0.out)
                  (case side3 => repeat (first | exact (Kd.C_below HR885_1.out HB.out) | (with_reducible refine Kd.C_alloc ?_ _) | (with_reducible refine Kd.C_drewN ?_ _) | (with_reducible refine Kd.C_drew ?_)))
                  (case side4 => exact HC885_1.out)
                  rintro e w57 ⟨rfl, hb⟩
                  refine ⟨_, rfl, ?_⟩
                  have n0_ := xm (blk_below (g := gb879) (o := .cells #[.slice (some ad887) l0_0.length c0_0, .slice (some ad885) l0_1.length c0_1] 85 (0, 0)) (by (with_reducible repeat (first | refine xq ?_ _ | refine xr ?_ | refine xo ?_ _)); exact BK879.out) hb)
                  have n1_ := xm (blk_below (g := gb886) (o := .cells #[.slice A885_0 ((rd_T140 l0_1 x62_3).f0).length c885_0, .slice A885_1 ((rd_T140 l0_1 x62_3).f1).length c885_1, .bool ((rd_T140 l0_1 x62_3).f2)] 140 (0, 0)) (by (with_reducible repeat (first | refine xq ?_ _ | refine xr ?_ | refine xo ?_ _)); exact BK886.out) hb)
                  have n2_ := xm (below_step (by repeat (first | (with_reducible first | exact HB.out | apply xa | apply xn | apply xd | refine xt ?_ GE879.out | refine xt ?_ GE886.out) | exact HB.out)) hb)
                  clear BK879
                  clear BK886
                  clear HB
                  have BK879 := n0_
                  have BK886 := n1_
                  have HB := n2_
                  clear n0_ n1_ n2_
                  (try clear hb)
                  (try clear hb2)
                  (try clear hk)
                  (try clear hi)
                  refine hK.out _ _ ⟨(xc BK886.out 0).trans rfl, (xc BK886.out 1).trans rfl, (xc BK886.out 2).trans rfl, (xc BK879.out 0).trans rfl, (xc BK879.out 1).trans rfl, ((HB.out.cell (World.block_lt_of_cell? w _ hw887_0)).trans hw887_0), ((HB.out.cell (World.block_lt_of_cell? w _ hw887_1)).trans hw887_1), ((HB.out.cell (World.block_lt_of_cell? w _ hw887_2)).trans hw887_2)⟩ (fun hHeld => ?_)
                  clear hK K
                  refine norm_ (a' := ?_) ?_ ?_
                  rotate_left
                  ·show Act.put _ (some 75) _ = _
                   simp only [Act.put, xi, xj, xk, i64_w, i32_w]
                   rfl
                  refine pure_ (i := 9) (N := some 76) (v := ?_) (a' := ?_) #[Y,Y,Y,Y,Y,Y,Y,Y,Y,Y,Z,Z,Z,Z,Z,Z,Z,Z,Z,Z,Z,Z,Z,Z] rfl rfl (any_of HT_.out (by kernel_rfl)) (fun _ _ _ h => h) (Or.inl ⟨by rfl, ?_⟩) ?_ ?_
                  rotate_left
                  ·intro w'
                   go_simp
                   with_reducible rfl
                  rotate_left
                  ·simp only [Act.put, xi, xj, xk, i64_w, i32_w]
                   rfl
                  refine pure_ (i := 10) (N := some 77) (v := ?_) (a' := ?_) #[Y,Y,Y,Y,Y,Y,Y,Y,Y,Y,Y,Z,Z,Z,Z,Z,Z,Z,Z,Z,Z,Z,Z,Z] rfl rfl (any_of HT_.out (by kernel_rfl)) (fun _ _ _ h => h) (Or.inl ⟨by rfl, ?_⟩) ?_ ?_
                  rotate_left
                  ·intro w'
                   go_simp
                   with_reducible rfl
                  rotate_left
                  ·simp only [Act.put, xi, xj, xk, i64_w, i32_w]
                   rfl
                  refine pure_ (i := 11) (N := some 78) (v := ?_) (a' := ?_) #[Y,Y,Y,Y,Y,Y,Y,Y,Y,Y,Y,Y,Z,Z,Z,Z,Z,Z,Z,Z,Z,Z,Z,Z] rfl rfl (any_of HT_.out (by kernel_rfl)) (fun _ _ _ h => h) (Or.inl ⟨by rfl, ?_⟩) ?_ ?_
                  rotate_left
                  ·intro w'
                   go_simp
                   with_reducible rfl
                  rotate_left
                  ·simp only [Act.put, xi, xj, xk, i64_w, i32_w]
                   rfl
                  refine pure_ (i := 12) (N := some 79) (v := ?_) (a' := ?_) #[Y,Y,Y,Y,Y,Y,Y,Y,Y,Y,Y,Y,Y,Z,Z,Z,Z,Z,Z,Z,Z,Z,Z,Z] rfl rfl (any_of HT_.out (by kernel_rfl)) (fun _ _ _ h => h) (Or.inl ⟨by rfl, ?_⟩) ?_ ?_
                  rotate_left
                  ·intro w'
                   go_simp
                   with_reducible rfl
                  rotate_left
                  ·simp only [Act.put, xi, xj, xk, i64_w, i32_w]
                   rfl
                  refine pure_ (i := 13) (N := some 80) (v := ?_) (a' := ?_) #[Y,Y,Y,Y,Y,Y,Y,Y,Y,Y,Y,Y,Y,Y,Z,Z,Z,Z,Z,Z,Z,Z,Z,Z] rfl rfl (any_of HT_.out (by kernel_rfl)) (fun _ _ _ h => h) (Or.inl ⟨by rfl, ?_⟩) ?_ ?_
                  rotate_left
                  ·intro w'
                   go_simp
                   with_reducible rfl
                  rotate_left
                  ·simp only [Act.put, xi, xj, xk, i64_w, i32_w]
                   rfl
                  refine pure_ (i := 14) (N := some 81) (v := ?_) (a' := ?_) #[Y,Y,Y,Y,Y,Y,Y,Y,Y,Y,Y,Y,Y,Y,Y,Z,Z,Z,Z,Z,Z,Z,Z,Z] rfl rfl (any_of HT_.out (by kernel_rfl)) (fun _ _ _ h => h) (Or.inl ⟨by rfl, ?_⟩) ?_ ?_
                  rotate_left
                  ·intro w'
                   go_simp
                   with_reducible rfl
                  rotate_left
                  ·simp only [Act.put, xi, xj, xk, i64_w, i32_w]
                   rfl
                  refine pure_ (i := 15) (N := some 82) (v := ?_) (a' := ?_) #[Y,Y,Y,Y,Y,Y,Y,Y,Y,Y,Y,Y,Y,Y,Y,Y,Z,Z,Z,Z,Z,Z,Z,Z] rfl rfl (any_of HT_.out (by kernel_rfl)) (fun _ _ _ h => h) (Or.inl ⟨by rfl, ?_⟩) ?_ ?_
                  rotate_left
                  ·intro w'
                   go_simp
                   with_reducible rfl
                  rotate_left
                  ·simp only [Act.put, xi, xj, xk, i64_w, i32_w]
                   rfl
                  refine pure_ (i := 16) (N := some 83) (v := ?_) (a' := ?_) #[Y,Y,Y,Y,Y,Y,Y,Y,Y,Y,Y,Y,Y,Y,Y,Y,Y,Z,Z,Z,Z,Z,Z,Z] rfl rfl (any_of HT_.out (by kernel_rfl)) (fun _ _ _ h => h) (Or.inl ⟨by rfl, ?_⟩) ?_ ?_
                  rotate_left
                  ·intro w'
                   go_simp
                   with_reducible rfl
                  rotate_left
                  ·simp only [Act.put, xi, xj, xk, i64_w, i32_w]
                   rfl
                  refine pure_ (i := 17) (N := some 84) (v := ?_) (a' := ?_) #[Y,Y,Y,Y,Y,Y,Y,Y,Y,Y,Y,Y,Y,Y,Y,Y,Y,Y,Z,Z,Z,Z,Z,Z] rfl rfl (any_of HT_.out (by kernel_rfl)) (fun _ _ _ h => h) (Or.inl ⟨by rfl, ?_⟩) ?_ ?_
                  rotate_left
                  ·intro w'
                   go_simp
                   with_reducible rfl
                  rotate_left
                  ·simp only [Act.put, xi, xj, xk, i64_w, i32_w]
                   rfl
                  refine pure_ (i := 18) (N := some 85) (v := ?_) (a' := ?_) #[Y,Y,Y,Y,Y,Y,Y,Y,Y,Y,Y,Y,Y,Y,Y,Y,Y,Y,Y,Z,Z,Z,Z,Z] rfl rfl (any_of HT_.out (by kernel_rfl)) (fun _ _ _ h => h) (Or.inl ⟨by rfl, ?_⟩) ?_ ?_
                  rotate_left
                  ·intro w'
                   go_simp
                   with_reducible rfl
                  rotate_left
                  ·simp only [Act.put, xi, xj, xk, i64_w, i32_w]
                   rfl
                  refine pure_ (i := 19) (N := some 86) (v := undef) (a' := ?_) #[Y,Y,Y,Y,Y,Y,Y,Y,Y,Y,Y,Y,Y,Y,Y,Y,Y,Y,Y,Y,Z,Z,Z,Z] rfl rfl (any_of HT_.out (by kernel_rfl)) (fun _ _ _ h => h) (Or.inr ⟨by rfl, rfl⟩) ?_ ?_
                  rotate_left
                  ·simp only [Act.put, xi, xj, xk, i64_w, i32_w]
                   rfl
                  refine pure_ (i := 20) (N := some 87) (v := undef) (a' := ?_) #[Y,Y,Y,Y,Y,Y,Y,Y,Y,Y,Y,Y,Y,Y,Y,Y,Y,Y,Y,Y,Y,Z,Z,Z] rfl rfl (any_of HT_.out (by kernel_rfl)) (fun _ _ _ h => h) (Or.inr ⟨by rfl, rfl⟩) ?_ ?_
                  rotate_left
                  ·simp only [Act.put, xi, xj, xk, i64_w, i32_w]
                   rfl
                  refine pure_ (i := 21) (N := some 88) (v := undef) (a' := ?_) #[Y,Y,Y,Y,Y,Y,Y,Y,Y,Y,Y,Y,Y,Y,Y,Y,Y,Y,Y,Y,Y,Y,Z,Z] rfl rfl (any_of HT_.out (by kernel_rfl)) (fun _ _ _ h => h) (Or.inr ⟨by rfl, rfl⟩) ?_ ?_
                  rotate_left
                  ·simp only [Act.put, xi, xj, xk, i64_w, i32_w]
                   rfl
                  refine pure_ (i := 22) (N := some 89) (v := ?_) (a' := ?_) #[Y,Y,Y,Y,Y,Y,Y,Y,Y,Y,Y,Y,Y,Y,Y,Y,Y,Y,Y,Y,Y,Y,Y,Z] rfl rfl (any_of HT_.out (by kernel_rfl)) (fun _ _ _ h => h) (Or.inl ⟨by rfl, ?_⟩) ?_ ?_
                  rotate_left
                  ·intro w'
                   go_simp
                   with_reducible rfl
                  rotate_left
                  ·simp only [Act.put, xi, xj, xk, i64_w, i32_w]
                   rfl
                  refine pure_ (i := 23) (N := some 90) (v := ?_) (a' := ?_) #[Y,Y,Y,Y,Y,Y,Y,Y,Y,Y,Y,Y,Y,Y,Y,Y,Y,Y,Y,Y,Y,Y,Y,Y] rfl rfl (any_of HT_.out (by kernel_rfl)) (fun _ _ _ h => h) (Or.inl ⟨by rfl, ?_⟩) ?_ ?_
                  rotate_left
                  ·intro w'
                   go_simp
                   with_reducible rfl
                  rotate_left
                  ·simp only [Act.put, xi, xj, xk, i64_w, i32_w]
                   rfl
                  refine done_ (done_of HT_.out (by kernel_rfl)) ?_
                  try go_wp2
                  go_meet
                  case rel => exact ⟨_, (false), (by first | rfl | (simp; done) | (simp [*]; done)), H', ⟨by have := HJ1.out; have := HK2.out; have := HK3.out; first | omega | exact Nat.le_refl _⟩, ⟨by (with_reducible repeat (first | refine xq ?_ _ | refine xr ?_ | refine xo ?_ _)); exact BK879.out⟩, ⟨by (with_reducible repeat (first | refine xq ?_ _ | refine xr ?_ | refine xo ?_ _)); exact BK886.out⟩, ⟨by repeat (first | (with_reducible first | exact HB.out | apply xa | apply xn | apply xd | refine xt ?_ GE879.out | refine xt ?_ GE886.out) | exact HB.out)⟩⟩
                ·replace c48 := Bool.eq_false_iff.mpr c48
                 subst c48
                 have H1 : (impl_GoodSnap.j3 k3 (l0_0.length : Int) x4_3 l0_1 (l0_1.length : Int) x62_3 true l0_0 l0_1 ((rd_T140 l0_1 x62_3).f0) ((rd_T140 l0_1 x62_3).f1) ((rd_T140 l0_1 x62_3).f2)) = some r := by first | (with_reducible rfl) | (rw [if_neg (show ¬ (false = true) by decide)] at H; exact H)
                 clear H
                 have H := H1
                 clear H1
                 have H' := xm H
                 clear H
                 try go_wp2
                 have n0_ : Aside0 ((((w40.setCell ⟨gb886, 0, none⟩ (.slice A885_0 ((rd_T140 l0_1 x62_3).f0).length c885_0)).setCell ⟨gb886, 1, none⟩ (.slice A885_1 ((rd_T140 l0_1 x62_3).f1).length c885_1)).setCell ⟨gb886, 2, none⟩ (.bool ((rd_T140 l0_1 x62_3).f2))).heap[gb879]? = some (.cells #[.slice A0_0 l0_0.length c0_0, .slice (some ad885) l0_1.length c0_1] 85 (0, 0))) := ⟨by (with_reducible repeat (first | refine xq ?_ _ | refine xr ?_ | refine xo ?_ _)); refine blk_far ?_ NB879_886.out _; (with_reducible repeat (first | refine xq ?_ _ | refine xr ?_ | refine xo ?_ _)); refine blk_far ?_ NB879_886.out _; (with_reducible repeat (first | refine xq ?_ _ | refine xr ?_ | refine xo ?_ _)); refine blk_far ?_ NB879_886.out _; (with_reducible repeat (first | refine xq ?_ _ | refine xr ?_ | refine xo ?_ _)); exact BK879.out⟩
                 have n1_ : Aside0 ((((w40.setCell ⟨gb886, 0, none⟩ (.slice A885_0 ((rd_T140 l0_1 x62_3).f0).length c885_0)).setCell ⟨gb886, 1, none⟩ (.slice A885_1 ((rd_T140 l0_1 x62_3).f1).length c885_1)).setCell ⟨gb886, 2, none⟩ (.bool ((rd_T140 l0_1 x62_3).f2))).heap[gb886]? = some (.cells #[.slice A885_0 ((rd_T140 l0_1 x62_3).f0).length c885_0, .slice A885_1 ((rd_T140 l0_1 x62_3).f1).length c885_1, .bool ((rd_T140 l0_1 x62_3).f2)] 140 (0, 0))) := ⟨by (with_reducible repeat (first | refine xq ?_ _ | refine xr ?_ | refine xo ?_ _)); refine blk_put (cs := #[.slice A885_0 ((rd_T140 l0_1 x62_3).f0).length c885_0, .slice A885_1 ((rd_T140 l0_1 x62_3).f1).length c885_1, .bool false]) ?_ 2 _ rfl; (with_reducible repeat (first | refine xq ?_ _ | refine xr ?_ | refine xo ?_ _)); refine blk_put (cs := #[.slice A885_0 ((rd_T140 l0_1 x62_3).f0).length c885_0, .slice none 0 0, .bool false]) ?_ 1 _ rfl; (with_reducible repeat (first | refine xq ?_ _ | refine xr ?_ | refine xo ?_ _)); refine blk_put (cs := #[.slice none 0 0, .slice none 0 0, .bool false]) ?_ 0 _ rfl; (with_reducible repeat (first | refine xq ?_ _ | refine xr ?_ | refine xo ?_ _)); exact BK886.out⟩
                 have n2_ : Aside0 (Below w.heap.size w (((w40.setCell ⟨gb886, 0, none⟩ (.slice A885_0 ((rd_T140 l0_1 x62_3).f0).length c885_0)).setCell ⟨gb886, 1, none⟩ (.slice A885_1 ((rd_T140 l0_1 x62_3).f1).length c885_1)).setCell ⟨gb886, 2, none⟩ (.bool ((rd_T140 l0_1 x62_3).f2)))) := ⟨by repeat (first | (with_reducible first | exact HB.out | apply xa | apply xn | apply xd | refine xt ?_ GE879.out | refine xt ?_ GE886.out) | exact HB.out)⟩
                 (try clear BK879)
                 (try clear BK886)
                 (try clear HB)
                 generalize (((w40.setCell ⟨gb886, 0, none⟩ (.slice A885_0 ((rd_T140 l0_1 x62_3).f0).length c885_0)).setCell ⟨gb886, 1, none⟩ (.slice A885_1 ((rd_T140 l0_1 x62_3).f1).length c885_1)).setCell ⟨gb886, 2, none⟩ (.bool ((rd_T140 l0_1 x62_3).f2))) = w58 at n0_ n1_ n2_ ⊢
                 have BK879 := n0_
                 have BK886 := n1_
                 have HB := n2_
                 clear n0_ n1_ n2_
                 have n0_ := xm (xr BK879.out)
                 have n1_ := xm (xr BK886.out)
                 have n2_ := xm (xd HB.out)
                 clear BK879
                 clear BK886
                 clear HB
                 have BK879 := n0_
                 have BK886 := n1_
                 have HB := n2_
                 clear n0_ n1_ n2_
                 have p887 : 0 ≤ ((ji44) : Int) := of_decide_eq_true (by first | (with_reducible assumption) | assumption)
                 have q887 : (ji44) < (l0_0.length : Int) := of_decide_eq_true (by first | (with_reducible assumption) | assumption)
                 obtain ⟨ad887, e887, hx887_0, hx887_1, hx887_2⟩ := at_T138 HR0_0.out (ji44) p887 q887
                 have hw887_2 := hx887_2
                 have hw887_1 := hx887_1
                 have hw887_0 := hx887_0
                 cases e887
                 replace hx887_0 := (HB.out.cell (World.block_lt_of_cell? w _ hx887_0)).trans hx887_0
                 replace hx887_1 := (HB.out.cell (World.block_lt_of_cell? w _ hx887_1)).trans hx887_1
                 replace hx887_2 := (HB.out.cell (World.block_lt_of_cell? w _ hx887_2)).trans hx887_2
                 replace p887 := eq_true p887
                 replace q887 := eq_true q887
                 refine start_ (n := 24) (S := fun w' => w'.cell? ⟨gb886, 0, none⟩ = some (.slice A885_0 ((rd_T140 l0_1 x62_3).f0).length c885_0) ∧ w'.cell? ⟨gb886, 1, none⟩ = some (.slice A885_1 ((rd_T140 l0_1 x62_3).f1).length c885_1) ∧ w'.cell? ⟨gb886, 2, none⟩ = some (.bool ((rd_T140 l0_1 x62_3).f2)) ∧ w'.cell? ⟨gb879, 0, none⟩ = some (.slice (some ad887) l0_0.length c0_0) ∧ w'.cell? ⟨gb879, 1, none⟩ = some (.slice (some ad885) l0_1.length c0_1) ∧ w'.cell? (ad887.add (((ji44)).toNat * 3)) = some (.int .i64 ((rd_T138 l0_0 (ji44)).f0)) ∧ w'.cell? ⟨(ad887.add (((ji44)).toNat * 3)).block, (ad887.add (((ji44)).toNat * 3)).off + 1, none⟩ = some (.int .i64 ((rd_T138 l0_0 (ji44)).f1)) ∧ w'.cell? ⟨(ad887.add (((ji44)).toNat * 3)).block, (ad887.add (((ji44)).toNat * 3)).off + 2, none⟩ = some (.bool ((rd_T138 l0_0 (ji44)).f2))) (ds := []) #[Z,Z,Z,Z,Z,Z,Z,Z,Z,Z,Z,Z,Z,Z,Z,Z,Z,Z,Z,Z,Z,Z,Z,Z] (by kernel_rfl) rfl rfl ⟨(xc BK886.out 0).trans rfl, (xc BK886.out 1).trans rfl, (xc BK886.out 2).trans rfl, (xc BK879.out 0).trans rfl, (xc BK879.out 1).trans rfl, ((HB.out.cell (World.block_lt_of_cell? w _ hw887_0)).trans hw887_0), ((HB.out.cell (World.block_lt_of_cell? w _ hw887_1)).trans hw887_1), ((HB.out.cell (World.block_lt_of_cell? w _ hw887_2)).trans hw887_2)⟩ (fun hHeld => ?_); refine with_tabW impl_GoodSnap.tab15 impl_GoodSnap.bits15 (fun HT_ HW_ => ?_)
                 generalize w58.drew = w59 at BK879 BK886 HB hx887_0 hx887_1 hx887_2 hHeld ⊢
                 refine pure_ (i := 1) (N := some 68) (v := ?_) (a' := ?_) #[Z,Y,Z,Z,Z,Z,Z,Z,Z,Z,Z,Z,Z,Z,Z,Z,Z,Z,Z,Z,Z,Z,Z,Z] rfl rfl (any_of HT_.out (by kernel_rfl)) (fun _ _ _ h => h) (Or.inl ⟨by rfl, ?_⟩) ?_ ?_
                 rotate_left
                 ·intro w'
                  go_simp
                  with_reducible rfl
                 rotate_left
                 ·simp only [Act.put, xi, xj, xk, i64_w, i32_w]
                  rfl
                 refine pure_ (i := 3) (N := some 70) (v := ?_) (a' := ?_) #[Z,Y,Z,Y,Z,Z,Z,Z,Z,Z,Z,Z,Z,Z,Z,Z,Z,Z,Z,Z,Z,Z,Z,Z] rfl rfl (any_of HT_.out (by kernel_rfl)) (fun _ _ _ h => h) (Or.inl ⟨by rfl, ?_⟩) ?_ ?_
                 rotate_left
                 ·intro w'
                  go_simp
                  with_reducible rfl
                 rotate_left
                 ·simp only [Act.put, xi, xj, xk, i64_w, i32_w]
                  rfl
                 refine pure_ (i := 4) (N := some 71) (v := ?_) (a' := ?_) #[Z,Y,Z,Y,Y,Z,Z,Z,Z,Z,Z,Z,Z,Z,Z,Z,Z,Z,Z,Z,Z,Z,Z,Z] rfl rfl (any_of HT_.out (by kernel_rfl)) (fun _ _ _ h => h) (Or.inl ⟨by rfl, ?_⟩) ?_ ?_
                 rotate_left
                 ·intro w'
                  go_simp
                  with_reducible rfl
                 rotate_left
                 ·simp only [Act.put, xi, xj, xk, i64_w, i32_w]
                  rfl
                 refine pure_ (i := 5) (N := some 72) (v := ?_) (a' := ?_) #[Z,Y,Z,Y,Y,Y,Z,Z,Z,Z,Z,Z,Z,Z,Z,Z,Z,Z,Z,Z,Z,Z,Z,Z] rfl rfl (any_of HT_.out (by kernel_rfl)) (fun _ _ _ h => h) (Or.inl ⟨by rfl, ?_⟩) ?_ ?_
                 rotate_left
                 ·intro w'
                  go_simp
                  with_reducible rfl
                 rotate_left
                 ·simp only [Act.put, xi, xj, xk, i64_w, i32_w]
                  rfl
                 refine take_ (i := 0) (N := some 67) (v := ?_) (a' := ?_) #[Y,Y,Z,Y,Y,Y,Z,Z,Z,Z,Z,Z,Z,Z,Z,Z,Z,Z,Z,Z,Z,Z,Z,Z] rfl rfl (take_ofW HT_.out HW_.out (by kernel_rfl)) (fun _ _ _ h => h) (Or.inl ⟨by rfl, ?_⟩) hHeld ?_ ?_
                 rotate_left
                 ·rintro w' ⟨s0, s1, s2, s3, s4, s5, s6, s7⟩
                  go_simp
                  with_reducible rfl
                 rotate_left
                 ·simp only [Act.put, xi, xj, xk, i64_w, i32_w]
                  rfl
                 refine take_ (i := 2) (N := some 69) (v := ?_) (a' := ?_) #[Y,Y,Y,Y,Y,Y,Z,Z,Z,Z,Z,Z,Z,Z,Z,Z,Z,Z,Z,Z,Z,Z,Z,Z] rfl rfl (take_ofW HT_.out HW_.out (by kernel_rfl)) (fun _ _ _ h => h) (Or.inl ⟨by rfl, ?_⟩) hHeld ?_ ?_
                 rotate_left
                 ·rintro w' ⟨s0, s1, s2, s3, s4, s5, s6, s7⟩
                  go_simp
                  with_reducible rfl
                 rotate_left
                 ·simp only [Act.put, xi, xj, xk, i64_w, i32_w]
                  rfl
                 refine pure_ (i := 6) (N := some 73) (v := ?_) (a' := ?_) #[Y,Y,Y,Y,Y,Y,Y,Z,Z,Z,Z,Z,Z,Z,Z,Z,Z,Z,Z,Z,Z,Z,Z,Z] rfl rfl (any_of HT_.out (by kernel_rfl)) (fun _ _ _ h => h) (Or.inl ⟨by rfl, ?_⟩) ?_ ?_
                 rotate_left
                 ·intro w'
                  go_simp
                  with_reducible rfl
                 rotate_left
                 ·simp only [Act.put, xi, xj, xk, i64_w, i32_w]
                  rfl
                 refine take_ (i := 7) (N := some 74) (v := ?_) (a' := ?_) #[Y,Y,Y,Y,Y,Y,Y,Y,Z,Z,Z,Z,Z,Z,Z,Z,Z,Z,Z,Z,Z,Z,Z,Z] rfl rfl (take_ofW HT_.out HW_.out (by kernel_rfl)) (fun _ _ _ h => h) (Or.inl ⟨by rfl, ?_⟩) hHeld ?_ ?_
                 rotate_left
                 ·rintro w' ⟨s0, s1, s2, s3, s4, s5, s6, s7⟩
                  go_simp
                  with_reducible rfl
                 rotate_left
                 ·simp only [Act.put, xi, xj, xk, i64_w, i32_w]
                  rfl
                 refine one_ (i := 8) (N := some 75) #[Y,Y,Y,Y,Y,Y,Y,Y,Y,Z,Z,Z,Z,Z,Z,Z,Z,Z,Z,Z,Z,Z,Z,Z] rfl rfl (one_of HT_.out (by kernel_rfl)) (by decide) (fun K hK => ?_)
                 refine goes_ Try.func121 (by kernel_rfl) rfl #[.agg #[.slice A885_0 ((rd_T140 l0_1 x62_3).f0).length c885_0, .slice A885_1 ((rd_T140 l0_1 x62_3).f1).length c885_1, .bool ((rd_T140 l0_1 x62_3).f2)], .agg #[.int .i64 ((rd_T138 l0_0 (ji44)).f0), .int .i64 ((rd_T138 l0_0 (ji44)).f1), .bool ((rd_T138 l0_0 (ji44)).f2)]] (by rfl) rfl rfl (by (try simp only [List.map_toArray, List.map_cons, List.map_nil]); first | done | (simp only [hji44]; rfl) | rfl | (simp only [List.length_drop, List.length_take]; rfl)) ?_
                 with_reducible refine (impl_Wire_isWire.calls _ _ ((rd_T140 l0_1 x62_3).f0) _ _ ((rd_T140 l0_1 x62_3).f1) ((rd_T140 l0_1 x62_3).f2) ((rd_T138 l0_0 (ji44)).f0) ((rd_T138 l0_0 (ji44)).f1) ((rd_T138 l0_0 (ji44)).f2) false _ ?side1 ?side2 ?side3 ?side4 A47.out).mono ?_
                 (case side1 => repeat (first | exact (Kd.C_below HR885_0.out HB.out) | (with_reducible refine Kd.C_alloc ?_ _) | (with_reducible refine Kd.C_drewN ?_ _) | (with_reducible refine Kd.C_drew ?_)))
                 (case side2 => exact HC885_0.out)
                 (case side3 => repeat (first | exact (Kd.C_below HR885_1.out HB.out) | (with_reducible refine Kd.C_alloc ?_ _) | (with_reducible refine Kd.C_drewN ?_ _) | (with_reducible refine Kd.C_drew ?_)))
                 (case side4 => exact HC885_1.out)
                 rintro e w60 ⟨rfl, hb⟩
                 refine ⟨_, rfl, ?_⟩
                 have n0_ := xm (blk_below (g := gb879) (o := .cells #[.slice (some ad887) l0_0.length c0_0, .slice (some ad885) l0_1.length c0_1] 85 (0, 0)) (by (with_reducible repeat (first | refine xq ?_ _ | refine xr ?_ | refine xo ?_ _)); exact BK879.out) hb)
                 have n1_ := xm (blk_below (g := gb886) (o := .cells #[.slice A885_0 ((rd_T140 l0_1 x62_3).f0).length c885_0, .slice A885_1 ((rd_T140 l0_1 x62_3).f1).length c885_1, .bool ((rd_T140 l0_1 x62_3).f2)] 140 (0, 0)) (by (with_reducible repeat (first | refine xq ?_ _ | refine xr ?_ | refine xo ?_ _)); exact BK886.out) hb)
                 have n2_ := xm (below_step (by repeat (first | (with_reducible first | exact HB.out | apply xa | apply xn | apply xd | refine xt ?_ GE879.out | refine xt ?_ GE886.out) | exact HB.out)) hb)
                 clear BK879
                 clear BK886
                 clear HB
                 have BK879 := n0_
                 have BK886 := n1_
                 have HB := n2_
                 clear n0_ n1_ n2_
                 (try clear hb)
                 (try clear hb2)
                 (try clear hk)
                 (try clear hi)
                 refine hK.out _ _ ⟨(xc BK886.out 0).trans rfl, (xc BK886.out 1).trans rfl, (xc BK886.out 2).trans rfl, (xc BK879.out 0).trans rfl, (xc BK879.out 1).trans rfl, ((HB.out.cell (World.block_lt_of_cell? w _ hw887_0)).trans hw887_0), ((HB.out.cell (World.block_lt_of_cell? w _ hw887_1)).trans hw887_1), ((HB.out.cell (World.block_lt_of_cell? w _ hw887_2)).trans hw887_2)⟩ (fun hHeld => ?_)
                 clear hK K
                 refine norm_ (a' := ?_) ?_ ?_
                 rotate_left
                 ·show Act.put _ (some 75) _ = _
                  simp only [Act.put, xi, xj, xk, i64_w, i32_w]
                  rfl
                 refine pure_ (i := 9) (N := some 76) (v := ?_) (a' := ?_) #[Y,Y,Y,Y,Y,Y,Y,Y,Y,Y,Z,Z,Z,Z,Z,Z,Z,Z,Z,Z,Z,Z,Z,Z] rfl rfl (any_of HT_.out (by kernel_rfl)) (fun _ _ _ h => h) (Or.inl ⟨by rfl, ?_⟩) ?_ ?_
                 rotate_left
                 ·intro w'
                  go_simp
                  with_reducible rfl
                 rotate_left
                 ·simp only [Act.put, xi, xj, xk, i64_w, i32_w]
                  rfl
                 refine pure_ (i := 10) (N := some 77) (v := ?_) (a' := ?_) #[Y,Y,Y,Y,Y,Y,Y,Y,Y,Y,Y,Z,Z,Z,Z,Z,Z,Z,Z,Z,Z,Z,Z,Z] rfl rfl (any_of HT_.out (by kernel_rfl)) (fun _ _ _ h => h) (Or.inl ⟨by rfl, ?_⟩) ?_ ?_
                 rotate_left
                 ·intro w'
                  go_simp
                  with_reducible rfl
                 rotate_left
                 ·simp only [Act.put, xi, xj, xk, i64_w, i32_w]
                  rfl
                 refine pure_ (i := 11) (N := some 78) (v := undef) (a' := ?_) #[Y,Y,Y,Y,Y,Y,Y,Y,Y,Y,Y,Y,Z,Z,Z,Z,Z,Z,Z,Z,Z,Z,Z,Z] rfl rfl (any_of HT_.out (by kernel_rfl)) (fun _ _ _ h => h) (Or.inr ⟨by rfl, rfl⟩) ?_ ?_
                 rotate_left
                 ·simp only [Act.put, xi, xj, xk, i64_w, i32_w]
                  rfl
                 refine pure_ (i := 12) (N := some 79) (v := undef) (a' := ?_) #[Y,Y,Y,Y,Y,Y,Y,Y,Y,Y,Y,Y,Y,Z,Z,Z,Z,Z,Z,Z,Z,Z,Z,Z] rfl rfl (any_of HT_.out (by kernel_rfl)) (fun _ _ _ h => h) (Or.inr ⟨by rfl, rfl⟩) ?_ ?_
                 rotate_left
                 ·simp only [Act.put, xi, xj, xk, i64_w, i32_w]
                  rfl
                 refine pure_ (i := 13) (N := some 80) (v := undef) (a' := ?_) #[Y,Y,Y,Y,Y,Y,Y,Y,Y,Y,Y,Y,Y,Y,Z,Z,Z,Z,Z,Z,Z,Z,Z,Z] rfl rfl (any_of HT_.out (by kernel_rfl)) (fun _ _ _ h => h) (Or.inr ⟨by rfl, rfl⟩) ?_ ?_
                 rotate_left
                 ·simp only [Act.put, xi, xj, xk, i64_w, i32_w]
                  rfl
                 refine pure_ (i := 14) (N := some 81) (v := undef) (a' := ?_) #[Y,Y,Y,Y,Y,Y,Y,Y,Y,Y,Y,Y,Y,Y,Y,Z,Z,Z,Z,Z,Z,Z,Z,Z] rfl rfl (any_of HT_.out (by kernel_rfl)) (fun _ _ _ h => h) (Or.inr ⟨by rfl, rfl⟩) ?_ ?_
                 rotate_left
                 ·simp only [Act.put, xi, xj, xk, i64_w, i32_w]
                  rfl
                 refine pure_ (i := 15) (N := some 82) (v := undef) (a' := ?_) #[Y,Y,Y,Y,Y,Y,Y,Y,Y,Y,Y,Y,Y,Y,Y,Y,Z,Z,Z,Z,Z,Z,Z,Z] rfl rfl (any_of HT_.out (by kernel_rfl)) (fun _ _ _ h => h) (Or.inr ⟨by rfl, rfl⟩) ?_ ?_
                 rotate_left
                 ·simp only [Act.put, xi, xj, xk, i64_w, i32_w]
                  rfl
                 refine pure_ (i := 16) (N := some 83) (v := undef) (a' := ?_) #[Y,Y,Y,Y,Y,Y,Y,Y,Y,Y,Y,Y,Y,Y,Y,Y,Y,Z,Z,Z,Z,Z,Z,Z] rfl rfl (any_of HT_.out (by kernel_rfl)) (fun _ _ _ h => h) (Or.inr ⟨by rfl, rfl⟩) ?_ ?_
                 rotate_left
                 ·simp only [Act.put, xi, xj, xk, i64_w, i32_w]
                  rfl
                 refine pure_ (i := 17) (N := some 84) (v := undef) (a' := ?_) #[Y,Y,Y,Y,Y,Y,Y,Y,Y,Y,Y,Y,Y,Y,Y,Y,Y,Y,Z,Z,Z,Z,Z,Z] rfl rfl (any_of HT_.out (by kernel_rfl)) (fun _ _ _ h => h) (Or.inr ⟨by rfl, rfl⟩) ?_ ?_
                 rotate_left
                 ·simp only [Act.put, xi, xj, xk, i64_w, i32_w]
                  rfl
                 refine pure_ (i := 18) (N := some 85) (v := undef) (a' := ?_) #[Y,Y,Y,Y,Y,Y,Y,Y,Y,Y,Y,Y,Y,Y,Y,Y,Y,Y,Y,Z,Z,Z,Z,Z] rfl rfl (any_of HT_.out (by kernel_rfl)) (fun _ _ _ h => h) (Or.inr ⟨by rfl, rfl⟩) ?_ ?_
                 rotate_left
                 ·simp only [Act.put, xi, xj, xk, i64_w, i32_w]
                  rfl
                 refine pure_ (i := 19) (N := some 86) (v := undef) (a' := ?_) #[Y,Y,Y,Y,Y,Y,Y,Y,Y,Y,Y,Y,Y,Y,Y,Y,Y,Y,Y,Y,Z,Z,Z,Z] rfl rfl (any_of HT_.out (by kernel_rfl)) (fun _ _ _ h => h) (Or.inr ⟨by rfl, rfl⟩) ?_ ?_
                 rotate_left
                 ·simp only [Act.put, xi, xj, xk, i64_w, i32_w]
                  rfl
                 refine pure_ (i := 20) (N := some 87) (v := undef) (a' := ?_) #[Y,Y,Y,Y,Y,Y,Y,Y,Y,Y,Y,Y,Y,Y,Y,Y,Y,Y,Y,Y,Y,Z,Z,Z] rfl rfl (any_of HT_.out (by kernel_rfl)) (fun _ _ _ h => h) (Or.inr ⟨by rfl, rfl⟩) ?_ ?_
                 rotate_left
                 ·simp only [Act.put, xi, xj, xk, i64_w, i32_w]
                  rfl
                 refine pure_ (i := 21) (N := some 88) (v := undef) (a' := ?_) #[Y,Y,Y,Y,Y,Y,Y,Y,Y,Y,Y,Y,Y,Y,Y,Y,Y,Y,Y,Y,Y,Y,Z,Z] rfl rfl (any_of HT_.out (by kernel_rfl)) (fun _ _ _ h => h) (Or.inr ⟨by rfl, rfl⟩) ?_ ?_
                 rotate_left
                 ·simp only [Act.put, xi, xj, xk, i64_w, i32_w]
                  rfl
                 refine pure_ (i := 22) (N := some 89) (v := undef) (a' := ?_) #[Y,Y,Y,Y,Y,Y,Y,Y,Y,Y,Y,Y,Y,Y,Y,Y,Y,Y,Y,Y,Y,Y,Y,Z] rfl rfl (any_of HT_.out (by kernel_rfl)) (fun _ _ _ h => h) (Or.inr ⟨by rfl, rfl⟩) ?_ ?_
                 rotate_left
                 ·simp only [Act.put, xi, xj, xk, i64_w, i32_w]
                  rfl
                 refine pure_ (i := 23) (N := some 90) (v := ?_) (a' := ?_) #[Y,Y,Y,Y,Y,Y,Y,Y,Y,Y,Y,Y,Y,Y,Y,Y,Y,Y,Y,Y,Y,Y,Y,Y] rfl rfl (any_of HT_.out (by kernel_rfl)) (fun _ _ _ h => h) (Or.inl ⟨by rfl, ?_⟩) ?_ ?_
                 rotate_left
                 ·intro w'
                  go_simp
                  with_reducible rfl
                 rotate_left
                 ·simp only [Act.put, xi, xj, xk, i64_w, i32_w]
                  rfl
                 refine done_ (done_of HT_.out (by kernel_rfl)) ?_
                 try go_wp2
                 go_meet
                 case rel => exact ⟨_, (true), (by first | rfl | (simp; done) | (simp [*]; done)), H', ⟨by have := HJ1.out; have := HK2.out; have := HK3.out; first | omega | exact Nat.le_refl _⟩, ⟨by (with_reducible repeat (first | refine xq ?_ _ | refine xr ?_ | refine xo ?_ _)); exact BK879.out⟩, ⟨by (with_reducible repeat (first | refine xq ?_ _ | refine xr ?_ | refine xo ?_ _)); exact BK886.out⟩, ⟨by repeat (first | (with_reducible first | exact HB.out | apply xa | apply xn | apply xd | refine xt ?_ GE879.out | refine xt ?_ GE886.out) | exact HB.out)⟩⟩
               ·rw [if_neg c46] at H
                exact absurd H (by simp)
              ·rw [if_neg c45] at H
               exact absurd H (by simp)
            case rest =>
             clear HC39
             try clear c1
             try clear p2
             try clear c4
             try clear p6
             try clear c8
             try clear p8
             try clear q8
             try clear hx8
             try clear c12
             try clear c45
             try clear c46
             try clear c48
             try clear c49
             try clear c49b0
             try clear c49b1
             try clear hx887_0
             try clear hx887_1
             try clear hx887_2
             try clear p887
             try clear q887
             obtain ⟨kq, x90_38, rfl, HA, HJ38, BK879, BK886, HB⟩ := hcut
             cases kq with
             | zero => exact absurd HA.out (by simp [impl_GoodSnap.j3])
             | succ kj38 =>
              have H := HA.out
              clear HA
              simp only [impl_GoodSnap.j3] at H
              by_cases c61 : x90_38 = true
              ·subst c61
               have H1 : (some false) = some r := by first | (with_reducible rfl) | (rw [if_pos rfl] at H; exact H)
               clear H
               have H := H1
               clear H1
               obtain rfl := Option.some.inj H
               go_wp2
               go_ret
               exact ⟨by first | rfl | (simp [errW_none, errW_some] <;> rfl) | (simp [*, errW_none, errW_some] <;> rfl), by repeat (first | (with_reducible first | exact HB.out | apply xa | apply xn | apply xd | refine xt ?_ GE879.out | refine xt ?_ GE886.out) | exact HB.out)⟩
              ·replace c61 := Bool.eq_false_iff.mpr c61
               subst c61
               have H1 : ((impl_sumOf.f kj38 ((rd_T140 l0_1 x62_3).f0)).bind fun t890 => ((impl_sumOf.f kj38 ((rd_T140 l0_1 x62_3).f1)).bind fun t891 => (impl_GoodSnap.l1 kj38 (l0_0.length : Int) (wrap64 (x4_3 + (wrap64 (t890 + t891)))) l0_1 (l0_1.length : Int) (wrap64 (x62_3 + 1)) l0_0 l0_1))) = some r := by first | (with_reducible rfl) | (rw [if_neg (show ¬ (false = true) by decide)] at H; exact H)
               clear H
               have H := H1
               clear H1
               replace H := Option.bind_eq_some_iff.mp H
               obtain ⟨t890, A620, H⟩ := H
               replace H : ((impl_sumOf.f kj38 ((rd_T140 l0_1 x62_3).f1)).bind fun t891 => (impl_GoodSnap.l1 kj38 (l0_0.length : Int) (wrap64 (x4_3 + (wrap64 (t890 + t891)))) l0_1 (l0_1.length : Int) (wrap64 (x62_3 + 1)) l0_0 l0_1)) = some r := H
               have A62 := xm A620
               clear A620
               replace H := Option.bind_eq_some_iff.mp H
               obtain ⟨t891, A630, H⟩ := H
               replace H : (impl_GoodSnap.l1 kj38 (l0_0.length : Int) (wrap64 (x4_3 + (wrap64 (t890 + t891)))) l0_1 (l0_1.length : Int) (wrap64 (x62_3 + 1)) l0_0 l0_1) = some r := H
               have A63 := xm A630
               clear A630
               have H' := xm H
               clear H
               try go_wp2
               have n0_ := xm (xr BK879.out)
               have n1_ := xm (xr BK886.out)
               have n2_ := xm (xd HB.out)
               clear BK879
               clear BK886
               clear HB
               have BK879 := n0_
               have BK886 := n1_
               have HB := n2_
               clear n0_ n1_ n2_
               refine start_ (n := 10) (S := fun w' => w'.cell? ⟨gb886, 0, none⟩ = some (.slice A885_0 ((rd_T140 l0_1 x62_3).f0).length c885_0) ∧ w'.cell? ⟨gb886, 1, none⟩ = some (.slice A885_1 ((rd_T140 l0_1 x62_3).f1).length c885_1) ∧ w'.cell? ⟨gb886, 2, none⟩ = some (.bool ((rd_T140 l0_1 x62_3).f2))) (ds := []) #[Z,Z,Z,Z,Z,Z,Z,Z,Z,Z] (by kernel_rfl) rfl rfl ⟨(xc BK886.out 0).trans rfl, (xc BK886.out 1).trans rfl, (xc BK886.out 2).trans rfl⟩ (fun hHeld => ?_); refine with_tabW impl_GoodSnap.tab17 impl_GoodSnap.bits17 (fun HT_ HW_ => ?_)
               generalize wc.drew = w64 at BK879 BK886 HB hHeld ⊢
               refine pure_ (i := 0) (N := some 91) (v := ?_) (a' := ?_) #[Y,Z,Z,Z,Z,Z,Z,Z,Z,Z] rfl rfl (any_of HT_.out (by kernel_rfl)) (fun _ _ _ h => h) (Or.inl ⟨by rfl, ?_⟩) ?_ ?_
               rotate_left
               ·intro w'
                go_simp
                with_reducible rfl
               rotate_left
               ·simp only [Act.put, xi, xj, xk, i64_w, i32_w]
                rfl
               refine pure_ (i := 1) (N := some 92) (v := ?_) (a' := ?_) #[Y,Y,Z,Z,Z,Z,Z,Z,Z,Z] rfl rfl (any_of HT_.out (by kernel_rfl)) (fun _ _ _ h => h) (Or.inl ⟨by rfl, ?_⟩) ?_ ?_
               rotate_left
               ·intro w'
                go_simp
                with_reducible rfl
               rotate_left
               ·simp only [Act.put, xi, xj, xk, i64_w, i32_w]
                rfl
               refine pure_ (i := 4) (N := some 95) (v := ?_) (a' := ?_) #[Y,Y,Z,Z,Y,Z,Z,Z,Z,Z] rfl rfl (any_of HT_.out (by kernel_rfl)) (fun _ _ _ h => h) (Or.inl ⟨by rfl, ?_⟩) ?_ ?_
               rotate_left
               ·intro w'
                go_simp
                with_reducible rfl
               rotate_left
               ·simp only [Act.put, xi, xj, xk, i64_w, i32_w]
                rfl
               refine take_ (i := 2) (N := some 93) (v := ?_) (a' := ?_) #[Y,Y,Y,Z,Y,Z,Z,Z,Z,Z] rfl rfl (take_ofW HT_.out HW_.out (by kernel_rfl)) (fun _ _ _ h => h) (Or.inl ⟨by rfl, ?_⟩) hHeld ?_ ?_
               rotate_left
               ·rintro w' ⟨s0, s1, s2⟩
                go_simp
                with_reducible rfl
               rotate_left
               ·simp only [Act.put, xi, xj, xk, i64_w, i32_w]
                rfl
               refine take_ (i := 5) (N := some 96) (v := ?_) (a' := ?_) #[Y,Y,Y,Z,Y,Y,Z,Z,Z,Z] rfl rfl (take_ofW HT_.out HW_.out (by kernel_rfl)) (fun _ _ _ h => h) (Or.inl ⟨by rfl, ?_⟩) hHeld ?_ ?_
               rotate_left
               ·rintro w' ⟨s0, s1, s2⟩
                go_simp
                with_reducible rfl
               rotate_left
               ·simp only [Act.put, xi, xj, xk, i64_w, i32_w]
                rfl
               refine one_ (i := 3) (N := some 94) #[Y,Y,Y,Y,Y,Y,Z,Z,Z,Z] rfl rfl (one_of HT_.out (by kernel_rfl)) (by decide) (fun K hK => ?_)
               refine goes_ Try.func123 (by kernel_rfl) rfl #[.slice A885_0 ((rd_T140 l0_1 x62_3).f0).length c885_0] (by rfl) rfl rfl (by (try simp only [List.map_toArray, List.map_cons, List.map_nil]); first | done | rfl | (simp only [List.length_drop, List.length_take]; rfl)) ?_
               with_reducible refine (impl_sumOf.calls kj38 _ _ ((rd_T140 l0_1 x62_3).f0) t890 _ ?side1 ?side2 A62.out).mono ?_
               (case side1 => repeat (first | exact (Kd.C_below HR885_0.out HB.out) | (with_reducible refine Kd.C_alloc ?_ _) | (with_reducible refine Kd.C_drewN ?_ _) | (with_reducible refine Kd.C_drew ?_)))
               (case side2 => exact HC885_0.out)
               rintro e w' ⟨rfl, ⟨nd, rfl⟩⟩
               refine ⟨_, rfl, ?_⟩
               refine hK.out _ _ ⟨(xc BK886.out 0).trans rfl, (xc BK886.out 1).trans rfl, (xc BK886.out 2).trans rfl⟩ (fun hHeld => ?_)
               clear hK K
               refine norm_ (a' := ?_) ?_ ?_
               rotate_left
               ·show Act.put _ (some 94) _ = _
                simp only [Act.put, xi, xj, xk, i64_w, i32_w]
                rfl
               refine one_ (i := 6) (N := some 97) #[Y,Y,Y,Y,Y,Y,Y,Z,Z,Z] rfl rfl (one_of HT_.out (by kernel_rfl)) (by decide) (fun K hK => ?_)
               refine goes_ Try.func123 (by kernel_rfl) rfl #[.slice A885_1 ((rd_T140 l0_1 x62_3).f1).length c885_1] (by rfl) rfl rfl (by (try simp only [List.map_toArray, List.map_cons, List.map_nil]); first | done | rfl | (simp only [List.length_drop, List.length_take]; rfl)) ?_
               with_reducible refine (impl_sumOf.calls kj38 _ _ ((rd_T140 l0_1 x62_3).f1) t891 _ ?side1 ?side2 A63.out).mono ?_
               (case side1 => repeat (first | exact (Kd.C_below HR885_1.out (by repeat (first | (with_reducible first | exact HB.out | apply xa | apply xn | apply xd | refine xt ?_ GE879.out | refine xt ?_ GE886.out) | exact HB.out))) | (with_reducible refine Kd.C_alloc ?_ _) | (with_reducible refine Kd.C_drewN ?_ _) | (with_reducible refine Kd.C_drew ?_)))
               (case side2 => exact HC885_1.out)
               rintro e w' ⟨rfl, ⟨nd, rfl⟩⟩
               refine ⟨_, rfl, ?_⟩
               refine hK.out _ _ ⟨(xc BK886.out 0).trans rfl, (xc BK886.out 1).trans rfl, (xc BK886.out 2).trans rfl⟩ (fun hHeld => ?_)
               clear hK K
               refine norm_ (a' := ?_) ?_ ?_
               rotate_left
               ·show Act.put _ (some 97) _ = _
                simp only [Act.put, xi, xj, xk, i64_w, i32_w]
                rfl
               refine pure_ (i := 7) (N := some 98) (v := ?_) (a' := ?_) #[Y,Y,Y,Y,Y,Y,Y,Y,Z,Z] rfl rfl (any_of HT_.out (by kernel_rfl)) (fun _ _ _ h => h) (Or.inl ⟨by rfl, ?_⟩) ?_ ?_
               rotate_left
               ·intro w'
                go_simp
                with_reducible rfl
               rotate_left
               ·simp only [Act.put, xi, xj, xk, i64_w, i32_w]
                rfl
               refine pure_ (i := 8) (N := some 99) (v := ?_) (a' := ?_) #[Y,Y,Y,Y,Y,Y,Y,Y,Y,Z] rfl rfl (any_of HT_.out (by kernel_rfl)) (fun _ _ _ h => h) (Or.inl ⟨by rfl, ?_⟩) ?_ ?_
               rotate_left
               ·intro w'
                go_simp
                with_reducible rfl
               rotate_left
               ·simp only [Act.put, xi, xj, xk, i64_w, i32_w]
                rfl
               refine pure_ (i := 9) (N := some 4) (v := ?_) (a' := ?_) #[Y,Y,Y,Y,Y,Y,Y,Y,Y,Y] rfl rfl (any_of HT_.out (by kernel_rfl)) (fun _ _ _ h => h) (Or.inl ⟨by rfl, ?_⟩) ?_ ?_
               rotate_left
               ·intro w'
                go_simp
                with_reducible rfl
               rotate_left
               ·simp only [Act.put, xi, xj, xk, i64_w, i32_w]
                rfl
               refine done_ (done_of HT_.out (by kernel_rfl)) ?_
               try go_wp2
               go_roundg kj38
               case measure => have := HJ1.out; have := HK2.out; have := HK3.out; have := HJ38.out; omega
               case rel => exact ⟨(wrap64 (x4_3 + (wrap64 (t890 + t891)))), (wrap64 (x62_3 + 1)), (by first | rfl | (simp; done) | (simp [*]; done)), (by first | rfl | (simp; done) | (simp [*]; done)), H', ⟨by have := HJ1.out; have := HK2.out; have := HK3.out; have := HJ38.out; omega⟩, ⟨by (with_reducible repeat (first | refine xq ?_ _ | refine xr ?_ | refine xo ?_ _)); exact BK879.out⟩, ⟨by repeat (first | (with_reducible first | exact HB.out | apply xa | apply xn | apply xd | refine xt ?_ GE879.out | refine xt ?_ GE886.out) | exact HB.out)⟩⟩
           ·rw [if_neg c38] at H
            exact absurd H (by simp)
          ·rw [if_neg c37] at H
           exact absurd H (by simp)
         ·rw [if_neg c36] at H
          have c36b0 : decide (x62_3 < (l0_1.length : Int)) = false := decide_eq_false c36
          clear c36
          obtain rfl := Option.some.inj H
          go_wp2
          go_ret
          exact ⟨by first | rfl | (simp [errW_none, errW_some] <;> rfl) | (simp [*, errW_none, errW_some] <;> rfl), by repeat (first | (with_reducible first | exact HB.out | apply xa | apply xn | apply xd | refine xt ?_ GE879.out) | exact HB.out)⟩

end Go.Proofs.Ytpbpglbldgpckaa.G
