/- Written by a program of this claim's own, out of the translation: functions of the program as plain functions, and that the calls answer as these. No conditions. -/
import Derived.Test.YtpbpglbldgpckaaG0
import Derived.Test.YtpbpglbldgpckaaG6
import Derived.Test.YtpbpglbldgpckaaG37
namespace Go.Proofs.Ytpbpglbldgpckaa.G
open Go.RowKit Go.Proofs.Ytpbpglbldgpckaa.X Go.Proofs.YtpbpglbldgpckaaW.PrintWords Go.Proofs.YtpbpglbldgpckaaW.PrintLast Go.Proofs.YtpbpglbldgpckaaW.PrintMore
attribute [local go_sem] max2_int min2_int max_two min_two max_three min_three max_four min_four   -- for this text's walks alone
set_option linter.unusedVariables false
set_option linter.unusedSimpArgs false

/-! ### spec_GoodSink: function 46 -/
mutual
def spec_GoodSink.j0 : Nat → Bool → List Int → Int → List Int → List (S130) → List Int → Int → Int → Option (Bool)
 | 0, _, _, _, _, _, _, _, _ => none
 | k + 1, x39, x489000, x489001, x489002, x489003, x489004, x489005, x489006 => if x39 = true then (some false) else (spec_GoodSink.l0 k x489006 x489005 x489003 (x489003.length : Int) 0 x489000 x489001 x489002 x489003 x489004 x489005 x489006)
def spec_GoodSink.l0 : Nat → Int → Int → List (S130) → Int → Int → List Int → Int → List Int → List (S130) → List Int → Int → Int → Option (Bool)
 | 0, _, _, _, _, _, _, _, _, _, _, _, _ => none
 | k + 1, x3, x4, x45, x46, x47, x489000, x489001, x489002, x489003, x489004, x489005, x489006 => if x47 < x46 then (if 0 ≤ x47 then (if x47 < (x45.length : Int) then (if ((rd_T130 x45 x47).f0) = (wrap64 (x4 + 1)) then ((spec_l1In.f ((rd_T130 x45 x47).f1) x3 x489001).bind fun t494 => (if t494 = true then (if 0 ≤ x3 then (if x3 ≤ ((rd_T130 x45 x47).f1) then (if ((rd_T130 x45 x47).f1) ≤ (x489000.length : Int) then ((spec_l16Same.f k ((rd_T130 x45 x47).f2) ((x489000.take (((rd_T130 x45 x47).f1) : Int).toNat).drop (x3 : Int).toNat)).bind fun t496 => (if t496 = true then (spec_GoodSink.j2 k x45 x46 x47 (decide (((rd_T130 x45 x47).f0) > 1000)) x489000 x489001 x489002 x489003 x489004 x489005 x489006 ((rd_T130 x45 x47).f0) ((rd_T130 x45 x47).f1) ((rd_T130 x45 x47).f2)) else (spec_GoodSink.j2 k x45 x46 x47 true x489000 x489001 x489002 x489003 x489004 x489005 x489006 ((rd_T130 x45 x47).f0) ((rd_T130 x45 x47).f1) ((rd_T130 x45 x47).f2)))) else (none)) else (none)) else (none)) else (spec_GoodSink.j2 k x45 x46 x47 true x489000 x489001 x489002 x489003 x489004 x489005 x489006 ((rd_T130 x45 x47).f0) ((rd_T130 x45 x47).f1) ((rd_T130 x45 x47).f2)))) else (spec_GoodSink.j2 k x45 x46 x47 true x489000 x489001 x489002 x489003 x489004 x489005 x489006 ((rd_T130 x45 x47).f0) ((rd_T130 x45 x47).f1) ((rd_T130 x45 x47).f2))) else (none)) else (none)) else (if 0 ≤ x3 then (if x3 ≤ x489001 then (if x489001 ≤ (x489000.length : Int) then ((spec_l16Same.f k x489002 ((x489000.take (x489001 : Int).toNat).drop (x3 : Int).toNat)).bind fun t498 => (if t498 = true then (if 0 ≤ x489006 then (if x489006 ≤ (x489000.length : Int) then ((spec_l16Same.f k x489004 (x489000.take (x489006 : Int).toNat)).bind fun t500 => (some t500)) else (none)) else (none)) else (some false))) else (none)) else (none)) else (none))
def spec_GoodSink.j2 : Nat → List (S130) → Int → Int → Bool → List Int → Int → List Int → List (S130) → List Int → Int → Int → Int → Int → List Int → Option (Bool)
 | 0, _, _, _, _, _, _, _, _, _, _, _, _, _, _ => none
 | k + 1, x45, x46, x47, x81, x489000, x489001, x489002, x489003, x489004, x489005, x489006, x494000, x494001, x494002 => if x81 = true then (some false) else (spec_GoodSink.l0 k x494001 x494000 x45 x46 (wrap64 (x47 + 1)) x489000 x489001 x489002 x489003 x489004 x489005 x489006)
end
def spec_GoodSink.f (k : Nat) (l0_0 : List Int) (a0_1 : Int) (l0_2 : List Int) (l0_3 : List (S130)) (l0_4 : List Int) (a0_5 : Int) (a0_6 : Int) : Option (Bool) := if (l0_0.length : Int) > 30 then (spec_GoodSink.j0 k true l0_0 a0_1 l0_2 l0_3 l0_4 a0_5 a0_6) else ((spec_l1In.f a0_1 0 (l0_0.length : Int)).bind fun t489 => (if t489 = true then ((spec_l1In.f a0_6 0 a0_1).bind fun t490 => (if t490 = true then ((spec_l1In.f a0_5 0 1000).bind fun t491 => (if t491 = true then (spec_GoodSink.j0 k (decide ((l0_3.length : Int) > 4)) l0_0 a0_1 l0_2 l0_3 l0_4 a0_5 a0_6) else (spec_GoodSink.j0 k true l0_0 a0_1 l0_2 l0_3 l0_4 a0_5 a0_6))) else (spec_GoodSink.j0 k true l0_0 a0_1 l0_2 l0_3 l0_4 a0_5 a0_6))) else (spec_GoodSink.j0 k true l0_0 a0_1 l0_2 l0_3 l0_4 a0_5 a0_6)))
theorem spec_GoodSink.mono_l : ∀ k, (∀ y0 y1 y2 y3 y4 y5 y6 y7, LeO (spec_GoodSink.j0 k y0 y1 y2 y3 y4 y5 y6 y7) (spec_GoodSink.j0 (k + 1) y0 y1 y2 y3 y4 y5 y6 y7)) ∧ (∀ y0 y1 y2 y3 y4 y5 y6 y7 y8 y9 y10 y11, LeO (spec_GoodSink.l0 k y0 y1 y2 y3 y4 y5 y6 y7 y8 y9 y10 y11) (spec_GoodSink.l0 (k + 1) y0 y1 y2 y3 y4 y5 y6 y7 y8 y9 y10 y11)) ∧ (∀ y0 y1 y2 y3 y4 y5 y6 y7 y8 y9 y10 y11 y12 y13, LeO (spec_GoodSink.j2 k y0 y1 y2 y3 y4 y5 y6 y7 y8 y9 y10 y11 y12 y13) (spec_GoodSink.j2 (k + 1) y0 y1 y2 y3 y4 y5 y6 y7 y8 y9 y10 y11 y12 y13))
 | 0 => ⟨fun _ _ _ _ _ _ _ _ r h => by simp [spec_GoodSink.j0] at h, fun _ _ _ _ _ _ _ _ _ _ _ _ r h => by simp [spec_GoodSink.l0] at h, fun _ _ _ _ _ _ _ _ _ _ _ _ _ _ r h => by simp [spec_GoodSink.j2] at h⟩
 | k + 1 => by
  obtain ⟨ih0, ih1, ih2⟩ := spec_GoodSink.mono_l k
  refine ⟨?_, ?_, ?_⟩
  ·intro y0 y1 y2 y3 y4 y5 y6 y7
   unfold spec_GoodSink.j0
   repeat' first
   | (with_reducible exact ih0 _ _ _ _ _ _ _ _)
   | (with_reducible exact ih1 _ _ _ _ _ _ _ _ _ _ _ _)
   | (with_reducible exact ih2 _ _ _ _ _ _ _ _ _ _ _ _ _ _)
   | (with_reducible exact spec_l16Same.mono _ _ _)
   | (with_reducible exact LeO.refl _)
   | (with_reducible exact LeO.none _)
   | (with_reducible refine LeO.ite ?_ ?_)
   | (with_reducible refine LeO.bind ?_ (fun _ => ?_))
   | exact ih0 _ _ _ _ _ _ _ _
   | exact ih1 _ _ _ _ _ _ _ _ _ _ _ _
   | exact ih2 _ _ _ _ _ _ _ _ _ _ _ _ _ _
   | exact spec_l16Same.mono _ _ _
   | exact LeO.none _
   | refine LeO.ite ?_ ?_
   | refine LeO.bind ?_ (fun _ => ?_)
  ·intro y0 y1 y2 y3 y4 y5 y6 y7 y8 y9 y10 y11
   unfold spec_GoodSink.l0
   repeat' first
   | (with_reducible exact ih0 _ _ _ _ _ _ _ _)
   | (with_reducible exact ih1 _ _ _ _ _ _ _ _ _ _ _ _)
   | (with_reducible exact ih2 _ _ _ _ _ _ _ _ _ _ _ _ _ _)
   | (with_reducible exact spec_l16Same.mono _ _ _)
   | (with_reducible exact LeO.refl _)
   | (with_reducible exact LeO.none _)
   | (with_reducible refine LeO.ite ?_ ?_)
   | (with_reducible refine LeO.bind ?_ (fun _ => ?_))
   | exact ih0 _ _ _ _ _ _ _ _
   | exact ih1 _ _ _ _ _ _ _ _ _ _ _ _
   | exact ih2 _ _ _ _ _ _ _ _ _ _ _ _ _ _
   | exact spec_l16Same.mono _ _ _
   | exact LeO.none _
   | refine LeO.ite ?_ ?_
   | refine LeO.bind ?_ (fun _ => ?_)
  ·intro y0 y1 y2 y3 y4 y5 y6 y7 y8 y9 y10 y11 y12 y13
   unfold spec_GoodSink.j2
   repeat' first
   | (with_reducible exact ih0 _ _ _ _ _ _ _ _)
   | (with_reducible exact ih1 _ _ _ _ _ _ _ _ _ _ _ _)
   | (with_reducible exact ih2 _ _ _ _ _ _ _ _ _ _ _ _ _ _)
   | (with_reducible exact spec_l16Same.mono _ _ _)
   | (with_reducible exact LeO.refl _)
   | (with_reducible exact LeO.none _)
   | (with_reducible refine LeO.ite ?_ ?_)
   | (with_reducible refine LeO.bind ?_ (fun _ => ?_))
   | exact ih0 _ _ _ _ _ _ _ _
   | exact ih1 _ _ _ _ _ _ _ _ _ _ _ _
   | exact ih2 _ _ _ _ _ _ _ _ _ _ _ _ _ _
   | exact spec_l16Same.mono _ _ _
   | exact LeO.none _
   | refine LeO.ite ?_ ?_
   | refine LeO.bind ?_ (fun _ => ?_)
theorem spec_GoodSink.mono : ∀ a0 a1 a2 a3 a4 a5 a6 k, LeO (spec_GoodSink.f k a0 a1 a2 a3 a4 a5 a6) (spec_GoodSink.f (k + 1) a0 a1 a2 a3 a4 a5 a6) := by
 intro a0 a1 a2 a3 a4 a5 a6 k
 obtain ⟨ih0, ih1, ih2⟩ := spec_GoodSink.mono_l k
 unfold spec_GoodSink.f
 repeat' first
   | (with_reducible exact ih0 _ _ _ _ _ _ _ _)
   | (with_reducible exact ih1 _ _ _ _ _ _ _ _ _ _ _ _)
   | (with_reducible exact ih2 _ _ _ _ _ _ _ _ _ _ _ _ _ _)
   | (with_reducible exact spec_l16Same.mono _ _ _)
   | (with_reducible exact LeO.refl _)
   | (with_reducible exact LeO.none _)
   | (with_reducible refine LeO.ite ?_ ?_)
   | (with_reducible refine LeO.bind ?_ (fun _ => ?_))
   | exact ih0 _ _ _ _ _ _ _ _
   | exact ih1 _ _ _ _ _ _ _ _ _ _ _ _
   | exact ih2 _ _ _ _ _ _ _ _ _ _ _ _ _ _
   | exact spec_l16Same.mono _ _ _
   | exact LeO.none _
   | refine LeO.ite ?_ ?_
   | refine LeO.bind ?_ (fun _ => ?_)
def spec_GoodSink.T8 : Bool × List (List Nat × List Nat) := (true, [([], []), ([0], [0]), ([], []), ([2], [2]), ([1, 3], [1, 3]), ([4], [4]), ([5], [5]), ([6, 5], [5, 6]), ([5], [5]), ([5], [5]), ([9, 5], [5, 9]), ([7, 8, 10, 5, 5], [5, 7, 8, 10]), ([11, 5], [5, 11]), ([5, 12], [5, 12]), ([13, 11], [13]), ([14], [14]), ([15, 14], [14, 15]), ([14], [14]), ([17, 14], [14, 17]), ([14], [14]), ([14], [14]), ([20, 14], [14, 20]), ([18, 19, 21, 14], [14, 18, 19, 21]), ([16, 22, 14, 14], [14, 16, 22]), ([23, 14], [14, 23]), ([14, 24], [14, 24]), ([25, 23], [25]), ([26], [26]), ([27, 26], [26, 27]), ([28, 26], [26, 28]), ([26, 29], [26, 29])])
def spec_GoodSink.B8 : List Nat := [0, 1, 0, 4, 15, 31, 63, 127, 63, 63, 575, 2047, 4095, 8191, 16383, 32767, 65535, 32767, 163839, 32767, 32767, 1081343, 4095999, 8388607, 16777215, 33554431, 67108863, 134217727, 268435455, 536870911, 1073741823]
theorem spec_GoodSink.tab8 : rtab .any (opsOf Try.f46 8) = spec_GoodSink.T8 := by kernel_rfl
theorem spec_GoodSink.bits8 : waitsOk spec_GoodSink.T8.2 spec_GoodSink.B8 = true := by kernel_rfl
def spec_GoodSink.T13 : Bool × List (List Nat × List Nat) := (true, [([], []), ([0], [0]), ([], []), ([2], [2]), ([], []), ([], []), ([5], [5]), ([3, 4, 6], [3, 4, 6]), ([1, 7], [1, 7]), ([8, 8], [8]), ([9], [9]), ([10, 9], [9, 10]), ([9], [9]), ([12, 9], [9, 12]), ([9], [9]), ([14, 9], [9, 14]), ([13, 15, 9], [9, 13, 15]), ([11, 16, 9, 9], [9, 11, 16]), ([9, 17], [9, 17]), ([18, 17, 0, 1, 2, 3, 4, 5, 6, 7, 8, 9, 10, 11, 12, 13, 14, 15, 16, 17, 18], [18])])
def spec_GoodSink.B13 : List Nat := [0, 1, 0, 4, 0, 0, 32, 124, 255, 511, 1023, 2047, 1023, 5119, 1023, 17407, 62463, 131071, 262143, 524287]
theorem spec_GoodSink.tab13 : rtab .any (opsOf Try.f46 13) = spec_GoodSink.T13 := by kernel_rfl
theorem spec_GoodSink.bits13 : waitsOk spec_GoodSink.T13.2 spec_GoodSink.B13 = true := by kernel_rfl
set_option maxHeartbeats 8000000 in
set_option maxRecDepth 100000 in
theorem spec_GoodSink.calls (k : Nat) (A0_0 : Option Addr) (c0_0 : Nat) (l0_0 : List Int) (a0_1 : Int) (A0_2 : Option Addr) (c0_2 : Nat) (l0_2 : List Int) (A0_3 : Option Addr) (c0_3 : Nat) (l0_3 : List (S130)) (A0_4 : Option Addr) (c0_4 : Nat) (l0_4 : List Int) (a0_5 : Int) (a0_6 : Int) (r : Bool) (w : World) (hr0_0 : Kd.C (Kd.int .i64) w A0_0 l0_0.length l0_0) (hc0_0 : l0_0.length ≤ c0_0) (hr0_2 : Kd.C (Kd.int .i64) w A0_2 l0_2.length l0_2) (hc0_2 : l0_2.length ≤ c0_2) (hr0_3 : Kd.C k130 w A0_3 l0_3.length l0_3) (hc0_3 : l0_3.length ≤ c0_3) (hr0_4 : Kd.C (Kd.int .i64) w A0_4 l0_4.length l0_4) (hc0_4 : l0_4.length ≤ c0_4) (h : spec_GoodSink.f k l0_0 a0_1 l0_2 l0_3 l0_4 a0_5 a0_6 = some r) :
  Calls Try.prog 46 #[.agg #[.slice A0_0 l0_0.length c0_0, .int .i64 a0_1, .slice A0_2 l0_2.length c0_2, .slice A0_3 l0_3.length c0_3, .slice A0_4 l0_4.length c0_4, .int .i64 a0_5, .int .i64 a0_6]] w fun e w' => e = .returned (.bool r) ∧ Below w.heap.size w w' := by
 have hu34 := Try.underlying34
 have hu130 := Try.underlying130
 have HR0_0 := xm hr0_0
 have HC0_0 := xm hc0_0
 clear hr0_0 hc0_0
 have HR0_2 := xm hr0_2
 have HC0_2 := xm hc0_2
 clear hr0_2 hc0_2
 have HR0_3 := xm hr0_3
 have HC0_3 := xm hc0_3
 clear hr0_3 hc0_3
 have HR0_4 := xm hr0_4
 have HC0_4 := xm hc0_4
 clear hr0_4 hc0_4
 have HB := xm (Below.refl w.heap.size w)
 have H : (if (l0_0.length : Int) > 30 then (spec_GoodSink.j0 k true l0_0 a0_1 l0_2 l0_3 l0_4 a0_5 a0_6) else ((spec_l1In.f a0_1 0 (l0_0.length : Int)).bind fun t489 => (if t489 = true then ((spec_l1In.f a0_6 0 a0_1).bind fun t490 => (if t490 = true then ((spec_l1In.f a0_5 0 1000).bind fun t491 => (if t491 = true then (spec_GoodSink.j0 k (decide ((l0_3.length : Int) > 4)) l0_0 a0_1 l0_2 l0_3 l0_4 a0_5 a0_6) else (spec_GoodSink.j0 k true l0_0 a0_1 l0_2 l0_3 l0_4 a0_5 a0_6))) else (spec_GoodSink.j0 k true l0_0 a0_1 l0_2 l0_3 l0_4 a0_5 a0_6))) else (spec_GoodSink.j0 k true l0_0 a0_1 l0_2 l0_3 l0_4 a0_5 a0_6)))) = some r := h
 clear h
 have HC2 := xm H
 clear H
 go_enter Try.func46, Try.ntmps46
 go_upto_region 1 with (first | ((with_reducible refine gate_dst (N := 1) rfl ?_); (try (refine gate_guard (by rfl) ?_; dsimp only)); refine box_event ?hg (N := 1) ?hd (cs := #[.slice A0_0 l0_0.length c0_0, .int .i64 a0_1, .slice A0_2 l0_2.length c0_2, .slice A0_3 l0_3.length c0_3, .slice A0_4 l0_4.length c0_4, .int .i64 a0_5, .int .i64 a0_6]) (t := 34) ?hr ?_; (case hd => rfl); (case hg => rfl); (case hr => first | (go_simp; done) | (go_simp; rfl)); intro gb488 hg w3 hbox hb; have n0_ := xm (below_step (by repeat (first | (with_reducible first | exact HB.out | apply xa | apply xn | apply xd) | exact HB.out)) hb); have n1_ := xm (hbox); have n2_ := xm ((by rw [hg]; exact (xz (by repeat (first | (with_reducible first | exact HB.out | apply xa | apply xn | apply xd) | exact HB.out))) : w.heap.size ≤ gb488)); have n3_ := xm ((by rw [hg]; exact (xz (by repeat (first | (with_reducible first | exact HB.out | apply xa | apply xn | apply xd) | exact HB.out))) : w.heap.size ≤ gb488)); clear HB; have HB := n0_; have BK488 := n1_; have GW488 := n2_; have GE488 := n3_; clear n0_ n1_ n2_ n3_; clear hb hbox hg))
 (try simp only [Act.put, xi, xj, xk])
 go_cut [39] (fun v39 wc => ∃ (kq : Nat) (x39_1 : Bool), v39 = .bool x39_1 ∧ Aside0 (spec_GoodSink.j0 kq x39_1 l0_0 a0_1 l0_2 l0_3 l0_4 a0_5 a0_6 = some r) ∧ Aside0 (kq ≤ k) ∧ Aside0 (wc.heap[gb488]? = some (.cells #[(.slice A0_0 l0_0.length c0_0), .int .i64 a0_1, (.slice A0_2 l0_2.length c0_2), (.slice A0_3 l0_3.length c0_3), (.slice A0_4 l0_4.length c0_4), .int .i64 a0_5, .int .i64 a0_6] 34 (0, 0))) ∧ Aside0 (Below w.heap.size w wc))
 case first =>
  have H := HC2.out
  clear HC2
  by_cases c4 : (l0_0.length : Int) > 30
  ·rw [if_pos c4] at H
   have c4b0 : decide (30 < (l0_0.length : Int)) = true := decide_eq_true c4
   have c4b1 : decide (30 < l0_0.length) = true := decide_eq_true (by omega)
   clear c4
   (first | rw [c4b0] | (simp only [i64_w, i32_w]; rw [c4b0]) | skip)
   have H' := xm H
   clear H
   have hcz5_0 : w3.cell? ⟨gb488, 0, none⟩ = some (.slice A0_0 l0_0.length c0_0) := (xc BK488.out 0).trans rfl
   have hcz5_1 : w3.cell? ⟨gb488, 1, none⟩ = some (.int .i64 a0_1) := (xc BK488.out 1).trans rfl
   have hcz5_2 : w3.cell? ⟨gb488, 2, none⟩ = some (.slice A0_2 l0_2.length c0_2) := (xc BK488.out 2).trans rfl
   have hcz5_3 : w3.cell? ⟨gb488, 3, none⟩ = some (.slice A0_3 l0_3.length c0_3) := (xc BK488.out 3).trans rfl
   have hcz5_4 : w3.cell? ⟨gb488, 4, none⟩ = some (.slice A0_4 l0_4.length c0_4) := (xc BK488.out 4).trans rfl
   have hcz5_5 : w3.cell? ⟨gb488, 5, none⟩ = some (.int .i64 a0_5) := (xc BK488.out 5).trans rfl
   have hcz5_6 : w3.cell? ⟨gb488, 6, none⟩ = some (.int .i64 a0_6) := (xc BK488.out 6).trans rfl
   have hfz5_0 := xf BK488.out 0
   have hfz5_1 := xf BK488.out 1
   have hfz5_2 := xf BK488.out 2
   have hfz5_3 := xf BK488.out 3
   have hfz5_4 := xf BK488.out 4
   have hfz5_5 := xf BK488.out 5
   have hfz5_6 := xf BK488.out 6
   go_wp2
   go_meet
   case rel => exact ⟨_, (true), (by first | rfl | (simp; done) | (simp [*]; done)), H', ⟨by first | omega | exact Nat.le_refl _⟩, ⟨by (with_reducible repeat (first | refine xq ?_ _ | refine xr ?_ | refine xo ?_ _)); exact BK488.out⟩, ⟨by repeat (first | (with_reducible first | exact HB.out | apply xa | apply xn | apply xd | refine xt ?_ GE488.out) | exact HB.out)⟩⟩
  ·rw [if_neg c4] at H
   have c4b0 : decide (30 < (l0_0.length : Int)) = false := decide_eq_false c4
   have c4b1 : decide (30 < l0_0.length) = false := decide_eq_false (by omega)
   clear c4
   (first | rw [c4b0] | (simp only [i64_w, i32_w]; rw [c4b0]) | skip)
   replace H := Option.bind_eq_some_iff.mp H
   obtain ⟨t489, A60, H⟩ := H
   replace H : (if t489 = true then ((spec_l1In.f a0_6 0 a0_1).bind fun t490 => (if t490 = true then ((spec_l1In.f a0_5 0 1000).bind fun t491 => (if t491 = true then (spec_GoodSink.j0 k (decide ((l0_3.length : Int) > 4)) l0_0 a0_1 l0_2 l0_3 l0_4 a0_5 a0_6) else (spec_GoodSink.j0 k true l0_0 a0_1 l0_2 l0_3 l0_4 a0_5 a0_6))) else (spec_GoodSink.j0 k true l0_0 a0_1 l0_2 l0_3 l0_4 a0_5 a0_6))) else (spec_GoodSink.j0 k true l0_0 a0_1 l0_2 l0_3 l0_4 a0_5 a0_6)) = some r := H
   have A6 := xm A60
   clear A60
   by_cases c7 : t489 = true
   ·subst c7
    have H1 : ((spec_l1In.f a0_6 0 a0_1).bind fun t490 => (if t490 = true then ((spec_l1In.f a0_5 0 1000).bind fun t491 => (if t491 = true then (spec_GoodSink.j0 k (decide ((l0_3.length : Int) > 4)) l0_0 a0_1 l0_2 l0_3 l0_4 a0_5 a0_6) else (spec_GoodSink.j0 k true l0_0 a0_1 l0_2 l0_3 l0_4 a0_5 a0_6))) else (spec_GoodSink.j0 k true l0_0 a0_1 l0_2 l0_3 l0_4 a0_5 a0_6))) = some r := by first | (with_reducible rfl) | (rw [if_pos rfl] at H; exact H)
    clear H
    have H := H1
    clear H1
    replace H := Option.bind_eq_some_iff.mp H
    obtain ⟨t490, A80, H⟩ := H
    replace H : (if t490 = true then ((spec_l1In.f a0_5 0 1000).bind fun t491 => (if t491 = true then (spec_GoodSink.j0 k (decide ((l0_3.length : Int) > 4)) l0_0 a0_1 l0_2 l0_3 l0_4 a0_5 a0_6) else (spec_GoodSink.j0 k true l0_0 a0_1 l0_2 l0_3 l0_4 a0_5 a0_6))) else (spec_GoodSink.j0 k true l0_0 a0_1 l0_2 l0_3 l0_4 a0_5 a0_6)) = some r := H
    have A8 := xm A80
    clear A80
    by_cases c9 : t490 = true
    ·subst c9
     have H1 : ((spec_l1In.f a0_5 0 1000).bind fun t491 => (if t491 = true then (spec_GoodSink.j0 k (decide ((l0_3.length : Int) > 4)) l0_0 a0_1 l0_2 l0_3 l0_4 a0_5 a0_6) else (spec_GoodSink.j0 k true l0_0 a0_1 l0_2 l0_3 l0_4 a0_5 a0_6))) = some r := by first | (with_reducible rfl) | (rw [if_pos rfl] at H; exact H)
     clear H
     have H := H1
     clear H1
     replace H := Option.bind_eq_some_iff.mp H
     obtain ⟨t491, A100, H⟩ := H
     replace H : (if t491 = true then (spec_GoodSink.j0 k (decide ((l0_3.length : Int) > 4)) l0_0 a0_1 l0_2 l0_3 l0_4 a0_5 a0_6) else (spec_GoodSink.j0 k true l0_0 a0_1 l0_2 l0_3 l0_4 a0_5 a0_6)) = some r := H
     have A10 := xm A100
     clear A100
     by_cases c11 : t491 = true
     ·subst c11
      have H1 : (spec_GoodSink.j0 k (decide ((l0_3.length : Int) > 4)) l0_0 a0_1 l0_2 l0_3 l0_4 a0_5 a0_6) = some r := by first | (with_reducible rfl) | (rw [if_pos rfl] at H; exact H)
      clear H
      have H := H1
      clear H1
      have H' := xm H
      clear H
      have hcz12_0 : w3.cell? ⟨gb488, 0, none⟩ = some (.slice A0_0 l0_0.length c0_0) := (xc BK488.out 0).trans rfl
      have hcz12_1 : w3.cell? ⟨gb488, 1, none⟩ = some (.int .i64 a0_1) := (xc BK488.out 1).trans rfl
      have hcz12_2 : w3.cell? ⟨gb488, 2, none⟩ = some (.slice A0_2 l0_2.length c0_2) := (xc BK488.out 2).trans rfl
      have hcz12_3 : w3.cell? ⟨gb488, 3, none⟩ = some (.slice A0_3 l0_3.length c0_3) := (xc BK488.out 3).trans rfl
      have hcz12_4 : w3.cell? ⟨gb488, 4, none⟩ = some (.slice A0_4 l0_4.length c0_4) := (xc BK488.out 4).trans rfl
      have hcz12_5 : w3.cell? ⟨gb488, 5, none⟩ = some (.int .i64 a0_5) := (xc BK488.out 5).trans rfl
      have hcz12_6 : w3.cell? ⟨gb488, 6, none⟩ = some (.int .i64 a0_6) := (xc BK488.out 6).trans rfl
      have hfz12_0 := xf BK488.out 0
      have hfz12_1 := xf BK488.out 1
      have hfz12_2 := xf BK488.out 2
      have hfz12_3 := xf BK488.out 3
      have hfz12_4 := xf BK488.out 4
      have hfz12_5 := xf BK488.out 5
      have hfz12_6 := xf BK488.out 6
      go_wp2_with (first | (go_at_call 102; (with_reducible refine (spec_l1In.calls a0_1 0 (l0_0.length : Int) true _ A6.out).mono ?_); rintro e w' ⟨rfl, ⟨nd, rfl⟩⟩) | (go_at_call 102; (with_reducible refine (spec_l1In.calls a0_6 0 a0_1 true _ A8.out).mono ?_); rintro e w' ⟨rfl, ⟨nd, rfl⟩⟩) | (go_at_call 102; (with_reducible refine (spec_l1In.calls a0_5 0 1000 true _ A10.out).mono ?_); rintro e w' ⟨rfl, ⟨nd, rfl⟩⟩))
      go_meet
      case rel => exact ⟨_, (decide ((l0_3.length : Int) > 4)), (by first | rfl | (simp; done) | (simp [*]; done)), H', ⟨by first | omega | exact Nat.le_refl _⟩, ⟨by (with_reducible repeat (first | refine xq ?_ _ | refine xr ?_ | refine xo ?_ _)); exact BK488.out⟩, ⟨by repeat (first | (with_reducible first | exact HB.out | apply xa | apply xn | apply xd | refine xt ?_ GE488.out) | exact HB.out)⟩⟩
     ·replace c11 := Bool.eq_false_iff.mpr c11
      subst c11
      have H1 : (spec_GoodSink.j0 k true l0_0 a0_1 l0_2 l0_3 l0_4 a0_5 a0_6) = some r := by first | (with_reducible rfl) | (rw [if_neg (show ¬ (false = true) by decide)] at H; exact H)
      clear H
      have H := H1
      clear H1
      have H' := xm H
      clear H
      have hcz13_0 : w3.cell? ⟨gb488, 0, none⟩ = some (.slice A0_0 l0_0.length c0_0) := (xc BK488.out 0).trans rfl
      have hcz13_1 : w3.cell? ⟨gb488, 1, none⟩ = some (.int .i64 a0_1) := (xc BK488.out 1).trans rfl
      have hcz13_2 : w3.cell? ⟨gb488, 2, none⟩ = some (.slice A0_2 l0_2.length c0_2) := (xc BK488.out 2).trans rfl
      have hcz13_3 : w3.cell? ⟨gb488, 3, none⟩ = some (.slice A0_3 l0_3.length c0_3) := (xc BK488.out 3).trans rfl
      have hcz13_4 : w3.cell? ⟨gb488, 4, none⟩ = some (.slice A0_4 l0_4.length c0_4) := (xc BK488.out 4).trans rfl
      have hcz13_5 : w3.cell? ⟨gb488, 5, none⟩ = some (.int .i64 a0_5) := (xc BK488.out 5).trans rfl
      have hcz13_6 : w3.cell? ⟨gb488, 6, none⟩ = some (.int .i64 a0_6) := (xc BK488.out 6).trans rfl
      have hfz13_0 := xf BK488.out 0
      have hfz13_1 := xf BK488.out 1
      have hfz13_2 := xf BK488.out 2
      have hfz13_3 := xf BK488.out 3
      have hfz13_4 := xf BK488.out 4
      have hfz13_5 := xf BK488.out 5
      have hfz13_6 := xf BK488.out 6
      go_wp2_with (first | (go_at_call 102; (with_reducible refine (spec_l1In.calls a0_1 0 (l0_0.length : Int) true _ A6.out).mono ?_); rintro e w' ⟨rfl, ⟨nd, rfl⟩⟩) | (go_at_call 102; (with_reducible refine (spec_l1In.calls a0_6 0 a0_1 true _ A8.out).mono ?_); rintro e w' ⟨rfl, ⟨nd, rfl⟩⟩) | (go_at_call 102; (with_reducible refine (spec_l1In.calls a0_5 0 1000 false _ A10.out).mono ?_); rintro e w' ⟨rfl, ⟨nd, rfl⟩⟩))
      go_meet
      case rel => exact ⟨_, (true), (by first | rfl | (simp; done) | (simp [*]; done)), H', ⟨by first | omega | exact Nat.le_refl _⟩, ⟨by (with_reducible repeat (first | refine xq ?_ _ | refine xr ?_ | refine xo ?_ _)); exact BK488.out⟩, ⟨by repeat (first | (with_reducible first | exact HB.out | apply xa | apply xn | apply xd | refine xt ?_ GE488.out) | exact HB.out)⟩⟩
    ·replace c9 := Bool.eq_false_iff.mpr c9
     subst c9
     have H1 : (spec_GoodSink.j0 k true l0_0 a0_1 l0_2 l0_3 l0_4 a0_5 a0_6) = some r := by first | (with_reducible rfl) | (rw [if_neg (show ¬ (false = true) by decide)] at H; exact H)
     clear H
     have H := H1
     clear H1
     have H' := xm H
     clear H
     have hcz14_0 : w3.cell? ⟨gb488, 0, none⟩ = some (.slice A0_0 l0_0.length c0_0) := (xc BK488.out 0).trans rfl
     have hcz14_1 : w3.cell? ⟨gb488, 1, none⟩ = some (.int .i64 a0_1) := (xc BK488.out 1).trans rfl
     have hcz14_2 : w3.cell? ⟨gb488, 2, none⟩ = some (.slice A0_2 l0_2.length c0_2) := (xc BK488.out 2).trans rfl
     have hcz14_3 : w3.cell? ⟨gb488, 3, none⟩ = some (.slice A0_3 l0_3.length c0_3) := (xc BK488.out 3).trans rfl
     have hcz14_4 : w3.cell? ⟨gb488, 4, none⟩ = some (.slice A0_4 l0_4.length c0_4) := (xc BK488.out 4).trans rfl
     have hcz14_5 : w3.cell? ⟨gb488, 5, none⟩ = some (.int .i64 a0_5) := (xc BK488.out 5).trans rfl
     have hcz14_6 : w3.cell? ⟨gb488, 6, none⟩ = some (.int .i64 a0_6) := (xc BK488.out 6).trans rfl
     have hfz14_0 := xf BK488.out 0
     have hfz14_1 := xf BK488.out 1
     have hfz14_2 := xf BK488.out 2
     have hfz14_3 := xf BK488.out 3
     have hfz14_4 := xf BK488.out 4
     have hfz14_5 := xf BK488.out 5
     have hfz14_6 := xf BK488.out 6
     go_wp2_with (first | (go_at_call 102; (with_reducible refine (spec_l1In.calls a0_1 0 (l0_0.length : Int) true _ A6.out).mono ?_); rintro e w' ⟨rfl, ⟨nd, rfl⟩⟩) | (go_at_call 102; (with_reducible refine (spec_l1In.calls a0_6 0 a0_1 false _ A8.out).mono ?_); rintro e w' ⟨rfl, ⟨nd, rfl⟩⟩))
     go_meet
     case rel => exact ⟨_, (true), (by first | rfl | (simp; done) | (simp [*]; done)), H', ⟨by first | omega | exact Nat.le_refl _⟩, ⟨by (with_reducible repeat (first | refine xq ?_ _ | refine xr ?_ | refine xo ?_ _)); exact BK488.out⟩, ⟨by repeat (first | (with_reducible first | exact HB.out | apply xa | apply xn | apply xd | refine xt ?_ GE488.out) | exact HB.out)⟩⟩
   ·replace c7 := Bool.eq_false_iff.mpr c7
    subst c7
    have H1 : (spec_GoodSink.j0 k true l0_0 a0_1 l0_2 l0_3 l0_4 a0_5 a0_6) = some r := by first | (with_reducible rfl) | (rw [if_neg (show ¬ (false = true) by decide)] at H; exact H)
    clear H
    have H := H1
    clear H1
    have H' := xm H
    clear H
    have hcz15_0 : w3.cell? ⟨gb488, 0, none⟩ = some (.slice A0_0 l0_0.length c0_0) := (xc BK488.out 0).trans rfl
    have hcz15_1 : w3.cell? ⟨gb488, 1, none⟩ = some (.int .i64 a0_1) := (xc BK488.out 1).trans rfl
    have hcz15_2 : w3.cell? ⟨gb488, 2, none⟩ = some (.slice A0_2 l0_2.length c0_2) := (xc BK488.out 2).trans rfl
    have hcz15_3 : w3.cell? ⟨gb488, 3, none⟩ = some (.slice A0_3 l0_3.length c0_3) := (xc BK488.out 3).trans rfl
    have hcz15_4 : w3.cell? ⟨gb488, 4, none⟩ = some (.slice A0_4 l0_4.length c0_4) := (xc BK488.out 4).trans rfl
    have hcz15_5 : w3.cell? ⟨gb488, 5, none⟩ = some (.int .i64 a0_5) := (xc BK488.out 5).trans rfl
    have hcz15_6 : w3.cell? ⟨gb488, 6, none⟩ = some (.int .i64 a0_6) := (xc BK488.out 6).trans rfl
    have hfz15_0 := xf BK488.out 0
    have hfz15_1 := xf BK488.out 1
    have hfz15_2 := xf BK488.out 2
    have hfz15_3 := xf BK488.out 3
    have hfz15_4 := xf BK488.out 4
    have hfz15_5 := xf BK488.out 5
    have hfz15_6 := xf BK488.out 6
    go_wp2_with (first | (go_at_call 102; (with_reducible refine (spec_l1In.calls a0_1 0 (l0_0.length : Int) false _ A6.out).mono ?_); rintro e w' ⟨rfl, ⟨nd, rfl⟩⟩))
    go_meet
    case rel => exact ⟨_, (true), (by first | rfl | (simp; done) | (simp [*]; done)), H', ⟨by first | omega | exact Nat.le_refl _⟩, ⟨by (with_reducible repeat (first | refine xq ?_ _ | refine xr ?_ | refine xo ?_ _)); exact BK488.out⟩, ⟨by repeat (first | (with_reducible first | exact HB.out | apply xa | apply xn | apply xd | refine xt ?_ GE488.out) | exact HB.out)⟩⟩
 case rest =>
  clear HC2
  try clear c1
  try clear p2
  try clear c4
  try clear c4b0
  try clear c4b1
  try clear c7
  try clear c9
  try clear c11
  try clear hcz12_0
  try clear hcz12_1
  try clear hcz12_2
  try clear hcz12_3
  try clear hcz12_4
  try clear hcz12_5
  try clear hcz12_6
  try clear hcz13_0
  try clear hcz13_1
  try clear hcz13_2
  try clear hcz13_3
  try clear hcz13_4
  try clear hcz13_5
  try clear hcz13_6
  try clear hcz14_0
  try clear hcz14_1
  try clear hcz14_2
  try clear hcz14_3
  try clear hcz14_4
  try clear hcz14_5
  try clear hcz14_6
  try clear hcz15_0
  try clear hcz15_1
  try clear hcz15_2
  try clear hcz15_3
  try clear hcz15_4
  try clear hcz15_5
  try clear hcz15_6
  try clear hcz5_0
  try clear hcz5_1
  try clear hcz5_2
  try clear hcz5_3
  try clear hcz5_4
  try clear hcz5_5
  try clear hcz5_6
  try clear hfz12_0
  try clear hfz12_1
  try clear hfz12_2
  try clear hfz12_3
  try clear hfz12_4
  try clear hfz12_5
  try clear hfz12_6
  try clear hfz13_0
  try clear hfz13_1
  try clear hfz13_2
  try clear hfz13_3
  try clear hfz13_4
  try clear hfz13_5
  try clear hfz13_6
  try clear hfz14_0
  try clear hfz14_1
  try clear hfz14_2
  try clear hfz14_3
  try clear hfz14_4
  try clear hfz14_5
  try clear hfz14_6
  try clear hfz15_0
  try clear hfz15_1
  try clear hfz15_2
  try clear hfz15_3
  try clear hfz15_4
  try clear hfz15_5
  try clear hfz15_6
  try clear hfz5_0
  try clear hfz5_1
  try clear hfz5_2
  try clear hfz5_3
  try clear hfz5_4
  try clear hfz5_5
  try clear hfz5_6
  obtain ⟨kq, x39_1, rfl, HA, HJ1, BK488, HB⟩ := hcut
  cases kq with
  | zero => exact absurd HA.out (by simp [spec_GoodSink.j0])
  | succ kj1 =>
   have H := HA.out
   clear HA
   simp only [spec_GoodSink.j0] at H
   by_cases c16 : x39_1 = true
   ·subst c16
    have H1 : (some false) = some r := by first | (with_reducible rfl) | (rw [if_pos rfl] at H; exact H)
    clear H
    have H := H1
    clear H1
    obtain rfl := Option.some.inj H
    go_wp2
    go_ret
    exact ⟨by first | rfl | (simp [errW_none, errW_some] <;> rfl) | (simp [*, errW_none, errW_some] <;> rfl), by repeat (first | (with_reducible first | exact HB.out | apply xa | apply xn | apply xd | refine xt ?_ GE488.out) | exact HB.out)⟩
   ·replace c16 := Bool.eq_false_iff.mpr c16
    subst c16
    have H1 : (spec_GoodSink.l0 kj1 a0_6 a0_5 l0_3 (l0_3.length : Int) 0 l0_0 a0_1 l0_2 l0_3 l0_4 a0_5 a0_6) = some r := by first | (with_reducible rfl) | (rw [if_neg (show ¬ (false = true) by decide)] at H; exact H)
    clear H
    have H := H1
    clear H1
    have H' := xm H
    clear H
    have hcz17_0 : wc.cell? ⟨gb488, 0, none⟩ = some (.slice A0_0 l0_0.length c0_0) := (xc BK488.out 0).trans rfl
    have hcz17_1 : wc.cell? ⟨gb488, 1, none⟩ = some (.int .i64 a0_1) := (xc BK488.out 1).trans rfl
    have hcz17_2 : wc.cell? ⟨gb488, 2, none⟩ = some (.slice A0_2 l0_2.length c0_2) := (xc BK488.out 2).trans rfl
    have hcz17_3 : wc.cell? ⟨gb488, 3, none⟩ = some (.slice A0_3 l0_3.length c0_3) := (xc BK488.out 3).trans rfl
    have hcz17_4 : wc.cell? ⟨gb488, 4, none⟩ = some (.slice A0_4 l0_4.length c0_4) := (xc BK488.out 4).trans rfl
    have hcz17_5 : wc.cell? ⟨gb488, 5, none⟩ = some (.int .i64 a0_5) := (xc BK488.out 5).trans rfl
    have hcz17_6 : wc.cell? ⟨gb488, 6, none⟩ = some (.int .i64 a0_6) := (xc BK488.out 6).trans rfl
    have hfz17_0 := xf BK488.out 0
    have hfz17_1 := xf BK488.out 1
    have hfz17_2 := xf BK488.out 2
    have hfz17_3 := xf BK488.out 3
    have hfz17_4 := xf BK488.out 4
    have hfz17_5 := xf BK488.out 5
    have hfz17_6 := xf BK488.out 6
    go_wp2
    go_loopg [3, 4, 47] kj1 (fun kq v3 v4 v47 w' => ∃ (x3_2 : Int) (x4_2 : Int) (x47_2 : Int), v3 = .int .i64 x3_2 ∧ v4 = .int .i64 x4_2 ∧ v47 = .int .i64 x47_2 ∧ Aside0 (spec_GoodSink.l0 kq x3_2 x4_2 l0_3 (l0_3.length : Int) x47_2 l0_0 a0_1 l0_2 l0_3 l0_4 a0_5 a0_6 = some r) ∧ Aside0 (kq ≤ kj1) ∧ Aside0 (w'.heap[gb488]? = some (.cells #[(.slice A0_0 l0_0.length c0_0), .int .i64 a0_1, (.slice A0_2 l0_2.length c0_2), (.slice A0_3 l0_3.length c0_3), (.slice A0_4 l0_4.length c0_4), .int .i64 a0_5, .int .i64 a0_6] 34 (0, 0))) ∧ Aside0 (Below w.heap.size w w'))
    case atStart => exact ⟨(a0_6), (a0_5), (0), (by first | rfl | (simp; done) | (simp [*]; done)), (by first | rfl | (simp; done) | (simp [*]; done)), (by first | rfl | (simp; done) | (simp [*]; done)), H', ⟨Nat.le_refl _⟩, ⟨by (with_reducible repeat (first | refine xq ?_ _ | refine xr ?_ | refine xo ?_ _)); exact BK488.out⟩, ⟨by repeat (first | (with_reducible first | exact HB.out | apply xa | apply xn | apply xd | refine xt ?_ GE488.out) | exact HB.out)⟩⟩
    case round =>
     clear H'
     try clear c1
     try clear p2
     try clear c4
     try clear c4b0
     try clear c4b1
     try clear c7
     try clear c9
     try clear c11
     try clear c16
     try clear hcz12_0
     try clear hcz12_1
     try clear hcz12_2
     try clear hcz12_3
     try clear hcz12_4
     try clear hcz12_5
     try clear hcz12_6
     try clear hcz13_0
     try clear hcz13_1
     try clear hcz13_2
     try clear hcz13_3
     try clear hcz13_4
     try clear hcz13_5
     try clear hcz13_6
     try clear hcz14_0
     try clear hcz14_1
     try clear hcz14_2
     try clear hcz14_3
     try clear hcz14_4
     try clear hcz14_5
     try clear hcz14_6
     try clear hcz15_0
     try clear hcz15_1
     try clear hcz15_2
     try clear hcz15_3
     try clear hcz15_4
     try clear hcz15_5
     try clear hcz15_6
     try clear hcz17_0
     try clear hcz17_1
     try clear hcz17_2
     try clear hcz17_3
     try clear hcz17_4
     try clear hcz17_5
     try clear hcz17_6
     try clear hcz5_0
     try clear hcz5_1
     try clear hcz5_2
     try clear hcz5_3
     try clear hcz5_4
     try clear hcz5_5
     try clear hcz5_6
     try clear hfz12_0
     try clear hfz12_1
     try clear hfz12_2
     try clear hfz12_3
     try clear hfz12_4
     try clear hfz12_5
     try clear hfz12_6
     try clear hfz13_0
     try clear hfz13_1
     try clear hfz13_2
     try clear hfz13_3
     try clear hfz13_4
     try clear hfz13_5
     try clear hfz13_6
     try clear hfz14_0
     try clear hfz14_1
     try clear hfz14_2
     try clear hfz14_3
     try clear hfz14_4
     try clear hfz14_5
     try clear hfz14_6
     try clear hfz15_0
     try clear hfz15_1
     try clear hfz15_2
     try clear hfz15_3
     try clear hfz15_4
     try clear hfz15_5
     try clear hfz15_6
     try clear hfz17_0
     try clear hfz17_1
     try clear hfz17_2
     try clear hfz17_3
     try clear hfz17_4
     try clear hfz17_5
     try clear hfz17_6
     try clear hfz5_0
     try clear hfz5_1
     try clear hfz5_2
     try clear hfz5_3
     try clear hfz5_4
     try clear hfz5_5
     try clear hfz5_6
     try clear p2
     obtain ⟨x3_2, x4_2, x47_2, rfl, rfl, rfl, HA, HK2, BK488, HB⟩ := hrel
     cases gk with
     | zero => exact absurd HA.out (by simp [spec_GoodSink.l0])
     | succ k2 =>
      have H := HA.out
      clear HA
      simp only [spec_GoodSink.l0] at H
      by_cases c18 : x47_2 < (l0_3.length : Int)
      ·rw [if_pos c18] at H
       have c18b0 : decide (x47_2 < (l0_3.length : Int)) = true := decide_eq_true c18
       clear c18
       by_cases c19 : 0 ≤ x47_2
       ·rw [if_pos c19] at H
        have c19b0 : decide (0 ≤ x47_2) = true := decide_eq_true c19
        clear c19
        by_cases c20 : x47_2 < (l0_3.length : Int)
        ·rw [if_pos c20] at H
         have c20b0 : decide (x47_2 < (l0_3.length : Int)) = true := decide_eq_true c20
         clear c20
         have HC21 := xm H
         clear H
         have p492 : 0 ≤ (x47_2 : Int) := of_decide_eq_true (by first | (with_reducible assumption) | assumption)
         have q492 : x47_2 < (l0_3.length : Int) := of_decide_eq_true (by first | (with_reducible assumption) | assumption)
         obtain ⟨ad492, A492_2, c492_2, e492, hx492_0, hx492_1, hx492_2, hl492_2, hi492_2⟩ := at_T130 HR0_3.out x47_2 p492 q492
         cases e492
         replace hx492_0 := (HB.out.cell (World.block_lt_of_cell? w _ hx492_0)).trans hx492_0
         replace hx492_1 := (HB.out.cell (World.block_lt_of_cell? w _ hx492_1)).trans hx492_1
         replace hx492_2 := (HB.out.cell (World.block_lt_of_cell? w _ hx492_2)).trans hx492_2
         have HR492_2 := xm hi492_2
         have HC492_2 := xm hl492_2
         clear hi492_2 hl492_2
         replace p492 := eq_true p492
         replace q492 := eq_true q492
         go_upto_region 8 with (first | ((with_reducible refine gate_dst (N := 6) rfl ?_); (try (refine gate_guard (by rfl) ?_; dsimp only)); refine box_event ?hg (N := 6) ?hd (cs := #[.int .i64 0, .int .i64 0, .slice none 0 0]) (t := 130) ?hr ?_; (case hd => rfl); (case hg => rfl); (case hr => first | (go_simp; done) | (go_simp; rfl)); intro gb493 hg w22 hbox hb; have n0_ := xm (blk_below (g := gb488) (o := .cells #[.slice A0_0 l0_0.length c0_0, .int .i64 a0_1, .slice A0_2 l0_2.length c0_2, .slice (some ad492) l0_3.length c0_3, .slice A0_4 l0_4.length c0_4, .int .i64 a0_5, .int .i64 a0_6] 34 (0, 0)) (by (with_reducible repeat (first | refine xq ?_ _ | refine xr ?_ | refine xo ?_ _)); exact BK488.out) hb); have n1_ := xm (below_step (by repeat (first | (with_reducible first | exact HB.out | apply xa | apply xn | apply xd | refine xt ?_ GE488.out) | exact HB.out)) hb); have n2_ := xm (hbox); have n3_ := xm ((by rw [hg]; exact (xz (by repeat (first | (with_reducible first | exact HB.out | apply xa | apply xn | apply xd | refine xt ?_ GE488.out) | exact HB.out))) : w.heap.size ≤ gb493)); have n4_ := xm ((by rw [hg]; exact (xz (by repeat (first | (with_reducible first | exact HB.out | apply xa | apply xn | apply xd | refine xt ?_ GE488.out) | exact HB.out))) : w.heap.size ≤ gb493)); have n5_ := xm ((by rw [hg]; exact Nat.ne_of_lt (blk_lt (g := gb488) (o := .cells #[.slice A0_0 l0_0.length c0_0, .int .i64 a0_1, .slice A0_2 l0_2.length c0_2, .slice (some ad492) l0_3.length c0_3, .slice A0_4 l0_4.length c0_4, .int .i64 a0_5, .int .i64 a0_6] 34 (0, 0)) (by (with_reducible repeat (first | refine xq ?_ _ | refine xr ?_ | refine xo ?_ _)); exact BK488.out)) : gb488 ≠ gb493)); have n6_ := xm ((by rw [hg]; exact Nat.ne_of_gt (blk_lt (g := gb488) (o := .cells #[.slice A0_0 l0_0.length c0_0, .int .i64 a0_1, .slice A0_2 l0_2.length c0_2, .slice (some ad492) l0_3.length c0_3, .slice A0_4 l0_4.length c0_4, .int .i64 a0_5, .int .i64 a0_6] 34 (0, 0)) (by (with_reducible repeat (first | refine xq ?_ _ | refine xr ?_ | refine xo ?_ _)); exact BK488.out)) : gb493 ≠ gb488)); clear BK488; clear HB; have BK488 := n0_; have HB := n1_; have BK493 := n2_; have GW493 := n3_; have GE493 := n4_; have NB488_493 := n5_; have NB493_488 := n6_; clear n0_ n1_ n2_ n3_ n4_ n5_ n6_; clear hb hbox hg; have hnb23 := NB493_488.out; have hnc23 := NB488_493.out; have hcz24_0 : w22.cell? ⟨gb493, 0, none⟩ = some (.int .i64 0) := (xc BK493.out 0).trans rfl; have hcz24_1 : w22.cell? ⟨gb493, 1, none⟩ = some (.int .i64 0) := (xc BK493.out 1).trans rfl; have hcz24_2 : w22.cell? ⟨gb493, 2, none⟩ = some (.slice none 0 0) := (xc BK493.out 2).trans rfl; have hfz24_0 := xf BK493.out 0; have hfz24_1 := xf BK493.out 1; have hfz24_2 := xf BK493.out 2))
         (try simp only [Act.put, xi, xj, xk])
         go_cut [81] (fun v81 wc => ∃ (kq : Nat) (x81_20 : Bool), v81 = .bool x81_20 ∧ Aside0 (spec_GoodSink.j2 kq l0_3 (l0_3.length : Int) x47_2 x81_20 l0_0 a0_1 l0_2 l0_3 l0_4 a0_5 a0_6 ((rd_T130 l0_3 x47_2).f0) ((rd_T130 l0_3 x47_2).f1) ((rd_T130 l0_3 x47_2).f2) = some r) ∧ Aside0 (kq ≤ k2) ∧ Aside0 (wc.heap[gb488]? = some (.cells #[(.slice A0_0 l0_0.length c0_0), .int .i64 a0_1, (.slice A0_2 l0_2.length c0_2), (.slice (some ad492) l0_3.length c0_3), (.slice A0_4 l0_4.length c0_4), .int .i64 a0_5, .int .i64 a0_6] 34 (0, 0))) ∧ Aside0 (wc.heap[gb493]? = some (.cells #[.int .i64 ((rd_T130 l0_3 x47_2).f0), .int .i64 ((rd_T130 l0_3 x47_2).f1), (.slice A492_2 ((rd_T130 l0_3 x47_2).f2).length c492_2)] 130 (0, 0))) ∧ Aside0 (Below w.heap.size w wc))
         case first =>
          have H := HC21.out
          clear HC21
          by_cases c25 : ((rd_T130 l0_3 x47_2).f0) = (wrap64 (x4_2 + 1))
          ·rw [if_pos c25] at H
           have c25b0 : (((rd_T130 l0_3 x47_2).f0) == (wrap64 (x4_2 + 1))) = true := beq_iff_eq.mpr c25
           have c25b1 : (((rd_T130 l0_3 x47_2).f0) != (wrap64 (x4_2 + 1))) = false := bne_eq_false_iff_eq.mpr c25
           clear c25
           (first | rw [c25b0] | (simp only [i64_w, i32_w]; rw [c25b0]) | skip)
           replace H := Option.bind_eq_some_iff.mp H
           obtain ⟨t494, A260, H⟩ := H
           replace H : (if t494 = true then (if 0 ≤ x3_2 then (if x3_2 ≤ ((rd_T130 l0_3 x47_2).f1) then (if ((rd_T130 l0_3 x47_2).f1) ≤ (l0_0.length : Int) then ((spec_l16Same.f k2 ((rd_T130 l0_3 x47_2).f2) ((l0_0.take (((rd_T130 l0_3 x47_2).f1) : Int).toNat).drop (x3_2 : Int).toNat)).bind fun t496 => (if t496 = true then (spec_GoodSink.j2 k2 l0_3 (l0_3.length : Int) x47_2 (decide (((rd_T130 l0_3 x47_2).f0) > 1000)) l0_0 a0_1 l0_2 l0_3 l0_4 a0_5 a0_6 ((rd_T130 l0_3 x47_2).f0) ((rd_T130 l0_3 x47_2).f1) ((rd_T130 l0_3 x47_2).f2)) else (spec_GoodSink.j2 k2 l0_3 (l0_3.length : Int) x47_2 true l0_0 a0_1 l0_2 l0_3 l0_4 a0_5 a0_6 ((rd_T130 l0_3 x47_2).f0) ((rd_T130 l0_3 x47_2).f1) ((rd_T130 l0_3 x47_2).f2)))) else (none)) else (none)) else (none)) else (spec_GoodSink.j2 k2 l0_3 (l0_3.length : Int) x47_2 true l0_0 a0_1 l0_2 l0_3 l0_4 a0_5 a0_6 ((rd_T130 l0_3 x47_2).f0) ((rd_T130 l0_3 x47_2).f1) ((rd_T130 l0_3 x47_2).f2))) = some r := H
           have A26 := xm A260
           clear A260
           by_cases c27 : t494 = true
           ·subst c27
            have H1 : (if 0 ≤ x3_2 then (if x3_2 ≤ ((rd_T130 l0_3 x47_2).f1) then (if ((rd_T130 l0_3 x47_2).f1) ≤ (l0_0.length : Int) then ((spec_l16Same.f k2 ((rd_T130 l0_3 x47_2).f2) ((l0_0.take (((rd_T130 l0_3 x47_2).f1) : Int).toNat).drop (x3_2 : Int).toNat)).bind fun t496 => (if t496 = true then (spec_GoodSink.j2 k2 l0_3 (l0_3.length : Int) x47_2 (decide (((rd_T130 l0_3 x47_2).f0) > 1000)) l0_0 a0_1 l0_2 l0_3 l0_4 a0_5 a0_6 ((rd_T130 l0_3 x47_2).f0) ((rd_T130 l0_3 x47_2).f1) ((rd_T130 l0_3 x47_2).f2)) else (spec_GoodSink.j2 k2 l0_3 (l0_3.length : Int) x47_2 true l0_0 a0_1 l0_2 l0_3 l0_4 a0_5 a0_6 ((rd_T130 l0_3 x47_2).f0) ((rd_T130 l0_3 x47_2).f1) ((rd_T130 l0_3 x47_2).f2)))) else (none)) else (none)) else (none)) = some r := by first | (with_reducible rfl) | (rw [if_pos rfl] at H; exact H)
            clear H
            have H := H1
            clear H1
            by_cases c28 : 0 ≤ x3_2
            ·rw [if_pos c28] at H
             have c28b0 := eq_true c28
             have c28b1 : decide (0 ≤ x3_2) = true := decide_eq_true c28
             clear c28
             by_cases c29 : x3_2 ≤ ((rd_T130 l0_3 x47_2).f1)
             ·rw [if_pos c29] at H
              have c29b0 := eq_true c29
              have c29b1 : decide (x3_2 ≤ ((rd_T130 l0_3 x47_2).f1)) = true := decide_eq_true c29
              clear c29
              by_cases c30 : ((rd_T130 l0_3 x47_2).f1) ≤ (l0_0.length : Int)
              ·rw [if_pos c30] at H
               have c30b0 := eq_true c30
               have c30b1 : decide (((rd_T130 l0_3 x47_2).f1) ≤ (l0_0.length : Int)) = true := decide_eq_true c30
               clear c30
               replace H := Option.bind_eq_some_iff.mp H
               obtain ⟨t496, A310, H⟩ := H
               replace H : (if t496 = true then (spec_GoodSink.j2 k2 l0_3 (l0_3.length : Int) x47_2 (decide (((rd_T130 l0_3 x47_2).f0) > 1000)) l0_0 a0_1 l0_2 l0_3 l0_4 a0_5 a0_6 ((rd_T130 l0_3 x47_2).f0) ((rd_T130 l0_3 x47_2).f1) ((rd_T130 l0_3 x47_2).f2)) else (spec_GoodSink.j2 k2 l0_3 (l0_3.length : Int) x47_2 true l0_0 a0_1 l0_2 l0_3 l0_4 a0_5 a0_6 ((rd_T130 l0_3 x47_2).f0) ((rd_T130 l0_3 x47_2).f1) ((rd_T130 l0_3 x47_2).f2))) = some r := H
               have A31 := xm A310
               clear A310
               by_cases c32 : t496 = true
               ·subst c32
                have H1 : (spec_GoodSink.j2 k2 l0_3 (l0_3.length : Int) x47_2 (decide (((rd_T130 l0_3 x47_2).f0) > 1000)) l0_0 a0_1 l0_2 l0_3 l0_4 a0_5 a0_6 ((rd_T130 l0_3 x47_2).f0) ((rd_T130 l0_3 x47_2).f1) ((rd_T130 l0_3 x47_2).f2)) = some r := by first | (with_reducible rfl) | (rw [if_pos rfl] at H; exact H)
                clear H
                have H := H1
                clear H1
                have H' := xm H
                clear H
                try go_wp2
                have n0_ : Aside0 ((((w22.setCell ⟨gb493, 0, none⟩ (.int .i64 ((rd_T130 l0_3 x47_2).f0))).setCell ⟨gb493, 1, none⟩ (.int .i64 ((rd_T130 l0_3 x47_2).f1))).setCell ⟨gb493, 2, none⟩ (.slice A492_2 ((rd_T130 l0_3 x47_2).f2).length c492_2)).heap[gb488]? = some (.cells #[.slice A0_0 l0_0.length c0_0, .int .i64 a0_1, .slice A0_2 l0_2.length c0_2, .slice (some ad492) l0_3.length c0_3, .slice A0_4 l0_4.length c0_4, .int .i64 a0_5, .int .i64 a0_6] 34 (0, 0))) := ⟨by (with_reducible repeat (first | refine xq ?_ _ | refine xr ?_ | refine xo ?_ _)); refine blk_far ?_ NB488_493.out _; (with_reducible repeat (first | refine xq ?_ _ | refine xr ?_ | refine xo ?_ _)); refine blk_far ?_ NB488_493.out _; (with_reducible repeat (first | refine xq ?_ _ | refine xr ?_ | refine xo ?_ _)); refine blk_far ?_ NB488_493.out _; (with_reducible repeat (first | refine xq ?_ _ | refine xr ?_ | refine xo ?_ _)); exact BK488.out⟩
                have n1_ : Aside0 ((((w22.setCell ⟨gb493, 0, none⟩ (.int .i64 ((rd_T130 l0_3 x47_2).f0))).setCell ⟨gb493, 1, none⟩ (.int .i64 ((rd_T130 l0_3 x47_2).f1))).setCell ⟨gb493, 2, none⟩ (.slice A492_2 ((rd_T130 l0_3 x47_2).f2).length c492_2)).heap[gb493]? = some (.cells #[.int .i64 ((rd_T130 l0_3 x47_2).f0), .int .i64 ((rd_T130 l0_3 x47_2).f1), .slice A492_2 ((rd_T130 l0_3 x47_2).f2).length c492_2] 130 (0, 0))) := ⟨by (with_reducible repeat (first | refine xq ?_ _ | refine xr ?_ | refine xo ?_ _)); refine blk_put (cs := #[.int .i64 ((rd_T130 l0_3 x47_2).f0), .int .i64 ((rd_T130 l0_3 x47_2).f1), .slice none 0 0]) ?_ 2 _ rfl; (with_reducible repeat (first | refine xq ?_ _ | refine xr ?_ | refine xo ?_ _)); refine blk_put (cs := #[.int .i64 ((rd_T130 l0_3 x47_2).f0), .int .i64 0, .slice none 0 0]) ?_ 1 _ rfl; (with_reducible repeat (first | refine xq ?_ _ | refine xr ?_ | refine xo ?_ _)); refine blk_put (cs := #[.int .i64 0, .int .i64 0, .slice none 0 0]) ?_ 0 _ rfl; (with_reducible repeat (first | refine xq ?_ _ | refine xr ?_ | refine xo ?_ _)); exact BK493.out⟩
                have n2_ : Aside0 (Below w.heap.size w (((w22.setCell ⟨gb493, 0, none⟩ (.int .i64 ((rd_T130 l0_3 x47_2).f0))).setCell ⟨gb493, 1, none⟩ (.int .i64 ((rd_T130 l0_3 x47_2).f1))).setCell ⟨gb493, 2, none⟩ (.slice A492_2 ((rd_T130 l0_3 x47_2).f2).length c492_2))) := ⟨by repeat (first | (with_reducible first | exact HB.out | apply xa | apply xn | apply xd | refine xt ?_ GE488.out | refine xt ?_ GE493.out) | exact HB.out)⟩
                (try clear BK488)
                (try clear BK493)
                (try clear HB)
                generalize (((w22.setCell ⟨gb493, 0, none⟩ (.int .i64 ((rd_T130 l0_3 x47_2).f0))).setCell ⟨gb493, 1, none⟩ (.int .i64 ((rd_T130 l0_3 x47_2).f1))).setCell ⟨gb493, 2, none⟩ (.slice A492_2 ((rd_T130 l0_3 x47_2).f2).length c492_2)) = w33 at n0_ n1_ n2_ ⊢
                have BK488 := n0_
                have BK493 := n1_
                have HB := n2_
                clear n0_ n1_ n2_
                have n0_ := xm (xr BK488.out)
                have n1_ := xm (xr BK493.out)
                have n2_ := xm (xd HB.out)
                clear BK488
                clear BK493
                clear HB
                have BK488 := n0_
                have BK493 := n1_
                have HB := n2_
                clear n0_ n1_ n2_
                refine start_ (n := 31) (S := fun w' => w'.cell? ⟨gb493, 0, none⟩ = some (.int .i64 ((rd_T130 l0_3 x47_2).f0)) ∧ w'.cell? ⟨gb493, 1, none⟩ = some (.int .i64 ((rd_T130 l0_3 x47_2).f1)) ∧ w'.cell? ⟨gb493, 2, none⟩ = some (.slice A492_2 ((rd_T130 l0_3 x47_2).f2).length c492_2) ∧ w'.cell? ⟨gb488, 0, none⟩ = some (.slice A0_0 l0_0.length c0_0) ∧ w'.cell? ⟨gb488, 1, none⟩ = some (.int .i64 a0_1) ∧ w'.cell? ⟨gb488, 2, none⟩ = some (.slice A0_2 l0_2.length c0_2) ∧ w'.cell? ⟨gb488, 3, none⟩ = some (.slice (some ad492) l0_3.length c0_3) ∧ w'.cell? ⟨gb488, 4, none⟩ = some (.slice A0_4 l0_4.length c0_4) ∧ w'.cell? ⟨gb488, 5, none⟩ = some (.int .i64 a0_5) ∧ w'.cell? ⟨gb488, 6, none⟩ = some (.int .i64 a0_6)) (ds := []) #[Z,Z,Z,Z,Z,Z,Z,Z,Z,Z,Z,Z,Z,Z,Z,Z,Z,Z,Z,Z,Z,Z,Z,Z,Z,Z,Z,Z,Z,Z,Z] (by kernel_rfl) rfl rfl ⟨(xc BK493.out 0).trans rfl, (xc BK493.out 1).trans rfl, (xc BK493.out 2).trans rfl, (xc BK488.out 0).trans rfl, (xc BK488.out 1).trans rfl, (xc BK488.out 2).trans rfl, (xc BK488.out 3).trans rfl, (xc BK488.out 4).trans rfl, (xc BK488.out 5).trans rfl, (xc BK488.out 6).trans rfl⟩ (fun hHeld => ?_); refine with_tabW spec_GoodSink.tab8 spec_GoodSink.bits8 (fun HT_ HW_ => ?_)
                generalize w33.drew = w34 at BK488 BK493 HB hHeld ⊢
                refine pure_ (i := 0) (N := some 51) (v := ?_) (a' := ?_) #[Y,Z,Z,Z,Z,Z,Z,Z,Z,Z,Z,Z,Z,Z,Z,Z,Z,Z,Z,Z,Z,Z,Z,Z,Z,Z,Z,Z,Z,Z,Z] rfl rfl (any_of HT_.out (by kernel_rfl)) (fun _ _ _ h => h) (Or.inl ⟨by rfl, ?_⟩) ?_ ?_
                rotate_left
                ·intro w'
                 go_simp
                 with_reducible rfl
                rotate_left
                ·simp only [Act.put, xi, xj, xk, i64_w, i32_w]
                 rfl
                refine pure_ (i := 2) (N := some 53) (v := ?_) (a' := ?_) #[Y,Z,Y,Z,Z,Z,Z,Z,Z,Z,Z,Z,Z,Z,Z,Z,Z,Z,Z,Z,Z,Z,Z,Z,Z,Z,Z,Z,Z,Z,Z] rfl rfl (any_of HT_.out (by kernel_rfl)) (fun _ _ _ h => h) (Or.inl ⟨by rfl, ?_⟩) ?_ ?_
                rotate_left
                ·intro w'
                 go_simp
                 with_reducible rfl
                rotate_left
                ·simp only [Act.put, xi, xj, xk, i64_w, i32_w]
                 rfl
                refine pure_ (i := 3) (N := some 54) (v := ?_) (a' := ?_) #[Y,Z,Y,Y,Z,Z,Z,Z,Z,Z,Z,Z,Z,Z,Z,Z,Z,Z,Z,Z,Z,Z,Z,Z,Z,Z,Z,Z,Z,Z,Z] rfl rfl (any_of HT_.out (by kernel_rfl)) (fun _ _ _ h => h) (Or.inl ⟨by rfl, ?_⟩) ?_ ?_
                rotate_left
                ·intro w'
                 go_simp
                 with_reducible rfl
                rotate_left
                ·simp only [Act.put, xi, xj, xk, i64_w, i32_w]
                 rfl
                refine take_ (i := 1) (N := some 52) (v := ?_) (a' := ?_) #[Y,Y,Y,Y,Z,Z,Z,Z,Z,Z,Z,Z,Z,Z,Z,Z,Z,Z,Z,Z,Z,Z,Z,Z,Z,Z,Z,Z,Z,Z,Z] rfl rfl (take_ofW HT_.out HW_.out (by kernel_rfl)) (fun _ _ _ h => h) (Or.inl ⟨by rfl, ?_⟩) hHeld ?_ ?_
                rotate_left
                ·rintro w' ⟨s0, s1, s2, s3, s4, s5, s6, s7, s8, s9⟩
                 go_simp
                 with_reducible rfl
                rotate_left
                ·simp only [Act.put, xi, xj, xk, i64_w, i32_w]
                 rfl
                refine pure_ (i := 4) (N := some 55) (v := ?_) (a' := ?_) #[Y,Y,Y,Y,Y,Z,Z,Z,Z,Z,Z,Z,Z,Z,Z,Z,Z,Z,Z,Z,Z,Z,Z,Z,Z,Z,Z,Z,Z,Z,Z] rfl rfl (any_of HT_.out (by kernel_rfl)) (fun _ _ _ h => h) (Or.inl ⟨by rfl, ?_⟩) ?_ ?_
                rotate_left
                ·intro w'
                 go_simp
                 with_reducible rfl
                rotate_left
                ·simp only [Act.put, xi, xj, xk, i64_w, i32_w]
                 rfl
                refine pure_ (i := 5) (N := some 56) (v := ?_) (a' := ?_) #[Y,Y,Y,Y,Y,Y,Z,Z,Z,Z,Z,Z,Z,Z,Z,Z,Z,Z,Z,Z,Z,Z,Z,Z,Z,Z,Z,Z,Z,Z,Z] rfl rfl (any_of HT_.out (by kernel_rfl)) (fun _ _ _ h => h) (Or.inl ⟨by rfl, ?_⟩) ?_ ?_
                rotate_left
                ·intro w'
                 go_simp
                 with_reducible rfl
                rotate_left
                ·simp only [Act.put, xi, xj, xk, i64_w, i32_w]
                 rfl
                refine pure_ (i := 6) (N := some 57) (v := ?_) (a' := ?_) #[Y,Y,Y,Y,Y,Y,Y,Z,Z,Z,Z,Z,Z,Z,Z,Z,Z,Z,Z,Z,Z,Z,Z,Z,Z,Z,Z,Z,Z,Z,Z] rfl rfl (any_of HT_.out (by kernel_rfl)) (fun _ _ _ h => h) (Or.inl ⟨by rfl, ?_⟩) ?_ ?_
                rotate_left
                ·intro w'
                 go_simp
                 with_reducible rfl
                rotate_left
                ·simp only [Act.put, xi, xj, xk, i64_w, i32_w]
                 rfl
                refine pure_ (i := 8) (N := some 59) (v := ?_) (a' := ?_) #[Y,Y,Y,Y,Y,Y,Y,Z,Y,Z,Z,Z,Z,Z,Z,Z,Z,Z,Z,Z,Z,Z,Z,Z,Z,Z,Z,Z,Z,Z,Z] rfl rfl (any_of HT_.out (by kernel_rfl)) (fun _ _ _ h => h) (Or.inl ⟨by rfl, ?_⟩) ?_ ?_
                rotate_left
                ·intro w'
                 go_simp
                 with_reducible rfl
                rotate_left
                ·simp only [Act.put, xi, xj, xk, i64_w, i32_w]
                 rfl
                refine pure_ (i := 9) (N := some 60) (v := ?_) (a' := ?_) #[Y,Y,Y,Y,Y,Y,Y,Z,Y,Y,Z,Z,Z,Z,Z,Z,Z,Z,Z,Z,Z,Z,Z,Z,Z,Z,Z,Z,Z,Z,Z] rfl rfl (any_of HT_.out (by kernel_rfl)) (fun _ _ _ h => h) (Or.inl ⟨by rfl, ?_⟩) ?_ ?_
                rotate_left
                ·intro w'
                 go_simp
                 with_reducible rfl
                rotate_left
                ·simp only [Act.put, xi, xj, xk, i64_w, i32_w]
                 rfl
                refine take_ (i := 7) (N := some 58) (v := ?_) (a' := ?_) #[Y,Y,Y,Y,Y,Y,Y,Y,Y,Y,Z,Z,Z,Z,Z,Z,Z,Z,Z,Z,Z,Z,Z,Z,Z,Z,Z,Z,Z,Z,Z] rfl rfl (take_ofW HT_.out HW_.out (by kernel_rfl)) (fun _ _ _ h => h) (Or.inl ⟨by rfl, ?_⟩) hHeld ?_ ?_
                rotate_left
                ·rintro w' ⟨s0, s1, s2, s3, s4, s5, s6, s7, s8, s9⟩
                 go_simp
                 with_reducible rfl
                rotate_left
                ·simp only [Act.put, xi, xj, xk, i64_w, i32_w]
                 rfl
                refine take_ (i := 10) (N := some 61) (v := ?_) (a' := ?_) #[Y,Y,Y,Y,Y,Y,Y,Y,Y,Y,Y,Z,Z,Z,Z,Z,Z,Z,Z,Z,Z,Z,Z,Z,Z,Z,Z,Z,Z,Z,Z] rfl rfl (take_ofW HT_.out HW_.out (by kernel_rfl)) (fun _ _ _ h => h) (Or.inl ⟨by rfl, ?_⟩) hHeld ?_ ?_
                rotate_left
                ·rintro w' ⟨s0, s1, s2, s3, s4, s5, s6, s7, s8, s9⟩
                 go_simp
                 with_reducible rfl
                rotate_left
                ·simp only [Act.put, xi, xj, xk, i64_w, i32_w]
                 rfl
                refine one_ (i := 11) (N := some 62) #[Y,Y,Y,Y,Y,Y,Y,Y,Y,Y,Y,Y,Z,Z,Z,Z,Z,Z,Z,Z,Z,Z,Z,Z,Z,Z,Z,Z,Z,Z,Z] rfl rfl (one_of HT_.out (by kernel_rfl)) (by decide) (fun K hK => ?_)
                refine goes_ Try.func102 (by kernel_rfl) rfl #[.int .i64 ((rd_T130 l0_3 x47_2).f1), .int .i64 x3_2, .int .i64 a0_1] (by rfl) rfl rfl (by (try simp only [List.map_toArray, List.map_cons, List.map_nil]); first | done | rfl | (simp only [List.length_drop, List.length_take]; rfl)) ?_
                with_reducible refine (spec_l1In.calls ((rd_T130 l0_3 x47_2).f1) x3_2 a0_1 true _ A26.out).mono ?_
                rintro e w' ⟨rfl, ⟨nd, rfl⟩⟩
                refine ⟨_, rfl, ?_⟩
                obtain ⟨i035, hi035, _, hsz35, _⟩ := info_parts info3
                obtain ⟨A35, hcut35, hA35, hC35⟩ := print_mid_of (P := Try.prog) (Value.int .i64) 0 31 3 .i64 .i64 Try.underlying31 hi035 hsz35 A0_0 c0_0 l0_0 x3_2 ((rd_T130 l0_3 x47_2).f1) (of_decide_eq_true (by first | (with_reducible assumption) | assumption)) (by first | omega | exact of_decide_eq_true (by first | (with_reducible assumption) | assumption)) (of_decide_eq_true (by first | (with_reducible assumption) | assumption)) HC0_0.out
                have HR495 := xm (Kd.C_of_reads (h1 := fun _ => rfl) (hA35 _ (Kd.reads_of_C HR0_0.out)))
                have HC495 := xm hC35
                clear hA35 hC35 hi035 hsz35
                refine hK.out _ _ ⟨(xc BK493.out 0).trans rfl, (xc BK493.out 1).trans rfl, (xc BK493.out 2).trans rfl, (xc BK488.out 0).trans rfl, (xc BK488.out 1).trans rfl, (xc BK488.out 2).trans rfl, (xc BK488.out 3).trans rfl, (xc BK488.out 4).trans rfl, (xc BK488.out 5).trans rfl, (xc BK488.out 6).trans rfl⟩ (fun hHeld => ?_)
                clear hK K
                refine norm_ (a' := ?_) ?_ ?_
                rotate_left
                ·show Act.put _ (some 62) _ = _
                 simp only [Act.put, xi, xj, xk, i64_w, i32_w]
                 rfl
                refine pure_ (i := 12) (N := some 63) (v := ?_) (a' := ?_) #[Y,Y,Y,Y,Y,Y,Y,Y,Y,Y,Y,Y,Y,Z,Z,Z,Z,Z,Z,Z,Z,Z,Z,Z,Z,Z,Z,Z,Z,Z,Z] rfl rfl (any_of HT_.out (by kernel_rfl)) (fun _ _ _ h => h) (Or.inl ⟨by rfl, ?_⟩) ?_ ?_
                rotate_left
                ·intro w'
                 go_simp
                 with_reducible rfl
                rotate_left
                ·simp only [Act.put, xi, xj, xk, i64_w, i32_w]
                 rfl
                refine pure_ (i := 13) (N := some 64) (v := ?_) (a' := ?_) #[Y,Y,Y,Y,Y,Y,Y,Y,Y,Y,Y,Y,Y,Y,Z,Z,Z,Z,Z,Z,Z,Z,Z,Z,Z,Z,Z,Z,Z,Z,Z] rfl rfl (any_of HT_.out (by kernel_rfl)) (fun _ _ _ h => h) (Or.inl ⟨by rfl, ?_⟩) ?_ ?_
                rotate_left
                ·intro w'
                 go_simp
                 with_reducible rfl
                rotate_left
                ·simp only [Act.put, xi, xj, xk, i64_w, i32_w]
                 rfl
                refine pure_ (i := 14) (N := some 65) (v := ?_) (a' := ?_) #[Y,Y,Y,Y,Y,Y,Y,Y,Y,Y,Y,Y,Y,Y,Y,Z,Z,Z,Z,Z,Z,Z,Z,Z,Z,Z,Z,Z,Z,Z,Z] rfl rfl (any_of HT_.out (by kernel_rfl)) (fun _ _ _ h => h) (Or.inl ⟨by rfl, ?_⟩) ?_ ?_
                rotate_left
                ·intro w'
                 go_simp
                 with_reducible rfl
                rotate_left
                ·simp only [Act.put, xi, xj, xk, i64_w, i32_w]
                 rfl
                refine pure_ (i := 15) (N := some 66) (v := ?_) (a' := ?_) #[Y,Y,Y,Y,Y,Y,Y,Y,Y,Y,Y,Y,Y,Y,Y,Y,Z,Z,Z,Z,Z,Z,Z,Z,Z,Z,Z,Z,Z,Z,Z] rfl rfl (any_of HT_.out (by kernel_rfl)) (fun _ _ _ h => h) (Or.inl ⟨by rfl, ?_⟩) ?_ ?_
                rotate_left
                ·intro w'
                 go_simp
                 with_reducible rfl
                rotate_left
                ·simp only [Act.put, xi, xj, xk, i64_w, i32_w]
                 rfl
                refine pure_ (i := 17) (N := some 68) (v := ?_) (a' := ?_) #[Y,Y,Y,Y,Y,Y,Y,Y,Y,Y,Y,Y,Y,Y,Y,Y,Z,Y,Z,Z,Z,Z,Z,Z,Z,Z,Z,Z,Z,Z,Z] rfl rfl (any_of HT_.out (by kernel_rfl)) (fun _ _ _ h => h) (Or.inl ⟨by rfl, ?_⟩) ?_ ?_
                rotate_left
                ·intro w'
                 go_simp
                 with_reducible rfl
                rotate_left
                ·simp only [Act.put, xi, xj, xk, i64_w, i32_w]
                 rfl
                refine pure_ (i := 19) (N := some 70) (v := ?_) (a' := ?_) #[Y,Y,Y,Y,Y,Y,Y,Y,Y,Y,Y,Y,Y,Y,Y,Y,Z,Y,Z,Y,Z,Z,Z,Z,Z,Z,Z,Z,Z,Z,Z] rfl rfl (any_of HT_.out (by kernel_rfl)) (fun _ _ _ h => h) (Or.inl ⟨by rfl, ?_⟩) ?_ ?_
                rotate_left
                ·intro w'
                 go_simp
                 with_reducible rfl
                rotate_left
                ·simp only [Act.put, xi, xj, xk, i64_w, i32_w]
                 rfl
                refine pure_ (i := 20) (N := some 71) (v := ?_) (a' := ?_) #[Y,Y,Y,Y,Y,Y,Y,Y,Y,Y,Y,Y,Y,Y,Y,Y,Z,Y,Z,Y,Y,Z,Z,Z,Z,Z,Z,Z,Z,Z,Z] rfl rfl (any_of HT_.out (by kernel_rfl)) (fun _ _ _ h => h) (Or.inl ⟨by rfl, ?_⟩) ?_ ?_
                rotate_left
                ·intro w'
                 go_simp
                 with_reducible rfl
                rotate_left
                ·simp only [Act.put, xi, xj, xk, i64_w, i32_w]
                 rfl
                refine take_ (i := 16) (N := some 67) (v := ?_) (a' := ?_) #[Y,Y,Y,Y,Y,Y,Y,Y,Y,Y,Y,Y,Y,Y,Y,Y,Y,Y,Z,Y,Y,Z,Z,Z,Z,Z,Z,Z,Z,Z,Z] rfl rfl (take_ofW HT_.out HW_.out (by kernel_rfl)) (fun _ _ _ h => h) (Or.inl ⟨by rfl, ?_⟩) hHeld ?_ ?_
                rotate_left
                ·rintro w' ⟨s0, s1, s2, s3, s4, s5, s6, s7, s8, s9⟩
                 go_simp
                 with_reducible rfl
                rotate_left
                ·simp only [Act.put, xi, xj, xk, i64_w, i32_w]
                 rfl
                refine take_ (i := 18) (N := some 69) (v := ?_) (a' := ?_) #[Y,Y,Y,Y,Y,Y,Y,Y,Y,Y,Y,Y,Y,Y,Y,Y,Y,Y,Y,Y,Y,Z,Z,Z,Z,Z,Z,Z,Z,Z,Z] rfl rfl (take_ofW HT_.out HW_.out (by kernel_rfl)) (fun _ _ _ h => h) (Or.inl ⟨by rfl, ?_⟩) hHeld ?_ ?_
                rotate_left
                ·rintro w' ⟨s0, s1, s2, s3, s4, s5, s6, s7, s8, s9⟩
                 go_simp
                 with_reducible rfl
                rotate_left
                ·simp only [Act.put, xi, xj, xk, i64_w, i32_w]
                 rfl
                refine take_ (i := 21) (N := some 72) (v := ?_) (a' := ?_) #[Y,Y,Y,Y,Y,Y,Y,Y,Y,Y,Y,Y,Y,Y,Y,Y,Y,Y,Y,Y,Y,Y,Z,Z,Z,Z,Z,Z,Z,Z,Z] rfl rfl (take_ofW HT_.out HW_.out (by kernel_rfl)) (fun _ _ _ h => h) (Or.inl ⟨by rfl, ?_⟩) hHeld ?_ ?_
                rotate_left
                ·rintro w' ⟨s0, s1, s2, s3, s4, s5, s6, s7, s8, s9⟩
                 go_simp
                 with_reducible rfl
                rotate_left
                ·simp only [Act.put, xi, xj, xk, i64_w, i32_w]
                 rfl
                refine pure_ (i := 22) (N := some 73) (v := ?_) (a' := ?_) #[Y,Y,Y,Y,Y,Y,Y,Y,Y,Y,Y,Y,Y,Y,Y,Y,Y,Y,Y,Y,Y,Y,Y,Z,Z,Z,Z,Z,Z,Z,Z] rfl rfl (any_of HT_.out (by kernel_rfl)) (fun _ _ _ h => h) (Or.inl ⟨by rfl, ?_⟩) ?_ ?_
                rotate_left
                ·intro w'
                 go_simp
                 with_reducible rfl
                rotate_left
                ·simp only [Act.put, xi, xj, xk, i64_w, i32_w]
                 rfl
                refine one_ (i := 23) (N := some 74) #[Y,Y,Y,Y,Y,Y,Y,Y,Y,Y,Y,Y,Y,Y,Y,Y,Y,Y,Y,Y,Y,Y,Y,Y,Z,Z,Z,Z,Z,Z,Z] rfl rfl (one_of HT_.out (by kernel_rfl)) (by decide) (fun K hK => ?_)
                refine goes_ Try.func109 (by kernel_rfl) rfl #[.slice A492_2 ((rd_T130 l0_3 x47_2).f2).length c492_2, .slice A35 ((l0_0.take (((rd_T130 l0_3 x47_2).f1) : Int).toNat).drop (x3_2 : Int).toNat).length (c0_0 - x3_2.toNat)] (by rfl) rfl rfl (by (try simp only [List.map_toArray, List.map_cons, List.map_nil]); first | done | (rw [show ((l0_0.take (((rd_T130 l0_3 x47_2).f1) : Int).toNat).drop (x3_2 : Int).toNat).length = (((rd_T130 l0_3 x47_2).f1).toNat - x3_2.toNat) from (by rw [List.length_drop, List.length_take]; have h_ : (((rd_T130 l0_3 x47_2).f1) : Int) ≤ (l0_0.length : Int) := of_decide_eq_true (by first | (with_reducible assumption) | assumption); omega)] <;> rfl) | rfl | (simp only [List.length_drop, List.length_take]; rfl)) ?_
                with_reducible refine (spec_l16Same.calls k2 _ _ ((rd_T130 l0_3 x47_2).f2) _ _ ((l0_0.take (((rd_T130 l0_3 x47_2).f1) : Int).toNat).drop (x3_2 : Int).toNat) true _ ?side1 ?side2 ?side3 ?side4 A31.out).mono ?_
                (case side1 => repeat (first | exact (Kd.C_below HR492_2.out (by repeat (first | (with_reducible first | exact HB.out | apply xa | apply xn | apply xd | refine xt ?_ GE488.out | refine xt ?_ GE493.out) | exact HB.out))) | (with_reducible refine Kd.C_alloc ?_ _) | (with_reducible refine Kd.C_drewN ?_ _) | (with_reducible refine Kd.C_drew ?_)))
                (case side2 => exact HC492_2.out)
                (case side3 => repeat (first | exact (Kd.C_below HR495.out (by repeat (first | (with_reducible first | exact HB.out | apply xa | apply xn | apply xd | refine xt ?_ GE488.out | refine xt ?_ GE493.out) | exact HB.out))) | (with_reducible refine Kd.C_alloc ?_ _) | (with_reducible refine Kd.C_drewN ?_ _) | (with_reducible refine Kd.C_drew ?_)))
                (case side4 => exact HC495.out)
                rintro e w' ⟨rfl, ⟨nd, rfl⟩⟩
                refine ⟨_, rfl, ?_⟩
                refine hK.out _ _ ⟨(xc BK493.out 0).trans rfl, (xc BK493.out 1).trans rfl, (xc BK493.out 2).trans rfl, (xc BK488.out 0).trans rfl, (xc BK488.out 1).trans rfl, (xc BK488.out 2).trans rfl, (xc BK488.out 3).trans rfl, (xc BK488.out 4).trans rfl, (xc BK488.out 5).trans rfl, (xc BK488.out 6).trans rfl⟩ (fun hHeld => ?_)
                clear hK K
                refine norm_ (a' := ?_) ?_ ?_
                rotate_left
                ·show Act.put _ (some 74) _ = _
                 simp only [Act.put, xi, xj, xk, i64_w, i32_w]
                 rfl
                refine pure_ (i := 24) (N := some 75) (v := ?_) (a' := ?_) #[Y,Y,Y,Y,Y,Y,Y,Y,Y,Y,Y,Y,Y,Y,Y,Y,Y,Y,Y,Y,Y,Y,Y,Y,Y,Z,Z,Z,Z,Z,Z] rfl rfl (any_of HT_.out (by kernel_rfl)) (fun _ _ _ h => h) (Or.inl ⟨by rfl, ?_⟩) ?_ ?_
                rotate_left
                ·intro w'
                 go_simp
                 with_reducible rfl
                rotate_left
                ·simp only [Act.put, xi, xj, xk, i64_w, i32_w]
                 rfl
                refine pure_ (i := 25) (N := some 76) (v := ?_) (a' := ?_) #[Y,Y,Y,Y,Y,Y,Y,Y,Y,Y,Y,Y,Y,Y,Y,Y,Y,Y,Y,Y,Y,Y,Y,Y,Y,Y,Z,Z,Z,Z,Z] rfl rfl (any_of HT_.out (by kernel_rfl)) (fun _ _ _ h => h) (Or.inl ⟨by rfl, ?_⟩) ?_ ?_
                rotate_left
                ·intro w'
                 go_simp
                 with_reducible rfl
                rotate_left
                ·simp only [Act.put, xi, xj, xk, i64_w, i32_w]
                 rfl
                refine pure_ (i := 26) (N := some 77) (v := ?_) (a' := ?_) #[Y,Y,Y,Y,Y,Y,Y,Y,Y,Y,Y,Y,Y,Y,Y,Y,Y,Y,Y,Y,Y,Y,Y,Y,Y,Y,Y,Z,Z,Z,Z] rfl rfl (any_of HT_.out (by kernel_rfl)) (fun _ _ _ h => h) (Or.inl ⟨by rfl, ?_⟩) ?_ ?_
                rotate_left
                ·intro w'
                 go_simp
                 with_reducible rfl
                rotate_left
                ·simp only [Act.put, xi, xj, xk, i64_w, i32_w]
                 rfl
                refine pure_ (i := 27) (N := some 78) (v := ?_) (a' := ?_) #[Y,Y,Y,Y,Y,Y,Y,Y,Y,Y,Y,Y,Y,Y,Y,Y,Y,Y,Y,Y,Y,Y,Y,Y,Y,Y,Y,Y,Z,Z,Z] rfl rfl (any_of HT_.out (by kernel_rfl)) (fun _ _ _ h => h) (Or.inl ⟨by rfl, ?_⟩) ?_ ?_
                rotate_left
                ·intro w'
                 go_simp
                 with_reducible rfl
                rotate_left
                ·simp only [Act.put, xi, xj, xk, i64_w, i32_w]
                 rfl
                refine take_ (i := 28) (N := some 79) (v := ?_) (a' := ?_) #[Y,Y,Y,Y,Y,Y,Y,Y,Y,Y,Y,Y,Y,Y,Y,Y,Y,Y,Y,Y,Y,Y,Y,Y,Y,Y,Y,Y,Y,Z,Z] rfl rfl (take_ofW HT_.out HW_.out (by kernel_rfl)) (fun _ _ _ h => h) (Or.inl ⟨by rfl, ?_⟩) hHeld ?_ ?_
                rotate_left
                ·rintro w' ⟨s0, s1, s2, s3, s4, s5, s6, s7, s8, s9⟩
                 go_simp
                 with_reducible rfl
                rotate_left
                ·simp only [Act.put, xi, xj, xk, i64_w, i32_w]
                 rfl
                refine pure_ (i := 29) (N := some 80) (v := ?_) (a' := ?_) #[Y,Y,Y,Y,Y,Y,Y,Y,Y,Y,Y,Y,Y,Y,Y,Y,Y,Y,Y,Y,Y,Y,Y,Y,Y,Y,Y,Y,Y,Y,Z] rfl rfl (any_of HT_.out (by kernel_rfl)) (fun _ _ _ h => h) (Or.inl ⟨by rfl, ?_⟩) ?_ ?_
                rotate_left
                ·intro w'
                 go_simp
                 with_reducible rfl
                rotate_left
                ·simp only [Act.put, xi, xj, xk, i64_w, i32_w]
                 rfl
                refine pure_ (i := 30) (N := some 81) (v := ?_) (a' := ?_) #[Y,Y,Y,Y,Y,Y,Y,Y,Y,Y,Y,Y,Y,Y,Y,Y,Y,Y,Y,Y,Y,Y,Y,Y,Y,Y,Y,Y,Y,Y,Y] rfl rfl (any_of HT_.out (by kernel_rfl)) (fun _ _ _ h => h) (Or.inl ⟨by rfl, ?_⟩) ?_ ?_
                rotate_left
                ·intro w'
                 go_simp
                 with_reducible rfl
                rotate_left
                ·simp only [Act.put, xi, xj, xk, i64_w, i32_w]
                 rfl
                refine done_ (done_of HT_.out (by kernel_rfl)) ?_
                try go_wp2
                go_meet
                case rel => exact ⟨_, (decide (((rd_T130 l0_3 x47_2).f0) > 1000)), (by first | rfl | (simp; done) | (simp [*]; done)), H', ⟨by have := HJ1.out; have := HK2.out; first | omega | exact Nat.le_refl _⟩, ⟨by (with_reducible repeat (first | refine xq ?_ _ | refine xr ?_ | refine xo ?_ _)); exact BK488.out⟩, ⟨by (with_reducible repeat (first | refine xq ?_ _ | refine xr ?_ | refine xo ?_ _)); exact BK493.out⟩, ⟨by repeat (first | (with_reducible first | exact HB.out | apply xa | apply xn | apply xd | refine xt ?_ GE488.out | refine xt ?_ GE493.out) | exact HB.out)⟩⟩
               ·replace c32 := Bool.eq_false_iff.mpr c32
                subst c32
                have H1 : (spec_GoodSink.j2 k2 l0_3 (l0_3.length : Int) x47_2 true l0_0 a0_1 l0_2 l0_3 l0_4 a0_5 a0_6 ((rd_T130 l0_3 x47_2).f0) ((rd_T130 l0_3 x47_2).f1) ((rd_T130 l0_3 x47_2).f2)) = some r := by first | (with_reducible rfl) | (rw [if_neg (show ¬ (false = true) by decide)] at H; exact H)
                clear H
                have H := H1
                clear H1
                have H' := xm H
                clear H
                try go_wp2
                have n0_ : Aside0 ((((w22.setCell ⟨gb493, 0, none⟩ (.int .i64 ((rd_T130 l0_3 x47_2).f0))).setCell ⟨gb493, 1, none⟩ (.int .i64 ((rd_T130 l0_3 x47_2).f1))).setCell ⟨gb493, 2, none⟩ (.slice A492_2 ((rd_T130 l0_3 x47_2).f2).length c492_2)).heap[gb488]? = some (.cells #[.slice A0_0 l0_0.length c0_0, .int .i64 a0_1, .slice A0_2 l0_2.length c0_2, .slice (some ad492) l0_3.length c0_3, .slice A0_4 l0_4.length c0_4, .int .i64 a0_5, .int .i64 a0_6] 34 (0, 0))) := ⟨by (with_reducible repeat (first | refine xq ?_ _ | refine xr ?_ | refine xo ?_ _)); refine blk_far ?_ NB488_493.out _; (with_reducible repeat (first | refine xq ?_ _ | refine xr ?_ | refine xo ?_ _)); refine blk_far ?_ NB488_493.out _; (with_reducible repeat (first | refine xq ?_ _ | refine xr ?_ | refine xo ?_ _)); refine blk_far ?_ NB488_493.out _; (with_reducible repeat (first | refine xq ?_ _ | refine xr ?_ | refine xo ?_ _)); exact BK488.out⟩
                have n1_ : Aside0 ((((w22.setCell ⟨gb493, 0, none⟩ (.int .i64 ((rd_T130 l0_3 x47_2).f0))).setCell ⟨gb493, 1, none⟩ (.int .i64 ((rd_T130 l0_3 x47_2).f1))).setCell ⟨gb493, 2, none⟩ (.slice A492_2 ((rd_T130 l0_3 x47_2).f2).length c492_2)).heap[gb493]? = some (.cells #[.int .i64 ((rd_T130 l0_3 x47_2).f0), .int .i64 ((rd_T130 l0_3 x47_2).f1), .slice A492_2 ((rd_T130 l0_3 x47_2).f2).length c492_2] 130 (0, 0))) := ⟨by (with_reducible repeat (first | refine xq ?_ _ | refine xr ?_ | refine xo ?_ _)); refine blk_put (cs := #[.int .i64 ((rd_T130 l0_3 x47_2).f0), .int .i64 ((rd_T130 l0_3 x47_2).f1), .slice none 0 0]) ?_ 2 _ rfl; (with_reducible repeat (first | refine xq ?_ _ | refine xr ?_ | refine xo ?_ _)); refine blk_put (cs := #[.int .i64 ((rd_T130 l0_3 x47_2).f0), .int .i64 0, .slice none 0 0]) ?_ 1 _ rfl; (with_reducible repeat (first | refine xq ?_ _ | refine xr ?_ | refine xo ?_ _)); refine blk_put (cs := #[.int .i64 0, .int .i64 0, .slice none 0 0]) ?_ 0 _ rfl; (with_reducible repeat (first | refine xq ?_ _ | refine xr ?_ | refine xo ?_ _)); exact BK493.out⟩
                have n2_ : Aside0 (Below w.heap.size w (((w22.setCell ⟨gb493, 0, none⟩ (.int .i64 ((rd_T130 l0_3 x47_2).f0))).setCell ⟨gb493, 1, none⟩ (.int .i64 ((rd_T130 l0_3 x47_2).f1))).setCell ⟨gb493, 2, none⟩ (.slice A492_2 ((rd_T130 l0_3 x47_2).f2).length c492_2))) := ⟨by repeat (first | (with_reducible first | exact HB.out | apply xa | apply xn | apply xd | refine xt ?_ GE488.out | refine xt ?_ GE493.out) | exact HB.out)⟩
                (try clear BK488)
                (try clear BK493)
                (try clear HB)
                generalize (((w22.setCell ⟨gb493, 0, none⟩ (.int .i64 ((rd_T130 l0_3 x47_2).f0))).setCell ⟨gb493, 1, none⟩ (.int .i64 ((rd_T130 l0_3 x47_2).f1))).setCell ⟨gb493, 2, none⟩ (.slice A492_2 ((rd_T130 l0_3 x47_2).f2).length c492_2)) = w36 at n0_ n1_ n2_ ⊢
                have BK488 := n0_
                have BK493 := n1_
                have HB := n2_
                clear n0_ n1_ n2_
                have n0_ := xm (xr BK488.out)
                have n1_ := xm (xr BK493.out)
                have n2_ := xm (xd HB.out)
                clear BK488
                clear BK493
                clear HB
                have BK488 := n0_
                have BK493 := n1_
                have HB := n2_
                clear n0_ n1_ n2_
                refine start_ (n := 31) (S := fun w' => w'.cell? ⟨gb493, 0, none⟩ = some (.int .i64 ((rd_T130 l0_3 x47_2).f0)) ∧ w'.cell? ⟨gb493, 1, none⟩ = some (.int .i64 ((rd_T130 l0_3 x47_2).f1)) ∧ w'.cell? ⟨gb493, 2, none⟩ = some (.slice A492_2 ((rd_T130 l0_3 x47_2).f2).length c492_2) ∧ w'.cell? ⟨gb488, 0, none⟩ = some (.slice A0_0 l0_0.length c0_0) ∧ w'.cell? ⟨gb488, 1, none⟩ = some (.int .i64 a0_1) ∧ w'.cell? ⟨gb488, 2, none⟩ = some (.slice A0_2 l0_2.length c0_2) ∧ w'.cell? ⟨gb488, 3, none⟩ = some (.slice (some ad492) l0_3.length c0_3) ∧ w'.cell? ⟨gb488, 4, none⟩ = some (.slice A0_4 l0_4.length c0_4) ∧ w'.cell? ⟨gb488, 5, none⟩ = some (.int .i64 a0_5) ∧ w'.cell? ⟨gb488, 6, none⟩ = some (.int .i64 a0_6)) (ds := []) #[Z,Z,Z,Z,Z,Z,Z,Z,Z,Z,Z,Z,Z,Z,Z,Z,Z,Z,Z,Z,Z,Z,Z,Z,Z,Z,Z,Z,Z,Z,Z] (by kernel_rfl) rfl rfl ⟨(xc BK493.out 0).trans rfl, (xc BK493.out 1).trans rfl, (xc BK493.out 2).trans rfl, (xc BK488.out 0).trans rfl, (xc BK488.out 1).trans rfl, (xc BK488.out 2).trans rfl, (xc BK488.out 3).trans rfl, (xc BK488.out 4).trans rfl, (xc BK488.out 5).trans rfl, (xc BK488.out 6).trans rfl⟩ (fun hHeld => ?_); refine with_tabW spec_GoodSink.tab8 spec_GoodSink.bits8 (fun HT_ HW_ => ?_)
                generalize w36.drew = w37 at BK488 BK493 HB hHeld ⊢
                refine pure_ (i := 0) (N := some 51) (v := ?_) (a' := ?_) #[Y,Z,Z,Z,Z,Z,Z,Z,Z,Z,Z,Z,Z,Z,Z,Z,Z,Z,Z,Z,Z,Z,Z,Z,Z,Z,Z,Z,Z,Z,Z] rfl rfl (any_of HT_.out (by kernel_rfl)) (fun _ _ _ h => h) (Or.inl ⟨by rfl, ?_⟩) ?_ ?_
                rotate_left
                ·intro w'
                 go_simp
                 with_reducible rfl
                rotate_left
                ·simp only [Act.put, xi, xj, xk, i64_w, i32_w]
                 rfl
                refine pure_ (i := 2) (N := some 53) (v := ?_) (a' := ?_) #[Y,Z,Y,Z,Z,Z,Z,Z,Z,Z,Z,Z,Z,Z,Z,Z,Z,Z,Z,Z,Z,Z,Z,Z,Z,Z,Z,Z,Z,Z,Z] rfl rfl (any_of HT_.out (by kernel_rfl)) (fun _ _ _ h => h) (Or.inl ⟨by rfl, ?_⟩) ?_ ?_
                rotate_left
                ·intro w'
                 go_simp
                 with_reducible rfl
                rotate_left
                ·simp only [Act.put, xi, xj, xk, i64_w, i32_w]
                 rfl
                refine pure_ (i := 3) (N := some 54) (v := ?_) (a' := ?_) #[Y,Z,Y,Y,Z,Z,Z,Z,Z,Z,Z,Z,Z,Z,Z,Z,Z,Z,Z,Z,Z,Z,Z,Z,Z,Z,Z,Z,Z,Z,Z] rfl rfl (any_of HT_.out (by kernel_rfl)) (fun _ _ _ h => h) (Or.inl ⟨by rfl, ?_⟩) ?_ ?_
                rotate_left
                ·intro w'
                 go_simp
                 with_reducible rfl
                rotate_left
                ·simp only [Act.put, xi, xj, xk, i64_w, i32_w]
                 rfl
                refine take_ (i := 1) (N := some 52) (v := ?_) (a' := ?_) #[Y,Y,Y,Y,Z,Z,Z,Z,Z,Z,Z,Z,Z,Z,Z,Z,Z,Z,Z,Z,Z,Z,Z,Z,Z,Z,Z,Z,Z,Z,Z] rfl rfl (take_ofW HT_.out HW_.out (by kernel_rfl)) (fun _ _ _ h => h) (Or.inl ⟨by rfl, ?_⟩) hHeld ?_ ?_
                rotate_left
                ·rintro w' ⟨s0, s1, s2, s3, s4, s5, s6, s7, s8, s9⟩
                 go_simp
                 with_reducible rfl
                rotate_left
                ·simp only [Act.put, xi, xj, xk, i64_w, i32_w]
                 rfl
                refine pure_ (i := 4) (N := some 55) (v := ?_) (a' := ?_) #[Y,Y,Y,Y,Y,Z,Z,Z,Z,Z,Z,Z,Z,Z,Z,Z,Z,Z,Z,Z,Z,Z,Z,Z,Z,Z,Z,Z,Z,Z,Z] rfl rfl (any_of HT_.out (by kernel_rfl)) (fun _ _ _ h => h) (Or.inl ⟨by rfl, ?_⟩) ?_ ?_
                rotate_left
                ·intro w'
                 go_simp
                 with_reducible rfl
                rotate_left
                ·simp only [Act.put, xi, xj, xk, i64_w, i32_w]
                 rfl
                refine pure_ (i := 5) (N := some 56) (v := ?_) (a' := ?_) #[Y,Y,Y,Y,Y,Y,Z,Z,Z,Z,Z,Z,Z,Z,Z,Z,Z,Z,Z,Z,Z,Z,Z,Z,Z,Z,Z,Z,Z,Z,Z] rfl rfl (any_of HT_.out (by kernel_rfl)) (fun _ _ _ h => h) (Or.inl ⟨by rfl, ?_⟩) ?_ ?_
                rotate_left
                ·intro w'
                 go_simp
                 with_reducible rfl
                rotate_left
                ·simp only [Act.put, xi, xj, xk, i64_w, i32_w]
                 rfl
                refine pure_ (i := 6) (N := some 57) (v := ?_) (a' := ?_) #[Y,Y,Y,Y,Y,Y,Y,Z,Z,Z,Z,Z,Z,Z,Z,Z,Z,Z,Z,Z,Z,Z,Z,Z,Z,Z,Z,Z,Z,Z,Z] rfl rfl (any_of HT_.out (by kernel_rfl)) (fun _ _ _ h => h) (Or.inl ⟨by rfl, ?_⟩) ?_ ?_
                rotate_left
                ·intro w'
                 go_simp
                 with_reducible rfl
                rotate_left
                ·simp only [Act.put, xi, xj, xk, i64_w, i32_w]
                 rfl
                refine pure_ (i := 8) (N := some 59) (v := ?_) (a' := ?_) #[Y,Y,Y,Y,Y,Y,Y,Z,Y,Z,Z,Z,Z,Z,Z,Z,Z,Z,Z,Z,Z,Z,Z,Z,Z,Z,Z,Z,Z,Z,Z] rfl rfl (any_of HT_.out (by kernel_rfl)) (fun _ _ _ h => h) (Or.inl ⟨by rfl, ?_⟩) ?_ ?_
                rotate_left
                ·intro w'
                 go_simp
                 with_reducible rfl
                rotate_left
                ·simp only [Act.put, xi, xj, xk, i64_w, i32_w]
                 rfl
                refine pure_ (i := 9) (N := some 60) (v := ?_) (a' := ?_) #[Y,Y,Y,Y,Y,Y,Y,Z,Y,Y,Z,Z,Z,Z,Z,Z,Z,Z,Z,Z,Z,Z,Z,Z,Z,Z,Z,Z,Z,Z,Z] rfl rfl (any_of HT_.out (by kernel_rfl)) (fun _ _ _ h => h) (Or.inl ⟨by rfl, ?_⟩) ?_ ?_
                rotate_left
                ·intro w'
                 go_simp
                 with_reducible rfl
                rotate_left
                ·simp only [Act.put, xi, xj, xk, i64_w, i32_w]
                 rfl
                refine take_ (i := 7) (N := some 58) (v := ?_) (a' := ?_) #[Y,Y,Y,Y,Y,Y,Y,Y,Y,Y,Z,Z,Z,Z,Z,Z,Z,Z,Z,Z,Z,Z,Z,Z,Z,Z,Z,Z,Z,Z,Z] rfl rfl (take_ofW HT_.out HW_.out (by kernel_rfl)) (fun _ _ _ h => h) (Or.inl ⟨by rfl, ?_⟩) hHeld ?_ ?_
                rotate_left
                ·rintro w' ⟨s0, s1, s2, s3, s4, s5, s6, s7, s8, s9⟩
                 go_simp
                 with_reducible rfl
                rotate_left
                ·simp only [Act.put, xi, xj, xk, i64_w, i32_w]
                 rfl
                refine take_ (i := 10) (N := some 61) (v := ?_) (a' := ?_) #[Y,Y,Y,Y,Y,Y,Y,Y,Y,Y,Y,Z,Z,Z,Z,Z,Z,Z,Z,Z,Z,Z,Z,Z,Z,Z,Z,Z,Z,Z,Z] rfl rfl (take_ofW HT_.out HW_.out (by kernel_rfl)) (fun _ _ _ h => h) (Or.inl ⟨by rfl, ?_⟩) hHeld ?_ ?_
                rotate_left
                ·rintro w' ⟨s0, s1, s2, s3, s4, s5, s6, s7, s8, s9⟩
                 go_simp
                 with_reducible rfl
                rotate_left
                ·simp only [Act.put, xi, xj, xk, i64_w, i32_w]
                 rfl
                refine one_ (i := 11) (N := some 62) #[Y,Y,Y,Y,Y,Y,Y,Y,Y,Y,Y,Y,Z,Z,Z,Z,Z,Z,Z,Z,Z,Z,Z,Z,Z,Z,Z,Z,Z,Z,Z] rfl rfl (one_of HT_.out (by kernel_rfl)) (by decide) (fun K hK => ?_)
                refine goes_ Try.func102 (by kernel_rfl) rfl #[.int .i64 ((rd_T130 l0_3 x47_2).f1), .int .i64 x3_2, .int .i64 a0_1] (by rfl) rfl rfl (by (try simp only [List.map_toArray, List.map_cons, List.map_nil]); first | done | rfl | (simp only [List.length_drop, List.length_take]; rfl)) ?_
                with_reducible refine (spec_l1In.calls ((rd_T130 l0_3 x47_2).f1) x3_2 a0_1 true _ A26.out).mono ?_
                rintro e w' ⟨rfl, ⟨nd, rfl⟩⟩
                refine ⟨_, rfl, ?_⟩
                obtain ⟨i038, hi038, _, hsz38, _⟩ := info_parts info3
                obtain ⟨A38, hcut38, hA38, hC38⟩ := print_mid_of (P := Try.prog) (Value.int .i64) 0 31 3 .i64 .i64 Try.underlying31 hi038 hsz38 A0_0 c0_0 l0_0 x3_2 ((rd_T130 l0_3 x47_2).f1) (of_decide_eq_true (by first | (with_reducible assumption) | assumption)) (by first | omega | exact of_decide_eq_true (by first | (with_reducible assumption) | assumption)) (of_decide_eq_true (by first | (with_reducible assumption) | assumption)) HC0_0.out
                have HR495 := xm (Kd.C_of_reads (h1 := fun _ => rfl) (hA38 _ (Kd.reads_of_C HR0_0.out)))
                have HC495 := xm hC38
                clear hA38 hC38 hi038 hsz38
                refine hK.out _ _ ⟨(xc BK493.out 0).trans rfl, (xc BK493.out 1).trans rfl, (xc BK493.out 2).trans rfl, (xc BK488.out 0).trans rfl, (xc BK488.out 1).trans rfl, (xc BK488.out 2).trans rfl, (xc BK488.out 3).trans rfl, (xc BK488.out 4).trans rfl, (xc BK488.out 5).trans rfl, (xc BK488.out 6).trans rfl⟩ (fun hHeld => ?_)
                clear hK K
                refine norm_ (a' := ?_) ?_ ?_
                rotate_left
                ·show Act.put _ (some 62) _ = _
                 simp only [Act.put, xi, xj, xk, i64_w, i32_w]
                 rfl
                refine pure_ (i := 12) (N := some 63) (v := ?_) (a' := ?_) #[Y,Y,Y,Y,Y,Y,Y,Y,Y,Y,Y,Y,Y,Z,Z,Z,Z,Z,Z,Z,Z,Z,Z,Z,Z,Z,Z,Z,Z,Z,Z] rfl rfl (any_of HT_.out (by kernel_rfl)) (fun _ _ _ h => h) (Or.inl ⟨by rfl, ?_⟩) ?_ ?_
                rotate_left
                ·intro w'
                 go_simp
                 with_reducible rfl
                rotate_left
                ·simp only [Act.put, xi, xj, xk, i64_w, i32_w]
                 rfl
                refine pure_ (i := 13) (N := some 64) (v := ?_) (a' := ?_) #[Y,Y,Y,Y,Y,Y,Y,Y,Y,Y,Y,Y,Y,Y,Z,Z,Z,Z,Z,Z,Z,Z,Z,Z,Z,Z,Z,Z,Z,Z,Z] rfl rfl (any_of HT_.out (by kernel_rfl)) (fun _ _ _ h => h) (Or.inl ⟨by rfl, ?_⟩) ?_ ?_
                rotate_left
                ·intro w'
                 go_simp
                 with_reducible rfl
                rotate_left
                ·simp only [Act.put, xi, xj, xk, i64_w, i32_w]
                 rfl
                refine pure_ (i := 14) (N := some 65) (v := ?_) (a' := ?_) #[Y,Y,Y,Y,Y,Y,Y,Y,Y,Y,Y,Y,Y,Y,Y,Z,Z,Z,Z,Z,Z,Z,Z,Z,Z,Z,Z,Z,Z,Z,Z] rfl rfl (any_of HT_.out (by kernel_rfl)) (fun _ _ _ h => h) (Or.inl ⟨by rfl, ?_⟩) ?_ ?_
                rotate_left
                ·intro w'
                 go_simp
                 with_reducible rfl
                rotate_left
                ·simp only [Act.put, xi, xj, xk, i64_w, i32_w]
                 rfl
                refine pure_ (i := 15) (N := some 66) (v := ?_) (a' := ?_) #[Y,Y,Y,Y,Y,Y,Y,Y,Y,Y,Y,Y,Y,Y,Y,Y,Z,Z,Z,Z,Z,Z,Z,Z,Z,Z,Z,Z,Z,Z,Z] rfl rfl (any_of HT_.out (by kernel_rfl)) (fun _ _ _ h => h) (Or.inl ⟨by rfl, ?_⟩) ?_ ?_
                rotate_left
                ·intro w'
                 go_simp
                 with_reducible rfl
                rotate_left
                ·simp only [Act.put, xi, xj, xk, i64_w, i32_w]
                 rfl
                refine pure_ (i := 17) (N := some 68) (v := ?_) (a' := ?_) #[Y,Y,Y,Y,Y,Y,Y,Y,Y,Y,Y,Y,Y,Y,Y,Y,Z,Y,Z,Z,Z,Z,Z,Z,Z,Z,Z,Z,Z,Z,Z] rfl rfl (any_of HT_.out (by kernel_rfl)) (fun _ _ _ h => h) (Or.inl ⟨by rfl, ?_⟩) ?_ ?_
                rotate_left
                ·intro w'
                 go_simp
                 with_reducible rfl
                rotate_left
                ·simp only [Act.put, xi, xj, xk, i64_w, i32_w]
                 rfl
                refine pure_ (i := 19) (N := some 70) (v := ?_) (a' := ?_) #[Y,Y,Y,Y,Y,Y,Y,Y,Y,Y,Y,Y,Y,Y,Y,Y,Z,Y,Z,Y,Z,Z,Z,Z,Z,Z,Z,Z,Z,Z,Z] rfl rfl (any_of HT_.out (by kernel_rfl)) (fun _ _ _ h => h) (Or.inl ⟨by rfl, ?_⟩) ?_ ?_
                rotate_left
                ·intro w'
                 go_simp
                 with_reducible rfl
                rotate_left
                ·simp only [Act.put, xi, xj, xk, i64_w, i32_w]
                 rfl
                refine pure_ (i := 20) (N := some 71) (v := ?_) (a' := ?_) #[Y,Y,Y,Y,Y,Y,Y,Y,Y,Y,Y,Y,Y,Y,Y,Y,Z,Y,Z,Y,Y,Z,Z,Z,Z,Z,Z,Z,Z,Z,Z] rfl rfl (any_of HT_.out (by kernel_rfl)) (fun _ _ _ h => h) (Or.inl ⟨by rfl, ?_⟩) ?_ ?_
                rotate_left
                ·intro w'
                 go_simp
                 with_reducible rfl
                rotate_left
                ·simp only [Act.put, xi, xj, xk, i64_w, i32_w]
                 rfl
                refine take_ (i := 16) (N := some 67) (v := ?_) (a' := ?_) #[Y,Y,Y,Y,Y,Y,Y,Y,Y,Y,Y,Y,Y,Y,Y,Y,Y,Y,Z,Y,Y,Z,Z,Z,Z,Z,Z,Z,Z,Z,Z] rfl rfl (take_ofW HT_.out HW_.out (by kernel_rfl)) (fun _ _ _ h => h) (Or.inl ⟨by rfl, ?_⟩) hHeld ?_ ?_
                rotate_left
                ·rintro w' ⟨s0, s1, s2, s3, s4, s5, s6, s7, s8, s9⟩
                 go_simp
                 with_reducible rfl
                rotate_left
                ·simp only [Act.put, xi, xj, xk, i64_w, i32_w]
                 rfl
                refine take_ (i := 18) (N := some 69) (v := ?_) (a' := ?_) #[Y,Y,Y,Y,Y,Y,Y,Y,Y,Y,Y,Y,Y,Y,Y,Y,Y,Y,Y,Y,Y,Z,Z,Z,Z,Z,Z,Z,Z,Z,Z] rfl rfl (take_ofW HT_.out HW_.out (by kernel_rfl)) (fun _ _ _ h => h) (Or.inl ⟨by rfl, ?_⟩) hHeld ?_ ?_
                rotate_left
                ·rintro w' ⟨s0, s1, s2, s3, s4, s5, s6, s7, s8, s9⟩
                 go_simp
                 with_reducible rfl
                rotate_left
                ·simp only [Act.put, xi, xj, xk, i64_w, i32_w]
                 rfl
                refine take_ (i := 21) (N := some 72) (v := ?_) (a' := ?_) #[Y,Y,Y,Y,Y,Y,Y,Y,Y,Y,Y,Y,Y,Y,Y,Y,Y,Y,Y,Y,Y,Y,Z,Z,Z,Z,Z,Z,Z,Z,Z] rfl rfl (take_ofW HT_.out HW_.out (by kernel_rfl)) (fun _ _ _ h => h) (Or.inl ⟨by rfl, ?_⟩) hHeld ?_ ?_
                rotate_left
                ·rintro w' ⟨s0, s1, s2, s3, s4, s5, s6, s7, s8, s9⟩
                 go_simp
                 with_reducible rfl
                rotate_left
                ·simp only [Act.put, xi, xj, xk, i64_w, i32_w]
                 rfl
                refine pure_ (i := 22) (N := some 73) (v := ?_) (a' := ?_) #[Y,Y,Y,Y,Y,Y,Y,Y,Y,Y,Y,Y,Y,Y,Y,Y,Y,Y,Y,Y,Y,Y,Y,Z,Z,Z,Z,Z,Z,Z,Z] rfl rfl (any_of HT_.out (by kernel_rfl)) (fun _ _ _ h => h) (Or.inl ⟨by rfl, ?_⟩) ?_ ?_
                rotate_left
                ·intro w'
                 go_simp
                 with_reducible rfl
                rotate_left
                ·simp only [Act.put, xi, xj, xk, i64_w, i32_w]
                 rfl
                refine one_ (i := 23) (N := some 74) #[Y,Y,Y,Y,Y,Y,Y,Y,Y,Y,Y,Y,Y,Y,Y,Y,Y,Y,Y,Y,Y,Y,Y,Y,Z,Z,Z,Z,Z,Z,Z] rfl rfl (one_of HT_.out (by kernel_rfl)) (by decide) (fun K hK => ?_)
                refine goes_ Try.func109 (by kernel_rfl) rfl #[.slice A492_2 ((rd_T130 l0_3 x47_2).f2).length c492_2, .slice A38 ((l0_0.take (((rd_T130 l0_3 x47_2).f1) : Int).toNat).drop (x3_2 : Int).toNat).length (c0_0 - x3_2.toNat)] (by rfl) rfl rfl (by (try simp only [List.map_toArray, List.map_cons, List.map_nil]); first | done | (rw [show ((l0_0.take (((rd_T130 l0_3 x47_2).f1) : Int).toNat).drop (x3_2 : Int).toNat).length = (((rd_T130 l0_3 x47_2).f1).toNat - x3_2.toNat) from (by rw [List.length_drop, List.length_take]; have h_ : (((rd_T130 l0_3 x47_2).f1) : Int) ≤ (l0_0.length : Int) := of_decide_eq_true (by first | (with_reducible assumption) | assumption); omega)] <;> rfl) | rfl | (simp only [List.length_drop, List.length_take]; rfl)) ?_
                with_reducible refine (spec_l16Same.calls k2 _ _ ((rd_T130 l0_3 x47_2).f2) _ _ ((l0_0.take (((rd_T130 l0_3 x47_2).f1) : Int).toNat).drop (x3_2 : Int).toNat) false _ ?side1 ?side2 ?side3 ?side4 A31.out).mono ?_
                (case side1 => repeat (first | exact (Kd.C_below HR492_2.out (by repeat (first | (with_reducible first | exact HB.out | apply xa | apply xn | apply xd | refine xt ?_ GE488.out | refine xt ?_ GE493.out) | exact HB.out))) | (with_reducible refine Kd.C_alloc ?_ _) | (with_reducible refine Kd.C_drewN ?_ _) | (with_reducible refine Kd.C_drew ?_)))
                (case side2 => exact HC492_2.out)
                (case side3 => repeat (first | exact (Kd.C_below HR495.out (by repeat (first | (with_reducible first | exact HB.out | apply xa | apply xn | apply xd | refine xt ?_ GE488.out | refine xt ?_ GE493.out) | exact HB.out))) | (with_reducible refine Kd.C_alloc ?_ _) | (with_reducible refine Kd.C_drewN ?_ _) | (with_reducible refine Kd.C_drew ?_)))
                (case side4 => exact HC495.out)
                rintro e w' ⟨rfl, ⟨nd, rfl⟩⟩
                refine ⟨_, rfl, ?_⟩
                refine hK.out _ _ ⟨(xc BK493.out 0).trans rfl, (xc BK493.out 1).trans rfl, (xc BK493.out 2).trans rfl, (xc BK488.out 0).trans rfl, (xc BK488.out 1).trans rfl, (xc BK488.out 2).trans rfl, (xc BK488.out 3).trans rfl, (xc BK488.out 4).trans rfl, (xc BK488.out 5).trans rfl, (xc BK488.out 6).trans rfl⟩ (fun hHeld => ?_)
                clear hK K
                refine norm_ (a' := ?_) ?_ ?_
                rotate_left
                ·show Act.put _ (some 74) _ = _
                 simp only [Act.put, xi, xj, xk, i64_w, i32_w]
                 rfl
                refine pure_ (i := 24) (N := some 75) (v := ?_) (a' := ?_) #[Y,Y,Y,Y,Y,Y,Y,Y,Y,Y,Y,Y,Y,Y,Y,Y,Y,Y,Y,Y,Y,Y,Y,Y,Y,Z,Z,Z,Z,Z,Z] rfl rfl (any_of HT_.out (by kernel_rfl)) (fun _ _ _ h => h) (Or.inl ⟨by rfl, ?_⟩) ?_ ?_
                rotate_left
                ·intro w'
                 go_simp
                 with_reducible rfl
                rotate_left
                ·simp only [Act.put, xi, xj, xk, i64_w, i32_w]
                 rfl
                refine pure_ (i := 25) (N := some 76) (v := ?_) (a' := ?_) #[Y,Y,Y,Y,Y,Y,Y,Y,Y,Y,Y,Y,Y,Y,Y,Y,Y,Y,Y,Y,Y,Y,Y,Y,Y,Y,Z,Z,Z,Z,Z] rfl rfl (any_of HT_.out (by kernel_rfl)) (fun _ _ _ h => h) (Or.inl ⟨by rfl, ?_⟩) ?_ ?_
                rotate_left
                ·intro w'
                 go_simp
                 with_reducible rfl
                rotate_left
                ·simp only [Act.put, xi, xj, xk, i64_w, i32_w]
                 rfl
                refine pure_ (i := 26) (N := some 77) (v := ?_) (a' := ?_) #[Y,Y,Y,Y,Y,Y,Y,Y,Y,Y,Y,Y,Y,Y,Y,Y,Y,Y,Y,Y,Y,Y,Y,Y,Y,Y,Y,Z,Z,Z,Z] rfl rfl (any_of HT_.out (by kernel_rfl)) (fun _ _ _ h => h) (Or.inl ⟨by rfl, ?_⟩) ?_ ?_
                rotate_left
                ·intro w'
                 go_simp
                 with_reducible rfl
                rotate_left
                ·simp only [Act.put, xi, xj, xk, i64_w, i32_w]
                 rfl
                refine pure_ (i := 27) (N := some 78) (v := undef) (a' := ?_) #[Y,Y,Y,Y,Y,Y,Y,Y,Y,Y,Y,Y,Y,Y,Y,Y,Y,Y,Y,Y,Y,Y,Y,Y,Y,Y,Y,Y,Z,Z,Z] rfl rfl (any_of HT_.out (by kernel_rfl)) (fun _ _ _ h => h) (Or.inr ⟨by rfl, rfl⟩) ?_ ?_
                rotate_left
                ·simp only [Act.put, xi, xj, xk, i64_w, i32_w]
                 rfl
                refine pure_ (i := 28) (N := some 79) (v := undef) (a' := ?_) #[Y,Y,Y,Y,Y,Y,Y,Y,Y,Y,Y,Y,Y,Y,Y,Y,Y,Y,Y,Y,Y,Y,Y,Y,Y,Y,Y,Y,Y,Z,Z] rfl rfl (any_of HT_.out (by kernel_rfl)) (fun _ _ _ h => h) (Or.inr ⟨by rfl, rfl⟩) ?_ ?_
                rotate_left
                ·simp only [Act.put, xi, xj, xk, i64_w, i32_w]
                 rfl
                refine pure_ (i := 29) (N := some 80) (v := undef) (a' := ?_) #[Y,Y,Y,Y,Y,Y,Y,Y,Y,Y,Y,Y,Y,Y,Y,Y,Y,Y,Y,Y,Y,Y,Y,Y,Y,Y,Y,Y,Y,Y,Z] rfl rfl (any_of HT_.out (by kernel_rfl)) (fun _ _ _ h => h) (Or.inr ⟨by rfl, rfl⟩) ?_ ?_
                rotate_left
                ·simp only [Act.put, xi, xj, xk, i64_w, i32_w]
                 rfl
                refine pure_ (i := 30) (N := some 81) (v := ?_) (a' := ?_) #[Y,Y,Y,Y,Y,Y,Y,Y,Y,Y,Y,Y,Y,Y,Y,Y,Y,Y,Y,Y,Y,Y,Y,Y,Y,Y,Y,Y,Y,Y,Y] rfl rfl (any_of HT_.out (by kernel_rfl)) (fun _ _ _ h => h) (Or.inl ⟨by rfl, ?_⟩) ?_ ?_
                rotate_left
                ·intro w'
                 go_simp
                 with_reducible rfl
                rotate_left
                ·simp only [Act.put, xi, xj, xk, i64_w, i32_w]
                 rfl
                refine done_ (done_of HT_.out (by kernel_rfl)) ?_
                try go_wp2
                go_meet
                case rel => exact ⟨_, (true), (by first | rfl | (simp; done) | (simp [*]; done)), H', ⟨by have := HJ1.out; have := HK2.out; first | omega | exact Nat.le_refl _⟩, ⟨by (with_reducible repeat (first | refine xq ?_ _ | refine xr ?_ | refine xo ?_ _)); exact BK488.out⟩, ⟨by (with_reducible repeat (first | refine xq ?_ _ | refine xr ?_ | refine xo ?_ _)); exact BK493.out⟩, ⟨by repeat (first | (with_reducible first | exact HB.out | apply xa | apply xn | apply xd | refine xt ?_ GE488.out | refine xt ?_ GE493.out) | exact HB.out)⟩⟩
              ·rw [if_neg c30] at H
               exact absurd H (by simp)
             ·rw [if_neg c29] at H
              exact absurd H (by simp)
            ·rw [if_neg c28] at H
             exact absurd H (by simp)
           ·replace c27 := Bool.eq_false_iff.mpr c27
            subst c27
            have H1 : (spec_GoodSink.j2 k2 l0_3 (l0_3.length : Int) x47_2 true l0_0 a0_1 l0_2 l0_3 l0_4 a0_5 a0_6 ((rd_T130 l0_3 x47_2).f0) ((rd_T130 l0_3 x47_2).f1) ((rd_T130 l0_3 x47_2).f2)) = some r := by first | (with_reducible rfl) | (rw [if_neg (show ¬ (false = true) by decide)] at H; exact H)
            clear H
            have H := H1
            clear H1
            have H' := xm H
            clear H
            try go_wp2
            have n0_ : Aside0 ((((w22.setCell ⟨gb493, 0, none⟩ (.int .i64 ((rd_T130 l0_3 x47_2).f0))).setCell ⟨gb493, 1, none⟩ (.int .i64 ((rd_T130 l0_3 x47_2).f1))).setCell ⟨gb493, 2, none⟩ (.slice A492_2 ((rd_T130 l0_3 x47_2).f2).length c492_2)).heap[gb488]? = some (.cells #[.slice A0_0 l0_0.length c0_0, .int .i64 a0_1, .slice A0_2 l0_2.length c0_2, .slice (some ad492) l0_3.length c0_3, .slice A0_4 l0_4.length c0_4, .int .i64 a0_5, .int .i64 a0_6] 34 (0, 0))) := ⟨by (with_reducible repeat (first | refine xq ?_ _ | refine xr ?_ | refine xo ?_ _)); refine blk_far ?_ NB488_493.out _; (with_reducible repeat (first | refine xq ?_ _ | refine xr ?_ | refine xo ?_ _)); refine blk_far ?_ NB488_493.out _; (with_reducible repeat (first | refine xq ?_ _ | refine xr ?_ | refine xo ?_ _)); refine blk_far ?_ NB488_493.out _; (with_reducible repeat (first | refine xq ?_ _ | refine xr ?_ | refine xo ?_ _)); exact BK488.out⟩
            have n1_ : Aside0 ((((w22.setCell ⟨gb493, 0, none⟩ (.int .i64 ((rd_T130 l0_3 x47_2).f0))).setCell ⟨gb493, 1, none⟩ (.int .i64 ((rd_T130 l0_3 x47_2).f1))).setCell ⟨gb493, 2, none⟩ (.slice A492_2 ((rd_T130 l0_3 x47_2).f2).length c492_2)).heap[gb493]? = some (.cells #[.int .i64 ((rd_T130 l0_3 x47_2).f0), .int .i64 ((rd_T130 l0_3 x47_2).f1), .slice A492_2 ((rd_T130 l0_3 x47_2).f2).length c492_2] 130 (0, 0))) := ⟨by (with_reducible repeat (first | refine xq ?_ _ | refine xr ?_ | refine xo ?_ _)); refine blk_put (cs := #[.int .i64 ((rd_T130 l0_3 x47_2).f0), .int .i64 ((rd_T130 l0_3 x47_2).f1), .slice none 0 0]) ?_ 2 _ rfl; (with_reducible repeat (first | refine xq ?_ _ | refine xr ?_ | refine xo ?_ _)); refine blk_put (cs := #[.int .i64 ((rd_T130 l0_3 x47_2).f0), .int .i64 0, .slice none 0 0]) ?_ 1 _ rfl; (with_reducible repeat (first | refine xq ?_ _ | refine xr ?_ | refine xo ?_ _)); refine blk_put (cs := #[.int .i64 0, .int .i64 0, .slice none 0 0]) ?_ 0 _ rfl; (with_reducible repeat (first | refine xq ?_ _ | refine xr ?_ | refine xo ?_ _)); exact BK493.out⟩
            have n2_ : Aside0 (Below w.heap.size w (((w22.setCell ⟨gb493, 0, none⟩ (.int .i64 ((rd_T130 l0_3 x47_2).f0))).setCell ⟨gb493, 1, none⟩ (.int .i64 ((rd_T130 l0_3 x47_2).f1))).setCell ⟨gb493, 2, none⟩ (.slice A492_2 ((rd_T130 l0_3 x47_2).f2).length c492_2))) := ⟨by repeat (first | (with_reducible first | exact HB.out | apply xa | apply xn | apply xd | refine xt ?_ GE488.out | refine xt ?_ GE493.out) | exact HB.out)⟩
            (try clear BK488)
            (try clear BK493)
            (try clear HB)
            generalize (((w22.setCell ⟨gb493, 0, none⟩ (.int .i64 ((rd_T130 l0_3 x47_2).f0))).setCell ⟨gb493, 1, none⟩ (.int .i64 ((rd_T130 l0_3 x47_2).f1))).setCell ⟨gb493, 2, none⟩ (.slice A492_2 ((rd_T130 l0_3 x47_2).f2).length c492_2)) = w39 at n0_ n1_ n2_ ⊢
            have BK488 := n0_
            have BK493 := n1_
            have HB := n2_
            clear n0_ n1_ n2_
            have n0_ := xm (xr BK488.out)
            have n1_ := xm (xr BK493.out)
            have n2_ := xm (xd HB.out)
            clear BK488
            clear BK493
            clear HB
            have BK488 := n0_
            have BK493 := n1_
            have HB := n2_
            clear n0_ n1_ n2_
            refine start_ (n := 31) (S := fun w' => w'.cell? ⟨gb493, 0, none⟩ = some (.int .i64 ((rd_T130 l0_3 x47_2).f0)) ∧ w'.cell? ⟨gb493, 1, none⟩ = some (.int .i64 ((rd_T130 l0_3 x47_2).f1)) ∧ w'.cell? ⟨gb493, 2, none⟩ = some (.slice A492_2 ((rd_T130 l0_3 x47_2).f2).length c492_2) ∧ w'.cell? ⟨gb488, 0, none⟩ = some (.slice A0_0 l0_0.length c0_0) ∧ w'.cell? ⟨gb488, 1, none⟩ = some (.int .i64 a0_1) ∧ w'.cell? ⟨gb488, 2, none⟩ = some (.slice A0_2 l0_2.length c0_2) ∧ w'.cell? ⟨gb488, 3, none⟩ = some (.slice (some ad492) l0_3.length c0_3) ∧ w'.cell? ⟨gb488, 4, none⟩ = some (.slice A0_4 l0_4.length c0_4) ∧ w'.cell? ⟨gb488, 5, none⟩ = some (.int .i64 a0_5) ∧ w'.cell? ⟨gb488, 6, none⟩ = some (.int .i64 a0_6)) (ds := []) #[Z,Z,Z,Z,Z,Z,Z,Z,Z,Z,Z,Z,Z,Z,Z,Z,Z,Z,Z,Z,Z,Z,Z,Z,Z,Z,Z,Z,Z,Z,Z] (by kernel_rfl) rfl rfl ⟨(xc BK493.out 0).trans rfl, (xc BK493.out 1).trans rfl, (xc BK493.out 2).trans rfl, (xc BK488.out 0).trans rfl, (xc BK488.out 1).trans rfl, (xc BK488.out 2).trans rfl, (xc BK488.out 3).trans rfl, (xc BK488.out 4).trans rfl, (xc BK488.out 5).trans rfl, (xc BK488.out 6).trans rfl⟩ (fun hHeld => ?_); refine with_tabW spec_GoodSink.tab8 spec_GoodSink.bits8 (fun HT_ HW_ => ?_)
            generalize w39.drew = w40 at BK488 BK493 HB hHeld ⊢
            refine pure_ (i := 0) (N := some 51) (v := ?_) (a' := ?_) #[Y,Z,Z,Z,Z,Z,Z,Z,Z,Z,Z,Z,Z,Z,Z,Z,Z,Z,Z,Z,Z,Z,Z,Z,Z,Z,Z,Z,Z,Z,Z] rfl rfl (any_of HT_.out (by kernel_rfl)) (fun _ _ _ h => h) (Or.inl ⟨by rfl, ?_⟩) ?_ ?_
            rotate_left
            ·intro w'
             go_simp
             with_reducible rfl
            rotate_left
            ·simp only [Act.put, xi, xj, xk, i64_w, i32_w]
             rfl
            refine pure_ (i := 2) (N := some 53) (v := ?_) (a' := ?_) #[Y,Z,Y,Z,Z,Z,Z,Z,Z,Z,Z,Z,Z,Z,Z,Z,Z,Z,Z,Z,Z,Z,Z,Z,Z,Z,Z,Z,Z,Z,Z] rfl rfl (any_of HT_.out (by kernel_rfl)) (fun _ _ _ h => h) (Or.inl ⟨by rfl, ?_⟩) ?_ ?_
            rotate_left
            ·intro w'
             go_simp
             with_reducible rfl
            rotate_left
            ·simp only [Act.put, xi, xj, xk, i64_w, i32_w]
             rfl
            refine pure_ (i := 3) (N := some 54) (v := ?_) (a' := ?_) #[Y,Z,Y,Y,Z,Z,Z,Z,Z,Z,Z,Z,Z,Z,Z,Z,Z,Z,Z,Z,Z,Z,Z,Z,Z,Z,Z,Z,Z,Z,Z] rfl rfl (any_of HT_.out (by kernel_rfl)) (fun _ _ _ h => h) (Or.inl ⟨by rfl, ?_⟩) ?_ ?_
            rotate_left
            ·intro w'
             go_simp
             with_reducible rfl
            rotate_left
            ·simp only [Act.put, xi, xj, xk, i64_w, i32_w]
             rfl
            refine take_ (i := 1) (N := some 52) (v := ?_) (a' := ?_) #[Y,Y,Y,Y,Z,Z,Z,Z,Z,Z,Z,Z,Z,Z,Z,Z,Z,Z,Z,Z,Z,Z,Z,Z,Z,Z,Z,Z,Z,Z,Z] rfl rfl (take_ofW HT_.out HW_.out (by kernel_rfl)) (fun _ _ _ h => h) (Or.inl ⟨by rfl, ?_⟩) hHeld ?_ ?_
            rotate_left
            ·rintro w' ⟨s0, s1, s2, s3, s4, s5, s6, s7, s8, s9⟩
             go_simp
             with_reducible rfl
            rotate_left
            ·simp only [Act.put, xi, xj, xk, i64_w, i32_w]
             rfl
            refine pure_ (i := 4) (N := some 55) (v := ?_) (a' := ?_) #[Y,Y,Y,Y,Y,Z,Z,Z,Z,Z,Z,Z,Z,Z,Z,Z,Z,Z,Z,Z,Z,Z,Z,Z,Z,Z,Z,Z,Z,Z,Z] rfl rfl (any_of HT_.out (by kernel_rfl)) (fun _ _ _ h => h) (Or.inl ⟨by rfl, ?_⟩) ?_ ?_
            rotate_left
            ·intro w'
             go_simp
             with_reducible rfl
            rotate_left
            ·simp only [Act.put, xi, xj, xk, i64_w, i32_w]
             rfl
            refine pure_ (i := 5) (N := some 56) (v := ?_) (a' := ?_) #[Y,Y,Y,Y,Y,Y,Z,Z,Z,Z,Z,Z,Z,Z,Z,Z,Z,Z,Z,Z,Z,Z,Z,Z,Z,Z,Z,Z,Z,Z,Z] rfl rfl (any_of HT_.out (by kernel_rfl)) (fun _ _ _ h => h) (Or.inl ⟨by rfl, ?_⟩) ?_ ?_
            rotate_left
            ·intro w'
             go_simp
             with_reducible rfl
            rotate_left
            ·simp only [Act.put, xi, xj, xk, i64_w, i32_w]
             rfl
            refine pure_ (i := 6) (N := some 57) (v := ?_) (a' := ?_) #[Y,Y,Y,Y,Y,Y,Y,Z,Z,Z,Z,Z,Z,Z,Z,Z,Z,Z,Z,Z,Z,Z,Z,Z,Z,Z,Z,Z,Z,Z,Z] rfl rfl (any_of HT_.out (by kernel_rfl)) (fun _ _ _ h => h) (Or.inl ⟨by rfl, ?_⟩) ?_ ?_
            rotate_left
            ·intro w'
             go_simp
             with_reducible rfl
            rotate_left
            ·simp only [Act.put, xi, xj, xk, i64_w, i32_w]
             rfl
            refine pure_ (i := 8) (N := some 59) (v := ?_) (a' := ?_) #[Y,Y,Y,Y,Y,Y,Y,Z,Y,Z,Z,Z,Z,Z,Z,Z,Z,Z,Z,Z,Z,Z,Z,Z,Z,Z,Z,Z,Z,Z,Z] rfl rfl (any_of HT_.out (by kernel_rfl)) (fun _ _ _ h => h) (Or.inl ⟨by rfl, ?_⟩) ?_ ?_
            rotate_left
            ·intro w'
             go_simp
             with_reducible rfl
            rotate_left
            ·simp only [Act.put, xi, xj, xk, i64_w, i32_w]
             rfl
            refine pure_ (i := 9) (N := some 60) (v := ?_) (a' := ?_) #[Y,Y,Y,Y,Y,Y,Y,Z,Y,Y,Z,Z,Z,Z,Z,Z,Z,Z,Z,Z,Z,Z,Z,Z,Z,Z,Z,Z,Z,Z,Z] rfl rfl (any_of HT_.out (by kernel_rfl)) (fun _ _ _ h => h) (Or.inl ⟨by rfl, ?_⟩) ?_ ?_
            rotate_left
            ·intro w'
             go_simp
             with_reducible rfl
            rotate_left
            ·simp only [Act.put, xi, xj, xk, i64_w, i32_w]
             rfl
            refine take_ (i := 7) (N := some 58) (v := ?_) (a' := ?_) #[Y,Y,Y,Y,Y,Y,Y,Y,Y,Y,Z,Z,Z,Z,Z,Z,Z,Z,Z,Z,Z,Z,Z,Z,Z,Z,Z,Z,Z,Z,Z] rfl rfl (take_ofW HT_.out HW_.out (by kernel_rfl)) (fun _ _ _ h => h) (Or.inl ⟨by rfl, ?_⟩) hHeld ?_ ?_
            rotate_left
            ·rintro w' ⟨s0, s1, s2, s3, s4, s5, s6, s7, s8, s9⟩
             go_simp
             with_reducible rfl
            rotate_left
            ·simp only [Act.put, xi, xj, xk, i64_w, i32_w]
             rfl
            refine take_ (i := 10) (N := some 61) (v := ?_) (a' := ?_) #[Y,Y,Y,Y,Y,Y,Y,Y,Y,Y,Y,Z,Z,Z,Z,Z,Z,Z,Z,Z,Z,Z,Z,Z,Z,Z,Z,Z,Z,Z,Z] rfl rfl (take_ofW HT_.out HW_.out (by kernel_rfl)) (fun _ _ _ h => h) (Or.inl ⟨by rfl, ?_⟩) hHeld ?_ ?_
            rotate_left
            ·rintro w' ⟨s0, s1, s2, s3, s4, s5, s6, s7, s8, s9⟩
             go_simp
             with_reducible rfl
            rotate_left
            ·simp only [Act.put, xi, xj, xk, i64_w, i32_w]
             rfl
            refine one_ (i := 11) (N := some 62) #[Y,Y,Y,Y,Y,Y,Y,Y,Y,Y,Y,Y,Z,Z,Z,Z,Z,Z,Z,Z,Z,Z,Z,Z,Z,Z,Z,Z,Z,Z,Z] rfl rfl (one_of HT_.out (by kernel_rfl)) (by decide) (fun K hK => ?_)
            refine goes_ Try.func102 (by kernel_rfl) rfl #[.int .i64 ((rd_T130 l0_3 x47_2).f1), .int .i64 x3_2, .int .i64 a0_1] (by rfl) rfl rfl (by (try simp only [List.map_toArray, List.map_cons, List.map_nil]); first | done | rfl | (simp only [List.length_drop, List.length_take]; rfl)) ?_
            with_reducible refine (spec_l1In.calls ((rd_T130 l0_3 x47_2).f1) x3_2 a0_1 false _ A26.out).mono ?_
            rintro e w' ⟨rfl, ⟨nd, rfl⟩⟩
            refine ⟨_, rfl, ?_⟩
            refine hK.out _ _ ⟨(xc BK493.out 0).trans rfl, (xc BK493.out 1).trans rfl, (xc BK493.out 2).trans rfl, (xc BK488.out 0).trans rfl, (xc BK488.out 1).trans rfl, (xc BK488.out 2).trans rfl, (xc BK488.out 3).trans rfl, (xc BK488.out 4).trans rfl, (xc BK488.out 5).trans rfl, (xc BK488.out 6).trans rfl⟩ (fun hHeld => ?_)
            clear hK K
            refine norm_ (a' := ?_) ?_ ?_
            rotate_left
            ·show Act.put _ (some 62) _ = _
             simp only [Act.put, xi, xj, xk, i64_w, i32_w]
             rfl
            refine pure_ (i := 12) (N := some 63) (v := ?_) (a' := ?_) #[Y,Y,Y,Y,Y,Y,Y,Y,Y,Y,Y,Y,Y,Z,Z,Z,Z,Z,Z,Z,Z,Z,Z,Z,Z,Z,Z,Z,Z,Z,Z] rfl rfl (any_of HT_.out (by kernel_rfl)) (fun _ _ _ h => h) (Or.inl ⟨by rfl, ?_⟩) ?_ ?_
            rotate_left
            ·intro w'
             go_simp
             with_reducible rfl
            rotate_left
            ·simp only [Act.put, xi, xj, xk, i64_w, i32_w]
             rfl
            refine pure_ (i := 13) (N := some 64) (v := ?_) (a' := ?_) #[Y,Y,Y,Y,Y,Y,Y,Y,Y,Y,Y,Y,Y,Y,Z,Z,Z,Z,Z,Z,Z,Z,Z,Z,Z,Z,Z,Z,Z,Z,Z] rfl rfl (any_of HT_.out (by kernel_rfl)) (fun _ _ _ h => h) (Or.inl ⟨by rfl, ?_⟩) ?_ ?_
            rotate_left
            ·intro w'
             go_simp
             with_reducible rfl
            rotate_left
            ·simp only [Act.put, xi, xj, xk, i64_w, i32_w]
             rfl
            refine pure_ (i := 14) (N := some 65) (v := ?_) (a' := ?_) #[Y,Y,Y,Y,Y,Y,Y,Y,Y,Y,Y,Y,Y,Y,Y,Z,Z,Z,Z,Z,Z,Z,Z,Z,Z,Z,Z,Z,Z,Z,Z] rfl rfl (any_of HT_.out (by kernel_rfl)) (fun _ _ _ h => h) (Or.inl ⟨by rfl, ?_⟩) ?_ ?_
            rotate_left
            ·intro w'
             go_simp
             with_reducible rfl
            rotate_left
            ·simp only [Act.put, xi, xj, xk, i64_w, i32_w]
             rfl
            refine pure_ (i := 15) (N := some 66) (v := undef) (a' := ?_) #[Y,Y,Y,Y,Y,Y,Y,Y,Y,Y,Y,Y,Y,Y,Y,Y,Z,Z,Z,Z,Z,Z,Z,Z,Z,Z,Z,Z,Z,Z,Z] rfl rfl (any_of HT_.out (by kernel_rfl)) (fun _ _ _ h => h) (Or.inr ⟨by rfl, rfl⟩) ?_ ?_
            rotate_left
            ·simp only [Act.put, xi, xj, xk, i64_w, i32_w]
             rfl
            refine pure_ (i := 16) (N := some 67) (v := undef) (a' := ?_) #[Y,Y,Y,Y,Y,Y,Y,Y,Y,Y,Y,Y,Y,Y,Y,Y,Y,Z,Z,Z,Z,Z,Z,Z,Z,Z,Z,Z,Z,Z,Z] rfl rfl (any_of HT_.out (by kernel_rfl)) (fun _ _ _ h => h) (Or.inr ⟨by rfl, rfl⟩) ?_ ?_
            rotate_left
            ·simp only [Act.put, xi, xj, xk, i64_w, i32_w]
             rfl
            refine pure_ (i := 17) (N := some 68) (v := undef) (a' := ?_) #[Y,Y,Y,Y,Y,Y,Y,Y,Y,Y,Y,Y,Y,Y,Y,Y,Y,Y,Z,Z,Z,Z,Z,Z,Z,Z,Z,Z,Z,Z,Z] rfl rfl (any_of HT_.out (by kernel_rfl)) (fun _ _ _ h => h) (Or.inr ⟨by rfl, rfl⟩) ?_ ?_
            rotate_left
            ·simp only [Act.put, xi, xj, xk, i64_w, i32_w]
             rfl
            refine pure_ (i := 18) (N := some 69) (v := undef) (a' := ?_) #[Y,Y,Y,Y,Y,Y,Y,Y,Y,Y,Y,Y,Y,Y,Y,Y,Y,Y,Y,Z,Z,Z,Z,Z,Z,Z,Z,Z,Z,Z,Z] rfl rfl (any_of HT_.out (by kernel_rfl)) (fun _ _ _ h => h) (Or.inr ⟨by rfl, rfl⟩) ?_ ?_
            rotate_left
            ·simp only [Act.put, xi, xj, xk, i64_w, i32_w]
             rfl
            refine pure_ (i := 19) (N := some 70) (v := undef) (a' := ?_) #[Y,Y,Y,Y,Y,Y,Y,Y,Y,Y,Y,Y,Y,Y,Y,Y,Y,Y,Y,Y,Z,Z,Z,Z,Z,Z,Z,Z,Z,Z,Z] rfl rfl (any_of HT_.out (by kernel_rfl)) (fun _ _ _ h => h) (Or.inr ⟨by rfl, rfl⟩) ?_ ?_
            rotate_left
            ·simp only [Act.put, xi, xj, xk, i64_w, i32_w]
             rfl
            refine pure_ (i := 20) (N := some 71) (v := undef) (a' := ?_) #[Y,Y,Y,Y,Y,Y,Y,Y,Y,Y,Y,Y,Y,Y,Y,Y,Y,Y,Y,Y,Y,Z,Z,Z,Z,Z,Z,Z,Z,Z,Z] rfl rfl (any_of HT_.out (by kernel_rfl)) (fun _ _ _ h => h) (Or.inr ⟨by rfl, rfl⟩) ?_ ?_
            rotate_left
            ·simp only [Act.put, xi, xj, xk, i64_w, i32_w]
             rfl
            refine pure_ (i := 21) (N := some 72) (v := undef) (a' := ?_) #[Y,Y,Y,Y,Y,Y,Y,Y,Y,Y,Y,Y,Y,Y,Y,Y,Y,Y,Y,Y,Y,Y,Z,Z,Z,Z,Z,Z,Z,Z,Z] rfl rfl (any_of HT_.out (by kernel_rfl)) (fun _ _ _ h => h) (Or.inr ⟨by rfl, rfl⟩) ?_ ?_
            rotate_left
            ·simp only [Act.put, xi, xj, xk, i64_w, i32_w]
             rfl
            refine pure_ (i := 22) (N := some 73) (v := undef) (a' := ?_) #[Y,Y,Y,Y,Y,Y,Y,Y,Y,Y,Y,Y,Y,Y,Y,Y,Y,Y,Y,Y,Y,Y,Y,Z,Z,Z,Z,Z,Z,Z,Z] rfl rfl (any_of HT_.out (by kernel_rfl)) (fun _ _ _ h => h) (Or.inr ⟨by rfl, rfl⟩) ?_ ?_
            rotate_left
            ·simp only [Act.put, xi, xj, xk, i64_w, i32_w]
             rfl
            refine pure_ (i := 23) (N := some 74) (v := undef) (a' := ?_) #[Y,Y,Y,Y,Y,Y,Y,Y,Y,Y,Y,Y,Y,Y,Y,Y,Y,Y,Y,Y,Y,Y,Y,Y,Z,Z,Z,Z,Z,Z,Z] rfl rfl (any_of HT_.out (by kernel_rfl)) (fun _ _ _ h => h) (Or.inr ⟨by rfl, rfl⟩) ?_ ?_
            rotate_left
            ·simp only [Act.put, xi, xj, xk, i64_w, i32_w]
             rfl
            refine pure_ (i := 24) (N := some 75) (v := undef) (a' := ?_) #[Y,Y,Y,Y,Y,Y,Y,Y,Y,Y,Y,Y,Y,Y,Y,Y,Y,Y,Y,Y,Y,Y,Y,Y,Y,Z,Z,Z,Z,Z,Z] rfl rfl (any_of HT_.out (by kernel_rfl)) (fun _ _ _ h => h) (Or.inr ⟨by rfl, rfl⟩) ?_ ?_
            rotate_left
            ·simp only [Act.put, xi, xj, xk, i64_w, i32_w]
             rfl
            refine pure_ (i := 25) (N := some 76) (v := ?_) (a' := ?_) #[Y,Y,Y,Y,Y,Y,Y,Y,Y,Y,Y,Y,Y,Y,Y,Y,Y,Y,Y,Y,Y,Y,Y,Y,Y,Y,Z,Z,Z,Z,Z] rfl rfl (any_of HT_.out (by kernel_rfl)) (fun _ _ _ h => h) (Or.inl ⟨by rfl, ?_⟩) ?_ ?_
            rotate_left
            ·intro w'
             go_simp
             with_reducible rfl
            rotate_left
            ·simp only [Act.put, xi, xj, xk, i64_w, i32_w]
             rfl
            refine pure_ (i := 26) (N := some 77) (v := ?_) (a' := ?_) #[Y,Y,Y,Y,Y,Y,Y,Y,Y,Y,Y,Y,Y,Y,Y,Y,Y,Y,Y,Y,Y,Y,Y,Y,Y,Y,Y,Z,Z,Z,Z] rfl rfl (any_of HT_.out (by kernel_rfl)) (fun _ _ _ h => h) (Or.inl ⟨by rfl, ?_⟩) ?_ ?_
            rotate_left
            ·intro w'
             go_simp
             with_reducible rfl
            rotate_left
            ·simp only [Act.put, xi, xj, xk, i64_w, i32_w]
             rfl
            refine pure_ (i := 27) (N := some 78) (v := undef) (a' := ?_) #[Y,Y,Y,Y,Y,Y,Y,Y,Y,Y,Y,Y,Y,Y,Y,Y,Y,Y,Y,Y,Y,Y,Y,Y,Y,Y,Y,Y,Z,Z,Z] rfl rfl (any_of HT_.out (by kernel_rfl)) (fun _ _ _ h => h) (Or.inr ⟨by rfl, rfl⟩) ?_ ?_
            rotate_left
            ·simp only [Act.put, xi, xj, xk, i64_w, i32_w]
             rfl
            refine pure_ (i := 28) (N := some 79) (v := undef) (a' := ?_) #[Y,Y,Y,Y,Y,Y,Y,Y,Y,Y,Y,Y,Y,Y,Y,Y,Y,Y,Y,Y,Y,Y,Y,Y,Y,Y,Y,Y,Y,Z,Z] rfl rfl (any_of HT_.out (by kernel_rfl)) (fun _ _ _ h => h) (Or.inr ⟨by rfl, rfl⟩) ?_ ?_
            rotate_left
            ·simp only [Act.put, xi, xj, xk, i64_w, i32_w]
             rfl
            refine pure_ (i := 29) (N := some 80) (v := undef) (a' := ?_) #[Y,Y,Y,Y,Y,Y,Y,Y,Y,Y,Y,Y,Y,Y,Y,Y,Y,Y,Y,Y,Y,Y,Y,Y,Y,Y,Y,Y,Y,Y,Z] rfl rfl (any_of HT_.out (by kernel_rfl)) (fun _ _ _ h => h) (Or.inr ⟨by rfl, rfl⟩) ?_ ?_
            rotate_left
            ·simp only [Act.put, xi, xj, xk, i64_w, i32_w]
             rfl
            refine pure_ (i := 30) (N := some 81) (v := ?_) (a' := ?_) #[Y,Y,Y,Y,Y,Y,Y,Y,Y,Y,Y,Y,Y,Y,Y,Y,Y,Y,Y,Y,Y,Y,Y,Y,Y,Y,Y,Y,Y,Y,Y] rfl rfl (any_of HT_.out (by kernel_rfl)) (fun _ _ _ h => h) (Or.inl ⟨by rfl, ?_⟩) ?_ ?_
            rotate_left
            ·intro w'
             go_simp
             with_reducible rfl
            rotate_left
            ·simp only [Act.put, xi, xj, xk, i64_w, i32_w]
             rfl
            refine done_ (done_of HT_.out (by kernel_rfl)) ?_
            try go_wp2
            go_meet
            case rel => exact ⟨_, (true), (by first | rfl | (simp; done) | (simp [*]; done)), H', ⟨by have := HJ1.out; have := HK2.out; first | omega | exact Nat.le_refl _⟩, ⟨by (with_reducible repeat (first | refine xq ?_ _ | refine xr ?_ | refine xo ?_ _)); exact BK488.out⟩, ⟨by (with_reducible repeat (first | refine xq ?_ _ | refine xr ?_ | refine xo ?_ _)); exact BK493.out⟩, ⟨by repeat (first | (with_reducible first | exact HB.out | apply xa | apply xn | apply xd | refine xt ?_ GE488.out | refine xt ?_ GE493.out) | exact HB.out)⟩⟩
          ·rw [if_neg c25] at H
           have c25b0 : (((rd_T130 l0_3 x47_2).f0) == (wrap64 (x4_2 + 1))) = false := beq_eq_false_iff_ne.mpr c25
           have c25b1 : (((rd_T130 l0_3 x47_2).f0) != (wrap64 (x4_2 + 1))) = true := bne_iff_ne.mpr c25
           (first | rw [c25b0] | (simp only [i64_w, i32_w]; rw [c25b0]) | skip)
           have H' := xm H
           clear H
           try go_wp2
           have n0_ : Aside0 ((((w22.setCell ⟨gb493, 0, none⟩ (.int .i64 ((rd_T130 l0_3 x47_2).f0))).setCell ⟨gb493, 1, none⟩ (.int .i64 ((rd_T130 l0_3 x47_2).f1))).setCell ⟨gb493, 2, none⟩ (.slice A492_2 ((rd_T130 l0_3 x47_2).f2).length c492_2)).heap[gb488]? = some (.cells #[.slice A0_0 l0_0.length c0_0, .int .i64 a0_1, .slice A0_2 l0_2.length c0_2, .slice (some ad492) l0_3.length c0_3, .slice A0_4 l0_4.length c0_4, .int .i64 a0_5, .int .i64 a0_6] 34 (0, 0))) := ⟨by (with_reducible repeat (first | refine xq ?_ _ | refine xr ?_ | refine xo ?_ _)); refine blk_far ?_ NB488_493.out _; (with_reducible repeat (first | refine xq ?_ _ | refine xr ?_ | refine xo ?_ _)); refine blk_far ?_ NB488_493.out _; (with_reducible repeat (first | refine xq ?_ _ | refine xr ?_ | refine xo ?_ _)); refine blk_far ?_ NB488_493.out _; (with_reducible repeat (first | refine xq ?_ _ | refine xr ?_ | refine xo ?_ _)); exact BK488.out⟩
           have n1_ : Aside0 ((((w22.setCell ⟨gb493, 0, none⟩ (.int .i64 ((rd_T130 l0_3 x47_2).f0))).setCell ⟨gb493, 1, none⟩ (.int .i64 ((rd_T130 l0_3 x47_2).f1))).setCell ⟨gb493, 2, none⟩ (.slice A492_2 ((rd_T130 l0_3 x47_2).f2).length c492_2)).heap[gb493]? = some (.cells #[.int .i64 ((rd_T130 l0_3 x47_2).f0), .int .i64 ((rd_T130 l0_3 x47_2).f1), .slice A492_2 ((rd_T130 l0_3 x47_2).f2).length c492_2] 130 (0, 0))) := ⟨by (with_reducible repeat (first | refine xq ?_ _ | refine xr ?_ | refine xo ?_ _)); refine blk_put (cs := #[.int .i64 ((rd_T130 l0_3 x47_2).f0), .int .i64 ((rd_T130 l0_3 x47_2).f1), .slice none 0 0]) ?_ 2 _ rfl; (with_reducible repeat (first | refine xq ?_ _ | refine xr ?_ | refine xo ?_ _)); refine blk_put (cs := #[.int .i64 ((rd_T130 l0_3 x47_2).f0), .int .i64 0, .slice none 0 0]) ?_ 1 _ rfl; (with_reducible repeat (first | refine xq ?_ _ | refine xr ?_ | refine xo ?_ _)); refine blk_put (cs := #[.int .i64 0, .int .i64 0, .slice none 0 0]) ?_ 0 _ rfl; (with_reducible repeat (first | refine xq ?_ _ | refine xr ?_ | refine xo ?_ _)); exact BK493.out⟩
           have n2_ : Aside0 (Below w.heap.size w (((w22.setCell ⟨gb493, 0, none⟩ (.int .i64 ((rd_T130 l0_3 x47_2).f0))).setCell ⟨gb493, 1, none⟩ (.int .i64 ((rd_T130 l0_3 x47_2).f1))).setCell ⟨gb493, 2, none⟩ (.slice A492_2 ((rd_T130 l0_3 x47_2).f2).length c492_2))) := ⟨by repeat (first | (with_reducible first | exact HB.out | apply xa | apply xn | apply xd | refine xt ?_ GE488.out | refine xt ?_ GE493.out) | exact HB.out)⟩
           (try clear BK488)
           (try clear BK493)
           (try clear HB)
           generalize (((w22.setCell ⟨gb493, 0, none⟩ (.int .i64 ((rd_T130 l0_3 x47_2).f0))).setCell ⟨gb493, 1, none⟩ (.int .i64 ((rd_T130 l0_3 x47_2).f1))).setCell ⟨gb493, 2, none⟩ (.slice A492_2 ((rd_T130 l0_3 x47_2).f2).length c492_2)) = w41 at n0_ n1_ n2_ ⊢
           have BK488 := n0_
           have BK493 := n1_
           have HB := n2_
           clear n0_ n1_ n2_
           have n0_ := xm (xr BK488.out)
           have n1_ := xm (xr BK493.out)
           have n2_ := xm (xd HB.out)
           clear BK488
           clear BK493
           clear HB
           have BK488 := n0_
           have BK493 := n1_
           have HB := n2_
           clear n0_ n1_ n2_
           refine start_ (n := 31) (S := fun w' => w'.cell? ⟨gb493, 0, none⟩ = some (.int .i64 ((rd_T130 l0_3 x47_2).f0)) ∧ w'.cell? ⟨gb493, 1, none⟩ = some (.int .i64 ((rd_T130 l0_3 x47_2).f1)) ∧ w'.cell? ⟨gb493, 2, none⟩ = some (.slice A492_2 ((rd_T130 l0_3 x47_2).f2).length c492_2)) (ds := []) #[Z,Z,Z,Z,Z,Z,Z,Z,Z,Z,Z,Z,Z,Z,Z,Z,Z,Z,Z,Z,Z,Z,Z,Z,Z,Z,Z,Z,Z,Z,Z] (by kernel_rfl) rfl rfl ⟨(xc BK493.out 0).trans rfl, (xc BK493.out 1).trans rfl, (xc BK493.out 2).trans rfl⟩ (fun hHeld => ?_); refine with_tabW spec_GoodSink.tab8 spec_GoodSink.bits8 (fun HT_ HW_ => ?_)
           generalize w41.drew = w42 at BK488 BK493 HB hHeld ⊢
           refine pure_ (i := 0) (N := some 51) (v := ?_) (a' := ?_) #[Y,Z,Z,Z,Z,Z,Z,Z,Z,Z,Z,Z,Z,Z,Z,Z,Z,Z,Z,Z,Z,Z,Z,Z,Z,Z,Z,Z,Z,Z,Z] rfl rfl (any_of HT_.out (by kernel_rfl)) (fun _ _ _ h => h) (Or.inl ⟨by rfl, ?_⟩) ?_ ?_
           rotate_left
           ·intro w'
            go_simp
            with_reducible rfl
           rotate_left
           ·simp only [Act.put, xi, xj, xk, i64_w, i32_w]
            rfl
           refine pure_ (i := 2) (N := some 53) (v := ?_) (a' := ?_) #[Y,Z,Y,Z,Z,Z,Z,Z,Z,Z,Z,Z,Z,Z,Z,Z,Z,Z,Z,Z,Z,Z,Z,Z,Z,Z,Z,Z,Z,Z,Z] rfl rfl (any_of HT_.out (by kernel_rfl)) (fun _ _ _ h => h) (Or.inl ⟨by rfl, ?_⟩) ?_ ?_
           rotate_left
           ·intro w'
            go_simp
            with_reducible rfl
           rotate_left
           ·simp only [Act.put, xi, xj, xk, i64_w, i32_w]
            rfl
           refine pure_ (i := 3) (N := some 54) (v := ?_) (a' := ?_) #[Y,Z,Y,Y,Z,Z,Z,Z,Z,Z,Z,Z,Z,Z,Z,Z,Z,Z,Z,Z,Z,Z,Z,Z,Z,Z,Z,Z,Z,Z,Z] rfl rfl (any_of HT_.out (by kernel_rfl)) (fun _ _ _ h => h) (Or.inl ⟨by rfl, ?_⟩) ?_ ?_
           rotate_left
           ·intro w'
            go_simp
            with_reducible rfl
           rotate_left
           ·simp only [Act.put, xi, xj, xk, i64_w, i32_w]
            rfl
           refine take_ (i := 1) (N := some 52) (v := ?_) (a' := ?_) #[Y,Y,Y,Y,Z,Z,Z,Z,Z,Z,Z,Z,Z,Z,Z,Z,Z,Z,Z,Z,Z,Z,Z,Z,Z,Z,Z,Z,Z,Z,Z] rfl rfl (take_ofW HT_.out HW_.out (by kernel_rfl)) (fun _ _ _ h => h) (Or.inl ⟨by rfl, ?_⟩) hHeld ?_ ?_
           rotate_left
           ·rintro w' ⟨s0, s1, s2⟩
            go_simp
            with_reducible rfl
           rotate_left
           ·simp only [Act.put, xi, xj, xk, i64_w, i32_w]
            rfl
           refine pure_ (i := 4) (N := some 55) (v := ?_) (a' := ?_) #[Y,Y,Y,Y,Y,Z,Z,Z,Z,Z,Z,Z,Z,Z,Z,Z,Z,Z,Z,Z,Z,Z,Z,Z,Z,Z,Z,Z,Z,Z,Z] rfl rfl (any_of HT_.out (by kernel_rfl)) (fun _ _ _ h => h) (Or.inl ⟨by rfl, ?_⟩) ?_ ?_
           rotate_left
           ·intro w'
            go_simp
            with_reducible rfl
           rotate_left
           ·simp only [Act.put, xi, xj, xk, i64_w, i32_w]
            rfl
           refine pure_ (i := 5) (N := some 56) (v := ?_) (a' := ?_) #[Y,Y,Y,Y,Y,Y,Z,Z,Z,Z,Z,Z,Z,Z,Z,Z,Z,Z,Z,Z,Z,Z,Z,Z,Z,Z,Z,Z,Z,Z,Z] rfl rfl (any_of HT_.out (by kernel_rfl)) (fun _ _ _ h => h) (Or.inl ⟨by rfl, ?_⟩) ?_ ?_
           rotate_left
           ·intro w'
            go_simp
            with_reducible rfl
           rotate_left
           ·simp only [Act.put, xi, xj, xk, i64_w, i32_w]
            rfl
           refine pure_ (i := 6) (N := some 57) (v := undef) (a' := ?_) #[Y,Y,Y,Y,Y,Y,Y,Z,Z,Z,Z,Z,Z,Z,Z,Z,Z,Z,Z,Z,Z,Z,Z,Z,Z,Z,Z,Z,Z,Z,Z] rfl rfl (any_of HT_.out (by kernel_rfl)) (fun _ _ _ h => h) (Or.inr ⟨by rfl, rfl⟩) ?_ ?_
           rotate_left
           ·simp only [Act.put, xi, xj, xk, i64_w, i32_w]
            rfl
           refine pure_ (i := 7) (N := some 58) (v := undef) (a' := ?_) #[Y,Y,Y,Y,Y,Y,Y,Y,Z,Z,Z,Z,Z,Z,Z,Z,Z,Z,Z,Z,Z,Z,Z,Z,Z,Z,Z,Z,Z,Z,Z] rfl rfl (any_of HT_.out (by kernel_rfl)) (fun _ _ _ h => h) (Or.inr ⟨by rfl, rfl⟩) ?_ ?_
           rotate_left
           ·simp only [Act.put, xi, xj, xk, i64_w, i32_w]
            rfl
           refine pure_ (i := 8) (N := some 59) (v := undef) (a' := ?_) #[Y,Y,Y,Y,Y,Y,Y,Y,Y,Z,Z,Z,Z,Z,Z,Z,Z,Z,Z,Z,Z,Z,Z,Z,Z,Z,Z,Z,Z,Z,Z] rfl rfl (any_of HT_.out (by kernel_rfl)) (fun _ _ _ h => h) (Or.inr ⟨by rfl, rfl⟩) ?_ ?_
           rotate_left
           ·simp only [Act.put, xi, xj, xk, i64_w, i32_w]
            rfl
           refine pure_ (i := 9) (N := some 60) (v := undef) (a' := ?_) #[Y,Y,Y,Y,Y,Y,Y,Y,Y,Y,Z,Z,Z,Z,Z,Z,Z,Z,Z,Z,Z,Z,Z,Z,Z,Z,Z,Z,Z,Z,Z] rfl rfl (any_of HT_.out (by kernel_rfl)) (fun _ _ _ h => h) (Or.inr ⟨by rfl, rfl⟩) ?_ ?_
           rotate_left
           ·simp only [Act.put, xi, xj, xk, i64_w, i32_w]
            rfl
           refine pure_ (i := 10) (N := some 61) (v := undef) (a' := ?_) #[Y,Y,Y,Y,Y,Y,Y,Y,Y,Y,Y,Z,Z,Z,Z,Z,Z,Z,Z,Z,Z,Z,Z,Z,Z,Z,Z,Z,Z,Z,Z] rfl rfl (any_of HT_.out (by kernel_rfl)) (fun _ _ _ h => h) (Or.inr ⟨by rfl, rfl⟩) ?_ ?_
           rotate_left
           ·simp only [Act.put, xi, xj, xk, i64_w, i32_w]
            rfl
           refine pure_ (i := 11) (N := some 62) (v := undef) (a' := ?_) #[Y,Y,Y,Y,Y,Y,Y,Y,Y,Y,Y,Y,Z,Z,Z,Z,Z,Z,Z,Z,Z,Z,Z,Z,Z,Z,Z,Z,Z,Z,Z] rfl rfl (any_of HT_.out (by kernel_rfl)) (fun _ _ _ h => h) (Or.inr ⟨by rfl, rfl⟩) ?_ ?_
           rotate_left
           ·simp only [Act.put, xi, xj, xk, i64_w, i32_w]
            rfl
           refine pure_ (i := 12) (N := some 63) (v := undef) (a' := ?_) #[Y,Y,Y,Y,Y,Y,Y,Y,Y,Y,Y,Y,Y,Z,Z,Z,Z,Z,Z,Z,Z,Z,Z,Z,Z,Z,Z,Z,Z,Z,Z] rfl rfl (any_of HT_.out (by kernel_rfl)) (fun _ _ _ h => h) (Or.inr ⟨by rfl, rfl⟩) ?_ ?_
           rotate_left
           ·simp only [Act.put, xi, xj, xk, i64_w, i32_w]
            rfl
           refine pure_ (i := 13) (N := some 64) (v := ?_) (a' := ?_) #[Y,Y,Y,Y,Y,Y,Y,Y,Y,Y,Y,Y,Y,Y,Z,Z,Z,Z,Z,Z,Z,Z,Z,Z,Z,Z,Z,Z,Z,Z,Z] rfl rfl (any_of HT_.out (by kernel_rfl)) (fun _ _ _ h => h) (Or.inl ⟨by rfl, ?_⟩) ?_ ?_
           rotate_left
           ·intro w'
            go_simp
            with_reducible rfl
           rotate_left
           ·simp only [Act.put, xi, xj, xk, i64_w, i32_w]
            rfl
           refine pure_ (i := 14) (N := some 65) (v := ?_) (a' := ?_) #[Y,Y,Y,Y,Y,Y,Y,Y,Y,Y,Y,Y,Y,Y,Y,Z,Z,Z,Z,Z,Z,Z,Z,Z,Z,Z,Z,Z,Z,Z,Z] rfl rfl (any_of HT_.out (by kernel_rfl)) (fun _ _ _ h => h) (Or.inl ⟨by rfl, ?_⟩) ?_ ?_
           rotate_left
           ·intro w'
            go_simp
            with_reducible rfl
           rotate_left
           ·simp only [Act.put, xi, xj, xk, i64_w, i32_w]
            rfl
           refine pure_ (i := 15) (N := some 66) (v := undef) (a' := ?_) #[Y,Y,Y,Y,Y,Y,Y,Y,Y,Y,Y,Y,Y,Y,Y,Y,Z,Z,Z,Z,Z,Z,Z,Z,Z,Z,Z,Z,Z,Z,Z] rfl rfl (any_of HT_.out (by kernel_rfl)) (fun _ _ _ h => h) (Or.inr ⟨by rfl, rfl⟩) ?_ ?_
           rotate_left
           ·simp only [Act.put, xi, xj, xk, i64_w, i32_w]
            rfl
           refine pure_ (i := 16) (N := some 67) (v := undef) (a' := ?_) #[Y,Y,Y,Y,Y,Y,Y,Y,Y,Y,Y,Y,Y,Y,Y,Y,Y,Z,Z,Z,Z,Z,Z,Z,Z,Z,Z,Z,Z,Z,Z] rfl rfl (any_of HT_.out (by kernel_rfl)) (fun _ _ _ h => h) (Or.inr ⟨by rfl, rfl⟩) ?_ ?_
           rotate_left
           ·simp only [Act.put, xi, xj, xk, i64_w, i32_w]
            rfl
           refine pure_ (i := 17) (N := some 68) (v := undef) (a' := ?_) #[Y,Y,Y,Y,Y,Y,Y,Y,Y,Y,Y,Y,Y,Y,Y,Y,Y,Y,Z,Z,Z,Z,Z,Z,Z,Z,Z,Z,Z,Z,Z] rfl rfl (any_of HT_.out (by kernel_rfl)) (fun _ _ _ h => h) (Or.inr ⟨by rfl, rfl⟩) ?_ ?_
           rotate_left
           ·simp only [Act.put, xi, xj, xk, i64_w, i32_w]
            rfl
           refine pure_ (i := 18) (N := some 69) (v := undef) (a' := ?_) #[Y,Y,Y,Y,Y,Y,Y,Y,Y,Y,Y,Y,Y,Y,Y,Y,Y,Y,Y,Z,Z,Z,Z,Z,Z,Z,Z,Z,Z,Z,Z] rfl rfl (any_of HT_.out (by kernel_rfl)) (fun _ _ _ h => h) (Or.inr ⟨by rfl, rfl⟩) ?_ ?_
           rotate_left
           ·simp only [Act.put, xi, xj, xk, i64_w, i32_w]
            rfl
           refine pure_ (i := 19) (N := some 70) (v := undef) (a' := ?_) #[Y,Y,Y,Y,Y,Y,Y,Y,Y,Y,Y,Y,Y,Y,Y,Y,Y,Y,Y,Y,Z,Z,Z,Z,Z,Z,Z,Z,Z,Z,Z] rfl rfl (any_of HT_.out (by kernel_rfl)) (fun _ _ _ h => h) (Or.inr ⟨by rfl, rfl⟩) ?_ ?_
           rotate_left
           ·simp only [Act.put, xi, xj, xk, i64_w, i32_w]
            rfl
           refine pure_ (i := 20) (N := some 71) (v := undef) (a' := ?_) #[Y,Y,Y,Y,Y,Y,Y,Y,Y,Y,Y,Y,Y,Y,Y,Y,Y,Y,Y,Y,Y,Z,Z,Z,Z,Z,Z,Z,Z,Z,Z] rfl rfl (any_of HT_.out (by kernel_rfl)) (fun _ _ _ h => h) (Or.inr ⟨by rfl, rfl⟩) ?_ ?_
           rotate_left
           ·simp only [Act.put, xi, xj, xk, i64_w, i32_w]
            rfl
           refine pure_ (i := 21) (N := some 72) (v := undef) (a' := ?_) #[Y,Y,Y,Y,Y,Y,Y,Y,Y,Y,Y,Y,Y,Y,Y,Y,Y,Y,Y,Y,Y,Y,Z,Z,Z,Z,Z,Z,Z,Z,Z] rfl rfl (any_of HT_.out (by kernel_rfl)) (fun _ _ _ h => h) (Or.inr ⟨by rfl, rfl⟩) ?_ ?_
           rotate_left
           ·simp only [Act.put, xi, xj, xk, i64_w, i32_w]
            rfl
           refine pure_ (i := 22) (N := some 73) (v := undef) (a' := ?_) #[Y,Y,Y,Y,Y,Y,Y,Y,Y,Y,Y,Y,Y,Y,Y,Y,Y,Y,Y,Y,Y,Y,Y,Z,Z,Z,Z,Z,Z,Z,Z] rfl rfl (any_of HT_.out (by kernel_rfl)) (fun _ _ _ h => h) (Or.inr ⟨by rfl, rfl⟩) ?_ ?_
           rotate_left
           ·simp only [Act.put, xi, xj, xk, i64_w, i32_w]
            rfl
           refine pure_ (i := 23) (N := some 74) (v := undef) (a' := ?_) #[Y,Y,Y,Y,Y,Y,Y,Y,Y,Y,Y,Y,Y,Y,Y,Y,Y,Y,Y,Y,Y,Y,Y,Y,Z,Z,Z,Z,Z,Z,Z] rfl rfl (any_of HT_.out (by kernel_rfl)) (fun _ _ _ h => h) (Or.inr ⟨by rfl, rfl⟩) ?_ ?_
           rotate_left
           ·simp only [Act.put, xi, xj, xk, i64_w, i32_w]
            rfl
           refine pure_ (i := 24) (N := some 75) (v := undef) (a' := ?_) #[Y,Y,Y,Y,Y,Y,Y,Y,Y,Y,Y,Y,Y,Y,Y,Y,Y,Y,Y,Y,Y,Y,Y,Y,Y,Z,Z,Z,Z,Z,Z] rfl rfl (any_of HT_.out (by kernel_rfl)) (fun _ _ _ h => h) (Or.inr ⟨by rfl, rfl⟩) ?_ ?_
           rotate_left
           ·simp only [Act.put, xi, xj, xk, i64_w, i32_w]
            rfl
           refine pure_ (i := 25) (N := some 76) (v := ?_) (a' := ?_) #[Y,Y,Y,Y,Y,Y,Y,Y,Y,Y,Y,Y,Y,Y,Y,Y,Y,Y,Y,Y,Y,Y,Y,Y,Y,Y,Z,Z,Z,Z,Z] rfl rfl (any_of HT_.out (by kernel_rfl)) (fun _ _ _ h => h) (Or.inl ⟨by rfl, ?_⟩) ?_ ?_
           rotate_left
           ·intro w'
            go_simp
            with_reducible rfl
           rotate_left
           ·simp only [Act.put, xi, xj, xk, i64_w, i32_w]
            rfl
           refine pure_ (i := 26) (N := some 77) (v := ?_) (a' := ?_) #[Y,Y,Y,Y,Y,Y,Y,Y,Y,Y,Y,Y,Y,Y,Y,Y,Y,Y,Y,Y,Y,Y,Y,Y,Y,Y,Y,Z,Z,Z,Z] rfl rfl (any_of HT_.out (by kernel_rfl)) (fun _ _ _ h => h) (Or.inl ⟨by rfl, ?_⟩) ?_ ?_
           rotate_left
           ·intro w'
            go_simp
            with_reducible rfl
           rotate_left
           ·simp only [Act.put, xi, xj, xk, i64_w, i32_w]
            rfl
           refine pure_ (i := 27) (N := some 78) (v := undef) (a' := ?_) #[Y,Y,Y,Y,Y,Y,Y,Y,Y,Y,Y,Y,Y,Y,Y,Y,Y,Y,Y,Y,Y,Y,Y,Y,Y,Y,Y,Y,Z,Z,Z] rfl rfl (any_of HT_.out (by kernel_rfl)) (fun _ _ _ h => h) (Or.inr ⟨by rfl, rfl⟩) ?_ ?_
           rotate_left
           ·simp only [Act.put, xi, xj, xk, i64_w, i32_w]
            rfl
           refine pure_ (i := 28) (N := some 79) (v := undef) (a' := ?_) #[Y,Y,Y,Y,Y,Y,Y,Y,Y,Y,Y,Y,Y,Y,Y,Y,Y,Y,Y,Y,Y,Y,Y,Y,Y,Y,Y,Y,Y,Z,Z] rfl rfl (any_of HT_.out (by kernel_rfl)) (fun _ _ _ h => h) (Or.inr ⟨by rfl, rfl⟩) ?_ ?_
           rotate_left
           ·simp only [Act.put, xi, xj, xk, i64_w, i32_w]
            rfl
           refine pure_ (i := 29) (N := some 80) (v := undef) (a' := ?_) #[Y,Y,Y,Y,Y,Y,Y,Y,Y,Y,Y,Y,Y,Y,Y,Y,Y,Y,Y,Y,Y,Y,Y,Y,Y,Y,Y,Y,Y,Y,Z] rfl rfl (any_of HT_.out (by kernel_rfl)) (fun _ _ _ h => h) (Or.inr ⟨by rfl, rfl⟩) ?_ ?_
           rotate_left
           ·simp only [Act.put, xi, xj, xk, i64_w, i32_w]
            rfl
           refine pure_ (i := 30) (N := some 81) (v := ?_) (a' := ?_) #[Y,Y,Y,Y,Y,Y,Y,Y,Y,Y,Y,Y,Y,Y,Y,Y,Y,Y,Y,Y,Y,Y,Y,Y,Y,Y,Y,Y,Y,Y,Y] rfl rfl (any_of HT_.out (by kernel_rfl)) (fun _ _ _ h => h) (Or.inl ⟨by rfl, ?_⟩) ?_ ?_
           rotate_left
           ·intro w'
            go_simp
            with_reducible rfl
           rotate_left
           ·simp only [Act.put, xi, xj, xk, i64_w, i32_w]
            rfl
           refine done_ (done_of HT_.out (by kernel_rfl)) ?_
           try go_wp2
           go_meet
           case rel => exact ⟨_, (true), (by first | rfl | (simp; done) | (simp [*]; done)), H', ⟨by have := HJ1.out; have := HK2.out; first | omega | exact Nat.le_refl _⟩, ⟨by (with_reducible repeat (first | refine xq ?_ _ | refine xr ?_ | refine xo ?_ _)); exact BK488.out⟩, ⟨by (with_reducible repeat (first | refine xq ?_ _ | refine xr ?_ | refine xo ?_ _)); exact BK493.out⟩, ⟨by repeat (first | (with_reducible first | exact HB.out | apply xa | apply xn | apply xd | refine xt ?_ GE488.out | refine xt ?_ GE493.out) | exact HB.out)⟩⟩
         case rest =>
          clear HC21
          try clear c1
          try clear c2
          try clear p2
          try clear c3
          try clear c4
          try clear p6
          try clear c10
          try clear c25
          try clear c25b0
          try clear c25b1
          try clear c27
          try clear c28
          try clear c29
          try clear c30
          obtain ⟨kq, x81_20, rfl, HA, HJ20, BK488, BK493, HB⟩ := hcut
          cases kq with
          | zero => exact absurd HA.out (by simp [spec_GoodSink.j2])
          | succ kj20 =>
           have H := HA.out
           clear HA
           simp only [spec_GoodSink.j2] at H
           by_cases c43 : x81_20 = true
           ·subst c43
            have H1 : (some false) = some r := by first | (with_reducible rfl) | (rw [if_pos rfl] at H; exact H)
            clear H
            have H := H1
            clear H1
            obtain rfl := Option.some.inj H
            go_wp2
            go_ret
            exact ⟨by first | rfl | (simp [errW_none, errW_some] <;> rfl) | (simp [*, errW_none, errW_some] <;> rfl), by repeat (first | (with_reducible first | exact HB.out | apply xa | apply xn | apply xd | refine xt ?_ GE488.out | refine xt ?_ GE493.out) | exact HB.out)⟩
           ·replace c43 := Bool.eq_false_iff.mpr c43
            subst c43
            have H1 : (spec_GoodSink.l0 kj20 ((rd_T130 l0_3 x47_2).f1) ((rd_T130 l0_3 x47_2).f0) l0_3 (l0_3.length : Int) (wrap64 (x47_2 + 1)) l0_0 a0_1 l0_2 l0_3 l0_4 a0_5 a0_6) = some r := by first | (with_reducible rfl) | (rw [if_neg (show ¬ (false = true) by decide)] at H; exact H)
            clear H
            have H := H1
            clear H1
            have H' := xm H
            clear H
            have hnb44 := NB493_488.out
            have hnc44 := NB488_493.out
            have hcz45_0 : wc.cell? ⟨gb493, 0, none⟩ = some (.int .i64 ((rd_T130 l0_3 x47_2).f0)) := (xc BK493.out 0).trans rfl
            have hcz45_1 : wc.cell? ⟨gb493, 1, none⟩ = some (.int .i64 ((rd_T130 l0_3 x47_2).f1)) := (xc BK493.out 1).trans rfl
            have hcz45_2 : wc.cell? ⟨gb493, 2, none⟩ = some (.slice A492_2 ((rd_T130 l0_3 x47_2).f2).length c492_2) := (xc BK493.out 2).trans rfl
            have hfz45_0 := xf BK493.out 0
            have hfz45_1 := xf BK493.out 1
            have hfz45_2 := xf BK493.out 2
            go_wp2
            go_roundg kj20
            case measure => have := HJ1.out; have := HK2.out; have := HJ20.out; omega
            case rel => exact ⟨(((rd_T130 l0_3 x47_2).f1)), (((rd_T130 l0_3 x47_2).f0)), (wrap64 (x47_2 + 1)), (by first | rfl | (simp; done) | (simp [*]; done)), (by first | rfl | (simp; done) | (simp [*]; done)), (by first | rfl | (simp; done) | (simp [*]; done)), H', ⟨by have := HJ1.out; have := HK2.out; have := HJ20.out; omega⟩, ⟨by (with_reducible repeat (first | refine xq ?_ _ | refine xr ?_ | refine xo ?_ _)); exact BK488.out⟩, ⟨by repeat (first | (with_reducible first | exact HB.out | apply xa | apply xn | apply xd | refine xt ?_ GE488.out | refine xt ?_ GE493.out) | exact HB.out)⟩⟩
        ·rw [if_neg c20] at H
         exact absurd H (by simp)
       ·rw [if_neg c19] at H
        exact absurd H (by simp)
      ·rw [if_neg c18] at H
       have c18b0 : decide (x47_2 < (l0_3.length : Int)) = false := decide_eq_false c18
       clear c18
       by_cases c46 : 0 ≤ x3_2
       ·rw [if_pos c46] at H
        have c46b0 := eq_true c46
        have c46b1 : decide (0 ≤ x3_2) = true := decide_eq_true c46
        clear c46
        by_cases c47 : x3_2 ≤ a0_1
        ·rw [if_pos c47] at H
         have c47b0 := eq_true c47
         have c47b1 : decide (x3_2 ≤ a0_1) = true := decide_eq_true c47
         clear c47
         by_cases c48 : a0_1 ≤ (l0_0.length : Int)
         ·rw [if_pos c48] at H
          have c48b0 := eq_true c48
          have c48b1 : decide (a0_1 ≤ (l0_0.length : Int)) = true := decide_eq_true c48
          clear c48
          replace H := Option.bind_eq_some_iff.mp H
          obtain ⟨t498, A490, H⟩ := H
          replace H : (if t498 = true then (if 0 ≤ a0_6 then (if a0_6 ≤ (l0_0.length : Int) then ((spec_l16Same.f k2 l0_4 (l0_0.take (a0_6 : Int).toNat)).bind fun t500 => (some t500)) else (none)) else (none)) else (some false)) = some r := H
          have A49 := xm A490
          clear A490
          by_cases c50 : t498 = true
          ·subst c50
           have H1 : (if 0 ≤ a0_6 then (if a0_6 ≤ (l0_0.length : Int) then ((spec_l16Same.f k2 l0_4 (l0_0.take (a0_6 : Int).toNat)).bind fun t500 => (some t500)) else (none)) else (none)) = some r := by first | (with_reducible rfl) | (rw [if_pos rfl] at H; exact H)
           clear H
           have H := H1
           clear H1
           by_cases c51 : 0 ≤ a0_6
           ·rw [if_pos c51] at H
            have c51b0 := eq_true c51
            have c51b1 : decide (0 ≤ a0_6) = true := decide_eq_true c51
            clear c51
            by_cases c52 : a0_6 ≤ (l0_0.length : Int)
            ·rw [if_pos c52] at H
             have c52b0 := eq_true c52
             have c52b1 : decide (a0_6 ≤ (l0_0.length : Int)) = true := decide_eq_true c52
             clear c52
             replace H := Option.bind_eq_some_iff.mp H
             obtain ⟨t500, A530, H⟩ := H
             replace H : (some t500) = some r := H
             have A53 := xm A530
             clear A530
             obtain rfl := Option.some.inj H
             try go_wp2
             have n0_ := xm (xr BK488.out)
             have n1_ := xm (xd HB.out)
             clear BK488
             clear HB
             have BK488 := n0_
             have HB := n1_
             clear n0_ n1_
             obtain ⟨i055, hi055, _, hsz55, _⟩ := info_parts info3
             obtain ⟨A55, hcut55, hA55, hC55⟩ := print_mid_of (P := Try.prog) (Value.int .i64) 0 31 3 .i64 .i64 Try.underlying31 hi055 hsz55 A0_0 c0_0 l0_0 x3_2 a0_1 (of_decide_eq_true (by first | (with_reducible assumption) | assumption)) (by first | omega | exact of_decide_eq_true (by first | (with_reducible assumption) | assumption)) (of_decide_eq_true (by first | (with_reducible assumption) | assumption)) HC0_0.out
             have HR497 := xm (Kd.C_of_reads (h1 := fun _ => rfl) (hA55 _ (Kd.reads_of_C HR0_0.out)))
             have HC497 := xm hC55
             clear hA55 hC55 hi055 hsz55
             refine start_ (n := 20) (S := fun w' => w'.cell? ⟨gb488, 0, none⟩ = some (.slice A0_0 l0_0.length c0_0) ∧ w'.cell? ⟨gb488, 1, none⟩ = some (.int .i64 a0_1) ∧ w'.cell? ⟨gb488, 2, none⟩ = some (.slice A0_2 l0_2.length c0_2) ∧ w'.cell? ⟨gb488, 3, none⟩ = some (.slice A0_3 l0_3.length c0_3) ∧ w'.cell? ⟨gb488, 4, none⟩ = some (.slice A0_4 l0_4.length c0_4) ∧ w'.cell? ⟨gb488, 5, none⟩ = some (.int .i64 a0_5) ∧ w'.cell? ⟨gb488, 6, none⟩ = some (.int .i64 a0_6)) (ds := []) #[Z,Z,Z,Z,Z,Z,Z,Z,Z,Z,Z,Z,Z,Z,Z,Z,Z,Z,Z,Z] (by kernel_rfl) rfl rfl ⟨(xc BK488.out 0).trans rfl, (xc BK488.out 1).trans rfl, (xc BK488.out 2).trans rfl, (xc BK488.out 3).trans rfl, (xc BK488.out 4).trans rfl, (xc BK488.out 5).trans rfl, (xc BK488.out 6).trans rfl⟩ (fun hHeld => ?_); refine with_tabW spec_GoodSink.tab13 spec_GoodSink.bits13 (fun HT_ HW_ => ?_)
             generalize wr.drew = w54 at BK488 HB HR497 hHeld ⊢
             refine pure_ (i := 0) (N := some 87) (v := ?_) (a' := ?_) #[Y,Z,Z,Z,Z,Z,Z,Z,Z,Z,Z,Z,Z,Z,Z,Z,Z,Z,Z,Z] rfl rfl (any_of HT_.out (by kernel_rfl)) (fun _ _ _ h => h) (Or.inl ⟨by rfl, ?_⟩) ?_ ?_
             rotate_left
             ·intro w'
              go_simp
              with_reducible rfl
             rotate_left
             ·simp only [Act.put, xi, xj, xk, i64_w, i32_w]
              rfl
             refine pure_ (i := 2) (N := some 89) (v := ?_) (a' := ?_) #[Y,Z,Y,Z,Z,Z,Z,Z,Z,Z,Z,Z,Z,Z,Z,Z,Z,Z,Z,Z] rfl rfl (any_of HT_.out (by kernel_rfl)) (fun _ _ _ h => h) (Or.inl ⟨by rfl, ?_⟩) ?_ ?_
             rotate_left
             ·intro w'
              go_simp
              with_reducible rfl
             rotate_left
             ·simp only [Act.put, xi, xj, xk, i64_w, i32_w]
              rfl
             refine pure_ (i := 4) (N := some 91) (v := ?_) (a' := ?_) #[Y,Z,Y,Z,Y,Z,Z,Z,Z,Z,Z,Z,Z,Z,Z,Z,Z,Z,Z,Z] rfl rfl (any_of HT_.out (by kernel_rfl)) (fun _ _ _ h => h) (Or.inl ⟨by rfl, ?_⟩) ?_ ?_
             rotate_left
             ·intro w'
              go_simp
              with_reducible rfl
             rotate_left
             ·simp only [Act.put, xi, xj, xk, i64_w, i32_w]
              rfl
             refine pure_ (i := 5) (N := some 92) (v := ?_) (a' := ?_) #[Y,Z,Y,Z,Y,Y,Z,Z,Z,Z,Z,Z,Z,Z,Z,Z,Z,Z,Z,Z] rfl rfl (any_of HT_.out (by kernel_rfl)) (fun _ _ _ h => h) (Or.inl ⟨by rfl, ?_⟩) ?_ ?_
             rotate_left
             ·intro w'
              go_simp
              with_reducible rfl
             rotate_left
             ·simp only [Act.put, xi, xj, xk, i64_w, i32_w]
              rfl
             refine take_ (i := 1) (N := some 88) (v := ?_) (a' := ?_) #[Y,Y,Y,Z,Y,Y,Z,Z,Z,Z,Z,Z,Z,Z,Z,Z,Z,Z,Z,Z] rfl rfl (take_ofW HT_.out HW_.out (by kernel_rfl)) (fun _ _ _ h => h) (Or.inl ⟨by rfl, ?_⟩) hHeld ?_ ?_
             rotate_left
             ·rintro w' ⟨s0, s1, s2, s3, s4, s5, s6⟩
              go_simp
              with_reducible rfl
             rotate_left
             ·simp only [Act.put, xi, xj, xk, i64_w, i32_w]
              rfl
             refine take_ (i := 3) (N := some 90) (v := ?_) (a' := ?_) #[Y,Y,Y,Y,Y,Y,Z,Z,Z,Z,Z,Z,Z,Z,Z,Z,Z,Z,Z,Z] rfl rfl (take_ofW HT_.out HW_.out (by kernel_rfl)) (fun _ _ _ h => h) (Or.inl ⟨by rfl, ?_⟩) hHeld ?_ ?_
             rotate_left
             ·rintro w' ⟨s0, s1, s2, s3, s4, s5, s6⟩
              go_simp
              with_reducible rfl
             rotate_left
             ·simp only [Act.put, xi, xj, xk, i64_w, i32_w]
              rfl
             refine take_ (i := 6) (N := some 93) (v := ?_) (a' := ?_) #[Y,Y,Y,Y,Y,Y,Y,Z,Z,Z,Z,Z,Z,Z,Z,Z,Z,Z,Z,Z] rfl rfl (take_ofW HT_.out HW_.out (by kernel_rfl)) (fun _ _ _ h => h) (Or.inl ⟨by rfl, ?_⟩) hHeld ?_ ?_
             rotate_left
             ·rintro w' ⟨s0, s1, s2, s3, s4, s5, s6⟩
              go_simp
              with_reducible rfl
             rotate_left
             ·simp only [Act.put, xi, xj, xk, i64_w, i32_w]
              rfl
             refine pure_ (i := 7) (N := some 94) (v := ?_) (a' := ?_) #[Y,Y,Y,Y,Y,Y,Y,Y,Z,Z,Z,Z,Z,Z,Z,Z,Z,Z,Z,Z] rfl rfl (any_of HT_.out (by kernel_rfl)) (fun _ _ _ h => h) (Or.inl ⟨by rfl, ?_⟩) ?_ ?_
             rotate_left
             ·intro w'
              go_simp
              with_reducible rfl
             rotate_left
             ·simp only [Act.put, xi, xj, xk, i64_w, i32_w]
              rfl
             refine one_ (i := 8) (N := some 95) #[Y,Y,Y,Y,Y,Y,Y,Y,Y,Z,Z,Z,Z,Z,Z,Z,Z,Z,Z,Z] rfl rfl (one_of HT_.out (by kernel_rfl)) (by decide) (fun K hK => ?_)
             refine goes_ Try.func109 (by kernel_rfl) rfl #[.slice A0_2 l0_2.length c0_2, .slice A55 ((l0_0.take (a0_1 : Int).toNat).drop (x3_2 : Int).toNat).length (c0_0 - x3_2.toNat)] (by rfl) rfl rfl (by (try simp only [List.map_toArray, List.map_cons, List.map_nil]); first | done | (rw [show ((l0_0.take (a0_1 : Int).toNat).drop (x3_2 : Int).toNat).length = (a0_1.toNat - x3_2.toNat) from (by rw [List.length_drop, List.length_take]; have h_ : (a0_1 : Int) ≤ (l0_0.length : Int) := of_decide_eq_true (by first | (with_reducible assumption) | assumption); omega)] <;> rfl) | rfl | (simp only [List.length_drop, List.length_take]; rfl)) ?_
             with_reducible refine (spec_l16Same.calls k2 _ _ l0_2 _ _ ((l0_0.take (a0_1 : Int).toNat).drop (x3_2 : Int).toNat) true _ ?side1 ?side2 ?side3 ?side4 A49.out).mono ?_
             (case side1 => repeat (first | exact (Kd.C_below HR0_2.out HB.out) | (with_reducible refine Kd.C_alloc ?_ _) | (with_reducible refine Kd.C_drewN ?_ _) | (with_reducible refine Kd.C_drew ?_)))
             (case side2 => exact HC0_2.out)
             (case side3 => repeat (first | exact (Kd.C_below HR497.out HB.out) | (with_reducible refine Kd.C_alloc ?_ _) | (with_reducible refine Kd.C_drewN ?_ _) | (with_reducible refine Kd.C_drew ?_)))
             (case side4 => exact HC497.out)
             rintro e w' ⟨rfl, ⟨nd, rfl⟩⟩
             refine ⟨_, rfl, ?_⟩
             obtain ⟨i056, hi056, _, hsz56, _⟩ := info_parts info3
             obtain ⟨hcut56, hA56, hC56⟩ := print_take_of (P := Try.prog) (Value.int .i64) 0 31 3 .i64 Try.underlying31 hi056 hsz56 A0_0 c0_0 l0_0 a0_6 (of_decide_eq_true (by first | (with_reducible assumption) | assumption)) (of_decide_eq_true (by first | (with_reducible assumption) | assumption)) HC0_0.out
             have HR499 := xm (Kd.C_of_reads (h1 := fun _ => rfl) (hA56 _ (Kd.reads_of_C HR0_0.out)))
             have HC499 := xm hC56
             clear hA56 hC56 hi056 hsz56
             refine hK.out _ _ ⟨(xc BK488.out 0).trans rfl, (xc BK488.out 1).trans rfl, (xc BK488.out 2).trans rfl, (xc BK488.out 3).trans rfl, (xc BK488.out 4).trans rfl, (xc BK488.out 5).trans rfl, (xc BK488.out 6).trans rfl⟩ (fun hHeld => ?_)
             clear hK K
             refine norm_ (a' := ?_) ?_ ?_
             rotate_left
             ·show Act.put _ (some 95) _ = _
              simp only [Act.put, xi, xj, xk, i64_w, i32_w]
              rfl
             refine pure_ (i := 9) (N := some 96) (v := ?_) (a' := ?_) #[Y,Y,Y,Y,Y,Y,Y,Y,Y,Y,Z,Z,Z,Z,Z,Z,Z,Z,Z,Z] rfl rfl (any_of HT_.out (by kernel_rfl)) (fun _ _ _ h => h) (Or.inl ⟨by rfl, ?_⟩) ?_ ?_
             rotate_left
             ·intro w'
              go_simp
              with_reducible rfl
             rotate_left
             ·simp only [Act.put, xi, xj, xk, i64_w, i32_w]
              rfl
             refine pure_ (i := 10) (N := some 97) (v := ?_) (a' := ?_) #[Y,Y,Y,Y,Y,Y,Y,Y,Y,Y,Y,Z,Z,Z,Z,Z,Z,Z,Z,Z] rfl rfl (any_of HT_.out (by kernel_rfl)) (fun _ _ _ h => h) (Or.inl ⟨by rfl, ?_⟩) ?_ ?_
             rotate_left
             ·intro w'
              go_simp
              with_reducible rfl
             rotate_left
             ·simp only [Act.put, xi, xj, xk, i64_w, i32_w]
              rfl
             refine pure_ (i := 12) (N := some 99) (v := ?_) (a' := ?_) #[Y,Y,Y,Y,Y,Y,Y,Y,Y,Y,Y,Z,Y,Z,Z,Z,Z,Z,Z,Z] rfl rfl (any_of HT_.out (by kernel_rfl)) (fun _ _ _ h => h) (Or.inl ⟨by rfl, ?_⟩) ?_ ?_
             rotate_left
             ·intro w'
              go_simp
              with_reducible rfl
             rotate_left
             ·simp only [Act.put, xi, xj, xk, i64_w, i32_w]
              rfl
             refine pure_ (i := 14) (N := some 101) (v := ?_) (a' := ?_) #[Y,Y,Y,Y,Y,Y,Y,Y,Y,Y,Y,Z,Y,Z,Y,Z,Z,Z,Z,Z] rfl rfl (any_of HT_.out (by kernel_rfl)) (fun _ _ _ h => h) (Or.inl ⟨by rfl, ?_⟩) ?_ ?_
             rotate_left
             ·intro w'
              go_simp
              with_reducible rfl
             rotate_left
             ·simp only [Act.put, xi, xj, xk, i64_w, i32_w]
              rfl
             refine take_ (i := 11) (N := some 98) (v := ?_) (a' := ?_) #[Y,Y,Y,Y,Y,Y,Y,Y,Y,Y,Y,Y,Y,Z,Y,Z,Z,Z,Z,Z] rfl rfl (take_ofW HT_.out HW_.out (by kernel_rfl)) (fun _ _ _ h => h) (Or.inl ⟨by rfl, ?_⟩) hHeld ?_ ?_
             rotate_left
             ·rintro w' ⟨s0, s1, s2, s3, s4, s5, s6⟩
              go_simp
              with_reducible rfl
             rotate_left
             ·simp only [Act.put, xi, xj, xk, i64_w, i32_w]
              rfl
             refine take_ (i := 13) (N := some 100) (v := ?_) (a' := ?_) #[Y,Y,Y,Y,Y,Y,Y,Y,Y,Y,Y,Y,Y,Y,Y,Z,Z,Z,Z,Z] rfl rfl (take_ofW HT_.out HW_.out (by kernel_rfl)) (fun _ _ _ h => h) (Or.inl ⟨by rfl, ?_⟩) hHeld ?_ ?_
             rotate_left
             ·rintro w' ⟨s0, s1, s2, s3, s4, s5, s6⟩
              go_simp
              with_reducible rfl
             rotate_left
             ·simp only [Act.put, xi, xj, xk, i64_w, i32_w]
              rfl
             refine take_ (i := 15) (N := some 102) (v := ?_) (a' := ?_) #[Y,Y,Y,Y,Y,Y,Y,Y,Y,Y,Y,Y,Y,Y,Y,Y,Z,Z,Z,Z] rfl rfl (take_ofW HT_.out HW_.out (by kernel_rfl)) (fun _ _ _ h => h) (Or.inl ⟨by rfl, ?_⟩) hHeld ?_ ?_
             rotate_left
             ·rintro w' ⟨s0, s1, s2, s3, s4, s5, s6⟩
              go_simp
              with_reducible rfl
             rotate_left
             ·simp only [Act.put, xi, xj, xk, i64_w, i32_w]
              rfl
             refine pure_ (i := 16) (N := some 103) (v := ?_) (a' := ?_) #[Y,Y,Y,Y,Y,Y,Y,Y,Y,Y,Y,Y,Y,Y,Y,Y,Y,Z,Z,Z] rfl rfl (any_of HT_.out (by kernel_rfl)) (fun _ _ _ h => h) (Or.inl ⟨by rfl, ?_⟩) ?_ ?_
             rotate_left
             ·intro w'
              go_simp
              with_reducible rfl
             rotate_left
             ·simp only [Act.put, xi, xj, xk, i64_w, i32_w]
              rfl
             refine one_ (i := 17) (N := some 104) #[Y,Y,Y,Y,Y,Y,Y,Y,Y,Y,Y,Y,Y,Y,Y,Y,Y,Y,Z,Z] rfl rfl (one_of HT_.out (by kernel_rfl)) (by decide) (fun K hK => ?_)
             refine goes_ Try.func109 (by kernel_rfl) rfl #[.slice A0_4 l0_4.length c0_4, .slice A0_0 (l0_0.take (a0_6 : Int).toNat).length c0_0] (by rfl) rfl rfl (by (try simp only [List.map_toArray, List.map_cons, List.map_nil]); first | done | (rw [show (l0_0.take (a0_6 : Int).toNat).length = a0_6.toNat from (by rw [List.length_take]; have h_ : (a0_6 : Int) ≤ (l0_0.length : Int) := of_decide_eq_true (by first | (with_reducible assumption) | assumption); omega)] <;> rfl) | rfl | (simp only [List.length_drop, List.length_take]; rfl)) ?_
             with_reducible refine (spec_l16Same.calls k2 _ _ l0_4 _ _ (l0_0.take (a0_6 : Int).toNat) t500 _ ?side1 ?side2 ?side3 ?side4 A53.out).mono ?_
             (case side1 => repeat (first | exact (Kd.C_below HR0_4.out (by repeat (first | (with_reducible first | exact HB.out | apply xa | apply xn | apply xd | refine xt ?_ GE488.out) | exact HB.out))) | (with_reducible refine Kd.C_alloc ?_ _) | (with_reducible refine Kd.C_drewN ?_ _) | (with_reducible refine Kd.C_drew ?_)))
             (case side2 => exact HC0_4.out)
             (case side3 => repeat (first | exact (Kd.C_below HR499.out (by repeat (first | (with_reducible first | exact HB.out | apply xa | apply xn | apply xd | refine xt ?_ GE488.out) | exact HB.out))) | (with_reducible refine Kd.C_alloc ?_ _) | (with_reducible refine Kd.C_drewN ?_ _) | (with_reducible refine Kd.C_drew ?_)))
             (case side4 => exact HC499.out)
             rintro e w' ⟨rfl, ⟨nd, rfl⟩⟩
             refine ⟨_, rfl, ?_⟩
             refine hK.out _ _ ⟨(xc BK488.out 0).trans rfl, (xc BK488.out 1).trans rfl, (xc BK488.out 2).trans rfl, (xc BK488.out 3).trans rfl, (xc BK488.out 4).trans rfl, (xc BK488.out 5).trans rfl, (xc BK488.out 6).trans rfl⟩ (fun hHeld => ?_)
             clear hK K
             refine norm_ (a' := ?_) ?_ ?_
             rotate_left
             ·show Act.put _ (some 104) _ = _
              simp only [Act.put, xi, xj, xk, i64_w, i32_w]
              rfl
             refine pure_ (i := 18) (N := some 105) (v := ?_) (a' := ?_) #[Y,Y,Y,Y,Y,Y,Y,Y,Y,Y,Y,Y,Y,Y,Y,Y,Y,Y,Y,Z] rfl rfl (any_of HT_.out (by kernel_rfl)) (fun _ _ _ h => h) (Or.inl ⟨by rfl, ?_⟩) ?_ ?_
             rotate_left
             ·intro w'
              go_simp
              with_reducible rfl
             rotate_left
             ·simp only [Act.put, xi, xj, xk, i64_w, i32_w]
              rfl
             refine pure_ (i := 19) (N := some 2) (v := ?_) (a' := ?_) #[Y,Y,Y,Y,Y,Y,Y,Y,Y,Y,Y,Y,Y,Y,Y,Y,Y,Y,Y,Y] rfl rfl (any_of HT_.out (by kernel_rfl)) (fun _ _ _ h => h) (Or.inl ⟨by rfl, ?_⟩) ?_ ?_
             rotate_left
             ·intro w'
              go_simp
              with_reducible rfl
             rotate_left
             ·simp only [Act.put, xi, xj, xk, i64_w, i32_w]
              rfl
             refine done_ (done_of HT_.out (by kernel_rfl)) ?_
             try go_wp2
             go_ret
             exact ⟨by first | rfl | (simp [errW_none, errW_some] <;> rfl) | (simp [*, errW_none, errW_some] <;> rfl), by repeat (first | (with_reducible first | exact HB.out | apply xa | apply xn | apply xd | refine xt ?_ GE488.out) | exact HB.out)⟩
            ·rw [if_neg c52] at H
             exact absurd H (by simp)
           ·rw [if_neg c51] at H
            exact absurd H (by simp)
          ·replace c50 := Bool.eq_false_iff.mpr c50
           subst c50
           have H1 : (some false) = some r := by first | (with_reducible rfl) | (rw [if_neg (show ¬ (false = true) by decide)] at H; exact H)
           clear H
           have H := H1
           clear H1
           obtain rfl := Option.some.inj H
           try go_wp2
           have n0_ := xm (xr BK488.out)
           have n1_ := xm (xd HB.out)
           clear BK488
           clear HB
           have BK488 := n0_
           have HB := n1_
           clear n0_ n1_
           obtain ⟨i058, hi058, _, hsz58, _⟩ := info_parts info3
           obtain ⟨A58, hcut58, hA58, hC58⟩ := print_mid_of (P := Try.prog) (Value.int .i64) 0 31 3 .i64 .i64 Try.underlying31 hi058 hsz58 A0_0 c0_0 l0_0 x3_2 a0_1 (of_decide_eq_true (by first | (with_reducible assumption) | assumption)) (by first | omega | exact of_decide_eq_true (by first | (with_reducible assumption) | assumption)) (of_decide_eq_true (by first | (with_reducible assumption) | assumption)) HC0_0.out
           have HR497 := xm (Kd.C_of_reads (h1 := fun _ => rfl) (hA58 _ (Kd.reads_of_C HR0_0.out)))
           have HC497 := xm hC58
           clear hA58 hC58 hi058 hsz58
           refine start_ (n := 20) (S := fun w' => w'.cell? ⟨gb488, 0, none⟩ = some (.slice A0_0 l0_0.length c0_0) ∧ w'.cell? ⟨gb488, 1, none⟩ = some (.int .i64 a0_1) ∧ w'.cell? ⟨gb488, 2, none⟩ = some (.slice A0_2 l0_2.length c0_2) ∧ w'.cell? ⟨gb488, 3, none⟩ = some (.slice A0_3 l0_3.length c0_3) ∧ w'.cell? ⟨gb488, 4, none⟩ = some (.slice A0_4 l0_4.length c0_4) ∧ w'.cell? ⟨gb488, 5, none⟩ = some (.int .i64 a0_5) ∧ w'.cell? ⟨gb488, 6, none⟩ = some (.int .i64 a0_6)) (ds := []) #[Z,Z,Z,Z,Z,Z,Z,Z,Z,Z,Z,Z,Z,Z,Z,Z,Z,Z,Z,Z] (by kernel_rfl) rfl rfl ⟨(xc BK488.out 0).trans rfl, (xc BK488.out 1).trans rfl, (xc BK488.out 2).trans rfl, (xc BK488.out 3).trans rfl, (xc BK488.out 4).trans rfl, (xc BK488.out 5).trans rfl, (xc BK488.out 6).trans rfl⟩ (fun hHeld => ?_); refine with_tabW spec_GoodSink.tab13 spec_GoodSink.bits13 (fun HT_ HW_ => ?_)
           generalize wr.drew = w57 at BK488 HB HR497 hHeld ⊢
           refine pure_ (i := 0) (N := some 87) (v := ?_) (a' := ?_) #[Y,Z,Z,Z,Z,Z,Z,Z,Z,Z,Z,Z,Z,Z,Z,Z,Z,Z,Z,Z] rfl rfl (any_of HT_.out (by kernel_rfl)) (fun _ _ _ h => h) (Or.inl ⟨by rfl, ?_⟩) ?_ ?_
           rotate_left
           ·intro w'
            go_simp
            with_reducible rfl
           rotate_left
           ·simp only [Act.put, xi, xj, xk, i64_w, i32_w]
            rfl
           refine pure_ (i := 2) (N := some 89) (v := ?_) (a' := ?_) #[Y,Z,Y,Z,Z,Z,Z,Z,Z,Z,Z,Z,Z,Z,Z,Z,Z,Z,Z,Z] rfl rfl (any_of HT_.out (by kernel_rfl)) (fun _ _ _ h => h) (Or.inl ⟨by rfl, ?_⟩) ?_ ?_
           rotate_left
           ·intro w'
            go_simp
            with_reducible rfl
           rotate_left
           ·simp only [Act.put, xi, xj, xk, i64_w, i32_w]
            rfl
           refine pure_ (i := 4) (N := some 91) (v := ?_) (a' := ?_) #[Y,Z,Y,Z,Y,Z,Z,Z,Z,Z,Z,Z,Z,Z,Z,Z,Z,Z,Z,Z] rfl rfl (any_of HT_.out (by kernel_rfl)) (fun _ _ _ h => h) (Or.inl ⟨by rfl, ?_⟩) ?_ ?_
           rotate_left
           ·intro w'
            go_simp
            with_reducible rfl
           rotate_left
           ·simp only [Act.put, xi, xj, xk, i64_w, i32_w]
            rfl
           refine pure_ (i := 5) (N := some 92) (v := ?_) (a' := ?_) #[Y,Z,Y,Z,Y,Y,Z,Z,Z,Z,Z,Z,Z,Z,Z,Z,Z,Z,Z,Z] rfl rfl (any_of HT_.out (by kernel_rfl)) (fun _ _ _ h => h) (Or.inl ⟨by rfl, ?_⟩) ?_ ?_
           rotate_left
           ·intro w'
            go_simp
            with_reducible rfl
           rotate_left
           ·simp only [Act.put, xi, xj, xk, i64_w, i32_w]
            rfl
           refine take_ (i := 1) (N := some 88) (v := ?_) (a' := ?_) #[Y,Y,Y,Z,Y,Y,Z,Z,Z,Z,Z,Z,Z,Z,Z,Z,Z,Z,Z,Z] rfl rfl (take_ofW HT_.out HW_.out (by kernel_rfl)) (fun _ _ _ h => h) (Or.inl ⟨by rfl, ?_⟩) hHeld ?_ ?_
           rotate_left
           ·rintro w' ⟨s0, s1, s2, s3, s4, s5, s6⟩
            go_simp
            with_reducible rfl
           rotate_left
           ·simp only [Act.put, xi, xj, xk, i64_w, i32_w]
            rfl
           refine take_ (i := 3) (N := some 90) (v := ?_) (a' := ?_) #[Y,Y,Y,Y,Y,Y,Z,Z,Z,Z,Z,Z,Z,Z,Z,Z,Z,Z,Z,Z] rfl rfl (take_ofW HT_.out HW_.out (by kernel_rfl)) (fun _ _ _ h => h) (Or.inl ⟨by rfl, ?_⟩) hHeld ?_ ?_
           rotate_left
           ·rintro w' ⟨s0, s1, s2, s3, s4, s5, s6⟩
            go_simp
            with_reducible rfl
           rotate_left
           ·simp only [Act.put, xi, xj, xk, i64_w, i32_w]
            rfl
           refine take_ (i := 6) (N := some 93) (v := ?_) (a' := ?_) #[Y,Y,Y,Y,Y,Y,Y,Z,Z,Z,Z,Z,Z,Z,Z,Z,Z,Z,Z,Z] rfl rfl (take_ofW HT_.out HW_.out (by kernel_rfl)) (fun _ _ _ h => h) (Or.inl ⟨by rfl, ?_⟩) hHeld ?_ ?_
           rotate_left
           ·rintro w' ⟨s0, s1, s2, s3, s4, s5, s6⟩
            go_simp
            with_reducible rfl
           rotate_left
           ·simp only [Act.put, xi, xj, xk, i64_w, i32_w]
            rfl
           refine pure_ (i := 7) (N := some 94) (v := ?_) (a' := ?_) #[Y,Y,Y,Y,Y,Y,Y,Y,Z,Z,Z,Z,Z,Z,Z,Z,Z,Z,Z,Z] rfl rfl (any_of HT_.out (by kernel_rfl)) (fun _ _ _ h => h) (Or.inl ⟨by rfl, ?_⟩) ?_ ?_
           rotate_left
           ·intro w'
            go_simp
            with_reducible rfl
           rotate_left
           ·simp only [Act.put, xi, xj, xk, i64_w, i32_w]
            rfl
           refine one_ (i := 8) (N := some 95) #[Y,Y,Y,Y,Y,Y,Y,Y,Y,Z,Z,Z,Z,Z,Z,Z,Z,Z,Z,Z] rfl rfl (one_of HT_.out (by kernel_rfl)) (by decide) (fun K hK => ?_)
           refine goes_ Try.func109 (by kernel_rfl) rfl #[.slice A0_2 l0_2.length c0_2, .slice A58 ((l0_0.take (a0_1 : Int).toNat).drop (x3_2 : Int).toNat).length (c0_0 - x3_2.toNat)] (by rfl) rfl rfl (by (try simp only [List.map_toArray, List.map_cons, List.map_nil]); first | done | (rw [show ((l0_0.take (a0_1 : Int).toNat).drop (x3_2 : Int).toNat).length = (a0_1.toNat - x3_2.toNat) from (by rw [List.length_drop, List.length_take]; have h_ : (a0_1 : Int) ≤ (l0_0.length : Int) := of_decide_eq_true (by first | (with_reducible assumption) | assumption); omega)] <;> rfl) | rfl | (simp only [List.length_drop, List.length_take]; rfl)) ?_
           with_reducible refine (spec_l16Same.calls k2 _ _ l0_2 _ _ ((l0_0.take (a0_1 : Int).toNat).drop (x3_2 : Int).toNat) false _ ?side1 ?side2 ?side3 ?side4 A49.out).mono ?_
           (case side1 => repeat (first | exact (Kd.C_below HR0_2.out HB.out) | (with_reducible refine Kd.C_alloc ?_ _) | (with_reducible refine Kd.C_drewN ?_ _) | (with_reducible refine Kd.C_drew ?_)))
           (case side2 => exact HC0_2.out)
           (case side3 => repeat (first | exact (Kd.C_below HR497.out HB.out) | (with_reducible refine Kd.C_alloc ?_ _) | (with_reducible refine Kd.C_drewN ?_ _) | (with_reducible refine Kd.C_drew ?_)))
           (case side4 => exact HC497.out)
           rintro e w' ⟨rfl, ⟨nd, rfl⟩⟩
           refine ⟨_, rfl, ?_⟩
           refine hK.out _ _ ⟨(xc BK488.out 0).trans rfl, (xc BK488.out 1).trans rfl, (xc BK488.out 2).trans rfl, (xc BK488.out 3).trans rfl, (xc BK488.out 4).trans rfl, (xc BK488.out 5).trans rfl, (xc BK488.out 6).trans rfl⟩ (fun hHeld => ?_)
           clear hK K
           refine norm_ (a' := ?_) ?_ ?_
           rotate_left
           ·show Act.put _ (some 95) _ = _
            simp only [Act.put, xi, xj, xk, i64_w, i32_w]
            rfl
           refine pure_ (i := 9) (N := some 96) (v := ?_) (a' := ?_) #[Y,Y,Y,Y,Y,Y,Y,Y,Y,Y,Z,Z,Z,Z,Z,Z,Z,Z,Z,Z] rfl rfl (any_of HT_.out (by kernel_rfl)) (fun _ _ _ h => h) (Or.inl ⟨by rfl, ?_⟩) ?_ ?_
           rotate_left
           ·intro w'
            go_simp
            with_reducible rfl
           rotate_left
           ·simp only [Act.put, xi, xj, xk, i64_w, i32_w]
            rfl
           refine pure_ (i := 10) (N := some 97) (v := undef) (a' := ?_) #[Y,Y,Y,Y,Y,Y,Y,Y,Y,Y,Y,Z,Z,Z,Z,Z,Z,Z,Z,Z] rfl rfl (any_of HT_.out (by kernel_rfl)) (fun _ _ _ h => h) (Or.inr ⟨by rfl, rfl⟩) ?_ ?_
           rotate_left
           ·simp only [Act.put, xi, xj, xk, i64_w, i32_w]
            rfl
           refine pure_ (i := 11) (N := some 98) (v := undef) (a' := ?_) #[Y,Y,Y,Y,Y,Y,Y,Y,Y,Y,Y,Y,Z,Z,Z,Z,Z,Z,Z,Z] rfl rfl (any_of HT_.out (by kernel_rfl)) (fun _ _ _ h => h) (Or.inr ⟨by rfl, rfl⟩) ?_ ?_
           rotate_left
           ·simp only [Act.put, xi, xj, xk, i64_w, i32_w]
            rfl
           refine pure_ (i := 12) (N := some 99) (v := undef) (a' := ?_) #[Y,Y,Y,Y,Y,Y,Y,Y,Y,Y,Y,Y,Y,Z,Z,Z,Z,Z,Z,Z] rfl rfl (any_of HT_.out (by kernel_rfl)) (fun _ _ _ h => h) (Or.inr ⟨by rfl, rfl⟩) ?_ ?_
           rotate_left
           ·simp only [Act.put, xi, xj, xk, i64_w, i32_w]
            rfl
           refine pure_ (i := 13) (N := some 100) (v := undef) (a' := ?_) #[Y,Y,Y,Y,Y,Y,Y,Y,Y,Y,Y,Y,Y,Y,Z,Z,Z,Z,Z,Z] rfl rfl (any_of HT_.out (by kernel_rfl)) (fun _ _ _ h => h) (Or.inr ⟨by rfl, rfl⟩) ?_ ?_
           rotate_left
           ·simp only [Act.put, xi, xj, xk, i64_w, i32_w]
            rfl
           refine pure_ (i := 14) (N := some 101) (v := undef) (a' := ?_) #[Y,Y,Y,Y,Y,Y,Y,Y,Y,Y,Y,Y,Y,Y,Y,Z,Z,Z,Z,Z] rfl rfl (any_of HT_.out (by kernel_rfl)) (fun _ _ _ h => h) (Or.inr ⟨by rfl, rfl⟩) ?_ ?_
           rotate_left
           ·simp only [Act.put, xi, xj, xk, i64_w, i32_w]
            rfl
           refine pure_ (i := 15) (N := some 102) (v := undef) (a' := ?_) #[Y,Y,Y,Y,Y,Y,Y,Y,Y,Y,Y,Y,Y,Y,Y,Y,Z,Z,Z,Z] rfl rfl (any_of HT_.out (by kernel_rfl)) (fun _ _ _ h => h) (Or.inr ⟨by rfl, rfl⟩) ?_ ?_
           rotate_left
           ·simp only [Act.put, xi, xj, xk, i64_w, i32_w]
            rfl
           refine pure_ (i := 16) (N := some 103) (v := undef) (a' := ?_) #[Y,Y,Y,Y,Y,Y,Y,Y,Y,Y,Y,Y,Y,Y,Y,Y,Y,Z,Z,Z] rfl rfl (any_of HT_.out (by kernel_rfl)) (fun _ _ _ h => h) (Or.inr ⟨by rfl, rfl⟩) ?_ ?_
           rotate_left
           ·simp only [Act.put, xi, xj, xk, i64_w, i32_w]
            rfl
           refine pure_ (i := 17) (N := some 104) (v := undef) (a' := ?_) #[Y,Y,Y,Y,Y,Y,Y,Y,Y,Y,Y,Y,Y,Y,Y,Y,Y,Y,Z,Z] rfl rfl (any_of HT_.out (by kernel_rfl)) (fun _ _ _ h => h) (Or.inr ⟨by rfl, rfl⟩) ?_ ?_
           rotate_left
           ·simp only [Act.put, xi, xj, xk, i64_w, i32_w]
            rfl
           refine pure_ (i := 18) (N := some 105) (v := ?_) (a' := ?_) #[Y,Y,Y,Y,Y,Y,Y,Y,Y,Y,Y,Y,Y,Y,Y,Y,Y,Y,Y,Z] rfl rfl (any_of HT_.out (by kernel_rfl)) (fun _ _ _ h => h) (Or.inl ⟨by rfl, ?_⟩) ?_ ?_
           rotate_left
           ·intro w'
            go_simp
            with_reducible rfl
           rotate_left
           ·simp only [Act.put, xi, xj, xk, i64_w, i32_w]
            rfl
           refine pure_ (i := 19) (N := some 2) (v := ?_) (a' := ?_) #[Y,Y,Y,Y,Y,Y,Y,Y,Y,Y,Y,Y,Y,Y,Y,Y,Y,Y,Y,Y] rfl rfl (any_of HT_.out (by kernel_rfl)) (fun _ _ _ h => h) (Or.inl ⟨by rfl, ?_⟩) ?_ ?_
           rotate_left
           ·intro w'
            go_simp
            with_reducible rfl
           rotate_left
           ·simp only [Act.put, xi, xj, xk, i64_w, i32_w]
            rfl
           refine done_ (done_of HT_.out (by kernel_rfl)) ?_
           try go_wp2
           go_ret
           exact ⟨by first | rfl | (simp [errW_none, errW_some] <;> rfl) | (simp [*, errW_none, errW_some] <;> rfl), by repeat (first | (with_reducible first | exact HB.out | apply xa | apply xn | apply xd | refine xt ?_ GE488.out) | exact HB.out)⟩
         ·rw [if_neg c48] at H
          exact absurd H (by simp)
        ·rw [if_neg c47] at H
         exact absurd H (by simp)
       ·rw [if_neg c46] at H
        exact absurd H (by simp)

end Go.Proofs.Ytpbpglbldgpckaa.G
