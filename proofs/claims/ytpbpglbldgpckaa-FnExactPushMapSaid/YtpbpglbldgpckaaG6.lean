/- Written by a program of this claim's own, out of the translation: functions of the program as plain functions, and that the calls answer as these. No conditions. -/
import Derived.Test.YtpbpglbldgpckaaG0
import Derived.Test.YtpbpglbldgpckaaG1
import Derived.Test.YtpbpglbldgpckaaG5
namespace Go.Proofs.Ytpbpglbldgpckaa.G
open Go.RowKit Go.Proofs.Ytpbpglbldgpckaa.X Go.Proofs.YtpbpglbldgpckaaW.PrintWords Go.Proofs.YtpbpglbldgpckaaW.PrintLast Go.Proofs.YtpbpglbldgpckaaW.PrintMore
attribute [local go_sem] max2_int min2_int max_two min_two max_three min_three max_four min_four   -- for this text's walks alone
set_option linter.unusedVariables false
set_option linter.unusedSimpArgs false

attribute [local go_sem high] eqA51
/-! ### spec_GoodWindow: function 34 -/
mutual
def spec_GoodWindow.j0 : Nat → Bool → List (S51) → List (S51) → List (S51) → Int → Int → Option (Bool)
 | 0, _, _, _, _, _, _ => none
 | k + 1, x23, x169000, x169001, x169002, x169003, x169004 => if x23 = true then (some false) else (spec_GoodWindow.l0 k x169000 (x169000.length : Int) 0 x169000 x169001 x169002 x169003 x169004)
def spec_GoodWindow.l0 : Nat → List (S51) → Int → Int → List (S51) → List (S51) → List (S51) → Int → Int → Option (Bool)
 | 0, _, _, _, _, _, _, _, _ => none
 | k + 1, x25, x26, x27, x169000, x169001, x169002, x169003, x169004 => if x27 < x26 then (if 0 ≤ x27 then (if x27 < (x25.length : Int) then ((spec_GoodMap.f ((rd_T51 x25 x27).f0) ((rd_T51 x25 x27).f1)).bind fun t171 => (if t171 = true then (if x27 < (x169001.length : Int) then (if 0 ≤ (wrap64 (x27 + 1)) then (if (wrap64 (x27 + 1)) ≤ (x169000.length : Int) then ((spec_l17Turned.f k (x169000.take ((wrap64 (x27 + 1)) : Int).toNat)).bind fun t177 => ((spec_l17All.f k t177).bind fun bt180 => (if (!(((rd_T51 x169001 x27).f0) == bt180.1) || (!(((rd_T51 x169001 x27).f1) == bt180.2))) = true then (some false) else (spec_GoodWindow.l0 k x25 x26 (wrap64 (x27 + 1)) x169000 x169001 x169002 x169003 x169004)))) else (none)) else (none)) else (none)) else (some false))) else (none)) else (none)) else (spec_GoodWindow.l1 k x169002 (x169002.length : Int) 0 x169000 x169001 x169002 x169003 x169004)
def spec_GoodWindow.l1 : Nat → List (S51) → Int → Int → List (S51) → List (S51) → List (S51) → Int → Int → Option (Bool)
 | 0, _, _, _, _, _, _, _, _ => none
 | k + 1, x52, x53, x54, x169000, x169001, x169002, x169003, x169004 => if x54 < x53 then (if 0 ≤ x54 then (if x54 < (x52.length : Int) then ((spec_GoodMap.f ((rd_T51 x52 x54).f0) ((rd_T51 x52 x54).f1)).bind fun t184 => (if t184 = true then (spec_GoodWindow.l1 k x52 x53 (wrap64 (x54 + 1)) x169000 x169001 x169002 x169003 x169004) else (some false))) else (none)) else (none)) else ((spec_l17All.f k x169002).bind fun bt185 => (some (x169003 == bt185.1 && (x169004 == bt185.2))))
end
def spec_GoodWindow.f (k : Nat) (l0_0 : List (S51)) (l0_1 : List (S51)) (l0_2 : List (S51)) (a0_3 : Int) (a0_4 : Int) : Option (Bool) := if (l0_1.length : Int) = (l0_0.length : Int) then (spec_GoodWindow.j0 k (decide ((wrap64 ((l0_0.length : Int) + (l0_2.length : Int))) > 60)) l0_0 l0_1 l0_2 a0_3 a0_4) else (spec_GoodWindow.j0 k true l0_0 l0_1 l0_2 a0_3 a0_4)
theorem spec_GoodWindow.mono_l : ∀ k, (∀ y0 y1 y2 y3 y4 y5, LeO (spec_GoodWindow.j0 k y0 y1 y2 y3 y4 y5) (spec_GoodWindow.j0 (k + 1) y0 y1 y2 y3 y4 y5)) ∧ (∀ y0 y1 y2 y3 y4 y5 y6 y7, LeO (spec_GoodWindow.l0 k y0 y1 y2 y3 y4 y5 y6 y7) (spec_GoodWindow.l0 (k + 1) y0 y1 y2 y3 y4 y5 y6 y7)) ∧ (∀ y0 y1 y2 y3 y4 y5 y6 y7, LeO (spec_GoodWindow.l1 k y0 y1 y2 y3 y4 y5 y6 y7) (spec_GoodWindow.l1 (k + 1) y0 y1 y2 y3 y4 y5 y6 y7))
 | 0 => ⟨fun _ _ _ _ _ _ r h => by simp [spec_GoodWindow.j0] at h, fun _ _ _ _ _ _ _ _ r h => by simp [spec_GoodWindow.l0] at h, fun _ _ _ _ _ _ _ _ r h => by simp [spec_GoodWindow.l1] at h⟩
 | k + 1 => by
  obtain ⟨ih0, ih1, ih2⟩ := spec_GoodWindow.mono_l k
  refine ⟨?_, ?_, ?_⟩
  ·intro y0 y1 y2 y3 y4 y5
   unfold spec_GoodWindow.j0
   repeat' first
   | (with_reducible exact ih0 _ _ _ _ _ _)
   | (with_reducible exact ih1 _ _ _ _ _ _ _ _)
   | (with_reducible exact ih2 _ _ _ _ _ _ _ _)
   | (with_reducible exact spec_l17All.mono _ _)
   | (with_reducible exact spec_l17Turned.mono _ _)
   | (with_reducible exact LeO.refl _)
   | (with_reducible exact LeO.none _)
   | (with_reducible refine LeO.ite ?_ ?_)
   | (with_reducible refine LeO.bind ?_ (fun _ => ?_))
   | exact ih0 _ _ _ _ _ _
   | exact ih1 _ _ _ _ _ _ _ _
   | exact ih2 _ _ _ _ _ _ _ _
   | exact spec_l17All.mono _ _
   | exact spec_l17Turned.mono _ _
   | exact LeO.none _
   | refine LeO.ite ?_ ?_
   | refine LeO.bind ?_ (fun _ => ?_)
  ·intro y0 y1 y2 y3 y4 y5 y6 y7
   unfold spec_GoodWindow.l0
   repeat' first
   | (with_reducible exact ih0 _ _ _ _ _ _)
   | (with_reducible exact ih1 _ _ _ _ _ _ _ _)
   | (with_reducible exact ih2 _ _ _ _ _ _ _ _)
   | (with_reducible exact spec_l17All.mono _ _)
   | (with_reducible exact spec_l17Turned.mono _ _)
   | (with_reducible exact LeO.refl _)
   | (with_reducible exact LeO.none _)
   | (with_reducible refine LeO.ite ?_ ?_)
   | (with_reducible refine LeO.bind ?_ (fun _ => ?_))
   | exact ih0 _ _ _ _ _ _
   | exact ih1 _ _ _ _ _ _ _ _
   | exact ih2 _ _ _ _ _ _ _ _
   | exact spec_l17All.mono _ _
   | exact spec_l17Turned.mono _ _
   | exact LeO.none _
   | refine LeO.ite ?_ ?_
   | refine LeO.bind ?_ (fun _ => ?_)
  ·intro y0 y1 y2 y3 y4 y5 y6 y7
   unfold spec_GoodWindow.l1
   repeat' first
   | (with_reducible exact ih0 _ _ _ _ _ _)
   | (with_reducible exact ih1 _ _ _ _ _ _ _ _)
   | (with_reducible exact ih2 _ _ _ _ _ _ _ _)
   | (with_reducible exact spec_l17All.mono _ _)
   | (with_reducible exact spec_l17Turned.mono _ _)
   | (with_reducible exact LeO.refl _)
   | (with_reducible exact LeO.none _)
   | (with_reducible refine LeO.ite ?_ ?_)
   | (with_reducible refine LeO.bind ?_ (fun _ => ?_))
   | exact ih0 _ _ _ _ _ _
   | exact ih1 _ _ _ _ _ _ _ _
   | exact ih2 _ _ _ _ _ _ _ _
   | exact spec_l17All.mono _ _
   | exact spec_l17Turned.mono _ _
   | exact LeO.none _
   | refine LeO.ite ?_ ?_
   | refine LeO.bind ?_ (fun _ => ?_)
theorem spec_GoodWindow.mono : ∀ a0 a1 a2 a3 a4 k, LeO (spec_GoodWindow.f k a0 a1 a2 a3 a4) (spec_GoodWindow.f (k + 1) a0 a1 a2 a3 a4) := by
 intro a0 a1 a2 a3 a4 k
 obtain ⟨ih0, ih1, ih2⟩ := spec_GoodWindow.mono_l k
 unfold spec_GoodWindow.f
 repeat' first
   | (with_reducible exact ih0 _ _ _ _ _ _)
   | (with_reducible exact ih1 _ _ _ _ _ _ _ _)
   | (with_reducible exact ih2 _ _ _ _ _ _ _ _)
   | (with_reducible exact spec_l17All.mono _ _)
   | (with_reducible exact spec_l17Turned.mono _ _)
   | (with_reducible exact LeO.refl _)
   | (with_reducible exact LeO.none _)
   | (with_reducible refine LeO.ite ?_ ?_)
   | (with_reducible refine LeO.bind ?_ (fun _ => ?_))
   | exact ih0 _ _ _ _ _ _
   | exact ih1 _ _ _ _ _ _ _ _
   | exact ih2 _ _ _ _ _ _ _ _
   | exact spec_l17All.mono _ _
   | exact spec_l17Turned.mono _ _
   | exact LeO.none _
   | refine LeO.ite ?_ ?_
   | refine LeO.bind ?_ (fun _ => ?_)
def spec_GoodWindow.T6 : Bool × List (List Nat × List Nat) := (true, [([], []), ([0], [0]), ([1], [1]), ([2, 1], [2]), ([3], [3]), ([4, 3], [3, 4]), ([3], [3]), ([5, 6, 3], [3, 5, 6]), ([7, 3], [3, 7]), ([3], [3]), ([9, 3], [3, 9]), ([3], [3]), ([11, 3], [3, 11]), ([10, 12, 3], [3, 10, 12]), ([13, 3, 3], [3, 13]), ([14, 14, 3], [3, 14]), ([8, 15, 3], [3, 8, 15]), ([3, 16], [3, 16])])
def spec_GoodWindow.B6 : List Nat := [0, 1, 3, 7, 15, 31, 15, 127, 255, 15, 527, 15, 2063, 7695, 15887, 32271, 65535, 131071]
theorem spec_GoodWindow.tab6 : rtab .any (opsOf Try.f34 6) = spec_GoodWindow.T6 := by kernel_rfl
theorem spec_GoodWindow.bits6 : waitsOk spec_GoodWindow.T6.2 spec_GoodWindow.B6 = true := by kernel_rfl
set_option maxHeartbeats 8000000 in
set_option maxRecDepth 100000 in
theorem spec_GoodWindow.calls (k : Nat) (A0_0 : Option Addr) (c0_0 : Nat) (l0_0 : List (S51)) (A0_1 : Option Addr) (c0_1 : Nat) (l0_1 : List (S51)) (A0_2 : Option Addr) (c0_2 : Nat) (l0_2 : List (S51)) (a0_3 : Int) (a0_4 : Int) (r : Bool) (w : World) (hr0_0 : Kd.C k51 w A0_0 l0_0.length l0_0) (hc0_0 : l0_0.length ≤ c0_0) (hr0_1 : Kd.C k51 w A0_1 l0_1.length l0_1) (hc0_1 : l0_1.length ≤ c0_1) (hr0_2 : Kd.C k51 w A0_2 l0_2.length l0_2) (hc0_2 : l0_2.length ≤ c0_2) (h : spec_GoodWindow.f k l0_0 l0_1 l0_2 a0_3 a0_4 = some r) :
  Calls Try.prog 34 #[.agg #[.slice A0_0 l0_0.length c0_0, .slice A0_1 l0_1.length c0_1, .slice A0_2 l0_2.length c0_2, .int .i64 a0_3, .int .i64 a0_4]] w fun e w' => e = .returned (.bool r) ∧ Below w.heap.size w w' := by
 have hu53 := Try.underlying53
 have hu51 := Try.underlying51
 have HR0_0 := xm hr0_0
 have HC0_0 := xm hc0_0
 clear hr0_0 hc0_0
 have HR0_1 := xm hr0_1
 have HC0_1 := xm hc0_1
 clear hr0_1 hc0_1
 have HR0_2 := xm hr0_2
 have HC0_2 := xm hc0_2
 clear hr0_2 hc0_2
 have HB := xm (Below.refl w.heap.size w)
 have H : (if (l0_1.length : Int) = (l0_0.length : Int) then (spec_GoodWindow.j0 k (decide ((wrap64 ((l0_0.length : Int) + (l0_2.length : Int))) > 60)) l0_0 l0_1 l0_2 a0_3 a0_4) else (spec_GoodWindow.j0 k true l0_0 l0_1 l0_2 a0_3 a0_4)) = some r := h
 clear h
 have HC2 := xm H
 clear H
 go_enter Try.func34, Try.ntmps34
 go_upto_region 1 with (first | ((with_reducible refine gate_dst (N := 1) rfl ?_); (try (refine gate_guard (by rfl) ?_; dsimp only)); refine box_event ?hg (N := 1) ?hd (cs := #[.slice A0_0 l0_0.length c0_0, .slice A0_1 l0_1.length c0_1, .slice A0_2 l0_2.length c0_2, .int .i64 a0_3, .int .i64 a0_4]) (t := 53) ?hr ?_; (case hd => rfl); (case hg => rfl); (case hr => exact zB); intro gb168 hg w3 hbox hb; have n0_ := xm (below_step bB hb); have n1_ := xm (hbox); have n2_ := xm ((by rw [hg]; exact (xz bB) : w.heap.size ≤ gb168)); have n3_ := xm ((by rw [hg]; exact (xz bB) : w.heap.size ≤ gb168)); clear HB; have HB := n0_; have BK168 := n1_; have GW168 := n2_; have GE168 := n3_; clear n0_ n1_ n2_ n3_; clear hb hbox hg))
 (try simp only [Act.put, xi, xj, xk])
 go_cut [23] (fun v23 wc => ∃ (kq : Nat) (x23_1 : Bool), v23 = .bool x23_1 ∧ Aside0 (spec_GoodWindow.j0 kq x23_1 l0_0 l0_1 l0_2 a0_3 a0_4 = some r) ∧ Aside0 (kq ≤ k) ∧ Aside0 (wc.heap[gb168]? = some (.cells #[(.slice A0_0 l0_0.length c0_0), (.slice A0_1 l0_1.length c0_1), (.slice A0_2 l0_2.length c0_2), .int .i64 a0_3, .int .i64 a0_4] 53 (0, 0))) ∧ Aside0 (Below w.heap.size w wc))
 case first =>
  have H := HC2.out
  clear HC2
  by_cases c4 : (l0_1.length : Int) = (l0_0.length : Int)
  ·rw [if_pos c4] at H
   have c4b0 : ((l0_1.length : Int) == (l0_0.length : Int)) = true := beq_iff_eq.mpr c4
   have c4b1 : ((l0_1.length : Int) != (l0_0.length : Int)) = false := bne_eq_false_iff_eq.mpr c4
   have c4b2 : (l0_1.length == l0_0.length) = true := by first | simpa using c4 | (simp at c4 ⊢; omega)
   clear c4
   (first | rw [c4b0] | (simp only [i64_w, i32_w]; rw [c4b0]) | skip)
   have H' := xm H
   clear H
   obtain ⟨hcz5_0, hcz5_1, hcz5_2, hcz5_3, hcz5_4, hfz5_0, hfz5_1, hfz5_2, hfz5_3, hfz5_4⟩ := cz5 BK168.out
   go_wp2
   go_meet
   case rel => exact ⟨_, (decide ((wrap64 ((l0_0.length : Int) + (l0_2.length : Int))) > 60)), (by first | rfl | (simp; done) | (simp [*]; done)), H', ⟨by first | omega | exact Nat.le_refl _⟩, ⟨by (with_reducible repeat (first | refine xq ?_ _ | refine xr ?_ | refine xo ?_ _)); exact BK168.out⟩, ⟨by repeat (first | (with_reducible first | exact HB.out | apply xa | apply xn | apply xd | refine xt ?_ GE168.out) | exact HB.out)⟩⟩
  ·rw [if_neg c4] at H
   have c4b0 : ((l0_1.length : Int) == (l0_0.length : Int)) = false := beq_eq_false_iff_ne.mpr c4
   have c4b1 : ((l0_1.length : Int) != (l0_0.length : Int)) = true := bne_iff_ne.mpr c4
   have c4b2 : (l0_1.length == l0_0.length) = false := by first | simpa using c4 | (simp at c4 ⊢; omega)
   (first | rw [c4b0] | (simp only [i64_w, i32_w]; rw [c4b0]) | skip)
   have H' := xm H
   clear H
   obtain ⟨hcz6_0, hcz6_1, hcz6_2, hcz6_3, hcz6_4, hfz6_0, hfz6_1, hfz6_2, hfz6_3, hfz6_4⟩ := cz5 BK168.out
   go_wp2
   go_meet
   case rel => exact ⟨_, (true), (by first | rfl | (simp; done) | (simp [*]; done)), H', ⟨by first | omega | exact Nat.le_refl _⟩, ⟨by (with_reducible repeat (first | refine xq ?_ _ | refine xr ?_ | refine xo ?_ _)); exact BK168.out⟩, ⟨by repeat (first | (with_reducible first | exact HB.out | apply xa | apply xn | apply xd | refine xt ?_ GE168.out) | exact HB.out)⟩⟩
 case rest =>
  clear HC2
  try clear p2
  try clear c3
  try clear c4
  try clear c4b0
  try clear c4b1
  try clear c4b2
  try clear p6
  try clear hcz5_0
  try clear hcz5_1
  try clear hcz5_2
  try clear hcz5_3
  try clear hcz5_4
  try clear hcz6_0
  try clear hcz6_1
  try clear hcz6_2
  try clear hcz6_3
  try clear hcz6_4
  try clear hfz5_0
  try clear hfz5_1
  try clear hfz5_2
  try clear hfz5_3
  try clear hfz5_4
  try clear hfz6_0
  try clear hfz6_1
  try clear hfz6_2
  try clear hfz6_3
  try clear hfz6_4
  obtain ⟨kq, x23_1, rfl, HA, HJ1, BK168, HB⟩ := hcut
  cases kq with
  | zero => exact absurd HA.out (by simp [spec_GoodWindow.j0])
  | succ kj1 =>
   have H := HA.out
   clear HA
   simp only [spec_GoodWindow.j0] at H
   by_cases c7 : x23_1 = true
   ·subst c7
    have H1 : (some false) = some r := by first | (with_reducible rfl) | (rw [if_pos rfl] at H; exact H)
    clear H
    have H := H1
    clear H1
    obtain rfl := Option.some.inj H
    go_wp2
    go_ret
    exact ⟨by first | rfl | (simp [errW_none, errW_some] <;> rfl) | (simp [*, errW_none, errW_some] <;> rfl), by repeat (first | (with_reducible first | exact HB.out | apply xa | apply xn | apply xd | refine xt ?_ GE168.out) | exact HB.out)⟩
   ·replace c7 := Bool.eq_false_iff.mpr c7
    subst c7
    have H1 : (spec_GoodWindow.l0 kj1 l0_0 (l0_0.length : Int) 0 l0_0 l0_1 l0_2 a0_3 a0_4) = some r := by first | (with_reducible rfl) | (rw [if_neg (show ¬ (false = true) by decide)] at H; exact H)
    clear H
    have H := H1
    clear H1
    have H' := xm H
    clear H
    obtain ⟨hcz8_0, hcz8_1, hcz8_2, hcz8_3, hcz8_4, hfz8_0, hfz8_1, hfz8_2, hfz8_3, hfz8_4⟩ := cz5 BK168.out
    go_wp2
    go_loopg [27] kj1 (fun kq v27 w' => ∃ (x27_2 : Int), v27 = .int .i64 x27_2 ∧ Aside0 (spec_GoodWindow.l0 kq l0_0 (l0_0.length : Int) x27_2 l0_0 l0_1 l0_2 a0_3 a0_4 = some r) ∧ Aside0 (kq ≤ kj1) ∧ Aside0 (w'.heap[gb168]? = some (.cells #[(.slice A0_0 l0_0.length c0_0), (.slice A0_1 l0_1.length c0_1), (.slice A0_2 l0_2.length c0_2), .int .i64 a0_3, .int .i64 a0_4] 53 (0, 0))) ∧ Aside0 (Below w.heap.size w w'))
    case atStart => exact ⟨(0), (by first | rfl | (simp; done) | (simp [*]; done)), H', ⟨Nat.le_refl _⟩, ⟨by (with_reducible repeat (first | refine xq ?_ _ | refine xr ?_ | refine xo ?_ _)); exact BK168.out⟩, ⟨by repeat (first | (with_reducible first | exact HB.out | apply xa | apply xn | apply xd | refine xt ?_ GE168.out) | exact HB.out)⟩⟩
    case round =>
     clear H'
     try clear p2
     try clear c3
     try clear c4
     try clear c4b0
     try clear c4b1
     try clear c4b2
     try clear p6
     try clear c7
     try clear hcz5_0
     try clear hcz5_1
     try clear hcz5_2
     try clear hcz5_3
     try clear hcz5_4
     try clear hcz6_0
     try clear hcz6_1
     try clear hcz6_2
     try clear hcz6_3
     try clear hcz6_4
     try clear hcz8_0
     try clear hcz8_1
     try clear hcz8_2
     try clear hcz8_3
     try clear hcz8_4
     try clear hfz5_0
     try clear hfz5_1
     try clear hfz5_2
     try clear hfz5_3
     try clear hfz5_4
     try clear hfz6_0
     try clear hfz6_1
     try clear hfz6_2
     try clear hfz6_3
     try clear hfz6_4
     try clear hfz8_0
     try clear hfz8_1
     try clear hfz8_2
     try clear hfz8_3
     try clear hfz8_4
     try clear p2
     try clear p6
     obtain ⟨x27_2, rfl, HA, HK2, BK168, HB⟩ := hrel
     cases gk with
     | zero => exact absurd HA.out (by simp [spec_GoodWindow.l0])
     | succ k2 =>
      have H := HA.out
      clear HA
      simp only [spec_GoodWindow.l0] at H
      by_cases c9 : x27_2 < (l0_0.length : Int)
      ·rw [if_pos c9] at H
       have c9b0 : decide (x27_2 < (l0_0.length : Int)) = true := decide_eq_true c9
       clear c9
       by_cases c10 : 0 ≤ x27_2
       ·rw [if_pos c10] at H
        have c10b0 : decide (0 ≤ x27_2) = true := decide_eq_true c10
        clear c10
        by_cases c11 : x27_2 < (l0_0.length : Int)
        ·rw [if_pos c11] at H
         have c11b0 : decide (x27_2 < (l0_0.length : Int)) = true := decide_eq_true c11
         clear c11
         replace H := Option.bind_eq_some_iff.mp H
         obtain ⟨t171, A120, H⟩ := H
         replace H : (if t171 = true then (if x27_2 < (l0_1.length : Int) then (if 0 ≤ (wrap64 (x27_2 + 1)) then (if (wrap64 (x27_2 + 1)) ≤ (l0_0.length : Int) then ((spec_l17Turned.f k2 (l0_0.take ((wrap64 (x27_2 + 1)) : Int).toNat)).bind fun t177 => ((spec_l17All.f k2 t177).bind fun bt180 => (if (!(((rd_T51 l0_1 x27_2).f0) == bt180.1) || (!(((rd_T51 l0_1 x27_2).f1) == bt180.2))) = true then (some false) else (spec_GoodWindow.l0 k2 l0_0 (l0_0.length : Int) (wrap64 (x27_2 + 1)) l0_0 l0_1 l0_2 a0_3 a0_4)))) else (none)) else (none)) else (none)) else (some false)) = some r := H
         have A12 := xm A120
         clear A120
         by_cases c13 : t171 = true
         ·subst c13
          have H1 : (if x27_2 < (l0_1.length : Int) then (if 0 ≤ (wrap64 (x27_2 + 1)) then (if (wrap64 (x27_2 + 1)) ≤ (l0_0.length : Int) then ((spec_l17Turned.f k2 (l0_0.take ((wrap64 (x27_2 + 1)) : Int).toNat)).bind fun t177 => ((spec_l17All.f k2 t177).bind fun bt180 => (if (!(((rd_T51 l0_1 x27_2).f0) == bt180.1) || (!(((rd_T51 l0_1 x27_2).f1) == bt180.2))) = true then (some false) else (spec_GoodWindow.l0 k2 l0_0 (l0_0.length : Int) (wrap64 (x27_2 + 1)) l0_0 l0_1 l0_2 a0_3 a0_4)))) else (none)) else (none)) else (none)) = some r := by first | (with_reducible rfl) | (rw [if_pos rfl] at H; exact H)
          clear H
          have H := H1
          clear H1
          by_cases c14 : x27_2 < (l0_1.length : Int)
          ·rw [if_pos c14] at H
           have c14b0 : decide (x27_2 < (l0_1.length : Int)) = true := decide_eq_true c14
           clear c14
           obtain ⟨ji15, hji15⟩ : ∃ j_ : Int, (wrap64 (x27_2 + 1)) = j_ := ⟨_, rfl⟩
           replace H : (if 0 ≤ (ji15) then (if (ji15) ≤ (l0_0.length : Int) then ((spec_l17Turned.f k2 (l0_0.take ((ji15) : Int).toNat)).bind fun t177 => ((spec_l17All.f k2 t177).bind fun bt180 => (if (!(((rd_T51 l0_1 x27_2).f0) == bt180.1) || (!(((rd_T51 l0_1 x27_2).f1) == bt180.2))) = true then (some false) else (spec_GoodWindow.l0 k2 l0_0 (l0_0.length : Int) ji15 l0_0 l0_1 l0_2 a0_3 a0_4)))) else (none)) else (none)) = some r := by first | (rw [hji15] at H; exact H) | (simp only [hji15] at H ⊢; exact H)
           (try rw [hji15] at A12)
           have hji15w : (IntKind.i64.wrap (x27_2 + 1)) = ji15 := (i64_w _).trans hji15
           by_cases c16 : 0 ≤ (ji15)
           ·rw [if_pos c16] at H
            have c16b0 := eq_true c16
            have c16b1 : decide (0 ≤ (ji15)) = true := decide_eq_true c16
            clear c16
            by_cases c17 : (ji15) ≤ (l0_0.length : Int)
            ·rw [if_pos c17] at H
             have c17b0 := eq_true c17
             have c17b1 : decide ((ji15) ≤ (l0_0.length : Int)) = true := decide_eq_true c17
             clear c17
             obtain ⟨y173, hy173⟩ : ∃ y_ : List (S51), y_ = (l0_0.take ((ji15) : Int).toNat) := ⟨_, rfl⟩
             replace H : ((spec_l17Turned.f k2 y173).bind fun t177 => ((spec_l17All.f k2 t177).bind fun bt180 => (if (!(((rd_T51 l0_1 x27_2).f0) == bt180.1) || (!(((rd_T51 l0_1 x27_2).f1) == bt180.2))) = true then (some false) else (spec_GoodWindow.l0 k2 l0_0 (l0_0.length : Int) ji15 l0_0 l0_1 l0_2 a0_3 a0_4)))) = some r := by first | (rw [hy173]; with_reducible exact H) | (have H2_ := (Option.bind_some _ _).symm.trans H; rw [hy173]; with_reducible exact H2_) | (have H2_ := (Option.bind_some _ _).symm.trans H; with_reducible exact H2_) | with_reducible exact H | (rw [hy173]; exact H) | exact H
             have Ny173 := xm hy173
             clear hy173
             replace H := Option.bind_eq_some_iff.mp H
             obtain ⟨t177, A180, H⟩ := H
             replace H : ((spec_l17All.f k2 t177).bind fun bt180 => (if (!(((rd_T51 l0_1 x27_2).f0) == bt180.1) || (!(((rd_T51 l0_1 x27_2).f1) == bt180.2))) = true then (some false) else (spec_GoodWindow.l0 k2 l0_0 (l0_0.length : Int) ji15 l0_0 l0_1 l0_2 a0_3 a0_4))) = some r := H
             have A18 := xm A180
             clear A180
             replace H := Option.bind_eq_some_iff.mp H
             obtain ⟨⟨t180, t181⟩, A190, H⟩ := H
             replace H : (if (!(((rd_T51 l0_1 x27_2).f0) == t180) || (!(((rd_T51 l0_1 x27_2).f1) == t181))) = true then (some false) else (spec_GoodWindow.l0 k2 l0_0 (l0_0.length : Int) ji15 l0_0 l0_1 l0_2 a0_3 a0_4)) = some r := H
             have A19 := xm A190
             clear A190
             by_cases c20 : (!(((rd_T51 l0_1 x27_2).f0) == t180) || (!(((rd_T51 l0_1 x27_2).f1) == t181))) = true
             ·rw [if_pos c20] at H
              have c20b0 : (!(((rd_T51 l0_1 x27_2).f0) == t180) || (!(((rd_T51 l0_1 x27_2).f1) == t181))) = true := c20
              clear c20
              obtain rfl := Option.some.inj H
              have p169 : 0 ≤ (x27_2 : Int) := of_decide_eq_true aB
              have q169 : x27_2 < (l0_0.length : Int) := of_decide_eq_true aB
              obtain ⟨ad169, e169, hx169_0, hx169_1⟩ := at_T51 HR0_0.out x27_2 p169 q169
              cases e169
              replace hx169_0 := (HB.out.cell (World.block_lt_of_cell? w _ hx169_0)).trans hx169_0
              replace hx169_1 := (HB.out.cell (World.block_lt_of_cell? w _ hx169_1)).trans hx169_1
              replace p169 := eq_true p169
              replace q169 := eq_true q169
              try go_wp2_with (first | ((with_reducible refine gate_dst (N := 4) rfl ?_); (try (refine gate_guard (by rfl) ?_; dsimp only)); refine box_event ?hg (N := 4) ?hd (cs := #[.int .i64 0, .int .i64 0]) (t := 51) ?hr ?_; (case hd => rfl); (case hg => rfl); (case hr => exact zB); intro gb170 hg w21 hbox hb; have n0_ := xm (blk_below (kB BK168) hb); have n1_ := xm (below_step bG hb); have n2_ := xm (hbox); have n3_ := xm ((by rw [hg]; exact (xz bG) : w.heap.size ≤ gb170)); have n4_ := xm ((by rw [hg]; exact (xz bG) : w.heap.size ≤ gb170)); have n5_ := xm ((by rw [hg]; exact Nat.ne_of_lt (blk_lt (kB BK168)) : gb168 ≠ gb170)); have n6_ := xm ((by rw [hg]; exact Nat.ne_of_gt (blk_lt (kB BK168)) : gb170 ≠ gb168)); clear BK168; clear HB; have BK168 := n0_; have HB := n1_; have BK170 := n2_; have GW170 := n3_; have GE170 := n4_; have NB168_170 := n5_; have NB170_168 := n6_; clear n0_ n1_ n2_ n3_ n4_ n5_ n6_; clear hb hbox hg; have hnb22 := NB170_168.out; have hnc22 := NB168_170.out; obtain ⟨hcz23_0, hcz23_1, hfz23_0, hfz23_1⟩ := cz2 BK170.out))
              have n0_ : Aside0 (((w21.setCell ⟨gb170, 0, none⟩ (.int .i64 ((rd_T51 l0_0 x27_2).f0))).setCell ⟨gb170, 1, none⟩ (.int .i64 ((rd_T51 l0_0 x27_2).f1))).heap[gb168]? = some (.cells #[.slice (some ad169) l0_0.length c0_0, .slice A0_1 l0_1.length c0_1, .slice A0_2 l0_2.length c0_2, .int .i64 a0_3, .int .i64 a0_4] 53 (0, 0))) := ⟨by (with_reducible repeat (first | refine xq ?_ _ | refine xr ?_ | refine xo ?_ _)); refine blk_far ?_ NB168_170.out _; (with_reducible repeat (first | refine xq ?_ _ | refine xr ?_ | refine xo ?_ _)); refine blk_far ?_ NB168_170.out _; (with_reducible repeat (first | refine xq ?_ _ | refine xr ?_ | refine xo ?_ _)); exact BK168.out⟩
              have n1_ : Aside0 (((w21.setCell ⟨gb170, 0, none⟩ (.int .i64 ((rd_T51 l0_0 x27_2).f0))).setCell ⟨gb170, 1, none⟩ (.int .i64 ((rd_T51 l0_0 x27_2).f1))).heap[gb170]? = some (.cells #[.int .i64 ((rd_T51 l0_0 x27_2).f0), .int .i64 ((rd_T51 l0_0 x27_2).f1)] 51 (0, 0))) := ⟨by (with_reducible repeat (first | refine xq ?_ _ | refine xr ?_ | refine xo ?_ _)); refine blk_put (cs := #[.int .i64 ((rd_T51 l0_0 x27_2).f0), .int .i64 0]) ?_ 1 _ rfl; (with_reducible repeat (first | refine xq ?_ _ | refine xr ?_ | refine xo ?_ _)); refine blk_put (cs := #[.int .i64 0, .int .i64 0]) ?_ 0 _ rfl; (with_reducible repeat (first | refine xq ?_ _ | refine xr ?_ | refine xo ?_ _)); exact BK170.out⟩
              have n2_ : Aside0 (Below w.heap.size w ((w21.setCell ⟨gb170, 0, none⟩ (.int .i64 ((rd_T51 l0_0 x27_2).f0))).setCell ⟨gb170, 1, none⟩ (.int .i64 ((rd_T51 l0_0 x27_2).f1)))) := ⟨by repeat (first | (with_reducible first | exact HB.out | apply xa | apply xn | apply xd | refine xt ?_ GE168.out | refine xt ?_ GE170.out) | exact HB.out)⟩
              (try clear BK168)
              (try clear BK170)
              (try clear HB)
              generalize ((w21.setCell ⟨gb170, 0, none⟩ (.int .i64 ((rd_T51 l0_0 x27_2).f0))).setCell ⟨gb170, 1, none⟩ (.int .i64 ((rd_T51 l0_0 x27_2).f1))) = w24 at n0_ n1_ n2_ ⊢
              have BK168 := n0_
              have BK170 := n1_
              have HB := n2_
              clear n0_ n1_ n2_
              have n0_ := xm (xr BK168.out)
              have n1_ := xm (xr BK170.out)
              have n2_ := xm (xd HB.out)
              clear BK168
              clear BK170
              clear HB
              have BK168 := n0_
              have BK170 := n1_
              have HB := n2_
              clear n0_ n1_ n2_
              have p172 : 0 ≤ (x27_2 : Int) := of_decide_eq_true aB
              have q172 : x27_2 < (l0_1.length : Int) := of_decide_eq_true aB
              obtain ⟨ad172, e172, hx172_0, hx172_1⟩ := at_T51 HR0_1.out x27_2 p172 q172
              have hw172_1 := hx172_1
              have hw172_0 := hx172_0
              cases e172
              replace hx172_0 := (HB.out.cell (World.block_lt_of_cell? w _ hx172_0)).trans hx172_0
              replace hx172_1 := (HB.out.cell (World.block_lt_of_cell? w _ hx172_1)).trans hx172_1
              replace p172 := eq_true p172
              replace q172 := eq_true q172
              refine start_ (n := 18) (S := fun w' => w'.cell? ⟨gb170, 0, none⟩ = some (.int .i64 ((rd_T51 l0_0 x27_2).f0)) ∧ w'.cell? ⟨gb170, 1, none⟩ = some (.int .i64 ((rd_T51 l0_0 x27_2).f1)) ∧ w'.cell? ⟨gb168, 0, none⟩ = some (.slice (some ad169) l0_0.length c0_0) ∧ w'.cell? ⟨gb168, 1, none⟩ = some (.slice (some ad172) l0_1.length c0_1) ∧ w'.cell? ⟨gb168, 2, none⟩ = some (.slice A0_2 l0_2.length c0_2) ∧ w'.cell? ⟨gb168, 3, none⟩ = some (.int .i64 a0_3) ∧ w'.cell? ⟨gb168, 4, none⟩ = some (.int .i64 a0_4) ∧ w'.cell? (ad172.add ((x27_2).toNat * 2)) = some (.int .i64 ((rd_T51 l0_1 x27_2).f0)) ∧ w'.cell? ⟨(ad172.add ((x27_2).toNat * 2)).block, (ad172.add ((x27_2).toNat * 2)).off + 1, none⟩ = some (.int .i64 ((rd_T51 l0_1 x27_2).f1))) (ds := []) #[Z,Z,Z,Z,Z,Z,Z,Z,Z,Z,Z,Z,Z,Z,Z,Z,Z,Z] (by kernel_rfl) rfl rfl ⟨(xc BK170.out 0).trans rfl, (xc BK170.out 1).trans rfl, (xc BK168.out 0).trans rfl, (xc BK168.out 1).trans rfl, (xc BK168.out 2).trans rfl, (xc BK168.out 3).trans rfl, (xc BK168.out 4).trans rfl, ((HB.out.cell (World.block_lt_of_cell? w _ hw172_0)).trans hw172_0), ((HB.out.cell (World.block_lt_of_cell? w _ hw172_1)).trans hw172_1)⟩ (fun hHeld => ?_); refine with_tabW spec_GoodWindow.tab6 spec_GoodWindow.bits6 (fun HT_ HW_ => ?_)
              generalize w24.drew = w25 at BK168 BK170 HB hx172_0 hx172_1 hHeld ⊢
              refine tx 0 18 1 rfl rfl (take_ofW HT_.out HW_.out (by kernel_rfl)) hHeld (by rintro w' ⟨s0, s1, s2, s3, s4, s5, s6, s7, s8⟩; go_simp; with_reducible rfl) ?_
              refine one_ (i := 1) (N := some 33) #[Y,Y,Z,Z,Z,Z,Z,Z,Z,Z,Z,Z,Z,Z,Z,Z,Z,Z] rfl rfl (one_of HT_.out (by kernel_rfl)) (by decide) (fun K hK => ?_)
              refine goes_ Try.func94 (by kernel_rfl) rfl #[.agg #[.int .i64 ((rd_T51 l0_0 x27_2).f0), .int .i64 ((rd_T51 l0_0 x27_2).f1)]] (by rfl) rfl rfl mB ?_
              with_reducible refine (spec_GoodMap.calls ((rd_T51 l0_0 x27_2).f0) ((rd_T51 l0_0 x27_2).f1) true _ A12.out).mono ?_
              rintro e w26 ⟨rfl, hb⟩
              refine ⟨_, rfl, ?_⟩
              have n0_ := xm (blk_below (kB BK168) hb)
              have n1_ := xm (blk_below (kB BK170) hb)
              have n2_ := xm (below_step bG hb)
              clear BK168
              clear BK170
              clear HB
              have BK168 := n0_
              have BK170 := n1_
              have HB := n2_
              clear n0_ n1_ n2_
              (try clear hb)
              (try clear hb2)
              (try clear hk)
              (try clear hi)
              have q27 : ((ji15) : Int) ≤ ((l0_0.length : Int) : Int) := of_decide_eq_true aB
              obtain ⟨i027, hi027, _, hsz27, _⟩ := info_parts info51
              have hroom27 : l0_0.length ≤ c0_0 := HC0_0.out
              have hC27 : Kd.C k51 _ (some ad169) l0_0.length l0_0 := HR0_0.out
              have hcut27 := cut_to (P := Try.prog) 50 51 .i64 Try.underlying50 hi027 (some ad169) l0_0.length c0_0 (ji15) (of_decide_eq_true aB) q27 hroom27
              have hr27 := Kd.C_take (m := ((ji15) : Int).toNat) hC27 (by omega)
              have hy27 : y173.length = ((ji15) : Int).toNat := (by rw [Ny173.out, List.length_take]; omega)
              rw [← Ny173.out] at hr27
              rw [← hy27] at hcut27
              have HR176 := xm hr27
              have HC176 := xm (show y173.length ≤ c0_0 from by omega)
              clear hr27 hC27 hroom27 hi027 hsz27
              have KY27 := xm hy27
              clear hy27
              replace q27 := eq_true q27
              refine hK.out _ _ ⟨(xc BK170.out 0).trans rfl, (xc BK170.out 1).trans rfl, (xc BK168.out 0).trans rfl, (xc BK168.out 1).trans rfl, (xc BK168.out 2).trans rfl, (xc BK168.out 3).trans rfl, (xc BK168.out 4).trans rfl, ((HB.out.cell (World.block_lt_of_cell? w _ hw172_0)).trans hw172_0), ((HB.out.cell (World.block_lt_of_cell? w _ hw172_1)).trans hw172_1)⟩ (fun hHeld => ?_)
              clear hK K
              refine norm_ (a' := ?_) ?_ ?_
              rotate_left
              ·show Act.put _ (some 33) _ = _
               simp only [Act.put, xi, xj, xk, i64_w, i32_w]
               rfl
              refine px 2 18 7 (any_of HT_.out (by kernel_rfl)) ?_
              refine px 3 18 15 (any_of HT_.out (by kernel_rfl)) ?_
              refine px 4 18 31 (any_of HT_.out (by kernel_rfl)) ?_
              refine px 6 18 95 (any_of HT_.out (by kernel_rfl)) ?_
              refine px 9 18 607 (any_of HT_.out (by kernel_rfl)) ?_
              refine px 11 18 2655 (any_of HT_.out (by kernel_rfl)) ?_
              refine px 12 18 6751 (any_of HT_.out (by kernel_rfl)) ?_
              refine tx 5 18 6783 rfl rfl (take_ofW HT_.out HW_.out (by kernel_rfl)) hHeld (by rintro w' ⟨s0, s1, s2, s3, s4, s5, s6, s7, s8⟩; go_simp; with_reducible rfl) ?_
              refine px 7 18 6911 (any_of HT_.out (by kernel_rfl)) ?_
              refine tx 8 18 7167 rfl rfl (take_ofW HT_.out HW_.out (by kernel_rfl)) hHeld (by rintro w' ⟨s0, s1, s2, s3, s4, s5, s6, s7, s8⟩; go_simp; with_reducible rfl) ?_
              refine tx 10 18 8191 rfl rfl (take_ofW HT_.out HW_.out (by kernel_rfl)) hHeld (by rintro w' ⟨s0, s1, s2, s3, s4, s5, s6, s7, s8⟩; go_simp; with_reducible rfl) ?_
              refine px 13 18 16383 (any_of HT_.out (by kernel_rfl)) ?_
              refine one_ (i := 14) (N := some 46) #[Y,Y,Y,Y,Y,Y,Y,Y,Y,Y,Y,Y,Y,Y,Y,Z,Z,Z] rfl rfl (one_of HT_.out (by kernel_rfl)) (by decide) (fun K hK => ?_)
              refine goes_ Try.func96 (by kernel_rfl) rfl #[.slice (some ad169) y173.length c0_0] (by rfl) rfl rfl mB ?_
              with_reducible refine (spec_l17Turned.calls k2 _ _ y173 t177 _ ?side1 ?side2 A18.out).mono ?_
              (case side1 => exact cB (Kd.C_below HR176.out HB.out))
              (case side2 => exact HC176.out)
              rintro e w28 ⟨v178, rfl, ho0, hb⟩
              refine ⟨_, rfl, ?_⟩
              have n0_ := xm (Kd.R_lower (Kd.R_newB ho0 (kB BK170)) (xz bG))
              have n1_ := xm (blk_below (kB BK168) hb)
              have n2_ := xm (blk_below (kB BK170) hb)
              have n3_ := xm (below_step bG hb)
              clear BK168
              clear BK170
              clear HB
              have HO179 := n0_
              have BK168 := n1_
              have BK170 := n2_
              have HB := n3_
              clear n0_ n1_ n2_ n3_
              (try clear hb)
              (try clear hb2)
              (try clear hk)
              (try clear hi)
              (try clear ho0)
              obtain ⟨Ao29, co29, eo29⟩ := Kd.R_slice HO179.out
              (first | subst eo29 | (injection eo29 with f1_ f2_ f3_; have f4_ := f1_.symm; have f5_ := f3_.symm; clear f1_ f2_ f3_; subst f4_; subst f5_))
              refine hK.out _ _ ⟨(xc BK170.out 0).trans rfl, (xc BK170.out 1).trans rfl, (xc BK168.out 0).trans rfl, (xc BK168.out 1).trans rfl, (xc BK168.out 2).trans rfl, (xc BK168.out 3).trans rfl, (xc BK168.out 4).trans rfl, ((HB.out.cell (World.block_lt_of_cell? w _ hw172_0)).trans hw172_0), ((HB.out.cell (World.block_lt_of_cell? w _ hw172_1)).trans hw172_1)⟩ (fun hHeld => ?_)
              clear hK K
              refine norm_ (a' := ?_) ?_ ?_
              rotate_left
              ·show Act.put _ (some 46) _ = _
               simp only [Act.put, xi, xj, xk, i64_w, i32_w]
               rfl
              refine one_ (i := 15) (N := some 47) #[Y,Y,Y,Y,Y,Y,Y,Y,Y,Y,Y,Y,Y,Y,Y,Y,Z,Z] rfl rfl (one_of HT_.out (by kernel_rfl)) (by decide) (fun K hK => ?_)
              refine goes_ Try.func95 (by kernel_rfl) rfl #[.slice Ao29 t177.length co29] (by rfl) rfl rfl mB ?_
              with_reducible refine (spec_l17All.calls k2 _ _ t177 t180 t181 _ ?side1 ?side2 A19.out).mono ?_
              (case side1 => repeat (first | exact (Kd.R_reads' HO179.out).2.2 | (with_reducible refine Kd.C_alloc ?_ _) | (with_reducible refine Kd.C_drewN ?_ _) | (with_reducible refine Kd.C_drew ?_)))
              (case side2 => exact (Kd.R_reads' HO179.out).2.1)
              rintro e w30 ⟨rfl, hb⟩
              refine ⟨_, rfl, ?_⟩
              have n0_ := xm (Kd.R_below (rB HO179) hb)
              have n1_ := xm (blk_below (kB BK168) hb)
              have n2_ := xm (blk_below (kB BK170) hb)
              have n3_ := xm (below_step bG hb)
              clear HO179
              clear BK168
              clear BK170
              clear HB
              have HO179 := n0_
              have BK168 := n1_
              have BK170 := n2_
              have HB := n3_
              clear n0_ n1_ n2_ n3_
              (try clear hb)
              (try clear hb2)
              (try clear hk)
              (try clear hi)
              refine hK.out _ _ ⟨(xc BK170.out 0).trans rfl, (xc BK170.out 1).trans rfl, (xc BK168.out 0).trans rfl, (xc BK168.out 1).trans rfl, (xc BK168.out 2).trans rfl, (xc BK168.out 3).trans rfl, (xc BK168.out 4).trans rfl, ((HB.out.cell (World.block_lt_of_cell? w _ hw172_0)).trans hw172_0), ((HB.out.cell (World.block_lt_of_cell? w _ hw172_1)).trans hw172_1)⟩ (fun hHeld => ?_)
              clear hK K
              refine norm_ (a' := ?_) ?_ ?_
              rotate_left
              ·show Act.put _ (some 47) _ = _
               simp only [Act.put, xi, xj, xk, i64_w, i32_w]
               rfl
              refine px 16 18 131071 (any_of HT_.out (by kernel_rfl)) ?_
              refine px 17 18 262143 (any_of HT_.out (by kernel_rfl)) ?_
              refine done_ (done_of HT_.out (by kernel_rfl)) ?_
              try go_wp2
              go_ret
              exact ⟨by first | rfl | (simp [errW_none, errW_some] <;> rfl) | (simp only [← hji15]; first | rfl | (simp [errW_none, errW_some] <;> rfl)) | (simp [*, errW_none, errW_some] <;> rfl), by repeat (first | (with_reducible first | exact HB.out | apply xa | apply xn | apply xd | refine xt ?_ GE168.out | refine xt ?_ GE170.out) | exact HB.out)⟩
             ·rw [if_neg c20] at H
              have c20b0 : (!(((rd_T51 l0_1 x27_2).f0) == t180) || (!(((rd_T51 l0_1 x27_2).f1) == t181))) = false := by simpa using c20
              clear c20
              have H' := xm H
              clear H
              have p169 : 0 ≤ (x27_2 : Int) := of_decide_eq_true aB
              have q169 : x27_2 < (l0_0.length : Int) := of_decide_eq_true aB
              obtain ⟨ad169, e169, hx169_0, hx169_1⟩ := at_T51 HR0_0.out x27_2 p169 q169
              cases e169
              replace hx169_0 := (HB.out.cell (World.block_lt_of_cell? w _ hx169_0)).trans hx169_0
              replace hx169_1 := (HB.out.cell (World.block_lt_of_cell? w _ hx169_1)).trans hx169_1
              replace p169 := eq_true p169
              replace q169 := eq_true q169
              try go_wp2_with (first | ((with_reducible refine gate_dst (N := 4) rfl ?_); (try (refine gate_guard (by rfl) ?_; dsimp only)); refine box_event ?hg (N := 4) ?hd (cs := #[.int .i64 0, .int .i64 0]) (t := 51) ?hr ?_; (case hd => rfl); (case hg => rfl); (case hr => exact zB); intro gb170 hg w31 hbox hb; have n0_ := xm (blk_below (kB BK168) hb); have n1_ := xm (below_step bG hb); have n2_ := xm (hbox); have n3_ := xm ((by rw [hg]; exact (xz bG) : w.heap.size ≤ gb170)); have n4_ := xm ((by rw [hg]; exact (xz bG) : w.heap.size ≤ gb170)); have n5_ := xm ((by rw [hg]; exact Nat.ne_of_lt (blk_lt (kB BK168)) : gb168 ≠ gb170)); have n6_ := xm ((by rw [hg]; exact Nat.ne_of_gt (blk_lt (kB BK168)) : gb170 ≠ gb168)); clear BK168; clear HB; have BK168 := n0_; have HB := n1_; have BK170 := n2_; have GW170 := n3_; have GE170 := n4_; have NB168_170 := n5_; have NB170_168 := n6_; clear n0_ n1_ n2_ n3_ n4_ n5_ n6_; clear hb hbox hg; have hnb32 := NB170_168.out; have hnc32 := NB168_170.out; obtain ⟨hcz33_0, hcz33_1, hfz33_0, hfz33_1⟩ := cz2 BK170.out))
              have n0_ : Aside0 (((w31.setCell ⟨gb170, 0, none⟩ (.int .i64 ((rd_T51 l0_0 x27_2).f0))).setCell ⟨gb170, 1, none⟩ (.int .i64 ((rd_T51 l0_0 x27_2).f1))).heap[gb168]? = some (.cells #[.slice (some ad169) l0_0.length c0_0, .slice A0_1 l0_1.length c0_1, .slice A0_2 l0_2.length c0_2, .int .i64 a0_3, .int .i64 a0_4] 53 (0, 0))) := ⟨by (with_reducible repeat (first | refine xq ?_ _ | refine xr ?_ | refine xo ?_ _)); refine blk_far ?_ NB168_170.out _; (with_reducible repeat (first | refine xq ?_ _ | refine xr ?_ | refine xo ?_ _)); refine blk_far ?_ NB168_170.out _; (with_reducible repeat (first | refine xq ?_ _ | refine xr ?_ | refine xo ?_ _)); exact BK168.out⟩
              have n1_ : Aside0 (((w31.setCell ⟨gb170, 0, none⟩ (.int .i64 ((rd_T51 l0_0 x27_2).f0))).setCell ⟨gb170, 1, none⟩ (.int .i64 ((rd_T51 l0_0 x27_2).f1))).heap[gb170]? = some (.cells #[.int .i64 ((rd_T51 l0_0 x27_2).f0), .int .i64 ((rd_T51 l0_0 x27_2).f1)] 51 (0, 0))) := ⟨by (with_reducible repeat (first | refine xq ?_ _ | refine xr ?_ | refine xo ?_ _)); refine blk_put (cs := #[.int .i64 ((rd_T51 l0_0 x27_2).f0), .int .i64 0]) ?_ 1 _ rfl; (with_reducible repeat (first | refine xq ?_ _ | refine xr ?_ | refine xo ?_ _)); refine blk_put (cs := #[.int .i64 0, .int .i64 0]) ?_ 0 _ rfl; (with_reducible repeat (first | refine xq ?_ _ | refine xr ?_ | refine xo ?_ _)); exact BK170.out⟩
              have n2_ : Aside0 (Below w.heap.size w ((w31.setCell ⟨gb170, 0, none⟩ (.int .i64 ((rd_T51 l0_0 x27_2).f0))).setCell ⟨gb170, 1, none⟩ (.int .i64 ((rd_T51 l0_0 x27_2).f1)))) := ⟨by repeat (first | (with_reducible first | exact HB.out | apply xa | apply xn | apply xd | refine xt ?_ GE168.out | refine xt ?_ GE170.out) | exact HB.out)⟩
              (try clear BK168)
              (try clear BK170)
              (try clear HB)
              generalize ((w31.setCell ⟨gb170, 0, none⟩ (.int .i64 ((rd_T51 l0_0 x27_2).f0))).setCell ⟨gb170, 1, none⟩ (.int .i64 ((rd_T51 l0_0 x27_2).f1))) = w34 at n0_ n1_ n2_ ⊢
              have BK168 := n0_
              have BK170 := n1_
              have HB := n2_
              clear n0_ n1_ n2_
              have n0_ := xm (xr BK168.out)
              have n1_ := xm (xr BK170.out)
              have n2_ := xm (xd HB.out)
              clear BK168
              clear BK170
              clear HB
              have BK168 := n0_
              have BK170 := n1_
              have HB := n2_
              clear n0_ n1_ n2_
              have p172 : 0 ≤ (x27_2 : Int) := of_decide_eq_true aB
              have q172 : x27_2 < (l0_1.length : Int) := of_decide_eq_true aB
              obtain ⟨ad172, e172, hx172_0, hx172_1⟩ := at_T51 HR0_1.out x27_2 p172 q172
              have hw172_1 := hx172_1
              have hw172_0 := hx172_0
              cases e172
              replace hx172_0 := (HB.out.cell (World.block_lt_of_cell? w _ hx172_0)).trans hx172_0
              replace hx172_1 := (HB.out.cell (World.block_lt_of_cell? w _ hx172_1)).trans hx172_1
              replace p172 := eq_true p172
              replace q172 := eq_true q172
              refine start_ (n := 18) (S := fun w' => w'.cell? ⟨gb170, 0, none⟩ = some (.int .i64 ((rd_T51 l0_0 x27_2).f0)) ∧ w'.cell? ⟨gb170, 1, none⟩ = some (.int .i64 ((rd_T51 l0_0 x27_2).f1)) ∧ w'.cell? ⟨gb168, 0, none⟩ = some (.slice (some ad169) l0_0.length c0_0) ∧ w'.cell? ⟨gb168, 1, none⟩ = some (.slice (some ad172) l0_1.length c0_1) ∧ w'.cell? ⟨gb168, 2, none⟩ = some (.slice A0_2 l0_2.length c0_2) ∧ w'.cell? ⟨gb168, 3, none⟩ = some (.int .i64 a0_3) ∧ w'.cell? ⟨gb168, 4, none⟩ = some (.int .i64 a0_4) ∧ w'.cell? (ad172.add ((x27_2).toNat * 2)) = some (.int .i64 ((rd_T51 l0_1 x27_2).f0)) ∧ w'.cell? ⟨(ad172.add ((x27_2).toNat * 2)).block, (ad172.add ((x27_2).toNat * 2)).off + 1, none⟩ = some (.int .i64 ((rd_T51 l0_1 x27_2).f1))) (ds := []) #[Z,Z,Z,Z,Z,Z,Z,Z,Z,Z,Z,Z,Z,Z,Z,Z,Z,Z] (by kernel_rfl) rfl rfl ⟨(xc BK170.out 0).trans rfl, (xc BK170.out 1).trans rfl, (xc BK168.out 0).trans rfl, (xc BK168.out 1).trans rfl, (xc BK168.out 2).trans rfl, (xc BK168.out 3).trans rfl, (xc BK168.out 4).trans rfl, ((HB.out.cell (World.block_lt_of_cell? w _ hw172_0)).trans hw172_0), ((HB.out.cell (World.block_lt_of_cell? w _ hw172_1)).trans hw172_1)⟩ (fun hHeld => ?_); refine with_tabW spec_GoodWindow.tab6 spec_GoodWindow.bits6 (fun HT_ HW_ => ?_)
              generalize w34.drew = w35 at BK168 BK170 HB hx172_0 hx172_1 hHeld ⊢
              refine tx 0 18 1 rfl rfl (take_ofW HT_.out HW_.out (by kernel_rfl)) hHeld (by rintro w' ⟨s0, s1, s2, s3, s4, s5, s6, s7, s8⟩; go_simp; with_reducible rfl) ?_
              refine one_ (i := 1) (N := some 33) #[Y,Y,Z,Z,Z,Z,Z,Z,Z,Z,Z,Z,Z,Z,Z,Z,Z,Z] rfl rfl (one_of HT_.out (by kernel_rfl)) (by decide) (fun K hK => ?_)
              refine goes_ Try.func94 (by kernel_rfl) rfl #[.agg #[.int .i64 ((rd_T51 l0_0 x27_2).f0), .int .i64 ((rd_T51 l0_0 x27_2).f1)]] (by rfl) rfl rfl mB ?_
              with_reducible refine (spec_GoodMap.calls ((rd_T51 l0_0 x27_2).f0) ((rd_T51 l0_0 x27_2).f1) true _ A12.out).mono ?_
              rintro e w36 ⟨rfl, hb⟩
              refine ⟨_, rfl, ?_⟩
              have n0_ := xm (blk_below (kB BK168) hb)
              have n1_ := xm (blk_below (kB BK170) hb)
              have n2_ := xm (below_step bG hb)
              clear BK168
              clear BK170
              clear HB
              have BK168 := n0_
              have BK170 := n1_
              have HB := n2_
              clear n0_ n1_ n2_
              (try clear hb)
              (try clear hb2)
              (try clear hk)
              (try clear hi)
              have q37 : ((ji15) : Int) ≤ ((l0_0.length : Int) : Int) := of_decide_eq_true aB
              obtain ⟨i037, hi037, _, hsz37, _⟩ := info_parts info51
              have hroom37 : l0_0.length ≤ c0_0 := HC0_0.out
              have hC37 : Kd.C k51 _ (some ad169) l0_0.length l0_0 := HR0_0.out
              have hcut37 := cut_to (P := Try.prog) 50 51 .i64 Try.underlying50 hi037 (some ad169) l0_0.length c0_0 (ji15) (of_decide_eq_true aB) q37 hroom37
              have hr37 := Kd.C_take (m := ((ji15) : Int).toNat) hC37 (by omega)
              have hy37 : y173.length = ((ji15) : Int).toNat := (by rw [Ny173.out, List.length_take]; omega)
              rw [← Ny173.out] at hr37
              rw [← hy37] at hcut37
              have HR176 := xm hr37
              have HC176 := xm (show y173.length ≤ c0_0 from by omega)
              clear hr37 hC37 hroom37 hi037 hsz37
              have KY37 := xm hy37
              clear hy37
              replace q37 := eq_true q37
              refine hK.out _ _ ⟨(xc BK170.out 0).trans rfl, (xc BK170.out 1).trans rfl, (xc BK168.out 0).trans rfl, (xc BK168.out 1).trans rfl, (xc BK168.out 2).trans rfl, (xc BK168.out 3).trans rfl, (xc BK168.out 4).trans rfl, ((HB.out.cell (World.block_lt_of_cell? w _ hw172_0)).trans hw172_0), ((HB.out.cell (World.block_lt_of_cell? w _ hw172_1)).trans hw172_1)⟩ (fun hHeld => ?_)
              clear hK K
              refine norm_ (a' := ?_) ?_ ?_
              rotate_left
              ·show Act.put _ (some 33) _ = _
               simp only [Act.put, xi, xj, xk, i64_w, i32_w]
               rfl
              refine px 2 18 7 (any_of HT_.out (by kernel_rfl)) ?_
              refine px 3 18 15 (any_of HT_.out (by kernel_rfl)) ?_
              refine px 4 18 31 (any_of HT_.out (by kernel_rfl)) ?_
              refine px 6 18 95 (any_of HT_.out (by kernel_rfl)) ?_
              refine px 9 18 607 (any_of HT_.out (by kernel_rfl)) ?_
              refine px 11 18 2655 (any_of HT_.out (by kernel_rfl)) ?_
              refine px 12 18 6751 (any_of HT_.out (by kernel_rfl)) ?_
              refine tx 5 18 6783 rfl rfl (take_ofW HT_.out HW_.out (by kernel_rfl)) hHeld (by rintro w' ⟨s0, s1, s2, s3, s4, s5, s6, s7, s8⟩; go_simp; with_reducible rfl) ?_
              refine px 7 18 6911 (any_of HT_.out (by kernel_rfl)) ?_
              refine tx 8 18 7167 rfl rfl (take_ofW HT_.out HW_.out (by kernel_rfl)) hHeld (by rintro w' ⟨s0, s1, s2, s3, s4, s5, s6, s7, s8⟩; go_simp; with_reducible rfl) ?_
              refine tx 10 18 8191 rfl rfl (take_ofW HT_.out HW_.out (by kernel_rfl)) hHeld (by rintro w' ⟨s0, s1, s2, s3, s4, s5, s6, s7, s8⟩; go_simp; with_reducible rfl) ?_
              refine px 13 18 16383 (any_of HT_.out (by kernel_rfl)) ?_
              refine one_ (i := 14) (N := some 46) #[Y,Y,Y,Y,Y,Y,Y,Y,Y,Y,Y,Y,Y,Y,Y,Z,Z,Z] rfl rfl (one_of HT_.out (by kernel_rfl)) (by decide) (fun K hK => ?_)
              refine goes_ Try.func96 (by kernel_rfl) rfl #[.slice (some ad169) y173.length c0_0] (by rfl) rfl rfl mB ?_
              with_reducible refine (spec_l17Turned.calls k2 _ _ y173 t177 _ ?side1 ?side2 A18.out).mono ?_
              (case side1 => exact cB (Kd.C_below HR176.out HB.out))
              (case side2 => exact HC176.out)
              rintro e w38 ⟨v178, rfl, ho0, hb⟩
              refine ⟨_, rfl, ?_⟩
              have n0_ := xm (Kd.R_lower (Kd.R_newB ho0 (kB BK170)) (xz bG))
              have n1_ := xm (blk_below (kB BK168) hb)
              have n2_ := xm (blk_below (kB BK170) hb)
              have n3_ := xm (below_step bG hb)
              clear BK168
              clear BK170
              clear HB
              have HO179 := n0_
              have BK168 := n1_
              have BK170 := n2_
              have HB := n3_
              clear n0_ n1_ n2_ n3_
              (try clear hb)
              (try clear hb2)
              (try clear hk)
              (try clear hi)
              (try clear ho0)
              obtain ⟨Ao39, co39, eo39⟩ := Kd.R_slice HO179.out
              (first | subst eo39 | (injection eo39 with f1_ f2_ f3_; have f4_ := f1_.symm; have f5_ := f3_.symm; clear f1_ f2_ f3_; subst f4_; subst f5_))
              refine hK.out _ _ ⟨(xc BK170.out 0).trans rfl, (xc BK170.out 1).trans rfl, (xc BK168.out 0).trans rfl, (xc BK168.out 1).trans rfl, (xc BK168.out 2).trans rfl, (xc BK168.out 3).trans rfl, (xc BK168.out 4).trans rfl, ((HB.out.cell (World.block_lt_of_cell? w _ hw172_0)).trans hw172_0), ((HB.out.cell (World.block_lt_of_cell? w _ hw172_1)).trans hw172_1)⟩ (fun hHeld => ?_)
              clear hK K
              refine norm_ (a' := ?_) ?_ ?_
              rotate_left
              ·show Act.put _ (some 46) _ = _
               simp only [Act.put, xi, xj, xk, i64_w, i32_w]
               rfl
              refine one_ (i := 15) (N := some 47) #[Y,Y,Y,Y,Y,Y,Y,Y,Y,Y,Y,Y,Y,Y,Y,Y,Z,Z] rfl rfl (one_of HT_.out (by kernel_rfl)) (by decide) (fun K hK => ?_)
              refine goes_ Try.func95 (by kernel_rfl) rfl #[.slice Ao39 t177.length co39] (by rfl) rfl rfl mB ?_
              with_reducible refine (spec_l17All.calls k2 _ _ t177 t180 t181 _ ?side1 ?side2 A19.out).mono ?_
              (case side1 => repeat (first | exact (Kd.R_reads' HO179.out).2.2 | (with_reducible refine Kd.C_alloc ?_ _) | (with_reducible refine Kd.C_drewN ?_ _) | (with_reducible refine Kd.C_drew ?_)))
              (case side2 => exact (Kd.R_reads' HO179.out).2.1)
              rintro e w40 ⟨rfl, hb⟩
              refine ⟨_, rfl, ?_⟩
              have n0_ := xm (Kd.R_below (rB HO179) hb)
              have n1_ := xm (blk_below (kB BK168) hb)
              have n2_ := xm (blk_below (kB BK170) hb)
              have n3_ := xm (below_step bG hb)
              clear HO179
              clear BK168
              clear BK170
              clear HB
              have HO179 := n0_
              have BK168 := n1_
              have BK170 := n2_
              have HB := n3_
              clear n0_ n1_ n2_ n3_
              (try clear hb)
              (try clear hb2)
              (try clear hk)
              (try clear hi)
              refine hK.out _ _ ⟨(xc BK170.out 0).trans rfl, (xc BK170.out 1).trans rfl, (xc BK168.out 0).trans rfl, (xc BK168.out 1).trans rfl, (xc BK168.out 2).trans rfl, (xc BK168.out 3).trans rfl, (xc BK168.out 4).trans rfl, ((HB.out.cell (World.block_lt_of_cell? w _ hw172_0)).trans hw172_0), ((HB.out.cell (World.block_lt_of_cell? w _ hw172_1)).trans hw172_1)⟩ (fun hHeld => ?_)
              clear hK K
              refine norm_ (a' := ?_) ?_ ?_
              rotate_left
              ·show Act.put _ (some 47) _ = _
               simp only [Act.put, xi, xj, xk, i64_w, i32_w]
               rfl
              refine px 16 18 131071 (any_of HT_.out (by kernel_rfl)) ?_
              refine px 17 18 262143 (any_of HT_.out (by kernel_rfl)) ?_
              refine done_ (done_of HT_.out (by kernel_rfl)) ?_
              try go_wp2
              go_roundg k2
              case measure => have := HJ1.out; have := HK2.out; omega
              case rel => exact ⟨(ji15), (by first | rfl | (simp; done) | (simp only [← hji15] <;> (first | rfl | simp)) | (simp [*]; done)), H', ⟨by have := HJ1.out; have := HK2.out; omega⟩, ⟨by (with_reducible repeat (first | refine xq ?_ _ | refine xr ?_ | refine xo ?_ _)); exact BK168.out⟩, ⟨by repeat (first | (with_reducible first | exact HB.out | apply xa | apply xn | apply xd | refine xt ?_ GE168.out | refine xt ?_ GE170.out) | exact HB.out)⟩⟩
            ·rw [if_neg c17] at H
             exact absurd H (by simp)
           ·rw [if_neg c16] at H
            exact absurd H (by simp)
          ·rw [if_neg c14] at H
           exact absurd H (by simp)
         ·replace c13 := Bool.eq_false_iff.mpr c13
          subst c13
          have H1 : (some false) = some r := by first | (with_reducible rfl) | (rw [if_neg (show ¬ (false = true) by decide)] at H; exact H)
          clear H
          have H := H1
          clear H1
          obtain rfl := Option.some.inj H
          have p169 : 0 ≤ (x27_2 : Int) := of_decide_eq_true aB
          have q169 : x27_2 < (l0_0.length : Int) := of_decide_eq_true aB
          obtain ⟨ad169, e169, hx169_0, hx169_1⟩ := at_T51 HR0_0.out x27_2 p169 q169
          cases e169
          replace hx169_0 := (HB.out.cell (World.block_lt_of_cell? w _ hx169_0)).trans hx169_0
          replace hx169_1 := (HB.out.cell (World.block_lt_of_cell? w _ hx169_1)).trans hx169_1
          replace p169 := eq_true p169
          replace q169 := eq_true q169
          try go_wp2_with (first | ((with_reducible refine gate_dst (N := 4) rfl ?_); (try (refine gate_guard (by rfl) ?_; dsimp only)); refine box_event ?hg (N := 4) ?hd (cs := #[.int .i64 0, .int .i64 0]) (t := 51) ?hr ?_; (case hd => rfl); (case hg => rfl); (case hr => exact zB); intro gb170 hg w41 hbox hb; have n0_ := xm (blk_below (kB BK168) hb); have n1_ := xm (below_step bG hb); have n2_ := xm (hbox); have n3_ := xm ((by rw [hg]; exact (xz bG) : w.heap.size ≤ gb170)); have n4_ := xm ((by rw [hg]; exact (xz bG) : w.heap.size ≤ gb170)); have n5_ := xm ((by rw [hg]; exact Nat.ne_of_lt (blk_lt (kB BK168)) : gb168 ≠ gb170)); have n6_ := xm ((by rw [hg]; exact Nat.ne_of_gt (blk_lt (kB BK168)) : gb170 ≠ gb168)); clear BK168; clear HB; have BK168 := n0_; have HB := n1_; have BK170 := n2_; have GW170 := n3_; have GE170 := n4_; have NB168_170 := n5_; have NB170_168 := n6_; clear n0_ n1_ n2_ n3_ n4_ n5_ n6_; clear hb hbox hg; have hnb42 := NB170_168.out; have hnc42 := NB168_170.out; obtain ⟨hcz43_0, hcz43_1, hfz43_0, hfz43_1⟩ := cz2 BK170.out))
          have n0_ : Aside0 (((w41.setCell ⟨gb170, 0, none⟩ (.int .i64 ((rd_T51 l0_0 x27_2).f0))).setCell ⟨gb170, 1, none⟩ (.int .i64 ((rd_T51 l0_0 x27_2).f1))).heap[gb168]? = some (.cells #[.slice (some ad169) l0_0.length c0_0, .slice A0_1 l0_1.length c0_1, .slice A0_2 l0_2.length c0_2, .int .i64 a0_3, .int .i64 a0_4] 53 (0, 0))) := ⟨by (with_reducible repeat (first | refine xq ?_ _ | refine xr ?_ | refine xo ?_ _)); refine blk_far ?_ NB168_170.out _; (with_reducible repeat (first | refine xq ?_ _ | refine xr ?_ | refine xo ?_ _)); refine blk_far ?_ NB168_170.out _; (with_reducible repeat (first | refine xq ?_ _ | refine xr ?_ | refine xo ?_ _)); exact BK168.out⟩
          have n1_ : Aside0 (((w41.setCell ⟨gb170, 0, none⟩ (.int .i64 ((rd_T51 l0_0 x27_2).f0))).setCell ⟨gb170, 1, none⟩ (.int .i64 ((rd_T51 l0_0 x27_2).f1))).heap[gb170]? = some (.cells #[.int .i64 ((rd_T51 l0_0 x27_2).f0), .int .i64 ((rd_T51 l0_0 x27_2).f1)] 51 (0, 0))) := ⟨by (with_reducible repeat (first | refine xq ?_ _ | refine xr ?_ | refine xo ?_ _)); refine blk_put (cs := #[.int .i64 ((rd_T51 l0_0 x27_2).f0), .int .i64 0]) ?_ 1 _ rfl; (with_reducible repeat (first | refine xq ?_ _ | refine xr ?_ | refine xo ?_ _)); refine blk_put (cs := #[.int .i64 0, .int .i64 0]) ?_ 0 _ rfl; (with_reducible repeat (first | refine xq ?_ _ | refine xr ?_ | refine xo ?_ _)); exact BK170.out⟩
          have n2_ : Aside0 (Below w.heap.size w ((w41.setCell ⟨gb170, 0, none⟩ (.int .i64 ((rd_T51 l0_0 x27_2).f0))).setCell ⟨gb170, 1, none⟩ (.int .i64 ((rd_T51 l0_0 x27_2).f1)))) := ⟨by repeat (first | (with_reducible first | exact HB.out | apply xa | apply xn | apply xd | refine xt ?_ GE168.out | refine xt ?_ GE170.out) | exact HB.out)⟩
          (try clear BK168)
          (try clear BK170)
          (try clear HB)
          generalize ((w41.setCell ⟨gb170, 0, none⟩ (.int .i64 ((rd_T51 l0_0 x27_2).f0))).setCell ⟨gb170, 1, none⟩ (.int .i64 ((rd_T51 l0_0 x27_2).f1))) = w44 at n0_ n1_ n2_ ⊢
          have BK168 := n0_
          have BK170 := n1_
          have HB := n2_
          clear n0_ n1_ n2_
          have n0_ := xm (xr BK168.out)
          have n1_ := xm (xr BK170.out)
          have n2_ := xm (xd HB.out)
          clear BK168
          clear BK170
          clear HB
          have BK168 := n0_
          have BK170 := n1_
          have HB := n2_
          clear n0_ n1_ n2_
          refine start_ (n := 18) (S := fun w' => w'.cell? ⟨gb170, 0, none⟩ = some (.int .i64 ((rd_T51 l0_0 x27_2).f0)) ∧ w'.cell? ⟨gb170, 1, none⟩ = some (.int .i64 ((rd_T51 l0_0 x27_2).f1))) (ds := []) #[Z,Z,Z,Z,Z,Z,Z,Z,Z,Z,Z,Z,Z,Z,Z,Z,Z,Z] (by kernel_rfl) rfl rfl ⟨(xc BK170.out 0).trans rfl, (xc BK170.out 1).trans rfl⟩ (fun hHeld => ?_); refine with_tabW spec_GoodWindow.tab6 spec_GoodWindow.bits6 (fun HT_ HW_ => ?_)
          generalize w44.drew = w45 at BK168 BK170 HB hHeld ⊢
          refine tx 0 18 1 rfl rfl (take_ofW HT_.out HW_.out (by kernel_rfl)) hHeld (by rintro w' ⟨s0, s1⟩; go_simp; with_reducible rfl) ?_
          refine one_ (i := 1) (N := some 33) #[Y,Y,Z,Z,Z,Z,Z,Z,Z,Z,Z,Z,Z,Z,Z,Z,Z,Z] rfl rfl (one_of HT_.out (by kernel_rfl)) (by decide) (fun K hK => ?_)
          refine goes_ Try.func94 (by kernel_rfl) rfl #[.agg #[.int .i64 ((rd_T51 l0_0 x27_2).f0), .int .i64 ((rd_T51 l0_0 x27_2).f1)]] (by rfl) rfl rfl mB ?_
          with_reducible refine (spec_GoodMap.calls ((rd_T51 l0_0 x27_2).f0) ((rd_T51 l0_0 x27_2).f1) false _ A12.out).mono ?_
          rintro e w46 ⟨rfl, hb⟩
          refine ⟨_, rfl, ?_⟩
          have n0_ := xm (blk_below (kB BK168) hb)
          have n1_ := xm (blk_below (kB BK170) hb)
          have n2_ := xm (below_step bG hb)
          clear BK168
          clear BK170
          clear HB
          have BK168 := n0_
          have BK170 := n1_
          have HB := n2_
          clear n0_ n1_ n2_
          (try clear hb)
          (try clear hb2)
          (try clear hk)
          (try clear hi)
          refine hK.out _ _ ⟨(xc BK170.out 0).trans rfl, (xc BK170.out 1).trans rfl⟩ (fun hHeld => ?_)
          clear hK K
          refine norm_ (a' := ?_) ?_ ?_
          rotate_left
          ·show Act.put _ (some 33) _ = _
           simp only [Act.put, xi, xj, xk, i64_w, i32_w]
           rfl
          refine px 2 18 7 (any_of HT_.out (by kernel_rfl)) ?_
          refine px 3 18 15 (any_of HT_.out (by kernel_rfl)) ?_
          refine ox 4 18 31 (any_of HT_.out (by kernel_rfl)) ?_
          refine ox 5 18 63 (any_of HT_.out (by kernel_rfl)) ?_
          refine ox 6 18 127 (any_of HT_.out (by kernel_rfl)) ?_
          refine ox 7 18 255 (any_of HT_.out (by kernel_rfl)) ?_
          refine ox 8 18 511 (any_of HT_.out (by kernel_rfl)) ?_
          refine ox 9 18 1023 (any_of HT_.out (by kernel_rfl)) ?_
          refine ox 10 18 2047 (any_of HT_.out (by kernel_rfl)) ?_
          refine ox 11 18 4095 (any_of HT_.out (by kernel_rfl)) ?_
          refine ox 12 18 8191 (any_of HT_.out (by kernel_rfl)) ?_
          refine ox 13 18 16383 (any_of HT_.out (by kernel_rfl)) ?_
          refine ox 14 18 32767 (any_of HT_.out (by kernel_rfl)) ?_
          refine ox 15 18 65535 (any_of HT_.out (by kernel_rfl)) ?_
          refine ox 16 18 131071 (any_of HT_.out (by kernel_rfl)) ?_
          refine px 17 18 262143 (any_of HT_.out (by kernel_rfl)) ?_
          refine done_ (done_of HT_.out (by kernel_rfl)) ?_
          try go_wp2
          go_ret
          exact ⟨by first | rfl | (simp [errW_none, errW_some] <;> rfl) | (simp [*, errW_none, errW_some] <;> rfl), by repeat (first | (with_reducible first | exact HB.out | apply xa | apply xn | apply xd | refine xt ?_ GE168.out | refine xt ?_ GE170.out) | exact HB.out)⟩
        ·rw [if_neg c11] at H
         exact absurd H (by simp)
       ·rw [if_neg c10] at H
        exact absurd H (by simp)
      ·rw [if_neg c9] at H
       have c9b0 : decide (x27_2 < (l0_0.length : Int)) = false := decide_eq_false c9
       clear c9
       have H' := xm H
       clear H
       obtain ⟨hcz47_0, hcz47_1, hcz47_2, hcz47_3, hcz47_4, hfz47_0, hfz47_1, hfz47_2, hfz47_3, hfz47_4⟩ := cz5 BK168.out
       go_wp2
       go_loopg [54] k2 (fun kq v54 w' => ∃ (x54_3 : Int), v54 = .int .i64 x54_3 ∧ Aside0 (spec_GoodWindow.l1 kq l0_2 (l0_2.length : Int) x54_3 l0_0 l0_1 l0_2 a0_3 a0_4 = some r) ∧ Aside0 (kq ≤ k2) ∧ Aside0 (w'.heap[gb168]? = some (.cells #[(.slice A0_0 l0_0.length c0_0), (.slice A0_1 l0_1.length c0_1), (.slice A0_2 l0_2.length c0_2), .int .i64 a0_3, .int .i64 a0_4] 53 (0, 0))) ∧ Aside0 (Below w.heap.size w w'))
       case atStart => exact ⟨(0), (by first | rfl | (simp; done) | (simp [*]; done)), H', ⟨Nat.le_refl _⟩, ⟨by (with_reducible repeat (first | refine xq ?_ _ | refine xr ?_ | refine xo ?_ _)); exact BK168.out⟩, ⟨by repeat (first | (with_reducible first | exact HB.out | apply xa | apply xn | apply xd | refine xt ?_ GE168.out) | exact HB.out)⟩⟩
       case round =>
        clear H'
        try clear c1
        try clear p1
        try clear q1
        try clear hx1
        try clear c2
        try clear p2
        try clear c3
        try clear q3
        try clear c4
        try clear c9
        try clear c9b0
        try clear c10
        try clear c11
        try clear c13
        try clear c14
        try clear c16
        try clear p16
        try clear q16
        try clear hx16
        try clear c17
        try clear p17
        try clear q17
        try clear hx17
        try clear c20
        try clear c20b0
        try clear c32
        try clear q37
        try clear c42
        try clear hcz33_0
        try clear hcz33_1
        try clear hcz43_0
        try clear hcz43_1
        try clear hcz47_0
        try clear hcz47_1
        try clear hcz47_2
        try clear hcz47_3
        try clear hcz47_4
        try clear hfz33_0
        try clear hfz33_1
        try clear hfz43_0
        try clear hfz43_1
        try clear hfz47_0
        try clear hfz47_1
        try clear hfz47_2
        try clear hfz47_3
        try clear hfz47_4
        try clear hx169_0
        try clear hx169_1
        try clear hx172_0
        try clear hx172_1
        try clear p169
        try clear p172
        try clear q169
        try clear q172
        try clear q37
        obtain ⟨x54_3, rfl, HA, HK3, BK168, HB⟩ := hrel
        cases gk with
        | zero => exact absurd HA.out (by simp [spec_GoodWindow.l1])
        | succ k3 =>
         have H := HA.out
         clear HA
         simp only [spec_GoodWindow.l1] at H
         by_cases c48 : x54_3 < (l0_2.length : Int)
         ·rw [if_pos c48] at H
          have c48b0 : decide (x54_3 < (l0_2.length : Int)) = true := decide_eq_true c48
          clear c48
          by_cases c49 : 0 ≤ x54_3
          ·rw [if_pos c49] at H
           have c49b0 : decide (0 ≤ x54_3) = true := decide_eq_true c49
           clear c49
           by_cases c50 : x54_3 < (l0_2.length : Int)
           ·rw [if_pos c50] at H
            have c50b0 : decide (x54_3 < (l0_2.length : Int)) = true := decide_eq_true c50
            clear c50
            replace H := Option.bind_eq_some_iff.mp H
            obtain ⟨t184, A510, H⟩ := H
            replace H : (if t184 = true then (spec_GoodWindow.l1 k3 l0_2 (l0_2.length : Int) (wrap64 (x54_3 + 1)) l0_0 l0_1 l0_2 a0_3 a0_4) else (some false)) = some r := H
            have A51 := xm A510
            clear A510
            by_cases c52 : t184 = true
            ·subst c52
             have H1 : (spec_GoodWindow.l1 k3 l0_2 (l0_2.length : Int) (wrap64 (x54_3 + 1)) l0_0 l0_1 l0_2 a0_3 a0_4) = some r := by first | (with_reducible rfl) | (rw [if_pos rfl] at H; exact H)
             clear H
             have H := H1
             clear H1
             have H' := xm H
             clear H
             have p182 : 0 ≤ (x54_3 : Int) := of_decide_eq_true aB
             have q182 : x54_3 < (l0_2.length : Int) := of_decide_eq_true aB
             obtain ⟨ad182, e182, hx182_0, hx182_1⟩ := at_T51 HR0_2.out x54_3 p182 q182
             cases e182
             replace hx182_0 := (HB.out.cell (World.block_lt_of_cell? w _ hx182_0)).trans hx182_0
             replace hx182_1 := (HB.out.cell (World.block_lt_of_cell? w _ hx182_1)).trans hx182_1
             replace p182 := eq_true p182
             replace q182 := eq_true q182
             go_wp2_with (first | ((with_reducible refine gate_dst (N := 6) rfl ?_); (try (refine gate_guard (by rfl) ?_; dsimp only)); refine box_event ?hg (N := 6) ?hd (cs := #[.int .i64 0, .int .i64 0]) (t := 51) ?hr ?_; (case hd => rfl); (case hg => rfl); (case hr => exact zB); intro gb183 hg w53 hbox hb; have n0_ := xm (blk_below (kB BK168) hb); have n1_ := xm (below_step bG hb); have n2_ := xm (hbox); have n3_ := xm ((by rw [hg]; exact (xz bG) : w.heap.size ≤ gb183)); have n4_ := xm ((by rw [hg]; exact (xz bG) : w.heap.size ≤ gb183)); have n5_ := xm ((by rw [hg]; exact Nat.ne_of_lt (blk_lt (kB BK168)) : gb168 ≠ gb183)); have n6_ := xm ((by rw [hg]; exact Nat.ne_of_gt (blk_lt (kB BK168)) : gb183 ≠ gb168)); clear BK168; clear HB; have BK168 := n0_; have HB := n1_; have BK183 := n2_; have GW183 := n3_; have GE183 := n4_; have NB168_183 := n5_; have NB183_168 := n6_; clear n0_ n1_ n2_ n3_ n4_ n5_ n6_; clear hb hbox hg; have hnb54 := NB183_168.out; have hnc54 := NB168_183.out; obtain ⟨hcz55_0, hcz55_1, hfz55_0, hfz55_1⟩ := cz2 BK183.out) | ((with_reducible refine gate_callee (f := 94) rfl ?_); refine goesL_ (some 59) rfl rfl Try.func94 (by kernel_rfl) rfl #[.agg #[.int .i64 ((rd_T51 l0_2 x54_3).f0), .int .i64 ((rd_T51 l0_2 x54_3).f1)]] rfl mB ?_; (with_reducible refine (spec_GoodMap.calls ((rd_T51 l0_2 x54_3).f0) ((rd_T51 l0_2 x54_3).f1) true _ A51.out).mono ?_); rintro e w56 ⟨rfl, hb⟩; refine ⟨_, rfl, ?_⟩; have n0_ := xm (blk_below (g := gb168) (o := .cells #[.slice A0_0 l0_0.length c0_0, .slice A0_1 l0_1.length c0_1, .slice (some ad182) l0_2.length c0_2, .int .i64 a0_3, .int .i64 a0_4] 53 (0, 0)) (by (with_reducible repeat (first | refine xq ?_ _ | refine xr ?_ | refine xo ?_ _)); refine blk_far ?_ NB168_183.out _; (with_reducible repeat (first | refine xq ?_ _ | refine xr ?_ | refine xo ?_ _)); refine blk_far ?_ NB168_183.out _; (with_reducible repeat (first | refine xq ?_ _ | refine xr ?_ | refine xo ?_ _)); exact BK168.out) hb); have n1_ := xm (blk_below (g := gb183) (o := .cells #[.int .i64 ((rd_T51 l0_2 x54_3).f0), .int .i64 ((rd_T51 l0_2 x54_3).f1)] 51 (0, 0)) (by (with_reducible repeat (first | refine xq ?_ _ | refine xr ?_ | refine xo ?_ _)); refine blk_put (cs := #[.int .i64 ((rd_T51 l0_2 x54_3).f0), .int .i64 0]) ?_ 1 _ rfl; (with_reducible repeat (first | refine xq ?_ _ | refine xr ?_ | refine xo ?_ _)); refine blk_put (cs := #[.int .i64 0, .int .i64 0]) ?_ 0 _ rfl; (with_reducible repeat (first | refine xq ?_ _ | refine xr ?_ | refine xo ?_ _)); exact BK183.out) hb); have n2_ := xm (below_step bG hb); clear BK168; clear BK183; clear HB; have BK168 := n0_; have BK183 := n1_; have HB := n2_; clear n0_ n1_ n2_; (try clear hb); (try clear hb2); (try clear hk); (try clear hi)))
             go_roundg k3
             case measure => have := HJ1.out; have := HK2.out; have := HK3.out; omega
             case rel => exact ⟨(wrap64 (x54_3 + 1)), (by first | rfl | (simp; done) | (simp [*]; done)), H', ⟨by have := HJ1.out; have := HK2.out; have := HK3.out; omega⟩, ⟨by (with_reducible repeat (first | refine xq ?_ _ | refine xr ?_ | refine xo ?_ _)); exact BK168.out⟩, ⟨by repeat (first | (with_reducible first | exact HB.out | apply xa | apply xn | apply xd | refine xt ?_ GE168.out | refine xt ?_ GE183.out) | exact HB.out)⟩⟩
            ·replace c52 := Bool.eq_false_iff.mpr c52
             subst c52
             have H1 : (some false) = some r := by first | (with_reducible rfl) | (rw [if_neg (show ¬ (false = true) by decide)] at H; exact H)
             clear H
             have H := H1
             clear H1
             obtain rfl := Option.some.inj H
             have p182 : 0 ≤ (x54_3 : Int) := of_decide_eq_true aB
             have q182 : x54_3 < (l0_2.length : Int) := of_decide_eq_true aB
             obtain ⟨ad182, e182, hx182_0, hx182_1⟩ := at_T51 HR0_2.out x54_3 p182 q182
             cases e182
             replace hx182_0 := (HB.out.cell (World.block_lt_of_cell? w _ hx182_0)).trans hx182_0
             replace hx182_1 := (HB.out.cell (World.block_lt_of_cell? w _ hx182_1)).trans hx182_1
             replace p182 := eq_true p182
             replace q182 := eq_true q182
             go_wp2_with (first | ((with_reducible refine gate_dst (N := 6) rfl ?_); (try (refine gate_guard (by rfl) ?_; dsimp only)); refine box_event ?hg (N := 6) ?hd (cs := #[.int .i64 0, .int .i64 0]) (t := 51) ?hr ?_; (case hd => rfl); (case hg => rfl); (case hr => exact zB); intro gb183 hg w57 hbox hb; have n0_ := xm (blk_below (kB BK168) hb); have n1_ := xm (below_step bG hb); have n2_ := xm (hbox); have n3_ := xm ((by rw [hg]; exact (xz bG) : w.heap.size ≤ gb183)); have n4_ := xm ((by rw [hg]; exact (xz bG) : w.heap.size ≤ gb183)); have n5_ := xm ((by rw [hg]; exact Nat.ne_of_lt (blk_lt (kB BK168)) : gb168 ≠ gb183)); have n6_ := xm ((by rw [hg]; exact Nat.ne_of_gt (blk_lt (kB BK168)) : gb183 ≠ gb168)); clear BK168; clear HB; have BK168 := n0_; have HB := n1_; have BK183 := n2_; have GW183 := n3_; have GE183 := n4_; have NB168_183 := n5_; have NB183_168 := n6_; clear n0_ n1_ n2_ n3_ n4_ n5_ n6_; clear hb hbox hg; have hnb58 := NB183_168.out; have hnc58 := NB168_183.out; obtain ⟨hcz59_0, hcz59_1, hfz59_0, hfz59_1⟩ := cz2 BK183.out) | ((with_reducible refine gate_callee (f := 94) rfl ?_); refine goesL_ (some 59) rfl rfl Try.func94 (by kernel_rfl) rfl #[.agg #[.int .i64 ((rd_T51 l0_2 x54_3).f0), .int .i64 ((rd_T51 l0_2 x54_3).f1)]] rfl mB ?_; (with_reducible refine (spec_GoodMap.calls ((rd_T51 l0_2 x54_3).f0) ((rd_T51 l0_2 x54_3).f1) false _ A51.out).mono ?_); rintro e w60 ⟨rfl, hb⟩; refine ⟨_, rfl, ?_⟩; have n0_ := xm (blk_below (g := gb168) (o := .cells #[.slice A0_0 l0_0.length c0_0, .slice A0_1 l0_1.length c0_1, .slice (some ad182) l0_2.length c0_2, .int .i64 a0_3, .int .i64 a0_4] 53 (0, 0)) (by (with_reducible repeat (first | refine xq ?_ _ | refine xr ?_ | refine xo ?_ _)); refine blk_far ?_ NB168_183.out _; (with_reducible repeat (first | refine xq ?_ _ | refine xr ?_ | refine xo ?_ _)); refine blk_far ?_ NB168_183.out _; (with_reducible repeat (first | refine xq ?_ _ | refine xr ?_ | refine xo ?_ _)); exact BK168.out) hb); have n1_ := xm (blk_below (g := gb183) (o := .cells #[.int .i64 ((rd_T51 l0_2 x54_3).f0), .int .i64 ((rd_T51 l0_2 x54_3).f1)] 51 (0, 0)) (by (with_reducible repeat (first | refine xq ?_ _ | refine xr ?_ | refine xo ?_ _)); refine blk_put (cs := #[.int .i64 ((rd_T51 l0_2 x54_3).f0), .int .i64 0]) ?_ 1 _ rfl; (with_reducible repeat (first | refine xq ?_ _ | refine xr ?_ | refine xo ?_ _)); refine blk_put (cs := #[.int .i64 0, .int .i64 0]) ?_ 0 _ rfl; (with_reducible repeat (first | refine xq ?_ _ | refine xr ?_ | refine xo ?_ _)); exact BK183.out) hb); have n2_ := xm (below_step bG hb); clear BK168; clear BK183; clear HB; have BK168 := n0_; have BK183 := n1_; have HB := n2_; clear n0_ n1_ n2_; (try clear hb); (try clear hb2); (try clear hk); (try clear hi)))
             go_ret
             exact ⟨by first | rfl | (simp [errW_none, errW_some] <;> rfl) | (simp [*, errW_none, errW_some] <;> rfl), by repeat (first | (with_reducible first | exact HB.out | apply xa | apply xn | apply xd | refine xt ?_ GE168.out | refine xt ?_ GE183.out) | exact HB.out)⟩
           ·rw [if_neg c50] at H
            exact absurd H (by simp)
          ·rw [if_neg c49] at H
           exact absurd H (by simp)
         ·rw [if_neg c48] at H
          have c48b0 : decide (x54_3 < (l0_2.length : Int)) = false := decide_eq_false c48
          clear c48
          replace H := Option.bind_eq_some_iff.mp H
          obtain ⟨⟨t185, t186⟩, A610, H⟩ := H
          replace H : (some (a0_3 == t185 && (a0_4 == t186))) = some r := H
          have A61 := xm A610
          clear A610
          obtain rfl := Option.some.inj H
          try go_wp2
          have n0_ := xm (xr BK168.out)
          have n1_ := xm (xd HB.out)
          clear BK168
          clear HB
          have BK168 := n0_
          have HB := n1_
          clear n0_ n1_
          refine start_ (n := 7) (S := fun w' => w'.cell? ⟨gb168, 0, none⟩ = some (.slice A0_0 l0_0.length c0_0) ∧ w'.cell? ⟨gb168, 1, none⟩ = some (.slice A0_1 l0_1.length c0_1) ∧ w'.cell? ⟨gb168, 2, none⟩ = some (.slice A0_2 l0_2.length c0_2) ∧ w'.cell? ⟨gb168, 3, none⟩ = some (.int .i64 a0_3) ∧ w'.cell? ⟨gb168, 4, none⟩ = some (.int .i64 a0_4)) (ds := []) #[false, false, false, false, false, false, false] (by kernel_rfl) rfl rfl ⟨(xc BK168.out 0).trans rfl, (xc BK168.out 1).trans rfl, (xc BK168.out 2).trans rfl, (xc BK168.out 3).trans rfl, (xc BK168.out 4).trans rfl⟩ (fun hHeld => ?_)
          generalize wr.drew = w62 at BK168 HB hHeld ⊢
          refine px 0 7 1 (by kernel_rfl) ?_
          refine px 2 7 5 (by kernel_rfl) ?_
          refine tx 1 7 7 rfl rfl (by kernel_rfl) hHeld (by rintro w' ⟨s0, s1, s2, s3, s4⟩; go_simp; with_reducible rfl) ?_
          refine tx 3 7 15 rfl rfl (by kernel_rfl) hHeld (by rintro w' ⟨s0, s1, s2, s3, s4⟩; go_simp; with_reducible rfl) ?_
          refine one_ (i := 4) (N := some 66) #[true, true, true, true, true, false, false] rfl rfl (by kernel_rfl) (by decide) (fun K hK => ?_)
          refine goes_ Try.func95 (by kernel_rfl) rfl #[.slice A0_2 l0_2.length c0_2] (by rfl) rfl rfl mB ?_
          with_reducible refine (spec_l17All.calls k3 _ _ l0_2 t185 t186 _ ?side1 ?side2 A61.out).mono ?_
          (case side1 => exact cB (Kd.C_below HR0_2.out HB.out))
          (case side2 => exact HC0_2.out)
          rintro e w63 ⟨rfl, hb⟩
          refine ⟨_, rfl, ?_⟩
          have n0_ := xm (blk_below (kB BK168) hb)
          have n1_ := xm (below_step bG hb)
          clear BK168
          clear HB
          have BK168 := n0_
          have HB := n1_
          clear n0_ n1_
          (try clear hb)
          (try clear hb2)
          (try clear hk)
          (try clear hi)
          refine hK.out _ _ ⟨(xc BK168.out 0).trans rfl, (xc BK168.out 1).trans rfl, (xc BK168.out 2).trans rfl, (xc BK168.out 3).trans rfl, (xc BK168.out 4).trans rfl⟩ (fun hHeld => ?_)
          clear hK K
          refine norm_ (a' := ?_) ?_ ?_
          rotate_left
          ·show Act.put _ (some 66) _ = _
           simp only [Act.put, xi, xj, xk, i64_w, i32_w]
           rfl
          refine px 5 7 63 (by kernel_rfl) ?_
          refine px 6 7 127 (by kernel_rfl) ?_
          refine done_ (by kernel_rfl) ?_
          try go_wp2
          go_ret
          exact ⟨by first | rfl | (simp [errW_none, errW_some] <;> rfl) | (simp [*, errW_none, errW_some] <;> rfl), by repeat (first | (with_reducible first | exact HB.out | apply xa | apply xn | apply xd | refine xt ?_ GE168.out) | exact HB.out)⟩

end Go.Proofs.Ytpbpglbldgpckaa.G
