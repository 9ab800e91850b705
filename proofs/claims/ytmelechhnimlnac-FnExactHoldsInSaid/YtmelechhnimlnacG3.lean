/- Written by a program of this claim's own, out of the translation: functions of the program as plain functions, and that the calls answer as these. No conditions. -/
import Derived.Test.YtmelechhnimlnacG0
import Derived.Test.YtmelechhnimlnacG1
import Derived.Test.YtmelechhnimlnacG2
namespace Go.Proofs.Ytmelechhnimlnac.G
open Go.RowKit Go.Proofs.Ytmelechhnimlnac.X Go.Proofs.YtmelechhnimlnacW.PrintWords Go.Proofs.YtmelechhnimlnacW.PrintLast Go.Proofs.YtmelechhnimlnacW.PrintMore
attribute [local go_sem] max2_int min2_int max_two min_two max_three min_three max_four min_four   -- for this text's walks alone
set_option linter.unusedVariables false
set_option linter.unusedSimpArgs false

/-! ### spec_GoodTable: function 14 -/
mutual
def spec_GoodTable.l0 : Nat → List (S52) → Int → Int → Int → List (S52) → Option (Bool)
 | 0, _, _, _, _, _ => none
 | k + 1, x6, x7, x8, x123000, x123001 => if x8 < x7 then (if 0 ≤ x8 then (if x8 < (x6.length : Int) then ((spec_GoodRow.f k ((rd_T52 x6 x8).f0.f0)).bind fun t125 => (if t125 = true then (if (((rd_T52 x6 x8).f0.f0).length : Int) = x123000 then ((spec_l2Weight.f ((rd_T52 x6 x8).f1)).bind fun t126 => (if t126 = true then (if ((rd_T52 x6 x8).f1) = 0 then (spec_GoodTable.j1 k x6 x7 x8 true x123000 x123001) else (if x8 > 0 then (if 0 ≤ (wrap64 (x8 - 1)) then (if (wrap64 (x8 - 1)) < (x123001.length : Int) then ((spec_l1Compare.f k ((rd_T52 x123001 (wrap64 (x8 - 1))).f0.f0) ((rd_T52 x6 x8).f0.f0)).bind fun t128 => (spec_GoodTable.j1 k x6 x7 x8 (decide (t128 ≥ 0)) x123000 x123001)) else (none)) else (none)) else (spec_GoodTable.j1 k x6 x7 x8 false x123000 x123001))) else (spec_GoodTable.j1 k x6 x7 x8 true x123000 x123001))) else (spec_GoodTable.j1 k x6 x7 x8 true x123000 x123001)) else (spec_GoodTable.j1 k x6 x7 x8 true x123000 x123001))) else (none)) else (none)) else ((spec_l1In.f x123000 0 6).bind fun t129 => (if t129 = true then (some (decide ((x123001.length : Int) ≤ 60))) else (some false)))
def spec_GoodTable.j1 : Nat → List (S52) → Int → Int → Bool → Int → List (S52) → Option (Bool)
 | 0, _, _, _, _, _, _ => none
 | k + 1, x6, x7, x8, x53, x123000, x123001 => if x53 = true then (some false) else (spec_GoodTable.l0 k x6 x7 (wrap64 (x8 + 1)) x123000 x123001)
end
def spec_GoodTable.f (k : Nat) (a0_0 : Int) (l0_1 : List (S52)) : Option (Bool) := spec_GoodTable.l0 k l0_1 (l0_1.length : Int) 0 a0_0 l0_1
theorem spec_GoodTable.mono_l : ∀ k, (∀ y0 y1 y2 y3 y4, LeO (spec_GoodTable.l0 k y0 y1 y2 y3 y4) (spec_GoodTable.l0 (k + 1) y0 y1 y2 y3 y4)) ∧ (∀ y0 y1 y2 y3 y4 y5, LeO (spec_GoodTable.j1 k y0 y1 y2 y3 y4 y5) (spec_GoodTable.j1 (k + 1) y0 y1 y2 y3 y4 y5))
 | 0 => ⟨fun _ _ _ _ _ r h => by simp [spec_GoodTable.l0] at h, fun _ _ _ _ _ _ r h => by simp [spec_GoodTable.j1] at h⟩
 | k + 1 => by
  obtain ⟨ih0, ih1⟩ := spec_GoodTable.mono_l k
  refine ⟨?_, ?_⟩
  ·intro y0 y1 y2 y3 y4
   unfold spec_GoodTable.l0
   repeat' first
   | (with_reducible exact ih0 _ _ _ _ _)
   | (with_reducible exact ih1 _ _ _ _ _ _)
   | (with_reducible exact spec_GoodRow.mono _ _)
   | (with_reducible exact spec_l1Compare.mono _ _ _)
   | (with_reducible exact LeO.refl _)
   | (with_reducible exact LeO.none _)
   | (with_reducible refine LeO.ite ?_ ?_)
   | (with_reducible refine LeO.bind ?_ (fun _ => ?_))
   | exact ih0 _ _ _ _ _
   | exact ih1 _ _ _ _ _ _
   | exact spec_GoodRow.mono _ _
   | exact spec_l1Compare.mono _ _ _
   | exact LeO.none _
   | refine LeO.ite ?_ ?_
   | refine LeO.bind ?_ (fun _ => ?_)
  ·intro y0 y1 y2 y3 y4 y5
   unfold spec_GoodTable.j1
   repeat' first
   | (with_reducible exact ih0 _ _ _ _ _)
   | (with_reducible exact ih1 _ _ _ _ _ _)
   | (with_reducible exact spec_GoodRow.mono _ _)
   | (with_reducible exact spec_l1Compare.mono _ _ _)
   | (with_reducible exact LeO.refl _)
   | (with_reducible exact LeO.none _)
   | (with_reducible refine LeO.ite ?_ ?_)
   | (with_reducible refine LeO.bind ?_ (fun _ => ?_))
   | exact ih0 _ _ _ _ _
   | exact ih1 _ _ _ _ _ _
   | exact spec_GoodRow.mono _ _
   | exact spec_l1Compare.mono _ _ _
   | exact LeO.none _
   | refine LeO.ite ?_ ?_
   | refine LeO.bind ?_ (fun _ => ?_)
theorem spec_GoodTable.mono : ∀ a0 a1 k, LeO (spec_GoodTable.f k a0 a1) (spec_GoodTable.f (k + 1) a0 a1) := by
 intro a0 a1 k
 obtain ⟨ih0, ih1⟩ := spec_GoodTable.mono_l k
 unfold spec_GoodTable.f
 repeat' first
   | (with_reducible exact ih0 _ _ _ _ _)
   | (with_reducible exact ih1 _ _ _ _ _ _)
   | (with_reducible exact spec_GoodRow.mono _ _)
   | (with_reducible exact spec_l1Compare.mono _ _ _)
   | (with_reducible exact LeO.refl _)
   | (with_reducible exact LeO.none _)
   | (with_reducible refine LeO.ite ?_ ?_)
   | (with_reducible refine LeO.bind ?_ (fun _ => ?_))
   | exact ih0 _ _ _ _ _
   | exact ih1 _ _ _ _ _ _
   | exact spec_GoodRow.mono _ _
   | exact spec_l1Compare.mono _ _ _
   | exact LeO.none _
   | refine LeO.ite ?_ ?_
   | refine LeO.bind ?_ (fun _ => ?_)
def spec_GoodTable.T4 : Bool × List (List Nat × List Nat) := (true, [([], []), ([0], [0]), ([1], [1]), ([2], [2]), ([3, 2], [3]), ([4], [4]), ([5, 4], [4, 5]), ([6, 4], [4, 6]), ([7, 4], [4, 7]), ([4], [4]), ([9, 4], [4, 9]), ([8, 10, 4], [4, 8, 10]), ([4, 11], [4, 11]), ([12, 4], [12]), ([13], [13]), ([14, 13], [13, 14]), ([15, 13, 13], [13, 15]), ([16, 13], [13, 16]), ([13, 17], [13, 17]), ([18, 16], [18]), ([19], [19]), ([20, 19], [19, 20]), ([21, 19], [19, 21]), ([19, 22], [19, 22]), ([23, 19], [23]), ([24], [24]), ([25, 24], [24, 25]), ([26, 24, 24], [24, 26]), ([27], [27]), ([28, 27], [27, 28]), ([27], [27]), ([30, 27], [27, 30]), ([29, 31, 27], [27, 29, 31]), ([32, 27], [27, 32]), ([33, 27], [27, 33]), ([27], [27]), ([35, 27], [27, 35]), ([34, 36, 27, 27], [27, 34, 36]), ([37, 27], [27, 37]), ([27, 38, 24], [24, 27, 38]), ([24, 39], [24, 39])])
def spec_GoodTable.B4 : List Nat := [0, 1, 3, 7, 15, 31, 63, 127, 255, 31, 543, 2047, 4095, 8191, 16383, 32767, 65535, 131071, 262143, 524287, 1048575, 2097151, 4194303, 8388607, 16777215, 33554431, 67108863, 134217727, 268435455, 536870911, 268435455, 1342177279, 4294967295, 8589934591, 17179869183, 268435455, 34628173823, 137438953471, 274877906943, 549755813887, 1099511627775]
theorem spec_GoodTable.tab4 : rtab .any (opsOf Try.f14 4) = spec_GoodTable.T4 := by kernel_rfl
theorem spec_GoodTable.bits4 : waitsOk spec_GoodTable.T4.2 spec_GoodTable.B4 = true := by kernel_rfl
set_option maxHeartbeats 8000000 in
set_option maxRecDepth 100000 in
theorem spec_GoodTable.calls (k : Nat) (a0_0 : Int) (A0_1 : Option Addr) (c0_1 : Nat) (l0_1 : List (S52)) (r : Bool) (w : World) (hr0_1 : Kd.C k52 w A0_1 l0_1.length l0_1) (hc0_1 : l0_1.length ≤ c0_1) (h : spec_GoodTable.f k a0_0 l0_1 = some r) :
  Calls Try.prog 14 #[.agg #[.int .i64 a0_0, .slice A0_1 l0_1.length c0_1]] w fun e w' => e = .returned (.bool r) ∧ Below w.heap.size w w' := by
 have hu34 := Try.underlying34
 have hu52 := Try.underlying52
 have hu50 := Try.underlying50
 have HR0_1 := xm hr0_1
 have HC0_1 := xm hc0_1
 clear hr0_1 hc0_1
 have HB := xm (Below.refl w.heap.size w)
 have H : (spec_GoodTable.l0 k l0_1 (l0_1.length : Int) 0 a0_0 l0_1) = some r := h
 clear h
 have H' := xm H
 clear H
 go_enter Try.func14, Try.ntmps14
 go_wp2_with (first | ((with_reducible refine gate_dst (N := 1) rfl ?_); (try (refine gate_guard (by rfl) ?_; dsimp only)); refine box_event ?hg (N := 1) ?hd (cs := #[.int .i64 a0_0, .slice A0_1 l0_1.length c0_1]) (t := 34) ?hr ?_; (case hd => rfl); (case hg => rfl); (case hr => exact zB); intro gb122 hg w2 hbox hb; have n0_ := xm (below_step bB hb); have n1_ := xm (hbox); have n2_ := xm ((by rw [hg]; exact (xz bB) : w.heap.size ≤ gb122)); have n3_ := xm ((by rw [hg]; exact (xz bB) : w.heap.size ≤ gb122)); revert n0_ n1_ n2_ n3_; clear HB; intro HB BK122 GW122 GE122; clear hb hbox hg; obtain ⟨hcz3_0, hcz3_1, hfz3_0, hfz3_1⟩ := cz2 BK122.out))
 go_loopg [8] k (fun kq v8 w' => ∃ (x8_1 : Int), v8 = .int .i64 x8_1 ∧ Aside0 (spec_GoodTable.l0 kq l0_1 (l0_1.length : Int) x8_1 a0_0 l0_1 = some r) ∧ Aside0 (kq ≤ k) ∧ Aside0 (w'.heap[gb122]? = some (.cells #[.int .i64 a0_0, (.slice A0_1 l0_1.length c0_1)] 34 (0, 0))) ∧ Aside0 (Below w.heap.size w w'))
 case atStart => exact ⟨(0), sB, H', ⟨Nat.le_refl _⟩, ⟨kB BK122⟩, ⟨bG⟩⟩
 case round =>
  clear H'
  try clear c1
  try clear p2
  try clear hcz3_0 hcz3_1 hfz3_0 hfz3_1
  obtain ⟨x8_1, rfl, HA, HK1, BK122, HB⟩ := hrel
  cases gk with
  | zero => exact absurd HA.out (by simp [spec_GoodTable.l0])
  | succ k1 =>
   have H := HA.out
   clear HA
   simp only [spec_GoodTable.l0] at H
   by_cases c4 : x8_1 < (l0_1.length : Int)
   ·rw [if_pos c4] at H
    have c4b0 : decide (x8_1 < (l0_1.length : Int)) = true := decide_eq_true c4
    clear c4
    by_cases c5 : 0 ≤ x8_1
    ·rw [if_pos c5] at H
     have c5b0 : decide (0 ≤ x8_1) = true := decide_eq_true c5
     clear c5
     by_cases c6 : x8_1 < (l0_1.length : Int)
     ·rw [if_pos c6] at H
      have c6b0 : decide (x8_1 < (l0_1.length : Int)) = true := decide_eq_true c6
      clear c6
      have HC7 := xm H
      clear H
      have p123 : 0 ≤ (x8_1 : Int) := of_decide_eq_true aB
      have q123 : x8_1 < (l0_1.length : Int) := of_decide_eq_true aB
      obtain ⟨ad123, A123_0, c123_0, e123, hx123_0, hx123_1, hl123_0, hi123_0⟩ := at_T52 HR0_1.out x8_1 p123 q123
      cases e123
      replace hx123_0 := hU hx123_0
      replace hx123_1 := hU hx123_1
      have HR123_0 := xm hi123_0
      have HC123_0 := xm hl123_0
      clear hi123_0 hl123_0
      replace p123 := eq_true p123
      replace q123 := eq_true q123
      go_upto_region 4 with (first | ((with_reducible refine gate_dst (N := 4) rfl ?_); (try (refine gate_guard (by rfl) ?_; dsimp only)); refine box_event ?hg (N := 4) ?hd (cs := #[.slice none 0 0, .int .i64 0]) (t := 52) ?hr ?_; (case hd => rfl); (case hg => rfl); (case hr => exact zB); intro gb124 hg w8 hbox hb; have n0_ := xm (blk_below (kB BK122) hb); have n1_ := xm (below_step bG hb); have n2_ := xm (hbox); have n3_ := xm ((by rw [hg]; exact (xz bG) : w.heap.size ≤ gb124)); have n4_ := xm ((by rw [hg]; exact (xz bG) : w.heap.size ≤ gb124)); have n5_ := xm ((by rw [hg]; exact Nat.ne_of_lt (blk_lt (kB BK122)) : gb122 ≠ gb124)); have n6_ := xm ((by rw [hg]; exact Nat.ne_of_gt (blk_lt (kB BK122)) : gb124 ≠ gb122)); revert n0_ n1_ n2_ n3_ n4_ n5_ n6_; clear BK122 HB; intro BK122 HB BK124 GW124 GE124 NB122_124 NB124_122; clear hb hbox hg; have hnb9 := NB124_122.out; have hnc9 := NB122_124.out; obtain ⟨hcz10_0, hcz10_1, hfz10_0, hfz10_1⟩ := cz2 BK124.out))
      (try simp only [Act.put, xi, xj, xk])
      go_cut [53] (fun v53 wc => ∃ (kq : Nat) (x53_6 : Bool), v53 = .bool x53_6 ∧ Aside0 (spec_GoodTable.j1 kq l0_1 (l0_1.length : Int) x8_1 x53_6 a0_0 l0_1 = some r) ∧ Aside0 (kq ≤ k1) ∧ Aside0 (wc.heap[gb122]? = some (.cells #[.int .i64 a0_0, (.slice (some ad123) l0_1.length c0_1)] 34 (0, 0))) ∧ Aside0 (wc.heap[gb124]? = some (.cells #[(.slice A123_0 ((rd_T52 l0_1 x8_1).f0.f0).length c123_0), .int .i64 ((rd_T52 l0_1 x8_1).f1)] 52 (0, 0))) ∧ Aside0 (Below w.heap.size w wc))
      case first =>
       have H := HC7.out
       clear HC7
       replace H := Option.bind_eq_some_iff.mp H
       obtain ⟨t125, A110, H⟩ := H
       replace H : (if t125 = true then (if (((rd_T52 l0_1 x8_1).f0.f0).length : Int) = a0_0 then ((spec_l2Weight.f ((rd_T52 l0_1 x8_1).f1)).bind fun t126 => (if t126 = true then (if ((rd_T52 l0_1 x8_1).f1) = 0 then (spec_GoodTable.j1 k1 l0_1 (l0_1.length : Int) x8_1 true a0_0 l0_1) else (if x8_1 > 0 then (if 0 ≤ (wrap64 (x8_1 - 1)) then (if (wrap64 (x8_1 - 1)) < (l0_1.length : Int) then ((spec_l1Compare.f k1 ((rd_T52 l0_1 (wrap64 (x8_1 - 1))).f0.f0) ((rd_T52 l0_1 x8_1).f0.f0)).bind fun t128 => (spec_GoodTable.j1 k1 l0_1 (l0_1.length : Int) x8_1 (decide (t128 ≥ 0)) a0_0 l0_1)) else (none)) else (none)) else (spec_GoodTable.j1 k1 l0_1 (l0_1.length : Int) x8_1 false a0_0 l0_1))) else (spec_GoodTable.j1 k1 l0_1 (l0_1.length : Int) x8_1 true a0_0 l0_1))) else (spec_GoodTable.j1 k1 l0_1 (l0_1.length : Int) x8_1 true a0_0 l0_1)) else (spec_GoodTable.j1 k1 l0_1 (l0_1.length : Int) x8_1 true a0_0 l0_1)) = some r := H
       have A11 := xm A110
       clear A110
       by_cases c12 : t125 = true
       ·subst c12
        have H1 : (if (((rd_T52 l0_1 x8_1).f0.f0).length : Int) = a0_0 then ((spec_l2Weight.f ((rd_T52 l0_1 x8_1).f1)).bind fun t126 => (if t126 = true then (if ((rd_T52 l0_1 x8_1).f1) = 0 then (spec_GoodTable.j1 k1 l0_1 (l0_1.length : Int) x8_1 true a0_0 l0_1) else (if x8_1 > 0 then (if 0 ≤ (wrap64 (x8_1 - 1)) then (if (wrap64 (x8_1 - 1)) < (l0_1.length : Int) then ((spec_l1Compare.f k1 ((rd_T52 l0_1 (wrap64 (x8_1 - 1))).f0.f0) ((rd_T52 l0_1 x8_1).f0.f0)).bind fun t128 => (spec_GoodTable.j1 k1 l0_1 (l0_1.length : Int) x8_1 (decide (t128 ≥ 0)) a0_0 l0_1)) else (none)) else (none)) else (spec_GoodTable.j1 k1 l0_1 (l0_1.length : Int) x8_1 false a0_0 l0_1))) else (spec_GoodTable.j1 k1 l0_1 (l0_1.length : Int) x8_1 true a0_0 l0_1))) else (spec_GoodTable.j1 k1 l0_1 (l0_1.length : Int) x8_1 true a0_0 l0_1)) = some r := by first | (with_reducible rfl) | (rw [if_pos rfl] at H; exact H)
        clear H
        have H := H1
        clear H1
        by_cases c13 : (((rd_T52 l0_1 x8_1).f0.f0).length : Int) = a0_0
        ·rw [if_pos c13] at H
         have c13b0 : ((((rd_T52 l0_1 x8_1).f0.f0).length : Int) == a0_0) = true := beq_iff_eq.mpr c13
         have c13b1 : ((((rd_T52 l0_1 x8_1).f0.f0).length : Int) != a0_0) = false := bne_eq_false_iff_eq.mpr c13
         clear c13
         (first | rw [c13b0] | (simp only [i64_w, i32_w]; rw [c13b0]) | skip)
         replace H := Option.bind_eq_some_iff.mp H
         obtain ⟨t126, A140, H⟩ := H
         replace H : (if t126 = true then (if ((rd_T52 l0_1 x8_1).f1) = 0 then (spec_GoodTable.j1 k1 l0_1 (l0_1.length : Int) x8_1 true a0_0 l0_1) else (if x8_1 > 0 then (if 0 ≤ (wrap64 (x8_1 - 1)) then (if (wrap64 (x8_1 - 1)) < (l0_1.length : Int) then ((spec_l1Compare.f k1 ((rd_T52 l0_1 (wrap64 (x8_1 - 1))).f0.f0) ((rd_T52 l0_1 x8_1).f0.f0)).bind fun t128 => (spec_GoodTable.j1 k1 l0_1 (l0_1.length : Int) x8_1 (decide (t128 ≥ 0)) a0_0 l0_1)) else (none)) else (none)) else (spec_GoodTable.j1 k1 l0_1 (l0_1.length : Int) x8_1 false a0_0 l0_1))) else (spec_GoodTable.j1 k1 l0_1 (l0_1.length : Int) x8_1 true a0_0 l0_1)) = some r := H
         have A14 := xm A140
         clear A140
         by_cases c15 : t126 = true
         ·subst c15
          have H1 : (if ((rd_T52 l0_1 x8_1).f1) = 0 then (spec_GoodTable.j1 k1 l0_1 (l0_1.length : Int) x8_1 true a0_0 l0_1) else (if x8_1 > 0 then (if 0 ≤ (wrap64 (x8_1 - 1)) then (if (wrap64 (x8_1 - 1)) < (l0_1.length : Int) then ((spec_l1Compare.f k1 ((rd_T52 l0_1 (wrap64 (x8_1 - 1))).f0.f0) ((rd_T52 l0_1 x8_1).f0.f0)).bind fun t128 => (spec_GoodTable.j1 k1 l0_1 (l0_1.length : Int) x8_1 (decide (t128 ≥ 0)) a0_0 l0_1)) else (none)) else (none)) else (spec_GoodTable.j1 k1 l0_1 (l0_1.length : Int) x8_1 false a0_0 l0_1))) = some r := by first | (with_reducible rfl) | (rw [if_pos rfl] at H; exact H)
          clear H
          have H := H1
          clear H1
          by_cases c16 : ((rd_T52 l0_1 x8_1).f1) = 0
          ·rw [if_pos c16] at H
           have c16b0 : (((rd_T52 l0_1 x8_1).f1) == 0) = true := beq_iff_eq.mpr c16
           have c16b1 : (((rd_T52 l0_1 x8_1).f1) != 0) = false := bne_eq_false_iff_eq.mpr c16
           clear c16
           have H' := xm H
           clear H
           try go_wp2
           have n0_ : Aside0 (((w8.setCell ⟨gb124, 0, none⟩ (.slice A123_0 ((rd_T52 l0_1 x8_1).f0.f0).length c123_0)).setCell ⟨gb124, 1, none⟩ (.int .i64 ((rd_T52 l0_1 x8_1).f1))).heap[gb122]? = some (.cells #[.int .i64 a0_0, .slice (some ad123) l0_1.length c0_1] 34 (0, 0))) := ⟨by (with_reducible repeat (first | refine xq ?_ _ | refine xr ?_ | refine xo ?_ _)); refine blk_far ?_ NB122_124.out _; (with_reducible repeat (first | refine xq ?_ _ | refine xr ?_ | refine xo ?_ _)); refine blk_far ?_ NB122_124.out _; (with_reducible repeat (first | refine xq ?_ _ | refine xr ?_ | refine xo ?_ _)); exact BK122.out⟩
           have n1_ : Aside0 (((w8.setCell ⟨gb124, 0, none⟩ (.slice A123_0 ((rd_T52 l0_1 x8_1).f0.f0).length c123_0)).setCell ⟨gb124, 1, none⟩ (.int .i64 ((rd_T52 l0_1 x8_1).f1))).heap[gb124]? = some (.cells #[.slice A123_0 ((rd_T52 l0_1 x8_1).f0.f0).length c123_0, .int .i64 ((rd_T52 l0_1 x8_1).f1)] 52 (0, 0))) := ⟨by (with_reducible repeat (first | refine xq ?_ _ | refine xr ?_ | refine xo ?_ _)); refine blk_put (cs := #[.slice A123_0 ((rd_T52 l0_1 x8_1).f0.f0).length c123_0, .int .i64 0]) ?_ 1 _ rfl; (with_reducible repeat (first | refine xq ?_ _ | refine xr ?_ | refine xo ?_ _)); refine blk_put (cs := #[.slice none 0 0, .int .i64 0]) ?_ 0 _ rfl; (with_reducible repeat (first | refine xq ?_ _ | refine xr ?_ | refine xo ?_ _)); exact BK124.out⟩
           have n2_ : Aside0 (Below w.heap.size w ((w8.setCell ⟨gb124, 0, none⟩ (.slice A123_0 ((rd_T52 l0_1 x8_1).f0.f0).length c123_0)).setCell ⟨gb124, 1, none⟩ (.int .i64 ((rd_T52 l0_1 x8_1).f1)))) := ⟨bG⟩
           (try clear BK122)
           (try clear BK124)
           (try clear HB)
           generalize ((w8.setCell ⟨gb124, 0, none⟩ (.slice A123_0 ((rd_T52 l0_1 x8_1).f0.f0).length c123_0)).setCell ⟨gb124, 1, none⟩ (.int .i64 ((rd_T52 l0_1 x8_1).f1))) = w17 at n0_ n1_ n2_ ⊢
           revert n0_ n1_ n2_; intro BK122 BK124 HB
           have n0_ := xm (xr BK122.out)
           have n1_ := xm (xr BK124.out)
           have n2_ := xm (xd HB.out)
           revert n0_ n1_ n2_; clear BK122 BK124 HB; intro BK122 BK124 HB
           refine start_ (n := 41) (S := fun w' => w'.cell? ⟨gb124, 0, none⟩ = some (.slice A123_0 ((rd_T52 l0_1 x8_1).f0.f0).length c123_0) ∧ w'.cell? ⟨gb124, 1, none⟩ = some (.int .i64 ((rd_T52 l0_1 x8_1).f1)) ∧ w'.cell? ⟨gb122, 0, none⟩ = some (.int .i64 a0_0) ∧ w'.cell? ⟨gb122, 1, none⟩ = some (.slice (some ad123) l0_1.length c0_1)) (ds := []) #[Z,Z,Z,Z,Z,Z,Z,Z,Z,Z,Z,Z,Z,Z,Z,Z,Z,Z,Z,Z,Z,Z,Z,Z,Z,Z,Z,Z,Z,Z,Z,Z,Z,Z,Z,Z,Z,Z,Z,Z,Z] (by kernel_rfl) rfl rfl ⟨(xc BK124.out 0).trans rfl, (xc BK124.out 1).trans rfl, (xc BK122.out 0).trans rfl, (xc BK122.out 1).trans rfl⟩ (fun hHeld => ?_); refine with_tabW spec_GoodTable.tab4 spec_GoodTable.bits4 (fun HT_ HW_ => ?_)
           generalize w17.drew = w18 at BK122 BK124 HB hHeld ⊢
           refine pu 0 41 1 ?_
           refine tx 1 41 3 rfl rfl (take_ofW HT_.out HW_.out (by kernel_rfl)) hHeld (by rintro w' ⟨s0, s1, s2, s3⟩; go_simp; with_reducible rfl) ?_
           refine one_ (i := 2) (N := some 15) #[Y,Y,Y,Z,Z,Z,Z,Z,Z,Z,Z,Z,Z,Z,Z,Z,Z,Z,Z,Z,Z,Z,Z,Z,Z,Z,Z,Z,Z,Z,Z,Z,Z,Z,Z,Z,Z,Z,Z,Z,Z] rfl rfl (one_of HT_.out (by kernel_rfl)) (by decide) (fun K hK => ?_)
           refine goes_ Try.func26 (by kernel_rfl) rfl #[.agg #[.slice A123_0 ((rd_T52 l0_1 x8_1).f0.f0).length c123_0]] (by rfl) rfl rfl mB ?_
           with_reducible refine (spec_GoodRow.calls k1 _ _ ((rd_T52 l0_1 x8_1).f0.f0) true _ ?side1 ?side2 A11.out).mono ?_
           (case side1 => exact cB (Kd.C_below HR123_0.out HB.out))
           (case side2 => exact HC123_0.out)
           rintro e w19 ⟨rfl, hb⟩
           refine ⟨_, rfl, ?_⟩
           have n0_ := xm (blk_below (kB BK122) hb)
           have n1_ := xm (blk_below (kB BK124) hb)
           have n2_ := xm (below_step bG hb)
           revert n0_ n1_ n2_; clear BK122 BK124 HB; intro BK122 BK124 HB
           (try clear hb)
           (try clear hb2)
           (try clear hk)
           (try clear hi)
           refine hK.out _ _ ⟨(xc BK124.out 0).trans rfl, (xc BK124.out 1).trans rfl, (xc BK122.out 0).trans rfl, (xc BK122.out 1).trans rfl⟩ (fun hHeld => nC ?_)
           clear hK K
           refine pu 3 41 15 ?_
           refine pu 4 41 31 ?_
           refine pu 5 41 63 ?_
           refine pu 6 41 127 ?_
           refine pu 9 41 639 ?_
           refine tx 7 41 767 rfl rfl (take_ofW HT_.out HW_.out (by kernel_rfl)) hHeld (by rintro w' ⟨s0, s1, s2, s3⟩; go_simp; with_reducible rfl) ?_
           refine pu 8 41 1023 ?_
           refine tx 10 41 2047 rfl rfl (take_ofW HT_.out HW_.out (by kernel_rfl)) hHeld (by rintro w' ⟨s0, s1, s2, s3⟩; go_simp; with_reducible rfl) ?_
           refine pu 11 41 4095 ?_
           refine pu 12 41 8191 ?_
           refine pu 13 41 16383 ?_
           refine pu 14 41 32767 ?_
           refine tx 15 41 65535 rfl rfl (take_ofW HT_.out HW_.out (by kernel_rfl)) hHeld (by rintro w' ⟨s0, s1, s2, s3⟩; go_simp; with_reducible rfl) ?_
           refine one_ (i := 16) (N := some 29) #[Y,Y,Y,Y,Y,Y,Y,Y,Y,Y,Y,Y,Y,Y,Y,Y,Y,Z,Z,Z,Z,Z,Z,Z,Z,Z,Z,Z,Z,Z,Z,Z,Z,Z,Z,Z,Z,Z,Z,Z,Z] rfl rfl (one_of HT_.out (by kernel_rfl)) (by decide) (fun K hK => ?_)
           refine goes_ Try.func27 (by kernel_rfl) rfl #[.int .i64 ((rd_T52 l0_1 x8_1).f1)] (by rfl) rfl rfl mB ?_
           with_reducible refine (spec_l2Weight.calls ((rd_T52 l0_1 x8_1).f1) true _ A14.out).mono ?_
           rintro e w' ⟨rfl, ⟨nd, rfl⟩⟩
           refine ⟨_, rfl, ?_⟩
           refine hK.out _ _ ⟨(xc BK124.out 0).trans rfl, (xc BK124.out 1).trans rfl, (xc BK122.out 0).trans rfl, (xc BK122.out 1).trans rfl⟩ (fun hHeld => nC ?_)
           clear hK K
           refine pu 17 41 262143 ?_
           refine pu 18 41 524287 ?_
           refine pu 19 41 1048575 ?_
           refine pu 20 41 2097151 ?_
           refine tx 21 41 4194303 rfl rfl (take_ofW HT_.out HW_.out (by kernel_rfl)) hHeld (by rintro w' ⟨s0, s1, s2, s3⟩; go_simp; with_reducible rfl) ?_
           refine pu 22 41 8388607 ?_
           refine pu 23 41 16777215 ?_
           refine pu 24 41 33554431 ?_
           refine ou 25 41 67108863 ?_
           refine ou 26 41 134217727 ?_
           refine ou 27 41 268435455 ?_
           refine ou 28 41 536870911 ?_
           refine ou 29 41 1073741823 ?_
           refine ou 30 41 2147483647 ?_
           refine ou 31 41 4294967295 ?_
           refine ou 32 41 8589934591 ?_
           refine ou 33 41 17179869183 ?_
           refine ou 34 41 34359738367 ?_
           refine ou 35 41 68719476735 ?_
           refine ou 36 41 137438953471 ?_
           refine ou 37 41 274877906943 ?_
           refine ou 38 41 549755813887 ?_
           refine ou 39 41 1099511627775 ?_
           refine pu 40 41 2199023255551 ?_
           refine done_ (done_of HT_.out (by kernel_rfl)) ?_
           try go_wp2
           go_meet
           case rel => exact ⟨_, (true), sB, H', ⟨by have := HK1.out; first | omega | exact Nat.le_refl _⟩, ⟨kB BK122⟩, ⟨kB BK124⟩, ⟨bG⟩⟩
          ·rw [if_neg c16] at H
           have c16b0 : (((rd_T52 l0_1 x8_1).f1) == 0) = false := beq_eq_false_iff_ne.mpr c16
           have c16b1 : (((rd_T52 l0_1 x8_1).f1) != 0) = true := bne_iff_ne.mpr c16
           by_cases c20 : x8_1 > 0
           ·rw [if_pos c20] at H
            have c20b0 : decide (0 < x8_1) = true := decide_eq_true c20
            clear c20
            obtain ⟨ji21, hji21⟩ : ∃ j_ : Int, (wrap64 (x8_1 - 1)) = j_ := ⟨_, rfl⟩
            replace H : (if 0 ≤ (ji21) then (if (ji21) < (l0_1.length : Int) then ((spec_l1Compare.f k1 ((rd_T52 l0_1 (ji21)).f0.f0) ((rd_T52 l0_1 x8_1).f0.f0)).bind fun t128 => (spec_GoodTable.j1 k1 l0_1 (l0_1.length : Int) x8_1 (decide (t128 ≥ 0)) a0_0 l0_1)) else (none)) else (none)) = some r := by first | (rw [hji21] at H; exact H) | (simp only [hji21] at H ⊢; exact H)
            (try rw [hji21] at A11)
            (try rw [hji21] at A14)
            have hji21w : (IntKind.i64.wrap (x8_1 - 1)) = ji21 := (i64_w _).trans hji21
            by_cases c22 : 0 ≤ (ji21)
            ·rw [if_pos c22] at H
             have c22b0 : decide (0 ≤ (ji21)) = true := decide_eq_true c22
             clear c22
             by_cases c23 : (ji21) < (l0_1.length : Int)
             ·rw [if_pos c23] at H
              have c23b0 : decide ((ji21) < (l0_1.length : Int)) = true := decide_eq_true c23
              clear c23
              replace H := Option.bind_eq_some_iff.mp H
              obtain ⟨t128, A240, H⟩ := H
              replace H : (spec_GoodTable.j1 k1 l0_1 (l0_1.length : Int) x8_1 (decide (t128 ≥ 0)) a0_0 l0_1) = some r := H
              have A24 := xm A240
              clear A240
              have H' := xm H
              clear H
              try go_wp2
              have n0_ : Aside0 (((w8.setCell ⟨gb124, 0, none⟩ (.slice A123_0 ((rd_T52 l0_1 x8_1).f0.f0).length c123_0)).setCell ⟨gb124, 1, none⟩ (.int .i64 ((rd_T52 l0_1 x8_1).f1))).heap[gb122]? = some (.cells #[.int .i64 a0_0, .slice (some ad123) l0_1.length c0_1] 34 (0, 0))) := ⟨by (with_reducible repeat (first | refine xq ?_ _ | refine xr ?_ | refine xo ?_ _)); refine blk_far ?_ NB122_124.out _; (with_reducible repeat (first | refine xq ?_ _ | refine xr ?_ | refine xo ?_ _)); refine blk_far ?_ NB122_124.out _; (with_reducible repeat (first | refine xq ?_ _ | refine xr ?_ | refine xo ?_ _)); exact BK122.out⟩
              have n1_ : Aside0 (((w8.setCell ⟨gb124, 0, none⟩ (.slice A123_0 ((rd_T52 l0_1 x8_1).f0.f0).length c123_0)).setCell ⟨gb124, 1, none⟩ (.int .i64 ((rd_T52 l0_1 x8_1).f1))).heap[gb124]? = some (.cells #[.slice A123_0 ((rd_T52 l0_1 x8_1).f0.f0).length c123_0, .int .i64 ((rd_T52 l0_1 x8_1).f1)] 52 (0, 0))) := ⟨by (with_reducible repeat (first | refine xq ?_ _ | refine xr ?_ | refine xo ?_ _)); refine blk_put (cs := #[.slice A123_0 ((rd_T52 l0_1 x8_1).f0.f0).length c123_0, .int .i64 0]) ?_ 1 _ rfl; (with_reducible repeat (first | refine xq ?_ _ | refine xr ?_ | refine xo ?_ _)); refine blk_put (cs := #[.slice none 0 0, .int .i64 0]) ?_ 0 _ rfl; (with_reducible repeat (first | refine xq ?_ _ | refine xr ?_ | refine xo ?_ _)); exact BK124.out⟩
              have n2_ : Aside0 (Below w.heap.size w ((w8.setCell ⟨gb124, 0, none⟩ (.slice A123_0 ((rd_T52 l0_1 x8_1).f0.f0).length c123_0)).setCell ⟨gb124, 1, none⟩ (.int .i64 ((rd_T52 l0_1 x8_1).f1)))) := ⟨bG⟩
              (try clear BK122)
              (try clear BK124)
              (try clear HB)
              generalize ((w8.setCell ⟨gb124, 0, none⟩ (.slice A123_0 ((rd_T52 l0_1 x8_1).f0.f0).length c123_0)).setCell ⟨gb124, 1, none⟩ (.int .i64 ((rd_T52 l0_1 x8_1).f1))) = w25 at n0_ n1_ n2_ ⊢
              revert n0_ n1_ n2_; intro BK122 BK124 HB
              have n0_ := xm (xr BK122.out)
              have n1_ := xm (xr BK124.out)
              have n2_ := xm (xd HB.out)
              revert n0_ n1_ n2_; clear BK122 BK124 HB; intro BK122 BK124 HB
              have p127 : 0 ≤ ((ji21) : Int) := of_decide_eq_true aB
              have q127 : (ji21) < (l0_1.length : Int) := of_decide_eq_true aB
              obtain ⟨ad127, A127_0, c127_0, e127, hx127_0, hx127_1, hl127_0, hi127_0⟩ := at_T52 HR0_1.out (ji21) p127 q127
              have hw127_1 := hx127_1
              have hw127_0 := hx127_0
              obtain rfl : ad123 = ad127 := (by injection e127)
              replace hx127_0 := hU hx127_0
              replace hx127_1 := hU hx127_1
              have HR127_0 := xm hi127_0
              have HC127_0 := xm hl127_0
              clear hi127_0 hl127_0
              replace p127 := eq_true p127
              replace q127 := eq_true q127
              refine start_ (n := 41) (S := fun w' => w'.cell? ⟨gb124, 0, none⟩ = some (.slice A123_0 ((rd_T52 l0_1 x8_1).f0.f0).length c123_0) ∧ w'.cell? ⟨gb124, 1, none⟩ = some (.int .i64 ((rd_T52 l0_1 x8_1).f1)) ∧ w'.cell? ⟨gb122, 0, none⟩ = some (.int .i64 a0_0) ∧ w'.cell? ⟨gb122, 1, none⟩ = some (.slice (some ad123) l0_1.length c0_1) ∧ w'.cell? (ad123.add (((ji21)).toNat * 2)) = some (.slice A127_0 ((rd_T52 l0_1 (ji21)).f0.f0).length c127_0) ∧ w'.cell? ⟨(ad123.add (((ji21)).toNat * 2)).block, (ad123.add (((ji21)).toNat * 2)).off + 1, none⟩ = some (.int .i64 ((rd_T52 l0_1 (ji21)).f1))) (ds := []) #[Z,Z,Z,Z,Z,Z,Z,Z,Z,Z,Z,Z,Z,Z,Z,Z,Z,Z,Z,Z,Z,Z,Z,Z,Z,Z,Z,Z,Z,Z,Z,Z,Z,Z,Z,Z,Z,Z,Z,Z,Z] (by kernel_rfl) rfl rfl ⟨(xc BK124.out 0).trans rfl, (xc BK124.out 1).trans rfl, (xc BK122.out 0).trans rfl, (xc BK122.out 1).trans rfl, ((HB.out.cell (World.block_lt_of_cell? w _ hw127_0)).trans hw127_0), ((HB.out.cell (World.block_lt_of_cell? w _ hw127_1)).trans hw127_1)⟩ (fun hHeld => ?_); refine with_tabW spec_GoodTable.tab4 spec_GoodTable.bits4 (fun HT_ HW_ => ?_)
              generalize w25.drew = w26 at BK122 BK124 HB HR127_0 hx127_0 hx127_1 hHeld ⊢
              refine pu 0 41 1 ?_
              refine tx 1 41 3 rfl rfl (take_ofW HT_.out HW_.out (by kernel_rfl)) hHeld (by rintro w' ⟨s0, s1, s2, s3, s4, s5⟩; go_simp; with_reducible rfl) ?_
              refine one_ (i := 2) (N := some 15) #[Y,Y,Y,Z,Z,Z,Z,Z,Z,Z,Z,Z,Z,Z,Z,Z,Z,Z,Z,Z,Z,Z,Z,Z,Z,Z,Z,Z,Z,Z,Z,Z,Z,Z,Z,Z,Z,Z,Z,Z,Z] rfl rfl (one_of HT_.out (by kernel_rfl)) (by decide) (fun K hK => ?_)
              refine goes_ Try.func26 (by kernel_rfl) rfl #[.agg #[.slice A123_0 ((rd_T52 l0_1 x8_1).f0.f0).length c123_0]] (by rfl) rfl rfl mB ?_
              with_reducible refine (spec_GoodRow.calls k1 _ _ ((rd_T52 l0_1 x8_1).f0.f0) true _ ?side1 ?side2 A11.out).mono ?_
              (case side1 => exact cB (Kd.C_below HR123_0.out HB.out))
              (case side2 => exact HC123_0.out)
              rintro e w27 ⟨rfl, hb⟩
              refine ⟨_, rfl, ?_⟩
              have n0_ := xm (blk_below (kB BK122) hb)
              have n1_ := xm (blk_below (kB BK124) hb)
              have n2_ := xm (below_step bG hb)
              revert n0_ n1_ n2_; clear BK122 BK124 HB; intro BK122 BK124 HB
              (try clear hb)
              (try clear hb2)
              (try clear hk)
              (try clear hi)
              refine hK.out _ _ ⟨(xc BK124.out 0).trans rfl, (xc BK124.out 1).trans rfl, (xc BK122.out 0).trans rfl, (xc BK122.out 1).trans rfl, ((HB.out.cell (World.block_lt_of_cell? w _ hw127_0)).trans hw127_0), ((HB.out.cell (World.block_lt_of_cell? w _ hw127_1)).trans hw127_1)⟩ (fun hHeld => nC ?_)
              clear hK K
              refine pu 3 41 15 ?_
              refine pu 4 41 31 ?_
              refine pu 5 41 63 ?_
              refine pu 6 41 127 ?_
              refine pu 9 41 639 ?_
              refine tx 7 41 767 rfl rfl (take_ofW HT_.out HW_.out (by kernel_rfl)) hHeld (by rintro w' ⟨s0, s1, s2, s3, s4, s5⟩; go_simp; with_reducible rfl) ?_
              refine pu 8 41 1023 ?_
              refine tx 10 41 2047 rfl rfl (take_ofW HT_.out HW_.out (by kernel_rfl)) hHeld (by rintro w' ⟨s0, s1, s2, s3, s4, s5⟩; go_simp; with_reducible rfl) ?_
              refine pu 11 41 4095 ?_
              refine pu 12 41 8191 ?_
              refine pu 13 41 16383 ?_
              refine pu 14 41 32767 ?_
              refine tx 15 41 65535 rfl rfl (take_ofW HT_.out HW_.out (by kernel_rfl)) hHeld (by rintro w' ⟨s0, s1, s2, s3, s4, s5⟩; go_simp; with_reducible rfl) ?_
              refine one_ (i := 16) (N := some 29) #[Y,Y,Y,Y,Y,Y,Y,Y,Y,Y,Y,Y,Y,Y,Y,Y,Y,Z,Z,Z,Z,Z,Z,Z,Z,Z,Z,Z,Z,Z,Z,Z,Z,Z,Z,Z,Z,Z,Z,Z,Z] rfl rfl (one_of HT_.out (by kernel_rfl)) (by decide) (fun K hK => ?_)
              refine goes_ Try.func27 (by kernel_rfl) rfl #[.int .i64 ((rd_T52 l0_1 x8_1).f1)] (by rfl) rfl rfl mB ?_
              with_reducible refine (spec_l2Weight.calls ((rd_T52 l0_1 x8_1).f1) true _ A14.out).mono ?_
              rintro e w' ⟨rfl, ⟨nd, rfl⟩⟩
              refine ⟨_, rfl, ?_⟩
              refine hK.out _ _ ⟨(xc BK124.out 0).trans rfl, (xc BK124.out 1).trans rfl, (xc BK122.out 0).trans rfl, (xc BK122.out 1).trans rfl, ((HB.out.cell (World.block_lt_of_cell? w _ hw127_0)).trans hw127_0), ((HB.out.cell (World.block_lt_of_cell? w _ hw127_1)).trans hw127_1)⟩ (fun hHeld => nC ?_)
              clear hK K
              refine pu 17 41 262143 ?_
              refine pu 18 41 524287 ?_
              refine pu 19 41 1048575 ?_
              refine pu 20 41 2097151 ?_
              refine tx 21 41 4194303 rfl rfl (take_ofW HT_.out HW_.out (by kernel_rfl)) hHeld (by rintro w' ⟨s0, s1, s2, s3, s4, s5⟩; go_simp; with_reducible rfl) ?_
              refine pu 22 41 8388607 ?_
              refine pu 23 41 16777215 ?_
              refine pu 24 41 33554431 ?_
              refine pu 25 41 67108863 ?_
              refine pu 26 41 134217727 ?_
              refine pu 27 41 268435455 ?_
              refine pu 28 41 536870911 ?_
              refine pu 30 41 1610612735 ?_
              refine pu 31 41 3758096383 ?_
              refine pu 35 41 38117834751 ?_
              refine tx 29 41 38654705663 rfl rfl (take_ofW HT_.out HW_.out (by kernel_rfl)) hHeld (by rintro w' ⟨s0, s1, s2, s3, s4, s5⟩; go_simp; with_reducible rfl) ?_
              refine pu 32 41 42949672959 ?_
              refine pu 33 41 51539607551 ?_
              refine tx 34 41 68719476735 rfl rfl (take_ofW HT_.out HW_.out (by kernel_rfl)) hHeld (by rintro w' ⟨s0, s1, s2, s3, s4, s5⟩; go_simp; with_reducible rfl) ?_
              refine tx 36 41 137438953471 rfl rfl (take_ofW HT_.out HW_.out (by kernel_rfl)) hHeld (by rintro w' ⟨s0, s1, s2, s3, s4, s5⟩; go_simp; with_reducible rfl) ?_
              refine one_ (i := 37) (N := some 50) #[Y,Y,Y,Y,Y,Y,Y,Y,Y,Y,Y,Y,Y,Y,Y,Y,Y,Y,Y,Y,Y,Y,Y,Y,Y,Y,Y,Y,Y,Y,Y,Y,Y,Y,Y,Y,Y,Y,Z,Z,Z] rfl rfl (one_of HT_.out (by kernel_rfl)) (by decide) (fun K hK => ?_)
              refine goes_ Try.func28 (by kernel_rfl) rfl #[.agg #[.slice A127_0 ((rd_T52 l0_1 (ji21)).f0.f0).length c127_0], .agg #[.slice A123_0 ((rd_T52 l0_1 x8_1).f0.f0).length c123_0]] (by rfl) rfl rfl (by (try simp only [List.map_toArray, List.map_cons, List.map_nil]); first | done | (simp only [hji21]; rfl) | rfl | (simp only [List.length_drop, List.length_take]; rfl)) ?_
              with_reducible refine (spec_l1Compare.calls k1 _ _ ((rd_T52 l0_1 (ji21)).f0.f0) _ _ ((rd_T52 l0_1 x8_1).f0.f0) t128 _ ?side1 ?side2 ?side3 ?side4 A24.out).mono ?_
              (case side1 => repeat (first | exact (Kd.C_below HR127_0.out bG) | (with_reducible refine Kd.C_alloc ?_ _) | (with_reducible refine Kd.C_drewN ?_ _) | (with_reducible refine Kd.C_drew ?_)))
              (case side2 => exact HC127_0.out)
              (case side3 => repeat (first | exact (Kd.C_below HR123_0.out bG) | (with_reducible refine Kd.C_alloc ?_ _) | (with_reducible refine Kd.C_drewN ?_ _) | (with_reducible refine Kd.C_drew ?_)))
              (case side4 => exact HC123_0.out)
              rintro e w28 ⟨rfl, hb⟩
              refine ⟨_, rfl, ?_⟩
              have n0_ := xm (blk_below (kB BK122) hb)
              have n1_ := xm (blk_below (kB BK124) hb)
              have n2_ := xm (below_step bG hb)
              revert n0_ n1_ n2_; clear BK122 BK124 HB; intro BK122 BK124 HB
              (try clear hb)
              (try clear hb2)
              (try clear hk)
              (try clear hi)
              refine hK.out _ _ ⟨(xc BK124.out 0).trans rfl, (xc BK124.out 1).trans rfl, (xc BK122.out 0).trans rfl, (xc BK122.out 1).trans rfl, ((HB.out.cell (World.block_lt_of_cell? w _ hw127_0)).trans hw127_0), ((HB.out.cell (World.block_lt_of_cell? w _ hw127_1)).trans hw127_1)⟩ (fun hHeld => nC ?_)
              clear hK K
              refine pu 38 41 549755813887 ?_
              refine pu 39 41 1099511627775 ?_
              refine pu 40 41 2199023255551 ?_
              refine done_ (done_of HT_.out (by kernel_rfl)) ?_
              try go_wp2
              go_meet
              case rel => exact ⟨_, (decide (t128 ≥ 0)), sB, H', ⟨by have := HK1.out; first | omega | exact Nat.le_refl _⟩, ⟨kB BK122⟩, ⟨kB BK124⟩, ⟨bG⟩⟩
             ·rw [if_neg c23] at H
              exact absurd H (by simp)
            ·rw [if_neg c22] at H
             exact absurd H (by simp)
           ·rw [if_neg c20] at H
            have c20b0 : decide (0 < x8_1) = false := decide_eq_false c20
            clear c20
            have H' := xm H
            clear H
            try go_wp2
            have n0_ : Aside0 (((w8.setCell ⟨gb124, 0, none⟩ (.slice A123_0 ((rd_T52 l0_1 x8_1).f0.f0).length c123_0)).setCell ⟨gb124, 1, none⟩ (.int .i64 ((rd_T52 l0_1 x8_1).f1))).heap[gb122]? = some (.cells #[.int .i64 a0_0, .slice (some ad123) l0_1.length c0_1] 34 (0, 0))) := ⟨by (with_reducible repeat (first | refine xq ?_ _ | refine xr ?_ | refine xo ?_ _)); refine blk_far ?_ NB122_124.out _; (with_reducible repeat (first | refine xq ?_ _ | refine xr ?_ | refine xo ?_ _)); refine blk_far ?_ NB122_124.out _; (with_reducible repeat (first | refine xq ?_ _ | refine xr ?_ | refine xo ?_ _)); exact BK122.out⟩
            have n1_ : Aside0 (((w8.setCell ⟨gb124, 0, none⟩ (.slice A123_0 ((rd_T52 l0_1 x8_1).f0.f0).length c123_0)).setCell ⟨gb124, 1, none⟩ (.int .i64 ((rd_T52 l0_1 x8_1).f1))).heap[gb124]? = some (.cells #[.slice A123_0 ((rd_T52 l0_1 x8_1).f0.f0).length c123_0, .int .i64 ((rd_T52 l0_1 x8_1).f1)] 52 (0, 0))) := ⟨by (with_reducible repeat (first | refine xq ?_ _ | refine xr ?_ | refine xo ?_ _)); refine blk_put (cs := #[.slice A123_0 ((rd_T52 l0_1 x8_1).f0.f0).length c123_0, .int .i64 0]) ?_ 1 _ rfl; (with_reducible repeat (first | refine xq ?_ _ | refine xr ?_ | refine xo ?_ _)); refine blk_put (cs := #[.slice none 0 0, .int .i64 0]) ?_ 0 _ rfl; (with_reducible repeat (first | refine xq ?_ _ | refine xr ?_ | refine xo ?_ _)); exact BK124.out⟩
            have n2_ : Aside0 (Below w.heap.size w ((w8.setCell ⟨gb124, 0, none⟩ (.slice A123_0 ((rd_T52 l0_1 x8_1).f0.f0).length c123_0)).setCell ⟨gb124, 1, none⟩ (.int .i64 ((rd_T52 l0_1 x8_1).f1)))) := ⟨bG⟩
            (try clear BK122)
            (try clear BK124)
            (try clear HB)
            generalize ((w8.setCell ⟨gb124, 0, none⟩ (.slice A123_0 ((rd_T52 l0_1 x8_1).f0.f0).length c123_0)).setCell ⟨gb124, 1, none⟩ (.int .i64 ((rd_T52 l0_1 x8_1).f1))) = w29 at n0_ n1_ n2_ ⊢
            revert n0_ n1_ n2_; intro BK122 BK124 HB
            have n0_ := xm (xr BK122.out)
            have n1_ := xm (xr BK124.out)
            have n2_ := xm (xd HB.out)
            revert n0_ n1_ n2_; clear BK122 BK124 HB; intro BK122 BK124 HB
            refine start_ (n := 41) (S := fun w' => w'.cell? ⟨gb124, 0, none⟩ = some (.slice A123_0 ((rd_T52 l0_1 x8_1).f0.f0).length c123_0) ∧ w'.cell? ⟨gb124, 1, none⟩ = some (.int .i64 ((rd_T52 l0_1 x8_1).f1)) ∧ w'.cell? ⟨gb122, 0, none⟩ = some (.int .i64 a0_0) ∧ w'.cell? ⟨gb122, 1, none⟩ = some (.slice (some ad123) l0_1.length c0_1)) (ds := []) #[Z,Z,Z,Z,Z,Z,Z,Z,Z,Z,Z,Z,Z,Z,Z,Z,Z,Z,Z,Z,Z,Z,Z,Z,Z,Z,Z,Z,Z,Z,Z,Z,Z,Z,Z,Z,Z,Z,Z,Z,Z] (by kernel_rfl) rfl rfl ⟨(xc BK124.out 0).trans rfl, (xc BK124.out 1).trans rfl, (xc BK122.out 0).trans rfl, (xc BK122.out 1).trans rfl⟩ (fun hHeld => ?_); refine with_tabW spec_GoodTable.tab4 spec_GoodTable.bits4 (fun HT_ HW_ => ?_)
            generalize w29.drew = w30 at BK122 BK124 HB hHeld ⊢
            refine pu 0 41 1 ?_
            refine tx 1 41 3 rfl rfl (take_ofW HT_.out HW_.out (by kernel_rfl)) hHeld (by rintro w' ⟨s0, s1, s2, s3⟩; go_simp; with_reducible rfl) ?_
            refine one_ (i := 2) (N := some 15) #[Y,Y,Y,Z,Z,Z,Z,Z,Z,Z,Z,Z,Z,Z,Z,Z,Z,Z,Z,Z,Z,Z,Z,Z,Z,Z,Z,Z,Z,Z,Z,Z,Z,Z,Z,Z,Z,Z,Z,Z,Z] rfl rfl (one_of HT_.out (by kernel_rfl)) (by decide) (fun K hK => ?_)
            refine goes_ Try.func26 (by kernel_rfl) rfl #[.agg #[.slice A123_0 ((rd_T52 l0_1 x8_1).f0.f0).length c123_0]] (by rfl) rfl rfl mB ?_
            with_reducible refine (spec_GoodRow.calls k1 _ _ ((rd_T52 l0_1 x8_1).f0.f0) true _ ?side1 ?side2 A11.out).mono ?_
            (case side1 => exact cB (Kd.C_below HR123_0.out HB.out))
            (case side2 => exact HC123_0.out)
            rintro e w31 ⟨rfl, hb⟩
            refine ⟨_, rfl, ?_⟩
            have n0_ := xm (blk_below (kB BK122) hb)
            have n1_ := xm (blk_below (kB BK124) hb)
            have n2_ := xm (below_step bG hb)
            revert n0_ n1_ n2_; clear BK122 BK124 HB; intro BK122 BK124 HB
            (try clear hb)
            (try clear hb2)
            (try clear hk)
            (try clear hi)
            refine hK.out _ _ ⟨(xc BK124.out 0).trans rfl, (xc BK124.out 1).trans rfl, (xc BK122.out 0).trans rfl, (xc BK122.out 1).trans rfl⟩ (fun hHeld => nC ?_)
            clear hK K
            refine pu 3 41 15 ?_
            refine pu 4 41 31 ?_
            refine pu 5 41 63 ?_
            refine pu 6 41 127 ?_
            refine pu 9 41 639 ?_
            refine tx 7 41 767 rfl rfl (take_ofW HT_.out HW_.out (by kernel_rfl)) hHeld (by rintro w' ⟨s0, s1, s2, s3⟩; go_simp; with_reducible rfl) ?_
            refine pu 8 41 1023 ?_
            refine tx 10 41 2047 rfl rfl (take_ofW HT_.out HW_.out (by kernel_rfl)) hHeld (by rintro w' ⟨s0, s1, s2, s3⟩; go_simp; with_reducible rfl) ?_
            refine pu 11 41 4095 ?_
            refine pu 12 41 8191 ?_
            refine pu 13 41 16383 ?_
            refine pu 14 41 32767 ?_
            refine tx 15 41 65535 rfl rfl (take_ofW HT_.out HW_.out (by kernel_rfl)) hHeld (by rintro w' ⟨s0, s1, s2, s3⟩; go_simp; with_reducible rfl) ?_
            refine one_ (i := 16) (N := some 29) #[Y,Y,Y,Y,Y,Y,Y,Y,Y,Y,Y,Y,Y,Y,Y,Y,Y,Z,Z,Z,Z,Z,Z,Z,Z,Z,Z,Z,Z,Z,Z,Z,Z,Z,Z,Z,Z,Z,Z,Z,Z] rfl rfl (one_of HT_.out (by kernel_rfl)) (by decide) (fun K hK => ?_)
            refine goes_ Try.func27 (by kernel_rfl) rfl #[.int .i64 ((rd_T52 l0_1 x8_1).f1)] (by rfl) rfl rfl mB ?_
            with_reducible refine (spec_l2Weight.calls ((rd_T52 l0_1 x8_1).f1) true _ A14.out).mono ?_
            rintro e w' ⟨rfl, ⟨nd, rfl⟩⟩
            refine ⟨_, rfl, ?_⟩
            refine hK.out _ _ ⟨(xc BK124.out 0).trans rfl, (xc BK124.out 1).trans rfl, (xc BK122.out 0).trans rfl, (xc BK122.out 1).trans rfl⟩ (fun hHeld => nC ?_)
            clear hK K
            refine pu 17 41 262143 ?_
            refine pu 18 41 524287 ?_
            refine pu 19 41 1048575 ?_
            refine pu 20 41 2097151 ?_
            refine tx 21 41 4194303 rfl rfl (take_ofW HT_.out HW_.out (by kernel_rfl)) hHeld (by rintro w' ⟨s0, s1, s2, s3⟩; go_simp; with_reducible rfl) ?_
            refine pu 22 41 8388607 ?_
            refine pu 23 41 16777215 ?_
            refine pu 24 41 33554431 ?_
            refine pu 25 41 67108863 ?_
            refine pu 26 41 134217727 ?_
            refine pu 27 41 268435455 ?_
            refine ou 28 41 536870911 ?_
            refine ou 29 41 1073741823 ?_
            refine ou 30 41 2147483647 ?_
            refine ou 31 41 4294967295 ?_
            refine ou 32 41 8589934591 ?_
            refine ou 33 41 17179869183 ?_
            refine ou 34 41 34359738367 ?_
            refine ou 35 41 68719476735 ?_
            refine ou 36 41 137438953471 ?_
            refine ou 37 41 274877906943 ?_
            refine ou 38 41 549755813887 ?_
            refine pu 39 41 1099511627775 ?_
            refine pu 40 41 2199023255551 ?_
            refine done_ (done_of HT_.out (by kernel_rfl)) ?_
            try go_wp2
            go_meet
            case rel => exact ⟨_, (false), sB, H', ⟨by have := HK1.out; first | omega | exact Nat.le_refl _⟩, ⟨kB BK122⟩, ⟨kB BK124⟩, ⟨bG⟩⟩
         ·replace c15 := Bool.eq_false_iff.mpr c15
          subst c15
          have H1 : (spec_GoodTable.j1 k1 l0_1 (l0_1.length : Int) x8_1 true a0_0 l0_1) = some r := by first | (with_reducible rfl) | (rw [if_neg (show ¬ (false = true) by decide)] at H; exact H)
          clear H
          have H := H1
          clear H1
          have H' := xm H
          clear H
          try go_wp2
          have n0_ : Aside0 (((w8.setCell ⟨gb124, 0, none⟩ (.slice A123_0 ((rd_T52 l0_1 x8_1).f0.f0).length c123_0)).setCell ⟨gb124, 1, none⟩ (.int .i64 ((rd_T52 l0_1 x8_1).f1))).heap[gb122]? = some (.cells #[.int .i64 a0_0, .slice (some ad123) l0_1.length c0_1] 34 (0, 0))) := ⟨by (with_reducible repeat (first | refine xq ?_ _ | refine xr ?_ | refine xo ?_ _)); refine blk_far ?_ NB122_124.out _; (with_reducible repeat (first | refine xq ?_ _ | refine xr ?_ | refine xo ?_ _)); refine blk_far ?_ NB122_124.out _; (with_reducible repeat (first | refine xq ?_ _ | refine xr ?_ | refine xo ?_ _)); exact BK122.out⟩
          have n1_ : Aside0 (((w8.setCell ⟨gb124, 0, none⟩ (.slice A123_0 ((rd_T52 l0_1 x8_1).f0.f0).length c123_0)).setCell ⟨gb124, 1, none⟩ (.int .i64 ((rd_T52 l0_1 x8_1).f1))).heap[gb124]? = some (.cells #[.slice A123_0 ((rd_T52 l0_1 x8_1).f0.f0).length c123_0, .int .i64 ((rd_T52 l0_1 x8_1).f1)] 52 (0, 0))) := ⟨by (with_reducible repeat (first | refine xq ?_ _ | refine xr ?_ | refine xo ?_ _)); refine blk_put (cs := #[.slice A123_0 ((rd_T52 l0_1 x8_1).f0.f0).length c123_0, .int .i64 0]) ?_ 1 _ rfl; (with_reducible repeat (first | refine xq ?_ _ | refine xr ?_ | refine xo ?_ _)); refine blk_put (cs := #[.slice none 0 0, .int .i64 0]) ?_ 0 _ rfl; (with_reducible repeat (first | refine xq ?_ _ | refine xr ?_ | refine xo ?_ _)); exact BK124.out⟩
          have n2_ : Aside0 (Below w.heap.size w ((w8.setCell ⟨gb124, 0, none⟩ (.slice A123_0 ((rd_T52 l0_1 x8_1).f0.f0).length c123_0)).setCell ⟨gb124, 1, none⟩ (.int .i64 ((rd_T52 l0_1 x8_1).f1)))) := ⟨bG⟩
          (try clear BK122)
          (try clear BK124)
          (try clear HB)
          generalize ((w8.setCell ⟨gb124, 0, none⟩ (.slice A123_0 ((rd_T52 l0_1 x8_1).f0.f0).length c123_0)).setCell ⟨gb124, 1, none⟩ (.int .i64 ((rd_T52 l0_1 x8_1).f1))) = w32 at n0_ n1_ n2_ ⊢
          revert n0_ n1_ n2_; intro BK122 BK124 HB
          have n0_ := xm (xr BK122.out)
          have n1_ := xm (xr BK124.out)
          have n2_ := xm (xd HB.out)
          revert n0_ n1_ n2_; clear BK122 BK124 HB; intro BK122 BK124 HB
          refine start_ (n := 41) (S := fun w' => w'.cell? ⟨gb124, 0, none⟩ = some (.slice A123_0 ((rd_T52 l0_1 x8_1).f0.f0).length c123_0) ∧ w'.cell? ⟨gb124, 1, none⟩ = some (.int .i64 ((rd_T52 l0_1 x8_1).f1)) ∧ w'.cell? ⟨gb122, 0, none⟩ = some (.int .i64 a0_0) ∧ w'.cell? ⟨gb122, 1, none⟩ = some (.slice (some ad123) l0_1.length c0_1)) (ds := []) #[Z,Z,Z,Z,Z,Z,Z,Z,Z,Z,Z,Z,Z,Z,Z,Z,Z,Z,Z,Z,Z,Z,Z,Z,Z,Z,Z,Z,Z,Z,Z,Z,Z,Z,Z,Z,Z,Z,Z,Z,Z] (by kernel_rfl) rfl rfl ⟨(xc BK124.out 0).trans rfl, (xc BK124.out 1).trans rfl, (xc BK122.out 0).trans rfl, (xc BK122.out 1).trans rfl⟩ (fun hHeld => ?_); refine with_tabW spec_GoodTable.tab4 spec_GoodTable.bits4 (fun HT_ HW_ => ?_)
          generalize w32.drew = w33 at BK122 BK124 HB hHeld ⊢
          refine pu 0 41 1 ?_
          refine tx 1 41 3 rfl rfl (take_ofW HT_.out HW_.out (by kernel_rfl)) hHeld (by rintro w' ⟨s0, s1, s2, s3⟩; go_simp; with_reducible rfl) ?_
          refine one_ (i := 2) (N := some 15) #[Y,Y,Y,Z,Z,Z,Z,Z,Z,Z,Z,Z,Z,Z,Z,Z,Z,Z,Z,Z,Z,Z,Z,Z,Z,Z,Z,Z,Z,Z,Z,Z,Z,Z,Z,Z,Z,Z,Z,Z,Z] rfl rfl (one_of HT_.out (by kernel_rfl)) (by decide) (fun K hK => ?_)
          refine goes_ Try.func26 (by kernel_rfl) rfl #[.agg #[.slice A123_0 ((rd_T52 l0_1 x8_1).f0.f0).length c123_0]] (by rfl) rfl rfl mB ?_
          with_reducible refine (spec_GoodRow.calls k1 _ _ ((rd_T52 l0_1 x8_1).f0.f0) true _ ?side1 ?side2 A11.out).mono ?_
          (case side1 => exact cB (Kd.C_below HR123_0.out HB.out))
          (case side2 => exact HC123_0.out)
          rintro e w34 ⟨rfl, hb⟩
          refine ⟨_, rfl, ?_⟩
          have n0_ := xm (blk_below (kB BK122) hb)
          have n1_ := xm (blk_below (kB BK124) hb)
          have n2_ := xm (below_step bG hb)
          revert n0_ n1_ n2_; clear BK122 BK124 HB; intro BK122 BK124 HB
          (try clear hb)
          (try clear hb2)
          (try clear hk)
          (try clear hi)
          refine hK.out _ _ ⟨(xc BK124.out 0).trans rfl, (xc BK124.out 1).trans rfl, (xc BK122.out 0).trans rfl, (xc BK122.out 1).trans rfl⟩ (fun hHeld => nC ?_)
          clear hK K
          refine pu 3 41 15 ?_
          refine pu 4 41 31 ?_
          refine pu 5 41 63 ?_
          refine pu 6 41 127 ?_
          refine pu 9 41 639 ?_
          refine tx 7 41 767 rfl rfl (take_ofW HT_.out HW_.out (by kernel_rfl)) hHeld (by rintro w' ⟨s0, s1, s2, s3⟩; go_simp; with_reducible rfl) ?_
          refine pu 8 41 1023 ?_
          refine tx 10 41 2047 rfl rfl (take_ofW HT_.out HW_.out (by kernel_rfl)) hHeld (by rintro w' ⟨s0, s1, s2, s3⟩; go_simp; with_reducible rfl) ?_
          refine pu 11 41 4095 ?_
          refine pu 12 41 8191 ?_
          refine pu 13 41 16383 ?_
          refine pu 14 41 32767 ?_
          refine tx 15 41 65535 rfl rfl (take_ofW HT_.out HW_.out (by kernel_rfl)) hHeld (by rintro w' ⟨s0, s1, s2, s3⟩; go_simp; with_reducible rfl) ?_
          refine one_ (i := 16) (N := some 29) #[Y,Y,Y,Y,Y,Y,Y,Y,Y,Y,Y,Y,Y,Y,Y,Y,Y,Z,Z,Z,Z,Z,Z,Z,Z,Z,Z,Z,Z,Z,Z,Z,Z,Z,Z,Z,Z,Z,Z,Z,Z] rfl rfl (one_of HT_.out (by kernel_rfl)) (by decide) (fun K hK => ?_)
          refine goes_ Try.func27 (by kernel_rfl) rfl #[.int .i64 ((rd_T52 l0_1 x8_1).f1)] (by rfl) rfl rfl mB ?_
          with_reducible refine (spec_l2Weight.calls ((rd_T52 l0_1 x8_1).f1) false _ A14.out).mono ?_
          rintro e w' ⟨rfl, ⟨nd, rfl⟩⟩
          refine ⟨_, rfl, ?_⟩
          refine hK.out _ _ ⟨(xc BK124.out 0).trans rfl, (xc BK124.out 1).trans rfl, (xc BK122.out 0).trans rfl, (xc BK122.out 1).trans rfl⟩ (fun hHeld => nC ?_)
          clear hK K
          refine pu 17 41 262143 ?_
          refine pu 18 41 524287 ?_
          refine pu 19 41 1048575 ?_
          refine ou 20 41 2097151 ?_
          refine ou 21 41 4194303 ?_
          refine ou 22 41 8388607 ?_
          refine pu 23 41 16777215 ?_
          refine pu 24 41 33554431 ?_
          refine ou 25 41 67108863 ?_
          refine ou 26 41 134217727 ?_
          refine ou 27 41 268435455 ?_
          refine ou 28 41 536870911 ?_
          refine ou 29 41 1073741823 ?_
          refine ou 30 41 2147483647 ?_
          refine ou 31 41 4294967295 ?_
          refine ou 32 41 8589934591 ?_
          refine ou 33 41 17179869183 ?_
          refine ou 34 41 34359738367 ?_
          refine ou 35 41 68719476735 ?_
          refine ou 36 41 137438953471 ?_
          refine ou 37 41 274877906943 ?_
          refine ou 38 41 549755813887 ?_
          refine ou 39 41 1099511627775 ?_
          refine pu 40 41 2199023255551 ?_
          refine done_ (done_of HT_.out (by kernel_rfl)) ?_
          try go_wp2
          go_meet
          case rel => exact ⟨_, (true), sB, H', ⟨by have := HK1.out; first | omega | exact Nat.le_refl _⟩, ⟨kB BK122⟩, ⟨kB BK124⟩, ⟨bG⟩⟩
        ·rw [if_neg c13] at H
         have c13b0 : ((((rd_T52 l0_1 x8_1).f0.f0).length : Int) == a0_0) = false := beq_eq_false_iff_ne.mpr c13
         have c13b1 : ((((rd_T52 l0_1 x8_1).f0.f0).length : Int) != a0_0) = true := bne_iff_ne.mpr c13
         (first | rw [c13b0] | (simp only [i64_w, i32_w]; rw [c13b0]) | skip)
         have H' := xm H
         clear H
         try go_wp2
         have n0_ : Aside0 (((w8.setCell ⟨gb124, 0, none⟩ (.slice A123_0 ((rd_T52 l0_1 x8_1).f0.f0).length c123_0)).setCell ⟨gb124, 1, none⟩ (.int .i64 ((rd_T52 l0_1 x8_1).f1))).heap[gb122]? = some (.cells #[.int .i64 a0_0, .slice (some ad123) l0_1.length c0_1] 34 (0, 0))) := ⟨by (with_reducible repeat (first | refine xq ?_ _ | refine xr ?_ | refine xo ?_ _)); refine blk_far ?_ NB122_124.out _; (with_reducible repeat (first | refine xq ?_ _ | refine xr ?_ | refine xo ?_ _)); refine blk_far ?_ NB122_124.out _; (with_reducible repeat (first | refine xq ?_ _ | refine xr ?_ | refine xo ?_ _)); exact BK122.out⟩
         have n1_ : Aside0 (((w8.setCell ⟨gb124, 0, none⟩ (.slice A123_0 ((rd_T52 l0_1 x8_1).f0.f0).length c123_0)).setCell ⟨gb124, 1, none⟩ (.int .i64 ((rd_T52 l0_1 x8_1).f1))).heap[gb124]? = some (.cells #[.slice A123_0 ((rd_T52 l0_1 x8_1).f0.f0).length c123_0, .int .i64 ((rd_T52 l0_1 x8_1).f1)] 52 (0, 0))) := ⟨by (with_reducible repeat (first | refine xq ?_ _ | refine xr ?_ | refine xo ?_ _)); refine blk_put (cs := #[.slice A123_0 ((rd_T52 l0_1 x8_1).f0.f0).length c123_0, .int .i64 0]) ?_ 1 _ rfl; (with_reducible repeat (first | refine xq ?_ _ | refine xr ?_ | refine xo ?_ _)); refine blk_put (cs := #[.slice none 0 0, .int .i64 0]) ?_ 0 _ rfl; (with_reducible repeat (first | refine xq ?_ _ | refine xr ?_ | refine xo ?_ _)); exact BK124.out⟩
         have n2_ : Aside0 (Below w.heap.size w ((w8.setCell ⟨gb124, 0, none⟩ (.slice A123_0 ((rd_T52 l0_1 x8_1).f0.f0).length c123_0)).setCell ⟨gb124, 1, none⟩ (.int .i64 ((rd_T52 l0_1 x8_1).f1)))) := ⟨bG⟩
         (try clear BK122)
         (try clear BK124)
         (try clear HB)
         generalize ((w8.setCell ⟨gb124, 0, none⟩ (.slice A123_0 ((rd_T52 l0_1 x8_1).f0.f0).length c123_0)).setCell ⟨gb124, 1, none⟩ (.int .i64 ((rd_T52 l0_1 x8_1).f1))) = w35 at n0_ n1_ n2_ ⊢
         revert n0_ n1_ n2_; intro BK122 BK124 HB
         have n0_ := xm (xr BK122.out)
         have n1_ := xm (xr BK124.out)
         have n2_ := xm (xd HB.out)
         revert n0_ n1_ n2_; clear BK122 BK124 HB; intro BK122 BK124 HB
         refine start_ (n := 41) (S := fun w' => w'.cell? ⟨gb124, 0, none⟩ = some (.slice A123_0 ((rd_T52 l0_1 x8_1).f0.f0).length c123_0) ∧ w'.cell? ⟨gb124, 1, none⟩ = some (.int .i64 ((rd_T52 l0_1 x8_1).f1)) ∧ w'.cell? ⟨gb122, 0, none⟩ = some (.int .i64 a0_0) ∧ w'.cell? ⟨gb122, 1, none⟩ = some (.slice (some ad123) l0_1.length c0_1)) (ds := []) #[Z,Z,Z,Z,Z,Z,Z,Z,Z,Z,Z,Z,Z,Z,Z,Z,Z,Z,Z,Z,Z,Z,Z,Z,Z,Z,Z,Z,Z,Z,Z,Z,Z,Z,Z,Z,Z,Z,Z,Z,Z] (by kernel_rfl) rfl rfl ⟨(xc BK124.out 0).trans rfl, (xc BK124.out 1).trans rfl, (xc BK122.out 0).trans rfl, (xc BK122.out 1).trans rfl⟩ (fun hHeld => ?_); refine with_tabW spec_GoodTable.tab4 spec_GoodTable.bits4 (fun HT_ HW_ => ?_)
         generalize w35.drew = w36 at BK122 BK124 HB hHeld ⊢
         refine pu 0 41 1 ?_
         refine tx 1 41 3 rfl rfl (take_ofW HT_.out HW_.out (by kernel_rfl)) hHeld (by rintro w' ⟨s0, s1, s2, s3⟩; go_simp; with_reducible rfl) ?_
         refine one_ (i := 2) (N := some 15) #[Y,Y,Y,Z,Z,Z,Z,Z,Z,Z,Z,Z,Z,Z,Z,Z,Z,Z,Z,Z,Z,Z,Z,Z,Z,Z,Z,Z,Z,Z,Z,Z,Z,Z,Z,Z,Z,Z,Z,Z,Z] rfl rfl (one_of HT_.out (by kernel_rfl)) (by decide) (fun K hK => ?_)
         refine goes_ Try.func26 (by kernel_rfl) rfl #[.agg #[.slice A123_0 ((rd_T52 l0_1 x8_1).f0.f0).length c123_0]] (by rfl) rfl rfl mB ?_
         with_reducible refine (spec_GoodRow.calls k1 _ _ ((rd_T52 l0_1 x8_1).f0.f0) true _ ?side1 ?side2 A11.out).mono ?_
         (case side1 => exact cB (Kd.C_below HR123_0.out HB.out))
         (case side2 => exact HC123_0.out)
         rintro e w37 ⟨rfl, hb⟩
         refine ⟨_, rfl, ?_⟩
         have n0_ := xm (blk_below (kB BK122) hb)
         have n1_ := xm (blk_below (kB BK124) hb)
         have n2_ := xm (below_step bG hb)
         revert n0_ n1_ n2_; clear BK122 BK124 HB; intro BK122 BK124 HB
         (try clear hb)
         (try clear hb2)
         (try clear hk)
         (try clear hi)
         refine hK.out _ _ ⟨(xc BK124.out 0).trans rfl, (xc BK124.out 1).trans rfl, (xc BK122.out 0).trans rfl, (xc BK122.out 1).trans rfl⟩ (fun hHeld => nC ?_)
         clear hK K
         refine pu 3 41 15 ?_
         refine pu 4 41 31 ?_
         refine pu 5 41 63 ?_
         refine pu 6 41 127 ?_
         refine pu 9 41 639 ?_
         refine tx 7 41 767 rfl rfl (take_ofW HT_.out HW_.out (by kernel_rfl)) hHeld (by rintro w' ⟨s0, s1, s2, s3⟩; go_simp; with_reducible rfl) ?_
         refine pu 8 41 1023 ?_
         refine tx 10 41 2047 rfl rfl (take_ofW HT_.out HW_.out (by kernel_rfl)) hHeld (by rintro w' ⟨s0, s1, s2, s3⟩; go_simp; with_reducible rfl) ?_
         refine pu 11 41 4095 ?_
         refine pu 12 41 8191 ?_
         refine pu 13 41 16383 ?_
         refine ou 14 41 32767 ?_
         refine ou 15 41 65535 ?_
         refine ou 16 41 131071 ?_
         refine ou 17 41 262143 ?_
         refine pu 18 41 524287 ?_
         refine pu 19 41 1048575 ?_
         refine ou 20 41 2097151 ?_
         refine ou 21 41 4194303 ?_
         refine ou 22 41 8388607 ?_
         refine pu 23 41 16777215 ?_
         refine pu 24 41 33554431 ?_
         refine ou 25 41 67108863 ?_
         refine ou 26 41 134217727 ?_
         refine ou 27 41 268435455 ?_
         refine ou 28 41 536870911 ?_
         refine ou 29 41 1073741823 ?_
         refine ou 30 41 2147483647 ?_
         refine ou 31 41 4294967295 ?_
         refine ou 32 41 8589934591 ?_
         refine ou 33 41 17179869183 ?_
         refine ou 34 41 34359738367 ?_
         refine ou 35 41 68719476735 ?_
         refine ou 36 41 137438953471 ?_
         refine ou 37 41 274877906943 ?_
         refine ou 38 41 549755813887 ?_
         refine ou 39 41 1099511627775 ?_
         refine pu 40 41 2199023255551 ?_
         refine done_ (done_of HT_.out (by kernel_rfl)) ?_
         try go_wp2
         go_meet
         case rel => exact ⟨_, (true), sB, H', ⟨by have := HK1.out; first | omega | exact Nat.le_refl _⟩, ⟨kB BK122⟩, ⟨kB BK124⟩, ⟨bG⟩⟩
       ·replace c12 := Bool.eq_false_iff.mpr c12
        subst c12
        have H1 : (spec_GoodTable.j1 k1 l0_1 (l0_1.length : Int) x8_1 true a0_0 l0_1) = some r := by first | (with_reducible rfl) | (rw [if_neg (show ¬ (false = true) by decide)] at H; exact H)
        clear H
        have H := H1
        clear H1
        have H' := xm H
        clear H
        try go_wp2
        have n0_ : Aside0 (((w8.setCell ⟨gb124, 0, none⟩ (.slice A123_0 ((rd_T52 l0_1 x8_1).f0.f0).length c123_0)).setCell ⟨gb124, 1, none⟩ (.int .i64 ((rd_T52 l0_1 x8_1).f1))).heap[gb122]? = some (.cells #[.int .i64 a0_0, .slice (some ad123) l0_1.length c0_1] 34 (0, 0))) := ⟨by (with_reducible repeat (first | refine xq ?_ _ | refine xr ?_ | refine xo ?_ _)); refine blk_far ?_ NB122_124.out _; (with_reducible repeat (first | refine xq ?_ _ | refine xr ?_ | refine xo ?_ _)); refine blk_far ?_ NB122_124.out _; (with_reducible repeat (first | refine xq ?_ _ | refine xr ?_ | refine xo ?_ _)); exact BK122.out⟩
        have n1_ : Aside0 (((w8.setCell ⟨gb124, 0, none⟩ (.slice A123_0 ((rd_T52 l0_1 x8_1).f0.f0).length c123_0)).setCell ⟨gb124, 1, none⟩ (.int .i64 ((rd_T52 l0_1 x8_1).f1))).heap[gb124]? = some (.cells #[.slice A123_0 ((rd_T52 l0_1 x8_1).f0.f0).length c123_0, .int .i64 ((rd_T52 l0_1 x8_1).f1)] 52 (0, 0))) := ⟨by (with_reducible repeat (first | refine xq ?_ _ | refine xr ?_ | refine xo ?_ _)); refine blk_put (cs := #[.slice A123_0 ((rd_T52 l0_1 x8_1).f0.f0).length c123_0, .int .i64 0]) ?_ 1 _ rfl; (with_reducible repeat (first | refine xq ?_ _ | refine xr ?_ | refine xo ?_ _)); refine blk_put (cs := #[.slice none 0 0, .int .i64 0]) ?_ 0 _ rfl; (with_reducible repeat (first | refine xq ?_ _ | refine xr ?_ | refine xo ?_ _)); exact BK124.out⟩
        have n2_ : Aside0 (Below w.heap.size w ((w8.setCell ⟨gb124, 0, none⟩ (.slice A123_0 ((rd_T52 l0_1 x8_1).f0.f0).length c123_0)).setCell ⟨gb124, 1, none⟩ (.int .i64 ((rd_T52 l0_1 x8_1).f1)))) := ⟨bG⟩
        (try clear BK122)
        (try clear BK124)
        (try clear HB)
        generalize ((w8.setCell ⟨gb124, 0, none⟩ (.slice A123_0 ((rd_T52 l0_1 x8_1).f0.f0).length c123_0)).setCell ⟨gb124, 1, none⟩ (.int .i64 ((rd_T52 l0_1 x8_1).f1))) = w38 at n0_ n1_ n2_ ⊢
        revert n0_ n1_ n2_; intro BK122 BK124 HB
        have n0_ := xm (xr BK122.out)
        have n1_ := xm (xr BK124.out)
        have n2_ := xm (xd HB.out)
        revert n0_ n1_ n2_; clear BK122 BK124 HB; intro BK122 BK124 HB
        refine start_ (n := 41) (S := fun w' => w'.cell? ⟨gb124, 0, none⟩ = some (.slice A123_0 ((rd_T52 l0_1 x8_1).f0.f0).length c123_0) ∧ w'.cell? ⟨gb124, 1, none⟩ = some (.int .i64 ((rd_T52 l0_1 x8_1).f1))) (ds := []) #[Z,Z,Z,Z,Z,Z,Z,Z,Z,Z,Z,Z,Z,Z,Z,Z,Z,Z,Z,Z,Z,Z,Z,Z,Z,Z,Z,Z,Z,Z,Z,Z,Z,Z,Z,Z,Z,Z,Z,Z,Z] (by kernel_rfl) rfl rfl ⟨(xc BK124.out 0).trans rfl, (xc BK124.out 1).trans rfl⟩ (fun hHeld => ?_); refine with_tabW spec_GoodTable.tab4 spec_GoodTable.bits4 (fun HT_ HW_ => ?_)
        generalize w38.drew = w39 at BK122 BK124 HB hHeld ⊢
        refine pu 0 41 1 ?_
        refine tx 1 41 3 rfl rfl (take_ofW HT_.out HW_.out (by kernel_rfl)) hHeld (by rintro w' ⟨s0, s1⟩; go_simp; with_reducible rfl) ?_
        refine one_ (i := 2) (N := some 15) #[Y,Y,Y,Z,Z,Z,Z,Z,Z,Z,Z,Z,Z,Z,Z,Z,Z,Z,Z,Z,Z,Z,Z,Z,Z,Z,Z,Z,Z,Z,Z,Z,Z,Z,Z,Z,Z,Z,Z,Z,Z] rfl rfl (one_of HT_.out (by kernel_rfl)) (by decide) (fun K hK => ?_)
        refine goes_ Try.func26 (by kernel_rfl) rfl #[.agg #[.slice A123_0 ((rd_T52 l0_1 x8_1).f0.f0).length c123_0]] (by rfl) rfl rfl mB ?_
        with_reducible refine (spec_GoodRow.calls k1 _ _ ((rd_T52 l0_1 x8_1).f0.f0) false _ ?side1 ?side2 A11.out).mono ?_
        (case side1 => exact cB (Kd.C_below HR123_0.out HB.out))
        (case side2 => exact HC123_0.out)
        rintro e w40 ⟨rfl, hb⟩
        refine ⟨_, rfl, ?_⟩
        have n0_ := xm (blk_below (kB BK122) hb)
        have n1_ := xm (blk_below (kB BK124) hb)
        have n2_ := xm (below_step bG hb)
        revert n0_ n1_ n2_; clear BK122 BK124 HB; intro BK122 BK124 HB
        (try clear hb)
        (try clear hb2)
        (try clear hk)
        (try clear hi)
        refine hK.out _ _ ⟨(xc BK124.out 0).trans rfl, (xc BK124.out 1).trans rfl⟩ (fun hHeld => nC ?_)
        clear hK K
        refine pu 3 41 15 ?_
        refine pu 4 41 31 ?_
        refine ou 5 41 63 ?_
        refine ou 6 41 127 ?_
        refine ou 7 41 255 ?_
        refine ou 8 41 511 ?_
        refine ou 9 41 1023 ?_
        refine ou 10 41 2047 ?_
        refine ou 11 41 4095 ?_
        refine pu 12 41 8191 ?_
        refine pu 13 41 16383 ?_
        refine ou 14 41 32767 ?_
        refine ou 15 41 65535 ?_
        refine ou 16 41 131071 ?_
        refine ou 17 41 262143 ?_
        refine pu 18 41 524287 ?_
        refine pu 19 41 1048575 ?_
        refine ou 20 41 2097151 ?_
        refine ou 21 41 4194303 ?_
        refine ou 22 41 8388607 ?_
        refine pu 23 41 16777215 ?_
        refine pu 24 41 33554431 ?_
        refine ou 25 41 67108863 ?_
        refine ou 26 41 134217727 ?_
        refine ou 27 41 268435455 ?_
        refine ou 28 41 536870911 ?_
        refine ou 29 41 1073741823 ?_
        refine ou 30 41 2147483647 ?_
        refine ou 31 41 4294967295 ?_
        refine ou 32 41 8589934591 ?_
        refine ou 33 41 17179869183 ?_
        refine ou 34 41 34359738367 ?_
        refine ou 35 41 68719476735 ?_
        refine ou 36 41 137438953471 ?_
        refine ou 37 41 274877906943 ?_
        refine ou 38 41 549755813887 ?_
        refine ou 39 41 1099511627775 ?_
        refine pu 40 41 2199023255551 ?_
        refine done_ (done_of HT_.out (by kernel_rfl)) ?_
        try go_wp2
        go_meet
        case rel => exact ⟨_, (true), sB, H', ⟨by have := HK1.out; first | omega | exact Nat.le_refl _⟩, ⟨kB BK122⟩, ⟨kB BK124⟩, ⟨bG⟩⟩
      case rest =>
       clear HC7
       try clear c1
       try clear c2
       try clear p2
       try clear c12
       try clear c13
       try clear c13b0 c13b1
       try clear c26
       obtain ⟨kq, x53_6, rfl, HA, HJ6, BK122, BK124, HB⟩ := hcut
       cases kq with
       | zero => exact absurd HA.out (by simp [spec_GoodTable.j1])
       | succ kj6 =>
        have H := HA.out
        clear HA
        simp only [spec_GoodTable.j1] at H
        by_cases c41 : x53_6 = true
        ·subst c41
         have H1 : (some false) = some r := by first | (with_reducible rfl) | (rw [if_pos rfl] at H; exact H)
         clear H
         have H := H1
         clear H1
         obtain rfl := Option.some.inj H
         go_wp2
         go_ret
         exact ⟨eB, bG⟩
        ·replace c41 := Bool.eq_false_iff.mpr c41
         subst c41
         have H1 : (spec_GoodTable.l0 kj6 l0_1 (l0_1.length : Int) (wrap64 (x8_1 + 1)) a0_0 l0_1) = some r := by first | (with_reducible rfl) | (rw [if_neg (show ¬ (false = true) by decide)] at H; exact H)
         clear H
         have H := H1
         clear H1
         have H' := xm H
         clear H
         go_wp2
         go_roundg kj6
         case measure => have := HK1.out; have := HJ6.out; omega
         case rel => exact ⟨(wrap64 (x8_1 + 1)), sB, H', ⟨by have := HK1.out; have := HJ6.out; omega⟩, ⟨kB BK122⟩, ⟨bG⟩⟩
     ·rw [if_neg c6] at H
      exact absurd H (by simp)
    ·rw [if_neg c5] at H
     exact absurd H (by simp)
   ·rw [if_neg c4] at H
    have c4b0 : decide (x8_1 < (l0_1.length : Int)) = false := decide_eq_false c4
    clear c4
    replace H := Option.bind_eq_some_iff.mp H
    obtain ⟨t129, A420, H⟩ := H
    replace H : (if t129 = true then (some (decide ((l0_1.length : Int) ≤ 60))) else (some false)) = some r := H
    have A42 := xm A420
    clear A420
    by_cases c43 : t129 = true
    ·subst c43
     have H1 : (some (decide ((l0_1.length : Int) ≤ 60))) = some r := by first | (with_reducible rfl) | (rw [if_pos rfl] at H; exact H)
     clear H
     have H := H1
     clear H1
     obtain rfl := Option.some.inj H
     obtain ⟨hcz44_0, hcz44_1, hfz44_0, hfz44_1⟩ := cz2 BK122.out
     go_wp2_with (first | ((with_reducible refine gate_callee (f := 29) rfl ?_); refine goesL_ (some 57) rfl rfl Try.func29 (by kernel_rfl) rfl #[.int .i64 a0_0, .int .i64 0, .int .i64 6] rfl mB ?_; (with_reducible refine (spec_l1In.calls a0_0 0 6 true _ A42.out).mono ?_); rintro e w' ⟨rfl, ⟨nd, rfl⟩⟩; refine ⟨_, rfl, ?_⟩))
     go_ret
     exact ⟨eB, bG⟩
    ·replace c43 := Bool.eq_false_iff.mpr c43
     subst c43
     have H1 : (some false) = some r := by first | (with_reducible rfl) | (rw [if_neg (show ¬ (false = true) by decide)] at H; exact H)
     clear H
     have H := H1
     clear H1
     obtain rfl := Option.some.inj H
     obtain ⟨hcz45_0, hcz45_1, hfz45_0, hfz45_1⟩ := cz2 BK122.out
     go_wp2_with (first | ((with_reducible refine gate_callee (f := 29) rfl ?_); refine goesL_ (some 57) rfl rfl Try.func29 (by kernel_rfl) rfl #[.int .i64 a0_0, .int .i64 0, .int .i64 6] rfl mB ?_; (with_reducible refine (spec_l1In.calls a0_0 0 6 false _ A42.out).mono ?_); rintro e w' ⟨rfl, ⟨nd, rfl⟩⟩; refine ⟨_, rfl, ?_⟩))
     go_ret
     exact ⟨eB, bG⟩

end Go.Proofs.Ytmelechhnimlnac.G
