/- Written by a program of this claim's own, out of the translation: functions of the program as plain functions, and that the calls answer as these. No conditions. -/
import Derived.Test.YtaddemalepndfaaG0
import Derived.Test.YtaddemalepndfaaG1
import Derived.Test.YtaddemalepndfaaG2
namespace Go.Proofs.Ytaddemalepndfaa.G
open Go.RowKit Go.Proofs.Ytaddemalepndfaa.X Go.Proofs.YtaddemalepndfaaW.PrintWords Go.Proofs.YtaddemalepndfaaW.PrintLast Go.Proofs.YtaddemalepndfaaW.PrintMore
attribute [local go_sem] max2_int min2_int max_two min_two max_three min_three max_four min_four   -- for this text's walks alone
set_option linter.unusedVariables false
set_option linter.unusedSimpArgs false

/-! ### spec_GoodGroups: function 14 -/
mutual
def spec_GoodGroups.l0 : Nat → List (S45) → List (S45) → Int → Int → Option (Bool)
 | 0, _, _, _, _ => none
 | k + 1, x0, x5, x6, x7 => if x7 < x6 then (if 0 ≤ x7 then (if x7 < (x5.length : Int) then ((spec_GoodRow.f k ((rd_T45 x5 x7).f0.f0)).bind fun t119 => (if t119 = true then (if 0 < (x0.length : Int) then (if (((rd_T45 x5 x7).f0.f0).length : Int) = (((rd_T45 x0 0).f0.f0).length : Int) then ((spec_l5Sum.f ((rd_T45 x5 x7).f1)).bind fun t121 => (if t121 = true then ((spec_l5Sum.f ((rd_T45 x5 x7).f2)).bind fun t122 => (if t122 = true then (if ((rd_T45 x5 x7).f1) = 0 then (if ((rd_T45 x5 x7).f2) = 0 then (spec_GoodGroups.j1 k x0 x5 x6 x7 true) else (if x7 > 0 then (if 0 ≤ (wrap64 (x7 - 1)) then (if (wrap64 (x7 - 1)) < (x0.length : Int) then ((spec_l1Compare.f k ((rd_T45 x0 (wrap64 (x7 - 1))).f0.f0) ((rd_T45 x5 x7).f0.f0)).bind fun t124 => (spec_GoodGroups.j1 k x0 x5 x6 x7 (decide (t124 ≥ 0)))) else (none)) else (none)) else (spec_GoodGroups.j1 k x0 x5 x6 x7 false))) else (if x7 > 0 then (if 0 ≤ (wrap64 (x7 - 1)) then (if (wrap64 (x7 - 1)) < (x0.length : Int) then ((spec_l1Compare.f k ((rd_T45 x0 (wrap64 (x7 - 1))).f0.f0) ((rd_T45 x5 x7).f0.f0)).bind fun t126 => (spec_GoodGroups.j1 k x0 x5 x6 x7 (decide (t126 ≥ 0)))) else (none)) else (none)) else (spec_GoodGroups.j1 k x0 x5 x6 x7 false))) else (spec_GoodGroups.j1 k x0 x5 x6 x7 true))) else (spec_GoodGroups.j1 k x0 x5 x6 x7 true))) else (spec_GoodGroups.j1 k x0 x5 x6 x7 true)) else (none)) else (spec_GoodGroups.j1 k x0 x5 x6 x7 true))) else (none)) else (none)) else (some (decide ((x0.length : Int) ≤ 60)))
def spec_GoodGroups.j1 : Nat → List (S45) → List (S45) → Int → Int → Bool → Option (Bool)
 | 0, _, _, _, _, _ => none
 | k + 1, x0, x5, x6, x7, x66 => if x66 = true then (some false) else (spec_GoodGroups.l0 k x0 x5 x6 (wrap64 (x7 + 1)))
end
def spec_GoodGroups.f (k : Nat) (l0 : List (S45)) : Option (Bool) := spec_GoodGroups.l0 k l0 l0 (l0.length : Int) 0
theorem spec_GoodGroups.mono_l : ∀ k, (∀ y0 y1 y2 y3, LeO (spec_GoodGroups.l0 k y0 y1 y2 y3) (spec_GoodGroups.l0 (k + 1) y0 y1 y2 y3)) ∧ (∀ y0 y1 y2 y3 y4, LeO (spec_GoodGroups.j1 k y0 y1 y2 y3 y4) (spec_GoodGroups.j1 (k + 1) y0 y1 y2 y3 y4))
 | 0 => ⟨fun _ _ _ _ r h => by simp [spec_GoodGroups.l0] at h, fun _ _ _ _ _ r h => by simp [spec_GoodGroups.j1] at h⟩
 | k + 1 => by
  obtain ⟨ih0, ih1⟩ := spec_GoodGroups.mono_l k
  refine ⟨?_, ?_⟩
  ·intro y0 y1 y2 y3
   unfold spec_GoodGroups.l0
   repeat' first
   | (with_reducible exact ih0 _ _ _ _)
   | (with_reducible exact ih1 _ _ _ _ _)
   | (with_reducible exact spec_GoodRow.mono _ _)
   | (with_reducible exact spec_l1Compare.mono _ _ _)
   | (with_reducible exact LeO.refl _)
   | (with_reducible exact LeO.none _)
   | (with_reducible refine LeO.ite ?_ ?_)
   | (with_reducible refine LeO.bind ?_ (fun _ => ?_))
   | exact ih0 _ _ _ _
   | exact ih1 _ _ _ _ _
   | exact spec_GoodRow.mono _ _
   | exact spec_l1Compare.mono _ _ _
   | exact LeO.none _
   | refine LeO.ite ?_ ?_
   | refine LeO.bind ?_ (fun _ => ?_)
  ·intro y0 y1 y2 y3 y4
   unfold spec_GoodGroups.j1
   repeat' first
   | (with_reducible exact ih0 _ _ _ _)
   | (with_reducible exact ih1 _ _ _ _ _)
   | (with_reducible exact spec_GoodRow.mono _ _)
   | (with_reducible exact spec_l1Compare.mono _ _ _)
   | (with_reducible exact LeO.refl _)
   | (with_reducible exact LeO.none _)
   | (with_reducible refine LeO.ite ?_ ?_)
   | (with_reducible refine LeO.bind ?_ (fun _ => ?_))
   | exact ih0 _ _ _ _
   | exact ih1 _ _ _ _ _
   | exact spec_GoodRow.mono _ _
   | exact spec_l1Compare.mono _ _ _
   | exact LeO.none _
   | refine LeO.ite ?_ ?_
   | refine LeO.bind ?_ (fun _ => ?_)
theorem spec_GoodGroups.mono : ∀ a0 k, LeO (spec_GoodGroups.f k a0) (spec_GoodGroups.f (k + 1) a0) := by
 intro a0 k
 obtain ⟨ih0, ih1⟩ := spec_GoodGroups.mono_l k
 unfold spec_GoodGroups.f
 repeat' first
   | (with_reducible exact ih0 _ _ _ _)
   | (with_reducible exact ih1 _ _ _ _ _)
   | (with_reducible exact spec_GoodRow.mono _ _)
   | (with_reducible exact spec_l1Compare.mono _ _ _)
   | (with_reducible exact LeO.refl _)
   | (with_reducible exact LeO.none _)
   | (with_reducible refine LeO.ite ?_ ?_)
   | (with_reducible refine LeO.bind ?_ (fun _ => ?_))
   | exact ih0 _ _ _ _
   | exact ih1 _ _ _ _ _
   | exact spec_GoodRow.mono _ _
   | exact spec_l1Compare.mono _ _ _
   | exact LeO.none _
   | refine LeO.ite ?_ ?_
   | refine LeO.bind ?_ (fun _ => ?_)
def spec_GoodGroups.T4 : Bool × List (List Nat × List Nat) := (true, [([], []), ([0], [0]), ([1], [1]), ([2], [2]), ([3, 2], [3]), ([4], [4]), ([5, 4], [4, 5]), ([6, 4], [4, 6]), ([7, 4], [4, 7]), ([4], [4]), ([9, 4], [4, 9]), ([10, 4], [4, 10]), ([11, 4], [4, 11]), ([12, 4], [4, 12]), ([13, 4], [4, 13]), ([8, 14, 4], [4, 8, 14]), ([4, 15], [4, 15]), ([16, 4], [16]), ([17], [17]), ([18, 17], [17, 18]), ([19, 17, 17], [17, 19]), ([20, 17], [17, 20]), ([17, 21], [17, 21]), ([22, 20], [22]), ([23], [23]), ([24, 23], [23, 24]), ([25, 23, 23], [23, 25]), ([26, 23], [23, 26]), ([23, 27], [23, 27]), ([28, 26], [28]), ([29], [29]), ([30, 29], [29, 30]), ([31, 29], [29, 31]), ([32, 29, 29], [29, 32]), ([33], [33]), ([34, 33], [33, 34]), ([35, 33], [33, 35]), ([33, 36, 29], [29, 33, 36]), ([29, 37], [29, 37]), ([38, 33], [38]), ([39], [39]), ([40, 39], [39, 40]), ([41, 39, 39], [39, 41]), ([42], [42]), ([42], [42]), ([44, 42], [42, 44]), ([43, 45, 42], [42, 43, 45]), ([46, 42], [42, 46]), ([47, 42], [42, 47]), ([42], [42]), ([49, 42], [42, 49]), ([48, 50, 42, 42], [42, 48, 50]), ([51, 42], [42, 51]), ([42, 52, 39], [39, 42, 52]), ([39, 53], [39, 53])])
def spec_GoodGroups.B4 : List Nat := [0, 1, 3, 7, 15, 31, 63, 127, 255, 31, 543, 1567, 3615, 7711, 15903, 32767, 65535, 131071, 262143, 524287, 1048575, 2097151, 4194303, 8388607, 16777215, 33554431, 67108863, 134217727, 268435455, 536870911, 1073741823, 2147483647, 4294967295, 8589934591, 17179869183, 34359738367, 68719476735, 137438953471, 274877906943, 549755813887, 1099511627775, 2199023255551, 4398046511103, 8796093022207, 8796093022207, 26388279066623, 70368744177663, 140737488355327, 281474976710655, 8796093022207, 571746046443519, 2251799813685247, 4503599627370495, 9007199254740991, 18014398509481983]
theorem spec_GoodGroups.tab4 : rtab .any (opsOf Try.f14 4) = spec_GoodGroups.T4 := by kernel_rfl
theorem spec_GoodGroups.bits4 : waitsOk spec_GoodGroups.T4.2 spec_GoodGroups.B4 = true := by kernel_rfl
set_option maxHeartbeats 8000000 in
set_option maxRecDepth 100000 in
theorem spec_GoodGroups.calls (k : Nat) (A0 : Option Addr) (c0 : Nat) (l0 : List (S45)) (r : Bool) (w : World) (hr0 : Kd.C k45 w A0 l0.length l0) (hc0 : l0.length ≤ c0) (h : spec_GoodGroups.f k l0 = some r) :
  Calls Try.prog 14 #[.slice A0 l0.length c0] w fun e w' => e = .returned (.bool r) ∧ Below w.heap.size w w' := by
 have hu45 := Try.underlying45
 have hu43 := Try.underlying43
 have HR0 := xm hr0
 have HC0 := xm hc0
 clear hr0 hc0
 have HB := xm (Below.refl w.heap.size w)
 have H : (spec_GoodGroups.l0 k l0 l0 (l0.length : Int) 0) = some r := h
 clear h
 have H' := xm H
 clear H
 go_enter Try.func14, Try.ntmps14
 go_wp2
 go_loopg [7] k (fun kq v7 w' => ∃ (x7_1 : Int), v7 = .int .i64 x7_1 ∧ Aside0 (spec_GoodGroups.l0 kq l0 l0 (l0.length : Int) x7_1 = some r) ∧ Aside0 (kq ≤ k) ∧ Aside0 (Below w.heap.size w w'))
 case atStart => exact ⟨(0), (by first | rfl | (simp; done) | (simp [*]; done)), H', ⟨Nat.le_refl _⟩, ⟨by repeat (first | (with_reducible first | exact HB.out | apply xa | apply xn | apply xd) | exact HB.out)⟩⟩
 case round =>
  clear H'
  try clear c1
  obtain ⟨x7_1, rfl, HA, HK1, HB⟩ := hrel
  cases gk with
  | zero => exact absurd HA.out (by simp [spec_GoodGroups.l0])
  | succ k1 =>
   have H := HA.out
   clear HA
   simp only [spec_GoodGroups.l0] at H
   by_cases c2 : x7_1 < (l0.length : Int)
   ·rw [if_pos c2] at H
    have c2b0 : decide (x7_1 < (l0.length : Int)) = true := decide_eq_true c2
    clear c2
    by_cases c3 : 0 ≤ x7_1
    ·rw [if_pos c3] at H
     have c3b0 : decide (0 ≤ x7_1) = true := decide_eq_true c3
     clear c3
     by_cases c4 : x7_1 < (l0.length : Int)
     ·rw [if_pos c4] at H
      have c4b0 : decide (x7_1 < (l0.length : Int)) = true := decide_eq_true c4
      clear c4
      have HC5 := xm H
      clear H
      have p117 : 0 ≤ (x7_1 : Int) := of_decide_eq_true aB
      have q117 : x7_1 < (l0.length : Int) := of_decide_eq_true aB
      obtain ⟨ad117, A117_0, c117_0, e117, hx117_0, hx117_1, hx117_2, hl117_0, hi117_0⟩ := at_T45 HR0.out x7_1 p117 q117
      cases e117
      replace hx117_0 := (HB.out.cell (World.block_lt_of_cell? w _ hx117_0)).trans hx117_0
      replace hx117_1 := (HB.out.cell (World.block_lt_of_cell? w _ hx117_1)).trans hx117_1
      replace hx117_2 := (HB.out.cell (World.block_lt_of_cell? w _ hx117_2)).trans hx117_2
      have HR117_0 := xm hi117_0
      have HC117_0 := xm hl117_0
      clear hi117_0 hl117_0
      replace p117 := eq_true p117
      replace q117 := eq_true q117
      go_upto_region 4 with (first | ((with_reducible refine gate_dst (N := 4) rfl ?_); (try (refine gate_guard (by rfl) ?_; dsimp only)); refine box_event ?hg (N := 4) ?hd (cs := #[.slice none 0 0, .int .i64 0, .int .i64 0]) (t := 45) ?hr ?_; (case hd => rfl); (case hg => rfl); (case hr => exact zB); intro gb118 hg w6 hbox hb; have n0_ := xm (below_step bB hb); have n1_ := xm (hbox); have n2_ := xm ((by rw [hg]; exact (xz bB) : w.heap.size ≤ gb118)); have n3_ := xm ((by rw [hg]; exact (xz bB) : w.heap.size ≤ gb118)); revert n0_ n1_ n2_ n3_; clear HB; intro HB BK118 GW118 GE118; clear hb hbox hg; obtain ⟨hcz7_0, hcz7_1, hcz7_2, hfz7_0, hfz7_1, hfz7_2⟩ := cz3 BK118.out))
      (try simp only [Act.put, xi, xj, xk])
      go_cut [66] (fun v66 wc => ∃ (kq : Nat) (x66_4 : Bool), v66 = .bool x66_4 ∧ Aside0 (spec_GoodGroups.j1 kq l0 l0 (l0.length : Int) x7_1 x66_4 = some r) ∧ Aside0 (kq ≤ k1) ∧ Aside0 (wc.heap[gb118]? = some (.cells #[(.slice A117_0 ((rd_T45 l0 x7_1).f0.f0).length c117_0), .int .i64 ((rd_T45 l0 x7_1).f1), .int .i64 ((rd_T45 l0 x7_1).f2)] 45 (0, 0))) ∧ Aside0 (Below w.heap.size w wc))
      case first =>
       have H := HC5.out
       clear HC5
       replace H := Option.bind_eq_some_iff.mp H
       obtain ⟨t119, A80, H⟩ := H
       replace H : (if t119 = true then (if 0 < (l0.length : Int) then (if (((rd_T45 l0 x7_1).f0.f0).length : Int) = (((rd_T45 l0 0).f0.f0).length : Int) then ((spec_l5Sum.f ((rd_T45 l0 x7_1).f1)).bind fun t121 => (if t121 = true then ((spec_l5Sum.f ((rd_T45 l0 x7_1).f2)).bind fun t122 => (if t122 = true then (if ((rd_T45 l0 x7_1).f1) = 0 then (if ((rd_T45 l0 x7_1).f2) = 0 then (spec_GoodGroups.j1 k1 l0 l0 (l0.length : Int) x7_1 true) else (if x7_1 > 0 then (if 0 ≤ (wrap64 (x7_1 - 1)) then (if (wrap64 (x7_1 - 1)) < (l0.length : Int) then ((spec_l1Compare.f k1 ((rd_T45 l0 (wrap64 (x7_1 - 1))).f0.f0) ((rd_T45 l0 x7_1).f0.f0)).bind fun t124 => (spec_GoodGroups.j1 k1 l0 l0 (l0.length : Int) x7_1 (decide (t124 ≥ 0)))) else (none)) else (none)) else (spec_GoodGroups.j1 k1 l0 l0 (l0.length : Int) x7_1 false))) else (if x7_1 > 0 then (if 0 ≤ (wrap64 (x7_1 - 1)) then (if (wrap64 (x7_1 - 1)) < (l0.length : Int) then ((spec_l1Compare.f k1 ((rd_T45 l0 (wrap64 (x7_1 - 1))).f0.f0) ((rd_T45 l0 x7_1).f0.f0)).bind fun t126 => (spec_GoodGroups.j1 k1 l0 l0 (l0.length : Int) x7_1 (decide (t126 ≥ 0)))) else (none)) else (none)) else (spec_GoodGroups.j1 k1 l0 l0 (l0.length : Int) x7_1 false))) else (spec_GoodGroups.j1 k1 l0 l0 (l0.length : Int) x7_1 true))) else (spec_GoodGroups.j1 k1 l0 l0 (l0.length : Int) x7_1 true))) else (spec_GoodGroups.j1 k1 l0 l0 (l0.length : Int) x7_1 true)) else (none)) else (spec_GoodGroups.j1 k1 l0 l0 (l0.length : Int) x7_1 true)) = some r := H
       have A8 := xm A80
       clear A80
       by_cases c9 : t119 = true
       ·subst c9
        have H1 : (if 0 < (l0.length : Int) then (if (((rd_T45 l0 x7_1).f0.f0).length : Int) = (((rd_T45 l0 0).f0.f0).length : Int) then ((spec_l5Sum.f ((rd_T45 l0 x7_1).f1)).bind fun t121 => (if t121 = true then ((spec_l5Sum.f ((rd_T45 l0 x7_1).f2)).bind fun t122 => (if t122 = true then (if ((rd_T45 l0 x7_1).f1) = 0 then (if ((rd_T45 l0 x7_1).f2) = 0 then (spec_GoodGroups.j1 k1 l0 l0 (l0.length : Int) x7_1 true) else (if x7_1 > 0 then (if 0 ≤ (wrap64 (x7_1 - 1)) then (if (wrap64 (x7_1 - 1)) < (l0.length : Int) then ((spec_l1Compare.f k1 ((rd_T45 l0 (wrap64 (x7_1 - 1))).f0.f0) ((rd_T45 l0 x7_1).f0.f0)).bind fun t124 => (spec_GoodGroups.j1 k1 l0 l0 (l0.length : Int) x7_1 (decide (t124 ≥ 0)))) else (none)) else (none)) else (spec_GoodGroups.j1 k1 l0 l0 (l0.length : Int) x7_1 false))) else (if x7_1 > 0 then (if 0 ≤ (wrap64 (x7_1 - 1)) then (if (wrap64 (x7_1 - 1)) < (l0.length : Int) then ((spec_l1Compare.f k1 ((rd_T45 l0 (wrap64 (x7_1 - 1))).f0.f0) ((rd_T45 l0 x7_1).f0.f0)).bind fun t126 => (spec_GoodGroups.j1 k1 l0 l0 (l0.length : Int) x7_1 (decide (t126 ≥ 0)))) else (none)) else (none)) else (spec_GoodGroups.j1 k1 l0 l0 (l0.length : Int) x7_1 false))) else (spec_GoodGroups.j1 k1 l0 l0 (l0.length : Int) x7_1 true))) else (spec_GoodGroups.j1 k1 l0 l0 (l0.length : Int) x7_1 true))) else (spec_GoodGroups.j1 k1 l0 l0 (l0.length : Int) x7_1 true)) else (none)) = some r := by first | (with_reducible rfl) | (rw [if_pos rfl] at H; exact H)
        clear H
        have H := H1
        clear H1
        by_cases c10 : 0 < (l0.length : Int)
        ·rw [if_pos c10] at H
         have c10b0 : decide (0 < (l0.length : Int)) = true := decide_eq_true c10
         have c10b1 : decide (0 < l0.length) = true := decide_eq_true (by omega)
         clear c10
         (first | rw [c10b0] | (simp only [i64_w, i32_w]; rw [c10b0]) | skip)
         by_cases c11 : (((rd_T45 l0 x7_1).f0.f0).length : Int) = (((rd_T45 l0 0).f0.f0).length : Int)
         ·rw [if_pos c11] at H
          have c11b0 : ((((rd_T45 l0 x7_1).f0.f0).length : Int) == (((rd_T45 l0 0).f0.f0).length : Int)) = true := beq_iff_eq.mpr c11
          have c11b1 : ((((rd_T45 l0 x7_1).f0.f0).length : Int) != (((rd_T45 l0 0).f0.f0).length : Int)) = false := bne_eq_false_iff_eq.mpr c11
          have c11b2 : (((rd_T45 l0 x7_1).f0.f0).length == ((rd_T45 l0 0).f0.f0).length) = true := by first | simpa using c11 | (simp at c11 ⊢; omega)
          clear c11
          replace H := Option.bind_eq_some_iff.mp H
          obtain ⟨t121, A120, H⟩ := H
          replace H : (if t121 = true then ((spec_l5Sum.f ((rd_T45 l0 x7_1).f2)).bind fun t122 => (if t122 = true then (if ((rd_T45 l0 x7_1).f1) = 0 then (if ((rd_T45 l0 x7_1).f2) = 0 then (spec_GoodGroups.j1 k1 l0 l0 (l0.length : Int) x7_1 true) else (if x7_1 > 0 then (if 0 ≤ (wrap64 (x7_1 - 1)) then (if (wrap64 (x7_1 - 1)) < (l0.length : Int) then ((spec_l1Compare.f k1 ((rd_T45 l0 (wrap64 (x7_1 - 1))).f0.f0) ((rd_T45 l0 x7_1).f0.f0)).bind fun t124 => (spec_GoodGroups.j1 k1 l0 l0 (l0.length : Int) x7_1 (decide (t124 ≥ 0)))) else (none)) else (none)) else (spec_GoodGroups.j1 k1 l0 l0 (l0.length : Int) x7_1 false))) else (if x7_1 > 0 then (if 0 ≤ (wrap64 (x7_1 - 1)) then (if (wrap64 (x7_1 - 1)) < (l0.length : Int) then ((spec_l1Compare.f k1 ((rd_T45 l0 (wrap64 (x7_1 - 1))).f0.f0) ((rd_T45 l0 x7_1).f0.f0)).bind fun t126 => (spec_GoodGroups.j1 k1 l0 l0 (l0.length : Int) x7_1 (decide (t126 ≥ 0)))) else (none)) else (none)) else (spec_GoodGroups.j1 k1 l0 l0 (l0.length : Int) x7_1 false))) else (spec_GoodGroups.j1 k1 l0 l0 (l0.length : Int) x7_1 true))) else (spec_GoodGroups.j1 k1 l0 l0 (l0.length : Int) x7_1 true)) = some r := H
          have A12 := xm A120
          clear A120
          by_cases c13 : t121 = true
          ·subst c13
           have H1 : ((spec_l5Sum.f ((rd_T45 l0 x7_1).f2)).bind fun t122 => (if t122 = true then (if ((rd_T45 l0 x7_1).f1) = 0 then (if ((rd_T45 l0 x7_1).f2) = 0 then (spec_GoodGroups.j1 k1 l0 l0 (l0.length : Int) x7_1 true) else (if x7_1 > 0 then (if 0 ≤ (wrap64 (x7_1 - 1)) then (if (wrap64 (x7_1 - 1)) < (l0.length : Int) then ((spec_l1Compare.f k1 ((rd_T45 l0 (wrap64 (x7_1 - 1))).f0.f0) ((rd_T45 l0 x7_1).f0.f0)).bind fun t124 => (spec_GoodGroups.j1 k1 l0 l0 (l0.length : Int) x7_1 (decide (t124 ≥ 0)))) else (none)) else (none)) else (spec_GoodGroups.j1 k1 l0 l0 (l0.length : Int) x7_1 false))) else (if x7_1 > 0 then (if 0 ≤ (wrap64 (x7_1 - 1)) then (if (wrap64 (x7_1 - 1)) < (l0.length : Int) then ((spec_l1Compare.f k1 ((rd_T45 l0 (wrap64 (x7_1 - 1))).f0.f0) ((rd_T45 l0 x7_1).f0.f0)).bind fun t126 => (spec_GoodGroups.j1 k1 l0 l0 (l0.length : Int) x7_1 (decide (t126 ≥ 0)))) else (none)) else (none)) else (spec_GoodGroups.j1 k1 l0 l0 (l0.length : Int) x7_1 false))) else (spec_GoodGroups.j1 k1 l0 l0 (l0.length : Int) x7_1 true))) = some r := by first | (with_reducible rfl) | (rw [if_pos rfl] at H; exact H)
           clear H
           have H := H1
           clear H1
           replace H := Option.bind_eq_some_iff.mp H
           obtain ⟨t122, A140, H⟩ := H
           replace H : (if t122 = true then (if ((rd_T45 l0 x7_1).f1) = 0 then (if ((rd_T45 l0 x7_1).f2) = 0 then (spec_GoodGroups.j1 k1 l0 l0 (l0.length : Int) x7_1 true) else (if x7_1 > 0 then (if 0 ≤ (wrap64 (x7_1 - 1)) then (if (wrap64 (x7_1 - 1)) < (l0.length : Int) then ((spec_l1Compare.f k1 ((rd_T45 l0 (wrap64 (x7_1 - 1))).f0.f0) ((rd_T45 l0 x7_1).f0.f0)).bind fun t124 => (spec_GoodGroups.j1 k1 l0 l0 (l0.length : Int) x7_1 (decide (t124 ≥ 0)))) else (none)) else (none)) else (spec_GoodGroups.j1 k1 l0 l0 (l0.length : Int) x7_1 false))) else (if x7_1 > 0 then (if 0 ≤ (wrap64 (x7_1 - 1)) then (if (wrap64 (x7_1 - 1)) < (l0.length : Int) then ((spec_l1Compare.f k1 ((rd_T45 l0 (wrap64 (x7_1 - 1))).f0.f0) ((rd_T45 l0 x7_1).f0.f0)).bind fun t126 => (spec_GoodGroups.j1 k1 l0 l0 (l0.length : Int) x7_1 (decide (t126 ≥ 0)))) else (none)) else (none)) else (spec_GoodGroups.j1 k1 l0 l0 (l0.length : Int) x7_1 false))) else (spec_GoodGroups.j1 k1 l0 l0 (l0.length : Int) x7_1 true)) = some r := H
           have A14 := xm A140
           clear A140
           by_cases c15 : t122 = true
           ·subst c15
            have H1 : (if ((rd_T45 l0 x7_1).f1) = 0 then (if ((rd_T45 l0 x7_1).f2) = 0 then (spec_GoodGroups.j1 k1 l0 l0 (l0.length : Int) x7_1 true) else (if x7_1 > 0 then (if 0 ≤ (wrap64 (x7_1 - 1)) then (if (wrap64 (x7_1 - 1)) < (l0.length : Int) then ((spec_l1Compare.f k1 ((rd_T45 l0 (wrap64 (x7_1 - 1))).f0.f0) ((rd_T45 l0 x7_1).f0.f0)).bind fun t124 => (spec_GoodGroups.j1 k1 l0 l0 (l0.length : Int) x7_1 (decide (t124 ≥ 0)))) else (none)) else (none)) else (spec_GoodGroups.j1 k1 l0 l0 (l0.length : Int) x7_1 false))) else (if x7_1 > 0 then (if 0 ≤ (wrap64 (x7_1 - 1)) then (if (wrap64 (x7_1 - 1)) < (l0.length : Int) then ((spec_l1Compare.f k1 ((rd_T45 l0 (wrap64 (x7_1 - 1))).f0.f0) ((rd_T45 l0 x7_1).f0.f0)).bind fun t126 => (spec_GoodGroups.j1 k1 l0 l0 (l0.length : Int) x7_1 (decide (t126 ≥ 0)))) else (none)) else (none)) else (spec_GoodGroups.j1 k1 l0 l0 (l0.length : Int) x7_1 false))) = some r := by first | (with_reducible rfl) | (rw [if_pos rfl] at H; exact H)
            clear H
            have H := H1
            clear H1
            by_cases c16 : ((rd_T45 l0 x7_1).f1) = 0
            ·rw [if_pos c16] at H
             have c16b0 : (((rd_T45 l0 x7_1).f1) == 0) = true := beq_iff_eq.mpr c16
             have c16b1 : (((rd_T45 l0 x7_1).f1) != 0) = false := bne_eq_false_iff_eq.mpr c16
             clear c16
             by_cases c17 : ((rd_T45 l0 x7_1).f2) = 0
             ·rw [if_pos c17] at H
              have c17b0 : (((rd_T45 l0 x7_1).f2) == 0) = true := beq_iff_eq.mpr c17
              have c17b1 : (((rd_T45 l0 x7_1).f2) != 0) = false := bne_eq_false_iff_eq.mpr c17
              clear c17
              have H' := xm H
              clear H
              try go_wp2
              have n0_ : Aside0 ((((w6.setCell ⟨gb118, 0, none⟩ (.slice A117_0 ((rd_T45 l0 x7_1).f0.f0).length c117_0)).setCell ⟨gb118, 1, none⟩ (.int .i64 ((rd_T45 l0 x7_1).f1))).setCell ⟨gb118, 2, none⟩ (.int .i64 ((rd_T45 l0 x7_1).f2))).heap[gb118]? = some (.cells #[.slice A117_0 ((rd_T45 l0 x7_1).f0.f0).length c117_0, .int .i64 ((rd_T45 l0 x7_1).f1), .int .i64 ((rd_T45 l0 x7_1).f2)] 45 (0, 0))) := ⟨by (with_reducible repeat (first | refine xq ?_ _ | refine xr ?_ | refine xo ?_ _)); refine blk_put (cs := #[.slice A117_0 ((rd_T45 l0 x7_1).f0.f0).length c117_0, .int .i64 ((rd_T45 l0 x7_1).f1), .int .i64 0]) ?_ 2 _ rfl; (with_reducible repeat (first | refine xq ?_ _ | refine xr ?_ | refine xo ?_ _)); refine blk_put (cs := #[.slice A117_0 ((rd_T45 l0 x7_1).f0.f0).length c117_0, .int .i64 0, .int .i64 0]) ?_ 1 _ rfl; (with_reducible repeat (first | refine xq ?_ _ | refine xr ?_ | refine xo ?_ _)); refine blk_put (cs := #[.slice none 0 0, .int .i64 0, .int .i64 0]) ?_ 0 _ rfl; (with_reducible repeat (first | refine xq ?_ _ | refine xr ?_ | refine xo ?_ _)); exact BK118.out⟩
              have n1_ : Aside0 (Below w.heap.size w (((w6.setCell ⟨gb118, 0, none⟩ (.slice A117_0 ((rd_T45 l0 x7_1).f0.f0).length c117_0)).setCell ⟨gb118, 1, none⟩ (.int .i64 ((rd_T45 l0 x7_1).f1))).setCell ⟨gb118, 2, none⟩ (.int .i64 ((rd_T45 l0 x7_1).f2)))) := ⟨by repeat (first | (with_reducible first | exact HB.out | apply xa | apply xn | apply xd | refine xt ?_ GE118.out) | exact HB.out)⟩
              (try clear BK118)
              (try clear HB)
              generalize (((w6.setCell ⟨gb118, 0, none⟩ (.slice A117_0 ((rd_T45 l0 x7_1).f0.f0).length c117_0)).setCell ⟨gb118, 1, none⟩ (.int .i64 ((rd_T45 l0 x7_1).f1))).setCell ⟨gb118, 2, none⟩ (.int .i64 ((rd_T45 l0 x7_1).f2))) = w18 at n0_ n1_ ⊢
              revert n0_ n1_; intro BK118 HB
              have n0_ := xm (xr BK118.out)
              have n1_ := xm (xd HB.out)
              revert n0_ n1_; clear BK118 HB; intro BK118 HB
              have p120 : 0 ≤ (0 : Int) := (by omega)
              have q120 : 0 < (l0.length : Int) := of_decide_eq_true aB
              obtain ⟨ad120, A120_0, c120_0, e120, hx120_0, hx120_1, hx120_2, hl120_0, hi120_0⟩ := at_T45 HR0.out 0 p120 q120
              have hw120_2 := hx120_2
              (try rw [show ((0 : Int)).toNat = 0 from rfl] at hw120_2)
              (try rw [show 0 * 3 = 0 from rfl] at hw120_2)
              (try rw [Addr.add_zero'] at hw120_2)
              have hw120_1 := hx120_1
              (try rw [show ((0 : Int)).toNat = 0 from rfl] at hw120_1)
              (try rw [show 0 * 3 = 0 from rfl] at hw120_1)
              (try rw [Addr.add_zero'] at hw120_1)
              have hw120_0 := hx120_0
              (try rw [show ((0 : Int)).toNat = 0 from rfl] at hw120_0)
              (try rw [show 0 * 3 = 0 from rfl] at hw120_0)
              (try rw [Addr.add_zero'] at hw120_0)
              obtain rfl : ad117 = ad120 := (by injection e120)
              have qi120 : (0 < l0.length) = True := eq_true (by omega)
              (try rw [show ((0 : Int)).toNat = 0 from rfl] at hx120_0)
              (try rw [show 0 * 3 = 0 from rfl] at hx120_0)
              (try rw [Addr.add_zero'] at hx120_0)
              (try rw [show ((0 : Int)).toNat = 0 from rfl] at hx120_1)
              (try rw [show 0 * 3 = 0 from rfl] at hx120_1)
              (try rw [Addr.add_zero'] at hx120_1)
              (try rw [show ((0 : Int)).toNat = 0 from rfl] at hx120_2)
              (try rw [show 0 * 3 = 0 from rfl] at hx120_2)
              (try rw [Addr.add_zero'] at hx120_2)
              replace hx120_0 := (HB.out.cell (World.block_lt_of_cell? w _ hx120_0)).trans hx120_0
              replace hx120_1 := (HB.out.cell (World.block_lt_of_cell? w _ hx120_1)).trans hx120_1
              replace hx120_2 := (HB.out.cell (World.block_lt_of_cell? w _ hx120_2)).trans hx120_2
              have HR120_0 := xm hi120_0
              have HC120_0 := xm hl120_0
              clear hi120_0 hl120_0
              replace p120 := eq_true p120
              replace q120 := eq_true q120
              refine start_ (n := 55) (S := fun w' => w'.cell? ⟨gb118, 0, none⟩ = some (.slice A117_0 ((rd_T45 l0 x7_1).f0.f0).length c117_0) ∧ w'.cell? ⟨gb118, 1, none⟩ = some (.int .i64 ((rd_T45 l0 x7_1).f1)) ∧ w'.cell? ⟨gb118, 2, none⟩ = some (.int .i64 ((rd_T45 l0 x7_1).f2)) ∧ w'.cell? ad117 = some (.slice A120_0 ((rd_T45 l0 0).f0.f0).length c120_0) ∧ w'.cell? ⟨ad117.block, ad117.off + 1, none⟩ = some (.int .i64 ((rd_T45 l0 0).f1)) ∧ w'.cell? ⟨ad117.block, ad117.off + 2, none⟩ = some (.int .i64 ((rd_T45 l0 0).f2))) (ds := []) #[Z,Z,Z,Z,Z,Z,Z,Z,Z,Z,Z,Z,Z,Z,Z,Z,Z,Z,Z,Z,Z,Z,Z,Z,Z,Z,Z,Z,Z,Z,Z,Z,Z,Z,Z,Z,Z,Z,Z,Z,Z,Z,Z,Z,Z,Z,Z,Z,Z,Z,Z,Z,Z,Z,Z] (by kernel_rfl) rfl rfl ⟨(xc BK118.out 0).trans rfl, (xc BK118.out 1).trans rfl, (xc BK118.out 2).trans rfl, ((HB.out.cell (World.block_lt_of_cell? w _ hw120_0)).trans hw120_0), ((HB.out.cell (World.block_lt_of_cell? w _ hw120_1)).trans hw120_1), ((HB.out.cell (World.block_lt_of_cell? w _ hw120_2)).trans hw120_2)⟩ (fun hHeld => ?_); refine with_tabW spec_GoodGroups.tab4 spec_GoodGroups.bits4 (fun HT_ HW_ => ?_)
              generalize w18.drew = w19 at BK118 HB HR120_0 hx120_0 hx120_1 hx120_2 hHeld ⊢
              refine pu 0 55 1 ?_
              refine tx 1 55 3 rfl rfl (take_ofW HT_.out HW_.out (by kernel_rfl)) hHeld (by rintro w' ⟨s0, s1, s2, s3, s4, s5⟩; go_simp; with_reducible rfl) ?_
              refine one_ (i := 2) (N := some 14) #[Y,Y,Y,Z,Z,Z,Z,Z,Z,Z,Z,Z,Z,Z,Z,Z,Z,Z,Z,Z,Z,Z,Z,Z,Z,Z,Z,Z,Z,Z,Z,Z,Z,Z,Z,Z,Z,Z,Z,Z,Z,Z,Z,Z,Z,Z,Z,Z,Z,Z,Z,Z,Z,Z,Z] rfl rfl (one_of HT_.out (by kernel_rfl)) (by decide) (fun K hK => ?_)
              refine goes_ Try.func27 (by kernel_rfl) rfl #[.agg #[.slice A117_0 ((rd_T45 l0 x7_1).f0.f0).length c117_0]] (by rfl) rfl rfl mB ?_
              with_reducible refine (spec_GoodRow.calls k1 _ _ ((rd_T45 l0 x7_1).f0.f0) true _ ?side1 ?side2 A8.out).mono ?_
              (case side1 => exact cB (Kd.C_below HR117_0.out HB.out))
              (case side2 => exact HC117_0.out)
              rintro e w20 ⟨rfl, hb⟩
              refine ⟨_, rfl, ?_⟩
              have n0_ := xm (blk_below (kB BK118) hb)
              have n1_ := xm (below_step bG hb)
              revert n0_ n1_; clear BK118 HB; intro BK118 HB
              (try clear hb)
              (try clear hb2)
              (try clear hk)
              (try clear hi)
              refine hK.out _ _ ⟨(xc BK118.out 0).trans rfl, (xc BK118.out 1).trans rfl, (xc BK118.out 2).trans rfl, ((HB.out.cell (World.block_lt_of_cell? w _ hw120_0)).trans hw120_0), ((HB.out.cell (World.block_lt_of_cell? w _ hw120_1)).trans hw120_1), ((HB.out.cell (World.block_lt_of_cell? w _ hw120_2)).trans hw120_2)⟩ (fun hHeld => nC ?_)
              clear hK K
              refine pu 3 55 15 ?_
              refine pu 4 55 31 ?_
              refine pu 5 55 63 ?_
              refine pu 6 55 127 ?_
              refine pu 9 55 639 ?_
              refine pu 10 55 1663 ?_
              refine pu 11 55 3711 ?_
              refine pu 12 55 7807 ?_
              refine tx 7 55 7935 rfl rfl (take_ofW HT_.out HW_.out (by kernel_rfl)) hHeld (by rintro w' ⟨s0, s1, s2, s3, s4, s5⟩; go_simp; with_reducible rfl) ?_
              refine pu 8 55 8191 ?_
              refine tx 13 55 16383 rfl rfl (take_ofW HT_.out HW_.out (by kernel_rfl)) hHeld (by rintro w' ⟨s0, s1, s2, s3, s4, s5⟩; go_simp; with_reducible rfl) ?_
              refine pu 14 55 32767 ?_
              refine pu 15 55 65535 ?_
              refine pu 16 55 131071 ?_
              refine pu 17 55 262143 ?_
              refine pu 18 55 524287 ?_
              refine tx 19 55 1048575 rfl rfl (take_ofW HT_.out HW_.out (by kernel_rfl)) hHeld (by rintro w' ⟨s0, s1, s2, s3, s4, s5⟩; go_simp; with_reducible rfl) ?_
              refine one_ (i := 20) (N := some 32) #[Y,Y,Y,Y,Y,Y,Y,Y,Y,Y,Y,Y,Y,Y,Y,Y,Y,Y,Y,Y,Y,Z,Z,Z,Z,Z,Z,Z,Z,Z,Z,Z,Z,Z,Z,Z,Z,Z,Z,Z,Z,Z,Z,Z,Z,Z,Z,Z,Z,Z,Z,Z,Z,Z,Z] rfl rfl (one_of HT_.out (by kernel_rfl)) (by decide) (fun K hK => ?_)
              refine goes_ Try.func28 (by kernel_rfl) rfl #[.int .i64 ((rd_T45 l0 x7_1).f1)] (by rfl) rfl rfl mB ?_
              with_reducible refine (spec_l5Sum.calls ((rd_T45 l0 x7_1).f1) true _ A12.out).mono ?_
              rintro e w' ⟨rfl, ⟨nd, rfl⟩⟩
              refine ⟨_, rfl, ?_⟩
              refine hK.out _ _ ⟨(xc BK118.out 0).trans rfl, (xc BK118.out 1).trans rfl, (xc BK118.out 2).trans rfl, ((HB.out.cell (World.block_lt_of_cell? w _ hw120_0)).trans hw120_0), ((HB.out.cell (World.block_lt_of_cell? w _ hw120_1)).trans hw120_1), ((HB.out.cell (World.block_lt_of_cell? w _ hw120_2)).trans hw120_2)⟩ (fun hHeld => nC ?_)
              clear hK K
              refine pu 21 55 4194303 ?_
              refine pu 22 55 8388607 ?_
              refine pu 23 55 16777215 ?_
              refine pu 24 55 33554431 ?_
              refine tx 25 55 67108863 rfl rfl (take_ofW HT_.out HW_.out (by kernel_rfl)) hHeld (by rintro w' ⟨s0, s1, s2, s3, s4, s5⟩; go_simp; with_reducible rfl) ?_
              refine one_ (i := 26) (N := some 38) #[Y,Y,Y,Y,Y,Y,Y,Y,Y,Y,Y,Y,Y,Y,Y,Y,Y,Y,Y,Y,Y,Y,Y,Y,Y,Y,Y,Z,Z,Z,Z,Z,Z,Z,Z,Z,Z,Z,Z,Z,Z,Z,Z,Z,Z,Z,Z,Z,Z,Z,Z,Z,Z,Z,Z] rfl rfl (one_of HT_.out (by kernel_rfl)) (by decide) (fun K hK => ?_)
              refine goes_ Try.func28 (by kernel_rfl) rfl #[.int .i64 ((rd_T45 l0 x7_1).f2)] (by rfl) rfl rfl mB ?_
              with_reducible refine (spec_l5Sum.calls ((rd_T45 l0 x7_1).f2) true _ A14.out).mono ?_
              rintro e w' ⟨rfl, ⟨nd, rfl⟩⟩
              refine ⟨_, rfl, ?_⟩
              refine hK.out _ _ ⟨(xc BK118.out 0).trans rfl, (xc BK118.out 1).trans rfl, (xc BK118.out 2).trans rfl, ((HB.out.cell (World.block_lt_of_cell? w _ hw120_0)).trans hw120_0), ((HB.out.cell (World.block_lt_of_cell? w _ hw120_1)).trans hw120_1), ((HB.out.cell (World.block_lt_of_cell? w _ hw120_2)).trans hw120_2)⟩ (fun hHeld => nC ?_)
              clear hK K
              refine pu 27 55 268435455 ?_
              refine pu 28 55 536870911 ?_
              refine pu 29 55 1073741823 ?_
              refine pu 30 55 2147483647 ?_
              refine tx 31 55 4294967295 rfl rfl (take_ofW HT_.out HW_.out (by kernel_rfl)) hHeld (by rintro w' ⟨s0, s1, s2, s3, s4, s5⟩; go_simp; with_reducible rfl) ?_
              refine pu 32 55 8589934591 ?_
              refine pu 33 55 17179869183 ?_
              refine pu 34 55 34359738367 ?_
              refine tx 35 55 68719476735 rfl rfl (take_ofW HT_.out HW_.out (by kernel_rfl)) hHeld (by rintro w' ⟨s0, s1, s2, s3, s4, s5⟩; go_simp; with_reducible rfl) ?_
              refine pu 36 55 137438953471 ?_
              refine pu 37 55 274877906943 ?_
              refine pu 38 55 549755813887 ?_
              refine pu 39 55 1099511627775 ?_
              refine ou 40 55 2199023255551 ?_
              refine ou 41 55 4398046511103 ?_
              refine ou 42 55 8796093022207 ?_
              refine ou 43 55 17592186044415 ?_
              refine ou 44 55 35184372088831 ?_
              refine ou 45 55 70368744177663 ?_
              refine ou 46 55 140737488355327 ?_
              refine ou 47 55 281474976710655 ?_
              refine ou 48 55 562949953421311 ?_
              refine ou 49 55 1125899906842623 ?_
              refine ou 50 55 2251799813685247 ?_
              refine ou 51 55 4503599627370495 ?_
              refine ou 52 55 9007199254740991 ?_
              refine ou 53 55 18014398509481983 ?_
              refine pu 54 55 36028797018963967 ?_
              refine done_ (done_of HT_.out (by kernel_rfl)) ?_
              try go_wp2
              go_meet
              case rel => exact ⟨_, (true), (by first | rfl | (simp; done) | (simp [*]; done)), H', ⟨by have := HK1.out; first | omega | exact Nat.le_refl _⟩, ⟨by (with_reducible repeat (first | refine xq ?_ _ | refine xr ?_ | refine xo ?_ _)); exact BK118.out⟩, ⟨by repeat (first | (with_reducible first | exact HB.out | apply xa | apply xn | apply xd | refine xt ?_ GE118.out) | exact HB.out)⟩⟩
             ·rw [if_neg c17] at H
              have c17b0 : (((rd_T45 l0 x7_1).f2) == 0) = false := beq_eq_false_iff_ne.mpr c17
              have c17b1 : (((rd_T45 l0 x7_1).f2) != 0) = true := bne_iff_ne.mpr c17
              by_cases c21 : x7_1 > 0
              ·rw [if_pos c21] at H
               have c21b0 : decide (0 < x7_1) = true := decide_eq_true c21
               clear c21
               obtain ⟨ji22, hji22⟩ : ∃ j_ : Int, (wrap64 (x7_1 - 1)) = j_ := ⟨_, rfl⟩
               replace H : (if 0 ≤ (ji22) then (if (ji22) < (l0.length : Int) then ((spec_l1Compare.f k1 ((rd_T45 l0 (ji22)).f0.f0) ((rd_T45 l0 x7_1).f0.f0)).bind fun t124 => (spec_GoodGroups.j1 k1 l0 l0 (l0.length : Int) x7_1 (decide (t124 ≥ 0)))) else (none)) else (none)) = some r := by first | (rw [hji22] at H; exact H) | (simp only [hji22] at H ⊢; exact H)
               (try rw [hji22] at A8)
               (try rw [hji22] at A12)
               (try rw [hji22] at A14)
               have hji22w : (IntKind.i64.wrap (x7_1 - 1)) = ji22 := (i64_w _).trans hji22
               by_cases c23 : 0 ≤ (ji22)
               ·rw [if_pos c23] at H
                have c23b0 : decide (0 ≤ (ji22)) = true := decide_eq_true c23
                clear c23
                by_cases c24 : (ji22) < (l0.length : Int)
                ·rw [if_pos c24] at H
                 have c24b0 : decide ((ji22) < (l0.length : Int)) = true := decide_eq_true c24
                 clear c24
                 replace H := Option.bind_eq_some_iff.mp H
                 obtain ⟨t124, A250, H⟩ := H
                 replace H : (spec_GoodGroups.j1 k1 l0 l0 (l0.length : Int) x7_1 (decide (t124 ≥ 0))) = some r := H
                 have A25 := xm A250
                 clear A250
                 have H' := xm H
                 clear H
                 try go_wp2
                 have n0_ : Aside0 ((((w6.setCell ⟨gb118, 0, none⟩ (.slice A117_0 ((rd_T45 l0 x7_1).f0.f0).length c117_0)).setCell ⟨gb118, 1, none⟩ (.int .i64 ((rd_T45 l0 x7_1).f1))).setCell ⟨gb118, 2, none⟩ (.int .i64 ((rd_T45 l0 x7_1).f2))).heap[gb118]? = some (.cells #[.slice A117_0 ((rd_T45 l0 x7_1).f0.f0).length c117_0, .int .i64 ((rd_T45 l0 x7_1).f1), .int .i64 ((rd_T45 l0 x7_1).f2)] 45 (0, 0))) := ⟨by (with_reducible repeat (first | refine xq ?_ _ | refine xr ?_ | refine xo ?_ _)); refine blk_put (cs := #[.slice A117_0 ((rd_T45 l0 x7_1).f0.f0).length c117_0, .int .i64 ((rd_T45 l0 x7_1).f1), .int .i64 0]) ?_ 2 _ rfl; (with_reducible repeat (first | refine xq ?_ _ | refine xr ?_ | refine xo ?_ _)); refine blk_put (cs := #[.slice A117_0 ((rd_T45 l0 x7_1).f0.f0).length c117_0, .int .i64 0, .int .i64 0]) ?_ 1 _ rfl; (with_reducible repeat (first | refine xq ?_ _ | refine xr ?_ | refine xo ?_ _)); refine blk_put (cs := #[.slice none 0 0, .int .i64 0, .int .i64 0]) ?_ 0 _ rfl; (with_reducible repeat (first | refine xq ?_ _ | refine xr ?_ | refine xo ?_ _)); exact BK118.out⟩
                 have n1_ : Aside0 (Below w.heap.size w (((w6.setCell ⟨gb118, 0, none⟩ (.slice A117_0 ((rd_T45 l0 x7_1).f0.f0).length c117_0)).setCell ⟨gb118, 1, none⟩ (.int .i64 ((rd_T45 l0 x7_1).f1))).setCell ⟨gb118, 2, none⟩ (.int .i64 ((rd_T45 l0 x7_1).f2)))) := ⟨by repeat (first | (with_reducible first | exact HB.out | apply xa | apply xn | apply xd | refine xt ?_ GE118.out) | exact HB.out)⟩
                 (try clear BK118)
                 (try clear HB)
                 generalize (((w6.setCell ⟨gb118, 0, none⟩ (.slice A117_0 ((rd_T45 l0 x7_1).f0.f0).length c117_0)).setCell ⟨gb118, 1, none⟩ (.int .i64 ((rd_T45 l0 x7_1).f1))).setCell ⟨gb118, 2, none⟩ (.int .i64 ((rd_T45 l0 x7_1).f2))) = w26 at n0_ n1_ ⊢
                 revert n0_ n1_; intro BK118 HB
                 have n0_ := xm (xr BK118.out)
                 have n1_ := xm (xd HB.out)
                 revert n0_ n1_; clear BK118 HB; intro BK118 HB
                 have p120 : 0 ≤ (0 : Int) := (by omega)
                 have q120 : 0 < (l0.length : Int) := of_decide_eq_true aB
                 obtain ⟨ad120, A120_0, c120_0, e120, hx120_0, hx120_1, hx120_2, hl120_0, hi120_0⟩ := at_T45 HR0.out 0 p120 q120
                 have hw120_2 := hx120_2
                 (try rw [show ((0 : Int)).toNat = 0 from rfl] at hw120_2)
                 (try rw [show 0 * 3 = 0 from rfl] at hw120_2)
                 (try rw [Addr.add_zero'] at hw120_2)
                 have hw120_1 := hx120_1
                 (try rw [show ((0 : Int)).toNat = 0 from rfl] at hw120_1)
                 (try rw [show 0 * 3 = 0 from rfl] at hw120_1)
                 (try rw [Addr.add_zero'] at hw120_1)
                 have hw120_0 := hx120_0
                 (try rw [show ((0 : Int)).toNat = 0 from rfl] at hw120_0)
                 (try rw [show 0 * 3 = 0 from rfl] at hw120_0)
                 (try rw [Addr.add_zero'] at hw120_0)
                 obtain rfl : ad117 = ad120 := (by injection e120)
                 have qi120 : (0 < l0.length) = True := eq_true (by omega)
                 (try rw [show ((0 : Int)).toNat = 0 from rfl] at hx120_0)
                 (try rw [show 0 * 3 = 0 from rfl] at hx120_0)
                 (try rw [Addr.add_zero'] at hx120_0)
                 (try rw [show ((0 : Int)).toNat = 0 from rfl] at hx120_1)
                 (try rw [show 0 * 3 = 0 from rfl] at hx120_1)
                 (try rw [Addr.add_zero'] at hx120_1)
                 (try rw [show ((0 : Int)).toNat = 0 from rfl] at hx120_2)
                 (try rw [show 0 * 3 = 0 from rfl] at hx120_2)
                 (try rw [Addr.add_zero'] at hx120_2)
                 replace hx120_0 := (HB.out.cell (World.block_lt_of_cell? w _ hx120_0)).trans hx120_0
                 replace hx120_1 := (HB.out.cell (World.block_lt_of_cell? w _ hx120_1)).trans hx120_1
                 replace hx120_2 := (HB.out.cell (World.block_lt_of_cell? w _ hx120_2)).trans hx120_2
                 have HR120_0 := xm hi120_0
                 have HC120_0 := xm hl120_0
                 clear hi120_0 hl120_0
                 replace p120 := eq_true p120
                 replace q120 := eq_true q120
                 have p123 : 0 ≤ ((ji22) : Int) := of_decide_eq_true aB
                 have q123 : (ji22) < (l0.length : Int) := of_decide_eq_true aB
                 obtain ⟨ad123, A123_0, c123_0, e123, hx123_0, hx123_1, hx123_2, hl123_0, hi123_0⟩ := at_T45 HR0.out (ji22) p123 q123
                 have hw123_2 := hx123_2
                 have hw123_1 := hx123_1
                 have hw123_0 := hx123_0
                 obtain rfl : ad117 = ad123 := (by injection e123)
                 replace hx123_0 := (HB.out.cell (World.block_lt_of_cell? w _ hx123_0)).trans hx123_0
                 replace hx123_1 := (HB.out.cell (World.block_lt_of_cell? w _ hx123_1)).trans hx123_1
                 replace hx123_2 := (HB.out.cell (World.block_lt_of_cell? w _ hx123_2)).trans hx123_2
                 have HR123_0 := xm hi123_0
                 have HC123_0 := xm hl123_0
                 clear hi123_0 hl123_0
                 replace p123 := eq_true p123
                 replace q123 := eq_true q123
                 refine start_ (n := 55) (S := fun w' => w'.cell? ⟨gb118, 0, none⟩ = some (.slice A117_0 ((rd_T45 l0 x7_1).f0.f0).length c117_0) ∧ w'.cell? ⟨gb118, 1, none⟩ = some (.int .i64 ((rd_T45 l0 x7_1).f1)) ∧ w'.cell? ⟨gb118, 2, none⟩ = some (.int .i64 ((rd_T45 l0 x7_1).f2)) ∧ w'.cell? ad117 = some (.slice A120_0 ((rd_T45 l0 0).f0.f0).length c120_0) ∧ w'.cell? ⟨ad117.block, ad117.off + 1, none⟩ = some (.int .i64 ((rd_T45 l0 0).f1)) ∧ w'.cell? ⟨ad117.block, ad117.off + 2, none⟩ = some (.int .i64 ((rd_T45 l0 0).f2)) ∧ w'.cell? (ad117.add (((ji22)).toNat * 3)) = some (.slice A123_0 ((rd_T45 l0 (ji22)).f0.f0).length c123_0) ∧ w'.cell? ⟨(ad117.add (((ji22)).toNat * 3)).block, (ad117.add (((ji22)).toNat * 3)).off + 1, none⟩ = some (.int .i64 ((rd_T45 l0 (ji22)).f1)) ∧ w'.cell? ⟨(ad117.add (((ji22)).toNat * 3)).block, (ad117.add (((ji22)).toNat * 3)).off + 2, none⟩ = some (.int .i64 ((rd_T45 l0 (ji22)).f2))) (ds := []) #[Z,Z,Z,Z,Z,Z,Z,Z,Z,Z,Z,Z,Z,Z,Z,Z,Z,Z,Z,Z,Z,Z,Z,Z,Z,Z,Z,Z,Z,Z,Z,Z,Z,Z,Z,Z,Z,Z,Z,Z,Z,Z,Z,Z,Z,Z,Z,Z,Z,Z,Z,Z,Z,Z,Z] (by kernel_rfl) rfl rfl ⟨(xc BK118.out 0).trans rfl, (xc BK118.out 1).trans rfl, (xc BK118.out 2).trans rfl, ((HB.out.cell (World.block_lt_of_cell? w _ hw120_0)).trans hw120_0), ((HB.out.cell (World.block_lt_of_cell? w _ hw120_1)).trans hw120_1), ((HB.out.cell (World.block_lt_of_cell? w _ hw120_2)).trans hw120_2), ((HB.out.cell (World.block_lt_of_cell? w _ hw123_0)).trans hw123_0), ((HB.out.cell (World.block_lt_of_cell? w _ hw123_1)).trans hw123_1), ((HB.out.cell (World.block_lt_of_cell? w _ hw123_2)).trans hw123_2)⟩ (fun hHeld => ?_); refine with_tabW spec_GoodGroups.tab4 spec_GoodGroups.bits4 (fun HT_ HW_ => ?_)
                 generalize w26.drew = w27 at BK118 HB HR120_0 HR123_0 hx120_0 hx120_1 hx120_2 hx123_0 hx123_1 hx123_2 hHeld ⊢
                 refine pu 0 55 1 ?_
                 refine tx 1 55 3 rfl rfl (take_ofW HT_.out HW_.out (by kernel_rfl)) hHeld (by rintro w' ⟨s0, s1, s2, s3, s4, s5, s6, s7, s8⟩; go_simp; with_reducible rfl) ?_
                 refine one_ (i := 2) (N := some 14) #[Y,Y,Y,Z,Z,Z,Z,Z,Z,Z,Z,Z,Z,Z,Z,Z,Z,Z,Z,Z,Z,Z,Z,Z,Z,Z,Z,Z,Z,Z,Z,Z,Z,Z,Z,Z,Z,Z,Z,Z,Z,Z,Z,Z,Z,Z,Z,Z,Z,Z,Z,Z,Z,Z,Z] rfl rfl (one_of HT_.out (by kernel_rfl)) (by decide) (fun K hK => ?_)
                 refine goes_ Try.func27 (by kernel_rfl) rfl #[.agg #[.slice A117_0 ((rd_T45 l0 x7_1).f0.f0).length c117_0]] (by rfl) rfl rfl mB ?_
                 with_reducible refine (spec_GoodRow.calls k1 _ _ ((rd_T45 l0 x7_1).f0.f0) true _ ?side1 ?side2 A8.out).mono ?_
                 (case side1 => exact cB (Kd.C_below HR117_0.out HB.out))
                 (case side2 => exact HC117_0.out)
                 rintro e w28 ⟨rfl, hb⟩
                 refine ⟨_, rfl, ?_⟩
                 have n0_ := xm (blk_below (kB BK118) hb)
                 have n1_ := xm (below_step bG hb)
                 revert n0_ n1_; clear BK118 HB; intro BK118 HB
                 (try clear hb)
                 (try clear hb2)
                 (try clear hk)
                 (try clear hi)
                 refine hK.out _ _ ⟨(xc BK118.out 0).trans rfl, (xc BK118.out 1).trans rfl, (xc BK118.out 2).trans rfl, ((HB.out.cell (World.block_lt_of_cell? w _ hw120_0)).trans hw120_0), ((HB.out.cell (World.block_lt_of_cell? w _ hw120_1)).trans hw120_1), ((HB.out.cell (World.block_lt_of_cell? w _ hw120_2)).trans hw120_2), ((HB.out.cell (World.block_lt_of_cell? w _ hw123_0)).trans hw123_0), ((HB.out.cell (World.block_lt_of_cell? w _ hw123_1)).trans hw123_1), ((HB.out.cell (World.block_lt_of_cell? w _ hw123_2)).trans hw123_2)⟩ (fun hHeld => nC ?_)
                 clear hK K
                 refine pu 3 55 15 ?_
                 refine pu 4 55 31 ?_
                 refine pu 5 55 63 ?_
                 refine pu 6 55 127 ?_
                 refine pu 9 55 639 ?_
                 refine pu 10 55 1663 ?_
                 refine pu 11 55 3711 ?_
                 refine pu 12 55 7807 ?_
                 refine tx 7 55 7935 rfl rfl (take_ofW HT_.out HW_.out (by kernel_rfl)) hHeld (by rintro w' ⟨s0, s1, s2, s3, s4, s5, s6, s7, s8⟩; go_simp; with_reducible rfl) ?_
                 refine pu 8 55 8191 ?_
                 refine tx 13 55 16383 rfl rfl (take_ofW HT_.out HW_.out (by kernel_rfl)) hHeld (by rintro w' ⟨s0, s1, s2, s3, s4, s5, s6, s7, s8⟩; go_simp; with_reducible rfl) ?_
                 refine pu 14 55 32767 ?_
                 refine pu 15 55 65535 ?_
                 refine pu 16 55 131071 ?_
                 refine pu 17 55 262143 ?_
                 refine pu 18 55 524287 ?_
                 refine tx 19 55 1048575 rfl rfl (take_ofW HT_.out HW_.out (by kernel_rfl)) hHeld (by rintro w' ⟨s0, s1, s2, s3, s4, s5, s6, s7, s8⟩; go_simp; with_reducible rfl) ?_
                 refine one_ (i := 20) (N := some 32) #[Y,Y,Y,Y,Y,Y,Y,Y,Y,Y,Y,Y,Y,Y,Y,Y,Y,Y,Y,Y,Y,Z,Z,Z,Z,Z,Z,Z,Z,Z,Z,Z,Z,Z,Z,Z,Z,Z,Z,Z,Z,Z,Z,Z,Z,Z,Z,Z,Z,Z,Z,Z,Z,Z,Z] rfl rfl (one_of HT_.out (by kernel_rfl)) (by decide) (fun K hK => ?_)
                 refine goes_ Try.func28 (by kernel_rfl) rfl #[.int .i64 ((rd_T45 l0 x7_1).f1)] (by rfl) rfl rfl mB ?_
                 with_reducible refine (spec_l5Sum.calls ((rd_T45 l0 x7_1).f1) true _ A12.out).mono ?_
                 rintro e w' ⟨rfl, ⟨nd, rfl⟩⟩
                 refine ⟨_, rfl, ?_⟩
                 refine hK.out _ _ ⟨(xc BK118.out 0).trans rfl, (xc BK118.out 1).trans rfl, (xc BK118.out 2).trans rfl, ((HB.out.cell (World.block_lt_of_cell? w _ hw120_0)).trans hw120_0), ((HB.out.cell (World.block_lt_of_cell? w _ hw120_1)).trans hw120_1), ((HB.out.cell (World.block_lt_of_cell? w _ hw120_2)).trans hw120_2), ((HB.out.cell (World.block_lt_of_cell? w _ hw123_0)).trans hw123_0), ((HB.out.cell (World.block_lt_of_cell? w _ hw123_1)).trans hw123_1), ((HB.out.cell (World.block_lt_of_cell? w _ hw123_2)).trans hw123_2)⟩ (fun hHeld => nC ?_)
                 clear hK K
                 refine pu 21 55 4194303 ?_
                 refine pu 22 55 8388607 ?_
                 refine pu 23 55 16777215 ?_
                 refine pu 24 55 33554431 ?_
                 refine tx 25 55 67108863 rfl rfl (take_ofW HT_.out HW_.out (by kernel_rfl)) hHeld (by rintro w' ⟨s0, s1, s2, s3, s4, s5, s6, s7, s8⟩; go_simp; with_reducible rfl) ?_
                 refine one_ (i := 26) (N := some 38) #[Y,Y,Y,Y,Y,Y,Y,Y,Y,Y,Y,Y,Y,Y,Y,Y,Y,Y,Y,Y,Y,Y,Y,Y,Y,Y,Y,Z,Z,Z,Z,Z,Z,Z,Z,Z,Z,Z,Z,Z,Z,Z,Z,Z,Z,Z,Z,Z,Z,Z,Z,Z,Z,Z,Z] rfl rfl (one_of HT_.out (by kernel_rfl)) (by decide) (fun K hK => ?_)
                 refine goes_ Try.func28 (by kernel_rfl) rfl #[.int .i64 ((rd_T45 l0 x7_1).f2)] (by rfl) rfl rfl mB ?_
                 with_reducible refine (spec_l5Sum.calls ((rd_T45 l0 x7_1).f2) true _ A14.out).mono ?_
                 rintro e w' ⟨rfl, ⟨nd, rfl⟩⟩
                 refine ⟨_, rfl, ?_⟩
                 refine hK.out _ _ ⟨(xc BK118.out 0).trans rfl, (xc BK118.out 1).trans rfl, (xc BK118.out 2).trans rfl, ((HB.out.cell (World.block_lt_of_cell? w _ hw120_0)).trans hw120_0), ((HB.out.cell (World.block_lt_of_cell? w _ hw120_1)).trans hw120_1), ((HB.out.cell (World.block_lt_of_cell? w _ hw120_2)).trans hw120_2), ((HB.out.cell (World.block_lt_of_cell? w _ hw123_0)).trans hw123_0), ((HB.out.cell (World.block_lt_of_cell? w _ hw123_1)).trans hw123_1), ((HB.out.cell (World.block_lt_of_cell? w _ hw123_2)).trans hw123_2)⟩ (fun hHeld => nC ?_)
                 clear hK K
                 refine pu 27 55 268435455 ?_
                 refine pu 28 55 536870911 ?_
                 refine pu 29 55 1073741823 ?_
                 refine pu 30 55 2147483647 ?_
                 refine tx 31 55 4294967295 rfl rfl (take_ofW HT_.out HW_.out (by kernel_rfl)) hHeld (by rintro w' ⟨s0, s1, s2, s3, s4, s5, s6, s7, s8⟩; go_simp; with_reducible rfl) ?_
                 refine pu 32 55 8589934591 ?_
                 refine pu 33 55 17179869183 ?_
                 refine pu 34 55 34359738367 ?_
                 refine tx 35 55 68719476735 rfl rfl (take_ofW HT_.out HW_.out (by kernel_rfl)) hHeld (by rintro w' ⟨s0, s1, s2, s3, s4, s5, s6, s7, s8⟩; go_simp; with_reducible rfl) ?_
                 refine pu 36 55 137438953471 ?_
                 refine pu 37 55 274877906943 ?_
                 refine pu 38 55 549755813887 ?_
                 refine pu 39 55 1099511627775 ?_
                 refine pu 40 55 2199023255551 ?_
                 refine pu 41 55 4398046511103 ?_
                 refine pu 42 55 8796093022207 ?_
                 refine pu 43 55 17592186044415 ?_
                 refine pu 44 55 35184372088831 ?_
                 refine pu 45 55 70368744177663 ?_
                 refine pu 46 55 140737488355327 ?_
                 refine pu 47 55 281474976710655 ?_
                 refine pu 49 55 844424930131967 ?_
                 refine tx 48 55 1125899906842623 rfl rfl (take_ofW HT_.out HW_.out (by kernel_rfl)) hHeld (by rintro w' ⟨s0, s1, s2, s3, s4, s5, s6, s7, s8⟩; go_simp; with_reducible rfl) ?_
                 refine tx 50 55 2251799813685247 rfl rfl (take_ofW HT_.out HW_.out (by kernel_rfl)) hHeld (by rintro w' ⟨s0, s1, s2, s3, s4, s5, s6, s7, s8⟩; go_simp; with_reducible rfl) ?_
                 refine one_ (i := 51) (N := some 63) #[Y,Y,Y,Y,Y,Y,Y,Y,Y,Y,Y,Y,Y,Y,Y,Y,Y,Y,Y,Y,Y,Y,Y,Y,Y,Y,Y,Y,Y,Y,Y,Y,Y,Y,Y,Y,Y,Y,Y,Y,Y,Y,Y,Y,Y,Y,Y,Y,Y,Y,Y,Y,Z,Z,Z] rfl rfl (one_of HT_.out (by kernel_rfl)) (by decide) (fun K hK => ?_)
                 refine goes_ Try.func29 (by kernel_rfl) rfl #[.agg #[.slice A123_0 ((rd_T45 l0 (ji22)).f0.f0).length c123_0], .agg #[.slice A117_0 ((rd_T45 l0 x7_1).f0.f0).length c117_0]] (by rfl) rfl rfl (by (try simp only [List.map_toArray, List.map_cons, List.map_nil]); first | done | (simp only [hji22]; rfl) | rfl | (simp only [List.length_drop, List.length_take]; rfl)) ?_
                 with_reducible refine (spec_l1Compare.calls k1 _ _ ((rd_T45 l0 (ji22)).f0.f0) _ _ ((rd_T45 l0 x7_1).f0.f0) t124 _ ?side1 ?side2 ?side3 ?side4 A25.out).mono ?_
                 (case side1 => repeat (first | exact (Kd.C_below HR123_0.out bG) | (with_reducible refine Kd.C_alloc ?_ _) | (with_reducible refine Kd.C_drewN ?_ _) | (with_reducible refine Kd.C_drew ?_)))
                 (case side2 => exact HC123_0.out)
                 (case side3 => repeat (first | exact (Kd.C_below HR117_0.out bG) | (with_reducible refine Kd.C_alloc ?_ _) | (with_reducible refine Kd.C_drewN ?_ _) | (with_reducible refine Kd.C_drew ?_)))
                 (case side4 => exact HC117_0.out)
                 rintro e w29 ⟨rfl, hb⟩
                 refine ⟨_, rfl, ?_⟩
                 have n0_ := xm (blk_below (kB BK118) hb)
                 have n1_ := xm (below_step bG hb)
                 revert n0_ n1_; clear BK118 HB; intro BK118 HB
                 (try clear hb)
                 (try clear hb2)
                 (try clear hk)
                 (try clear hi)
                 refine hK.out _ _ ⟨(xc BK118.out 0).trans rfl, (xc BK118.out 1).trans rfl, (xc BK118.out 2).trans rfl, ((HB.out.cell (World.block_lt_of_cell? w _ hw120_0)).trans hw120_0), ((HB.out.cell (World.block_lt_of_cell? w _ hw120_1)).trans hw120_1), ((HB.out.cell (World.block_lt_of_cell? w _ hw120_2)).trans hw120_2), ((HB.out.cell (World.block_lt_of_cell? w _ hw123_0)).trans hw123_0), ((HB.out.cell (World.block_lt_of_cell? w _ hw123_1)).trans hw123_1), ((HB.out.cell (World.block_lt_of_cell? w _ hw123_2)).trans hw123_2)⟩ (fun hHeld => nC ?_)
                 clear hK K
                 refine pu 52 55 9007199254740991 ?_
                 refine pu 53 55 18014398509481983 ?_
                 refine pu 54 55 36028797018963967 ?_
                 refine done_ (done_of HT_.out (by kernel_rfl)) ?_
                 try go_wp2
                 go_meet
                 case rel => exact ⟨_, (decide (t124 ≥ 0)), (by first | rfl | (simp; done) | (simp [*]; done)), H', ⟨by have := HK1.out; first | omega | exact Nat.le_refl _⟩, ⟨by (with_reducible repeat (first | refine xq ?_ _ | refine xr ?_ | refine xo ?_ _)); exact BK118.out⟩, ⟨by repeat (first | (with_reducible first | exact HB.out | apply xa | apply xn | apply xd | refine xt ?_ GE118.out) | exact HB.out)⟩⟩
                ·rw [if_neg c24] at H
                 exact absurd H (by simp)
               ·rw [if_neg c23] at H
                exact absurd H (by simp)
              ·rw [if_neg c21] at H
               have c21b0 : decide (0 < x7_1) = false := decide_eq_false c21
               clear c21
               have H' := xm H
               clear H
               try go_wp2
               have n0_ : Aside0 ((((w6.setCell ⟨gb118, 0, none⟩ (.slice A117_0 ((rd_T45 l0 x7_1).f0.f0).length c117_0)).setCell ⟨gb118, 1, none⟩ (.int .i64 ((rd_T45 l0 x7_1).f1))).setCell ⟨gb118, 2, none⟩ (.int .i64 ((rd_T45 l0 x7_1).f2))).heap[gb118]? = some (.cells #[.slice A117_0 ((rd_T45 l0 x7_1).f0.f0).length c117_0, .int .i64 ((rd_T45 l0 x7_1).f1), .int .i64 ((rd_T45 l0 x7_1).f2)] 45 (0, 0))) := ⟨by (with_reducible repeat (first | refine xq ?_ _ | refine xr ?_ | refine xo ?_ _)); refine blk_put (cs := #[.slice A117_0 ((rd_T45 l0 x7_1).f0.f0).length c117_0, .int .i64 ((rd_T45 l0 x7_1).f1), .int .i64 0]) ?_ 2 _ rfl; (with_reducible repeat (first | refine xq ?_ _ | refine xr ?_ | refine xo ?_ _)); refine blk_put (cs := #[.slice A117_0 ((rd_T45 l0 x7_1).f0.f0).length c117_0, .int .i64 0, .int .i64 0]) ?_ 1 _ rfl; (with_reducible repeat (first | refine xq ?_ _ | refine xr ?_ | refine xo ?_ _)); refine blk_put (cs := #[.slice none 0 0, .int .i64 0, .int .i64 0]) ?_ 0 _ rfl; (with_reducible repeat (first | refine xq ?_ _ | refine xr ?_ | refine xo ?_ _)); exact BK118.out⟩
               have n1_ : Aside0 (Below w.heap.size w (((w6.setCell ⟨gb118, 0, none⟩ (.slice A117_0 ((rd_T45 l0 x7_1).f0.f0).length c117_0)).setCell ⟨gb118, 1, none⟩ (.int .i64 ((rd_T45 l0 x7_1).f1))).setCell ⟨gb118, 2, none⟩ (.int .i64 ((rd_T45 l0 x7_1).f2)))) := ⟨by repeat (first | (with_reducible first | exact HB.out | apply xa | apply xn | apply xd | refine xt ?_ GE118.out) | exact HB.out)⟩
               (try clear BK118)
               (try clear HB)
               generalize (((w6.setCell ⟨gb118, 0, none⟩ (.slice A117_0 ((rd_T45 l0 x7_1).f0.f0).length c117_0)).setCell ⟨gb118, 1, none⟩ (.int .i64 ((rd_T45 l0 x7_1).f1))).setCell ⟨gb118, 2, none⟩ (.int .i64 ((rd_T45 l0 x7_1).f2))) = w30 at n0_ n1_ ⊢
               revert n0_ n1_; intro BK118 HB
               have n0_ := xm (xr BK118.out)
               have n1_ := xm (xd HB.out)
               revert n0_ n1_; clear BK118 HB; intro BK118 HB
               have p120 : 0 ≤ (0 : Int) := (by omega)
               have q120 : 0 < (l0.length : Int) := of_decide_eq_true aB
               obtain ⟨ad120, A120_0, c120_0, e120, hx120_0, hx120_1, hx120_2, hl120_0, hi120_0⟩ := at_T45 HR0.out 0 p120 q120
               have hw120_2 := hx120_2
               (try rw [show ((0 : Int)).toNat = 0 from rfl] at hw120_2)
               (try rw [show 0 * 3 = 0 from rfl] at hw120_2)
               (try rw [Addr.add_zero'] at hw120_2)
               have hw120_1 := hx120_1
               (try rw [show ((0 : Int)).toNat = 0 from rfl] at hw120_1)
               (try rw [show 0 * 3 = 0 from rfl] at hw120_1)
               (try rw [Addr.add_zero'] at hw120_1)
               have hw120_0 := hx120_0
               (try rw [show ((0 : Int)).toNat = 0 from rfl] at hw120_0)
               (try rw [show 0 * 3 = 0 from rfl] at hw120_0)
               (try rw [Addr.add_zero'] at hw120_0)
               obtain rfl : ad117 = ad120 := (by injection e120)
               have qi120 : (0 < l0.length) = True := eq_true (by omega)
               (try rw [show ((0 : Int)).toNat = 0 from rfl] at hx120_0)
               (try rw [show 0 * 3 = 0 from rfl] at hx120_0)
               (try rw [Addr.add_zero'] at hx120_0)
               (try rw [show ((0 : Int)).toNat = 0 from rfl] at hx120_1)
               (try rw [show 0 * 3 = 0 from rfl] at hx120_1)
               (try rw [Addr.add_zero'] at hx120_1)
               (try rw [show ((0 : Int)).toNat = 0 from rfl] at hx120_2)
               (try rw [show 0 * 3 = 0 from rfl] at hx120_2)
               (try rw [Addr.add_zero'] at hx120_2)
               replace hx120_0 := (HB.out.cell (World.block_lt_of_cell? w _ hx120_0)).trans hx120_0
               replace hx120_1 := (HB.out.cell (World.block_lt_of_cell? w _ hx120_1)).trans hx120_1
               replace hx120_2 := (HB.out.cell (World.block_lt_of_cell? w _ hx120_2)).trans hx120_2
               have HR120_0 := xm hi120_0
               have HC120_0 := xm hl120_0
               clear hi120_0 hl120_0
               replace p120 := eq_true p120
               replace q120 := eq_true q120
               refine start_ (n := 55) (S := fun w' => w'.cell? ⟨gb118, 0, none⟩ = some (.slice A117_0 ((rd_T45 l0 x7_1).f0.f0).length c117_0) ∧ w'.cell? ⟨gb118, 1, none⟩ = some (.int .i64 ((rd_T45 l0 x7_1).f1)) ∧ w'.cell? ⟨gb118, 2, none⟩ = some (.int .i64 ((rd_T45 l0 x7_1).f2)) ∧ w'.cell? ad117 = some (.slice A120_0 ((rd_T45 l0 0).f0.f0).length c120_0) ∧ w'.cell? ⟨ad117.block, ad117.off + 1, none⟩ = some (.int .i64 ((rd_T45 l0 0).f1)) ∧ w'.cell? ⟨ad117.block, ad117.off + 2, none⟩ = some (.int .i64 ((rd_T45 l0 0).f2))) (ds := []) #[Z,Z,Z,Z,Z,Z,Z,Z,Z,Z,Z,Z,Z,Z,Z,Z,Z,Z,Z,Z,Z,Z,Z,Z,Z,Z,Z,Z,Z,Z,Z,Z,Z,Z,Z,Z,Z,Z,Z,Z,Z,Z,Z,Z,Z,Z,Z,Z,Z,Z,Z,Z,Z,Z,Z] (by kernel_rfl) rfl rfl ⟨(xc BK118.out 0).trans rfl, (xc BK118.out 1).trans rfl, (xc BK118.out 2).trans rfl, ((HB.out.cell (World.block_lt_of_cell? w _ hw120_0)).trans hw120_0), ((HB.out.cell (World.block_lt_of_cell? w _ hw120_1)).trans hw120_1), ((HB.out.cell (World.block_lt_of_cell? w _ hw120_2)).trans hw120_2)⟩ (fun hHeld => ?_); refine with_tabW spec_GoodGroups.tab4 spec_GoodGroups.bits4 (fun HT_ HW_ => ?_)
               generalize w30.drew = w31 at BK118 HB HR120_0 hx120_0 hx120_1 hx120_2 hHeld ⊢
               refine pu 0 55 1 ?_
               refine tx 1 55 3 rfl rfl (take_ofW HT_.out HW_.out (by kernel_rfl)) hHeld (by rintro w' ⟨s0, s1, s2, s3, s4, s5⟩; go_simp; with_reducible rfl) ?_
               refine one_ (i := 2) (N := some 14) #[Y,Y,Y,Z,Z,Z,Z,Z,Z,Z,Z,Z,Z,Z,Z,Z,Z,Z,Z,Z,Z,Z,Z,Z,Z,Z,Z,Z,Z,Z,Z,Z,Z,Z,Z,Z,Z,Z,Z,Z,Z,Z,Z,Z,Z,Z,Z,Z,Z,Z,Z,Z,Z,Z,Z] rfl rfl (one_of HT_.out (by kernel_rfl)) (by decide) (fun K hK => ?_)
               refine goes_ Try.func27 (by kernel_rfl) rfl #[.agg #[.slice A117_0 ((rd_T45 l0 x7_1).f0.f0).length c117_0]] (by rfl) rfl rfl mB ?_
               with_reducible refine (spec_GoodRow.calls k1 _ _ ((rd_T45 l0 x7_1).f0.f0) true _ ?side1 ?side2 A8.out).mono ?_
               (case side1 => exact cB (Kd.C_below HR117_0.out HB.out))
               (case side2 => exact HC117_0.out)
               rintro e w32 ⟨rfl, hb⟩
               refine ⟨_, rfl, ?_⟩
               have n0_ := xm (blk_below (kB BK118) hb)
               have n1_ := xm (below_step bG hb)
               revert n0_ n1_; clear BK118 HB; intro BK118 HB
               (try clear hb)
               (try clear hb2)
               (try clear hk)
               (try clear hi)
               refine hK.out _ _ ⟨(xc BK118.out 0).trans rfl, (xc BK118.out 1).trans rfl, (xc BK118.out 2).trans rfl, ((HB.out.cell (World.block_lt_of_cell? w _ hw120_0)).trans hw120_0), ((HB.out.cell (World.block_lt_of_cell? w _ hw120_1)).trans hw120_1), ((HB.out.cell (World.block_lt_of_cell? w _ hw120_2)).trans hw120_2)⟩ (fun hHeld => nC ?_)
               clear hK K
               refine pu 3 55 15 ?_
               refine pu 4 55 31 ?_
               refine pu 5 55 63 ?_
               refine pu 6 55 127 ?_
               refine pu 9 55 639 ?_
               refine pu 10 55 1663 ?_
               refine pu 11 55 3711 ?_
               refine pu 12 55 7807 ?_
               refine tx 7 55 7935 rfl rfl (take_ofW HT_.out HW_.out (by kernel_rfl)) hHeld (by rintro w' ⟨s0, s1, s2, s3, s4, s5⟩; go_simp; with_reducible rfl) ?_
               refine pu 8 55 8191 ?_
               refine tx 13 55 16383 rfl rfl (take_ofW HT_.out HW_.out (by kernel_rfl)) hHeld (by rintro w' ⟨s0, s1, s2, s3, s4, s5⟩; go_simp; with_reducible rfl) ?_
               refine pu 14 55 32767 ?_
               refine pu 15 55 65535 ?_
               refine pu 16 55 131071 ?_
               refine pu 17 55 262143 ?_
               refine pu 18 55 524287 ?_
               refine tx 19 55 1048575 rfl rfl (take_ofW HT_.out HW_.out (by kernel_rfl)) hHeld (by rintro w' ⟨s0, s1, s2, s3, s4, s5⟩; go_simp; with_reducible rfl) ?_
               refine one_ (i := 20) (N := some 32) #[Y,Y,Y,Y,Y,Y,Y,Y,Y,Y,Y,Y,Y,Y,Y,Y,Y,Y,Y,Y,Y,Z,Z,Z,Z,Z,Z,Z,Z,Z,Z,Z,Z,Z,Z,Z,Z,Z,Z,Z,Z,Z,Z,Z,Z,Z,Z,Z,Z,Z,Z,Z,Z,Z,Z] rfl rfl (one_of HT_.out (by kernel_rfl)) (by decide) (fun K hK => ?_)
               refine goes_ Try.func28 (by kernel_rfl) rfl #[.int .i64 ((rd_T45 l0 x7_1).f1)] (by rfl) rfl rfl mB ?_
               with_reducible refine (spec_l5Sum.calls ((rd_T45 l0 x7_1).f1) true _ A12.out).mono ?_
               rintro e w' ⟨rfl, ⟨nd, rfl⟩⟩
               refine ⟨_, rfl, ?_⟩
               refine hK.out _ _ ⟨(xc BK118.out 0).trans rfl, (xc BK118.out 1).trans rfl, (xc BK118.out 2).trans rfl, ((HB.out.cell (World.block_lt_of_cell? w _ hw120_0)).trans hw120_0), ((HB.out.cell (World.block_lt_of_cell? w _ hw120_1)).trans hw120_1), ((HB.out.cell (World.block_lt_of_cell? w _ hw120_2)).trans hw120_2)⟩ (fun hHeld => nC ?_)
               clear hK K
               refine pu 21 55 4194303 ?_
               refine pu 22 55 8388607 ?_
               refine pu 23 55 16777215 ?_
               refine pu 24 55 33554431 ?_
               refine tx 25 55 67108863 rfl rfl (take_ofW HT_.out HW_.out (by kernel_rfl)) hHeld (by rintro w' ⟨s0, s1, s2, s3, s4, s5⟩; go_simp; with_reducible rfl) ?_
               refine one_ (i := 26) (N := some 38) #[Y,Y,Y,Y,Y,Y,Y,Y,Y,Y,Y,Y,Y,Y,Y,Y,Y,Y,Y,Y,Y,Y,Y,Y,Y,Y,Y,Z,Z,Z,Z,Z,Z,Z,Z,Z,Z,Z,Z,Z,Z,Z,Z,Z,Z,Z,Z,Z,Z,Z,Z,Z,Z,Z,Z] rfl rfl (one_of HT_.out (by kernel_rfl)) (by decide) (fun K hK => ?_)
               refine goes_ Try.func28 (by kernel_rfl) rfl #[.int .i64 ((rd_T45 l0 x7_1).f2)] (by rfl) rfl rfl mB ?_
               with_reducible refine (spec_l5Sum.calls ((rd_T45 l0 x7_1).f2) true _ A14.out).mono ?_
               rintro e w' ⟨rfl, ⟨nd, rfl⟩⟩
               refine ⟨_, rfl, ?_⟩
               refine hK.out _ _ ⟨(xc BK118.out 0).trans rfl, (xc BK118.out 1).trans rfl, (xc BK118.out 2).trans rfl, ((HB.out.cell (World.block_lt_of_cell? w _ hw120_0)).trans hw120_0), ((HB.out.cell (World.block_lt_of_cell? w _ hw120_1)).trans hw120_1), ((HB.out.cell (World.block_lt_of_cell? w _ hw120_2)).trans hw120_2)⟩ (fun hHeld => nC ?_)
               clear hK K
               refine pu 27 55 268435455 ?_
               refine pu 28 55 536870911 ?_
               refine pu 29 55 1073741823 ?_
               refine pu 30 55 2147483647 ?_
               refine tx 31 55 4294967295 rfl rfl (take_ofW HT_.out HW_.out (by kernel_rfl)) hHeld (by rintro w' ⟨s0, s1, s2, s3, s4, s5⟩; go_simp; with_reducible rfl) ?_
               refine pu 32 55 8589934591 ?_
               refine pu 33 55 17179869183 ?_
               refine pu 34 55 34359738367 ?_
               refine tx 35 55 68719476735 rfl rfl (take_ofW HT_.out HW_.out (by kernel_rfl)) hHeld (by rintro w' ⟨s0, s1, s2, s3, s4, s5⟩; go_simp; with_reducible rfl) ?_
               refine pu 36 55 137438953471 ?_
               refine pu 37 55 274877906943 ?_
               refine pu 38 55 549755813887 ?_
               refine pu 39 55 1099511627775 ?_
               refine pu 40 55 2199023255551 ?_
               refine pu 41 55 4398046511103 ?_
               refine pu 42 55 8796093022207 ?_
               refine ou 43 55 17592186044415 ?_
               refine ou 44 55 35184372088831 ?_
               refine ou 45 55 70368744177663 ?_
               refine ou 46 55 140737488355327 ?_
               refine ou 47 55 281474976710655 ?_
               refine ou 48 55 562949953421311 ?_
               refine ou 49 55 1125899906842623 ?_
               refine ou 50 55 2251799813685247 ?_
               refine ou 51 55 4503599627370495 ?_
               refine ou 52 55 9007199254740991 ?_
               refine pu 53 55 18014398509481983 ?_
               refine pu 54 55 36028797018963967 ?_
               refine done_ (done_of HT_.out (by kernel_rfl)) ?_
               try go_wp2
               go_meet
               case rel => exact ⟨_, (false), (by first | rfl | (simp; done) | (simp [*]; done)), H', ⟨by have := HK1.out; first | omega | exact Nat.le_refl _⟩, ⟨by (with_reducible repeat (first | refine xq ?_ _ | refine xr ?_ | refine xo ?_ _)); exact BK118.out⟩, ⟨by repeat (first | (with_reducible first | exact HB.out | apply xa | apply xn | apply xd | refine xt ?_ GE118.out) | exact HB.out)⟩⟩
            ·rw [if_neg c16] at H
             have c16b0 : (((rd_T45 l0 x7_1).f1) == 0) = false := beq_eq_false_iff_ne.mpr c16
             have c16b1 : (((rd_T45 l0 x7_1).f1) != 0) = true := bne_iff_ne.mpr c16
             by_cases c33 : x7_1 > 0
             ·rw [if_pos c33] at H
              have c33b0 : decide (0 < x7_1) = true := decide_eq_true c33
              clear c33
              obtain ⟨ji34, hji34⟩ : ∃ j_ : Int, (wrap64 (x7_1 - 1)) = j_ := ⟨_, rfl⟩
              replace H : (if 0 ≤ (ji34) then (if (ji34) < (l0.length : Int) then ((spec_l1Compare.f k1 ((rd_T45 l0 (ji34)).f0.f0) ((rd_T45 l0 x7_1).f0.f0)).bind fun t126 => (spec_GoodGroups.j1 k1 l0 l0 (l0.length : Int) x7_1 (decide (t126 ≥ 0)))) else (none)) else (none)) = some r := by first | (rw [hji34] at H; exact H) | (simp only [hji34] at H ⊢; exact H)
              (try rw [hji34] at A8)
              (try rw [hji34] at A12)
              (try rw [hji34] at A14)
              have hji34w : (IntKind.i64.wrap (x7_1 - 1)) = ji34 := (i64_w _).trans hji34
              by_cases c35 : 0 ≤ (ji34)
              ·rw [if_pos c35] at H
               have c35b0 : decide (0 ≤ (ji34)) = true := decide_eq_true c35
               clear c35
               by_cases c36 : (ji34) < (l0.length : Int)
               ·rw [if_pos c36] at H
                have c36b0 : decide ((ji34) < (l0.length : Int)) = true := decide_eq_true c36
                clear c36
                replace H := Option.bind_eq_some_iff.mp H
                obtain ⟨t126, A370, H⟩ := H
                replace H : (spec_GoodGroups.j1 k1 l0 l0 (l0.length : Int) x7_1 (decide (t126 ≥ 0))) = some r := H
                have A37 := xm A370
                clear A370
                have H' := xm H
                clear H
                try go_wp2
                have n0_ : Aside0 ((((w6.setCell ⟨gb118, 0, none⟩ (.slice A117_0 ((rd_T45 l0 x7_1).f0.f0).length c117_0)).setCell ⟨gb118, 1, none⟩ (.int .i64 ((rd_T45 l0 x7_1).f1))).setCell ⟨gb118, 2, none⟩ (.int .i64 ((rd_T45 l0 x7_1).f2))).heap[gb118]? = some (.cells #[.slice A117_0 ((rd_T45 l0 x7_1).f0.f0).length c117_0, .int .i64 ((rd_T45 l0 x7_1).f1), .int .i64 ((rd_T45 l0 x7_1).f2)] 45 (0, 0))) := ⟨by (with_reducible repeat (first | refine xq ?_ _ | refine xr ?_ | refine xo ?_ _)); refine blk_put (cs := #[.slice A117_0 ((rd_T45 l0 x7_1).f0.f0).length c117_0, .int .i64 ((rd_T45 l0 x7_1).f1), .int .i64 0]) ?_ 2 _ rfl; (with_reducible repeat (first | refine xq ?_ _ | refine xr ?_ | refine xo ?_ _)); refine blk_put (cs := #[.slice A117_0 ((rd_T45 l0 x7_1).f0.f0).length c117_0, .int .i64 0, .int .i64 0]) ?_ 1 _ rfl; (with_reducible repeat (first | refine xq ?_ _ | refine xr ?_ | refine xo ?_ _)); refine blk_put (cs := #[.slice none 0 0, .int .i64 0, .int .i64 0]) ?_ 0 _ rfl; (with_reducible repeat (first | refine xq ?_ _ | refine xr ?_ | refine xo ?_ _)); exact BK118.out⟩
                have n1_ : Aside0 (Below w.heap.size w (((w6.setCell ⟨gb118, 0, none⟩ (.slice A117_0 ((rd_T45 l0 x7_1).f0.f0).length c117_0)).setCell ⟨gb118, 1, none⟩ (.int .i64 ((rd_T45 l0 x7_1).f1))).setCell ⟨gb118, 2, none⟩ (.int .i64 ((rd_T45 l0 x7_1).f2)))) := ⟨by repeat (first | (with_reducible first | exact HB.out | apply xa | apply xn | apply xd | refine xt ?_ GE118.out) | exact HB.out)⟩
                (try clear BK118)
                (try clear HB)
                generalize (((w6.setCell ⟨gb118, 0, none⟩ (.slice A117_0 ((rd_T45 l0 x7_1).f0.f0).length c117_0)).setCell ⟨gb118, 1, none⟩ (.int .i64 ((rd_T45 l0 x7_1).f1))).setCell ⟨gb118, 2, none⟩ (.int .i64 ((rd_T45 l0 x7_1).f2))) = w38 at n0_ n1_ ⊢
                revert n0_ n1_; intro BK118 HB
                have n0_ := xm (xr BK118.out)
                have n1_ := xm (xd HB.out)
                revert n0_ n1_; clear BK118 HB; intro BK118 HB
                have p120 : 0 ≤ (0 : Int) := (by omega)
                have q120 : 0 < (l0.length : Int) := of_decide_eq_true aB
                obtain ⟨ad120, A120_0, c120_0, e120, hx120_0, hx120_1, hx120_2, hl120_0, hi120_0⟩ := at_T45 HR0.out 0 p120 q120
                have hw120_2 := hx120_2
                (try rw [show ((0 : Int)).toNat = 0 from rfl] at hw120_2)
                (try rw [show 0 * 3 = 0 from rfl] at hw120_2)
                (try rw [Addr.add_zero'] at hw120_2)
                have hw120_1 := hx120_1
                (try rw [show ((0 : Int)).toNat = 0 from rfl] at hw120_1)
                (try rw [show 0 * 3 = 0 from rfl] at hw120_1)
                (try rw [Addr.add_zero'] at hw120_1)
                have hw120_0 := hx120_0
                (try rw [show ((0 : Int)).toNat = 0 from rfl] at hw120_0)
                (try rw [show 0 * 3 = 0 from rfl] at hw120_0)
                (try rw [Addr.add_zero'] at hw120_0)
                obtain rfl : ad117 = ad120 := (by injection e120)
                have qi120 : (0 < l0.length) = True := eq_true (by omega)
                (try rw [show ((0 : Int)).toNat = 0 from rfl] at hx120_0)
                (try rw [show 0 * 3 = 0 from rfl] at hx120_0)
                (try rw [Addr.add_zero'] at hx120_0)
                (try rw [show ((0 : Int)).toNat = 0 from rfl] at hx120_1)
                (try rw [show 0 * 3 = 0 from rfl] at hx120_1)
                (try rw [Addr.add_zero'] at hx120_1)
                (try rw [show ((0 : Int)).toNat = 0 from rfl] at hx120_2)
                (try rw [show 0 * 3 = 0 from rfl] at hx120_2)
                (try rw [Addr.add_zero'] at hx120_2)
                replace hx120_0 := (HB.out.cell (World.block_lt_of_cell? w _ hx120_0)).trans hx120_0
                replace hx120_1 := (HB.out.cell (World.block_lt_of_cell? w _ hx120_1)).trans hx120_1
                replace hx120_2 := (HB.out.cell (World.block_lt_of_cell? w _ hx120_2)).trans hx120_2
                have HR120_0 := xm hi120_0
                have HC120_0 := xm hl120_0
                clear hi120_0 hl120_0
                replace p120 := eq_true p120
                replace q120 := eq_true q120
                have p125 : 0 ≤ ((ji34) : Int) := of_decide_eq_true aB
                have q125 : (ji34) < (l0.length : Int) := of_decide_eq_true aB
                obtain ⟨ad125, A125_0, c125_0, e125, hx125_0, hx125_1, hx125_2, hl125_0, hi125_0⟩ := at_T45 HR0.out (ji34) p125 q125
                have hw125_2 := hx125_2
                have hw125_1 := hx125_1
                have hw125_0 := hx125_0
                obtain rfl : ad117 = ad125 := (by injection e125)
                replace hx125_0 := (HB.out.cell (World.block_lt_of_cell? w _ hx125_0)).trans hx125_0
                replace hx125_1 := (HB.out.cell (World.block_lt_of_cell? w _ hx125_1)).trans hx125_1
                replace hx125_2 := (HB.out.cell (World.block_lt_of_cell? w _ hx125_2)).trans hx125_2
                have HR125_0 := xm hi125_0
                have HC125_0 := xm hl125_0
                clear hi125_0 hl125_0
                replace p125 := eq_true p125
                replace q125 := eq_true q125
                refine start_ (n := 55) (S := fun w' => w'.cell? ⟨gb118, 0, none⟩ = some (.slice A117_0 ((rd_T45 l0 x7_1).f0.f0).length c117_0) ∧ w'.cell? ⟨gb118, 1, none⟩ = some (.int .i64 ((rd_T45 l0 x7_1).f1)) ∧ w'.cell? ⟨gb118, 2, none⟩ = some (.int .i64 ((rd_T45 l0 x7_1).f2)) ∧ w'.cell? ad117 = some (.slice A120_0 ((rd_T45 l0 0).f0.f0).length c120_0) ∧ w'.cell? ⟨ad117.block, ad117.off + 1, none⟩ = some (.int .i64 ((rd_T45 l0 0).f1)) ∧ w'.cell? ⟨ad117.block, ad117.off + 2, none⟩ = some (.int .i64 ((rd_T45 l0 0).f2)) ∧ w'.cell? (ad117.add (((ji34)).toNat * 3)) = some (.slice A125_0 ((rd_T45 l0 (ji34)).f0.f0).length c125_0) ∧ w'.cell? ⟨(ad117.add (((ji34)).toNat * 3)).block, (ad117.add (((ji34)).toNat * 3)).off + 1, none⟩ = some (.int .i64 ((rd_T45 l0 (ji34)).f1)) ∧ w'.cell? ⟨(ad117.add (((ji34)).toNat * 3)).block, (ad117.add (((ji34)).toNat * 3)).off + 2, none⟩ = some (.int .i64 ((rd_T45 l0 (ji34)).f2))) (ds := []) #[Z,Z,Z,Z,Z,Z,Z,Z,Z,Z,Z,Z,Z,Z,Z,Z,Z,Z,Z,Z,Z,Z,Z,Z,Z,Z,Z,Z,Z,Z,Z,Z,Z,Z,Z,Z,Z,Z,Z,Z,Z,Z,Z,Z,Z,Z,Z,Z,Z,Z,Z,Z,Z,Z,Z] (by kernel_rfl) rfl rfl ⟨(xc BK118.out 0).trans rfl, (xc BK118.out 1).trans rfl, (xc BK118.out 2).trans rfl, ((HB.out.cell (World.block_lt_of_cell? w _ hw120_0)).trans hw120_0), ((HB.out.cell (World.block_lt_of_cell? w _ hw120_1)).trans hw120_1), ((HB.out.cell (World.block_lt_of_cell? w _ hw120_2)).trans hw120_2), ((HB.out.cell (World.block_lt_of_cell? w _ hw125_0)).trans hw125_0), ((HB.out.cell (World.block_lt_of_cell? w _ hw125_1)).trans hw125_1), ((HB.out.cell (World.block_lt_of_cell? w _ hw125_2)).trans hw125_2)⟩ (fun hHeld => ?_); refine with_tabW spec_GoodGroups.tab4 spec_GoodGroups.bits4 (fun HT_ HW_ => ?_)
                generalize w38.drew = w39 at BK118 HB HR120_0 HR125_0 hx120_0 hx120_1 hx120_2 hx125_0 hx125_1 hx125_2 hHeld ⊢
                refine pu 0 55 1 ?_
                refine tx 1 55 3 rfl rfl (take_ofW HT_.out HW_.out (by kernel_rfl)) hHeld (by rintro w' ⟨s0, s1, s2, s3, s4, s5, s6, s7, s8⟩; go_simp; with_reducible rfl) ?_
                refine one_ (i := 2) (N := some 14) #[Y,Y,Y,Z,Z,Z,Z,Z,Z,Z,Z,Z,Z,Z,Z,Z,Z,Z,Z,Z,Z,Z,Z,Z,Z,Z,Z,Z,Z,Z,Z,Z,Z,Z,Z,Z,Z,Z,Z,Z,Z,Z,Z,Z,Z,Z,Z,Z,Z,Z,Z,Z,Z,Z,Z] rfl rfl (one_of HT_.out (by kernel_rfl)) (by decide) (fun K hK => ?_)
                refine goes_ Try.func27 (by kernel_rfl) rfl #[.agg #[.slice A117_0 ((rd_T45 l0 x7_1).f0.f0).length c117_0]] (by rfl) rfl rfl mB ?_
                with_reducible refine (spec_GoodRow.calls k1 _ _ ((rd_T45 l0 x7_1).f0.f0) true _ ?side1 ?side2 A8.out).mono ?_
                (case side1 => exact cB (Kd.C_below HR117_0.out HB.out))
                (case side2 => exact HC117_0.out)
                rintro e w40 ⟨rfl, hb⟩
                refine ⟨_, rfl, ?_⟩
                have n0_ := xm (blk_below (kB BK118) hb)
                have n1_ := xm (below_step bG hb)
                revert n0_ n1_; clear BK118 HB; intro BK118 HB
                (try clear hb)
                (try clear hb2)
                (try clear hk)
                (try clear hi)
                refine hK.out _ _ ⟨(xc BK118.out 0).trans rfl, (xc BK118.out 1).trans rfl, (xc BK118.out 2).trans rfl, ((HB.out.cell (World.block_lt_of_cell? w _ hw120_0)).trans hw120_0), ((HB.out.cell (World.block_lt_of_cell? w _ hw120_1)).trans hw120_1), ((HB.out.cell (World.block_lt_of_cell? w _ hw120_2)).trans hw120_2), ((HB.out.cell (World.block_lt_of_cell? w _ hw125_0)).trans hw125_0), ((HB.out.cell (World.block_lt_of_cell? w _ hw125_1)).trans hw125_1), ((HB.out.cell (World.block_lt_of_cell? w _ hw125_2)).trans hw125_2)⟩ (fun hHeld => nC ?_)
                clear hK K
                refine pu 3 55 15 ?_
                refine pu 4 55 31 ?_
                refine pu 5 55 63 ?_
                refine pu 6 55 127 ?_
                refine pu 9 55 639 ?_
                refine pu 10 55 1663 ?_
                refine pu 11 55 3711 ?_
                refine pu 12 55 7807 ?_
                refine tx 7 55 7935 rfl rfl (take_ofW HT_.out HW_.out (by kernel_rfl)) hHeld (by rintro w' ⟨s0, s1, s2, s3, s4, s5, s6, s7, s8⟩; go_simp; with_reducible rfl) ?_
                refine pu 8 55 8191 ?_
                refine tx 13 55 16383 rfl rfl (take_ofW HT_.out HW_.out (by kernel_rfl)) hHeld (by rintro w' ⟨s0, s1, s2, s3, s4, s5, s6, s7, s8⟩; go_simp; with_reducible rfl) ?_
                refine pu 14 55 32767 ?_
                refine pu 15 55 65535 ?_
                refine pu 16 55 131071 ?_
                refine pu 17 55 262143 ?_
                refine pu 18 55 524287 ?_
                refine tx 19 55 1048575 rfl rfl (take_ofW HT_.out HW_.out (by kernel_rfl)) hHeld (by rintro w' ⟨s0, s1, s2, s3, s4, s5, s6, s7, s8⟩; go_simp; with_reducible rfl) ?_
                refine one_ (i := 20) (N := some 32) #[Y,Y,Y,Y,Y,Y,Y,Y,Y,Y,Y,Y,Y,Y,Y,Y,Y,Y,Y,Y,Y,Z,Z,Z,Z,Z,Z,Z,Z,Z,Z,Z,Z,Z,Z,Z,Z,Z,Z,Z,Z,Z,Z,Z,Z,Z,Z,Z,Z,Z,Z,Z,Z,Z,Z] rfl rfl (one_of HT_.out (by kernel_rfl)) (by decide) (fun K hK => ?_)
                refine goes_ Try.func28 (by kernel_rfl) rfl #[.int .i64 ((rd_T45 l0 x7_1).f1)] (by rfl) rfl rfl mB ?_
                with_reducible refine (spec_l5Sum.calls ((rd_T45 l0 x7_1).f1) true _ A12.out).mono ?_
                rintro e w' ⟨rfl, ⟨nd, rfl⟩⟩
                refine ⟨_, rfl, ?_⟩
                refine hK.out _ _ ⟨(xc BK118.out 0).trans rfl, (xc BK118.out 1).trans rfl, (xc BK118.out 2).trans rfl, ((HB.out.cell (World.block_lt_of_cell? w _ hw120_0)).trans hw120_0), ((HB.out.cell (World.block_lt_of_cell? w _ hw120_1)).trans hw120_1), ((HB.out.cell (World.block_lt_of_cell? w _ hw120_2)).trans hw120_2), ((HB.out.cell (World.block_lt_of_cell? w _ hw125_0)).trans hw125_0), ((HB.out.cell (World.block_lt_of_cell? w _ hw125_1)).trans hw125_1), ((HB.out.cell (World.block_lt_of_cell? w _ hw125_2)).trans hw125_2)⟩ (fun hHeld => nC ?_)
                clear hK K
                refine pu 21 55 4194303 ?_
                refine pu 22 55 8388607 ?_
                refine pu 23 55 16777215 ?_
                refine pu 24 55 33554431 ?_
                refine tx 25 55 67108863 rfl rfl (take_ofW HT_.out HW_.out (by kernel_rfl)) hHeld (by rintro w' ⟨s0, s1, s2, s3, s4, s5, s6, s7, s8⟩; go_simp; with_reducible rfl) ?_
                refine one_ (i := 26) (N := some 38) #[Y,Y,Y,Y,Y,Y,Y,Y,Y,Y,Y,Y,Y,Y,Y,Y,Y,Y,Y,Y,Y,Y,Y,Y,Y,Y,Y,Z,Z,Z,Z,Z,Z,Z,Z,Z,Z,Z,Z,Z,Z,Z,Z,Z,Z,Z,Z,Z,Z,Z,Z,Z,Z,Z,Z] rfl rfl (one_of HT_.out (by kernel_rfl)) (by decide) (fun K hK => ?_)
                refine goes_ Try.func28 (by kernel_rfl) rfl #[.int .i64 ((rd_T45 l0 x7_1).f2)] (by rfl) rfl rfl mB ?_
                with_reducible refine (spec_l5Sum.calls ((rd_T45 l0 x7_1).f2) true _ A14.out).mono ?_
                rintro e w' ⟨rfl, ⟨nd, rfl⟩⟩
                refine ⟨_, rfl, ?_⟩
                refine hK.out _ _ ⟨(xc BK118.out 0).trans rfl, (xc BK118.out 1).trans rfl, (xc BK118.out 2).trans rfl, ((HB.out.cell (World.block_lt_of_cell? w _ hw120_0)).trans hw120_0), ((HB.out.cell (World.block_lt_of_cell? w _ hw120_1)).trans hw120_1), ((HB.out.cell (World.block_lt_of_cell? w _ hw120_2)).trans hw120_2), ((HB.out.cell (World.block_lt_of_cell? w _ hw125_0)).trans hw125_0), ((HB.out.cell (World.block_lt_of_cell? w _ hw125_1)).trans hw125_1), ((HB.out.cell (World.block_lt_of_cell? w _ hw125_2)).trans hw125_2)⟩ (fun hHeld => nC ?_)
                clear hK K
                refine pu 27 55 268435455 ?_
                refine pu 28 55 536870911 ?_
                refine pu 29 55 1073741823 ?_
                refine pu 30 55 2147483647 ?_
                refine tx 31 55 4294967295 rfl rfl (take_ofW HT_.out HW_.out (by kernel_rfl)) hHeld (by rintro w' ⟨s0, s1, s2, s3, s4, s5, s6, s7, s8⟩; go_simp; with_reducible rfl) ?_
                refine pu 32 55 8589934591 ?_
                refine pu 33 55 17179869183 ?_
                refine ou 34 55 34359738367 ?_
                refine ou 35 55 68719476735 ?_
                refine ou 36 55 137438953471 ?_
                refine pu 37 55 274877906943 ?_
                refine pu 38 55 549755813887 ?_
                refine pu 39 55 1099511627775 ?_
                refine pu 40 55 2199023255551 ?_
                refine pu 41 55 4398046511103 ?_
                refine pu 42 55 8796093022207 ?_
                refine pu 43 55 17592186044415 ?_
                refine pu 44 55 35184372088831 ?_
                refine pu 45 55 70368744177663 ?_
                refine pu 46 55 140737488355327 ?_
                refine pu 47 55 281474976710655 ?_
                refine pu 49 55 844424930131967 ?_
                refine tx 48 55 1125899906842623 rfl rfl (take_ofW HT_.out HW_.out (by kernel_rfl)) hHeld (by rintro w' ⟨s0, s1, s2, s3, s4, s5, s6, s7, s8⟩; go_simp; with_reducible rfl) ?_
                refine tx 50 55 2251799813685247 rfl rfl (take_ofW HT_.out HW_.out (by kernel_rfl)) hHeld (by rintro w' ⟨s0, s1, s2, s3, s4, s5, s6, s7, s8⟩; go_simp; with_reducible rfl) ?_
                refine one_ (i := 51) (N := some 63) #[Y,Y,Y,Y,Y,Y,Y,Y,Y,Y,Y,Y,Y,Y,Y,Y,Y,Y,Y,Y,Y,Y,Y,Y,Y,Y,Y,Y,Y,Y,Y,Y,Y,Y,Y,Y,Y,Y,Y,Y,Y,Y,Y,Y,Y,Y,Y,Y,Y,Y,Y,Y,Z,Z,Z] rfl rfl (one_of HT_.out (by kernel_rfl)) (by decide) (fun K hK => ?_)
                refine goes_ Try.func29 (by kernel_rfl) rfl #[.agg #[.slice A125_0 ((rd_T45 l0 (ji34)).f0.f0).length c125_0], .agg #[.slice A117_0 ((rd_T45 l0 x7_1).f0.f0).length c117_0]] (by rfl) rfl rfl (by (try simp only [List.map_toArray, List.map_cons, List.map_nil]); first | done | (simp only [hji34]; rfl) | rfl | (simp only [List.length_drop, List.length_take]; rfl)) ?_
                with_reducible refine (spec_l1Compare.calls k1 _ _ ((rd_T45 l0 (ji34)).f0.f0) _ _ ((rd_T45 l0 x7_1).f0.f0) t126 _ ?side1 ?side2 ?side3 ?side4 A37.out).mono ?_
                (case side1 => repeat (first | exact (Kd.C_below HR125_0.out bG) | (with_reducible refine Kd.C_alloc ?_ _) | (with_reducible refine Kd.C_drewN ?_ _) | (with_reducible refine Kd.C_drew ?_)))
                (case side2 => exact HC125_0.out)
                (case side3 => repeat (first | exact (Kd.C_below HR117_0.out bG) | (with_reducible refine Kd.C_alloc ?_ _) | (with_reducible refine Kd.C_drewN ?_ _) | (with_reducible refine Kd.C_drew ?_)))
                (case side4 => exact HC117_0.out)
                rintro e w41 ⟨rfl, hb⟩
                refine ⟨_, rfl, ?_⟩
                have n0_ := xm (blk_below (kB BK118) hb)
                have n1_ := xm (below_step bG hb)
                revert n0_ n1_; clear BK118 HB; intro BK118 HB
                (try clear hb)
                (try clear hb2)
                (try clear hk)
                (try clear hi)
                refine hK.out _ _ ⟨(xc BK118.out 0).trans rfl, (xc BK118.out 1).trans rfl, (xc BK118.out 2).trans rfl, ((HB.out.cell (World.block_lt_of_cell? w _ hw120_0)).trans hw120_0), ((HB.out.cell (World.block_lt_of_cell? w _ hw120_1)).trans hw120_1), ((HB.out.cell (World.block_lt_of_cell? w _ hw120_2)).trans hw120_2), ((HB.out.cell (World.block_lt_of_cell? w _ hw125_0)).trans hw125_0), ((HB.out.cell (World.block_lt_of_cell? w _ hw125_1)).trans hw125_1), ((HB.out.cell (World.block_lt_of_cell? w _ hw125_2)).trans hw125_2)⟩ (fun hHeld => nC ?_)
                clear hK K
                refine pu 52 55 9007199254740991 ?_
                refine pu 53 55 18014398509481983 ?_
                refine pu 54 55 36028797018963967 ?_
                refine done_ (done_of HT_.out (by kernel_rfl)) ?_
                try go_wp2
                go_meet
                case rel => exact ⟨_, (decide (t126 ≥ 0)), (by first | rfl | (simp; done) | (simp [*]; done)), H', ⟨by have := HK1.out; first | omega | exact Nat.le_refl _⟩, ⟨by (with_reducible repeat (first | refine xq ?_ _ | refine xr ?_ | refine xo ?_ _)); exact BK118.out⟩, ⟨by repeat (first | (with_reducible first | exact HB.out | apply xa | apply xn | apply xd | refine xt ?_ GE118.out) | exact HB.out)⟩⟩
               ·rw [if_neg c36] at H
                exact absurd H (by simp)
              ·rw [if_neg c35] at H
               exact absurd H (by simp)
             ·rw [if_neg c33] at H
              have c33b0 : decide (0 < x7_1) = false := decide_eq_false c33
              clear c33
              have H' := xm H
              clear H
              try go_wp2
              have n0_ : Aside0 ((((w6.setCell ⟨gb118, 0, none⟩ (.slice A117_0 ((rd_T45 l0 x7_1).f0.f0).length c117_0)).setCell ⟨gb118, 1, none⟩ (.int .i64 ((rd_T45 l0 x7_1).f1))).setCell ⟨gb118, 2, none⟩ (.int .i64 ((rd_T45 l0 x7_1).f2))).heap[gb118]? = some (.cells #[.slice A117_0 ((rd_T45 l0 x7_1).f0.f0).length c117_0, .int .i64 ((rd_T45 l0 x7_1).f1), .int .i64 ((rd_T45 l0 x7_1).f2)] 45 (0, 0))) := ⟨by (with_reducible repeat (first | refine xq ?_ _ | refine xr ?_ | refine xo ?_ _)); refine blk_put (cs := #[.slice A117_0 ((rd_T45 l0 x7_1).f0.f0).length c117_0, .int .i64 ((rd_T45 l0 x7_1).f1), .int .i64 0]) ?_ 2 _ rfl; (with_reducible repeat (first | refine xq ?_ _ | refine xr ?_ | refine xo ?_ _)); refine blk_put (cs := #[.slice A117_0 ((rd_T45 l0 x7_1).f0.f0).length c117_0, .int .i64 0, .int .i64 0]) ?_ 1 _ rfl; (with_reducible repeat (first | refine xq ?_ _ | refine xr ?_ | refine xo ?_ _)); refine blk_put (cs := #[.slice none 0 0, .int .i64 0, .int .i64 0]) ?_ 0 _ rfl; (with_reducible repeat (first | refine xq ?_ _ | refine xr ?_ | refine xo ?_ _)); exact BK118.out⟩
              have n1_ : Aside0 (Below w.heap.size w (((w6.setCell ⟨gb118, 0, none⟩ (.slice A117_0 ((rd_T45 l0 x7_1).f0.f0).length c117_0)).setCell ⟨gb118, 1, none⟩ (.int .i64 ((rd_T45 l0 x7_1).f1))).setCell ⟨gb118, 2, none⟩ (.int .i64 ((rd_T45 l0 x7_1).f2)))) := ⟨by repeat (first | (with_reducible first | exact HB.out | apply xa | apply xn | apply xd | refine xt ?_ GE118.out) | exact HB.out)⟩
              (try clear BK118)
              (try clear HB)
              generalize (((w6.setCell ⟨gb118, 0, none⟩ (.slice A117_0 ((rd_T45 l0 x7_1).f0.f0).length c117_0)).setCell ⟨gb118, 1, none⟩ (.int .i64 ((rd_T45 l0 x7_1).f1))).setCell ⟨gb118, 2, none⟩ (.int .i64 ((rd_T45 l0 x7_1).f2))) = w42 at n0_ n1_ ⊢
              revert n0_ n1_; intro BK118 HB
              have n0_ := xm (xr BK118.out)
              have n1_ := xm (xd HB.out)
              revert n0_ n1_; clear BK118 HB; intro BK118 HB
              have p120 : 0 ≤ (0 : Int) := (by omega)
              have q120 : 0 < (l0.length : Int) := of_decide_eq_true aB
              obtain ⟨ad120, A120_0, c120_0, e120, hx120_0, hx120_1, hx120_2, hl120_0, hi120_0⟩ := at_T45 HR0.out 0 p120 q120
              have hw120_2 := hx120_2
              (try rw [show ((0 : Int)).toNat = 0 from rfl] at hw120_2)
              (try rw [show 0 * 3 = 0 from rfl] at hw120_2)
              (try rw [Addr.add_zero'] at hw120_2)
              have hw120_1 := hx120_1
              (try rw [show ((0 : Int)).toNat = 0 from rfl] at hw120_1)
              (try rw [show 0 * 3 = 0 from rfl] at hw120_1)
              (try rw [Addr.add_zero'] at hw120_1)
              have hw120_0 := hx120_0
              (try rw [show ((0 : Int)).toNat = 0 from rfl] at hw120_0)
              (try rw [show 0 * 3 = 0 from rfl] at hw120_0)
              (try rw [Addr.add_zero'] at hw120_0)
              obtain rfl : ad117 = ad120 := (by injection e120)
              have qi120 : (0 < l0.length) = True := eq_true (by omega)
              (try rw [show ((0 : Int)).toNat = 0 from rfl] at hx120_0)
              (try rw [show 0 * 3 = 0 from rfl] at hx120_0)
              (try rw [Addr.add_zero'] at hx120_0)
              (try rw [show ((0 : Int)).toNat = 0 from rfl] at hx120_1)
              (try rw [show 0 * 3 = 0 from rfl] at hx120_1)
              (try rw [Addr.add_zero'] at hx120_1)
              (try rw [show ((0 : Int)).toNat = 0 from rfl] at hx120_2)
              (try rw [show 0 * 3 = 0 from rfl] at hx120_2)
              (try rw [Addr.add_zero'] at hx120_2)
              replace hx120_0 := (HB.out.cell (World.block_lt_of_cell? w _ hx120_0)).trans hx120_0
              replace hx120_1 := (HB.out.cell (World.block_lt_of_cell? w _ hx120_1)).trans hx120_1
              replace hx120_2 := (HB.out.cell (World.block_lt_of_cell? w _ hx120_2)).trans hx120_2
              have HR120_0 := xm hi120_0
              have HC120_0 := xm hl120_0
              clear hi120_0 hl120_0
              replace p120 := eq_true p120
              replace q120 := eq_true q120
              refine start_ (n := 55) (S := fun w' => w'.cell? ⟨gb118, 0, none⟩ = some (.slice A117_0 ((rd_T45 l0 x7_1).f0.f0).length c117_0) ∧ w'.cell? ⟨gb118, 1, none⟩ = some (.int .i64 ((rd_T45 l0 x7_1).f1)) ∧ w'.cell? ⟨gb118, 2, none⟩ = some (.int .i64 ((rd_T45 l0 x7_1).f2)) ∧ w'.cell? ad117 = some (.slice A120_0 ((rd_T45 l0 0).f0.f0).length c120_0) ∧ w'.cell? ⟨ad117.block, ad117.off + 1, none⟩ = some (.int .i64 ((rd_T45 l0 0).f1)) ∧ w'.cell? ⟨ad117.block, ad117.off + 2, none⟩ = some (.int .i64 ((rd_T45 l0 0).f2))) (ds := []) #[Z,Z,Z,Z,Z,Z,Z,Z,Z,Z,Z,Z,Z,Z,Z,Z,Z,Z,Z,Z,Z,Z,Z,Z,Z,Z,Z,Z,Z,Z,Z,Z,Z,Z,Z,Z,Z,Z,Z,Z,Z,Z,Z,Z,Z,Z,Z,Z,Z,Z,Z,Z,Z,Z,Z] (by kernel_rfl) rfl rfl ⟨(xc BK118.out 0).trans rfl, (xc BK118.out 1).trans rfl, (xc BK118.out 2).trans rfl, ((HB.out.cell (World.block_lt_of_cell? w _ hw120_0)).trans hw120_0), ((HB.out.cell (World.block_lt_of_cell? w _ hw120_1)).trans hw120_1), ((HB.out.cell (World.block_lt_of_cell? w _ hw120_2)).trans hw120_2)⟩ (fun hHeld => ?_); refine with_tabW spec_GoodGroups.tab4 spec_GoodGroups.bits4 (fun HT_ HW_ => ?_)
              generalize w42.drew = w43 at BK118 HB HR120_0 hx120_0 hx120_1 hx120_2 hHeld ⊢
              refine pu 0 55 1 ?_
              refine tx 1 55 3 rfl rfl (take_ofW HT_.out HW_.out (by kernel_rfl)) hHeld (by rintro w' ⟨s0, s1, s2, s3, s4, s5⟩; go_simp; with_reducible rfl) ?_
              refine one_ (i := 2) (N := some 14) #[Y,Y,Y,Z,Z,Z,Z,Z,Z,Z,Z,Z,Z,Z,Z,Z,Z,Z,Z,Z,Z,Z,Z,Z,Z,Z,Z,Z,Z,Z,Z,Z,Z,Z,Z,Z,Z,Z,Z,Z,Z,Z,Z,Z,Z,Z,Z,Z,Z,Z,Z,Z,Z,Z,Z] rfl rfl (one_of HT_.out (by kernel_rfl)) (by decide) (fun K hK => ?_)
              refine goes_ Try.func27 (by kernel_rfl) rfl #[.agg #[.slice A117_0 ((rd_T45 l0 x7_1).f0.f0).length c117_0]] (by rfl) rfl rfl mB ?_
              with_reducible refine (spec_GoodRow.calls k1 _ _ ((rd_T45 l0 x7_1).f0.f0) true _ ?side1 ?side2 A8.out).mono ?_
              (case side1 => exact cB (Kd.C_below HR117_0.out HB.out))
              (case side2 => exact HC117_0.out)
              rintro e w44 ⟨rfl, hb⟩
              refine ⟨_, rfl, ?_⟩
              have n0_ := xm (blk_below (kB BK118) hb)
              have n1_ := xm (below_step bG hb)
              revert n0_ n1_; clear BK118 HB; intro BK118 HB
              (try clear hb)
              (try clear hb2)
              (try clear hk)
              (try clear hi)
              refine hK.out _ _ ⟨(xc BK118.out 0).trans rfl, (xc BK118.out 1).trans rfl, (xc BK118.out 2).trans rfl, ((HB.out.cell (World.block_lt_of_cell? w _ hw120_0)).trans hw120_0), ((HB.out.cell (World.block_lt_of_cell? w _ hw120_1)).trans hw120_1), ((HB.out.cell (World.block_lt_of_cell? w _ hw120_2)).trans hw120_2)⟩ (fun hHeld => nC ?_)
              clear hK K
              refine pu 3 55 15 ?_
              refine pu 4 55 31 ?_
              refine pu 5 55 63 ?_
              refine pu 6 55 127 ?_
              refine pu 9 55 639 ?_
              refine pu 10 55 1663 ?_
              refine pu 11 55 3711 ?_
              refine pu 12 55 7807 ?_
              refine tx 7 55 7935 rfl rfl (take_ofW HT_.out HW_.out (by kernel_rfl)) hHeld (by rintro w' ⟨s0, s1, s2, s3, s4, s5⟩; go_simp; with_reducible rfl) ?_
              refine pu 8 55 8191 ?_
              refine tx 13 55 16383 rfl rfl (take_ofW HT_.out HW_.out (by kernel_rfl)) hHeld (by rintro w' ⟨s0, s1, s2, s3, s4, s5⟩; go_simp; with_reducible rfl) ?_
              refine pu 14 55 32767 ?_
              refine pu 15 55 65535 ?_
              refine pu 16 55 131071 ?_
              refine pu 17 55 262143 ?_
              refine pu 18 55 524287 ?_
              refine tx 19 55 1048575 rfl rfl (take_ofW HT_.out HW_.out (by kernel_rfl)) hHeld (by rintro w' ⟨s0, s1, s2, s3, s4, s5⟩; go_simp; with_reducible rfl) ?_
              refine one_ (i := 20) (N := some 32) #[Y,Y,Y,Y,Y,Y,Y,Y,Y,Y,Y,Y,Y,Y,Y,Y,Y,Y,Y,Y,Y,Z,Z,Z,Z,Z,Z,Z,Z,Z,Z,Z,Z,Z,Z,Z,Z,Z,Z,Z,Z,Z,Z,Z,Z,Z,Z,Z,Z,Z,Z,Z,Z,Z,Z] rfl rfl (one_of HT_.out (by kernel_rfl)) (by decide) (fun K hK => ?_)
              refine goes_ Try.func28 (by kernel_rfl) rfl #[.int .i64 ((rd_T45 l0 x7_1).f1)] (by rfl) rfl rfl mB ?_
              with_reducible refine (spec_l5Sum.calls ((rd_T45 l0 x7_1).f1) true _ A12.out).mono ?_
              rintro e w' ⟨rfl, ⟨nd, rfl⟩⟩
              refine ⟨_, rfl, ?_⟩
              refine hK.out _ _ ⟨(xc BK118.out 0).trans rfl, (xc BK118.out 1).trans rfl, (xc BK118.out 2).trans rfl, ((HB.out.cell (World.block_lt_of_cell? w _ hw120_0)).trans hw120_0), ((HB.out.cell (World.block_lt_of_cell? w _ hw120_1)).trans hw120_1), ((HB.out.cell (World.block_lt_of_cell? w _ hw120_2)).trans hw120_2)⟩ (fun hHeld => nC ?_)
              clear hK K
              refine pu 21 55 4194303 ?_
              refine pu 22 55 8388607 ?_
              refine pu 23 55 16777215 ?_
              refine pu 24 55 33554431 ?_
              refine tx 25 55 67108863 rfl rfl (take_ofW HT_.out HW_.out (by kernel_rfl)) hHeld (by rintro w' ⟨s0, s1, s2, s3, s4, s5⟩; go_simp; with_reducible rfl) ?_
              refine one_ (i := 26) (N := some 38) #[Y,Y,Y,Y,Y,Y,Y,Y,Y,Y,Y,Y,Y,Y,Y,Y,Y,Y,Y,Y,Y,Y,Y,Y,Y,Y,Y,Z,Z,Z,Z,Z,Z,Z,Z,Z,Z,Z,Z,Z,Z,Z,Z,Z,Z,Z,Z,Z,Z,Z,Z,Z,Z,Z,Z] rfl rfl (one_of HT_.out (by kernel_rfl)) (by decide) (fun K hK => ?_)
              refine goes_ Try.func28 (by kernel_rfl) rfl #[.int .i64 ((rd_T45 l0 x7_1).f2)] (by rfl) rfl rfl mB ?_
              with_reducible refine (spec_l5Sum.calls ((rd_T45 l0 x7_1).f2) true _ A14.out).mono ?_
              rintro e w' ⟨rfl, ⟨nd, rfl⟩⟩
              refine ⟨_, rfl, ?_⟩
              refine hK.out _ _ ⟨(xc BK118.out 0).trans rfl, (xc BK118.out 1).trans rfl, (xc BK118.out 2).trans rfl, ((HB.out.cell (World.block_lt_of_cell? w _ hw120_0)).trans hw120_0), ((HB.out.cell (World.block_lt_of_cell? w _ hw120_1)).trans hw120_1), ((HB.out.cell (World.block_lt_of_cell? w _ hw120_2)).trans hw120_2)⟩ (fun hHeld => nC ?_)
              clear hK K
              refine pu 27 55 268435455 ?_
              refine pu 28 55 536870911 ?_
              refine pu 29 55 1073741823 ?_
              refine pu 30 55 2147483647 ?_
              refine tx 31 55 4294967295 rfl rfl (take_ofW HT_.out HW_.out (by kernel_rfl)) hHeld (by rintro w' ⟨s0, s1, s2, s3, s4, s5⟩; go_simp; with_reducible rfl) ?_
              refine pu 32 55 8589934591 ?_
              refine pu 33 55 17179869183 ?_
              refine ou 34 55 34359738367 ?_
              refine ou 35 55 68719476735 ?_
              refine ou 36 55 137438953471 ?_
              refine pu 37 55 274877906943 ?_
              refine pu 38 55 549755813887 ?_
              refine pu 39 55 1099511627775 ?_
              refine pu 40 55 2199023255551 ?_
              refine pu 41 55 4398046511103 ?_
              refine pu 42 55 8796093022207 ?_
              refine ou 43 55 17592186044415 ?_
              refine ou 44 55 35184372088831 ?_
              refine ou 45 55 70368744177663 ?_
              refine ou 46 55 140737488355327 ?_
              refine ou 47 55 281474976710655 ?_
              refine ou 48 55 562949953421311 ?_
              refine ou 49 55 1125899906842623 ?_
              refine ou 50 55 2251799813685247 ?_
              refine ou 51 55 4503599627370495 ?_
              refine ou 52 55 9007199254740991 ?_
              refine pu 53 55 18014398509481983 ?_
              refine pu 54 55 36028797018963967 ?_
              refine done_ (done_of HT_.out (by kernel_rfl)) ?_
              try go_wp2
              go_meet
              case rel => exact ⟨_, (false), (by first | rfl | (simp; done) | (simp [*]; done)), H', ⟨by have := HK1.out; first | omega | exact Nat.le_refl _⟩, ⟨by (with_reducible repeat (first | refine xq ?_ _ | refine xr ?_ | refine xo ?_ _)); exact BK118.out⟩, ⟨by repeat (first | (with_reducible first | exact HB.out | apply xa | apply xn | apply xd | refine xt ?_ GE118.out) | exact HB.out)⟩⟩
           ·replace c15 := Bool.eq_false_iff.mpr c15
            subst c15
            have H1 : (spec_GoodGroups.j1 k1 l0 l0 (l0.length : Int) x7_1 true) = some r := by first | (with_reducible rfl) | (rw [if_neg (show ¬ (false = true) by decide)] at H; exact H)
            clear H
            have H := H1
            clear H1
            have H' := xm H
            clear H
            try go_wp2
            have n0_ : Aside0 ((((w6.setCell ⟨gb118, 0, none⟩ (.slice A117_0 ((rd_T45 l0 x7_1).f0.f0).length c117_0)).setCell ⟨gb118, 1, none⟩ (.int .i64 ((rd_T45 l0 x7_1).f1))).setCell ⟨gb118, 2, none⟩ (.int .i64 ((rd_T45 l0 x7_1).f2))).heap[gb118]? = some (.cells #[.slice A117_0 ((rd_T45 l0 x7_1).f0.f0).length c117_0, .int .i64 ((rd_T45 l0 x7_1).f1), .int .i64 ((rd_T45 l0 x7_1).f2)] 45 (0, 0))) := ⟨by (with_reducible repeat (first | refine xq ?_ _ | refine xr ?_ | refine xo ?_ _)); refine blk_put (cs := #[.slice A117_0 ((rd_T45 l0 x7_1).f0.f0).length c117_0, .int .i64 ((rd_T45 l0 x7_1).f1), .int .i64 0]) ?_ 2 _ rfl; (with_reducible repeat (first | refine xq ?_ _ | refine xr ?_ | refine xo ?_ _)); refine blk_put (cs := #[.slice A117_0 ((rd_T45 l0 x7_1).f0.f0).length c117_0, .int .i64 0, .int .i64 0]) ?_ 1 _ rfl; (with_reducible repeat (first | refine xq ?_ _ | refine xr ?_ | refine xo ?_ _)); refine blk_put (cs := #[.slice none 0 0, .int .i64 0, .int .i64 0]) ?_ 0 _ rfl; (with_reducible repeat (first | refine xq ?_ _ | refine xr ?_ | refine xo ?_ _)); exact BK118.out⟩
            have n1_ : Aside0 (Below w.heap.size w (((w6.setCell ⟨gb118, 0, none⟩ (.slice A117_0 ((rd_T45 l0 x7_1).f0.f0).length c117_0)).setCell ⟨gb118, 1, none⟩ (.int .i64 ((rd_T45 l0 x7_1).f1))).setCell ⟨gb118, 2, none⟩ (.int .i64 ((rd_T45 l0 x7_1).f2)))) := ⟨by repeat (first | (with_reducible first | exact HB.out | apply xa | apply xn | apply xd | refine xt ?_ GE118.out) | exact HB.out)⟩
            (try clear BK118)
            (try clear HB)
            generalize (((w6.setCell ⟨gb118, 0, none⟩ (.slice A117_0 ((rd_T45 l0 x7_1).f0.f0).length c117_0)).setCell ⟨gb118, 1, none⟩ (.int .i64 ((rd_T45 l0 x7_1).f1))).setCell ⟨gb118, 2, none⟩ (.int .i64 ((rd_T45 l0 x7_1).f2))) = w45 at n0_ n1_ ⊢
            revert n0_ n1_; intro BK118 HB
            have n0_ := xm (xr BK118.out)
            have n1_ := xm (xd HB.out)
            revert n0_ n1_; clear BK118 HB; intro BK118 HB
            have p120 : 0 ≤ (0 : Int) := (by omega)
            have q120 : 0 < (l0.length : Int) := of_decide_eq_true aB
            obtain ⟨ad120, A120_0, c120_0, e120, hx120_0, hx120_1, hx120_2, hl120_0, hi120_0⟩ := at_T45 HR0.out 0 p120 q120
            have hw120_2 := hx120_2
            (try rw [show ((0 : Int)).toNat = 0 from rfl] at hw120_2)
            (try rw [show 0 * 3 = 0 from rfl] at hw120_2)
            (try rw [Addr.add_zero'] at hw120_2)
            have hw120_1 := hx120_1
            (try rw [show ((0 : Int)).toNat = 0 from rfl] at hw120_1)
            (try rw [show 0 * 3 = 0 from rfl] at hw120_1)
            (try rw [Addr.add_zero'] at hw120_1)
            have hw120_0 := hx120_0
            (try rw [show ((0 : Int)).toNat = 0 from rfl] at hw120_0)
            (try rw [show 0 * 3 = 0 from rfl] at hw120_0)
            (try rw [Addr.add_zero'] at hw120_0)
            obtain rfl : ad117 = ad120 := (by injection e120)
            have qi120 : (0 < l0.length) = True := eq_true (by omega)
            (try rw [show ((0 : Int)).toNat = 0 from rfl] at hx120_0)
            (try rw [show 0 * 3 = 0 from rfl] at hx120_0)
            (try rw [Addr.add_zero'] at hx120_0)
            (try rw [show ((0 : Int)).toNat = 0 from rfl] at hx120_1)
            (try rw [show 0 * 3 = 0 from rfl] at hx120_1)
            (try rw [Addr.add_zero'] at hx120_1)
            (try rw [show ((0 : Int)).toNat = 0 from rfl] at hx120_2)
            (try rw [show 0 * 3 = 0 from rfl] at hx120_2)
            (try rw [Addr.add_zero'] at hx120_2)
            replace hx120_0 := (HB.out.cell (World.block_lt_of_cell? w _ hx120_0)).trans hx120_0
            replace hx120_1 := (HB.out.cell (World.block_lt_of_cell? w _ hx120_1)).trans hx120_1
            replace hx120_2 := (HB.out.cell (World.block_lt_of_cell? w _ hx120_2)).trans hx120_2
            have HR120_0 := xm hi120_0
            have HC120_0 := xm hl120_0
            clear hi120_0 hl120_0
            replace p120 := eq_true p120
            replace q120 := eq_true q120
            refine start_ (n := 55) (S := fun w' => w'.cell? ⟨gb118, 0, none⟩ = some (.slice A117_0 ((rd_T45 l0 x7_1).f0.f0).length c117_0) ∧ w'.cell? ⟨gb118, 1, none⟩ = some (.int .i64 ((rd_T45 l0 x7_1).f1)) ∧ w'.cell? ⟨gb118, 2, none⟩ = some (.int .i64 ((rd_T45 l0 x7_1).f2)) ∧ w'.cell? ad117 = some (.slice A120_0 ((rd_T45 l0 0).f0.f0).length c120_0) ∧ w'.cell? ⟨ad117.block, ad117.off + 1, none⟩ = some (.int .i64 ((rd_T45 l0 0).f1)) ∧ w'.cell? ⟨ad117.block, ad117.off + 2, none⟩ = some (.int .i64 ((rd_T45 l0 0).f2))) (ds := []) #[Z,Z,Z,Z,Z,Z,Z,Z,Z,Z,Z,Z,Z,Z,Z,Z,Z,Z,Z,Z,Z,Z,Z,Z,Z,Z,Z,Z,Z,Z,Z,Z,Z,Z,Z,Z,Z,Z,Z,Z,Z,Z,Z,Z,Z,Z,Z,Z,Z,Z,Z,Z,Z,Z,Z] (by kernel_rfl) rfl rfl ⟨(xc BK118.out 0).trans rfl, (xc BK118.out 1).trans rfl, (xc BK118.out 2).trans rfl, ((HB.out.cell (World.block_lt_of_cell? w _ hw120_0)).trans hw120_0), ((HB.out.cell (World.block_lt_of_cell? w _ hw120_1)).trans hw120_1), ((HB.out.cell (World.block_lt_of_cell? w _ hw120_2)).trans hw120_2)⟩ (fun hHeld => ?_); refine with_tabW spec_GoodGroups.tab4 spec_GoodGroups.bits4 (fun HT_ HW_ => ?_)
            generalize w45.drew = w46 at BK118 HB HR120_0 hx120_0 hx120_1 hx120_2 hHeld ⊢
            refine pu 0 55 1 ?_
            refine tx 1 55 3 rfl rfl (take_ofW HT_.out HW_.out (by kernel_rfl)) hHeld (by rintro w' ⟨s0, s1, s2, s3, s4, s5⟩; go_simp; with_reducible rfl) ?_
            refine one_ (i := 2) (N := some 14) #[Y,Y,Y,Z,Z,Z,Z,Z,Z,Z,Z,Z,Z,Z,Z,Z,Z,Z,Z,Z,Z,Z,Z,Z,Z,Z,Z,Z,Z,Z,Z,Z,Z,Z,Z,Z,Z,Z,Z,Z,Z,Z,Z,Z,Z,Z,Z,Z,Z,Z,Z,Z,Z,Z,Z] rfl rfl (one_of HT_.out (by kernel_rfl)) (by decide) (fun K hK => ?_)
            refine goes_ Try.func27 (by kernel_rfl) rfl #[.agg #[.slice A117_0 ((rd_T45 l0 x7_1).f0.f0).length c117_0]] (by rfl) rfl rfl mB ?_
            with_reducible refine (spec_GoodRow.calls k1 _ _ ((rd_T45 l0 x7_1).f0.f0) true _ ?side1 ?side2 A8.out).mono ?_
            (case side1 => exact cB (Kd.C_below HR117_0.out HB.out))
            (case side2 => exact HC117_0.out)
            rintro e w47 ⟨rfl, hb⟩
            refine ⟨_, rfl, ?_⟩
            have n0_ := xm (blk_below (kB BK118) hb)
            have n1_ := xm (below_step bG hb)
            revert n0_ n1_; clear BK118 HB; intro BK118 HB
            (try clear hb)
            (try clear hb2)
            (try clear hk)
            (try clear hi)
            refine hK.out _ _ ⟨(xc BK118.out 0).trans rfl, (xc BK118.out 1).trans rfl, (xc BK118.out 2).trans rfl, ((HB.out.cell (World.block_lt_of_cell? w _ hw120_0)).trans hw120_0), ((HB.out.cell (World.block_lt_of_cell? w _ hw120_1)).trans hw120_1), ((HB.out.cell (World.block_lt_of_cell? w _ hw120_2)).trans hw120_2)⟩ (fun hHeld => nC ?_)
            clear hK K
            refine pu 3 55 15 ?_
            refine pu 4 55 31 ?_
            refine pu 5 55 63 ?_
            refine pu 6 55 127 ?_
            refine pu 9 55 639 ?_
            refine pu 10 55 1663 ?_
            refine pu 11 55 3711 ?_
            refine pu 12 55 7807 ?_
            refine tx 7 55 7935 rfl rfl (take_ofW HT_.out HW_.out (by kernel_rfl)) hHeld (by rintro w' ⟨s0, s1, s2, s3, s4, s5⟩; go_simp; with_reducible rfl) ?_
            refine pu 8 55 8191 ?_
            refine tx 13 55 16383 rfl rfl (take_ofW HT_.out HW_.out (by kernel_rfl)) hHeld (by rintro w' ⟨s0, s1, s2, s3, s4, s5⟩; go_simp; with_reducible rfl) ?_
            refine pu 14 55 32767 ?_
            refine pu 15 55 65535 ?_
            refine pu 16 55 131071 ?_
            refine pu 17 55 262143 ?_
            refine pu 18 55 524287 ?_
            refine tx 19 55 1048575 rfl rfl (take_ofW HT_.out HW_.out (by kernel_rfl)) hHeld (by rintro w' ⟨s0, s1, s2, s3, s4, s5⟩; go_simp; with_reducible rfl) ?_
            refine one_ (i := 20) (N := some 32) #[Y,Y,Y,Y,Y,Y,Y,Y,Y,Y,Y,Y,Y,Y,Y,Y,Y,Y,Y,Y,Y,Z,Z,Z,Z,Z,Z,Z,Z,Z,Z,Z,Z,Z,Z,Z,Z,Z,Z,Z,Z,Z,Z,Z,Z,Z,Z,Z,Z,Z,Z,Z,Z,Z,Z] rfl rfl (one_of HT_.out (by kernel_rfl)) (by decide) (fun K hK => ?_)
            refine goes_ Try.func28 (by kernel_rfl) rfl #[.int .i64 ((rd_T45 l0 x7_1).f1)] (by rfl) rfl rfl mB ?_
            with_reducible refine (spec_l5Sum.calls ((rd_T45 l0 x7_1).f1) true _ A12.out).mono ?_
            rintro e w' ⟨rfl, ⟨nd, rfl⟩⟩
            refine ⟨_, rfl, ?_⟩
            refine hK.out _ _ ⟨(xc BK118.out 0).trans rfl, (xc BK118.out 1).trans rfl, (xc BK118.out 2).trans rfl, ((HB.out.cell (World.block_lt_of_cell? w _ hw120_0)).trans hw120_0), ((HB.out.cell (World.block_lt_of_cell? w _ hw120_1)).trans hw120_1), ((HB.out.cell (World.block_lt_of_cell? w _ hw120_2)).trans hw120_2)⟩ (fun hHeld => nC ?_)
            clear hK K
            refine pu 21 55 4194303 ?_
            refine pu 22 55 8388607 ?_
            refine pu 23 55 16777215 ?_
            refine pu 24 55 33554431 ?_
            refine tx 25 55 67108863 rfl rfl (take_ofW HT_.out HW_.out (by kernel_rfl)) hHeld (by rintro w' ⟨s0, s1, s2, s3, s4, s5⟩; go_simp; with_reducible rfl) ?_
            refine one_ (i := 26) (N := some 38) #[Y,Y,Y,Y,Y,Y,Y,Y,Y,Y,Y,Y,Y,Y,Y,Y,Y,Y,Y,Y,Y,Y,Y,Y,Y,Y,Y,Z,Z,Z,Z,Z,Z,Z,Z,Z,Z,Z,Z,Z,Z,Z,Z,Z,Z,Z,Z,Z,Z,Z,Z,Z,Z,Z,Z] rfl rfl (one_of HT_.out (by kernel_rfl)) (by decide) (fun K hK => ?_)
            refine goes_ Try.func28 (by kernel_rfl) rfl #[.int .i64 ((rd_T45 l0 x7_1).f2)] (by rfl) rfl rfl mB ?_
            with_reducible refine (spec_l5Sum.calls ((rd_T45 l0 x7_1).f2) false _ A14.out).mono ?_
            rintro e w' ⟨rfl, ⟨nd, rfl⟩⟩
            refine ⟨_, rfl, ?_⟩
            refine hK.out _ _ ⟨(xc BK118.out 0).trans rfl, (xc BK118.out 1).trans rfl, (xc BK118.out 2).trans rfl, ((HB.out.cell (World.block_lt_of_cell? w _ hw120_0)).trans hw120_0), ((HB.out.cell (World.block_lt_of_cell? w _ hw120_1)).trans hw120_1), ((HB.out.cell (World.block_lt_of_cell? w _ hw120_2)).trans hw120_2)⟩ (fun hHeld => nC ?_)
            clear hK K
            refine pu 27 55 268435455 ?_
            refine pu 28 55 536870911 ?_
            refine pu 29 55 1073741823 ?_
            refine ou 30 55 2147483647 ?_
            refine ou 31 55 4294967295 ?_
            refine ou 32 55 8589934591 ?_
            refine ou 33 55 17179869183 ?_
            refine ou 34 55 34359738367 ?_
            refine ou 35 55 68719476735 ?_
            refine ou 36 55 137438953471 ?_
            refine ou 37 55 274877906943 ?_
            refine pu 38 55 549755813887 ?_
            refine pu 39 55 1099511627775 ?_
            refine ou 40 55 2199023255551 ?_
            refine ou 41 55 4398046511103 ?_
            refine ou 42 55 8796093022207 ?_
            refine ou 43 55 17592186044415 ?_
            refine ou 44 55 35184372088831 ?_
            refine ou 45 55 70368744177663 ?_
            refine ou 46 55 140737488355327 ?_
            refine ou 47 55 281474976710655 ?_
            refine ou 48 55 562949953421311 ?_
            refine ou 49 55 1125899906842623 ?_
            refine ou 50 55 2251799813685247 ?_
            refine ou 51 55 4503599627370495 ?_
            refine ou 52 55 9007199254740991 ?_
            refine ou 53 55 18014398509481983 ?_
            refine pu 54 55 36028797018963967 ?_
            refine done_ (done_of HT_.out (by kernel_rfl)) ?_
            try go_wp2
            go_meet
            case rel => exact ⟨_, (true), (by first | rfl | (simp; done) | (simp [*]; done)), H', ⟨by have := HK1.out; first | omega | exact Nat.le_refl _⟩, ⟨by (with_reducible repeat (first | refine xq ?_ _ | refine xr ?_ | refine xo ?_ _)); exact BK118.out⟩, ⟨by repeat (first | (with_reducible first | exact HB.out | apply xa | apply xn | apply xd | refine xt ?_ GE118.out) | exact HB.out)⟩⟩
          ·replace c13 := Bool.eq_false_iff.mpr c13
           subst c13
           have H1 : (spec_GoodGroups.j1 k1 l0 l0 (l0.length : Int) x7_1 true) = some r := by first | (with_reducible rfl) | (rw [if_neg (show ¬ (false = true) by decide)] at H; exact H)
           clear H
           have H := H1
           clear H1
           have H' := xm H
           clear H
           try go_wp2
           have n0_ : Aside0 ((((w6.setCell ⟨gb118, 0, none⟩ (.slice A117_0 ((rd_T45 l0 x7_1).f0.f0).length c117_0)).setCell ⟨gb118, 1, none⟩ (.int .i64 ((rd_T45 l0 x7_1).f1))).setCell ⟨gb118, 2, none⟩ (.int .i64 ((rd_T45 l0 x7_1).f2))).heap[gb118]? = some (.cells #[.slice A117_0 ((rd_T45 l0 x7_1).f0.f0).length c117_0, .int .i64 ((rd_T45 l0 x7_1).f1), .int .i64 ((rd_T45 l0 x7_1).f2)] 45 (0, 0))) := ⟨by (with_reducible repeat (first | refine xq ?_ _ | refine xr ?_ | refine xo ?_ _)); refine blk_put (cs := #[.slice A117_0 ((rd_T45 l0 x7_1).f0.f0).length c117_0, .int .i64 ((rd_T45 l0 x7_1).f1), .int .i64 0]) ?_ 2 _ rfl; (with_reducible repeat (first | refine xq ?_ _ | refine xr ?_ | refine xo ?_ _)); refine blk_put (cs := #[.slice A117_0 ((rd_T45 l0 x7_1).f0.f0).length c117_0, .int .i64 0, .int .i64 0]) ?_ 1 _ rfl; (with_reducible repeat (first | refine xq ?_ _ | refine xr ?_ | refine xo ?_ _)); refine blk_put (cs := #[.slice none 0 0, .int .i64 0, .int .i64 0]) ?_ 0 _ rfl; (with_reducible repeat (first | refine xq ?_ _ | refine xr ?_ | refine xo ?_ _)); exact BK118.out⟩
           have n1_ : Aside0 (Below w.heap.size w (((w6.setCell ⟨gb118, 0, none⟩ (.slice A117_0 ((rd_T45 l0 x7_1).f0.f0).length c117_0)).setCell ⟨gb118, 1, none⟩ (.int .i64 ((rd_T45 l0 x7_1).f1))).setCell ⟨gb118, 2, none⟩ (.int .i64 ((rd_T45 l0 x7_1).f2)))) := ⟨by repeat (first | (with_reducible first | exact HB.out | apply xa | apply xn | apply xd | refine xt ?_ GE118.out) | exact HB.out)⟩
           (try clear BK118)
           (try clear HB)
           generalize (((w6.setCell ⟨gb118, 0, none⟩ (.slice A117_0 ((rd_T45 l0 x7_1).f0.f0).length c117_0)).setCell ⟨gb118, 1, none⟩ (.int .i64 ((rd_T45 l0 x7_1).f1))).setCell ⟨gb118, 2, none⟩ (.int .i64 ((rd_T45 l0 x7_1).f2))) = w48 at n0_ n1_ ⊢
           revert n0_ n1_; intro BK118 HB
           have n0_ := xm (xr BK118.out)
           have n1_ := xm (xd HB.out)
           revert n0_ n1_; clear BK118 HB; intro BK118 HB
           have p120 : 0 ≤ (0 : Int) := (by omega)
           have q120 : 0 < (l0.length : Int) := of_decide_eq_true aB
           obtain ⟨ad120, A120_0, c120_0, e120, hx120_0, hx120_1, hx120_2, hl120_0, hi120_0⟩ := at_T45 HR0.out 0 p120 q120
           have hw120_2 := hx120_2
           (try rw [show ((0 : Int)).toNat = 0 from rfl] at hw120_2)
           (try rw [show 0 * 3 = 0 from rfl] at hw120_2)
           (try rw [Addr.add_zero'] at hw120_2)
           have hw120_1 := hx120_1
           (try rw [show ((0 : Int)).toNat = 0 from rfl] at hw120_1)
           (try rw [show 0 * 3 = 0 from rfl] at hw120_1)
           (try rw [Addr.add_zero'] at hw120_1)
           have hw120_0 := hx120_0
           (try rw [show ((0 : Int)).toNat = 0 from rfl] at hw120_0)
           (try rw [show 0 * 3 = 0 from rfl] at hw120_0)
           (try rw [Addr.add_zero'] at hw120_0)
           obtain rfl : ad117 = ad120 := (by injection e120)
           have qi120 : (0 < l0.length) = True := eq_true (by omega)
           (try rw [show ((0 : Int)).toNat = 0 from rfl] at hx120_0)
           (try rw [show 0 * 3 = 0 from rfl] at hx120_0)
           (try rw [Addr.add_zero'] at hx120_0)
           (try rw [show ((0 : Int)).toNat = 0 from rfl] at hx120_1)
           (try rw [show 0 * 3 = 0 from rfl] at hx120_1)
           (try rw [Addr.add_zero'] at hx120_1)
           (try rw [show ((0 : Int)).toNat = 0 from rfl] at hx120_2)
           (try rw [show 0 * 3 = 0 from rfl] at hx120_2)
           (try rw [Addr.add_zero'] at hx120_2)
           replace hx120_0 := (HB.out.cell (World.block_lt_of_cell? w _ hx120_0)).trans hx120_0
           replace hx120_1 := (HB.out.cell (World.block_lt_of_cell? w _ hx120_1)).trans hx120_1
           replace hx120_2 := (HB.out.cell (World.block_lt_of_cell? w _ hx120_2)).trans hx120_2
           have HR120_0 := xm hi120_0
           have HC120_0 := xm hl120_0
           clear hi120_0 hl120_0
           replace p120 := eq_true p120
           replace q120 := eq_true q120
           refine start_ (n := 55) (S := fun w' => w'.cell? ⟨gb118, 0, none⟩ = some (.slice A117_0 ((rd_T45 l0 x7_1).f0.f0).length c117_0) ∧ w'.cell? ⟨gb118, 1, none⟩ = some (.int .i64 ((rd_T45 l0 x7_1).f1)) ∧ w'.cell? ⟨gb118, 2, none⟩ = some (.int .i64 ((rd_T45 l0 x7_1).f2)) ∧ w'.cell? ad117 = some (.slice A120_0 ((rd_T45 l0 0).f0.f0).length c120_0) ∧ w'.cell? ⟨ad117.block, ad117.off + 1, none⟩ = some (.int .i64 ((rd_T45 l0 0).f1)) ∧ w'.cell? ⟨ad117.block, ad117.off + 2, none⟩ = some (.int .i64 ((rd_T45 l0 0).f2))) (ds := []) #[Z,Z,Z,Z,Z,Z,Z,Z,Z,Z,Z,Z,Z,Z,Z,Z,Z,Z,Z,Z,Z,Z,Z,Z,Z,Z,Z,Z,Z,Z,Z,Z,Z,Z,Z,Z,Z,Z,Z,Z,Z,Z,Z,Z,Z,Z,Z,Z,Z,Z,Z,Z,Z,Z,Z] (by kernel_rfl) rfl rfl ⟨(xc BK118.out 0).trans rfl, (xc BK118.out 1).trans rfl, (xc BK118.out 2).trans rfl, ((HB.out.cell (World.block_lt_of_cell? w _ hw120_0)).trans hw120_0), ((HB.out.cell (World.block_lt_of_cell? w _ hw120_1)).trans hw120_1), ((HB.out.cell (World.block_lt_of_cell? w _ hw120_2)).trans hw120_2)⟩ (fun hHeld => ?_); refine with_tabW spec_GoodGroups.tab4 spec_GoodGroups.bits4 (fun HT_ HW_ => ?_)
           generalize w48.drew = w49 at BK118 HB HR120_0 hx120_0 hx120_1 hx120_2 hHeld ⊢
           refine pu 0 55 1 ?_
           refine tx 1 55 3 rfl rfl (take_ofW HT_.out HW_.out (by kernel_rfl)) hHeld (by rintro w' ⟨s0, s1, s2, s3, s4, s5⟩; go_simp; with_reducible rfl) ?_
           refine one_ (i := 2) (N := some 14) #[Y,Y,Y,Z,Z,Z,Z,Z,Z,Z,Z,Z,Z,Z,Z,Z,Z,Z,Z,Z,Z,Z,Z,Z,Z,Z,Z,Z,Z,Z,Z,Z,Z,Z,Z,Z,Z,Z,Z,Z,Z,Z,Z,Z,Z,Z,Z,Z,Z,Z,Z,Z,Z,Z,Z] rfl rfl (one_of HT_.out (by kernel_rfl)) (by decide) (fun K hK => ?_)
           refine goes_ Try.func27 (by kernel_rfl) rfl #[.agg #[.slice A117_0 ((rd_T45 l0 x7_1).f0.f0).length c117_0]] (by rfl) rfl rfl mB ?_
           with_reducible refine (spec_GoodRow.calls k1 _ _ ((rd_T45 l0 x7_1).f0.f0) true _ ?side1 ?side2 A8.out).mono ?_
           (case side1 => exact cB (Kd.C_below HR117_0.out HB.out))
           (case side2 => exact HC117_0.out)
           rintro e w50 ⟨rfl, hb⟩
           refine ⟨_, rfl, ?_⟩
           have n0_ := xm (blk_below (kB BK118) hb)
           have n1_ := xm (below_step bG hb)
           revert n0_ n1_; clear BK118 HB; intro BK118 HB
           (try clear hb)
           (try clear hb2)
           (try clear hk)
           (try clear hi)
           refine hK.out _ _ ⟨(xc BK118.out 0).trans rfl, (xc BK118.out 1).trans rfl, (xc BK118.out 2).trans rfl, ((HB.out.cell (World.block_lt_of_cell? w _ hw120_0)).trans hw120_0), ((HB.out.cell (World.block_lt_of_cell? w _ hw120_1)).trans hw120_1), ((HB.out.cell (World.block_lt_of_cell? w _ hw120_2)).trans hw120_2)⟩ (fun hHeld => nC ?_)
           clear hK K
           refine pu 3 55 15 ?_
           refine pu 4 55 31 ?_
           refine pu 5 55 63 ?_
           refine pu 6 55 127 ?_
           refine pu 9 55 639 ?_
           refine pu 10 55 1663 ?_
           refine pu 11 55 3711 ?_
           refine pu 12 55 7807 ?_
           refine tx 7 55 7935 rfl rfl (take_ofW HT_.out HW_.out (by kernel_rfl)) hHeld (by rintro w' ⟨s0, s1, s2, s3, s4, s5⟩; go_simp; with_reducible rfl) ?_
           refine pu 8 55 8191 ?_
           refine tx 13 55 16383 rfl rfl (take_ofW HT_.out HW_.out (by kernel_rfl)) hHeld (by rintro w' ⟨s0, s1, s2, s3, s4, s5⟩; go_simp; with_reducible rfl) ?_
           refine pu 14 55 32767 ?_
           refine pu 15 55 65535 ?_
           refine pu 16 55 131071 ?_
           refine pu 17 55 262143 ?_
           refine pu 18 55 524287 ?_
           refine tx 19 55 1048575 rfl rfl (take_ofW HT_.out HW_.out (by kernel_rfl)) hHeld (by rintro w' ⟨s0, s1, s2, s3, s4, s5⟩; go_simp; with_reducible rfl) ?_
           refine one_ (i := 20) (N := some 32) #[Y,Y,Y,Y,Y,Y,Y,Y,Y,Y,Y,Y,Y,Y,Y,Y,Y,Y,Y,Y,Y,Z,Z,Z,Z,Z,Z,Z,Z,Z,Z,Z,Z,Z,Z,Z,Z,Z,Z,Z,Z,Z,Z,Z,Z,Z,Z,Z,Z,Z,Z,Z,Z,Z,Z] rfl rfl (one_of HT_.out (by kernel_rfl)) (by decide) (fun K hK => ?_)
           refine goes_ Try.func28 (by kernel_rfl) rfl #[.int .i64 ((rd_T45 l0 x7_1).f1)] (by rfl) rfl rfl mB ?_
           with_reducible refine (spec_l5Sum.calls ((rd_T45 l0 x7_1).f1) false _ A12.out).mono ?_
           rintro e w' ⟨rfl, ⟨nd, rfl⟩⟩
           refine ⟨_, rfl, ?_⟩
           refine hK.out _ _ ⟨(xc BK118.out 0).trans rfl, (xc BK118.out 1).trans rfl, (xc BK118.out 2).trans rfl, ((HB.out.cell (World.block_lt_of_cell? w _ hw120_0)).trans hw120_0), ((HB.out.cell (World.block_lt_of_cell? w _ hw120_1)).trans hw120_1), ((HB.out.cell (World.block_lt_of_cell? w _ hw120_2)).trans hw120_2)⟩ (fun hHeld => nC ?_)
           clear hK K
           refine pu 21 55 4194303 ?_
           refine pu 22 55 8388607 ?_
           refine pu 23 55 16777215 ?_
           refine ou 24 55 33554431 ?_
           refine ou 25 55 67108863 ?_
           refine ou 26 55 134217727 ?_
           refine ou 27 55 268435455 ?_
           refine pu 28 55 536870911 ?_
           refine pu 29 55 1073741823 ?_
           refine ou 30 55 2147483647 ?_
           refine ou 31 55 4294967295 ?_
           refine ou 32 55 8589934591 ?_
           refine ou 33 55 17179869183 ?_
           refine ou 34 55 34359738367 ?_
           refine ou 35 55 68719476735 ?_
           refine ou 36 55 137438953471 ?_
           refine ou 37 55 274877906943 ?_
           refine pu 38 55 549755813887 ?_
           refine pu 39 55 1099511627775 ?_
           refine ou 40 55 2199023255551 ?_
           refine ou 41 55 4398046511103 ?_
           refine ou 42 55 8796093022207 ?_
           refine ou 43 55 17592186044415 ?_
           refine ou 44 55 35184372088831 ?_
           refine ou 45 55 70368744177663 ?_
           refine ou 46 55 140737488355327 ?_
           refine ou 47 55 281474976710655 ?_
           refine ou 48 55 562949953421311 ?_
           refine ou 49 55 1125899906842623 ?_
           refine ou 50 55 2251799813685247 ?_
           refine ou 51 55 4503599627370495 ?_
           refine ou 52 55 9007199254740991 ?_
           refine ou 53 55 18014398509481983 ?_
           refine pu 54 55 36028797018963967 ?_
           refine done_ (done_of HT_.out (by kernel_rfl)) ?_
           try go_wp2
           go_meet
           case rel => exact ⟨_, (true), (by first | rfl | (simp; done) | (simp [*]; done)), H', ⟨by have := HK1.out; first | omega | exact Nat.le_refl _⟩, ⟨by (with_reducible repeat (first | refine xq ?_ _ | refine xr ?_ | refine xo ?_ _)); exact BK118.out⟩, ⟨by repeat (first | (with_reducible first | exact HB.out | apply xa | apply xn | apply xd | refine xt ?_ GE118.out) | exact HB.out)⟩⟩
         ·rw [if_neg c11] at H
          have c11b0 : ((((rd_T45 l0 x7_1).f0.f0).length : Int) == (((rd_T45 l0 0).f0.f0).length : Int)) = false := beq_eq_false_iff_ne.mpr c11
          have c11b1 : ((((rd_T45 l0 x7_1).f0.f0).length : Int) != (((rd_T45 l0 0).f0.f0).length : Int)) = true := bne_iff_ne.mpr c11
          have c11b2 : (((rd_T45 l0 x7_1).f0.f0).length == ((rd_T45 l0 0).f0.f0).length) = false := by first | simpa using c11 | (simp at c11 ⊢; omega)
          have H' := xm H
          clear H
          try go_wp2
          have n0_ : Aside0 ((((w6.setCell ⟨gb118, 0, none⟩ (.slice A117_0 ((rd_T45 l0 x7_1).f0.f0).length c117_0)).setCell ⟨gb118, 1, none⟩ (.int .i64 ((rd_T45 l0 x7_1).f1))).setCell ⟨gb118, 2, none⟩ (.int .i64 ((rd_T45 l0 x7_1).f2))).heap[gb118]? = some (.cells #[.slice A117_0 ((rd_T45 l0 x7_1).f0.f0).length c117_0, .int .i64 ((rd_T45 l0 x7_1).f1), .int .i64 ((rd_T45 l0 x7_1).f2)] 45 (0, 0))) := ⟨by (with_reducible repeat (first | refine xq ?_ _ | refine xr ?_ | refine xo ?_ _)); refine blk_put (cs := #[.slice A117_0 ((rd_T45 l0 x7_1).f0.f0).length c117_0, .int .i64 ((rd_T45 l0 x7_1).f1), .int .i64 0]) ?_ 2 _ rfl; (with_reducible repeat (first | refine xq ?_ _ | refine xr ?_ | refine xo ?_ _)); refine blk_put (cs := #[.slice A117_0 ((rd_T45 l0 x7_1).f0.f0).length c117_0, .int .i64 0, .int .i64 0]) ?_ 1 _ rfl; (with_reducible repeat (first | refine xq ?_ _ | refine xr ?_ | refine xo ?_ _)); refine blk_put (cs := #[.slice none 0 0, .int .i64 0, .int .i64 0]) ?_ 0 _ rfl; (with_reducible repeat (first | refine xq ?_ _ | refine xr ?_ | refine xo ?_ _)); exact BK118.out⟩
          have n1_ : Aside0 (Below w.heap.size w (((w6.setCell ⟨gb118, 0, none⟩ (.slice A117_0 ((rd_T45 l0 x7_1).f0.f0).length c117_0)).setCell ⟨gb118, 1, none⟩ (.int .i64 ((rd_T45 l0 x7_1).f1))).setCell ⟨gb118, 2, none⟩ (.int .i64 ((rd_T45 l0 x7_1).f2)))) := ⟨by repeat (first | (with_reducible first | exact HB.out | apply xa | apply xn | apply xd | refine xt ?_ GE118.out) | exact HB.out)⟩
          (try clear BK118)
          (try clear HB)
          generalize (((w6.setCell ⟨gb118, 0, none⟩ (.slice A117_0 ((rd_T45 l0 x7_1).f0.f0).length c117_0)).setCell ⟨gb118, 1, none⟩ (.int .i64 ((rd_T45 l0 x7_1).f1))).setCell ⟨gb118, 2, none⟩ (.int .i64 ((rd_T45 l0 x7_1).f2))) = w51 at n0_ n1_ ⊢
          revert n0_ n1_; intro BK118 HB
          have n0_ := xm (xr BK118.out)
          have n1_ := xm (xd HB.out)
          revert n0_ n1_; clear BK118 HB; intro BK118 HB
          have p120 : 0 ≤ (0 : Int) := (by omega)
          have q120 : 0 < (l0.length : Int) := of_decide_eq_true aB
          obtain ⟨ad120, A120_0, c120_0, e120, hx120_0, hx120_1, hx120_2, hl120_0, hi120_0⟩ := at_T45 HR0.out 0 p120 q120
          have hw120_2 := hx120_2
          (try rw [show ((0 : Int)).toNat = 0 from rfl] at hw120_2)
          (try rw [show 0 * 3 = 0 from rfl] at hw120_2)
          (try rw [Addr.add_zero'] at hw120_2)
          have hw120_1 := hx120_1
          (try rw [show ((0 : Int)).toNat = 0 from rfl] at hw120_1)
          (try rw [show 0 * 3 = 0 from rfl] at hw120_1)
          (try rw [Addr.add_zero'] at hw120_1)
          have hw120_0 := hx120_0
          (try rw [show ((0 : Int)).toNat = 0 from rfl] at hw120_0)
          (try rw [show 0 * 3 = 0 from rfl] at hw120_0)
          (try rw [Addr.add_zero'] at hw120_0)
          obtain rfl : ad117 = ad120 := (by injection e120)
          have qi120 : (0 < l0.length) = True := eq_true (by omega)
          (try rw [show ((0 : Int)).toNat = 0 from rfl] at hx120_0)
          (try rw [show 0 * 3 = 0 from rfl] at hx120_0)
          (try rw [Addr.add_zero'] at hx120_0)
          (try rw [show ((0 : Int)).toNat = 0 from rfl] at hx120_1)
          (try rw [show 0 * 3 = 0 from rfl] at hx120_1)
          (try rw [Addr.add_zero'] at hx120_1)
          (try rw [show ((0 : Int)).toNat = 0 from rfl] at hx120_2)
          (try rw [show 0 * 3 = 0 from rfl] at hx120_2)
          (try rw [Addr.add_zero'] at hx120_2)
          replace hx120_0 := (HB.out.cell (World.block_lt_of_cell? w _ hx120_0)).trans hx120_0
          replace hx120_1 := (HB.out.cell (World.block_lt_of_cell? w _ hx120_1)).trans hx120_1
          replace hx120_2 := (HB.out.cell (World.block_lt_of_cell? w _ hx120_2)).trans hx120_2
          have HR120_0 := xm hi120_0
          have HC120_0 := xm hl120_0
          clear hi120_0 hl120_0
          replace p120 := eq_true p120
          replace q120 := eq_true q120
          refine start_ (n := 55) (S := fun w' => w'.cell? ⟨gb118, 0, none⟩ = some (.slice A117_0 ((rd_T45 l0 x7_1).f0.f0).length c117_0) ∧ w'.cell? ⟨gb118, 1, none⟩ = some (.int .i64 ((rd_T45 l0 x7_1).f1)) ∧ w'.cell? ⟨gb118, 2, none⟩ = some (.int .i64 ((rd_T45 l0 x7_1).f2)) ∧ w'.cell? ad117 = some (.slice A120_0 ((rd_T45 l0 0).f0.f0).length c120_0) ∧ w'.cell? ⟨ad117.block, ad117.off + 1, none⟩ = some (.int .i64 ((rd_T45 l0 0).f1)) ∧ w'.cell? ⟨ad117.block, ad117.off + 2, none⟩ = some (.int .i64 ((rd_T45 l0 0).f2))) (ds := []) #[Z,Z,Z,Z,Z,Z,Z,Z,Z,Z,Z,Z,Z,Z,Z,Z,Z,Z,Z,Z,Z,Z,Z,Z,Z,Z,Z,Z,Z,Z,Z,Z,Z,Z,Z,Z,Z,Z,Z,Z,Z,Z,Z,Z,Z,Z,Z,Z,Z,Z,Z,Z,Z,Z,Z] (by kernel_rfl) rfl rfl ⟨(xc BK118.out 0).trans rfl, (xc BK118.out 1).trans rfl, (xc BK118.out 2).trans rfl, ((HB.out.cell (World.block_lt_of_cell? w _ hw120_0)).trans hw120_0), ((HB.out.cell (World.block_lt_of_cell? w _ hw120_1)).trans hw120_1), ((HB.out.cell (World.block_lt_of_cell? w _ hw120_2)).trans hw120_2)⟩ (fun hHeld => ?_); refine with_tabW spec_GoodGroups.tab4 spec_GoodGroups.bits4 (fun HT_ HW_ => ?_)
          generalize w51.drew = w52 at BK118 HB HR120_0 hx120_0 hx120_1 hx120_2 hHeld ⊢
          refine pu 0 55 1 ?_
          refine tx 1 55 3 rfl rfl (take_ofW HT_.out HW_.out (by kernel_rfl)) hHeld (by rintro w' ⟨s0, s1, s2, s3, s4, s5⟩; go_simp; with_reducible rfl) ?_
          refine one_ (i := 2) (N := some 14) #[Y,Y,Y,Z,Z,Z,Z,Z,Z,Z,Z,Z,Z,Z,Z,Z,Z,Z,Z,Z,Z,Z,Z,Z,Z,Z,Z,Z,Z,Z,Z,Z,Z,Z,Z,Z,Z,Z,Z,Z,Z,Z,Z,Z,Z,Z,Z,Z,Z,Z,Z,Z,Z,Z,Z] rfl rfl (one_of HT_.out (by kernel_rfl)) (by decide) (fun K hK => ?_)
          refine goes_ Try.func27 (by kernel_rfl) rfl #[.agg #[.slice A117_0 ((rd_T45 l0 x7_1).f0.f0).length c117_0]] (by rfl) rfl rfl mB ?_
          with_reducible refine (spec_GoodRow.calls k1 _ _ ((rd_T45 l0 x7_1).f0.f0) true _ ?side1 ?side2 A8.out).mono ?_
          (case side1 => exact cB (Kd.C_below HR117_0.out HB.out))
          (case side2 => exact HC117_0.out)
          rintro e w53 ⟨rfl, hb⟩
          refine ⟨_, rfl, ?_⟩
          have n0_ := xm (blk_below (kB BK118) hb)
          have n1_ := xm (below_step bG hb)
          revert n0_ n1_; clear BK118 HB; intro BK118 HB
          (try clear hb)
          (try clear hb2)
          (try clear hk)
          (try clear hi)
          refine hK.out _ _ ⟨(xc BK118.out 0).trans rfl, (xc BK118.out 1).trans rfl, (xc BK118.out 2).trans rfl, ((HB.out.cell (World.block_lt_of_cell? w _ hw120_0)).trans hw120_0), ((HB.out.cell (World.block_lt_of_cell? w _ hw120_1)).trans hw120_1), ((HB.out.cell (World.block_lt_of_cell? w _ hw120_2)).trans hw120_2)⟩ (fun hHeld => nC ?_)
          clear hK K
          refine pu 3 55 15 ?_
          refine pu 4 55 31 ?_
          refine pu 5 55 63 ?_
          refine pu 6 55 127 ?_
          refine pu 9 55 639 ?_
          refine pu 10 55 1663 ?_
          refine pu 11 55 3711 ?_
          refine pu 12 55 7807 ?_
          refine tx 7 55 7935 rfl rfl (take_ofW HT_.out HW_.out (by kernel_rfl)) hHeld (by rintro w' ⟨s0, s1, s2, s3, s4, s5⟩; go_simp; with_reducible rfl) ?_
          refine pu 8 55 8191 ?_
          refine tx 13 55 16383 rfl rfl (take_ofW HT_.out HW_.out (by kernel_rfl)) hHeld (by rintro w' ⟨s0, s1, s2, s3, s4, s5⟩; go_simp; with_reducible rfl) ?_
          refine pu 14 55 32767 ?_
          refine pu 15 55 65535 ?_
          refine pu 16 55 131071 ?_
          refine pu 17 55 262143 ?_
          refine ou 18 55 524287 ?_
          refine ou 19 55 1048575 ?_
          refine ou 20 55 2097151 ?_
          refine ou 21 55 4194303 ?_
          refine pu 22 55 8388607 ?_
          refine pu 23 55 16777215 ?_
          refine ou 24 55 33554431 ?_
          refine ou 25 55 67108863 ?_
          refine ou 26 55 134217727 ?_
          refine ou 27 55 268435455 ?_
          refine pu 28 55 536870911 ?_
          refine pu 29 55 1073741823 ?_
          refine ou 30 55 2147483647 ?_
          refine ou 31 55 4294967295 ?_
          refine ou 32 55 8589934591 ?_
          refine ou 33 55 17179869183 ?_
          refine ou 34 55 34359738367 ?_
          refine ou 35 55 68719476735 ?_
          refine ou 36 55 137438953471 ?_
          refine ou 37 55 274877906943 ?_
          refine pu 38 55 549755813887 ?_
          refine pu 39 55 1099511627775 ?_
          refine ou 40 55 2199023255551 ?_
          refine ou 41 55 4398046511103 ?_
          refine ou 42 55 8796093022207 ?_
          refine ou 43 55 17592186044415 ?_
          refine ou 44 55 35184372088831 ?_
          refine ou 45 55 70368744177663 ?_
          refine ou 46 55 140737488355327 ?_
          refine ou 47 55 281474976710655 ?_
          refine ou 48 55 562949953421311 ?_
          refine ou 49 55 1125899906842623 ?_
          refine ou 50 55 2251799813685247 ?_
          refine ou 51 55 4503599627370495 ?_
          refine ou 52 55 9007199254740991 ?_
          refine ou 53 55 18014398509481983 ?_
          refine pu 54 55 36028797018963967 ?_
          refine done_ (done_of HT_.out (by kernel_rfl)) ?_
          try go_wp2
          go_meet
          case rel => exact ⟨_, (true), (by first | rfl | (simp; done) | (simp [*]; done)), H', ⟨by have := HK1.out; first | omega | exact Nat.le_refl _⟩, ⟨by (with_reducible repeat (first | refine xq ?_ _ | refine xr ?_ | refine xo ?_ _)); exact BK118.out⟩, ⟨by repeat (first | (with_reducible first | exact HB.out | apply xa | apply xn | apply xd | refine xt ?_ GE118.out) | exact HB.out)⟩⟩
        ·rw [if_neg c10] at H
         exact absurd H (by simp)
       ·replace c9 := Bool.eq_false_iff.mpr c9
        subst c9
        have H1 : (spec_GoodGroups.j1 k1 l0 l0 (l0.length : Int) x7_1 true) = some r := by first | (with_reducible rfl) | (rw [if_neg (show ¬ (false = true) by decide)] at H; exact H)
        clear H
        have H := H1
        clear H1
        have H' := xm H
        clear H
        try go_wp2
        have n0_ : Aside0 ((((w6.setCell ⟨gb118, 0, none⟩ (.slice A117_0 ((rd_T45 l0 x7_1).f0.f0).length c117_0)).setCell ⟨gb118, 1, none⟩ (.int .i64 ((rd_T45 l0 x7_1).f1))).setCell ⟨gb118, 2, none⟩ (.int .i64 ((rd_T45 l0 x7_1).f2))).heap[gb118]? = some (.cells #[.slice A117_0 ((rd_T45 l0 x7_1).f0.f0).length c117_0, .int .i64 ((rd_T45 l0 x7_1).f1), .int .i64 ((rd_T45 l0 x7_1).f2)] 45 (0, 0))) := ⟨by (with_reducible repeat (first | refine xq ?_ _ | refine xr ?_ | refine xo ?_ _)); refine blk_put (cs := #[.slice A117_0 ((rd_T45 l0 x7_1).f0.f0).length c117_0, .int .i64 ((rd_T45 l0 x7_1).f1), .int .i64 0]) ?_ 2 _ rfl; (with_reducible repeat (first | refine xq ?_ _ | refine xr ?_ | refine xo ?_ _)); refine blk_put (cs := #[.slice A117_0 ((rd_T45 l0 x7_1).f0.f0).length c117_0, .int .i64 0, .int .i64 0]) ?_ 1 _ rfl; (with_reducible repeat (first | refine xq ?_ _ | refine xr ?_ | refine xo ?_ _)); refine blk_put (cs := #[.slice none 0 0, .int .i64 0, .int .i64 0]) ?_ 0 _ rfl; (with_reducible repeat (first | refine xq ?_ _ | refine xr ?_ | refine xo ?_ _)); exact BK118.out⟩
        have n1_ : Aside0 (Below w.heap.size w (((w6.setCell ⟨gb118, 0, none⟩ (.slice A117_0 ((rd_T45 l0 x7_1).f0.f0).length c117_0)).setCell ⟨gb118, 1, none⟩ (.int .i64 ((rd_T45 l0 x7_1).f1))).setCell ⟨gb118, 2, none⟩ (.int .i64 ((rd_T45 l0 x7_1).f2)))) := ⟨by repeat (first | (with_reducible first | exact HB.out | apply xa | apply xn | apply xd | refine xt ?_ GE118.out) | exact HB.out)⟩
        (try clear BK118)
        (try clear HB)
        generalize (((w6.setCell ⟨gb118, 0, none⟩ (.slice A117_0 ((rd_T45 l0 x7_1).f0.f0).length c117_0)).setCell ⟨gb118, 1, none⟩ (.int .i64 ((rd_T45 l0 x7_1).f1))).setCell ⟨gb118, 2, none⟩ (.int .i64 ((rd_T45 l0 x7_1).f2))) = w54 at n0_ n1_ ⊢
        revert n0_ n1_; intro BK118 HB
        have n0_ := xm (xr BK118.out)
        have n1_ := xm (xd HB.out)
        revert n0_ n1_; clear BK118 HB; intro BK118 HB
        refine start_ (n := 55) (S := fun w' => w'.cell? ⟨gb118, 0, none⟩ = some (.slice A117_0 ((rd_T45 l0 x7_1).f0.f0).length c117_0) ∧ w'.cell? ⟨gb118, 1, none⟩ = some (.int .i64 ((rd_T45 l0 x7_1).f1)) ∧ w'.cell? ⟨gb118, 2, none⟩ = some (.int .i64 ((rd_T45 l0 x7_1).f2))) (ds := []) #[Z,Z,Z,Z,Z,Z,Z,Z,Z,Z,Z,Z,Z,Z,Z,Z,Z,Z,Z,Z,Z,Z,Z,Z,Z,Z,Z,Z,Z,Z,Z,Z,Z,Z,Z,Z,Z,Z,Z,Z,Z,Z,Z,Z,Z,Z,Z,Z,Z,Z,Z,Z,Z,Z,Z] (by kernel_rfl) rfl rfl ⟨(xc BK118.out 0).trans rfl, (xc BK118.out 1).trans rfl, (xc BK118.out 2).trans rfl⟩ (fun hHeld => ?_); refine with_tabW spec_GoodGroups.tab4 spec_GoodGroups.bits4 (fun HT_ HW_ => ?_)
        generalize w54.drew = w55 at BK118 HB hHeld ⊢
        refine pu 0 55 1 ?_
        refine tx 1 55 3 rfl rfl (take_ofW HT_.out HW_.out (by kernel_rfl)) hHeld (by rintro w' ⟨s0, s1, s2⟩; go_simp; with_reducible rfl) ?_
        refine one_ (i := 2) (N := some 14) #[Y,Y,Y,Z,Z,Z,Z,Z,Z,Z,Z,Z,Z,Z,Z,Z,Z,Z,Z,Z,Z,Z,Z,Z,Z,Z,Z,Z,Z,Z,Z,Z,Z,Z,Z,Z,Z,Z,Z,Z,Z,Z,Z,Z,Z,Z,Z,Z,Z,Z,Z,Z,Z,Z,Z] rfl rfl (one_of HT_.out (by kernel_rfl)) (by decide) (fun K hK => ?_)
        refine goes_ Try.func27 (by kernel_rfl) rfl #[.agg #[.slice A117_0 ((rd_T45 l0 x7_1).f0.f0).length c117_0]] (by rfl) rfl rfl mB ?_
        with_reducible refine (spec_GoodRow.calls k1 _ _ ((rd_T45 l0 x7_1).f0.f0) false _ ?side1 ?side2 A8.out).mono ?_
        (case side1 => exact cB (Kd.C_below HR117_0.out HB.out))
        (case side2 => exact HC117_0.out)
        rintro e w56 ⟨rfl, hb⟩
        refine ⟨_, rfl, ?_⟩
        have n0_ := xm (blk_below (kB BK118) hb)
        have n1_ := xm (below_step bG hb)
        revert n0_ n1_; clear BK118 HB; intro BK118 HB
        (try clear hb)
        (try clear hb2)
        (try clear hk)
        (try clear hi)
        refine hK.out _ _ ⟨(xc BK118.out 0).trans rfl, (xc BK118.out 1).trans rfl, (xc BK118.out 2).trans rfl⟩ (fun hHeld => nC ?_)
        clear hK K
        refine pu 3 55 15 ?_
        refine pu 4 55 31 ?_
        refine ou 5 55 63 ?_
        refine ou 6 55 127 ?_
        refine ou 7 55 255 ?_
        refine ou 8 55 511 ?_
        refine ou 9 55 1023 ?_
        refine ou 10 55 2047 ?_
        refine ou 11 55 4095 ?_
        refine ou 12 55 8191 ?_
        refine ou 13 55 16383 ?_
        refine ou 14 55 32767 ?_
        refine ou 15 55 65535 ?_
        refine pu 16 55 131071 ?_
        refine pu 17 55 262143 ?_
        refine ou 18 55 524287 ?_
        refine ou 19 55 1048575 ?_
        refine ou 20 55 2097151 ?_
        refine ou 21 55 4194303 ?_
        refine pu 22 55 8388607 ?_
        refine pu 23 55 16777215 ?_
        refine ou 24 55 33554431 ?_
        refine ou 25 55 67108863 ?_
        refine ou 26 55 134217727 ?_
        refine ou 27 55 268435455 ?_
        refine pu 28 55 536870911 ?_
        refine pu 29 55 1073741823 ?_
        refine ou 30 55 2147483647 ?_
        refine ou 31 55 4294967295 ?_
        refine ou 32 55 8589934591 ?_
        refine ou 33 55 17179869183 ?_
        refine ou 34 55 34359738367 ?_
        refine ou 35 55 68719476735 ?_
        refine ou 36 55 137438953471 ?_
        refine ou 37 55 274877906943 ?_
        refine pu 38 55 549755813887 ?_
        refine pu 39 55 1099511627775 ?_
        refine ou 40 55 2199023255551 ?_
        refine ou 41 55 4398046511103 ?_
        refine ou 42 55 8796093022207 ?_
        refine ou 43 55 17592186044415 ?_
        refine ou 44 55 35184372088831 ?_
        refine ou 45 55 70368744177663 ?_
        refine ou 46 55 140737488355327 ?_
        refine ou 47 55 281474976710655 ?_
        refine ou 48 55 562949953421311 ?_
        refine ou 49 55 1125899906842623 ?_
        refine ou 50 55 2251799813685247 ?_
        refine ou 51 55 4503599627370495 ?_
        refine ou 52 55 9007199254740991 ?_
        refine ou 53 55 18014398509481983 ?_
        refine pu 54 55 36028797018963967 ?_
        refine done_ (done_of HT_.out (by kernel_rfl)) ?_
        try go_wp2
        go_meet
        case rel => exact ⟨_, (true), (by first | rfl | (simp; done) | (simp [*]; done)), H', ⟨by have := HK1.out; first | omega | exact Nat.le_refl _⟩, ⟨by (with_reducible repeat (first | refine xq ?_ _ | refine xr ?_ | refine xo ?_ _)); exact BK118.out⟩, ⟨by repeat (first | (with_reducible first | exact HB.out | apply xa | apply xn | apply xd | refine xt ?_ GE118.out) | exact HB.out)⟩⟩
      case rest =>
       clear HC5
       try clear c1
       try clear c2
       try clear p2
       try clear c9
       try clear c10
       try clear c11
       try clear c27
       obtain ⟨kq, x66_4, rfl, HA, HJ4, BK118, HB⟩ := hcut
       cases kq with
       | zero => exact absurd HA.out (by simp [spec_GoodGroups.j1])
       | succ kj4 =>
        have H := HA.out
        clear HA
        simp only [spec_GoodGroups.j1] at H
        by_cases c57 : x66_4 = true
        ·subst c57
         have H1 : (some false) = some r := by first | (with_reducible rfl) | (rw [if_pos rfl] at H; exact H)
         clear H
         have H := H1
         clear H1
         obtain rfl := Option.some.inj H
         go_wp2
         go_ret
         exact ⟨by first | rfl | (simp [errW_none, errW_some] <;> rfl) | (simp [*, errW_none, errW_some] <;> rfl), by repeat (first | (with_reducible first | exact HB.out | apply xa | apply xn | apply xd | refine xt ?_ GE118.out) | exact HB.out)⟩
        ·replace c57 := Bool.eq_false_iff.mpr c57
         subst c57
         have H1 : (spec_GoodGroups.l0 kj4 l0 l0 (l0.length : Int) (wrap64 (x7_1 + 1))) = some r := by first | (with_reducible rfl) | (rw [if_neg (show ¬ (false = true) by decide)] at H; exact H)
         clear H
         have H := H1
         clear H1
         have H' := xm H
         clear H
         go_wp2
         go_roundg kj4
         case measure => have := HK1.out; have := HJ4.out; omega
         case rel => exact ⟨(wrap64 (x7_1 + 1)), (by first | rfl | (simp; done) | (simp [*]; done)), H', ⟨by have := HK1.out; have := HJ4.out; omega⟩, ⟨by repeat (first | (with_reducible first | exact HB.out | apply xa | apply xn | apply xd | refine xt ?_ GE118.out) | exact HB.out)⟩⟩
     ·rw [if_neg c4] at H
      exact absurd H (by simp)
    ·rw [if_neg c3] at H
     exact absurd H (by simp)
   ·rw [if_neg c2] at H
    have c2b0 : decide (x7_1 < (l0.length : Int)) = false := decide_eq_false c2
    clear c2
    obtain rfl := Option.some.inj H
    go_wp2
    go_ret
    exact ⟨by first | rfl | (simp [errW_none, errW_some] <;> rfl) | (simp [*, errW_none, errW_some] <;> rfl), by repeat (first | (with_reducible first | exact HB.out | apply xa | apply xn | apply xd) | exact HB.out)⟩

end Go.Proofs.Ytaddemalepndfaa.G
