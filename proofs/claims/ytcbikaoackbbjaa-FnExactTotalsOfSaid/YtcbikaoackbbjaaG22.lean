/- Written by a program of this claim's own, out of the translation: functions of the program as plain functions, and that the calls answer as these. No conditions. -/
import Derived.Test.YtcbikaoackbbjaaG0
import Derived.Test.YtcbikaoackbbjaaG2
import Derived.Test.YtcbikaoackbbjaaG11
import Derived.Test.YtcbikaoackbbjaaG21
namespace Go.Proofs.Ytcbikaoackbbjaa.G
open Go.RowKit Go.Proofs.Ytcbikaoackbbjaa.X Go.Proofs.YtcbikaoackbbjaaW.PrintWords Go.Proofs.YtcbikaoackbbjaaW.PrintLast Go.Proofs.YtcbikaoackbbjaaW.PrintMore
attribute [local go_sem] max2_int min2_int max_two min_two max_three min_three max_four min_four   -- for this text's walks alone
set_option linter.unusedVariables false
set_option linter.unusedSimpArgs false

/-! ### spec_GoodGroups: function 36 -/
mutual
def spec_GoodGroups.l0 : Nat → List (S119) → List (S119) → Int → Int → Option (Bool)
 | 0, _, _, _, _ => none
 | k + 1, x0, x5, x6, x7 => if x7 < x6 then (if 0 ≤ x7 then (if x7 < (x5.length : Int) then ((spec_GoodRow.f k ((rd_T119 x5 x7).f0.f0)).bind fun t334 => (if t334 = true then (if 0 < (x0.length : Int) then (if (((rd_T119 x5 x7).f0.f0).length : Int) = (((rd_T119 x0 0).f0.f0).length : Int) then ((spec_l5Sum.f ((rd_T119 x5 x7).f1)).bind fun t336 => (if t336 = true then ((spec_l5Sum.f ((rd_T119 x5 x7).f2)).bind fun t337 => (if t337 = true then (if ((rd_T119 x5 x7).f1) = 0 then (if ((rd_T119 x5 x7).f2) = 0 then (spec_GoodGroups.j1 k x0 x5 x6 x7 true) else (if x7 > 0 then (if 0 ≤ (wrap64 (x7 - 1)) then (if (wrap64 (x7 - 1)) < (x0.length : Int) then ((spec_l1Compare.f k ((rd_T119 x0 (wrap64 (x7 - 1))).f0.f0) ((rd_T119 x5 x7).f0.f0)).bind fun t339 => (spec_GoodGroups.j1 k x0 x5 x6 x7 (decide (t339 ≥ 0)))) else (none)) else (none)) else (spec_GoodGroups.j1 k x0 x5 x6 x7 false))) else (if x7 > 0 then (if 0 ≤ (wrap64 (x7 - 1)) then (if (wrap64 (x7 - 1)) < (x0.length : Int) then ((spec_l1Compare.f k ((rd_T119 x0 (wrap64 (x7 - 1))).f0.f0) ((rd_T119 x5 x7).f0.f0)).bind fun t341 => (spec_GoodGroups.j1 k x0 x5 x6 x7 (decide (t341 ≥ 0)))) else (none)) else (none)) else (spec_GoodGroups.j1 k x0 x5 x6 x7 false))) else (spec_GoodGroups.j1 k x0 x5 x6 x7 true))) else (spec_GoodGroups.j1 k x0 x5 x6 x7 true))) else (spec_GoodGroups.j1 k x0 x5 x6 x7 true)) else (none)) else (spec_GoodGroups.j1 k x0 x5 x6 x7 true))) else (none)) else (none)) else (some (decide ((x0.length : Int) ≤ 60)))
def spec_GoodGroups.j1 : Nat → List (S119) → List (S119) → Int → Int → Bool → Option (Bool)
 | 0, _, _, _, _, _ => none
 | k + 1, x0, x5, x6, x7, x66 => if x66 = true then (some false) else (spec_GoodGroups.l0 k x0 x5 x6 (wrap64 (x7 + 1)))
end
def spec_GoodGroups.f (k : Nat) (l0 : List (S119)) : Option (Bool) := spec_GoodGroups.l0 k l0 l0 (l0.length : Int) 0
theorem spec_GoodGroups.mono_l : ∀ k, (∀ y0 y1 y2 y3, LeO (spec_GoodGroups.l0 k y0 y1 y2 y3) (spec_GoodGroups.l0 (k + 1) y0 y1 y2 y3)) ∧ (∀ y0 y1 y2 y3 y4, LeO (spec_GoodGroups.j1 k y0 y1 y2 y3 y4) (spec_GoodGroups.j1 (k + 1) y0 y1 y2 y3 y4))
 | 0 => ⟨fun _ _ _ _ r h => by simp [spec_GoodGroups.l0] at h, fun _ _ _ _ _ r h => by simp [spec_GoodGroups.j1] at h⟩
 | k + 1 => by
  obtain ⟨ih0, ih1⟩ := spec_GoodGroups.mono_l k
  refine ⟨?_, ?_⟩
  ·intro y0 y1 y2 y3
   unfold spec_GoodGroups.l0
   repeat' first
   | (with_reducible exact ih0 _ _ _ _)
   | (with_reducible exact ih1 _ _ _ _ _)
   | (with_reducible exact spec_GoodRow.mono _ _)
   | (with_reducible exact spec_l1Compare.mono _ _ _)
   | (with_reducible exact LeO.refl _)
   | (with_reducible exact LeO.none _)
   | (with_reducible refine LeO.ite ?_ ?_)
   | (with_reducible refine LeO.bind ?_ (fun _ => ?_))
   | exact ih0 _ _ _ _
   | exact ih1 _ _ _ _ _
   | exact spec_GoodRow.mono _ _
   | exact spec_l1Compare.mono _ _ _
   | exact LeO.none _
   | refine LeO.ite ?_ ?_
   | refine LeO.bind ?_ (fun _ => ?_)
  ·intro y0 y1 y2 y3 y4
   unfold spec_GoodGroups.j1
   repeat' first
   | (with_reducible exact ih0 _ _ _ _)
   | (with_reducible exact ih1 _ _ _ _ _)
   | (with_reducible exact spec_GoodRow.mono _ _)
   | (with_reducible exact spec_l1Compare.mono _ _ _)
   | (with_reducible exact LeO.refl _)
   | (with_reducible exact LeO.none _)
   | (with_reducible refine LeO.ite ?_ ?_)
   | (with_reducible refine LeO.bind ?_ (fun _ => ?_))
   | exact ih0 _ _ _ _
   | exact ih1 _ _ _ _ _
   | exact spec_GoodRow.mono _ _
   | exact spec_l1Compare.mono _ _ _
   | exact LeO.none _
   | refine LeO.ite ?_ ?_
   | refine LeO.bind ?_ (fun _ => ?_)
theorem spec_GoodGroups.mono : ∀ a0 k, LeO (spec_GoodGroups.f k a0) (spec_GoodGroups.f (k + 1) a0) := by
 intro a0 k
 obtain ⟨ih0, ih1⟩ := spec_GoodGroups.mono_l k
 unfold spec_GoodGroups.f
 repeat' first
   | (with_reducible exact ih0 _ _ _ _)
   | (with_reducible exact ih1 _ _ _ _ _)
   | (with_reducible exact spec_GoodRow.mono _ _)
   | (with_reducible exact spec_l1Compare.mono _ _ _)
   | (with_reducible exact LeO.refl _)
   | (with_reducible exact LeO.none _)
   | (with_reducible refine LeO.ite ?_ ?_)
   | (with_reducible refine LeO.bind ?_ (fun _ => ?_))
   | exact ih0 _ _ _ _
   | exact ih1 _ _ _ _ _
   | exact spec_GoodRow.mono _ _
   | exact spec_l1Compare.mono _ _ _
   | exact LeO.none _
   | refine LeO.ite ?_ ?_
   | refine LeO.bind ?_ (fun _ => ?_)
def spec_GoodGroups.T4 : Bool × List (List Nat × List Nat) := (true, [([], []), ([0], [0]), ([1], [1]), ([2], [2]), ([3, 2], [3]), ([4], [4]), ([5, 4], [4, 5]), ([6, 4], [4, 6]), ([7, 4], [4, 7]), ([4], [4]), ([9, 4], [4, 9]), ([10, 4], [4, 10]), ([11, 4], [4, 11]), ([12, 4], [4, 12]), ([13, 4], [4, 13]), ([8, 14, 4], [4, 8, 14]), ([4, 15], [4, 15]), ([16, 4], [16]), ([17], [17]), ([18, 17], [17, 18]), ([19, 17, 17], [17, 19]), ([20, 17], [17, 20]), ([17, 21], [17, 21]), ([22, 20], [22]), ([23], [23]), ([24, 23], [23, 24]), ([25, 23, 23], [23, 25]), ([26, 23], [23, 26]), ([23, 27], [23, 27]), ([28, 26], [28]), ([29], [29]), ([30, 29], [29, 30]), ([31, 29], [29, 31]), ([32, 29, 29], [29, 32]), ([33], [33]), ([34, 33], [33, 34]), ([35, 33], [33, 35]), ([33, 36, 29], [29, 33, 36]), ([29, 37], [29, 37]), ([38, 33], [38]), ([39], [39]), ([40, 39], [39, 40]), ([41, 39, 39], [39, 41]), ([42], [42]), ([42], [42]), ([44, 42], [42, 44]), ([43, 45, 42], [42, 43, 45]), ([46, 42], [42, 46]), ([47, 42], [42, 47]), ([42], [42]), ([49, 42], [42, 49]), ([48, 50, 42, 42], [42, 48, 50]), ([51, 42], [42, 51]), ([42, 52, 39], [39, 42, 52]), ([39, 53], [39, 53])])
def spec_GoodGroups.B4 : List Nat := [0, 1, 3, 7, 15, 31, 63, 127, 255, 31, 543, 1567, 3615, 7711, 15903, 32767, 65535, 131071, 262143, 524287, 1048575, 2097151, 4194303, 8388607, 16777215, 33554431, 67108863, 134217727, 268435455, 536870911, 1073741823, 2147483647, 4294967295, 8589934591, 17179869183, 34359738367, 68719476735, 137438953471, 274877906943, 549755813887, 1099511627775, 2199023255551, 4398046511103, 8796093022207, 8796093022207, 26388279066623, 70368744177663, 140737488355327, 281474976710655, 8796093022207, 571746046443519, 2251799813685247, 4503599627370495, 9007199254740991, 18014398509481983]
theorem spec_GoodGroups.tab4 : rtab .any (opsOf Try.f36 4) = spec_GoodGroups.T4 := by kernel_rfl
theorem spec_GoodGroups.bits4 : waitsOk spec_GoodGroups.T4.2 spec_GoodGroups.B4 = true := by kernel_rfl
set_option maxHeartbeats 8000000 in
set_option maxRecDepth 100000 in
theorem spec_GoodGroups.calls (k : Nat) (A0 : Option Addr) (c0 : Nat) (l0 : List (S119)) (r : Bool) (w : World) (hr0 : Kd.C k119 w A0 l0.length l0) (hc0 : l0.length ≤ c0) (h : spec_GoodGroups.f k l0 = some r) :
  Calls Try.prog 36 #[.slice A0 l0.length c0] w fun e w' => e = .returned (.bool r) ∧ Below w.heap.size w w' := by
 have hu119 := Try.underlying119
 have hu26 := Try.underlying26
 have HR0 := xm hr0
 have HC0 := xm hc0
 clear hr0 hc0
 have HB := xm (Below.refl w.heap.size w)
 have H : (spec_GoodGroups.l0 k l0 l0 (l0.length : Int) 0) = some r := h
 clear h
 have H' := xm H
 clear H
 go_enter Try.func36, Try.ntmps36
 go_wp2
 go_loopg [7] k (fun kq v7 w' => ∃ (x7_1 : Int), v7 = .int .i64 x7_1 ∧ Aside0 (spec_GoodGroups.l0 kq l0 l0 (l0.length : Int) x7_1 = some r) ∧ Aside0 (kq ≤ k) ∧ Aside0 (Below w.heap.size w w'))
 case atStart => exact ⟨(0), (by first | rfl | (simp; done) | (simp [*]; done)), H', ⟨Nat.le_refl _⟩, ⟨by repeat (first | (with_reducible first | exact HB.out | apply xa | apply xn | apply xd) | exact HB.out)⟩⟩
 case round =>
  clear H'
  obtain ⟨x7_1, rfl, HA, HK1, HB⟩ := hrel
  cases gk with
  | zero => exact absurd HA.out (by simp [spec_GoodGroups.l0])
  | succ k1 =>
   have H := HA.out
   clear HA
   simp only [spec_GoodGroups.l0] at H
   by_cases c2 : x7_1 < (l0.length : Int)
   ·rw [if_pos c2] at H
    have c2b0 : decide (x7_1 < (l0.length : Int)) = true := decide_eq_true c2
    clear c2
    by_cases c3 : 0 ≤ x7_1
    ·rw [if_pos c3] at H
     have c3b0 : decide (0 ≤ x7_1) = true := decide_eq_true c3
     clear c3
     by_cases c4 : x7_1 < (l0.length : Int)
     ·rw [if_pos c4] at H
      have c4b0 : decide (x7_1 < (l0.length : Int)) = true := decide_eq_true c4
      clear c4
      have HC5 := xm H
      clear H
      have p332 : 0 ≤ (x7_1 : Int) := of_decide_eq_true (by first | (with_reducible assumption) | assumption)
      have q332 : x7_1 < (l0.length : Int) := of_decide_eq_true (by first | (with_reducible assumption) | assumption)
      obtain ⟨ad332, A332_0, c332_0, e332, hx332_0, hx332_1, hx332_2, hl332_0, hi332_0⟩ := at_T119 HR0.out x7_1 p332 q332
      cases e332
      replace hx332_0 := (HB.out.cell (World.block_lt_of_cell? w _ hx332_0)).trans hx332_0
      replace hx332_1 := (HB.out.cell (World.block_lt_of_cell? w _ hx332_1)).trans hx332_1
      replace hx332_2 := (HB.out.cell (World.block_lt_of_cell? w _ hx332_2)).trans hx332_2
      have HR332_0 := xm hi332_0
      have HC332_0 := xm hl332_0
      clear hi332_0 hl332_0
      replace p332 := eq_true p332
      replace q332 := eq_true q332
      go_upto_region 4 with (first | ((with_reducible refine gate_dst (N := 4) rfl ?_); (try (refine gate_guard (by rfl) ?_; dsimp only)); refine box_event ?hg (N := 4) ?hd (cs := #[.slice none 0 0, .int .i64 0, .int .i64 0]) (t := 119) ?hr ?_; (case hd => rfl); (case hg => rfl); (case hr => first | (go_simp; done) | (go_simp; rfl)); intro gb333 hg w6 hbox hb; have n0_ := xm (below_step (by repeat (first | (with_reducible first | exact HB.out | apply xa | apply xn | apply xd) | exact HB.out)) hb); have n1_ := xm (hbox); have n2_ := xm ((by rw [hg]; exact (xz (by repeat (first | (with_reducible first | exact HB.out | apply xa | apply xn | apply xd) | exact HB.out))) : w.heap.size ≤ gb333)); have n3_ := xm ((by rw [hg]; exact (xz (by repeat (first | (with_reducible first | exact HB.out | apply xa | apply xn | apply xd) | exact HB.out))) : w.heap.size ≤ gb333)); clear HB; have HB := n0_; have BK333 := n1_; have GW333 := n2_; have GE333 := n3_; clear n0_ n1_ n2_ n3_; clear hb hbox hg; have hcz7_0 : w6.cell? ⟨gb333, 0, none⟩ = some (.slice none 0 0) := (xc BK333.out 0).trans rfl; have hcz7_1 : w6.cell? ⟨gb333, 1, none⟩ = some (.int .i64 0) := (xc BK333.out 1).trans rfl; have hcz7_2 : w6.cell? ⟨gb333, 2, none⟩ = some (.int .i64 0) := (xc BK333.out 2).trans rfl; have hfz7_0 := xf BK333.out 0; have hfz7_1 := xf BK333.out 1; have hfz7_2 := xf BK333.out 2))
      (try simp only [Act.put, xi, xj, xk])
      go_cut [66] (fun v66 wc => ∃ (kq : Nat) (x66_4 : Bool), v66 = .bool x66_4 ∧ Aside0 (spec_GoodGroups.j1 kq l0 l0 (l0.length : Int) x7_1 x66_4 = some r) ∧ Aside0 (kq ≤ k1) ∧ Aside0 (wc.heap[gb333]? = some (.cells #[(.slice A332_0 ((rd_T119 l0 x7_1).f0.f0).length c332_0), .int .i64 ((rd_T119 l0 x7_1).f1), .int .i64 ((rd_T119 l0 x7_1).f2)] 119 (0, 0))) ∧ Aside0 (Below w.heap.size w wc))
      case first =>
       have H := HC5.out
       clear HC5
       replace H := Option.bind_eq_some_iff.mp H
       obtain ⟨t334, A80, H⟩ := H
       replace H : (if t334 = true then (if 0 < (l0.length : Int) then (if (((rd_T119 l0 x7_1).f0.f0).length : Int) = (((rd_T119 l0 0).f0.f0).length : Int) then ((spec_l5Sum.f ((rd_T119 l0 x7_1).f1)).bind fun t336 => (if t336 = true then ((spec_l5Sum.f ((rd_T119 l0 x7_1).f2)).bind fun t337 => (if t337 = true then (if ((rd_T119 l0 x7_1).f1) = 0 then (if ((rd_T119 l0 x7_1).f2) = 0 then (spec_GoodGroups.j1 k1 l0 l0 (l0.length : Int) x7_1 true) else (if x7_1 > 0 then (if 0 ≤ (wrap64 (x7_1 - 1)) then (if (wrap64 (x7_1 - 1)) < (l0.length : Int) then ((spec_l1Compare.f k1 ((rd_T119 l0 (wrap64 (x7_1 - 1))).f0.f0) ((rd_T119 l0 x7_1).f0.f0)).bind fun t339 => (spec_GoodGroups.j1 k1 l0 l0 (l0.length : Int) x7_1 (decide (t339 ≥ 0)))) else (none)) else (none)) else (spec_GoodGroups.j1 k1 l0 l0 (l0.length : Int) x7_1 false))) else (if x7_1 > 0 then (if 0 ≤ (wrap64 (x7_1 - 1)) then (if (wrap64 (x7_1 - 1)) < (l0.length : Int) then ((spec_l1Compare.f k1 ((rd_T119 l0 (wrap64 (x7_1 - 1))).f0.f0) ((rd_T119 l0 x7_1).f0.f0)).bind fun t341 => (spec_GoodGroups.j1 k1 l0 l0 (l0.length : Int) x7_1 (decide (t341 ≥ 0)))) else (none)) else (none)) else (spec_GoodGroups.j1 k1 l0 l0 (l0.length : Int) x7_1 false))) else (spec_GoodGroups.j1 k1 l0 l0 (l0.length : Int) x7_1 true))) else (spec_GoodGroups.j1 k1 l0 l0 (l0.length : Int) x7_1 true))) else (spec_GoodGroups.j1 k1 l0 l0 (l0.length : Int) x7_1 true)) else (none)) else (spec_GoodGroups.j1 k1 l0 l0 (l0.length : Int) x7_1 true)) = some r := H
       have A8 := xm A80
       clear A80
       by_cases c9 : t334 = true
       ·subst c9
        have H1 : (if 0 < (l0.length : Int) then (if (((rd_T119 l0 x7_1).f0.f0).length : Int) = (((rd_T119 l0 0).f0.f0).length : Int) then ((spec_l5Sum.f ((rd_T119 l0 x7_1).f1)).bind fun t336 => (if t336 = true then ((spec_l5Sum.f ((rd_T119 l0 x7_1).f2)).bind fun t337 => (if t337 = true then (if ((rd_T119 l0 x7_1).f1) = 0 then (if ((rd_T119 l0 x7_1).f2) = 0 then (spec_GoodGroups.j1 k1 l0 l0 (l0.length : Int) x7_1 true) else (if x7_1 > 0 then (if 0 ≤ (wrap64 (x7_1 - 1)) then (if (wrap64 (x7_1 - 1)) < (l0.length : Int) then ((spec_l1Compare.f k1 ((rd_T119 l0 (wrap64 (x7_1 - 1))).f0.f0) ((rd_T119 l0 x7_1).f0.f0)).bind fun t339 => (spec_GoodGroups.j1 k1 l0 l0 (l0.length : Int) x7_1 (decide (t339 ≥ 0)))) else (none)) else (none)) else (spec_GoodGroups.j1 k1 l0 l0 (l0.length : Int) x7_1 false))) else (if x7_1 > 0 then (if 0 ≤ (wrap64 (x7_1 - 1)) then (if (wrap64 (x7_1 - 1)) < (l0.length : Int) then ((spec_l1Compare.f k1 ((rd_T119 l0 (wrap64 (x7_1 - 1))).f0.f0) ((rd_T119 l0 x7_1).f0.f0)).bind fun t341 => (spec_GoodGroups.j1 k1 l0 l0 (l0.length : Int) x7_1 (decide (t341 ≥ 0)))) else (none)) else (none)) else (spec_GoodGroups.j1 k1 l0 l0 (l0.length : Int) x7_1 false))) else (spec_GoodGroups.j1 k1 l0 l0 (l0.length : Int) x7_1 true))) else (spec_GoodGroups.j1 k1 l0 l0 (l0.length : Int) x7_1 true))) else (spec_GoodGroups.j1 k1 l0 l0 (l0.length : Int) x7_1 true)) else (none)) = some r := by first | (with_reducible rfl) | (rw [if_pos rfl] at H; exact H)
        clear H
        have H := H1
        clear H1
        by_cases c10 : 0 < (l0.length : Int)
        ·rw [if_pos c10] at H
         have c10b0 : decide (0 < (l0.length : Int)) = true := decide_eq_true c10
         have c10b1 : decide (0 < l0.length) = true := decide_eq_true (by omega)
         clear c10
         (first | rw [c10b0] | (simp only [i64_w, i32_w]; rw [c10b0]) | skip)
         by_cases c11 : (((rd_T119 l0 x7_1).f0.f0).length : Int) = (((rd_T119 l0 0).f0.f0).length : Int)
         ·rw [if_pos c11] at H
          have c11b0 : ((((rd_T119 l0 x7_1).f0.f0).length : Int) == (((rd_T119 l0 0).f0.f0).length : Int)) = true := beq_iff_eq.mpr c11
          have c11b1 : ((((rd_T119 l0 x7_1).f0.f0).length : Int) != (((rd_T119 l0 0).f0.f0).length : Int)) = false := bne_eq_false_iff_eq.mpr c11
          have c11b2 : (((rd_T119 l0 x7_1).f0.f0).length == ((rd_T119 l0 0).f0.f0).length) = true := by first | simpa using c11 | (simp at c11 ⊢; omega)
          clear c11
          replace H := Option.bind_eq_some_iff.mp H
          obtain ⟨t336, A120, H⟩ := H
          replace H : (if t336 = true then ((spec_l5Sum.f ((rd_T119 l0 x7_1).f2)).bind fun t337 => (if t337 = true then (if ((rd_T119 l0 x7_1).f1) = 0 then (if ((rd_T119 l0 x7_1).f2) = 0 then (spec_GoodGroups.j1 k1 l0 l0 (l0.length : Int) x7_1 true) else (if x7_1 > 0 then (if 0 ≤ (wrap64 (x7_1 - 1)) then (if (wrap64 (x7_1 - 1)) < (l0.length : Int) then ((spec_l1Compare.f k1 ((rd_T119 l0 (wrap64 (x7_1 - 1))).f0.f0) ((rd_T119 l0 x7_1).f0.f0)).bind fun t339 => (spec_GoodGroups.j1 k1 l0 l0 (l0.length : Int) x7_1 (decide (t339 ≥ 0)))) else (none)) else (none)) else (spec_GoodGroups.j1 k1 l0 l0 (l0.length : Int) x7_1 false))) else (if x7_1 > 0 then (if 0 ≤ (wrap64 (x7_1 - 1)) then (if (wrap64 (x7_1 - 1)) < (l0.length : Int) then ((spec_l1Compare.f k1 ((rd_T119 l0 (wrap64 (x7_1 - 1))).f0.f0) ((rd_T119 l0 x7_1).f0.f0)).bind fun t341 => (spec_GoodGroups.j1 k1 l0 l0 (l0.length : Int) x7_1 (decide (t341 ≥ 0)))) else (none)) else (none)) else (spec_GoodGroups.j1 k1 l0 l0 (l0.length : Int) x7_1 false))) else (spec_GoodGroups.j1 k1 l0 l0 (l0.length : Int) x7_1 true))) else (spec_GoodGroups.j1 k1 l0 l0 (l0.length : Int) x7_1 true)) = some r := H
          have A12 := xm A120
          clear A120
          by_cases c13 : t336 = true
          ·subst c13
           have H1 : ((spec_l5Sum.f ((rd_T119 l0 x7_1).f2)).bind fun t337 => (if t337 = true then (if ((rd_T119 l0 x7_1).f1) = 0 then (if ((rd_T119 l0 x7_1).f2) = 0 then (spec_GoodGroups.j1 k1 l0 l0 (l0.length : Int) x7_1 true) else (if x7_1 > 0 then (if 0 ≤ (wrap64 (x7_1 - 1)) then (if (wrap64 (x7_1 - 1)) < (l0.length : Int) then ((spec_l1Compare.f k1 ((rd_T119 l0 (wrap64 (x7_1 - 1))).f0.f0) ((rd_T119 l0 x7_1).f0.f0)).bind fun t339 => (spec_GoodGroups.j1 k1 l0 l0 (l0.length : Int) x7_1 (decide (t339 ≥ 0)))) else (none)) else (none)) else (spec_GoodGroups.j1 k1 l0 l0 (l0.length : Int) x7_1 false))) else (if x7_1 > 0 then (if 0 ≤ (wrap64 (x7_1 - 1)) then (if (wrap64 (x7_1 - 1)) < (l0.length : Int) then ((spec_l1Compare.f k1 ((rd_T119 l0 (wrap64 (x7_1 - 1))).f0.f0) ((rd_T119 l0 x7_1).f0.f0)).bind fun t341 => (spec_GoodGroups.j1 k1 l0 l0 (l0.length : Int) x7_1 (decide (t341 ≥ 0)))) else (none)) else (none)) else (spec_GoodGroups.j1 k1 l0 l0 (l0.length : Int) x7_1 false))) else (spec_GoodGroups.j1 k1 l0 l0 (l0.length : Int) x7_1 true))) = some r := by first | (with_reducible rfl) | (rw [if_pos rfl] at H; exact H)
           clear H
           have H := H1
           clear H1
           replace H := Option.bind_eq_some_iff.mp H
           obtain ⟨t337, A140, H⟩ := H
           replace H : (if t337 = true then (if ((rd_T119 l0 x7_1).f1) = 0 then (if ((rd_T119 l0 x7_1).f2) = 0 then (spec_GoodGroups.j1 k1 l0 l0 (l0.length : Int) x7_1 true) else (if x7_1 > 0 then (if 0 ≤ (wrap64 (x7_1 - 1)) then (if (wrap64 (x7_1 - 1)) < (l0.length : Int) then ((spec_l1Compare.f k1 ((rd_T119 l0 (wrap64 (x7_1 - 1))).f0.f0) ((rd_T119 l0 x7_1).f0.f0)).bind fun t339 => (spec_GoodGroups.j1 k1 l0 l0 (l0.length : Int) x7_1 (decide (t339 ≥ 0)))) else (none)) else (none)) else (spec_GoodGroups.j1 k1 l0 l0 (l0.length : Int) x7_1 false))) else (if x7_1 > 0 then (if 0 ≤ (wrap64 (x7_1 - 1)) then (if (wrap64 (x7_1 - 1)) < (l0.length : Int) then ((spec_l1Compare.f k1 ((rd_T119 l0 (wrap64 (x7_1 - 1))).f0.f0) ((rd_T119 l0 x7_1).f0.f0)).bind fun t341 => (spec_GoodGroups.j1 k1 l0 l0 (l0.length : Int) x7_1 (decide (t341 ≥ 0)))) else (none)) else (none)) else (spec_GoodGroups.j1 k1 l0 l0 (l0.length : Int) x7_1 false))) else (spec_GoodGroups.j1 k1 l0 l0 (l0.length : Int) x7_1 true)) = some r := H
           have A14 := xm A140
           clear A140
           by_cases c15 : t337 = true
           ·subst c15
            have H1 : (if ((rd_T119 l0 x7_1).f1) = 0 then (if ((rd_T119 l0 x7_1).f2) = 0 then (spec_GoodGroups.j1 k1 l0 l0 (l0.length : Int) x7_1 true) else (if x7_1 > 0 then (if 0 ≤ (wrap64 (x7_1 - 1)) then (if (wrap64 (x7_1 - 1)) < (l0.length : Int) then ((spec_l1Compare.f k1 ((rd_T119 l0 (wrap64 (x7_1 - 1))).f0.f0) ((rd_T119 l0 x7_1).f0.f0)).bind fun t339 => (spec_GoodGroups.j1 k1 l0 l0 (l0.length : Int) x7_1 (decide (t339 ≥ 0)))) else (none)) else (none)) else (spec_GoodGroups.j1 k1 l0 l0 (l0.length : Int) x7_1 false))) else (if x7_1 > 0 then (if 0 ≤ (wrap64 (x7_1 - 1)) then (if (wrap64 (x7_1 - 1)) < (l0.length : Int) then ((spec_l1Compare.f k1 ((rd_T119 l0 (wrap64 (x7_1 - 1))).f0.f0) ((rd_T119 l0 x7_1).f0.f0)).bind fun t341 => (spec_GoodGroups.j1 k1 l0 l0 (l0.length : Int) x7_1 (decide (t341 ≥ 0)))) else (none)) else (none)) else (spec_GoodGroups.j1 k1 l0 l0 (l0.length : Int) x7_1 false))) = some r := by first | (with_reducible rfl) | (rw [if_pos rfl] at H; exact H)
            clear H
            have H := H1
            clear H1
            by_cases c16 : ((rd_T119 l0 x7_1).f1) = 0
            ·rw [if_pos c16] at H
             have c16b0 : (((rd_T119 l0 x7_1).f1) == 0) = true := beq_iff_eq.mpr c16
             have c16b1 : (((rd_T119 l0 x7_1).f1) != 0) = false := bne_eq_false_iff_eq.mpr c16
             clear c16
             by_cases c17 : ((rd_T119 l0 x7_1).f2) = 0
             ·rw [if_pos c17] at H
              have c17b0 : (((rd_T119 l0 x7_1).f2) == 0) = true := beq_iff_eq.mpr c17
              have c17b1 : (((rd_T119 l0 x7_1).f2) != 0) = false := bne_eq_false_iff_eq.mpr c17
              clear c17
              have H' := xm H
              clear H
              try go_wp2
              have n0_ : Aside0 ((((w6.setCell ⟨gb333, 0, none⟩ (.slice A332_0 ((rd_T119 l0 x7_1).f0.f0).length c332_0)).setCell ⟨gb333, 1, none⟩ (.int .i64 ((rd_T119 l0 x7_1).f1))).setCell ⟨gb333, 2, none⟩ (.int .i64 ((rd_T119 l0 x7_1).f2))).heap[gb333]? = some (.cells #[.slice A332_0 ((rd_T119 l0 x7_1).f0.f0).length c332_0, .int .i64 ((rd_T119 l0 x7_1).f1), .int .i64 ((rd_T119 l0 x7_1).f2)] 119 (0, 0))) := ⟨by (with_reducible repeat (first | refine xq ?_ _ | refine xr ?_ | refine xo ?_ _)); refine blk_put (cs := #[.slice A332_0 ((rd_T119 l0 x7_1).f0.f0).length c332_0, .int .i64 ((rd_T119 l0 x7_1).f1), .int .i64 0]) ?_ 2 _ rfl; (with_reducible repeat (first | refine xq ?_ _ | refine xr ?_ | refine xo ?_ _)); refine blk_put (cs := #[.slice A332_0 ((rd_T119 l0 x7_1).f0.f0).length c332_0, .int .i64 0, .int .i64 0]) ?_ 1 _ rfl; (with_reducible repeat (first | refine xq ?_ _ | refine xr ?_ | refine xo ?_ _)); refine blk_put (cs := #[.slice none 0 0, .int .i64 0, .int .i64 0]) ?_ 0 _ rfl; (with_reducible repeat (first | refine xq ?_ _ | refine xr ?_ | refine xo ?_ _)); exact BK333.out⟩
              have n1_ : Aside0 (Below w.heap.size w (((w6.setCell ⟨gb333, 0, none⟩ (.slice A332_0 ((rd_T119 l0 x7_1).f0.f0).length c332_0)).setCell ⟨gb333, 1, none⟩ (.int .i64 ((rd_T119 l0 x7_1).f1))).setCell ⟨gb333, 2, none⟩ (.int .i64 ((rd_T119 l0 x7_1).f2)))) := ⟨by repeat (first | (with_reducible first | exact HB.out | apply xa | apply xn | apply xd | refine xt ?_ GE333.out) | exact HB.out)⟩
              (try clear BK333)
              (try clear HB)
              generalize (((w6.setCell ⟨gb333, 0, none⟩ (.slice A332_0 ((rd_T119 l0 x7_1).f0.f0).length c332_0)).setCell ⟨gb333, 1, none⟩ (.int .i64 ((rd_T119 l0 x7_1).f1))).setCell ⟨gb333, 2, none⟩ (.int .i64 ((rd_T119 l0 x7_1).f2))) = w18 at n0_ n1_ ⊢
              have BK333 := n0_
              have HB := n1_
              clear n0_ n1_
              have n0_ := xm (xr BK333.out)
              have n1_ := xm (xd HB.out)
              clear BK333
              clear HB
              have BK333 := n0_
              have HB := n1_
              clear n0_ n1_
              have p335 : 0 ≤ (0 : Int) := (by omega)
              have q335 : 0 < (l0.length : Int) := of_decide_eq_true (by first | (with_reducible assumption) | assumption)
              obtain ⟨ad335, A335_0, c335_0, e335, hx335_0, hx335_1, hx335_2, hl335_0, hi335_0⟩ := at_T119 HR0.out 0 p335 q335
              have hw335_2 := hx335_2
              (try rw [show ((0 : Int)).toNat = 0 from rfl] at hw335_2)
              (try rw [show 0 * 3 = 0 from rfl] at hw335_2)
              (try rw [Addr.add_zero'] at hw335_2)
              have hw335_1 := hx335_1
              (try rw [show ((0 : Int)).toNat = 0 from rfl] at hw335_1)
              (try rw [show 0 * 3 = 0 from rfl] at hw335_1)
              (try rw [Addr.add_zero'] at hw335_1)
              have hw335_0 := hx335_0
              (try rw [show ((0 : Int)).toNat = 0 from rfl] at hw335_0)
              (try rw [show 0 * 3 = 0 from rfl] at hw335_0)
              (try rw [Addr.add_zero'] at hw335_0)
              obtain rfl : ad332 = ad335 := (by injection e335)
              have qi335 : (0 < l0.length) = True := eq_true (by omega)
              (try rw [show ((0 : Int)).toNat = 0 from rfl] at hx335_0)
              (try rw [show 0 * 3 = 0 from rfl] at hx335_0)
              (try rw [Addr.add_zero'] at hx335_0)
              (try rw [show ((0 : Int)).toNat = 0 from rfl] at hx335_1)
              (try rw [show 0 * 3 = 0 from rfl] at hx335_1)
              (try rw [Addr.add_zero'] at hx335_1)
              (try rw [show ((0 : Int)).toNat = 0 from rfl] at hx335_2)
              (try rw [show 0 * 3 = 0 from rfl] at hx335_2)
              (try rw [Addr.add_zero'] at hx335_2)
              replace hx335_0 := (HB.out.cell (World.block_lt_of_cell? w _ hx335_0)).trans hx335_0
              replace hx335_1 := (HB.out.cell (World.block_lt_of_cell? w _ hx335_1)).trans hx335_1
              replace hx335_2 := (HB.out.cell (World.block_lt_of_cell? w _ hx335_2)).trans hx335_2
              have HR335_0 := xm hi335_0
              have HC335_0 := xm hl335_0
              clear hi335_0 hl335_0
              replace p335 := eq_true p335
              replace q335 := eq_true q335
              refine start_ (n := 55) (S := fun w' => w'.cell? ⟨gb333, 0, none⟩ = some (.slice A332_0 ((rd_T119 l0 x7_1).f0.f0).length c332_0) ∧ w'.cell? ⟨gb333, 1, none⟩ = some (.int .i64 ((rd_T119 l0 x7_1).f1)) ∧ w'.cell? ⟨gb333, 2, none⟩ = some (.int .i64 ((rd_T119 l0 x7_1).f2)) ∧ w'.cell? ad332 = some (.slice A335_0 ((rd_T119 l0 0).f0.f0).length c335_0) ∧ w'.cell? ⟨ad332.block, ad332.off + 1, none⟩ = some (.int .i64 ((rd_T119 l0 0).f1)) ∧ w'.cell? ⟨ad332.block, ad332.off + 2, none⟩ = some (.int .i64 ((rd_T119 l0 0).f2))) (ds := []) #[Z,Z,Z,Z,Z,Z,Z,Z,Z,Z,Z,Z,Z,Z,Z,Z,Z,Z,Z,Z,Z,Z,Z,Z,Z,Z,Z,Z,Z,Z,Z,Z,Z,Z,Z,Z,Z,Z,Z,Z,Z,Z,Z,Z,Z,Z,Z,Z,Z,Z,Z,Z,Z,Z,Z] (by kernel_rfl) rfl rfl ⟨(xc BK333.out 0).trans rfl, (xc BK333.out 1).trans rfl, (xc BK333.out 2).trans rfl, ((HB.out.cell (World.block_lt_of_cell? w _ hw335_0)).trans hw335_0), ((HB.out.cell (World.block_lt_of_cell? w _ hw335_1)).trans hw335_1), ((HB.out.cell (World.block_lt_of_cell? w _ hw335_2)).trans hw335_2)⟩ (fun hHeld => ?_); refine with_tabW spec_GoodGroups.tab4 spec_GoodGroups.bits4 (fun HT_ HW_ => ?_)
              generalize w18.drew = w19 at BK333 HB HR335_0 hx335_0 hx335_1 hx335_2 hHeld ⊢
              refine px 0 55 1 (any_of HT_.out (by kernel_rfl)) ?_
              refine tx 1 55 3 rfl rfl (take_ofW HT_.out HW_.out (by kernel_rfl)) hHeld (by rintro w' ⟨s0, s1, s2, s3, s4, s5⟩; go_simp; with_reducible rfl) ?_
              refine one_ (i := 2) (N := some 14) #[Y,Y,Y,Z,Z,Z,Z,Z,Z,Z,Z,Z,Z,Z,Z,Z,Z,Z,Z,Z,Z,Z,Z,Z,Z,Z,Z,Z,Z,Z,Z,Z,Z,Z,Z,Z,Z,Z,Z,Z,Z,Z,Z,Z,Z,Z,Z,Z,Z,Z,Z,Z,Z,Z,Z] rfl rfl (one_of HT_.out (by kernel_rfl)) (by decide) (fun K hK => ?_)
              refine goes_ Try.func82 (by kernel_rfl) rfl #[.agg #[.slice A332_0 ((rd_T119 l0 x7_1).f0.f0).length c332_0]] (by rfl) rfl rfl (by (try simp only [List.map_toArray, List.map_cons, List.map_nil]); first | done | rfl | (simp only [List.length_drop, List.length_take]; rfl)) ?_
              with_reducible refine (spec_GoodRow.calls k1 _ _ ((rd_T119 l0 x7_1).f0.f0) true _ ?side1 ?side2 A8.out).mono ?_
              (case side1 => repeat (first | exact (Kd.C_below HR332_0.out HB.out) | (with_reducible refine Kd.C_alloc ?_ _) | (with_reducible refine Kd.C_drewN ?_ _) | (with_reducible refine Kd.C_drew ?_)))
              (case side2 => exact HC332_0.out)
              rintro e w20 ⟨rfl, hb⟩
              refine ⟨_, rfl, ?_⟩
              have n0_ := xm (blk_below (g := gb333) (o := .cells #[.slice A332_0 ((rd_T119 l0 x7_1).f0.f0).length c332_0, .int .i64 ((rd_T119 l0 x7_1).f1), .int .i64 ((rd_T119 l0 x7_1).f2)] 119 (0, 0)) (by (with_reducible repeat (first | refine xq ?_ _ | refine xr ?_ | refine xo ?_ _)); exact BK333.out) hb)
              have n1_ := xm (below_step (by repeat (first | (with_reducible first | exact HB.out | apply xa | apply xn | apply xd | refine xt ?_ GE333.out) | exact HB.out)) hb)
              clear BK333
              clear HB
              have BK333 := n0_
              have HB := n1_
              clear n0_ n1_
              (try clear hb)
              (try clear hb2)
              (try clear hk)
              (try clear hi)
              refine hK.out _ _ ⟨(xc BK333.out 0).trans rfl, (xc BK333.out 1).trans rfl, (xc BK333.out 2).trans rfl, ((HB.out.cell (World.block_lt_of_cell? w _ hw335_0)).trans hw335_0), ((HB.out.cell (World.block_lt_of_cell? w _ hw335_1)).trans hw335_1), ((HB.out.cell (World.block_lt_of_cell? w _ hw335_2)).trans hw335_2)⟩ (fun hHeld => ?_)
              clear hK K
              refine norm_ (a' := ?_) ?_ ?_
              rotate_left
              ·show Act.put _ (some 14) _ = _
               simp only [Act.put, xi, xj, xk, i64_w, i32_w]
               rfl
              refine px 3 55 15 (any_of HT_.out (by kernel_rfl)) ?_
              refine px 4 55 31 (any_of HT_.out (by kernel_rfl)) ?_
              refine px 5 55 63 (any_of HT_.out (by kernel_rfl)) ?_
              refine px 6 55 127 (any_of HT_.out (by kernel_rfl)) ?_
              refine px 9 55 639 (any_of HT_.out (by kernel_rfl)) ?_
              refine px 10 55 1663 (any_of HT_.out (by kernel_rfl)) ?_
              refine px 11 55 3711 (any_of HT_.out (by kernel_rfl)) ?_
              refine px 12 55 7807 (any_of HT_.out (by kernel_rfl)) ?_
              refine tx 7 55 7935 rfl rfl (take_ofW HT_.out HW_.out (by kernel_rfl)) hHeld (by rintro w' ⟨s0, s1, s2, s3, s4, s5⟩; go_simp; with_reducible rfl) ?_
              refine px 8 55 8191 (any_of HT_.out (by kernel_rfl)) ?_
              refine tx 13 55 16383 rfl rfl (take_ofW HT_.out HW_.out (by kernel_rfl)) hHeld (by rintro w' ⟨s0, s1, s2, s3, s4, s5⟩; go_simp; with_reducible rfl) ?_
              refine px 14 55 32767 (any_of HT_.out (by kernel_rfl)) ?_
              refine px 15 55 65535 (any_of HT_.out (by kernel_rfl)) ?_
              refine px 16 55 131071 (any_of HT_.out (by kernel_rfl)) ?_
              refine px 17 55 262143 (any_of HT_.out (by kernel_rfl)) ?_
              refine px 18 55 524287 (any_of HT_.out (by kernel_rfl)) ?_
              refine tx 19 55 1048575 rfl rfl (take_ofW HT_.out HW_.out (by kernel_rfl)) hHeld (by rintro w' ⟨s0, s1, s2, s3, s4, s5⟩; go_simp; with_reducible rfl) ?_
              refine one_ (i := 20) (N := some 32) #[Y,Y,Y,Y,Y,Y,Y,Y,Y,Y,Y,Y,Y,Y,Y,Y,Y,Y,Y,Y,Y,Z,Z,Z,Z,Z,Z,Z,Z,Z,Z,Z,Z,Z,Z,Z,Z,Z,Z,Z,Z,Z,Z,Z,Z,Z,Z,Z,Z,Z,Z,Z,Z,Z,Z] rfl rfl (one_of HT_.out (by kernel_rfl)) (by decide) (fun K hK => ?_)
              refine goes_ Try.func96 (by kernel_rfl) rfl #[.int .i64 ((rd_T119 l0 x7_1).f1)] (by rfl) rfl rfl (by (try simp only [List.map_toArray, List.map_cons, List.map_nil]); first | done | rfl | (simp only [List.length_drop, List.length_take]; rfl)) ?_
              with_reducible refine (spec_l5Sum.calls ((rd_T119 l0 x7_1).f1) true _ A12.out).mono ?_
              rintro e w' ⟨rfl, ⟨nd, rfl⟩⟩
              refine ⟨_, rfl, ?_⟩
              refine hK.out _ _ ⟨(xc BK333.out 0).trans rfl, (xc BK333.out 1).trans rfl, (xc BK333.out 2).trans rfl, ((HB.out.cell (World.block_lt_of_cell? w _ hw335_0)).trans hw335_0), ((HB.out.cell (World.block_lt_of_cell? w _ hw335_1)).trans hw335_1), ((HB.out.cell (World.block_lt_of_cell? w _ hw335_2)).trans hw335_2)⟩ (fun hHeld => ?_)
              clear hK K
              refine norm_ (a' := ?_) ?_ ?_
              rotate_left
              ·show Act.put _ (some 32) _ = _
               simp only [Act.put, xi, xj, xk, i64_w, i32_w]
               rfl
              refine px 21 55 4194303 (any_of HT_.out (by kernel_rfl)) ?_
              refine px 22 55 8388607 (any_of HT_.out (by kernel_rfl)) ?_
              refine px 23 55 16777215 (any_of HT_.out (by kernel_rfl)) ?_
              refine px 24 55 33554431 (any_of HT_.out (by kernel_rfl)) ?_
              refine tx 25 55 67108863 rfl rfl (take_ofW HT_.out HW_.out (by kernel_rfl)) hHeld (by rintro w' ⟨s0, s1, s2, s3, s4, s5⟩; go_simp; with_reducible rfl) ?_
              refine one_ (i := 26) (N := some 38) #[Y,Y,Y,Y,Y,Y,Y,Y,Y,Y,Y,Y,Y,Y,Y,Y,Y,Y,Y,Y,Y,Y,Y,Y,Y,Y,Y,Z,Z,Z,Z,Z,Z,Z,Z,Z,Z,Z,Z,Z,Z,Z,Z,Z,Z,Z,Z,Z,Z,Z,Z,Z,Z,Z,Z] rfl rfl (one_of HT_.out (by kernel_rfl)) (by decide) (fun K hK => ?_)
              refine goes_ Try.func96 (by kernel_rfl) rfl #[.int .i64 ((rd_T119 l0 x7_1).f2)] (by rfl) rfl rfl (by (try simp only [List.map_toArray, List.map_cons, List.map_nil]); first | done | rfl | (simp only [List.length_drop, List.length_take]; rfl)) ?_
              with_reducible refine (spec_l5Sum.calls ((rd_T119 l0 x7_1).f2) true _ A14.out).mono ?_
              rintro e w' ⟨rfl, ⟨nd, rfl⟩⟩
              refine ⟨_, rfl, ?_⟩
              refine hK.out _ _ ⟨(xc BK333.out 0).trans rfl, (xc BK333.out 1).trans rfl, (xc BK333.out 2).trans rfl, ((HB.out.cell (World.block_lt_of_cell? w _ hw335_0)).trans hw335_0), ((HB.out.cell (World.block_lt_of_cell? w _ hw335_1)).trans hw335_1), ((HB.out.cell (World.block_lt_of_cell? w _ hw335_2)).trans hw335_2)⟩ (fun hHeld => ?_)
              clear hK K
              refine norm_ (a' := ?_) ?_ ?_
              rotate_left
              ·show Act.put _ (some 38) _ = _
               simp only [Act.put, xi, xj, xk, i64_w, i32_w]
               rfl
              refine px 27 55 268435455 (any_of HT_.out (by kernel_rfl)) ?_
              refine px 28 55 536870911 (any_of HT_.out (by kernel_rfl)) ?_
              refine px 29 55 1073741823 (any_of HT_.out (by kernel_rfl)) ?_
              refine px 30 55 2147483647 (any_of HT_.out (by kernel_rfl)) ?_
              refine tx 31 55 4294967295 rfl rfl (take_ofW HT_.out HW_.out (by kernel_rfl)) hHeld (by rintro w' ⟨s0, s1, s2, s3, s4, s5⟩; go_simp; with_reducible rfl) ?_
              refine px 32 55 8589934591 (any_of HT_.out (by kernel_rfl)) ?_
              refine px 33 55 17179869183 (any_of HT_.out (by kernel_rfl)) ?_
              refine px 34 55 34359738367 (any_of HT_.out (by kernel_rfl)) ?_
              refine tx 35 55 68719476735 rfl rfl (take_ofW HT_.out HW_.out (by kernel_rfl)) hHeld (by rintro w' ⟨s0, s1, s2, s3, s4, s5⟩; go_simp; with_reducible rfl) ?_
              refine px 36 55 137438953471 (any_of HT_.out (by kernel_rfl)) ?_
              refine px 37 55 274877906943 (any_of HT_.out (by kernel_rfl)) ?_
              refine px 38 55 549755813887 (any_of HT_.out (by kernel_rfl)) ?_
              refine px 39 55 1099511627775 (any_of HT_.out (by kernel_rfl)) ?_
              refine ox 40 55 2199023255551 (any_of HT_.out (by kernel_rfl)) ?_
              refine ox 41 55 4398046511103 (any_of HT_.out (by kernel_rfl)) ?_
              refine ox 42 55 8796093022207 (any_of HT_.out (by kernel_rfl)) ?_
              refine ox 43 55 17592186044415 (any_of HT_.out (by kernel_rfl)) ?_
              refine ox 44 55 35184372088831 (any_of HT_.out (by kernel_rfl)) ?_
              refine ox 45 55 70368744177663 (any_of HT_.out (by kernel_rfl)) ?_
              refine ox 46 55 140737488355327 (any_of HT_.out (by kernel_rfl)) ?_
              refine ox 47 55 281474976710655 (any_of HT_.out (by kernel_rfl)) ?_
              refine ox 48 55 562949953421311 (any_of HT_.out (by kernel_rfl)) ?_
              refine ox 49 55 1125899906842623 (any_of HT_.out (by kernel_rfl)) ?_
              refine ox 50 55 2251799813685247 (any_of HT_.out (by kernel_rfl)) ?_
              refine ox 51 55 4503599627370495 (any_of HT_.out (by kernel_rfl)) ?_
              refine ox 52 55 9007199254740991 (any_of HT_.out (by kernel_rfl)) ?_
              refine ox 53 55 18014398509481983 (any_of HT_.out (by kernel_rfl)) ?_
              refine px 54 55 36028797018963967 (any_of HT_.out (by kernel_rfl)) ?_
              refine done_ (done_of HT_.out (by kernel_rfl)) ?_
              try go_wp2
              go_meet
              case rel => exact ⟨_, (true), (by first | rfl | (simp; done) | (simp [*]; done)), H', ⟨by have := HK1.out; first | omega | exact Nat.le_refl _⟩, ⟨by (with_reducible repeat (first | refine xq ?_ _ | refine xr ?_ | refine xo ?_ _)); exact BK333.out⟩, ⟨by repeat (first | (with_reducible first | exact HB.out | apply xa | apply xn | apply xd | refine xt ?_ GE333.out) | exact HB.out)⟩⟩
             ·rw [if_neg c17] at H
              have c17b0 : (((rd_T119 l0 x7_1).f2) == 0) = false := beq_eq_false_iff_ne.mpr c17
              have c17b1 : (((rd_T119 l0 x7_1).f2) != 0) = true := bne_iff_ne.mpr c17
              by_cases c21 : x7_1 > 0
              ·rw [if_pos c21] at H
               have c21b0 : decide (0 < x7_1) = true := decide_eq_true c21
               clear c21
               obtain ⟨ji22, hji22⟩ : ∃ j_ : Int, (wrap64 (x7_1 - 1)) = j_ := ⟨_, rfl⟩
               replace H : (if 0 ≤ (ji22) then (if (ji22) < (l0.length : Int) then ((spec_l1Compare.f k1 ((rd_T119 l0 (ji22)).f0.f0) ((rd_T119 l0 x7_1).f0.f0)).bind fun t339 => (spec_GoodGroups.j1 k1 l0 l0 (l0.length : Int) x7_1 (decide (t339 ≥ 0)))) else (none)) else (none)) = some r := by first | (rw [hji22] at H; exact H) | (simp only [hji22] at H ⊢; exact H)
               (try rw [hji22] at A8)
               (try rw [hji22] at A12)
               (try rw [hji22] at A14)
               have hji22w : (IntKind.i64.wrap (x7_1 - 1)) = ji22 := (i64_w _).trans hji22
               by_cases c23 : 0 ≤ (ji22)
               ·rw [if_pos c23] at H
                have c23b0 : decide (0 ≤ (ji22)) = true := decide_eq_true c23
                clear c23
                by_cases c24 : (ji22) < (l0.length : Int)
                ·rw [if_pos c24] at H
                 have c24b0 : decide ((ji22) < (l0.length : Int)) = true := decide_eq_true c24
                 clear c24
                 replace H := Option.bind_eq_some_iff.mp H
                 obtain ⟨t339, A250, H⟩ := H
                 replace H : (spec_GoodGroups.j1 k1 l0 l0 (l0.length : Int) x7_1 (decide (t339 ≥ 0))) = some r := H
                 have A25 := xm A250
                 clear A250
                 have H' := xm H
                 clear H
                 try go_wp2
                 have n0_ : Aside0 ((((w6.setCell ⟨gb333, 0, none⟩ (.slice A332_0 ((rd_T119 l0 x7_1).f0.f0).length c332_0)).setCell ⟨gb333, 1, none⟩ (.int .i64 ((rd_T119 l0 x7_1).f1))).setCell ⟨gb333, 2, none⟩ (.int .i64 ((rd_T119 l0 x7_1).f2))).heap[gb333]? = some (.cells #[.slice A332_0 ((rd_T119 l0 x7_1).f0.f0).length c332_0, .int .i64 ((rd_T119 l0 x7_1).f1), .int .i64 ((rd_T119 l0 x7_1).f2)] 119 (0, 0))) := ⟨by (with_reducible repeat (first | refine xq ?_ _ | refine xr ?_ | refine xo ?_ _)); refine blk_put (cs := #[.slice A332_0 ((rd_T119 l0 x7_1).f0.f0).length c332_0, .int .i64 ((rd_T119 l0 x7_1).f1), .int .i64 0]) ?_ 2 _ rfl; (with_reducible repeat (first | refine xq ?_ _ | refine xr ?_ | refine xo ?_ _)); refine blk_put (cs := #[.slice A332_0 ((rd_T119 l0 x7_1).f0.f0).length c332_0, .int .i64 0, .int .i64 0]) ?_ 1 _ rfl; (with_reducible repeat (first | refine xq ?_ _ | refine xr ?_ | refine xo ?_ _)); refine blk_put (cs := #[.slice none 0 0, .int .i64 0, .int .i64 0]) ?_ 0 _ rfl; (with_reducible repeat (first | refine xq ?_ _ | refine xr ?_ | refine xo ?_ _)); exact BK333.out⟩
                 have n1_ : Aside0 (Below w.heap.size w (((w6.setCell ⟨gb333, 0, none⟩ (.slice A332_0 ((rd_T119 l0 x7_1).f0.f0).length c332_0)).setCell ⟨gb333, 1, none⟩ (.int .i64 ((rd_T119 l0 x7_1).f1))).setCell ⟨gb333, 2, none⟩ (.int .i64 ((rd_T119 l0 x7_1).f2)))) := ⟨by repeat (first | (with_reducible first | exact HB.out | apply xa | apply xn | apply xd | refine xt ?_ GE333.out) | exact HB.out)⟩
                 (try clear BK333)
                 (try clear HB)
                 generalize (((w6.setCell ⟨gb333, 0, none⟩ (.slice A332_0 ((rd_T119 l0 x7_1).f0.f0).length c332_0)).setCell ⟨gb333, 1, none⟩ (.int .i64 ((rd_T119 l0 x7_1).f1))).setCell ⟨gb333, 2, none⟩ (.int .i64 ((rd_T119 l0 x7_1).f2))) = w26 at n0_ n1_ ⊢
                 have BK333 := n0_
                 have HB := n1_
                 clear n0_ n1_
                 have n0_ := xm (xr BK333.out)
                 have n1_ := xm (xd HB.out)
                 clear BK333
                 clear HB
                 have BK333 := n0_
                 have HB := n1_
                 clear n0_ n1_
                 have p335 : 0 ≤ (0 : Int) := (by omega)
                 have q335 : 0 < (l0.length : Int) := of_decide_eq_true (by first | (with_reducible assumption) | assumption)
                 obtain ⟨ad335, A335_0, c335_0, e335, hx335_0, hx335_1, hx335_2, hl335_0, hi335_0⟩ := at_T119 HR0.out 0 p335 q335
                 have hw335_2 := hx335_2
                 (try rw [show ((0 : Int)).toNat = 0 from rfl] at hw335_2)
                 (try rw [show 0 * 3 = 0 from rfl] at hw335_2)
                 (try rw [Addr.add_zero'] at hw335_2)
                 have hw335_1 := hx335_1
                 (try rw [show ((0 : Int)).toNat = 0 from rfl] at hw335_1)
                 (try rw [show 0 * 3 = 0 from rfl] at hw335_1)
                 (try rw [Addr.add_zero'] at hw335_1)
                 have hw335_0 := hx335_0
                 (try rw [show ((0 : Int)).toNat = 0 from rfl] at hw335_0)
                 (try rw [show 0 * 3 = 0 from rfl] at hw335_0)
                 (try rw [Addr.add_zero'] at hw335_0)
                 obtain rfl : ad332 = ad335 := (by injection e335)
                 have qi335 : (0 < l0.length) = True := eq_true (by omega)
                 (try rw [show ((0 : Int)).toNat = 0 from rfl] at hx335_0)
                 (try rw [show 0 * 3 = 0 from rfl] at hx335_0)
                 (try rw [Addr.add_zero'] at hx335_0)
                 (try rw [show ((0 : Int)).toNat = 0 from rfl] at hx335_1)
                 (try rw [show 0 * 3 = 0 from rfl] at hx335_1)
                 (try rw [Addr.add_zero'] at hx335_1)
                 (try rw [show ((0 : Int)).toNat = 0 from rfl] at hx335_2)
                 (try rw [show 0 * 3 = 0 from rfl] at hx335_2)
                 (try rw [Addr.add_zero'] at hx335_2)
                 replace hx335_0 := (HB.out.cell (World.block_lt_of_cell? w _ hx335_0)).trans hx335_0
                 replace hx335_1 := (HB.out.cell (World.block_lt_of_cell? w _ hx335_1)).trans hx335_1
                 replace hx335_2 := (HB.out.cell (World.block_lt_of_cell? w _ hx335_2)).trans hx335_2
                 have HR335_0 := xm hi335_0
                 have HC335_0 := xm hl335_0
                 clear hi335_0 hl335_0
                 replace p335 := eq_true p335
                 replace q335 := eq_true q335
                 have p338 : 0 ≤ ((ji22) : Int) := of_decide_eq_true (by first | (with_reducible assumption) | assumption)
                 have q338 : (ji22) < (l0.length : Int) := of_decide_eq_true (by first | (with_reducible assumption) | assumption)
                 obtain ⟨ad338, A338_0, c338_0, e338, hx338_0, hx338_1, hx338_2, hl338_0, hi338_0⟩ := at_T119 HR0.out (ji22) p338 q338
                 have hw338_2 := hx338_2
                 have hw338_1 := hx338_1
                 have hw338_0 := hx338_0
                 obtain rfl : ad332 = ad338 := (by injection e338)
                 replace hx338_0 := (HB.out.cell (World.block_lt_of_cell? w _ hx338_0)).trans hx338_0
                 replace hx338_1 := (HB.out.cell (World.block_lt_of_cell? w _ hx338_1)).trans hx338_1
                 replace hx338_2 := (HB.out.cell (World.block_lt_of_cell? w _ hx338_2)).trans hx338_2
                 have HR338_0 := xm hi338_0
                 have HC338_0 := xm hl338_0
                 clear hi338_0 hl338_0
                 replace p338 := eq_true p338
                 replace q338 := eq_true q338
                 refine start_ (n := 55) (S := fun w' => w'.cell? ⟨gb333, 0, none⟩ = some (.slice A332_0 ((rd_T119 l0 x7_1).f0.f0).length c332_0) ∧ w'.cell? ⟨gb333, 1, none⟩ = some (.int .i64 ((rd_T119 l0 x7_1).f1)) ∧ w'.cell? ⟨gb333, 2, none⟩ = some (.int .i64 ((rd_T119 l0 x7_1).f2)) ∧ w'.cell? ad332 = some (.slice A335_0 ((rd_T119 l0 0).f0.f0).length c335_0) ∧ w'.cell? ⟨ad332.block, ad332.off + 1, none⟩ = some (.int .i64 ((rd_T119 l0 0).f1)) ∧ w'.cell? ⟨ad332.block, ad332.off + 2, none⟩ = some (.int .i64 ((rd_T119 l0 0).f2)) ∧ w'.cell? (ad332.add (((ji22)).toNat * 3)) = some (.slice A338_0 ((rd_T119 l0 (ji22)).f0.f0).length c338_0) ∧ w'.cell? ⟨(ad332.add (((ji22)).toNat * 3)).block, (ad332.add (((ji22)).toNat * 3)).off + 1, none⟩ = some (.int .i64 ((rd_T119 l0 (ji22)).f1)) ∧ w'.cell? ⟨(ad332.add (((ji22)).toNat * 3)).block, (ad332.add (((ji22)).toNat * 3)).off + 2, none⟩ = some (.int .i64 ((rd_T119 l0 (ji22)).f2))) (ds := []) #[Z,Z,Z,Z,Z,Z,Z,Z,Z,Z,Z,Z,Z,Z,Z,Z,Z,Z,Z,Z,Z,Z,Z,Z,Z,Z,Z,Z,Z,Z,Z,Z,Z,Z,Z,Z,Z,Z,Z,Z,Z,Z,Z,Z,Z,Z,Z,Z,Z,Z,Z,Z,Z,Z,Z] (by kernel_rfl) rfl rfl ⟨(xc BK333.out 0).trans rfl, (xc BK333.out 1).trans rfl, (xc BK333.out 2).trans rfl, ((HB.out.cell (World.block_lt_of_cell? w _ hw335_0)).trans hw335_0), ((HB.out.cell (World.block_lt_of_cell? w _ hw335_1)).trans hw335_1), ((HB.out.cell (World.block_lt_of_cell? w _ hw335_2)).trans hw335_2), ((HB.out.cell (World.block_lt_of_cell? w _ hw338_0)).trans hw338_0), ((HB.out.cell (World.block_lt_of_cell? w _ hw338_1)).trans hw338_1), ((HB.out.cell (World.block_lt_of_cell? w _ hw338_2)).trans hw338_2)⟩ (fun hHeld => ?_); refine with_tabW spec_GoodGroups.tab4 spec_GoodGroups.bits4 (fun HT_ HW_ => ?_)
                 generalize w26.drew = w27 at BK333 HB HR335_0 HR338_0 hx335_0 hx335_1 hx335_2 hx338_0 hx338_1 hx338_2 hHeld ⊢
                 refine px 0 55 1 (any_of HT_.out (by kernel_rfl)) ?_
                 refine tx 1 55 3 rfl rfl (take_ofW HT_.out HW_.out (by kernel_rfl)) hHeld (by rintro w' ⟨s0, s1, s2, s3, s4, s5, s6, s7, s8⟩; go_simp; with_reducible rfl) ?_
                 refine one_ (i := 2) (N := some 14) #[Y,Y,Y,Z,Z,Z,Z,Z,Z,Z,Z,Z,Z,Z,Z,Z,Z,Z,Z,Z,Z,Z,Z,Z,Z,Z,Z,Z,Z,Z,Z,Z,Z,Z,Z,Z,Z,Z,Z,Z,Z,Z,Z,Z,Z,Z,Z,Z,Z,Z,Z,Z,Z,Z,Z] rfl rfl (one_of HT_.out (by kernel_rfl)) (by decide) (fun K hK => ?_)
                 refine goes_ Try.func82 (by kernel_rfl) rfl #[.agg #[.slice A332_0 ((rd_T119 l0 x7_1).f0.f0).length c332_0]] (by rfl) rfl rfl (by (try simp only [List.map_toArray, List.map_cons, List.map_nil]); first | done | rfl | (simp only [List.length_drop, List.length_take]; rfl)) ?_
                 with_reducible refine (spec_GoodRow.calls k1 _ _ ((rd_T119 l0 x7_1).f0.f0) true _ ?side1 ?side2 A8.out).mono ?_
                 (case side1 => repeat (first | exact (Kd.C_below HR332_0.out HB.out) | (with_reducible refine Kd.C_alloc ?_ _) | (with_reducible refine Kd.C_drewN ?_ _) | (with_reducible refine Kd.C_drew ?_)))
                 (case side2 => exact HC332_0.out)
                 rintro e w28 ⟨rfl, hb⟩
                 refine ⟨_, rfl, ?_⟩
                 have n0_ := xm (blk_below (g := gb333) (o := .cells #[.slice A332_0 ((rd_T119 l0 x7_1).f0.f0).length c332_0, .int .i64 ((rd_T119 l0 x7_1).f1), .int .i64 ((rd_T119 l0 x7_1).f2)] 119 (0, 0)) (by (with_reducible repeat (first | refine xq ?_ _ | refine xr ?_ | refine xo ?_ _)); exact BK333.out) hb)
                 have n1_ := xm (below_step (by repeat (first | (with_reducible first | exact HB.out | apply xa | apply xn | apply xd | refine xt ?_ GE333.out) | exact HB.out)) hb)
                 clear BK333
                 clear HB
                 have BK333 := n0_
                 have HB := n1_
                 clear n0_ n1_
                 (try clear hb)
                 (try clear hb2)
                 (try clear hk)
                 (try clear hi)
                 refine hK.out _ _ ⟨(xc BK333.out 0).trans rfl, (xc BK333.out 1).trans rfl, (xc BK333.out 2).trans rfl, ((HB.out.cell (World.block_lt_of_cell? w _ hw335_0)).trans hw335_0), ((HB.out.cell (World.block_lt_of_cell? w _ hw335_1)).trans hw335_1), ((HB.out.cell (World.block_lt_of_cell? w _ hw335_2)).trans hw335_2), ((HB.out.cell (World.block_lt_of_cell? w _ hw338_0)).trans hw338_0), ((HB.out.cell (World.block_lt_of_cell? w _ hw338_1)).trans hw338_1), ((HB.out.cell (World.block_lt_of_cell? w _ hw338_2)).trans hw338_2)⟩ (fun hHeld => ?_)
                 clear hK K
                 refine norm_ (a' := ?_) ?_ ?_
                 rotate_left
                 ·show Act.put _ (some 14) _ = _
                  simp only [Act.put, xi, xj, xk, i64_w, i32_w]
                  rfl
                 refine px 3 55 15 (any_of HT_.out (by kernel_rfl)) ?_
                 refine px 4 55 31 (any_of HT_.out (by kernel_rfl)) ?_
                 refine px 5 55 63 (any_of HT_.out (by kernel_rfl)) ?_
                 refine px 6 55 127 (any_of HT_.out (by kernel_rfl)) ?_
                 refine px 9 55 639 (any_of HT_.out (by kernel_rfl)) ?_
                 refine px 10 55 1663 (any_of HT_.out (by kernel_rfl)) ?_
                 refine px 11 55 3711 (any_of HT_.out (by kernel_rfl)) ?_
                 refine px 12 55 7807 (any_of HT_.out (by kernel_rfl)) ?_
                 refine tx 7 55 7935 rfl rfl (take_ofW HT_.out HW_.out (by kernel_rfl)) hHeld (by rintro w' ⟨s0, s1, s2, s3, s4, s5, s6, s7, s8⟩; go_simp; with_reducible rfl) ?_
                 refine px 8 55 8191 (any_of HT_.out (by kernel_rfl)) ?_
                 refine tx 13 55 16383 rfl rfl (take_ofW HT_.out HW_.out (by kernel_rfl)) hHeld (by rintro w' ⟨s0, s1, s2, s3, s4, s5, s6, s7, s8⟩; go_simp; with_reducible rfl) ?_
                 refine px 14 55 32767 (any_of HT_.out (by kernel_rfl)) ?_
                 refine px 15 55 65535 (any_of HT_.out (by kernel_rfl)) ?_
                 refine px 16 55 131071 (any_of HT_.out (by kernel_rfl)) ?_
                 refine px 17 55 262143 (any_of HT_.out (by kernel_rfl)) ?_
                 refine px 18 55 524287 (any_of HT_.out (by kernel_rfl)) ?_
                 refine tx 19 55 1048575 rfl rfl (take_ofW HT_.out HW_.out (by kernel_rfl)) hHeld (by rintro w' ⟨s0, s1, s2, s3, s4, s5, s6, s7, s8⟩; go_simp; with_reducible rfl) ?_
                 refine one_ (i := 20) (N := some 32) #[Y,Y,Y,Y,Y,Y,Y,Y,Y,Y,Y,Y,Y,Y,Y,Y,Y,Y,Y,Y,Y,Z,Z,Z,Z,Z,Z,Z,Z,Z,Z,Z,Z,Z,Z,Z,Z,Z,Z,Z,Z,Z,Z,Z,Z,Z,Z,Z,Z,Z,Z,Z,Z,Z,Z] rfl rfl (one_of HT_.out (by kernel_rfl)) (by decide) (fun K hK => ?_)
                 refine goes_ Try.func96 (by kernel_rfl) rfl #[.int .i64 ((rd_T119 l0 x7_1).f1)] (by rfl) rfl rfl (by (try simp only [List.map_toArray, List.map_cons, List.map_nil]); first | done | rfl | (simp only [List.length_drop, List.length_take]; rfl)) ?_
                 with_reducible refine (spec_l5Sum.calls ((rd_T119 l0 x7_1).f1) true _ A12.out).mono ?_
                 rintro e w' ⟨rfl, ⟨nd, rfl⟩⟩
                 refine ⟨_, rfl, ?_⟩
                 refine hK.out _ _ ⟨(xc BK333.out 0).trans rfl, (xc BK333.out 1).trans rfl, (xc BK333.out 2).trans rfl, ((HB.out.cell (World.block_lt_of_cell? w _ hw335_0)).trans hw335_0), ((HB.out.cell (World.block_lt_of_cell? w _ hw335_1)).trans hw335_1), ((HB.out.cell (World.block_lt_of_cell? w _ hw335_2)).trans hw335_2), ((HB.out.cell (World.block_lt_of_cell? w _ hw338_0)).trans hw338_0), ((HB.out.cell (World.block_lt_of_cell? w _ hw338_1)).trans hw338_1), ((HB.out.cell (World.block_lt_of_cell? w _ hw338_2)).trans hw338_2)⟩ (fun hHeld => ?_)
                 clear hK K
                 refine norm_ (a' := ?_) ?_ ?_
                 rotate_left
                 ·show Act.put _ (some 32) _ = _
                  simp only [Act.put, xi, xj, xk, i64_w, i32_w]
                  rfl
                 refine px 21 55 4194303 (any_of HT_.out (by kernel_rfl)) ?_
                 refine px 22 55 8388607 (any_of HT_.out (by kernel_rfl)) ?_
                 refine px 23 55 16777215 (any_of HT_.out (by kernel_rfl)) ?_
                 refine px 24 55 33554431 (any_of HT_.out (by kernel_rfl)) ?_
                 refine tx 25 55 67108863 rfl rfl (take_ofW HT_.out HW_.out (by kernel_rfl)) hHeld (by rintro w' ⟨s0, s1, s2, s3, s4, s5, s6, s7, s8⟩; go_simp; with_reducible rfl) ?_
                 refine one_ (i := 26) (N := some 38) #[Y,Y,Y,Y,Y,Y,Y,Y,Y,Y,Y,Y,Y,Y,Y,Y,Y,Y,Y,Y,Y,Y,Y,Y,Y,Y,Y,Z,Z,Z,Z,Z,Z,Z,Z,Z,Z,Z,Z,Z,Z,Z,Z,Z,Z,Z,Z,Z,Z,Z,Z,Z,Z,Z,Z] rfl rfl (one_of HT_.out (by kernel_rfl)) (by decide) (fun K hK => ?_)
                 refine goes_ Try.func96 (by kernel_rfl) rfl #[.int .i64 ((rd_T119 l0 x7_1).f2)] (by rfl) rfl rfl (by (try simp only [List.map_toArray, List.map_cons, List.map_nil]); first | done | rfl | (simp only [List.length_drop, List.length_take]; rfl)) ?_
                 with_reducible refine (spec_l5Sum.calls ((rd_T119 l0 x7_1).f2) true _ A14.out).mono ?_
                 rintro e w' ⟨rfl, ⟨nd, rfl⟩⟩
                 refine ⟨_, rfl, ?_⟩
                 refine hK.out _ _ ⟨(xc BK333.out 0).trans rfl, (xc BK333.out 1).trans rfl, (xc BK333.out 2).trans rfl, ((HB.out.cell (World.block_lt_of_cell? w _ hw335_0)).trans hw335_0), ((HB.out.cell (World.block_lt_of_cell? w _ hw335_1)).trans hw335_1), ((HB.out.cell (World.block_lt_of_cell? w _ hw335_2)).trans hw335_2), ((HB.out.cell (World.block_lt_of_cell? w _ hw338_0)).trans hw338_0), ((HB.out.cell (World.block_lt_of_cell? w _ hw338_1)).trans hw338_1), ((HB.out.cell (World.block_lt_of_cell? w _ hw338_2)).trans hw338_2)⟩ (fun hHeld => ?_)
                 clear hK K
                 refine norm_ (a' := ?_) ?_ ?_
                 rotate_left
                 ·show Act.put _ (some 38) _ = _
                  simp only [Act.put, xi, xj, xk, i64_w, i32_w]
                  rfl
                 refine px 27 55 268435455 (any_of HT_.out (by kernel_rfl)) ?_
                 refine px 28 55 536870911 (any_of HT_.out (by kernel_rfl)) ?_
                 refine px 29 55 1073741823 (any_of HT_.out (by kernel_rfl)) ?_
                 refine px 30 55 2147483647 (any_of HT_.out (by kernel_rfl)) ?_
                 refine tx 31 55 4294967295 rfl rfl (take_ofW HT_.out HW_.out (by kernel_rfl)) hHeld (by rintro w' ⟨s0, s1, s2, s3, s4, s5, s6, s7, s8⟩; go_simp; with_reducible rfl) ?_
                 refine px 32 55 8589934591 (any_of HT_.out (by kernel_rfl)) ?_
                 refine px 33 55 17179869183 (any_of HT_.out (by kernel_rfl)) ?_
                 refine px 34 55 34359738367 (any_of HT_.out (by kernel_rfl)) ?_
                 refine tx 35 55 68719476735 rfl rfl (take_ofW HT_.out HW_.out (by kernel_rfl)) hHeld (by rintro w' ⟨s0, s1, s2, s3, s4, s5, s6, s7, s8⟩; go_simp; with_reducible rfl) ?_
                 refine px 36 55 137438953471 (any_of HT_.out (by kernel_rfl)) ?_
                 refine px 37 55 274877906943 (any_of HT_.out (by kernel_rfl)) ?_
                 refine px 38 55 549755813887 (any_of HT_.out (by kernel_rfl)) ?_
                 refine px 39 55 1099511627775 (any_of HT_.out (by kernel_rfl)) ?_
                 refine px 40 55 2199023255551 (any_of HT_.out (by kernel_rfl)) ?_
                 refine px 41 55 4398046511103 (any_of HT_.out (by kernel_rfl)) ?_
                 refine px 42 55 8796093022207 (any_of HT_.out (by kernel_rfl)) ?_
                 refine px 43 55 17592186044415 (any_of HT_.out (by kernel_rfl)) ?_
                 refine px 44 55 35184372088831 (any_of HT_.out (by kernel_rfl)) ?_
                 refine px 45 55 70368744177663 (any_of HT_.out (by kernel_rfl)) ?_
                 refine px 46 55 140737488355327 (any_of HT_.out (by kernel_rfl)) ?_
                 refine px 47 55 281474976710655 (any_of HT_.out (by kernel_rfl)) ?_
                 refine px 49 55 844424930131967 (any_of HT_.out (by kernel_rfl)) ?_
                 refine tx 48 55 1125899906842623 rfl rfl (take_ofW HT_.out HW_.out (by kernel_rfl)) hHeld (by rintro w' ⟨s0, s1, s2, s3, s4, s5, s6, s7, s8⟩; go_simp; with_reducible rfl) ?_
                 refine tx 50 55 2251799813685247 rfl rfl (take_ofW HT_.out HW_.out (by kernel_rfl)) hHeld (by rintro w' ⟨s0, s1, s2, s3, s4, s5, s6, s7, s8⟩; go_simp; with_reducible rfl) ?_
                 refine one_ (i := 51) (N := some 63) #[Y,Y,Y,Y,Y,Y,Y,Y,Y,Y,Y,Y,Y,Y,Y,Y,Y,Y,Y,Y,Y,Y,Y,Y,Y,Y,Y,Y,Y,Y,Y,Y,Y,Y,Y,Y,Y,Y,Y,Y,Y,Y,Y,Y,Y,Y,Y,Y,Y,Y,Y,Y,Z,Z,Z] rfl rfl (one_of HT_.out (by kernel_rfl)) (by decide) (fun K hK => ?_)
                 refine goes_ Try.func88 (by kernel_rfl) rfl #[.agg #[.slice A338_0 ((rd_T119 l0 (ji22)).f0.f0).length c338_0], .agg #[.slice A332_0 ((rd_T119 l0 x7_1).f0.f0).length c332_0]] (by rfl) rfl rfl (by (try simp only [List.map_toArray, List.map_cons, List.map_nil]); first | done | (simp only [hji22]; rfl) | rfl | (simp only [List.length_drop, List.length_take]; rfl)) ?_
                 with_reducible refine (spec_l1Compare.calls k1 _ _ ((rd_T119 l0 (ji22)).f0.f0) _ _ ((rd_T119 l0 x7_1).f0.f0) t339 _ ?side1 ?side2 ?side3 ?side4 A25.out).mono ?_
                 (case side1 => repeat (first | exact (Kd.C_below HR338_0.out (by repeat (first | (with_reducible first | exact HB.out | apply xa | apply xn | apply xd | refine xt ?_ GE333.out) | exact HB.out))) | (with_reducible refine Kd.C_alloc ?_ _) | (with_reducible refine Kd.C_drewN ?_ _) | (with_reducible refine Kd.C_drew ?_)))
                 (case side2 => exact HC338_0.out)
                 (case side3 => repeat (first | exact (Kd.C_below HR332_0.out (by repeat (first | (with_reducible first | exact HB.out | apply xa | apply xn | apply xd | refine xt ?_ GE333.out) | exact HB.out))) | (with_reducible refine Kd.C_alloc ?_ _) | (with_reducible refine Kd.C_drewN ?_ _) | (with_reducible refine Kd.C_drew ?_)))
                 (case side4 => exact HC332_0.out)
                 rintro e w29 ⟨rfl, hb⟩
                 refine ⟨_, rfl, ?_⟩
                 have n0_ := xm (blk_below (g := gb333) (o := .cells #[.slice A332_0 ((rd_T119 l0 x7_1).f0.f0).length c332_0, .int .i64 ((rd_T119 l0 x7_1).f1), .int .i64 ((rd_T119 l0 x7_1).f2)] 119 (0, 0)) (by (with_reducible repeat (first | refine xq ?_ _ | refine xr ?_ | refine xo ?_ _)); exact BK333.out) hb)
                 have n1_ := xm (below_step (by repeat (first | (with_reducible first | exact HB.out | apply xa | apply xn | apply xd | refine xt ?_ GE333.out) | exact HB.out)) hb)
                 clear BK333
                 clear HB
                 have BK333 := n0_
                 have HB := n1_
                 clear n0_ n1_
                 (try clear hb)
                 (try clear hb2)
                 (try clear hk)
                 (try clear hi)
                 refine hK.out _ _ ⟨(xc BK333.out 0).trans rfl, (xc BK333.out 1).trans rfl, (xc BK333.out 2).trans rfl, ((HB.out.cell (World.block_lt_of_cell? w _ hw335_0)).trans hw335_0), ((HB.out.cell (World.block_lt_of_cell? w _ hw335_1)).trans hw335_1), ((HB.out.cell (World.block_lt_of_cell? w _ hw335_2)).trans hw335_2), ((HB.out.cell (World.block_lt_of_cell? w _ hw338_0)).trans hw338_0), ((HB.out.cell (World.block_lt_of_cell? w _ hw338_1)).trans hw338_1), ((HB.out.cell (World.block_lt_of_cell? w _ hw338_2)).trans hw338_2)⟩ (fun hHeld => ?_)
                 clear hK K
                 refine norm_ (a' := ?_) ?_ ?_
                 rotate_left
                 ·show Act.put _ (some 63) _ = _
                  simp only [Act.put, xi, xj, xk, i64_w, i32_w]
                  rfl
                 refine px 52 55 9007199254740991 (any_of HT_.out (by kernel_rfl)) ?_
                 refine px 53 55 18014398509481983 (any_of HT_.out (by kernel_rfl)) ?_
                 refine px 54 55 36028797018963967 (any_of HT_.out (by kernel_rfl)) ?_
                 refine done_ (done_of HT_.out (by kernel_rfl)) ?_
                 try go_wp2
                 go_meet
                 case rel => exact ⟨_, (decide (t339 ≥ 0)), (by first | rfl | (simp; done) | (simp [*]; done)), H', ⟨by have := HK1.out; first | omega | exact Nat.le_refl _⟩, ⟨by (with_reducible repeat (first | refine xq ?_ _ | refine xr ?_ | refine xo ?_ _)); exact BK333.out⟩, ⟨by repeat (first | (with_reducible first | exact HB.out | apply xa | apply xn | apply xd | refine xt ?_ GE333.out) | exact HB.out)⟩⟩
                ·rw [if_neg c24] at H
                 exact absurd H (by simp)
               ·rw [if_neg c23] at H
                exact absurd H (by simp)
              ·rw [if_neg c21] at H
               have c21b0 : decide (0 < x7_1) = false := decide_eq_false c21
               clear c21
               have H' := xm H
               clear H
               try go_wp2
               have n0_ : Aside0 ((((w6.setCell ⟨gb333, 0, none⟩ (.slice A332_0 ((rd_T119 l0 x7_1).f0.f0).length c332_0)).setCell ⟨gb333, 1, none⟩ (.int .i64 ((rd_T119 l0 x7_1).f1))).setCell ⟨gb333, 2, none⟩ (.int .i64 ((rd_T119 l0 x7_1).f2))).heap[gb333]? = some (.cells #[.slice A332_0 ((rd_T119 l0 x7_1).f0.f0).length c332_0, .int .i64 ((rd_T119 l0 x7_1).f1), .int .i64 ((rd_T119 l0 x7_1).f2)] 119 (0, 0))) := ⟨by (with_reducible repeat (first | refine xq ?_ _ | refine xr ?_ | refine xo ?_ _)); refine blk_put (cs := #[.slice A332_0 ((rd_T119 l0 x7_1).f0.f0).length c332_0, .int .i64 ((rd_T119 l0 x7_1).f1), .int .i64 0]) ?_ 2 _ rfl; (with_reducible repeat (first | refine xq ?_ _ | refine xr ?_ | refine xo ?_ _)); refine blk_put (cs := #[.slice A332_0 ((rd_T119 l0 x7_1).f0.f0).length c332_0, .int .i64 0, .int .i64 0]) ?_ 1 _ rfl; (with_reducible repeat (first | refine xq ?_ _ | refine xr ?_ | refine xo ?_ _)); refine blk_put (cs := #[.slice none 0 0, .int .i64 0, .int .i64 0]) ?_ 0 _ rfl; (with_reducible repeat (first | refine xq ?_ _ | refine xr ?_ | refine xo ?_ _)); exact BK333.out⟩
               have n1_ : Aside0 (Below w.heap.size w (((w6.setCell ⟨gb333, 0, none⟩ (.slice A332_0 ((rd_T119 l0 x7_1).f0.f0).length c332_0)).setCell ⟨gb333, 1, none⟩ (.int .i64 ((rd_T119 l0 x7_1).f1))).setCell ⟨gb333, 2, none⟩ (.int .i64 ((rd_T119 l0 x7_1).f2)))) := ⟨by repeat (first | (with_reducible first | exact HB.out | apply xa | apply xn | apply xd | refine xt ?_ GE333.out) | exact HB.out)⟩
               (try clear BK333)
               (try clear HB)
               generalize (((w6.setCell ⟨gb333, 0, none⟩ (.slice A332_0 ((rd_T119 l0 x7_1).f0.f0).length c332_0)).setCell ⟨gb333, 1, none⟩ (.int .i64 ((rd_T119 l0 x7_1).f1))).setCell ⟨gb333, 2, none⟩ (.int .i64 ((rd_T119 l0 x7_1).f2))) = w30 at n0_ n1_ ⊢
               have BK333 := n0_
               have HB := n1_
               clear n0_ n1_
               have n0_ := xm (xr BK333.out)
               have n1_ := xm (xd HB.out)
               clear BK333
               clear HB
               have BK333 := n0_
               have HB := n1_
               clear n0_ n1_
               have p335 : 0 ≤ (0 : Int) := (by omega)
               have q335 : 0 < (l0.length : Int) := of_decide_eq_true (by first | (with_reducible assumption) | assumption)
               obtain ⟨ad335, A335_0, c335_0, e335, hx335_0, hx335_1, hx335_2, hl335_0, hi335_0⟩ := at_T119 HR0.out 0 p335 q335
               have hw335_2 := hx335_2
               (try rw [show ((0 : Int)).toNat = 0 from rfl] at hw335_2)
               (try rw [show 0 * 3 = 0 from rfl] at hw335_2)
               (try rw [Addr.add_zero'] at hw335_2)
               have hw335_1 := hx335_1
               (try rw [show ((0 : Int)).toNat = 0 from rfl] at hw335_1)
               (try rw [show 0 * 3 = 0 from rfl] at hw335_1)
               (try rw [Addr.add_zero'] at hw335_1)
               have hw335_0 := hx335_0
               (try rw [show ((0 : Int)).toNat = 0 from rfl] at hw335_0)
               (try rw [show 0 * 3 = 0 from rfl] at hw335_0)
               (try rw [Addr.add_zero'] at hw335_0)
               obtain rfl : ad332 = ad335 := (by injection e335)
               have qi335 : (0 < l0.length) = True := eq_true (by omega)
               (try rw [show ((0 : Int)).toNat = 0 from rfl] at hx335_0)
               (try rw [show 0 * 3 = 0 from rfl] at hx335_0)
               (try rw [Addr.add_zero'] at hx335_0)
               (try rw [show ((0 : Int)).toNat = 0 from rfl] at hx335_1)
               (try rw [show 0 * 3 = 0 from rfl] at hx335_1)
               (try rw [Addr.add_zero'] at hx335_1)
               (try rw [show ((0 : Int)).toNat = 0 from rfl] at hx335_2)
               (try rw [show 0 * 3 = 0 from rfl] at hx335_2)
               (try rw [Addr.add_zero'] at hx335_2)
               replace hx335_0 := (HB.out.cell (World.block_lt_of_cell? w _ hx335_0)).trans hx335_0
               replace hx335_1 := (HB.out.cell (World.block_lt_of_cell? w _ hx335_1)).trans hx335_1
               replace hx335_2 := (HB.out.cell (World.block_lt_of_cell? w _ hx335_2)).trans hx335_2
               have HR335_0 := xm hi335_0
               have HC335_0 := xm hl335_0
               clear hi335_0 hl335_0
               replace p335 := eq_true p335
               replace q335 := eq_true q335
               refine start_ (n := 55) (S := fun w' => w'.cell? ⟨gb333, 0, none⟩ = some (.slice A332_0 ((rd_T119 l0 x7_1).f0.f0).length c332_0) ∧ w'.cell? ⟨gb333, 1, none⟩ = some (.int .i64 ((rd_T119 l0 x7_1).f1)) ∧ w'.cell? ⟨gb333, 2, none⟩ = some (.int .i64 ((rd_T119 l0 x7_1).f2)) ∧ w'.cell? ad332 = some (.slice A335_0 ((rd_T119 l0 0).f0.f0).length c335_0) ∧ w'.cell? ⟨ad332.block, ad332.off + 1, none⟩ = some (.int .i64 ((rd_T119 l0 0).f1)) ∧ w'.cell? ⟨ad332.block, ad332.off + 2, none⟩ = some (.int .i64 ((rd_T119 l0 0).f2))) (ds := []) #[Z,Z,Z,Z,Z,Z,Z,Z,Z,Z,Z,Z,Z,Z,Z,Z,Z,Z,Z,Z,Z,Z,Z,Z,Z,Z,Z,Z,Z,Z,Z,Z,Z,Z,Z,Z,Z,Z,Z,Z,Z,Z,Z,Z,Z,Z,Z,Z,Z,Z,Z,Z,Z,Z,Z] (by kernel_rfl) rfl rfl ⟨(xc BK333.out 0).trans rfl, (xc BK333.out 1).trans rfl, (xc BK333.out 2).trans rfl, ((HB.out.cell (World.block_lt_of_cell? w _ hw335_0)).trans hw335_0), ((HB.out.cell (World.block_lt_of_cell? w _ hw335_1)).trans hw335_1), ((HB.out.cell (World.block_lt_of_cell? w _ hw335_2)).trans hw335_2)⟩ (fun hHeld => ?_); refine with_tabW spec_GoodGroups.tab4 spec_GoodGroups.bits4 (fun HT_ HW_ => ?_)
               generalize w30.drew = w31 at BK333 HB HR335_0 hx335_0 hx335_1 hx335_2 hHeld ⊢
               refine px 0 55 1 (any_of HT_.out (by kernel_rfl)) ?_
               refine tx 1 55 3 rfl rfl (take_ofW HT_.out HW_.out (by kernel_rfl)) hHeld (by rintro w' ⟨s0, s1, s2, s3, s4, s5⟩; go_simp; with_reducible rfl) ?_
               refine one_ (i := 2) (N := some 14) #[Y,Y,Y,Z,Z,Z,Z,Z,Z,Z,Z,Z,Z,Z,Z,Z,Z,Z,Z,Z,Z,Z,Z,Z,Z,Z,Z,Z,Z,Z,Z,Z,Z,Z,Z,Z,Z,Z,Z,Z,Z,Z,Z,Z,Z,Z,Z,Z,Z,Z,Z,Z,Z,Z,Z] rfl rfl (one_of HT_.out (by kernel_rfl)) (by decide) (fun K hK => ?_)
               refine goes_ Try.func82 (by kernel_rfl) rfl #[.agg #[.slice A332_0 ((rd_T119 l0 x7_1).f0.f0).length c332_0]] (by rfl) rfl rfl (by (try simp only [List.map_toArray, List.map_cons, List.map_nil]); first | done | rfl | (simp only [List.length_drop, List.length_take]; rfl)) ?_
               with_reducible refine (spec_GoodRow.calls k1 _ _ ((rd_T119 l0 x7_1).f0.f0) true _ ?side1 ?side2 A8.out).mono ?_
               (case side1 => repeat (first | exact (Kd.C_below HR332_0.out HB.out) | (with_reducible refine Kd.C_alloc ?_ _) | (with_reducible refine Kd.C_drewN ?_ _) | (with_reducible refine Kd.C_drew ?_)))
               (case side2 => exact HC332_0.out)
               rintro e w32 ⟨rfl, hb⟩
               refine ⟨_, rfl, ?_⟩
               have n0_ := xm (blk_below (g := gb333) (o := .cells #[.slice A332_0 ((rd_T119 l0 x7_1).f0.f0).length c332_0, .int .i64 ((rd_T119 l0 x7_1).f1), .int .i64 ((rd_T119 l0 x7_1).f2)] 119 (0, 0)) (by (with_reducible repeat (first | refine xq ?_ _ | refine xr ?_ | refine xo ?_ _)); exact BK333.out) hb)
               have n1_ := xm (below_step (by repeat (first | (with_reducible first | exact HB.out | apply xa | apply xn | apply xd | refine xt ?_ GE333.out) | exact HB.out)) hb)
               clear BK333
               clear HB
               have BK333 := n0_
               have HB := n1_
               clear n0_ n1_
               (try clear hb)
               (try clear hb2)
               (try clear hk)
               (try clear hi)
               refine hK.out _ _ ⟨(xc BK333.out 0).trans rfl, (xc BK333.out 1).trans rfl, (xc BK333.out 2).trans rfl, ((HB.out.cell (World.block_lt_of_cell? w _ hw335_0)).trans hw335_0), ((HB.out.cell (World.block_lt_of_cell? w _ hw335_1)).trans hw335_1), ((HB.out.cell (World.block_lt_of_cell? w _ hw335_2)).trans hw335_2)⟩ (fun hHeld => ?_)
               clear hK K
               refine norm_ (a' := ?_) ?_ ?_
               rotate_left
               ·show Act.put _ (some 14) _ = _
                simp only [Act.put, xi, xj, xk, i64_w, i32_w]
                rfl
               refine px 3 55 15 (any_of HT_.out (by kernel_rfl)) ?_
               refine px 4 55 31 (any_of HT_.out (by kernel_rfl)) ?_
               refine px 5 55 63 (any_of HT_.out (by kernel_rfl)) ?_
               refine px 6 55 127 (any_of HT_.out (by kernel_rfl)) ?_
               refine px 9 55 639 (any_of HT_.out (by kernel_rfl)) ?_
               refine px 10 55 1663 (any_of HT_.out (by kernel_rfl)) ?_
               refine px 11 55 3711 (any_of HT_.out (by kernel_rfl)) ?_
               refine px 12 55 7807 (any_of HT_.out (by kernel_rfl)) ?_
               refine tx 7 55 7935 rfl rfl (take_ofW HT_.out HW_.out (by kernel_rfl)) hHeld (by rintro w' ⟨s0, s1, s2, s3, s4, s5⟩; go_simp; with_reducible rfl) ?_
               refine px 8 55 8191 (any_of HT_.out (by kernel_rfl)) ?_
               refine tx 13 55 16383 rfl rfl (take_ofW HT_.out HW_.out (by kernel_rfl)) hHeld (by rintro w' ⟨s0, s1, s2, s3, s4, s5⟩; go_simp; with_reducible rfl) ?_
               refine px 14 55 32767 (any_of HT_.out (by kernel_rfl)) ?_
               refine px 15 55 65535 (any_of HT_.out (by kernel_rfl)) ?_
               refine px 16 55 131071 (any_of HT_.out (by kernel_rfl)) ?_
               refine px 17 55 262143 (any_of HT_.out (by kernel_rfl)) ?_
               refine px 18 55 524287 (any_of HT_.out (by kernel_rfl)) ?_
               refine tx 19 55 1048575 rfl rfl (take_ofW HT_.out HW_.out (by kernel_rfl)) hHeld (by rintro w' ⟨s0, s1, s2, s3, s4, s5⟩; go_simp; with_reducible rfl) ?_
               refine one_ (i := 20) (N := some 32) #[Y,Y,Y,Y,Y,Y,Y,Y,Y,Y,Y,Y,Y,Y,Y,Y,Y,Y,Y,Y,Y,Z,Z,Z,Z,Z,Z,Z,Z,Z,Z,Z,Z,Z,Z,Z,Z,Z,Z,Z,Z,Z,Z,Z,Z,Z,Z,Z,Z,Z,Z,Z,Z,Z,Z] rfl rfl (one_of HT_.out (by kernel_rfl)) (by decide) (fun K hK => ?_)
               refine goes_ Try.func96 (by kernel_rfl) rfl #[.int .i64 ((rd_T119 l0 x7_1).f1)] (by rfl) rfl rfl (by (try simp only [List.map_toArray, List.map_cons, List.map_nil]); first | done | rfl | (simp only [List.length_drop, List.length_take]; rfl)) ?_
               with_reducible refine (spec_l5Sum.calls ((rd_T119 l0 x7_1).f1) true _ A12.out).mono ?_
               rintro e w' ⟨rfl, ⟨nd, rfl⟩⟩
               refine ⟨_, rfl, ?_⟩
               refine hK.out _ _ ⟨(xc BK333.out 0).trans rfl, (xc BK333.out 1).trans rfl, (xc BK333.out 2).trans rfl, ((HB.out.cell (World.block_lt_of_cell? w _ hw335_0)).trans hw335_0), ((HB.out.cell (World.block_lt_of_cell? w _ hw335_1)).trans hw335_1), ((HB.out.cell (World.block_lt_of_cell? w _ hw335_2)).trans hw335_2)⟩ (fun hHeld => ?_)
               clear hK K
               refine norm_ (a' := ?_) ?_ ?_
               rotate_left
               ·show Act.put _ (some 32) _ = _
                simp only [Act.put, xi, xj, xk, i64_w, i32_w]
                rfl
               refine px 21 55 4194303 (any_of HT_.out (by kernel_rfl)) ?_
               refine px 22 55 8388607 (any_of HT_.out (by kernel_rfl)) ?_
               refine px 23 55 16777215 (any_of HT_.out (by kernel_rfl)) ?_
               refine px 24 55 33554431 (any_of HT_.out (by kernel_rfl)) ?_
               refine tx 25 55 67108863 rfl rfl (take_ofW HT_.out HW_.out (by kernel_rfl)) hHeld (by rintro w' ⟨s0, s1, s2, s3, s4, s5⟩; go_simp; with_reducible rfl) ?_
               refine one_ (i := 26) (N := some 38) #[Y,Y,Y,Y,Y,Y,Y,Y,Y,Y,Y,Y,Y,Y,Y,Y,Y,Y,Y,Y,Y,Y,Y,Y,Y,Y,Y,Z,Z,Z,Z,Z,Z,Z,Z,Z,Z,Z,Z,Z,Z,Z,Z,Z,Z,Z,Z,Z,Z,Z,Z,Z,Z,Z,Z] rfl rfl (one_of HT_.out (by kernel_rfl)) (by decide) (fun K hK => ?_)
               refine goes_ Try.func96 (by kernel_rfl) rfl #[.int .i64 ((rd_T119 l0 x7_1).f2)] (by rfl) rfl rfl (by (try simp only [List.map_toArray, List.map_cons, List.map_nil]); first | done | rfl | (simp only [List.length_drop, List.length_take]; rfl)) ?_
               with_reducible refine (spec_l5Sum.calls ((rd_T119 l0 x7_1).f2) true _ A14.out).mono ?_
               rintro e w' ⟨rfl, ⟨nd, rfl⟩⟩
               refine ⟨_, rfl, ?_⟩
               refine hK.out _ _ ⟨(xc BK333.out 0).trans rfl, (xc BK333.out 1).trans rfl, (xc BK333.out 2).trans rfl, ((HB.out.cell (World.block_lt_of_cell? w _ hw335_0)).trans hw335_0), ((HB.out.cell (World.block_lt_of_cell? w _ hw335_1)).trans hw335_1), ((HB.out.cell (World.block_lt_of_cell? w _ hw335_2)).trans hw335_2)⟩ (fun hHeld => ?_)
               clear hK K
               refine norm_ (a' := ?_) ?_ ?_
               rotate_left
               ·show Act.put _ (some 38) _ = _
                simp only [Act.put, xi, xj, xk, i64_w, i32_w]
                rfl
               refine px 27 55 268435455 (any_of HT_.out (by kernel_rfl)) ?_
               refine px 28 55 536870911 (any_of HT_.out (by kernel_rfl)) ?_
               refine px 29 55 1073741823 (any_of HT_.out (by kernel_rfl)) ?_
               refine px 30 55 2147483647 (any_of HT_.out (by kernel_rfl)) ?_
               refine tx 31 55 4294967295 rfl rfl (take_ofW HT_.out HW_.out (by kernel_rfl)) hHeld (by rintro w' ⟨s0, s1, s2, s3, s4, s5⟩; go_simp; with_reducible rfl) ?_
               refine px 32 55 8589934591 (any_of HT_.out (by kernel_rfl)) ?_
               refine px 33 55 17179869183 (any_of HT_.out (by kernel_rfl)) ?_
               refine px 34 55 34359738367 (any_of HT_.out (by kernel_rfl)) ?_
               refine tx 35 55 68719476735 rfl rfl (take_ofW HT_.out HW_.out (by kernel_rfl)) hHeld (by rintro w' ⟨s0, s1, s2, s3, s4, s5⟩; go_simp; with_reducible rfl) ?_
               refine px 36 55 137438953471 (any_of HT_.out (by kernel_rfl)) ?_
               refine px 37 55 274877906943 (any_of HT_.out (by kernel_rfl)) ?_
               refine px 38 55 549755813887 (any_of HT_.out (by kernel_rfl)) ?_
               refine px 39 55 1099511627775 (any_of HT_.out (by kernel_rfl)) ?_
               refine px 40 55 2199023255551 (any_of HT_.out (by kernel_rfl)) ?_
               refine px 41 55 4398046511103 (any_of HT_.out (by kernel_rfl)) ?_
               refine px 42 55 8796093022207 (any_of HT_.out (by kernel_rfl)) ?_
               refine ox 43 55 17592186044415 (any_of HT_.out (by kernel_rfl)) ?_
               refine ox 44 55 35184372088831 (any_of HT_.out (by kernel_rfl)) ?_
               refine ox 45 55 70368744177663 (any_of HT_.out (by kernel_rfl)) ?_
               refine ox 46 55 140737488355327 (any_of HT_.out (by kernel_rfl)) ?_
               refine ox 47 55 281474976710655 (any_of HT_.out (by kernel_rfl)) ?_
               refine ox 48 55 562949953421311 (any_of HT_.out (by kernel_rfl)) ?_
               refine ox 49 55 1125899906842623 (any_of HT_.out (by kernel_rfl)) ?_
               refine ox 50 55 2251799813685247 (any_of HT_.out (by kernel_rfl)) ?_
               refine ox 51 55 4503599627370495 (any_of HT_.out (by kernel_rfl)) ?_
               refine ox 52 55 9007199254740991 (any_of HT_.out (by kernel_rfl)) ?_
               refine px 53 55 18014398509481983 (any_of HT_.out (by kernel_rfl)) ?_
               refine px 54 55 36028797018963967 (any_of HT_.out (by kernel_rfl)) ?_
               refine done_ (done_of HT_.out (by kernel_rfl)) ?_
               try go_wp2
               go_meet
               case rel => exact ⟨_, (false), (by first | rfl | (simp; done) | (simp [*]; done)), H', ⟨by have := HK1.out; first | omega | exact Nat.le_refl _⟩, ⟨by (with_reducible repeat (first | refine xq ?_ _ | refine xr ?_ | refine xo ?_ _)); exact BK333.out⟩, ⟨by repeat (first | (with_reducible first | exact HB.out | apply xa | apply xn | apply xd | refine xt ?_ GE333.out) | exact HB.out)⟩⟩
            ·rw [if_neg c16] at H
             have c16b0 : (((rd_T119 l0 x7_1).f1) == 0) = false := beq_eq_false_iff_ne.mpr c16
             have c16b1 : (((rd_T119 l0 x7_1).f1) != 0) = true := bne_iff_ne.mpr c16
             by_cases c33 : x7_1 > 0
             ·rw [if_pos c33] at H
              have c33b0 : decide (0 < x7_1) = true := decide_eq_true c33
              clear c33
              obtain ⟨ji34, hji34⟩ : ∃ j_ : Int, (wrap64 (x7_1 - 1)) = j_ := ⟨_, rfl⟩
              replace H : (if 0 ≤ (ji34) then (if (ji34) < (l0.length : Int) then ((spec_l1Compare.f k1 ((rd_T119 l0 (ji34)).f0.f0) ((rd_T119 l0 x7_1).f0.f0)).bind fun t341 => (spec_GoodGroups.j1 k1 l0 l0 (l0.length : Int) x7_1 (decide (t341 ≥ 0)))) else (none)) else (none)) = some r := by first | (rw [hji34] at H; exact H) | (simp only [hji34] at H ⊢; exact H)
              (try rw [hji34] at A8)
              (try rw [hji34] at A12)
              (try rw [hji34] at A14)
              have hji34w : (IntKind.i64.wrap (x7_1 - 1)) = ji34 := (i64_w _).trans hji34
              by_cases c35 : 0 ≤ (ji34)
              ·rw [if_pos c35] at H
               have c35b0 : decide (0 ≤ (ji34)) = true := decide_eq_true c35
               clear c35
               by_cases c36 : (ji34) < (l0.length : Int)
               ·rw [if_pos c36] at H
                have c36b0 : decide ((ji34) < (l0.length : Int)) = true := decide_eq_true c36
                clear c36
                replace H := Option.bind_eq_some_iff.mp H
                obtain ⟨t341, A370, H⟩ := H
                replace H : (spec_GoodGroups.j1 k1 l0 l0 (l0.length : Int) x7_1 (decide (t341 ≥ 0))) = some r := H
                have A37 := xm A370
                clear A370
                have H' := xm H
                clear H
                try go_wp2
                have n0_ : Aside0 ((((w6.setCell ⟨gb333, 0, none⟩ (.slice A332_0 ((rd_T119 l0 x7_1).f0.f0).length c332_0)).setCell ⟨gb333, 1, none⟩ (.int .i64 ((rd_T119 l0 x7_1).f1))).setCell ⟨gb333, 2, none⟩ (.int .i64 ((rd_T119 l0 x7_1).f2))).heap[gb333]? = some (.cells #[.slice A332_0 ((rd_T119 l0 x7_1).f0.f0).length c332_0, .int .i64 ((rd_T119 l0 x7_1).f1), .int .i64 ((rd_T119 l0 x7_1).f2)] 119 (0, 0))) := ⟨by (with_reducible repeat (first | refine xq ?_ _ | refine xr ?_ | refine xo ?_ _)); refine blk_put (cs := #[.slice A332_0 ((rd_T119 l0 x7_1).f0.f0).length c332_0, .int .i64 ((rd_T119 l0 x7_1).f1), .int .i64 0]) ?_ 2 _ rfl; (with_reducible repeat (first | refine xq ?_ _ | refine xr ?_ | refine xo ?_ _)); refine blk_put (cs := #[.slice A332_0 ((rd_T119 l0 x7_1).f0.f0).length c332_0, .int .i64 0, .int .i64 0]) ?_ 1 _ rfl; (with_reducible repeat (first | refine xq ?_ _ | refine xr ?_ | refine xo ?_ _)); refine blk_put (cs := #[.slice none 0 0, .int .i64 0, .int .i64 0]) ?_ 0 _ rfl; (with_reducible repeat (first | refine xq ?_ _ | refine xr ?_ | refine xo ?_ _)); exact BK333.out⟩
                have n1_ : Aside0 (Below w.heap.size w (((w6.setCell ⟨gb333, 0, none⟩ (.slice A332_0 ((rd_T119 l0 x7_1).f0.f0).length c332_0)).setCell ⟨gb333, 1, none⟩ (.int .i64 ((rd_T119 l0 x7_1).f1))).setCell ⟨gb333, 2, none⟩ (.int .i64 ((rd_T119 l0 x7_1).f2)))) := ⟨by repeat (first | (with_reducible first | exact HB.out | apply xa | apply xn | apply xd | refine xt ?_ GE333.out) | exact HB.out)⟩
                (try clear BK333)
                (try clear HB)
                generalize (((w6.setCell ⟨gb333, 0, none⟩ (.slice A332_0 ((rd_T119 l0 x7_1).f0.f0).length c332_0)).setCell ⟨gb333, 1, none⟩ (.int .i64 ((rd_T119 l0 x7_1).f1))).setCell ⟨gb333, 2, none⟩ (.int .i64 ((rd_T119 l0 x7_1).f2))) = w38 at n0_ n1_ ⊢
                have BK333 := n0_
                have HB := n1_
                clear n0_ n1_
                have n0_ := xm (xr BK333.out)
                have n1_ := xm (xd HB.out)
                clear BK333
                clear HB
                have BK333 := n0_
                have HB := n1_
                clear n0_ n1_
                have p335 : 0 ≤ (0 : Int) := (by omega)
                have q335 : 0 < (l0.length : Int) := of_decide_eq_true (by first | (with_reducible assumption) | assumption)
                obtain ⟨ad335, A335_0, c335_0, e335, hx335_0, hx335_1, hx335_2, hl335_0, hi335_0⟩ := at_T119 HR0.out 0 p335 q335
                have hw335_2 := hx335_2
                (try rw [show ((0 : Int)).toNat = 0 from rfl] at hw335_2)
                (try rw [show 0 * 3 = 0 from rfl] at hw335_2)
                (try rw [Addr.add_zero'] at hw335_2)
                have hw335_1 := hx335_1
                (try rw [show ((0 : Int)).toNat = 0 from rfl] at hw335_1)
                (try rw [show 0 * 3 = 0 from rfl] at hw335_1)
                (try rw [Addr.add_zero'] at hw335_1)
                have hw335_0 := hx335_0
                (try rw [show ((0 : Int)).toNat = 0 from rfl] at hw335_0)
                (try rw [show 0 * 3 = 0 from rfl] at hw335_0)
                (try rw [Addr.add_zero'] at hw335_0)
                obtain rfl : ad332 = ad335 := (by injection e335)
                have qi335 : (0 < l0.length) = True := eq_true (by omega)
                (try rw [show ((0 : Int)).toNat = 0 from rfl] at hx335_0)
                (try rw [show 0 * 3 = 0 from rfl] at hx335_0)
                (try rw [Addr.add_zero'] at hx335_0)
                (try rw [show ((0 : Int)).toNat = 0 from rfl] at hx335_1)
                (try rw [show 0 * 3 = 0 from rfl] at hx335_1)
                (try rw [Addr.add_zero'] at hx335_1)
                (try rw [show ((0 : Int)).toNat = 0 from rfl] at hx335_2)
                (try rw [show 0 * 3 = 0 from rfl] at hx335_2)
                (try rw [Addr.add_zero'] at hx335_2)
                replace hx335_0 := (HB.out.cell (World.block_lt_of_cell? w _ hx335_0)).trans hx335_0
                replace hx335_1 := (HB.out.cell (World.block_lt_of_cell? w _ hx335_1)).trans hx335_1
                replace hx335_2 := (HB.out.cell (World.block_lt_of_cell? w _ hx335_2)).trans hx335_2
                have HR335_0 := xm hi335_0
                have HC335_0 := xm hl335_0
                clear hi335_0 hl335_0
                replace p335 := eq_true p335
                replace q335 := eq_true q335
                have p340 : 0 ≤ ((ji34) : Int) := of_decide_eq_true (by first | (with_reducible assumption) | assumption)
                have q340 : (ji34) < (l0.length : Int) := of_decide_eq_true (by first | (with_reducible assumption) | assumption)
                obtain ⟨ad340, A340_0, c340_0, e340, hx340_0, hx340_1, hx340_2, hl340_0, hi340_0⟩ := at_T119 HR0.out (ji34) p340 q340
                have hw340_2 := hx340_2
                have hw340_1 := hx340_1
                have hw340_0 := hx340_0
                obtain rfl : ad332 = ad340 := (by injection e340)
                replace hx340_0 := (HB.out.cell (World.block_lt_of_cell? w _ hx340_0)).trans hx340_0
                replace hx340_1 := (HB.out.cell (World.block_lt_of_cell? w _ hx340_1)).trans hx340_1
                replace hx340_2 := (HB.out.cell (World.block_lt_of_cell? w _ hx340_2)).trans hx340_2
                have HR340_0 := xm hi340_0
                have HC340_0 := xm hl340_0
                clear hi340_0 hl340_0
                replace p340 := eq_true p340
                replace q340 := eq_true q340
                refine start_ (n := 55) (S := fun w' => w'.cell? ⟨gb333, 0, none⟩ = some (.slice A332_0 ((rd_T119 l0 x7_1).f0.f0).length c332_0) ∧ w'.cell? ⟨gb333, 1, none⟩ = some (.int .i64 ((rd_T119 l0 x7_1).f1)) ∧ w'.cell? ⟨gb333, 2, none⟩ = some (.int .i64 ((rd_T119 l0 x7_1).f2)) ∧ w'.cell? ad332 = some (.slice A335_0 ((rd_T119 l0 0).f0.f0).length c335_0) ∧ w'.cell? ⟨ad332.block, ad332.off + 1, none⟩ = some (.int .i64 ((rd_T119 l0 0).f1)) ∧ w'.cell? ⟨ad332.block, ad332.off + 2, none⟩ = some (.int .i64 ((rd_T119 l0 0).f2)) ∧ w'.cell? (ad332.add (((ji34)).toNat * 3)) = some (.slice A340_0 ((rd_T119 l0 (ji34)).f0.f0).length c340_0) ∧ w'.cell? ⟨(ad332.add (((ji34)).toNat * 3)).block, (ad332.add (((ji34)).toNat * 3)).off + 1, none⟩ = some (.int .i64 ((rd_T119 l0 (ji34)).f1)) ∧ w'.cell? ⟨(ad332.add (((ji34)).toNat * 3)).block, (ad332.add (((ji34)).toNat * 3)).off + 2, none⟩ = some (.int .i64 ((rd_T119 l0 (ji34)).f2))) (ds := []) #[Z,Z,Z,Z,Z,Z,Z,Z,Z,Z,Z,Z,Z,Z,Z,Z,Z,Z,Z,Z,Z,Z,Z,Z,Z,Z,Z,Z,Z,Z,Z,Z,Z,Z,Z,Z,Z,Z,Z,Z,Z,Z,Z,Z,Z,Z,Z,Z,Z,Z,Z,Z,Z,Z,Z] (by kernel_rfl) rfl rfl ⟨(xc BK333.out 0).trans rfl, (xc BK333.out 1).trans rfl, (xc BK333.out 2).trans rfl, ((HB.out.cell (World.block_lt_of_cell? w _ hw335_0)).trans hw335_0), ((HB.out.cell (World.block_lt_of_cell? w _ hw335_1)).trans hw335_1), ((HB.out.cell (World.block_lt_of_cell? w _ hw335_2)).trans hw335_2), ((HB.out.cell (World.block_lt_of_cell? w _ hw340_0)).trans hw340_0), ((HB.out.cell (World.block_lt_of_cell? w _ hw340_1)).trans hw340_1), ((HB.out.cell (World.block_lt_of_cell? w _ hw340_2)).trans hw340_2)⟩ (fun hHeld => ?_); refine with_tabW spec_GoodGroups.tab4 spec_GoodGroups.bits4 (fun HT_ HW_ => ?_)
                generalize w38.drew = w39 at BK333 HB HR335_0 HR340_0 hx335_0 hx335_1 hx335_2 hx340_0 hx340_1 hx340_2 hHeld ⊢
                refine px 0 55 1 (any_of HT_.out (by kernel_rfl)) ?_
                refine tx 1 55 3 rfl rfl (take_ofW HT_.out HW_.out (by kernel_rfl)) hHeld (by rintro w' ⟨s0, s1, s2, s3, s4, s5, s6, s7, s8⟩; go_simp; with_reducible rfl) ?_
                refine one_ (i := 2) (N := some 14) #[Y,Y,Y,Z,Z,Z,Z,Z,Z,Z,Z,Z,Z,Z,Z,Z,Z,Z,Z,Z,Z,Z,Z,Z,Z,Z,Z,Z,Z,Z,Z,Z,Z,Z,Z,Z,Z,Z,Z,Z,Z,Z,Z,Z,Z,Z,Z,Z,Z,Z,Z,Z,Z,Z,Z] rfl rfl (one_of HT_.out (by kernel_rfl)) (by decide) (fun K hK => ?_)
                refine goes_ Try.func82 (by kernel_rfl) rfl #[.agg #[.slice A332_0 ((rd_T119 l0 x7_1).f0.f0).length c332_0]] (by rfl) rfl rfl (by (try simp only [List.map_toArray, List.map_cons, List.map_nil]); first | done | rfl | (simp only [List.length_drop, List.length_take]; rfl)) ?_
                with_reducible refine (spec_GoodRow.calls k1 _ _ ((rd_T119 l0 x7_1).f0.f0) true _ ?side1 ?side2 A8.out).mono ?_
                (case side1 => repeat (first | exact (Kd.C_below HR332_0.out HB.out) | (with_reducible refine Kd.C_alloc ?_ _) | (with_reducible refine Kd.C_drewN ?_ _) | (with_reducible refine Kd.C_drew ?_)))
                (case side2 => exact HC332_0.out)
                rintro e w40 ⟨rfl, hb⟩
                refine ⟨_, rfl, ?_⟩
                have n0_ := xm (blk_below (g := gb333) (o := .cells #[.slice A332_0 ((rd_T119 l0 x7_1).f0.f0).length c332_0, .int .i64 ((rd_T119 l0 x7_1).f1), .int .i64 ((rd_T119 l0 x7_1).f2)] 119 (0, 0)) (by (with_reducible repeat (first | refine xq ?_ _ | refine xr ?_ | refine xo ?_ _)); exact BK333.out) hb)
                have n1_ := xm (below_step (by repeat (first | (with_reducible first | exact HB.out | apply xa | apply xn | apply xd | refine xt ?_ GE333.out) | exact HB.out)) hb)
                clear BK333
                clear HB
                have BK333 := n0_
                have HB := n1_
                clear n0_ n1_
                (try clear hb)
                (try clear hb2)
                (try clear hk)
                (try clear hi)
                refine hK.out _ _ ⟨(xc BK333.out 0).trans rfl, (xc BK333.out 1).trans rfl, (xc BK333.out 2).trans rfl, ((HB.out.cell (World.block_lt_of_cell? w _ hw335_0)).trans hw335_0), ((HB.out.cell (World.block_lt_of_cell? w _ hw335_1)).trans hw335_1), ((HB.out.cell (World.block_lt_of_cell? w _ hw335_2)).trans hw335_2), ((HB.out.cell (World.block_lt_of_cell? w _ hw340_0)).trans hw340_0), ((HB.out.cell (World.block_lt_of_cell? w _ hw340_1)).trans hw340_1), ((HB.out.cell (World.block_lt_of_cell? w _ hw340_2)).trans hw340_2)⟩ (fun hHeld => ?_)
                clear hK K
                refine norm_ (a' := ?_) ?_ ?_
                rotate_left
                ·show Act.put _ (some 14) _ = _
                 simp only [Act.put, xi, xj, xk, i64_w, i32_w]
                 rfl
                refine px 3 55 15 (any_of HT_.out (by kernel_rfl)) ?_
                refine px 4 55 31 (any_of HT_.out (by kernel_rfl)) ?_
                refine px 5 55 63 (any_of HT_.out (by kernel_rfl)) ?_
                refine px 6 55 127 (any_of HT_.out (by kernel_rfl)) ?_
                refine px 9 55 639 (any_of HT_.out (by kernel_rfl)) ?_
                refine px 10 55 1663 (any_of HT_.out (by kernel_rfl)) ?_
                refine px 11 55 3711 (any_of HT_.out (by kernel_rfl)) ?_
                refine px 12 55 7807 (any_of HT_.out (by kernel_rfl)) ?_
                refine tx 7 55 7935 rfl rfl (take_ofW HT_.out HW_.out (by kernel_rfl)) hHeld (by rintro w' ⟨s0, s1, s2, s3, s4, s5, s6, s7, s8⟩; go_simp; with_reducible rfl) ?_
                refine px 8 55 8191 (any_of HT_.out (by kernel_rfl)) ?_
                refine tx 13 55 16383 rfl rfl (take_ofW HT_.out HW_.out (by kernel_rfl)) hHeld (by rintro w' ⟨s0, s1, s2, s3, s4, s5, s6, s7, s8⟩; go_simp; with_reducible rfl) ?_
                refine px 14 55 32767 (any_of HT_.out (by kernel_rfl)) ?_
                refine px 15 55 65535 (any_of HT_.out (by kernel_rfl)) ?_
                refine px 16 55 131071 (any_of HT_.out (by kernel_rfl)) ?_
                refine px 17 55 262143 (any_of HT_.out (by kernel_rfl)) ?_
                refine px 18 55 524287 (any_of HT_.out (by kernel_rfl)) ?_
                refine tx 19 55 1048575 rfl rfl (take_ofW HT_.out HW_.out (by kernel_rfl)) hHeld (by rintro w' ⟨s0, s1, s2, s3, s4, s5, s6, s7, s8⟩; go_simp; with_reducible rfl) ?_
                refine one_ (i := 20) (N := some 32) #[Y,Y,Y,Y,Y,Y,Y,Y,Y,Y,Y,Y,Y,Y,Y,Y,Y,Y,Y,Y,Y,Z,Z,Z,Z,Z,Z,Z,Z,Z,Z,Z,Z,Z,Z,Z,Z,Z,Z,Z,Z,Z,Z,Z,Z,Z,Z,Z,Z,Z,Z,Z,Z,Z,Z] rfl rfl (one_of HT_.out (by kernel_rfl)) (by decide) (fun K hK => ?_)
                refine goes_ Try.func96 (by kernel_rfl) rfl #[.int .i64 ((rd_T119 l0 x7_1).f1)] (by rfl) rfl rfl (by (try simp only [List.map_toArray, List.map_cons, List.map_nil]); first | done | rfl | (simp only [List.length_drop, List.length_take]; rfl)) ?_
                with_reducible refine (spec_l5Sum.calls ((rd_T119 l0 x7_1).f1) true _ A12.out).mono ?_
                rintro e w' ⟨rfl, ⟨nd, rfl⟩⟩
                refine ⟨_, rfl, ?_⟩
                refine hK.out _ _ ⟨(xc BK333.out 0).trans rfl, (xc BK333.out 1).trans rfl, (xc BK333.out 2).trans rfl, ((HB.out.cell (World.block_lt_of_cell? w _ hw335_0)).trans hw335_0), ((HB.out.cell (World.block_lt_of_cell? w _ hw335_1)).trans hw335_1), ((HB.out.cell (World.block_lt_of_cell? w _ hw335_2)).trans hw335_2), ((HB.out.cell (World.block_lt_of_cell? w _ hw340_0)).trans hw340_0), ((HB.out.cell (World.block_lt_of_cell? w _ hw340_1)).trans hw340_1), ((HB.out.cell (World.block_lt_of_cell? w _ hw340_2)).trans hw340_2)⟩ (fun hHeld => ?_)
                clear hK K
                refine norm_ (a' := ?_) ?_ ?_
                rotate_left
                ·show Act.put _ (some 32) _ = _
                 simp only [Act.put, xi, xj, xk, i64_w, i32_w]
                 rfl
                refine px 21 55 4194303 (any_of HT_.out (by kernel_rfl)) ?_
                refine px 22 55 8388607 (any_of HT_.out (by kernel_rfl)) ?_
                refine px 23 55 16777215 (any_of HT_.out (by kernel_rfl)) ?_
                refine px 24 55 33554431 (any_of HT_.out (by kernel_rfl)) ?_
                refine tx 25 55 67108863 rfl rfl (take_ofW HT_.out HW_.out (by kernel_rfl)) hHeld (by rintro w' ⟨s0, s1, s2, s3, s4, s5, s6, s7, s8⟩; go_simp; with_reducible rfl) ?_
                refine one_ (i := 26) (N := some 38) #[Y,Y,Y,Y,Y,Y,Y,Y,Y,Y,Y,Y,Y,Y,Y,Y,Y,Y,Y,Y,Y,Y,Y,Y,Y,Y,Y,Z,Z,Z,Z,Z,Z,Z,Z,Z,Z,Z,Z,Z,Z,Z,Z,Z,Z,Z,Z,Z,Z,Z,Z,Z,Z,Z,Z] rfl rfl (one_of HT_.out (by kernel_rfl)) (by decide) (fun K hK => ?_)
                refine goes_ Try.func96 (by kernel_rfl) rfl #[.int .i64 ((rd_T119 l0 x7_1).f2)] (by rfl) rfl rfl (by (try simp only [List.map_toArray, List.map_cons, List.map_nil]); first | done | rfl | (simp only [List.length_drop, List.length_take]; rfl)) ?_
                with_reducible refine (spec_l5Sum.calls ((rd_T119 l0 x7_1).f2) true _ A14.out).mono ?_
                rintro e w' ⟨rfl, ⟨nd, rfl⟩⟩
                refine ⟨_, rfl, ?_⟩
                refine hK.out _ _ ⟨(xc BK333.out 0).trans rfl, (xc BK333.out 1).trans rfl, (xc BK333.out 2).trans rfl, ((HB.out.cell (World.block_lt_of_cell? w _ hw335_0)).trans hw335_0), ((HB.out.cell (World.block_lt_of_cell? w _ hw335_1)).trans hw335_1), ((HB.out.cell (World.block_lt_of_cell? w _ hw335_2)).trans hw335_2), ((HB.out.cell (World.block_lt_of_cell? w _ hw340_0)).trans hw340_0), ((HB.out.cell (World.block_lt_of_cell? w _ hw340_1)).trans hw340_1), ((HB.out.cell (World.block_lt_of_cell? w _ hw340_2)).trans hw340_2)⟩ (fun hHeld => ?_)
                clear hK K
                refine norm_ (a' := ?_) ?_ ?_
                rotate_left
                ·show Act.put _ (some 38) _ = _
                 simp only [Act.put, xi, xj, xk, i64_w, i32_w]
                 rfl
                refine px 27 55 268435455 (any_of HT_.out (by kernel_rfl)) ?_
                refine px 28 55 536870911 (any_of HT_.out (by kernel_rfl)) ?_
                refine px 29 55 1073741823 (any_of HT_.out (by kernel_rfl)) ?_
                refine px 30 55 2147483647 (any_of HT_.out (by kernel_rfl)) ?_
                refine tx 31 55 4294967295 rfl rfl (take_ofW HT_.out HW_.out (by kernel_rfl)) hHeld (by rintro w' ⟨s0, s1, s2, s3, s4, s5, s6, s7, s8⟩; go_simp; with_reducible rfl) ?_
                refine px 32 55 8589934591 (any_of HT_.out (by kernel_rfl)) ?_
                refine px 33 55 17179869183 (any_of HT_.out (by kernel_rfl)) ?_
                refine ox 34 55 34359738367 (any_of HT_.out (by kernel_rfl)) ?_
                refine ox 35 55 68719476735 (any_of HT_.out (by kernel_rfl)) ?_
                refine ox 36 55 137438953471 (any_of HT_.out (by kernel_rfl)) ?_
                refine px 37 55 274877906943 (any_of HT_.out (by kernel_rfl)) ?_
                refine px 38 55 549755813887 (any_of HT_.out (by kernel_rfl)) ?_
                refine px 39 55 1099511627775 (any_of HT_.out (by kernel_rfl)) ?_
                refine px 40 55 2199023255551 (any_of HT_.out (by kernel_rfl)) ?_
                refine px 41 55 4398046511103 (any_of HT_.out (by kernel_rfl)) ?_
                refine px 42 55 8796093022207 (any_of HT_.out (by kernel_rfl)) ?_
                refine px 43 55 17592186044415 (any_of HT_.out (by kernel_rfl)) ?_
                refine px 44 55 35184372088831 (any_of HT_.out (by kernel_rfl)) ?_
                refine px 45 55 70368744177663 (any_of HT_.out (by kernel_rfl)) ?_
                refine px 46 55 140737488355327 (any_of HT_.out (by kernel_rfl)) ?_
                refine px 47 55 281474976710655 (any_of HT_.out (by kernel_rfl)) ?_
                refine px 49 55 844424930131967 (any_of HT_.out (by kernel_rfl)) ?_
                refine tx 48 55 1125899906842623 rfl rfl (take_ofW HT_.out HW_.out (by kernel_rfl)) hHeld (by rintro w' ⟨s0, s1, s2, s3, s4, s5, s6, s7, s8⟩; go_simp; with_reducible rfl) ?_
                refine tx 50 55 2251799813685247 rfl rfl (take_ofW HT_.out HW_.out (by kernel_rfl)) hHeld (by rintro w' ⟨s0, s1, s2, s3, s4, s5, s6, s7, s8⟩; go_simp; with_reducible rfl) ?_
                refine one_ (i := 51) (N := some 63) #[Y,Y,Y,Y,Y,Y,Y,Y,Y,Y,Y,Y,Y,Y,Y,Y,Y,Y,Y,Y,Y,Y,Y,Y,Y,Y,Y,Y,Y,Y,Y,Y,Y,Y,Y,Y,Y,Y,Y,Y,Y,Y,Y,Y,Y,Y,Y,Y,Y,Y,Y,Y,Z,Z,Z] rfl rfl (one_of HT_.out (by kernel_rfl)) (by decide) (fun K hK => ?_)
                refine goes_ Try.func88 (by kernel_rfl) rfl #[.agg #[.slice A340_0 ((rd_T119 l0 (ji34)).f0.f0).length c340_0], .agg #[.slice A332_0 ((rd_T119 l0 x7_1).f0.f0).length c332_0]] (by rfl) rfl rfl (by (try simp only [List.map_toArray, List.map_cons, List.map_nil]); first | done | (simp only [hji34]; rfl) | rfl | (simp only [List.length_drop, List.length_take]; rfl)) ?_
                with_reducible refine (spec_l1Compare.calls k1 _ _ ((rd_T119 l0 (ji34)).f0.f0) _ _ ((rd_T119 l0 x7_1).f0.f0) t341 _ ?side1 ?side2 ?side3 ?side4 A37.out).mono ?_
                (case side1 => repeat (first | exact (Kd.C_below HR340_0.out (by repeat (first | (with_reducible first | exact HB.out | apply xa | apply xn | apply xd | refine xt ?_ GE333.out) | exact HB.out))) | (with_reducible refine Kd.C_alloc ?_ _) | (with_reducible refine Kd.C_drewN ?_ _) | (with_reducible refine Kd.C_drew ?_)))
                (case side2 => exact HC340_0.out)
                (case side3 => repeat (first | exact (Kd.C_below HR332_0.out (by repeat (first | (with_reducible first | exact HB.out | apply xa | apply xn | apply xd | refine xt ?_ GE333.out) | exact HB.out))) | (with_reducible refine Kd.C_alloc ?_ _) | (with_reducible refine Kd.C_drewN ?_ _) | (with_reducible refine Kd.C_drew ?_)))
                (case side4 => exact HC332_0.out)
                rintro e w41 ⟨rfl, hb⟩
                refine ⟨_, rfl, ?_⟩
                have n0_ := xm (blk_below (g := gb333) (o := .cells #[.slice A332_0 ((rd_T119 l0 x7_1).f0.f0).length c332_0, .int .i64 ((rd_T119 l0 x7_1).f1), .int .i64 ((rd_T119 l0 x7_1).f2)] 119 (0, 0)) (by (with_reducible repeat (first | refine xq ?_ _ | refine xr ?_ | refine xo ?_ _)); exact BK333.out) hb)
                have n1_ := xm (below_step (by repeat (first | (with_reducible first | exact HB.out | apply xa | apply xn | apply xd | refine xt ?_ GE333.out) | exact HB.out)) hb)
                clear BK333
                clear HB
                have BK333 := n0_
                have HB := n1_
                clear n0_ n1_
                (try clear hb)
                (try clear hb2)
                (try clear hk)
                (try clear hi)
                refine hK.out _ _ ⟨(xc BK333.out 0).trans rfl, (xc BK333.out 1).trans rfl, (xc BK333.out 2).trans rfl, ((HB.out.cell (World.block_lt_of_cell? w _ hw335_0)).trans hw335_0), ((HB.out.cell (World.block_lt_of_cell? w _ hw335_1)).trans hw335_1), ((HB.out.cell (World.block_lt_of_cell? w _ hw335_2)).trans hw335_2), ((HB.out.cell (World.block_lt_of_cell? w _ hw340_0)).trans hw340_0), ((HB.out.cell (World.block_lt_of_cell? w _ hw340_1)).trans hw340_1), ((HB.out.cell (World.block_lt_of_cell? w _ hw340_2)).trans hw340_2)⟩ (fun hHeld => ?_)
                clear hK K
                refine norm_ (a' := ?_) ?_ ?_
                rotate_left
                ·show Act.put _ (some 63) _ = _
                 simp only [Act.put, xi, xj, xk, i64_w, i32_w]
                 rfl
                refine px 52 55 9007199254740991 (any_of HT_.out (by kernel_rfl)) ?_
                refine px 53 55 18014398509481983 (any_of HT_.out (by kernel_rfl)) ?_
                refine px 54 55 36028797018963967 (any_of HT_.out (by kernel_rfl)) ?_
                refine done_ (done_of HT_.out (by kernel_rfl)) ?_
                try go_wp2
                go_meet
                case rel => exact ⟨_, (decide (t341 ≥ 0)), (by first | rfl | (simp; done) | (simp [*]; done)), H', ⟨by have := HK1.out; first | omega | exact Nat.le_refl _⟩, ⟨by (with_reducible repeat (first | refine xq ?_ _ | refine xr ?_ | refine xo ?_ _)); exact BK333.out⟩, ⟨by repeat (first | (with_reducible first | exact HB.out | apply xa | apply xn | apply xd | refine xt ?_ GE333.out) | exact HB.out)⟩⟩
               ·rw [if_neg c36] at H
                exact absurd H (by simp)
              ·rw [if_neg c35] at H
               exact absurd H (by simp)
             ·rw [if_neg c33] at H
              have c33b0 : decide (0 < x7_1) = false := decide_eq_false c33
              clear c33
              have H' := xm H
              clear H
              try go_wp2
              have n0_ : Aside0 ((((w6.setCell ⟨gb333, 0, none⟩ (.slice A332_0 ((rd_T119 l0 x7_1).f0.f0).length c332_0)).setCell ⟨gb333, 1, none⟩ (.int .i64 ((rd_T119 l0 x7_1).f1))).setCell ⟨gb333, 2, none⟩ (.int .i64 ((rd_T119 l0 x7_1).f2))).heap[gb333]? = some (.cells #[.slice A332_0 ((rd_T119 l0 x7_1).f0.f0).length c332_0, .int .i64 ((rd_T119 l0 x7_1).f1), .int .i64 ((rd_T119 l0 x7_1).f2)] 119 (0, 0))) := ⟨by (with_reducible repeat (first | refine xq ?_ _ | refine xr ?_ | refine xo ?_ _)); refine blk_put (cs := #[.slice A332_0 ((rd_T119 l0 x7_1).f0.f0).length c332_0, .int .i64 ((rd_T119 l0 x7_1).f1), .int .i64 0]) ?_ 2 _ rfl; (with_reducible repeat (first | refine xq ?_ _ | refine xr ?_ | refine xo ?_ _)); refine blk_put (cs := #[.slice A332_0 ((rd_T119 l0 x7_1).f0.f0).length c332_0, .int .i64 0, .int .i64 0]) ?_ 1 _ rfl; (with_reducible repeat (first | refine xq ?_ _ | refine xr ?_ | refine xo ?_ _)); refine blk_put (cs := #[.slice none 0 0, .int .i64 0, .int .i64 0]) ?_ 0 _ rfl; (with_reducible repeat (first | refine xq ?_ _ | refine xr ?_ | refine xo ?_ _)); exact BK333.out⟩
              have n1_ : Aside0 (Below w.heap.size w (((w6.setCell ⟨gb333, 0, none⟩ (.slice A332_0 ((rd_T119 l0 x7_1).f0.f0).length c332_0)).setCell ⟨gb333, 1, none⟩ (.int .i64 ((rd_T119 l0 x7_1).f1))).setCell ⟨gb333, 2, none⟩ (.int .i64 ((rd_T119 l0 x7_1).f2)))) := ⟨by repeat (first | (with_reducible first | exact HB.out | apply xa | apply xn | apply xd | refine xt ?_ GE333.out) | exact HB.out)⟩
              (try clear BK333)
              (try clear HB)
              generalize (((w6.setCell ⟨gb333, 0, none⟩ (.slice A332_0 ((rd_T119 l0 x7_1).f0.f0).length c332_0)).setCell ⟨gb333, 1, none⟩ (.int .i64 ((rd_T119 l0 x7_1).f1))).setCell ⟨gb333, 2, none⟩ (.int .i64 ((rd_T119 l0 x7_1).f2))) = w42 at n0_ n1_ ⊢
              have BK333 := n0_
              have HB := n1_
              clear n0_ n1_
              have n0_ := xm (xr BK333.out)
              have n1_ := xm (xd HB.out)
              clear BK333
              clear HB
              have BK333 := n0_
              have HB := n1_
              clear n0_ n1_
              have p335 : 0 ≤ (0 : Int) := (by omega)
              have q335 : 0 < (l0.length : Int) := of_decide_eq_true (by first | (with_reducible assumption) | assumption)
              obtain ⟨ad335, A335_0, c335_0, e335, hx335_0, hx335_1, hx335_2, hl335_0, hi335_0⟩ := at_T119 HR0.out 0 p335 q335
              have hw335_2 := hx335_2
              (try rw [show ((0 : Int)).toNat = 0 from rfl] at hw335_2)
              (try rw [show 0 * 3 = 0 from rfl] at hw335_2)
              (try rw [Addr.add_zero'] at hw335_2)
              have hw335_1 := hx335_1
              (try rw [show ((0 : Int)).toNat = 0 from rfl] at hw335_1)
              (try rw [show 0 * 3 = 0 from rfl] at hw335_1)
              (try rw [Addr.add_zero'] at hw335_1)
              have hw335_0 := hx335_0
              (try rw [show ((0 : Int)).toNat = 0 from rfl] at hw335_0)
              (try rw [show 0 * 3 = 0 from rfl] at hw335_0)
              (try rw [Addr.add_zero'] at hw335_0)
              obtain rfl : ad332 = ad335 := (by injection e335)
              have qi335 : (0 < l0.length) = True := eq_true (by omega)
              (try rw [show ((0 : Int)).toNat = 0 from rfl] at hx335_0)
              (try rw [show 0 * 3 = 0 from rfl] at hx335_0)
              (try rw [Addr.add_zero'] at hx335_0)
              (try rw [show ((0 : Int)).toNat = 0 from rfl] at hx335_1)
              (try rw [show 0 * 3 = 0 from rfl] at hx335_1)
              (try rw [Addr.add_zero'] at hx335_1)
              (try rw [show ((0 : Int)).toNat = 0 from rfl] at hx335_2)
              (try rw [show 0 * 3 = 0 from rfl] at hx335_2)
              (try rw [Addr.add_zero'] at hx335_2)
              replace hx335_0 := (HB.out.cell (World.block_lt_of_cell? w _ hx335_0)).trans hx335_0
              replace hx335_1 := (HB.out.cell (World.block_lt_of_cell? w _ hx335_1)).trans hx335_1
              replace hx335_2 := (HB.out.cell (World.block_lt_of_cell? w _ hx335_2)).trans hx335_2
              have HR335_0 := xm hi335_0
              have HC335_0 := xm hl335_0
              clear hi335_0 hl335_0
              replace p335 := eq_true p335
              replace q335 := eq_true q335
              refine start_ (n := 55) (S := fun w' => w'.cell? ⟨gb333, 0, none⟩ = some (.slice A332_0 ((rd_T119 l0 x7_1).f0.f0).length c332_0) ∧ w'.cell? ⟨gb333, 1, none⟩ = some (.int .i64 ((rd_T119 l0 x7_1).f1)) ∧ w'.cell? ⟨gb333, 2, none⟩ = some (.int .i64 ((rd_T119 l0 x7_1).f2)) ∧ w'.cell? ad332 = some (.slice A335_0 ((rd_T119 l0 0).f0.f0).length c335_0) ∧ w'.cell? ⟨ad332.block, ad332.off + 1, none⟩ = some (.int .i64 ((rd_T119 l0 0).f1)) ∧ w'.cell? ⟨ad332.block, ad332.off + 2, none⟩ = some (.int .i64 ((rd_T119 l0 0).f2))) (ds := []) #[Z,Z,Z,Z,Z,Z,Z,Z,Z,Z,Z,Z,Z,Z,Z,Z,Z,Z,Z,Z,Z,Z,Z,Z,Z,Z,Z,Z,Z,Z,Z,Z,Z,Z,Z,Z,Z,Z,Z,Z,Z,Z,Z,Z,Z,Z,Z,Z,Z,Z,Z,Z,Z,Z,Z] (by kernel_rfl) rfl rfl ⟨(xc BK333.out 0).trans rfl, (xc BK333.out 1).trans rfl, (xc BK333.out 2).trans rfl, ((HB.out.cell (World.block_lt_of_cell? w _ hw335_0)).trans hw335_0), ((HB.out.cell (World.block_lt_of_cell? w _ hw335_1)).trans hw335_1), ((HB.out.cell (World.block_lt_of_cell? w _ hw335_2)).trans hw335_2)⟩ (fun hHeld => ?_); refine with_tabW spec_GoodGroups.tab4 spec_GoodGroups.bits4 (fun HT_ HW_ => ?_)
              generalize w42.drew = w43 at BK333 HB HR335_0 hx335_0 hx335_1 hx335_2 hHeld ⊢
              refine px 0 55 1 (any_of HT_.out (by kernel_rfl)) ?_
              refine tx 1 55 3 rfl rfl (take_ofW HT_.out HW_.out (by kernel_rfl)) hHeld (by rintro w' ⟨s0, s1, s2, s3, s4, s5⟩; go_simp; with_reducible rfl) ?_
              refine one_ (i := 2) (N := some 14) #[Y,Y,Y,Z,Z,Z,Z,Z,Z,Z,Z,Z,Z,Z,Z,Z,Z,Z,Z,Z,Z,Z,Z,Z,Z,Z,Z,Z,Z,Z,Z,Z,Z,Z,Z,Z,Z,Z,Z,Z,Z,Z,Z,Z,Z,Z,Z,Z,Z,Z,Z,Z,Z,Z,Z] rfl rfl (one_of HT_.out (by kernel_rfl)) (by decide) (fun K hK => ?_)
              refine goes_ Try.func82 (by kernel_rfl) rfl #[.agg #[.slice A332_0 ((rd_T119 l0 x7_1).f0.f0).length c332_0]] (by rfl) rfl rfl (by (try simp only [List.map_toArray, List.map_cons, List.map_nil]); first | done | rfl | (simp only [List.length_drop, List.length_take]; rfl)) ?_
              with_reducible refine (spec_GoodRow.calls k1 _ _ ((rd_T119 l0 x7_1).f0.f0) true _ ?side1 ?side2 A8.out).mono ?_
              (case side1 => repeat (first | exact (Kd.C_below HR332_0.out HB.out) | (with_reducible refine Kd.C_alloc ?_ _) | (with_reducible refine Kd.C_drewN ?_ _) | (with_reducible refine Kd.C_drew ?_)))
              (case side2 => exact HC332_0.out)
              rintro e w44 ⟨rfl, hb⟩
              refine ⟨_, rfl, ?_⟩
              have n0_ := xm (blk_below (g := gb333) (o := .cells #[.slice A332_0 ((rd_T119 l0 x7_1).f0.f0).length c332_0, .int .i64 ((rd_T119 l0 x7_1).f1), .int .i64 ((rd_T119 l0 x7_1).f2)] 119 (0, 0)) (by (with_reducible repeat (first | refine xq ?_ _ | refine xr ?_ | refine xo ?_ _)); exact BK333.out) hb)
              have n1_ := xm (below_step (by repeat (first | (with_reducible first | exact HB.out | apply xa | apply xn | apply xd | refine xt ?_ GE333.out) | exact HB.out)) hb)
              clear BK333
              clear HB
              have BK333 := n0_
              have HB := n1_
              clear n0_ n1_
              (try clear hb)
              (try clear hb2)
              (try clear hk)
              (try clear hi)
              refine hK.out _ _ ⟨(xc BK333.out 0).trans rfl, (xc BK333.out 1).trans rfl, (xc BK333.out 2).trans rfl, ((HB.out.cell (World.block_lt_of_cell? w _ hw335_0)).trans hw335_0), ((HB.out.cell (World.block_lt_of_cell? w _ hw335_1)).trans hw335_1), ((HB.out.cell (World.block_lt_of_cell? w _ hw335_2)).trans hw335_2)⟩ (fun hHeld => ?_)
              clear hK K
              refine norm_ (a' := ?_) ?_ ?_
              rotate_left
              ·show Act.put _ (some 14) _ = _
               simp only [Act.put, xi, xj, xk, i64_w, i32_w]
               rfl
              refine px 3 55 15 (any_of HT_.out (by kernel_rfl)) ?_
              refine px 4 55 31 (any_of HT_.out (by kernel_rfl)) ?_
              refine px 5 55 63 (any_of HT_.out (by kernel_rfl)) ?_
              refine px 6 55 127 (any_of HT_.out (by kernel_rfl)) ?_
              refine px 9 55 639 (any_of HT_.out (by kernel_rfl)) ?_
              refine px 10 55 1663 (any_of HT_.out (by kernel_rfl)) ?_
              refine px 11 55 3711 (any_of HT_.out (by kernel_rfl)) ?_
              refine px 12 55 7807 (any_of HT_.out (by kernel_rfl)) ?_
              refine tx 7 55 7935 rfl rfl (take_ofW HT_.out HW_.out (by kernel_rfl)) hHeld (by rintro w' ⟨s0, s1, s2, s3, s4, s5⟩; go_simp; with_reducible rfl) ?_
              refine px 8 55 8191 (any_of HT_.out (by kernel_rfl)) ?_
              refine tx 13 55 16383 rfl rfl (take_ofW HT_.out HW_.out (by kernel_rfl)) hHeld (by rintro w' ⟨s0, s1, s2, s3, s4, s5⟩; go_simp; with_reducible rfl) ?_
              refine px 14 55 32767 (any_of HT_.out (by kernel_rfl)) ?_
              refine px 15 55 65535 (any_of HT_.out (by kernel_rfl)) ?_
              refine px 16 55 131071 (any_of HT_.out (by kernel_rfl)) ?_
              refine px 17 55 262143 (any_of HT_.out (by kernel_rfl)) ?_
              refine px 18 55 524287 (any_of HT_.out (by kernel_rfl)) ?_
              refine tx 19 55 1048575 rfl rfl (take_ofW HT_.out HW_.out (by kernel_rfl)) hHeld (by rintro w' ⟨s0, s1, s2, s3, s4, s5⟩; go_simp; with_reducible rfl) ?_
              refine one_ (i := 20) (N := some 32) #[Y,Y,Y,Y,Y,Y,Y,Y,Y,Y,Y,Y,Y,Y,Y,Y,Y,Y,Y,Y,Y,Z,Z,Z,Z,Z,Z,Z,Z,Z,Z,Z,Z,Z,Z,Z,Z,Z,Z,Z,Z,Z,Z,Z,Z,Z,Z,Z,Z,Z,Z,Z,Z,Z,Z] rfl rfl (one_of HT_.out (by kernel_rfl)) (by decide) (fun K hK => ?_)
              refine goes_ Try.func96 (by kernel_rfl) rfl #[.int .i64 ((rd_T119 l0 x7_1).f1)] (by rfl) rfl rfl (by (try simp only [List.map_toArray, List.map_cons, List.map_nil]); first | done | rfl | (simp only [List.length_drop, List.length_take]; rfl)) ?_
              with_reducible refine (spec_l5Sum.calls ((rd_T119 l0 x7_1).f1) true _ A12.out).mono ?_
              rintro e w' ⟨rfl, ⟨nd, rfl⟩⟩
              refine ⟨_, rfl, ?_⟩
              refine hK.out _ _ ⟨(xc BK333.out 0).trans rfl, (xc BK333.out 1).trans rfl, (xc BK333.out 2).trans rfl, ((HB.out.cell (World.block_lt_of_cell? w _ hw335_0)).trans hw335_0), ((HB.out.cell (World.block_lt_of_cell? w _ hw335_1)).trans hw335_1), ((HB.out.cell (World.block_lt_of_cell? w _ hw335_2)).trans hw335_2)⟩ (fun hHeld => ?_)
              clear hK K
              refine norm_ (a' := ?_) ?_ ?_
              rotate_left
              ·show Act.put _ (some 32) _ = _
               simp only [Act.put, xi, xj, xk, i64_w, i32_w]
               rfl
              refine px 21 55 4194303 (any_of HT_.out (by kernel_rfl)) ?_
              refine px 22 55 8388607 (any_of HT_.out (by kernel_rfl)) ?_
              refine px 23 55 16777215 (any_of HT_.out (by kernel_rfl)) ?_
              refine px 24 55 33554431 (any_of HT_.out (by kernel_rfl)) ?_
              refine tx 25 55 67108863 rfl rfl (take_ofW HT_.out HW_.out (by kernel_rfl)) hHeld (by rintro w' ⟨s0, s1, s2, s3, s4, s5⟩; go_simp; with_reducible rfl) ?_
              refine one_ (i := 26) (N := some 38) #[Y,Y,Y,Y,Y,Y,Y,Y,Y,Y,Y,Y,Y,Y,Y,Y,Y,Y,Y,Y,Y,Y,Y,Y,Y,Y,Y,Z,Z,Z,Z,Z,Z,Z,Z,Z,Z,Z,Z,Z,Z,Z,Z,Z,Z,Z,Z,Z,Z,Z,Z,Z,Z,Z,Z] rfl rfl (one_of HT_.out (by kernel_rfl)) (by decide) (fun K hK => ?_)
              refine goes_ Try.func96 (by kernel_rfl) rfl #[.int .i64 ((rd_T119 l0 x7_1).f2)] (by rfl) rfl rfl (by (try simp only [List.map_toArray, List.map_cons, List.map_nil]); first | done | rfl | (simp only [List.length_drop, List.length_take]; rfl)) ?_
              with_reducible refine (spec_l5Sum.calls ((rd_T119 l0 x7_1).f2) true _ A14.out).mono ?_
              rintro e w' ⟨rfl, ⟨nd, rfl⟩⟩
              refine ⟨_, rfl, ?_⟩
              refine hK.out _ _ ⟨(xc BK333.out 0).trans rfl, (xc BK333.out 1).trans rfl, (xc BK333.out 2).trans rfl, ((HB.out.cell (World.block_lt_of_cell? w _ hw335_0)).trans hw335_0), ((HB.out.cell (World.block_lt_of_cell? w _ hw335_1)).trans hw335_1), ((HB.out.cell (World.block_lt_of_cell? w _ hw335_2)).trans hw335_2)⟩ (fun hHeld => ?_)
              clear hK K
              refine norm_ (a' := ?_) ?_ ?_
              rotate_left
              ·show Act.put _ (some 38) _ = _
               simp only [Act.put, xi, xj, xk, i64_w, i32_w]
               rfl
              refine px 27 55 268435455 (any_of HT_.out (by kernel_rfl)) ?_
              refine px 28 55 536870911 (any_of HT_.out (by kernel_rfl)) ?_
              refine px 29 55 1073741823 (any_of HT_.out (by kernel_rfl)) ?_
              refine px 30 55 2147483647 (any_of HT_.out (by kernel_rfl)) ?_
              refine tx 31 55 4294967295 rfl rfl (take_ofW HT_.out HW_.out (by kernel_rfl)) hHeld (by rintro w' ⟨s0, s1, s2, s3, s4, s5⟩; go_simp; with_reducible rfl) ?_
              refine px 32 55 8589934591 (any_of HT_.out (by kernel_rfl)) ?_
              refine px 33 55 17179869183 (any_of HT_.out (by kernel_rfl)) ?_
              refine ox 34 55 34359738367 (any_of HT_.out (by kernel_rfl)) ?_
              refine ox 35 55 68719476735 (any_of HT_.out (by kernel_rfl)) ?_
              refine ox 36 55 137438953471 (any_of HT_.out (by kernel_rfl)) ?_
              refine px 37 55 274877906943 (any_of HT_.out (by kernel_rfl)) ?_
              refine px 38 55 549755813887 (any_of HT_.out (by kernel_rfl)) ?_
              refine px 39 55 1099511627775 (any_of HT_.out (by kernel_rfl)) ?_
              refine px 40 55 2199023255551 (any_of HT_.out (by kernel_rfl)) ?_
              refine px 41 55 4398046511103 (any_of HT_.out (by kernel_rfl)) ?_
              refine px 42 55 8796093022207 (any_of HT_.out (by kernel_rfl)) ?_
              refine ox 43 55 17592186044415 (any_of HT_.out (by kernel_rfl)) ?_
              refine ox 44 55 35184372088831 (any_of HT_.out (by kernel_rfl)) ?_
              refine ox 45 55 70368744177663 (any_of HT_.out (by kernel_rfl)) ?_
              refine ox 46 55 140737488355327 (any_of HT_.out (by kernel_rfl)) ?_
              refine ox 47 55 281474976710655 (any_of HT_.out (by kernel_rfl)) ?_
              refine ox 48 55 562949953421311 (any_of HT_.out (by kernel_rfl)) ?_
              refine ox 49 55 1125899906842623 (any_of HT_.out (by kernel_rfl)) ?_
              refine ox 50 55 2251799813685247 (any_of HT_.out (by kernel_rfl)) ?_
              refine ox 51 55 4503599627370495 (any_of HT_.out (by kernel_rfl)) ?_
              refine ox 52 55 9007199254740991 (any_of HT_.out (by kernel_rfl)) ?_
              refine px 53 55 18014398509481983 (any_of HT_.out (by kernel_rfl)) ?_
              refine px 54 55 36028797018963967 (any_of HT_.out (by kernel_rfl)) ?_
              refine done_ (done_of HT_.out (by kernel_rfl)) ?_
              try go_wp2
              go_meet
              case rel => exact ⟨_, (false), (by first | rfl | (simp; done) | (simp [*]; done)), H', ⟨by have := HK1.out; first | omega | exact Nat.le_refl _⟩, ⟨by (with_reducible repeat (first | refine xq ?_ _ | refine xr ?_ | refine xo ?_ _)); exact BK333.out⟩, ⟨by repeat (first | (with_reducible first | exact HB.out | apply xa | apply xn | apply xd | refine xt ?_ GE333.out) | exact HB.out)⟩⟩
           ·replace c15 := Bool.eq_false_iff.mpr c15
            subst c15
            have H1 : (spec_GoodGroups.j1 k1 l0 l0 (l0.length : Int) x7_1 true) = some r := by first | (with_reducible rfl) | (rw [if_neg (show ¬ (false = true) by decide)] at H; exact H)
            clear H
            have H := H1
            clear H1
            have H' := xm H
            clear H
            try go_wp2
            have n0_ : Aside0 ((((w6.setCell ⟨gb333, 0, none⟩ (.slice A332_0 ((rd_T119 l0 x7_1).f0.f0).length c332_0)).setCell ⟨gb333, 1, none⟩ (.int .i64 ((rd_T119 l0 x7_1).f1))).setCell ⟨gb333, 2, none⟩ (.int .i64 ((rd_T119 l0 x7_1).f2))).heap[gb333]? = some (.cells #[.slice A332_0 ((rd_T119 l0 x7_1).f0.f0).length c332_0, .int .i64 ((rd_T119 l0 x7_1).f1), .int .i64 ((rd_T119 l0 x7_1).f2)] 119 (0, 0))) := ⟨by (with_reducible repeat (first | refine xq ?_ _ | refine xr ?_ | refine xo ?_ _)); refine blk_put (cs := #[.slice A332_0 ((rd_T119 l0 x7_1).f0.f0).length c332_0, .int .i64 ((rd_T119 l0 x7_1).f1), .int .i64 0]) ?_ 2 _ rfl; (with_reducible repeat (first | refine xq ?_ _ | refine xr ?_ | refine xo ?_ _)); refine blk_put (cs := #[.slice A332_0 ((rd_T119 l0 x7_1).f0.f0).length c332_0, .int .i64 0, .int .i64 0]) ?_ 1 _ rfl; (with_reducible repeat (first | refine xq ?_ _ | refine xr ?_ | refine xo ?_ _)); refine blk_put (cs := #[.slice none 0 0, .int .i64 0, .int .i64 0]) ?_ 0 _ rfl; (with_reducible repeat (first | refine xq ?_ _ | refine xr ?_ | refine xo ?_ _)); exact BK333.out⟩
            have n1_ : Aside0 (Below w.heap.size w (((w6.setCell ⟨gb333, 0, none⟩ (.slice A332_0 ((rd_T119 l0 x7_1).f0.f0).length c332_0)).setCell ⟨gb333, 1, none⟩ (.int .i64 ((rd_T119 l0 x7_1).f1))).setCell ⟨gb333, 2, none⟩ (.int .i64 ((rd_T119 l0 x7_1).f2)))) := ⟨by repeat (first | (with_reducible first | exact HB.out | apply xa | apply xn | apply xd | refine xt ?_ GE333.out) | exact HB.out)⟩
            (try clear BK333)
            (try clear HB)
            generalize (((w6.setCell ⟨gb333, 0, none⟩ (.slice A332_0 ((rd_T119 l0 x7_1).f0.f0).length c332_0)).setCell ⟨gb333, 1, none⟩ (.int .i64 ((rd_T119 l0 x7_1).f1))).setCell ⟨gb333, 2, none⟩ (.int .i64 ((rd_T119 l0 x7_1).f2))) = w45 at n0_ n1_ ⊢
            have BK333 := n0_
            have HB := n1_
            clear n0_ n1_
            have n0_ := xm (xr BK333.out)
            have n1_ := xm (xd HB.out)
            clear BK333
            clear HB
            have BK333 := n0_
            have HB := n1_
            clear n0_ n1_
            have p335 : 0 ≤ (0 : Int) := (by omega)
            have q335 : 0 < (l0.length : Int) := of_decide_eq_true (by first | (with_reducible assumption) | assumption)
            obtain ⟨ad335, A335_0, c335_0, e335, hx335_0, hx335_1, hx335_2, hl335_0, hi335_0⟩ := at_T119 HR0.out 0 p335 q335
            have hw335_2 := hx335_2
            (try rw [show ((0 : Int)).toNat = 0 from rfl] at hw335_2)
            (try rw [show 0 * 3 = 0 from rfl] at hw335_2)
            (try rw [Addr.add_zero'] at hw335_2)
            have hw335_1 := hx335_1
            (try rw [show ((0 : Int)).toNat = 0 from rfl] at hw335_1)
            (try rw [show 0 * 3 = 0 from rfl] at hw335_1)
            (try rw [Addr.add_zero'] at hw335_1)
            have hw335_0 := hx335_0
            (try rw [show ((0 : Int)).toNat = 0 from rfl] at hw335_0)
            (try rw [show 0 * 3 = 0 from rfl] at hw335_0)
            (try rw [Addr.add_zero'] at hw335_0)
            obtain rfl : ad332 = ad335 := (by injection e335)
            have qi335 : (0 < l0.length) = True := eq_true (by omega)
            (try rw [show ((0 : Int)).toNat = 0 from rfl] at hx335_0)
            (try rw [show 0 * 3 = 0 from rfl] at hx335_0)
            (try rw [Addr.add_zero'] at hx335_0)
            (try rw [show ((0 : Int)).toNat = 0 from rfl] at hx335_1)
            (try rw [show 0 * 3 = 0 from rfl] at hx335_1)
            (try rw [Addr.add_zero'] at hx335_1)
            (try rw [show ((0 : Int)).toNat = 0 from rfl] at hx335_2)
            (try rw [show 0 * 3 = 0 from rfl] at hx335_2)
            (try rw [Addr.add_zero'] at hx335_2)
            replace hx335_0 := (HB.out.cell (World.block_lt_of_cell? w _ hx335_0)).trans hx335_0
            replace hx335_1 := (HB.out.cell (World.block_lt_of_cell? w _ hx335_1)).trans hx335_1
            replace hx335_2 := (HB.out.cell (World.block_lt_of_cell? w _ hx335_2)).trans hx335_2
            have HR335_0 := xm hi335_0
            have HC335_0 := xm hl335_0
            clear hi335_0 hl335_0
            replace p335 := eq_true p335
            replace q335 := eq_true q335
            refine start_ (n := 55) (S := fun w' => w'.cell? ⟨gb333, 0, none⟩ = some (.slice A332_0 ((rd_T119 l0 x7_1).f0.f0).length c332_0) ∧ w'.cell? ⟨gb333, 1, none⟩ = some (.int .i64 ((rd_T119 l0 x7_1).f1)) ∧ w'.cell? ⟨gb333, 2, none⟩ = some (.int .i64 ((rd_T119 l0 x7_1).f2)) ∧ w'.cell? ad332 = some (.slice A335_0 ((rd_T119 l0 0).f0.f0).length c335_0) ∧ w'.cell? ⟨ad332.block, ad332.off + 1, none⟩ = some (.int .i64 ((rd_T119 l0 0).f1)) ∧ w'.cell? ⟨ad332.block, ad332.off + 2, none⟩ = some (.int .i64 ((rd_T119 l0 0).f2))) (ds := []) #[Z,Z,Z,Z,Z,Z,Z,Z,Z,Z,Z,Z,Z,Z,Z,Z,Z,Z,Z,Z,Z,Z,Z,Z,Z,Z,Z,Z,Z,Z,Z,Z,Z,Z,Z,Z,Z,Z,Z,Z,Z,Z,Z,Z,Z,Z,Z,Z,Z,Z,Z,Z,Z,Z,Z] (by kernel_rfl) rfl rfl ⟨(xc BK333.out 0).trans rfl, (xc BK333.out 1).trans rfl, (xc BK333.out 2).trans rfl, ((HB.out.cell (World.block_lt_of_cell? w _ hw335_0)).trans hw335_0), ((HB.out.cell (World.block_lt_of_cell? w _ hw335_1)).trans hw335_1), ((HB.out.cell (World.block_lt_of_cell? w _ hw335_2)).trans hw335_2)⟩ (fun hHeld => ?_); refine with_tabW spec_GoodGroups.tab4 spec_GoodGroups.bits4 (fun HT_ HW_ => ?_)
            generalize w45.drew = w46 at BK333 HB HR335_0 hx335_0 hx335_1 hx335_2 hHeld ⊢
            refine px 0 55 1 (any_of HT_.out (by kernel_rfl)) ?_
            refine tx 1 55 3 rfl rfl (take_ofW HT_.out HW_.out (by kernel_rfl)) hHeld (by rintro w' ⟨s0, s1, s2, s3, s4, s5⟩; go_simp; with_reducible rfl) ?_
            refine one_ (i := 2) (N := some 14) #[Y,Y,Y,Z,Z,Z,Z,Z,Z,Z,Z,Z,Z,Z,Z,Z,Z,Z,Z,Z,Z,Z,Z,Z,Z,Z,Z,Z,Z,Z,Z,Z,Z,Z,Z,Z,Z,Z,Z,Z,Z,Z,Z,Z,Z,Z,Z,Z,Z,Z,Z,Z,Z,Z,Z] rfl rfl (one_of HT_.out (by kernel_rfl)) (by decide) (fun K hK => ?_)
            refine goes_ Try.func82 (by kernel_rfl) rfl #[.agg #[.slice A332_0 ((rd_T119 l0 x7_1).f0.f0).length c332_0]] (by rfl) rfl rfl (by (try simp only [List.map_toArray, List.map_cons, List.map_nil]); first | done | rfl | (simp only [List.length_drop, List.length_take]; rfl)) ?_
            with_reducible refine (spec_GoodRow.calls k1 _ _ ((rd_T119 l0 x7_1).f0.f0) true _ ?side1 ?side2 A8.out).mono ?_
            (case side1 => repeat (first | exact (Kd.C_below HR332_0.out HB.out) | (with_reducible refine Kd.C_alloc ?_ _) | (with_reducible refine Kd.C_drewN ?_ _) | (with_reducible refine Kd.C_drew ?_)))
            (case side2 => exact HC332_0.out)
            rintro e w47 ⟨rfl, hb⟩
            refine ⟨_, rfl, ?_⟩
            have n0_ := xm (blk_below (g := gb333) (o := .cells #[.slice A332_0 ((rd_T119 l0 x7_1).f0.f0).length c332_0, .int .i64 ((rd_T119 l0 x7_1).f1), .int .i64 ((rd_T119 l0 x7_1).f2)] 119 (0, 0)) (by (with_reducible repeat (first | refine xq ?_ _ | refine xr ?_ | refine xo ?_ _)); exact BK333.out) hb)
            have n1_ := xm (below_step (by repeat (first | (with_reducible first | exact HB.out | apply xa | apply xn | apply xd | refine xt ?_ GE333.out) | exact HB.out)) hb)
            clear BK333
            clear HB
            have BK333 := n0_
            have HB := n1_
            clear n0_ n1_
            (try clear hb)
            (try clear hb2)
            (try clear hk)
            (try clear hi)
            refine hK.out _ _ ⟨(xc BK333.out 0).trans rfl, (xc BK333.out 1).trans rfl, (xc BK333.out 2).trans rfl, ((HB.out.cell (World.block_lt_of_cell? w _ hw335_0)).trans hw335_0), ((HB.out.cell (World.block_lt_of_cell? w _ hw335_1)).trans hw335_1), ((HB.out.cell (World.block_lt_of_cell? w _ hw335_2)).trans hw335_2)⟩ (fun hHeld => ?_)
            clear hK K
            refine norm_ (a' := ?_) ?_ ?_
            rotate_left
            ·show Act.put _ (some 14) _ = _
             simp only [Act.put, xi, xj, xk, i64_w, i32_w]
             rfl
            refine px 3 55 15 (any_of HT_.out (by kernel_rfl)) ?_
            refine px 4 55 31 (any_of HT_.out (by kernel_rfl)) ?_
            refine px 5 55 63 (any_of HT_.out (by kernel_rfl)) ?_
            refine px 6 55 127 (any_of HT_.out (by kernel_rfl)) ?_
            refine px 9 55 639 (any_of HT_.out (by kernel_rfl)) ?_
            refine px 10 55 1663 (any_of HT_.out (by kernel_rfl)) ?_
            refine px 11 55 3711 (any_of HT_.out (by kernel_rfl)) ?_
            refine px 12 55 7807 (any_of HT_.out (by kernel_rfl)) ?_
            refine tx 7 55 7935 rfl rfl (take_ofW HT_.out HW_.out (by kernel_rfl)) hHeld (by rintro w' ⟨s0, s1, s2, s3, s4, s5⟩; go_simp; with_reducible rfl) ?_
            refine px 8 55 8191 (any_of HT_.out (by kernel_rfl)) ?_
            refine tx 13 55 16383 rfl rfl (take_ofW HT_.out HW_.out (by kernel_rfl)) hHeld (by rintro w' ⟨s0, s1, s2, s3, s4, s5⟩; go_simp; with_reducible rfl) ?_
            refine px 14 55 32767 (any_of HT_.out (by kernel_rfl)) ?_
            refine px 15 55 65535 (any_of HT_.out (by kernel_rfl)) ?_
            refine px 16 55 131071 (any_of HT_.out (by kernel_rfl)) ?_
            refine px 17 55 262143 (any_of HT_.out (by kernel_rfl)) ?_
            refine px 18 55 524287 (any_of HT_.out (by kernel_rfl)) ?_
            refine tx 19 55 1048575 rfl rfl (take_ofW HT_.out HW_.out (by kernel_rfl)) hHeld (by rintro w' ⟨s0, s1, s2, s3, s4, s5⟩; go_simp; with_reducible rfl) ?_
            refine one_ (i := 20) (N := some 32) #[Y,Y,Y,Y,Y,Y,Y,Y,Y,Y,Y,Y,Y,Y,Y,Y,Y,Y,Y,Y,Y,Z,Z,Z,Z,Z,Z,Z,Z,Z,Z,Z,Z,Z,Z,Z,Z,Z,Z,Z,Z,Z,Z,Z,Z,Z,Z,Z,Z,Z,Z,Z,Z,Z,Z] rfl rfl (one_of HT_.out (by kernel_rfl)) (by decide) (fun K hK => ?_)
            refine goes_ Try.func96 (by kernel_rfl) rfl #[.int .i64 ((rd_T119 l0 x7_1).f1)] (by rfl) rfl rfl (by (try simp only [List.map_toArray, List.map_cons, List.map_nil]); first | done | rfl | (simp only [List.length_drop, List.length_take]; rfl)) ?_
            with_reducible refine (spec_l5Sum.calls ((rd_T119 l0 x7_1).f1) true _ A12.out).mono ?_
            rintro e w' ⟨rfl, ⟨nd, rfl⟩⟩
            refine ⟨_, rfl, ?_⟩
            refine hK.out _ _ ⟨(xc BK333.out 0).trans rfl, (xc BK333.out 1).trans rfl, (xc BK333.out 2).trans rfl, ((HB.out.cell (World.block_lt_of_cell? w _ hw335_0)).trans hw335_0), ((HB.out.cell (World.block_lt_of_cell? w _ hw335_1)).trans hw335_1), ((HB.out.cell (World.block_lt_of_cell? w _ hw335_2)).trans hw335_2)⟩ (fun hHeld => ?_)
            clear hK K
            refine norm_ (a' := ?_) ?_ ?_
            rotate_left
            ·show Act.put _ (some 32) _ = _
             simp only [Act.put, xi, xj, xk, i64_w, i32_w]
             rfl
            refine px 21 55 4194303 (any_of HT_.out (by kernel_rfl)) ?_
            refine px 22 55 8388607 (any_of HT_.out (by kernel_rfl)) ?_
            refine px 23 55 16777215 (any_of HT_.out (by kernel_rfl)) ?_
            refine px 24 55 33554431 (any_of HT_.out (by kernel_rfl)) ?_
            refine tx 25 55 67108863 rfl rfl (take_ofW HT_.out HW_.out (by kernel_rfl)) hHeld (by rintro w' ⟨s0, s1, s2, s3, s4, s5⟩; go_simp; with_reducible rfl) ?_
            refine one_ (i := 26) (N := some 38) #[Y,Y,Y,Y,Y,Y,Y,Y,Y,Y,Y,Y,Y,Y,Y,Y,Y,Y,Y,Y,Y,Y,Y,Y,Y,Y,Y,Z,Z,Z,Z,Z,Z,Z,Z,Z,Z,Z,Z,Z,Z,Z,Z,Z,Z,Z,Z,Z,Z,Z,Z,Z,Z,Z,Z] rfl rfl (one_of HT_.out (by kernel_rfl)) (by decide) (fun K hK => ?_)
            refine goes_ Try.func96 (by kernel_rfl) rfl #[.int .i64 ((rd_T119 l0 x7_1).f2)] (by rfl) rfl rfl (by (try simp only [List.map_toArray, List.map_cons, List.map_nil]); first | done | rfl | (simp only [List.length_drop, List.length_take]; rfl)) ?_
            with_reducible refine (spec_l5Sum.calls ((rd_T119 l0 x7_1).f2) false _ A14.out).mono ?_
            rintro e w' ⟨rfl, ⟨nd, rfl⟩⟩
            refine ⟨_, rfl, ?_⟩
            refine hK.out _ _ ⟨(xc BK333.out 0).trans rfl, (xc BK333.out 1).trans rfl, (xc BK333.out 2).trans rfl, ((HB.out.cell (World.block_lt_of_cell? w _ hw335_0)).trans hw335_0), ((HB.out.cell (World.block_lt_of_cell? w _ hw335_1)).trans hw335_1), ((HB.out.cell (World.block_lt_of_cell? w _ hw335_2)).trans hw335_2)⟩ (fun hHeld => ?_)
            clear hK K
            refine norm_ (a' := ?_) ?_ ?_
            rotate_left
            ·show Act.put _ (some 38) _ = _
             simp only [Act.put, xi, xj, xk, i64_w, i32_w]
             rfl
            refine px 27 55 268435455 (any_of HT_.out (by kernel_rfl)) ?_
            refine px 28 55 536870911 (any_of HT_.out (by kernel_rfl)) ?_
            refine px 29 55 1073741823 (any_of HT_.out (by kernel_rfl)) ?_
            refine ox 30 55 2147483647 (any_of HT_.out (by kernel_rfl)) ?_
            refine ox 31 55 4294967295 (any_of HT_.out (by kernel_rfl)) ?_
            refine ox 32 55 8589934591 (any_of HT_.out (by kernel_rfl)) ?_
            refine ox 33 55 17179869183 (any_of HT_.out (by kernel_rfl)) ?_
            refine ox 34 55 34359738367 (any_of HT_.out (by kernel_rfl)) ?_
            refine ox 35 55 68719476735 (any_of HT_.out (by kernel_rfl)) ?_
            refine ox 36 55 137438953471 (any_of HT_.out (by kernel_rfl)) ?_
            refine ox 37 55 274877906943 (any_of HT_.out (by kernel_rfl)) ?_
            refine px 38 55 549755813887 (any_of HT_.out (by kernel_rfl)) ?_
            refine px 39 55 1099511627775 (any_of HT_.out (by kernel_rfl)) ?_
            refine ox 40 55 2199023255551 (any_of HT_.out (by kernel_rfl)) ?_
            refine ox 41 55 4398046511103 (any_of HT_.out (by kernel_rfl)) ?_
            refine ox 42 55 8796093022207 (any_of HT_.out (by kernel_rfl)) ?_
            refine ox 43 55 17592186044415 (any_of HT_.out (by kernel_rfl)) ?_
            refine ox 44 55 35184372088831 (any_of HT_.out (by kernel_rfl)) ?_
            refine ox 45 55 70368744177663 (any_of HT_.out (by kernel_rfl)) ?_
            refine ox 46 55 140737488355327 (any_of HT_.out (by kernel_rfl)) ?_
            refine ox 47 55 281474976710655 (any_of HT_.out (by kernel_rfl)) ?_
            refine ox 48 55 562949953421311 (any_of HT_.out (by kernel_rfl)) ?_
            refine ox 49 55 1125899906842623 (any_of HT_.out (by kernel_rfl)) ?_
            refine ox 50 55 2251799813685247 (any_of HT_.out (by kernel_rfl)) ?_
            refine ox 51 55 4503599627370495 (any_of HT_.out (by kernel_rfl)) ?_
            refine ox 52 55 9007199254740991 (any_of HT_.out (by kernel_rfl)) ?_
            refine ox 53 55 18014398509481983 (any_of HT_.out (by kernel_rfl)) ?_
            refine px 54 55 36028797018963967 (any_of HT_.out (by kernel_rfl)) ?_
            refine done_ (done_of HT_.out (by kernel_rfl)) ?_
            try go_wp2
            go_meet
            case rel => exact ⟨_, (true), (by first | rfl | (simp; done) | (simp [*]; done)), H', ⟨by have := HK1.out; first | omega | exact Nat.le_refl _⟩, ⟨by (with_reducible repeat (first | refine xq ?_ _ | refine xr ?_ | refine xo ?_ _)); exact BK333.out⟩, ⟨by repeat (first | (with_reducible first | exact HB.out | apply xa | apply xn | apply xd | refine xt ?_ GE333.out) | exact HB.out)⟩⟩
          ·replace c13 := Bool.eq_false_iff.mpr c13
           subst c13
           have H1 : (spec_GoodGroups.j1 k1 l0 l0 (l0.length : Int) x7_1 true) = some r := by first | (with_reducible rfl) | (rw [if_neg (show ¬ (false = true) by decide)] at H; exact H)
           clear H
           have H := H1
           clear H1
           have H' := xm H
           clear H
           try go_wp2
           have n0_ : Aside0 ((((w6.setCell ⟨gb333, 0, none⟩ (.slice A332_0 ((rd_T119 l0 x7_1).f0.f0).length c332_0)).setCell ⟨gb333, 1, none⟩ (.int .i64 ((rd_T119 l0 x7_1).f1))).setCell ⟨gb333, 2, none⟩ (.int .i64 ((rd_T119 l0 x7_1).f2))).heap[gb333]? = some (.cells #[.slice A332_0 ((rd_T119 l0 x7_1).f0.f0).length c332_0, .int .i64 ((rd_T119 l0 x7_1).f1), .int .i64 ((rd_T119 l0 x7_1).f2)] 119 (0, 0))) := ⟨by (with_reducible repeat (first | refine xq ?_ _ | refine xr ?_ | refine xo ?_ _)); refine blk_put (cs := #[.slice A332_0 ((rd_T119 l0 x7_1).f0.f0).length c332_0, .int .i64 ((rd_T119 l0 x7_1).f1), .int .i64 0]) ?_ 2 _ rfl; (with_reducible repeat (first | refine xq ?_ _ | refine xr ?_ | refine xo ?_ _)); refine blk_put (cs := #[.slice A332_0 ((rd_T119 l0 x7_1).f0.f0).length c332_0, .int .i64 0, .int .i64 0]) ?_ 1 _ rfl; (with_reducible repeat (first | refine xq ?_ _ | refine xr ?_ | refine xo ?_ _)); refine blk_put (cs := #[.slice none 0 0, .int .i64 0, .int .i64 0]) ?_ 0 _ rfl; (with_reducible repeat (first | refine xq ?_ _ | refine xr ?_ | refine xo ?_ _)); exact BK333.out⟩
           have n1_ : Aside0 (Below w.heap.size w (((w6.setCell ⟨gb333, 0, none⟩ (.slice A332_0 ((rd_T119 l0 x7_1).f0.f0).length c332_0)).setCell ⟨gb333, 1, none⟩ (.int .i64 ((rd_T119 l0 x7_1).f1))).setCell ⟨gb333, 2, none⟩ (.int .i64 ((rd_T119 l0 x7_1).f2)))) := ⟨by repeat (first | (with_reducible first | exact HB.out | apply xa | apply xn | apply xd | refine xt ?_ GE333.out) | exact HB.out)⟩
           (try clear BK333)
           (try clear HB)
           generalize (((w6.setCell ⟨gb333, 0, none⟩ (.slice A332_0 ((rd_T119 l0 x7_1).f0.f0).length c332_0)).setCell ⟨gb333, 1, none⟩ (.int .i64 ((rd_T119 l0 x7_1).f1))).setCell ⟨gb333, 2, none⟩ (.int .i64 ((rd_T119 l0 x7_1).f2))) = w48 at n0_ n1_ ⊢
           have BK333 := n0_
           have HB := n1_
           clear n0_ n1_
           have n0_ := xm (xr BK333.out)
           have n1_ := xm (xd HB.out)
           clear BK333
           clear HB
           have BK333 := n0_
           have HB := n1_
           clear n0_ n1_
           have p335 : 0 ≤ (0 : Int) := (by omega)
           have q335 : 0 < (l0.length : Int) := of_decide_eq_true (by first | (with_reducible assumption) | assumption)
           obtain ⟨ad335, A335_0, c335_0, e335, hx335_0, hx335_1, hx335_2, hl335_0, hi335_0⟩ := at_T119 HR0.out 0 p335 q335
           have hw335_2 := hx335_2
           (try rw [show ((0 : Int)).toNat = 0 from rfl] at hw335_2)
           (try rw [show 0 * 3 = 0 from rfl] at hw335_2)
           (try rw [Addr.add_zero'] at hw335_2)
           have hw335_1 := hx335_1
           (try rw [show ((0 : Int)).toNat = 0 from rfl] at hw335_1)
           (try rw [show 0 * 3 = 0 from rfl] at hw335_1)
           (try rw [Addr.add_zero'] at hw335_1)
           have hw335_0 := hx335_0
           (try rw [show ((0 : Int)).toNat = 0 from rfl] at hw335_0)
           (try rw [show 0 * 3 = 0 from rfl] at hw335_0)
           (try rw [Addr.add_zero'] at hw335_0)
           obtain rfl : ad332 = ad335 := (by injection e335)
           have qi335 : (0 < l0.length) = True := eq_true (by omega)
           (try rw [show ((0 : Int)).toNat = 0 from rfl] at hx335_0)
           (try rw [show 0 * 3 = 0 from rfl] at hx335_0)
           (try rw [Addr.add_zero'] at hx335_0)
           (try rw [show ((0 : Int)).toNat = 0 from rfl] at hx335_1)
           (try rw [show 0 * 3 = 0 from rfl] at hx335_1)
           (try rw [Addr.add_zero'] at hx335_1)
           (try rw [show ((0 : Int)).toNat = 0 from rfl] at hx335_2)
           (try rw [show 0 * 3 = 0 from rfl] at hx335_2)
           (try rw [Addr.add_zero'] at hx335_2)
           replace hx335_0 := (HB.out.cell (World.block_lt_of_cell? w _ hx335_0)).trans hx335_0
           replace hx335_1 := (HB.out.cell (World.block_lt_of_cell? w _ hx335_1)).trans hx335_1
           replace hx335_2 := (HB.out.cell (World.block_lt_of_cell? w _ hx335_2)).trans hx335_2
           have HR335_0 := xm hi335_0
           have HC335_0 := xm hl335_0
           clear hi335_0 hl335_0
           replace p335 := eq_true p335
           replace q335 := eq_true q335
           refine start_ (n := 55) (S := fun w' => w'.cell? ⟨gb333, 0, none⟩ = some (.slice A332_0 ((rd_T119 l0 x7_1).f0.f0).length c332_0) ∧ w'.cell? ⟨gb333, 1, none⟩ = some (.int .i64 ((rd_T119 l0 x7_1).f1)) ∧ w'.cell? ⟨gb333, 2, none⟩ = some (.int .i64 ((rd_T119 l0 x7_1).f2)) ∧ w'.cell? ad332 = some (.slice A335_0 ((rd_T119 l0 0).f0.f0).length c335_0) ∧ w'.cell? ⟨ad332.block, ad332.off + 1, none⟩ = some (.int .i64 ((rd_T119 l0 0).f1)) ∧ w'.cell? ⟨ad332.block, ad332.off + 2, none⟩ = some (.int .i64 ((rd_T119 l0 0).f2))) (ds := []) #[Z,Z,Z,Z,Z,Z,Z,Z,Z,Z,Z,Z,Z,Z,Z,Z,Z,Z,Z,Z,Z,Z,Z,Z,Z,Z,Z,Z,Z,Z,Z,Z,Z,Z,Z,Z,Z,Z,Z,Z,Z,Z,Z,Z,Z,Z,Z,Z,Z,Z,Z,Z,Z,Z,Z] (by kernel_rfl) rfl rfl ⟨(xc BK333.out 0).trans rfl, (xc BK333.out 1).trans rfl, (xc BK333.out 2).trans rfl, ((HB.out.cell (World.block_lt_of_cell? w _ hw335_0)).trans hw335_0), ((HB.out.cell (World.block_lt_of_cell? w _ hw335_1)).trans hw335_1), ((HB.out.cell (World.block_lt_of_cell? w _ hw335_2)).trans hw335_2)⟩ (fun hHeld => ?_); refine with_tabW spec_GoodGroups.tab4 spec_GoodGroups.bits4 (fun HT_ HW_ => ?_)
           generalize w48.drew = w49 at BK333 HB HR335_0 hx335_0 hx335_1 hx335_2 hHeld ⊢
           refine px 0 55 1 (any_of HT_.out (by kernel_rfl)) ?_
           refine tx 1 55 3 rfl rfl (take_ofW HT_.out HW_.out (by kernel_rfl)) hHeld (by rintro w' ⟨s0, s1, s2, s3, s4, s5⟩; go_simp; with_reducible rfl) ?_
           refine one_ (i := 2) (N := some 14) #[Y,Y,Y,Z,Z,Z,Z,Z,Z,Z,Z,Z,Z,Z,Z,Z,Z,Z,Z,Z,Z,Z,Z,Z,Z,Z,Z,Z,Z,Z,Z,Z,Z,Z,Z,Z,Z,Z,Z,Z,Z,Z,Z,Z,Z,Z,Z,Z,Z,Z,Z,Z,Z,Z,Z] rfl rfl (one_of HT_.out (by kernel_rfl)) (by decide) (fun K hK => ?_)
           refine goes_ Try.func82 (by kernel_rfl) rfl #[.agg #[.slice A332_0 ((rd_T119 l0 x7_1).f0.f0).length c332_0]] (by rfl) rfl rfl (by (try simp only [List.map_toArray, List.map_cons, List.map_nil]); first | done | rfl | (simp only [List.length_drop, List.length_take]; rfl)) ?_
           with_reducible refine (spec_GoodRow.calls k1 _ _ ((rd_T119 l0 x7_1).f0.f0) true _ ?side1 ?side2 A8.out).mono ?_
           (case side1 => repeat (first | exact (Kd.C_below HR332_0.out HB.out) | (with_reducible refine Kd.C_alloc ?_ _) | (with_reducible refine Kd.C_drewN ?_ _) | (with_reducible refine Kd.C_drew ?_)))
           (case side2 => exact HC332_0.out)
           rintro e w50 ⟨rfl, hb⟩
           refine ⟨_, rfl, ?_⟩
           have n0_ := xm (blk_below (g := gb333) (o := .cells #[.slice A332_0 ((rd_T119 l0 x7_1).f0.f0).length c332_0, .int .i64 ((rd_T119 l0 x7_1).f1), .int .i64 ((rd_T119 l0 x7_1).f2)] 119 (0, 0)) (by (with_reducible repeat (first | refine xq ?_ _ | refine xr ?_ | refine xo ?_ _)); exact BK333.out) hb)
           have n1_ := xm (below_step (by repeat (first | (with_reducible first | exact HB.out | apply xa | apply xn | apply xd | refine xt ?_ GE333.out) | exact HB.out)) hb)
           clear BK333
           clear HB
           have BK333 := n0_
           have HB := n1_
           clear n0_ n1_
           (try clear hb)
           (try clear hb2)
           (try clear hk)
           (try clear hi)
           refine hK.out _ _ ⟨(xc BK333.out 0).trans rfl, (xc BK333.out 1).trans rfl, (xc BK333.out 2).trans rfl, ((HB.out.cell (World.block_lt_of_cell? w _ hw335_0)).trans hw335_0), ((HB.out.cell (World.block_lt_of_cell? w _ hw335_1)).trans hw335_1), ((HB.out.cell (World.block_lt_of_cell? w _ hw335_2)).trans hw335_2)⟩ (fun hHeld => ?_)
           clear hK K
           refine norm_ (a' := ?_) ?_ ?_
           rotate_left
           ·show Act.put _ (some 14) _ = _
            simp only [Act.put, xi, xj, xk, i64_w, i32_w]
            rfl
           refine px 3 55 15 (any_of HT_.out (by kernel_rfl)) ?_
           refine px 4 55 31 (any_of HT_.out (by kernel_rfl)) ?_
           refine px 5 55 63 (any_of HT_.out (by kernel_rfl)) ?_
           refine px 6 55 127 (any_of HT_.out (by kernel_rfl)) ?_
           refine px 9 55 639 (any_of HT_.out (by kernel_rfl)) ?_
           refine px 10 55 1663 (any_of HT_.out (by kernel_rfl)) ?_
           refine px 11 55 3711 (any_of HT_.out (by kernel_rfl)) ?_
           refine px 12 55 7807 (any_of HT_.out (by kernel_rfl)) ?_
           refine tx 7 55 7935 rfl rfl (take_ofW HT_.out HW_.out (by kernel_rfl)) hHeld (by rintro w' ⟨s0, s1, s2, s3, s4, s5⟩; go_simp; with_reducible rfl) ?_
           refine px 8 55 8191 (any_of HT_.out (by kernel_rfl)) ?_
           refine tx 13 55 16383 rfl rfl (take_ofW HT_.out HW_.out (by kernel_rfl)) hHeld (by rintro w' ⟨s0, s1, s2, s3, s4, s5⟩; go_simp; with_reducible rfl) ?_
           refine px 14 55 32767 (any_of HT_.out (by kernel_rfl)) ?_
           refine px 15 55 65535 (any_of HT_.out (by kernel_rfl)) ?_
           refine px 16 55 131071 (any_of HT_.out (by kernel_rfl)) ?_
           refine px 17 55 262143 (any_of HT_.out (by kernel_rfl)) ?_
           refine px 18 55 524287 (any_of HT_.out (by kernel_rfl)) ?_
           refine tx 19 55 1048575 rfl rfl (take_ofW HT_.out HW_.out (by kernel_rfl)) hHeld (by rintro w' ⟨s0, s1, s2, s3, s4, s5⟩; go_simp; with_reducible rfl) ?_
           refine one_ (i := 20) (N := some 32) #[Y,Y,Y,Y,Y,Y,Y,Y,Y,Y,Y,Y,Y,Y,Y,Y,Y,Y,Y,Y,Y,Z,Z,Z,Z,Z,Z,Z,Z,Z,Z,Z,Z,Z,Z,Z,Z,Z,Z,Z,Z,Z,Z,Z,Z,Z,Z,Z,Z,Z,Z,Z,Z,Z,Z] rfl rfl (one_of HT_.out (by kernel_rfl)) (by decide) (fun K hK => ?_)
           refine goes_ Try.func96 (by kernel_rfl) rfl #[.int .i64 ((rd_T119 l0 x7_1).f1)] (by rfl) rfl rfl (by (try simp only [List.map_toArray, List.map_cons, List.map_nil]); first | done | rfl | (simp only [List.length_drop, List.length_take]; rfl)) ?_
           with_reducible refine (spec_l5Sum.calls ((rd_T119 l0 x7_1).f1) false _ A12.out).mono ?_
           rintro e w' ⟨rfl, ⟨nd, rfl⟩⟩
           refine ⟨_, rfl, ?_⟩
           refine hK.out _ _ ⟨(xc BK333.out 0).trans rfl, (xc BK333.out 1).trans rfl, (xc BK333.out 2).trans rfl, ((HB.out.cell (World.block_lt_of_cell? w _ hw335_0)).trans hw335_0), ((HB.out.cell (World.block_lt_of_cell? w _ hw335_1)).trans hw335_1), ((HB.out.cell (World.block_lt_of_cell? w _ hw335_2)).trans hw335_2)⟩ (fun hHeld => ?_)
           clear hK K
           refine norm_ (a' := ?_) ?_ ?_
           rotate_left
           ·show Act.put _ (some 32) _ = _
            simp only [Act.put, xi, xj, xk, i64_w, i32_w]
            rfl
           refine px 21 55 4194303 (any_of HT_.out (by kernel_rfl)) ?_
           refine px 22 55 8388607 (any_of HT_.out (by kernel_rfl)) ?_
           refine px 23 55 16777215 (any_of HT_.out (by kernel_rfl)) ?_
           refine ox 24 55 33554431 (any_of HT_.out (by kernel_rfl)) ?_
           refine ox 25 55 67108863 (any_of HT_.out (by kernel_rfl)) ?_
           refine ox 26 55 134217727 (any_of HT_.out (by kernel_rfl)) ?_
           refine ox 27 55 268435455 (any_of HT_.out (by kernel_rfl)) ?_
           refine px 28 55 536870911 (any_of HT_.out (by kernel_rfl)) ?_
           refine px 29 55 1073741823 (any_of HT_.out (by kernel_rfl)) ?_
           refine ox 30 55 2147483647 (any_of HT_.out (by kernel_rfl)) ?_
           refine ox 31 55 4294967295 (any_of HT_.out (by kernel_rfl)) ?_
           refine ox 32 55 8589934591 (any_of HT_.out (by kernel_rfl)) ?_
           refine ox 33 55 17179869183 (any_of HT_.out (by kernel_rfl)) ?_
           refine ox 34 55 34359738367 (any_of HT_.out (by kernel_rfl)) ?_
           refine ox 35 55 68719476735 (any_of HT_.out (by kernel_rfl)) ?_
           refine ox 36 55 137438953471 (any_of HT_.out (by kernel_rfl)) ?_
           refine ox 37 55 274877906943 (any_of HT_.out (by kernel_rfl)) ?_
           refine px 38 55 549755813887 (any_of HT_.out (by kernel_rfl)) ?_
           refine px 39 55 1099511627775 (any_of HT_.out (by kernel_rfl)) ?_
           refine ox 40 55 2199023255551 (any_of HT_.out (by kernel_rfl)) ?_
           refine ox 41 55 4398046511103 (any_of HT_.out (by kernel_rfl)) ?_
           refine ox 42 55 8796093022207 (any_of HT_.out (by kernel_rfl)) ?_
           refine ox 43 55 17592186044415 (any_of HT_.out (by kernel_rfl)) ?_
           refine ox 44 55 35184372088831 (any_of HT_.out (by kernel_rfl)) ?_
           refine ox 45 55 70368744177663 (any_of HT_.out (by kernel_rfl)) ?_
           refine ox 46 55 140737488355327 (any_of HT_.out (by kernel_rfl)) ?_
           refine ox 47 55 281474976710655 (any_of HT_.out (by kernel_rfl)) ?_
           refine ox 48 55 562949953421311 (any_of HT_.out (by kernel_rfl)) ?_
           refine ox 49 55 1125899906842623 (any_of HT_.out (by kernel_rfl)) ?_
           refine ox 50 55 2251799813685247 (any_of HT_.out (by kernel_rfl)) ?_
           refine ox 51 55 4503599627370495 (any_of HT_.out (by kernel_rfl)) ?_
           refine ox 52 55 9007199254740991 (any_of HT_.out (by kernel_rfl)) ?_
           refine ox 53 55 18014398509481983 (any_of HT_.out (by kernel_rfl)) ?_
           refine px 54 55 36028797018963967 (any_of HT_.out (by kernel_rfl)) ?_
           refine done_ (done_of HT_.out (by kernel_rfl)) ?_
           try go_wp2
           go_meet
           case rel => exact ⟨_, (true), (by first | rfl | (simp; done) | (simp [*]; done)), H', ⟨by have := HK1.out; first | omega | exact Nat.le_refl _⟩, ⟨by (with_reducible repeat (first | refine xq ?_ _ | refine xr ?_ | refine xo ?_ _)); exact BK333.out⟩, ⟨by repeat (first | (with_reducible first | exact HB.out | apply xa | apply xn | apply xd | refine xt ?_ GE333.out) | exact HB.out)⟩⟩
         ·rw [if_neg c11] at H
          have c11b0 : ((((rd_T119 l0 x7_1).f0.f0).length : Int) == (((rd_T119 l0 0).f0.f0).length : Int)) = false := beq_eq_false_iff_ne.mpr c11
          have c11b1 : ((((rd_T119 l0 x7_1).f0.f0).length : Int) != (((rd_T119 l0 0).f0.f0).length : Int)) = true := bne_iff_ne.mpr c11
          have c11b2 : (((rd_T119 l0 x7_1).f0.f0).length == ((rd_T119 l0 0).f0.f0).length) = false := by first | simpa using c11 | (simp at c11 ⊢; omega)
          have H' := xm H
          clear H
          try go_wp2
          have n0_ : Aside0 ((((w6.setCell ⟨gb333, 0, none⟩ (.slice A332_0 ((rd_T119 l0 x7_1).f0.f0).length c332_0)).setCell ⟨gb333, 1, none⟩ (.int .i64 ((rd_T119 l0 x7_1).f1))).setCell ⟨gb333, 2, none⟩ (.int .i64 ((rd_T119 l0 x7_1).f2))).heap[gb333]? = some (.cells #[.slice A332_0 ((rd_T119 l0 x7_1).f0.f0).length c332_0, .int .i64 ((rd_T119 l0 x7_1).f1), .int .i64 ((rd_T119 l0 x7_1).f2)] 119 (0, 0))) := ⟨by (with_reducible repeat (first | refine xq ?_ _ | refine xr ?_ | refine xo ?_ _)); refine blk_put (cs := #[.slice A332_0 ((rd_T119 l0 x7_1).f0.f0).length c332_0, .int .i64 ((rd_T119 l0 x7_1).f1), .int .i64 0]) ?_ 2 _ rfl; (with_reducible repeat (first | refine xq ?_ _ | refine xr ?_ | refine xo ?_ _)); refine blk_put (cs := #[.slice A332_0 ((rd_T119 l0 x7_1).f0.f0).length c332_0, .int .i64 0, .int .i64 0]) ?_ 1 _ rfl; (with_reducible repeat (first | refine xq ?_ _ | refine xr ?_ | refine xo ?_ _)); refine blk_put (cs := #[.slice none 0 0, .int .i64 0, .int .i64 0]) ?_ 0 _ rfl; (with_reducible repeat (first | refine xq ?_ _ | refine xr ?_ | refine xo ?_ _)); exact BK333.out⟩
          have n1_ : Aside0 (Below w.heap.size w (((w6.setCell ⟨gb333, 0, none⟩ (.slice A332_0 ((rd_T119 l0 x7_1).f0.f0).length c332_0)).setCell ⟨gb333, 1, none⟩ (.int .i64 ((rd_T119 l0 x7_1).f1))).setCell ⟨gb333, 2, none⟩ (.int .i64 ((rd_T119 l0 x7_1).f2)))) := ⟨by repeat (first | (with_reducible first | exact HB.out | apply xa | apply xn | apply xd | refine xt ?_ GE333.out) | exact HB.out)⟩
          (try clear BK333)
          (try clear HB)
          generalize (((w6.setCell ⟨gb333, 0, none⟩ (.slice A332_0 ((rd_T119 l0 x7_1).f0.f0).length c332_0)).setCell ⟨gb333, 1, none⟩ (.int .i64 ((rd_T119 l0 x7_1).f1))).setCell ⟨gb333, 2, none⟩ (.int .i64 ((rd_T119 l0 x7_1).f2))) = w51 at n0_ n1_ ⊢
          have BK333 := n0_
          have HB := n1_
          clear n0_ n1_
          have n0_ := xm (xr BK333.out)
          have n1_ := xm (xd HB.out)
          clear BK333
          clear HB
          have BK333 := n0_
          have HB := n1_
          clear n0_ n1_
          have p335 : 0 ≤ (0 : Int) := (by omega)
          have q335 : 0 < (l0.length : Int) := of_decide_eq_true (by first | (with_reducible assumption) | assumption)
          obtain ⟨ad335, A335_0, c335_0, e335, hx335_0, hx335_1, hx335_2, hl335_0, hi335_0⟩ := at_T119 HR0.out 0 p335 q335
          have hw335_2 := hx335_2
          (try rw [show ((0 : Int)).toNat = 0 from rfl] at hw335_2)
          (try rw [show 0 * 3 = 0 from rfl] at hw335_2)
          (try rw [Addr.add_zero'] at hw335_2)
          have hw335_1 := hx335_1
          (try rw [show ((0 : Int)).toNat = 0 from rfl] at hw335_1)
          (try rw [show 0 * 3 = 0 from rfl] at hw335_1)
          (try rw [Addr.add_zero'] at hw335_1)
          have hw335_0 := hx335_0
          (try rw [show ((0 : Int)).toNat = 0 from rfl] at hw335_0)
          (try rw [show 0 * 3 = 0 from rfl] at hw335_0)
          (try rw [Addr.add_zero'] at hw335_0)
          obtain rfl : ad332 = ad335 := (by injection e335)
          have qi335 : (0 < l0.length) = True := eq_true (by omega)
          (try rw [show ((0 : Int)).toNat = 0 from rfl] at hx335_0)
          (try rw [show 0 * 3 = 0 from rfl] at hx335_0)
          (try rw [Addr.add_zero'] at hx335_0)
          (try rw [show ((0 : Int)).toNat = 0 from rfl] at hx335_1)
          (try rw [show 0 * 3 = 0 from rfl] at hx335_1)
          (try rw [Addr.add_zero'] at hx335_1)
          (try rw [show ((0 : Int)).toNat = 0 from rfl] at hx335_2)
          (try rw [show 0 * 3 = 0 from rfl] at hx335_2)
          (try rw [Addr.add_zero'] at hx335_2)
          replace hx335_0 := (HB.out.cell (World.block_lt_of_cell? w _ hx335_0)).trans hx335_0
          replace hx335_1 := (HB.out.cell (World.block_lt_of_cell? w _ hx335_1)).trans hx335_1
          replace hx335_2 := (HB.out.cell (World.block_lt_of_cell? w _ hx335_2)).trans hx335_2
          have HR335_0 := xm hi335_0
          have HC335_0 := xm hl335_0
          clear hi335_0 hl335_0
          replace p335 := eq_true p335
          replace q335 := eq_true q335
          refine start_ (n := 55) (S := fun w' => w'.cell? ⟨gb333, 0, none⟩ = some (.slice A332_0 ((rd_T119 l0 x7_1).f0.f0).length c332_0) ∧ w'.cell? ⟨gb333, 1, none⟩ = some (.int .i64 ((rd_T119 l0 x7_1).f1)) ∧ w'.cell? ⟨gb333, 2, none⟩ = some (.int .i64 ((rd_T119 l0 x7_1).f2)) ∧ w'.cell? ad332 = some (.slice A335_0 ((rd_T119 l0 0).f0.f0).length c335_0) ∧ w'.cell? ⟨ad332.block, ad332.off + 1, none⟩ = some (.int .i64 ((rd_T119 l0 0).f1)) ∧ w'.cell? ⟨ad332.block, ad332.off + 2, none⟩ = some (.int .i64 ((rd_T119 l0 0).f2))) (ds := []) #[Z,Z,Z,Z,Z,Z,Z,Z,Z,Z,Z,Z,Z,Z,Z,Z,Z,Z,Z,Z,Z,Z,Z,Z,Z,Z,Z,Z,Z,Z,Z,Z,Z,Z,Z,Z,Z,Z,Z,Z,Z,Z,Z,Z,Z,Z,Z,Z,Z,Z,Z,Z,Z,Z,Z] (by kernel_rfl) rfl rfl ⟨(xc BK333.out 0).trans rfl, (xc BK333.out 1).trans rfl, (xc BK333.out 2).trans rfl, ((HB.out.cell (World.block_lt_of_cell? w _ hw335_0)).trans hw335_0), ((HB.out.cell (World.block_lt_of_cell? w _ hw335_1)).trans hw335_1), ((HB.out.cell (World.block_lt_of_cell? w _ hw335_2)).trans hw335_2)⟩ (fun hHeld => ?_); refine with_tabW spec_GoodGroups.tab4 spec_GoodGroups.bits4 (fun HT_ HW_ => ?_)
          generalize w51.drew = w52 at BK333 HB HR335_0 hx335_0 hx335_1 hx335_2 hHeld ⊢
          refine px 0 55 1 (any_of HT_.out (by kernel_rfl)) ?_
          refine tx 1 55 3 rfl rfl (take_ofW HT_.out HW_.out (by kernel_rfl)) hHeld (by rintro w' ⟨s0, s1, s2, s3, s4, s5⟩; go_simp; with_reducible rfl) ?_
          refine one_ (i := 2) (N := some 14) #[Y,Y,Y,Z,Z,Z,Z,Z,Z,Z,Z,Z,Z,Z,Z,Z,Z,Z,Z,Z,Z,Z,Z,Z,Z,Z,Z,Z,Z,Z,Z,Z,Z,Z,Z,Z,Z,Z,Z,Z,Z,Z,Z,Z,Z,Z,Z,Z,Z,Z,Z,Z,Z,Z,Z] rfl rfl (one_of HT_.out (by kernel_rfl)) (by decide) (fun K hK => ?_)
          refine goes_ Try.func82 (by kernel_rfl) rfl #[.agg #[.slice A332_0 ((rd_T119 l0 x7_1).f0.f0).length c332_0]] (by rfl) rfl rfl (by (try simp only [List.map_toArray, List.map_cons, List.map_nil]); first | done | rfl | (simp only [List.length_drop, List.length_take]; rfl)) ?_
          with_reducible refine (spec_GoodRow.calls k1 _ _ ((rd_T119 l0 x7_1).f0.f0) true _ ?side1 ?side2 A8.out).mono ?_
          (case side1 => repeat (first | exact (Kd.C_below HR332_0.out HB.out) | (with_reducible refine Kd.C_alloc ?_ _) | (with_reducible refine Kd.C_drewN ?_ _) | (with_reducible refine Kd.C_drew ?_)))
          (case side2 => exact HC332_0.out)
          rintro e w53 ⟨rfl, hb⟩
          refine ⟨_, rfl, ?_⟩
          have n0_ := xm (blk_below (g := gb333) (o := .cells #[.slice A332_0 ((rd_T119 l0 x7_1).f0.f0).length c332_0, .int .i64 ((rd_T119 l0 x7_1).f1), .int .i64 ((rd_T119 l0 x7_1).f2)] 119 (0, 0)) (by (with_reducible repeat (first | refine xq ?_ _ | refine xr ?_ | refine xo ?_ _)); exact BK333.out) hb)
          have n1_ := xm (below_step (by repeat (first | (with_reducible first | exact HB.out | apply xa | apply xn | apply xd | refine xt ?_ GE333.out) | exact HB.out)) hb)
          clear BK333
          clear HB
          have BK333 := n0_
          have HB := n1_
          clear n0_ n1_
          (try clear hb)
          (try clear hb2)
          (try clear hk)
          (try clear hi)
          refine hK.out _ _ ⟨(xc BK333.out 0).trans rfl, (xc BK333.out 1).trans rfl, (xc BK333.out 2).trans rfl, ((HB.out.cell (World.block_lt_of_cell? w _ hw335_0)).trans hw335_0), ((HB.out.cell (World.block_lt_of_cell? w _ hw335_1)).trans hw335_1), ((HB.out.cell (World.block_lt_of_cell? w _ hw335_2)).trans hw335_2)⟩ (fun hHeld => ?_)
          clear hK K
          refine norm_ (a' := ?_) ?_ ?_
          rotate_left
          ·show Act.put _ (some 14) _ = _
           simp only [Act.put, xi, xj, xk, i64_w, i32_w]
           rfl
          refine px 3 55 15 (any_of HT_.out (by kernel_rfl)) ?_
          refine px 4 55 31 (any_of HT_.out (by kernel_rfl)) ?_
          refine px 5 55 63 (any_of HT_.out (by kernel_rfl)) ?_
          refine px 6 55 127 (any_of HT_.out (by kernel_rfl)) ?_
          refine px 9 55 639 (any_of HT_.out (by kernel_rfl)) ?_
          refine px 10 55 1663 (any_of HT_.out (by kernel_rfl)) ?_
          refine px 11 55 3711 (any_of HT_.out (by kernel_rfl)) ?_
          refine px 12 55 7807 (any_of HT_.out (by kernel_rfl)) ?_
          refine tx 7 55 7935 rfl rfl (take_ofW HT_.out HW_.out (by kernel_rfl)) hHeld (by rintro w' ⟨s0, s1, s2, s3, s4, s5⟩; go_simp; with_reducible rfl) ?_
          refine px 8 55 8191 (any_of HT_.out (by kernel_rfl)) ?_
          refine tx 13 55 16383 rfl rfl (take_ofW HT_.out HW_.out (by kernel_rfl)) hHeld (by rintro w' ⟨s0, s1, s2, s3, s4, s5⟩; go_simp; with_reducible rfl) ?_
          refine px 14 55 32767 (any_of HT_.out (by kernel_rfl)) ?_
          refine px 15 55 65535 (any_of HT_.out (by kernel_rfl)) ?_
          refine px 16 55 131071 (any_of HT_.out (by kernel_rfl)) ?_
          refine px 17 55 262143 (any_of HT_.out (by kernel_rfl)) ?_
          refine ox 18 55 524287 (any_of HT_.out (by kernel_rfl)) ?_
          refine ox 19 55 1048575 (any_of HT_.out (by kernel_rfl)) ?_
          refine ox 20 55 2097151 (any_of HT_.out (by kernel_rfl)) ?_
          refine ox 21 55 4194303 (any_of HT_.out (by kernel_rfl)) ?_
          refine px 22 55 8388607 (any_of HT_.out (by kernel_rfl)) ?_
          refine px 23 55 16777215 (any_of HT_.out (by kernel_rfl)) ?_
          refine ox 24 55 33554431 (any_of HT_.out (by kernel_rfl)) ?_
          refine ox 25 55 67108863 (any_of HT_.out (by kernel_rfl)) ?_
          refine ox 26 55 134217727 (any_of HT_.out (by kernel_rfl)) ?_
          refine ox 27 55 268435455 (any_of HT_.out (by kernel_rfl)) ?_
          refine px 28 55 536870911 (any_of HT_.out (by kernel_rfl)) ?_
          refine px 29 55 1073741823 (any_of HT_.out (by kernel_rfl)) ?_
          refine ox 30 55 2147483647 (any_of HT_.out (by kernel_rfl)) ?_
          refine ox 31 55 4294967295 (any_of HT_.out (by kernel_rfl)) ?_
          refine ox 32 55 8589934591 (any_of HT_.out (by kernel_rfl)) ?_
          refine ox 33 55 17179869183 (any_of HT_.out (by kernel_rfl)) ?_
          refine ox 34 55 34359738367 (any_of HT_.out (by kernel_rfl)) ?_
          refine ox 35 55 68719476735 (any_of HT_.out (by kernel_rfl)) ?_
          refine ox 36 55 137438953471 (any_of HT_.out (by kernel_rfl)) ?_
          refine ox 37 55 274877906943 (any_of HT_.out (by kernel_rfl)) ?_
          refine px 38 55 549755813887 (any_of HT_.out (by kernel_rfl)) ?_
          refine px 39 55 1099511627775 (any_of HT_.out (by kernel_rfl)) ?_
          refine ox 40 55 2199023255551 (any_of HT_.out (by kernel_rfl)) ?_
          refine ox 41 55 4398046511103 (any_of HT_.out (by kernel_rfl)) ?_
          refine ox 42 55 8796093022207 (any_of HT_.out (by kernel_rfl)) ?_
          refine ox 43 55 17592186044415 (any_of HT_.out (by kernel_rfl)) ?_
          refine ox 44 55 35184372088831 (any_of HT_.out (by kernel_rfl)) ?_
          refine ox 45 55 70368744177663 (any_of HT_.out (by kernel_rfl)) ?_
          refine ox 46 55 140737488355327 (any_of HT_.out (by kernel_rfl)) ?_
          refine ox 47 55 281474976710655 (any_of HT_.out (by kernel_rfl)) ?_
          refine ox 48 55 562949953421311 (any_of HT_.out (by kernel_rfl)) ?_
          refine ox 49 55 1125899906842623 (any_of HT_.out (by kernel_rfl)) ?_
          refine ox 50 55 2251799813685247 (any_of HT_.out (by kernel_rfl)) ?_
          refine ox 51 55 4503599627370495 (any_of HT_.out (by kernel_rfl)) ?_
          refine ox 52 55 9007199254740991 (any_of HT_.out (by kernel_rfl)) ?_
          refine ox 53 55 18014398509481983 (any_of HT_.out (by kernel_rfl)) ?_
          refine px 54 55 36028797018963967 (any_of HT_.out (by kernel_rfl)) ?_
          refine done_ (done_of HT_.out (by kernel_rfl)) ?_
          try go_wp2
          go_meet
          case rel => exact ⟨_, (true), (by first | rfl | (simp; done) | (simp [*]; done)), H', ⟨by have := HK1.out; first | omega | exact Nat.le_refl _⟩, ⟨by (with_reducible repeat (first | refine xq ?_ _ | refine xr ?_ | refine xo ?_ _)); exact BK333.out⟩, ⟨by repeat (first | (with_reducible first | exact HB.out | apply xa | apply xn | apply xd | refine xt ?_ GE333.out) | exact HB.out)⟩⟩
        ·rw [if_neg c10] at H
         exact absurd H (by simp)
       ·replace c9 := Bool.eq_false_iff.mpr c9
        subst c9
        have H1 : (spec_GoodGroups.j1 k1 l0 l0 (l0.length : Int) x7_1 true) = some r := by first | (with_reducible rfl) | (rw [if_neg (show ¬ (false = true) by decide)] at H; exact H)
        clear H
        have H := H1
        clear H1
        have H' := xm H
        clear H
        try go_wp2
        have n0_ : Aside0 ((((w6.setCell ⟨gb333, 0, none⟩ (.slice A332_0 ((rd_T119 l0 x7_1).f0.f0).length c332_0)).setCell ⟨gb333, 1, none⟩ (.int .i64 ((rd_T119 l0 x7_1).f1))).setCell ⟨gb333, 2, none⟩ (.int .i64 ((rd_T119 l0 x7_1).f2))).heap[gb333]? = some (.cells #[.slice A332_0 ((rd_T119 l0 x7_1).f0.f0).length c332_0, .int .i64 ((rd_T119 l0 x7_1).f1), .int .i64 ((rd_T119 l0 x7_1).f2)] 119 (0, 0))) := ⟨by (with_reducible repeat (first | refine xq ?_ _ | refine xr ?_ | refine xo ?_ _)); refine blk_put (cs := #[.slice A332_0 ((rd_T119 l0 x7_1).f0.f0).length c332_0, .int .i64 ((rd_T119 l0 x7_1).f1), .int .i64 0]) ?_ 2 _ rfl; (with_reducible repeat (first | refine xq ?_ _ | refine xr ?_ | refine xo ?_ _)); refine blk_put (cs := #[.slice A332_0 ((rd_T119 l0 x7_1).f0.f0).length c332_0, .int .i64 0, .int .i64 0]) ?_ 1 _ rfl; (with_reducible repeat (first | refine xq ?_ _ | refine xr ?_ | refine xo ?_ _)); refine blk_put (cs := #[.slice none 0 0, .int .i64 0, .int .i64 0]) ?_ 0 _ rfl; (with_reducible repeat (first | refine xq ?_ _ | refine xr ?_ | refine xo ?_ _)); exact BK333.out⟩
        have n1_ : Aside0 (Below w.heap.size w (((w6.setCell ⟨gb333, 0, none⟩ (.slice A332_0 ((rd_T119 l0 x7_1).f0.f0).length c332_0)).setCell ⟨gb333, 1, none⟩ (.int .i64 ((rd_T119 l0 x7_1).f1))).setCell ⟨gb333, 2, none⟩ (.int .i64 ((rd_T119 l0 x7_1).f2)))) := ⟨by repeat (first | (with_reducible first | exact HB.out | apply xa | apply xn | apply xd | refine xt ?_ GE333.out) | exact HB.out)⟩
        (try clear BK333)
        (try clear HB)
        generalize (((w6.setCell ⟨gb333, 0, none⟩ (.slice A332_0 ((rd_T119 l0 x7_1).f0.f0).length c332_0)).setCell ⟨gb333, 1, none⟩ (.int .i64 ((rd_T119 l0 x7_1).f1))).setCell ⟨gb333, 2, none⟩ (.int .i64 ((rd_T119 l0 x7_1).f2))) = w54 at n0_ n1_ ⊢
        have BK333 := n0_
        have HB := n1_
        clear n0_ n1_
        have n0_ := xm (xr BK333.out)
        have n1_ := xm (xd HB.out)
        clear BK333
        clear HB
        have BK333 := n0_
        have HB := n1_
        clear n0_ n1_
        refine start_ (n := 55) (S := fun w' => w'.cell? ⟨gb333, 0, none⟩ = some (.slice A332_0 ((rd_T119 l0 x7_1).f0.f0).length c332_0) ∧ w'.cell? ⟨gb333, 1, none⟩ = some (.int .i64 ((rd_T119 l0 x7_1).f1)) ∧ w'.cell? ⟨gb333, 2, none⟩ = some (.int .i64 ((rd_T119 l0 x7_1).f2))) (ds := []) #[Z,Z,Z,Z,Z,Z,Z,Z,Z,Z,Z,Z,Z,Z,Z,Z,Z,Z,Z,Z,Z,Z,Z,Z,Z,Z,Z,Z,Z,Z,Z,Z,Z,Z,Z,Z,Z,Z,Z,Z,Z,Z,Z,Z,Z,Z,Z,Z,Z,Z,Z,Z,Z,Z,Z] (by kernel_rfl) rfl rfl ⟨(xc BK333.out 0).trans rfl, (xc BK333.out 1).trans rfl, (xc BK333.out 2).trans rfl⟩ (fun hHeld => ?_); refine with_tabW spec_GoodGroups.tab4 spec_GoodGroups.bits4 (fun HT_ HW_ => ?_)
        generalize w54.drew = w55 at BK333 HB hHeld ⊢
        refine px 0 55 1 (any_of HT_.out (by kernel_rfl)) ?_
        refine tx 1 55 3 rfl rfl (take_ofW HT_.out HW_.out (by kernel_rfl)) hHeld (by rintro w' ⟨s0, s1, s2⟩; go_simp; with_reducible rfl) ?_
        refine one_ (i := 2) (N := some 14) #[Y,Y,Y,Z,Z,Z,Z,Z,Z,Z,Z,Z,Z,Z,Z,Z,Z,Z,Z,Z,Z,Z,Z,Z,Z,Z,Z,Z,Z,Z,Z,Z,Z,Z,Z,Z,Z,Z,Z,Z,Z,Z,Z,Z,Z,Z,Z,Z,Z,Z,Z,Z,Z,Z,Z] rfl rfl (one_of HT_.out (by kernel_rfl)) (by decide) (fun K hK => ?_)
        refine goes_ Try.func82 (by kernel_rfl) rfl #[.agg #[.slice A332_0 ((rd_T119 l0 x7_1).f0.f0).length c332_0]] (by rfl) rfl rfl (by (try simp only [List.map_toArray, List.map_cons, List.map_nil]); first | done | rfl | (simp only [List.length_drop, List.length_take]; rfl)) ?_
        with_reducible refine (spec_GoodRow.calls k1 _ _ ((rd_T119 l0 x7_1).f0.f0) false _ ?side1 ?side2 A8.out).mono ?_
        (case side1 => repeat (first | exact (Kd.C_below HR332_0.out HB.out) | (with_reducible refine Kd.C_alloc ?_ _) | (with_reducible refine Kd.C_drewN ?_ _) | (with_reducible refine Kd.C_drew ?_)))
        (case side2 => exact HC332_0.out)
        rintro e w56 ⟨rfl, hb⟩
        refine ⟨_, rfl, ?_⟩
        have n0_ := xm (blk_below (g := gb333) (o := .cells #[.slice A332_0 ((rd_T119 l0 x7_1).f0.f0).length c332_0, .int .i64 ((rd_T119 l0 x7_1).f1), .int .i64 ((rd_T119 l0 x7_1).f2)] 119 (0, 0)) (by (with_reducible repeat (first | refine xq ?_ _ | refine xr ?_ | refine xo ?_ _)); exact BK333.out) hb)
        have n1_ := xm (below_step (by repeat (first | (with_reducible first | exact HB.out | apply xa | apply xn | apply xd | refine xt ?_ GE333.out) | exact HB.out)) hb)
        clear BK333
        clear HB
        have BK333 := n0_
        have HB := n1_
        clear n0_ n1_
        (try clear hb)
        (try clear hb2)
        (try clear hk)
        (try clear hi)
        refine hK.out _ _ ⟨(xc BK333.out 0).trans rfl, (xc BK333.out 1).trans rfl, (xc BK333.out 2).trans rfl⟩ (fun hHeld => ?_)
        clear hK K
        refine norm_ (a' := ?_) ?_ ?_
        rotate_left
        ·show Act.put _ (some 14) _ = _
         simp only [Act.put, xi, xj, xk, i64_w, i32_w]
         rfl
        refine px 3 55 15 (any_of HT_.out (by kernel_rfl)) ?_
        refine px 4 55 31 (any_of HT_.out (by kernel_rfl)) ?_
        refine ox 5 55 63 (any_of HT_.out (by kernel_rfl)) ?_
        refine ox 6 55 127 (any_of HT_.out (by kernel_rfl)) ?_
        refine ox 7 55 255 (any_of HT_.out (by kernel_rfl)) ?_
        refine ox 8 55 511 (any_of HT_.out (by kernel_rfl)) ?_
        refine ox 9 55 1023 (any_of HT_.out (by kernel_rfl)) ?_
        refine ox 10 55 2047 (any_of HT_.out (by kernel_rfl)) ?_
        refine ox 11 55 4095 (any_of HT_.out (by kernel_rfl)) ?_
        refine ox 12 55 8191 (any_of HT_.out (by kernel_rfl)) ?_
        refine ox 13 55 16383 (any_of HT_.out (by kernel_rfl)) ?_
        refine ox 14 55 32767 (any_of HT_.out (by kernel_rfl)) ?_
        refine ox 15 55 65535 (any_of HT_.out (by kernel_rfl)) ?_
        refine px 16 55 131071 (any_of HT_.out (by kernel_rfl)) ?_
        refine px 17 55 262143 (any_of HT_.out (by kernel_rfl)) ?_
        refine ox 18 55 524287 (any_of HT_.out (by kernel_rfl)) ?_
        refine ox 19 55 1048575 (any_of HT_.out (by kernel_rfl)) ?_
        refine ox 20 55 2097151 (any_of HT_.out (by kernel_rfl)) ?_
        refine ox 21 55 4194303 (any_of HT_.out (by kernel_rfl)) ?_
        refine px 22 55 8388607 (any_of HT_.out (by kernel_rfl)) ?_
        refine px 23 55 16777215 (any_of HT_.out (by kernel_rfl)) ?_
        refine ox 24 55 33554431 (any_of HT_.out (by kernel_rfl)) ?_
        refine ox 25 55 67108863 (any_of HT_.out (by kernel_rfl)) ?_
        refine ox 26 55 134217727 (any_of HT_.out (by kernel_rfl)) ?_
        refine ox 27 55 268435455 (any_of HT_.out (by kernel_rfl)) ?_
        refine px 28 55 536870911 (any_of HT_.out (by kernel_rfl)) ?_
        refine px 29 55 1073741823 (any_of HT_.out (by kernel_rfl)) ?_
        refine ox 30 55 2147483647 (any_of HT_.out (by kernel_rfl)) ?_
        refine ox 31 55 4294967295 (any_of HT_.out (by kernel_rfl)) ?_
        refine ox 32 55 8589934591 (any_of HT_.out (by kernel_rfl)) ?_
        refine ox 33 55 17179869183 (any_of HT_.out (by kernel_rfl)) ?_
        refine ox 34 55 34359738367 (any_of HT_.out (by kernel_rfl)) ?_
        refine ox 35 55 68719476735 (any_of HT_.out (by kernel_rfl)) ?_
        refine ox 36 55 137438953471 (any_of HT_.out (by kernel_rfl)) ?_
        refine ox 37 55 274877906943 (any_of HT_.out (by kernel_rfl)) ?_
        refine px 38 55 549755813887 (any_of HT_.out (by kernel_rfl)) ?_
        refine px 39 55 1099511627775 (any_of HT_.out (by kernel_rfl)) ?_
        refine ox 40 55 2199023255551 (any_of HT_.out (by kernel_rfl)) ?_
        refine ox 41 55 4398046511103 (any_of HT_.out (by kernel_rfl)) ?_
        refine ox 42 55 8796093022207 (any_of HT_.out (by kernel_rfl)) ?_
        refine ox 43 55 17592186044415 (any_of HT_.out (by kernel_rfl)) ?_
        refine ox 44 55 35184372088831 (any_of HT_.out (by kernel_rfl)) ?_
        refine ox 45 55 70368744177663 (any_of HT_.out (by kernel_rfl)) ?_
        refine ox 46 55 140737488355327 (any_of HT_.out (by kernel_rfl)) ?_
        refine ox 47 55 281474976710655 (any_of HT_.out (by kernel_rfl)) ?_
        refine ox 48 55 562949953421311 (any_of HT_.out (by kernel_rfl)) ?_
        refine ox 49 55 1125899906842623 (any_of HT_.out (by kernel_rfl)) ?_
        refine ox 50 55 2251799813685247 (any_of HT_.out (by kernel_rfl)) ?_
        refine ox 51 55 4503599627370495 (any_of HT_.out (by kernel_rfl)) ?_
        refine ox 52 55 9007199254740991 (any_of HT_.out (by kernel_rfl)) ?_
        refine ox 53 55 18014398509481983 (any_of HT_.out (by kernel_rfl)) ?_
        refine px 54 55 36028797018963967 (any_of HT_.out (by kernel_rfl)) ?_
        refine done_ (done_of HT_.out (by kernel_rfl)) ?_
        try go_wp2
        go_meet
        case rel => exact ⟨_, (true), (by first | rfl | (simp; done) | (simp [*]; done)), H', ⟨by have := HK1.out; first | omega | exact Nat.le_refl _⟩, ⟨by (with_reducible repeat (first | refine xq ?_ _ | refine xr ?_ | refine xo ?_ _)); exact BK333.out⟩, ⟨by repeat (first | (with_reducible first | exact HB.out | apply xa | apply xn | apply xd | refine xt ?_ GE333.out) | exact HB.out)⟩⟩
      case rest =>
       clear HC5
       try clear c1
       try clear p2
       try clear c3
       try clear c8
       try clear c9
       try clear c10
       try clear c33
       obtain ⟨kq, x66_4, rfl, HA, HJ4, BK333, HB⟩ := hcut
       cases kq with
       | zero => exact absurd HA.out (by simp [spec_GoodGroups.j1])
       | succ kj4 =>
        have H := HA.out
        clear HA
        simp only [spec_GoodGroups.j1] at H
        by_cases c57 : x66_4 = true
        ·subst c57
         have H1 : (some false) = some r := by first | (with_reducible rfl) | (rw [if_pos rfl] at H; exact H)
         clear H
         have H := H1
         clear H1
         obtain rfl := Option.some.inj H
         go_wp2
         go_ret
         exact ⟨by first | rfl | (simp [errW_none, errW_some] <;> rfl) | (simp [*, errW_none, errW_some] <;> rfl), by repeat (first | (with_reducible first | exact HB.out | apply xa | apply xn | apply xd | refine xt ?_ GE333.out) | exact HB.out)⟩
        ·replace c57 := Bool.eq_false_iff.mpr c57
         subst c57
         have H1 : (spec_GoodGroups.l0 kj4 l0 l0 (l0.length : Int) (wrap64 (x7_1 + 1))) = some r := by first | (with_reducible rfl) | (rw [if_neg (show ¬ (false = true) by decide)] at H; exact H)
         clear H
         have H := H1
         clear H1
         have H' := xm H
         clear H
         go_wp2
         go_roundg kj4
         case measure => have := HK1.out; have := HJ4.out; omega
         case rel => exact ⟨(wrap64 (x7_1 + 1)), (by first | rfl | (simp; done) | (simp [*]; done)), H', ⟨by have := HK1.out; have := HJ4.out; omega⟩, ⟨by repeat (first | (with_reducible first | exact HB.out | apply xa | apply xn | apply xd | refine xt ?_ GE333.out) | exact HB.out)⟩⟩
     ·rw [if_neg c4] at H
      exact absurd H (by simp)
    ·rw [if_neg c3] at H
     exact absurd H (by simp)
   ·rw [if_neg c2] at H
    have c2b0 : decide (x7_1 < (l0.length : Int)) = false := decide_eq_false c2
    clear c2
    obtain rfl := Option.some.inj H
    go_wp2
    go_ret
    exact ⟨by first | rfl | (simp [errW_none, errW_some] <;> rfl) | (simp [*, errW_none, errW_some] <;> rfl), by repeat (first | (with_reducible first | exact HB.out | apply xa | apply xn | apply xd) | exact HB.out)⟩

end Go.Proofs.Ytcbikaoackbbjaa.G
