/- Written by a program of this claim's own, out of the translation: functions of the program as plain functions, and that the calls answer as these. No conditions. -/
import Derived.Test.YtaddemalepndfaaG0
import Derived.Test.YtaddemalepndfaaG7
import Derived.Test.YtaddemalepndfaaG8
namespace Go.Proofs.Ytaddemalepndfaa.G
open Go.RowKit Go.Proofs.Ytaddemalepndfaa.X Go.Proofs.YtaddemalepndfaaW.PrintWords Go.Proofs.YtaddemalepndfaaW.PrintLast Go.Proofs.YtaddemalepndfaaW.PrintMore
attribute [local go_sem] max2_int min2_int max_two min_two max_three min_three max_four min_four   -- for this text's walks alone
set_option linter.unusedVariables false
set_option linter.unusedSimpArgs false

/-! ### impl_GoodGroups: function 17 -/
mutual
def impl_GoodGroups.l0 : Nat → List (S45) → List (S45) → Int → Int → Option (Bool)
 | 0, _, _, _, _ => none
 | k + 1, x0, x5, x6, x7 => if x7 < x6 then (if 0 ≤ x7 then (if x7 < (x5.length : Int) then ((impl_keyLength.f x0).bind fun t202 => ((impl_isRowOf.f ((rd_T45 x5 x7).f0.f0) t202).bind fun t203 => (if t203 = true then ((impl_isSum.f ((rd_T45 x5 x7).f1)).bind fun t204 => (if t204 = true then ((impl_isSum.f ((rd_T45 x5 x7).f2)).bind fun t205 => (if t205 = true then (if ((rd_T45 x5 x7).f1) = 0 then (if ((rd_T45 x5 x7).f2) = 0 then (impl_GoodGroups.j1 k x0 x5 x6 x7 true) else (if x7 > 0 then (if 0 ≤ (wrap64 (x7 - 1)) then (if (wrap64 (x7 - 1)) < (x0.length : Int) then ((impl_compareRows.f k ((rd_T45 x0 (wrap64 (x7 - 1))).f0.f0) ((rd_T45 x5 x7).f0.f0)).bind fun t207 => (impl_GoodGroups.j1 k x0 x5 x6 x7 (decide (t207 ≥ 0)))) else (none)) else (none)) else (impl_GoodGroups.j1 k x0 x5 x6 x7 false))) else (if x7 > 0 then (if 0 ≤ (wrap64 (x7 - 1)) then (if (wrap64 (x7 - 1)) < (x0.length : Int) then ((impl_compareRows.f k ((rd_T45 x0 (wrap64 (x7 - 1))).f0.f0) ((rd_T45 x5 x7).f0.f0)).bind fun t209 => (impl_GoodGroups.j1 k x0 x5 x6 x7 (decide (t209 ≥ 0)))) else (none)) else (none)) else (impl_GoodGroups.j1 k x0 x5 x6 x7 false))) else (impl_GoodGroups.j1 k x0 x5 x6 x7 true))) else (impl_GoodGroups.j1 k x0 x5 x6 x7 true))) else (impl_GoodGroups.j1 k x0 x5 x6 x7 true)))) else (none)) else (none)) else (some (decide ((x0.length : Int) ≤ 60)))
def impl_GoodGroups.j1 : Nat → List (S45) → List (S45) → Int → Int → Bool → Option (Bool)
 | 0, _, _, _, _, _ => none
 | k + 1, x0, x5, x6, x7, x55 => if x55 = true then (some false) else (impl_GoodGroups.l0 k x0 x5 x6 (wrap64 (x7 + 1)))
end
def impl_GoodGroups.f (k : Nat) (l0 : List (S45)) : Option (Bool) := impl_GoodGroups.l0 k l0 l0 (l0.length : Int) 0
theorem impl_GoodGroups.mono_l : ∀ k, (∀ y0 y1 y2 y3, LeO (impl_GoodGroups.l0 k y0 y1 y2 y3) (impl_GoodGroups.l0 (k + 1) y0 y1 y2 y3)) ∧ (∀ y0 y1 y2 y3 y4, LeO (impl_GoodGroups.j1 k y0 y1 y2 y3 y4) (impl_GoodGroups.j1 (k + 1) y0 y1 y2 y3 y4))
 | 0 => ⟨fun _ _ _ _ r h => by simp [impl_GoodGroups.l0] at h, fun _ _ _ _ _ r h => by simp [impl_GoodGroups.j1] at h⟩
 | k + 1 => by
  obtain ⟨ih0, ih1⟩ := impl_GoodGroups.mono_l k
  refine ⟨?_, ?_⟩
  ·intro y0 y1 y2 y3
   unfold impl_GoodGroups.l0
   repeat' first
   | (with_reducible exact ih0 _ _ _ _)
   | (with_reducible exact ih1 _ _ _ _ _)
   | (with_reducible exact impl_compareRows.mono _ _ _)
   | (with_reducible exact LeO.refl _)
   | (with_reducible exact LeO.none _)
   | (with_reducible refine LeO.ite ?_ ?_)
   | (with_reducible refine LeO.bind ?_ (fun _ => ?_))
   | exact ih0 _ _ _ _
   | exact ih1 _ _ _ _ _
   | exact impl_compareRows.mono _ _ _
   | exact LeO.none _
   | refine LeO.ite ?_ ?_
   | refine LeO.bind ?_ (fun _ => ?_)
  ·intro y0 y1 y2 y3 y4
   unfold impl_GoodGroups.j1
   repeat' first
   | (with_reducible exact ih0 _ _ _ _)
   | (with_reducible exact ih1 _ _ _ _ _)
   | (with_reducible exact impl_compareRows.mono _ _ _)
   | (with_reducible exact LeO.refl _)
   | (with_reducible exact LeO.none _)
   | (with_reducible refine LeO.ite ?_ ?_)
   | (with_reducible refine LeO.bind ?_ (fun _ => ?_))
   | exact ih0 _ _ _ _
   | exact ih1 _ _ _ _ _
   | exact impl_compareRows.mono _ _ _
   | exact LeO.none _
   | refine LeO.ite ?_ ?_
   | refine LeO.bind ?_ (fun _ => ?_)
theorem impl_GoodGroups.mono : ∀ a0 k, LeO (impl_GoodGroups.f k a0) (impl_GoodGroups.f (k + 1) a0) := by
 intro a0 k
 obtain ⟨ih0, ih1⟩ := impl_GoodGroups.mono_l k
 unfold impl_GoodGroups.f
 repeat' first
   | (with_reducible exact ih0 _ _ _ _)
   | (with_reducible exact ih1 _ _ _ _ _)
   | (with_reducible exact impl_compareRows.mono _ _ _)
   | (with_reducible exact LeO.refl _)
   | (with_reducible exact LeO.none _)
   | (with_reducible refine LeO.ite ?_ ?_)
   | (with_reducible refine LeO.bind ?_ (fun _ => ?_))
   | exact ih0 _ _ _ _
   | exact ih1 _ _ _ _ _
   | exact impl_compareRows.mono _ _ _
   | exact LeO.none _
   | refine LeO.ite ?_ ?_
   | refine LeO.bind ?_ (fun _ => ?_)
def impl_GoodGroups.T4 : Bool × List (List Nat × List Nat) := (true, [([], []), ([0], [0]), ([], []), ([2], [2]), ([1, 3, 3], [1, 3]), ([4], [4]), ([5, 4], [5]), ([6], [6]), ([7, 6], [6, 7]), ([8, 6, 6], [6, 8]), ([9, 6], [6, 9]), ([6, 10], [6, 10]), ([11, 9], [11]), ([12], [12]), ([13, 12], [12, 13]), ([14, 12, 12], [12, 14]), ([15, 12], [12, 15]), ([12, 16], [12, 16]), ([17, 15], [17]), ([18], [18]), ([19, 18], [18, 19]), ([20, 18], [18, 20]), ([21, 18, 18], [18, 21]), ([22], [22]), ([23, 22], [22, 23]), ([24, 22], [22, 24]), ([22, 25, 18], [18, 22, 25]), ([18, 26], [18, 26]), ([27, 22], [27]), ([28], [28]), ([29, 28], [28, 29]), ([30, 28, 28], [28, 30]), ([31], [31]), ([31], [31]), ([33, 31], [31, 33]), ([32, 34, 31], [31, 32, 34]), ([35, 31], [31, 35]), ([36, 31], [31, 36]), ([31], [31]), ([38, 31], [31, 38]), ([37, 39, 31, 31], [31, 37, 39]), ([40, 31], [31, 40]), ([31, 41, 28], [28, 31, 41]), ([28, 42], [28, 42])])
def impl_GoodGroups.B4 : List Nat := [0, 1, 0, 4, 15, 31, 63, 127, 255, 511, 1023, 2047, 4095, 8191, 16383, 32767, 65535, 131071, 262143, 524287, 1048575, 2097151, 4194303, 8388607, 16777215, 33554431, 67108863, 134217727, 268435455, 536870911, 1073741823, 2147483647, 4294967295, 4294967295, 12884901887, 34359738367, 68719476735, 137438953471, 4294967295, 279172874239, 1099511627775, 2199023255551, 4398046511103, 8796093022207]
theorem impl_GoodGroups.tab4 : rtab .any (opsOf Try.f17 4) = impl_GoodGroups.T4 := by kernel_rfl
theorem impl_GoodGroups.bits4 : waitsOk impl_GoodGroups.T4.2 impl_GoodGroups.B4 = true := by kernel_rfl
set_option maxHeartbeats 8000000 in
set_option maxRecDepth 100000 in
theorem impl_GoodGroups.calls (k : Nat) (A0 : Option Addr) (c0 : Nat) (l0 : List (S45)) (r : Bool) (w : World) (hr0 : Kd.C k45 w A0 l0.length l0) (hc0 : l0.length ≤ c0) (h : impl_GoodGroups.f k l0 = some r) :
  Calls Try.prog 17 #[.slice A0 l0.length c0] w fun e w' => e = .returned (.bool r) ∧ Below w.heap.size w w' := by
 have hu45 := Try.underlying45
 have hu43 := Try.underlying43
 have HR0 := xm hr0
 have HC0 := xm hc0
 clear hr0 hc0
 have HB := xm (Below.refl w.heap.size w)
 have H : (impl_GoodGroups.l0 k l0 l0 (l0.length : Int) 0) = some r := h
 clear h
 have H' := xm H
 clear H
 go_enter Try.func17, Try.ntmps17
 go_wp2
 go_loopg [7] k (fun kq v7 w' => ∃ (x7_1 : Int), v7 = .int .i64 x7_1 ∧ Aside0 (impl_GoodGroups.l0 kq l0 l0 (l0.length : Int) x7_1 = some r) ∧ Aside0 (kq ≤ k) ∧ Aside0 (Below w.heap.size w w'))
 case atStart => exact ⟨(0), (by first | rfl | (simp; done) | (simp [*]; done)), H', ⟨Nat.le_refl _⟩, ⟨by repeat (first | (with_reducible first | exact HB.out | apply xa | apply xn | apply xd) | exact HB.out)⟩⟩
 case round =>
  clear H'
  try clear c1
  obtain ⟨x7_1, rfl, HA, HK1, HB⟩ := hrel
  cases gk with
  | zero => exact absurd HA.out (by simp [impl_GoodGroups.l0])
  | succ k1 =>
   have H := HA.out
   clear HA
   simp only [impl_GoodGroups.l0] at H
   by_cases c2 : x7_1 < (l0.length : Int)
   ·rw [if_pos c2] at H
    have c2b0 : decide (x7_1 < (l0.length : Int)) = true := decide_eq_true c2
    clear c2
    by_cases c3 : 0 ≤ x7_1
    ·rw [if_pos c3] at H
     have c3b0 : decide (0 ≤ x7_1) = true := decide_eq_true c3
     clear c3
     by_cases c4 : x7_1 < (l0.length : Int)
     ·rw [if_pos c4] at H
      have c4b0 : decide (x7_1 < (l0.length : Int)) = true := decide_eq_true c4
      clear c4
      have HC5 := xm H
      clear H
      have p200 : 0 ≤ (x7_1 : Int) := of_decide_eq_true aB
      have q200 : x7_1 < (l0.length : Int) := of_decide_eq_true aB
      obtain ⟨ad200, A200_0, c200_0, e200, hx200_0, hx200_1, hx200_2, hl200_0, hi200_0⟩ := at_T45 HR0.out x7_1 p200 q200
      cases e200
      replace hx200_0 := (HB.out.cell (World.block_lt_of_cell? w _ hx200_0)).trans hx200_0
      replace hx200_1 := (HB.out.cell (World.block_lt_of_cell? w _ hx200_1)).trans hx200_1
      replace hx200_2 := (HB.out.cell (World.block_lt_of_cell? w _ hx200_2)).trans hx200_2
      have HR200_0 := xm hi200_0
      have HC200_0 := xm hl200_0
      clear hi200_0 hl200_0
      replace p200 := eq_true p200
      replace q200 := eq_true q200
      go_upto_region 4 with (first | ((with_reducible refine gate_dst (N := 4) rfl ?_); refine box_event ?hg (N := 4) ?hd (cs := #[.slice none 0 0, .int .i64 0, .int .i64 0]) (t := 45) ?hr ?_; (case hd => rfl); (case hg => rfl); (case hr => exact zB); intro gb201 hg w6 hbox hb; have n0_ := xm (below_step bB hb); have n1_ := xm (hbox); have n2_ := xm ((by rw [hg]; exact (xz bB) : w.heap.size ≤ gb201)); have n3_ := xm ((by rw [hg]; exact (xz bB) : w.heap.size ≤ gb201)); revert n0_ n1_ n2_ n3_; clear HB; intro HB BK201 GW201 GE201; clear hb hbox hg; obtain ⟨hcz7_0, hcz7_1, hcz7_2, hfz7_0, hfz7_1, hfz7_2⟩ := cz3 BK201.out))
      (try simp only [Act.put, xi, xj, xk])
      go_cut [55] (fun v55 wc => ∃ (kq : Nat) (x55_4 : Bool), v55 = .bool x55_4 ∧ Aside0 (impl_GoodGroups.j1 kq l0 l0 (l0.length : Int) x7_1 x55_4 = some r) ∧ Aside0 (kq ≤ k1) ∧ Aside0 (wc.heap[gb201]? = some (.cells #[(.slice A200_0 ((rd_T45 l0 x7_1).f0.f0).length c200_0), .int .i64 ((rd_T45 l0 x7_1).f1), .int .i64 ((rd_T45 l0 x7_1).f2)] 45 (0, 0))) ∧ Aside0 (Below w.heap.size w wc))
      case first =>
       have H := HC5.out
       clear HC5
       replace H := Option.bind_eq_some_iff.mp H
       obtain ⟨t202, A80, H⟩ := H
       replace H : ((impl_isRowOf.f ((rd_T45 l0 x7_1).f0.f0) t202).bind fun t203 => (if t203 = true then ((impl_isSum.f ((rd_T45 l0 x7_1).f1)).bind fun t204 => (if t204 = true then ((impl_isSum.f ((rd_T45 l0 x7_1).f2)).bind fun t205 => (if t205 = true then (if ((rd_T45 l0 x7_1).f1) = 0 then (if ((rd_T45 l0 x7_1).f2) = 0 then (impl_GoodGroups.j1 k1 l0 l0 (l0.length : Int) x7_1 true) else (if x7_1 > 0 then (if 0 ≤ (wrap64 (x7_1 - 1)) then (if (wrap64 (x7_1 - 1)) < (l0.length : Int) then ((impl_compareRows.f k1 ((rd_T45 l0 (wrap64 (x7_1 - 1))).f0.f0) ((rd_T45 l0 x7_1).f0.f0)).bind fun t207 => (impl_GoodGroups.j1 k1 l0 l0 (l0.length : Int) x7_1 (decide (t207 ≥ 0)))) else (none)) else (none)) else (impl_GoodGroups.j1 k1 l0 l0 (l0.length : Int) x7_1 false))) else (if x7_1 > 0 then (if 0 ≤ (wrap64 (x7_1 - 1)) then (if (wrap64 (x7_1 - 1)) < (l0.length : Int) then ((impl_compareRows.f k1 ((rd_T45 l0 (wrap64 (x7_1 - 1))).f0.f0) ((rd_T45 l0 x7_1).f0.f0)).bind fun t209 => (impl_GoodGroups.j1 k1 l0 l0 (l0.length : Int) x7_1 (decide (t209 ≥ 0)))) else (none)) else (none)) else (impl_GoodGroups.j1 k1 l0 l0 (l0.length : Int) x7_1 false))) else (impl_GoodGroups.j1 k1 l0 l0 (l0.length : Int) x7_1 true))) else (impl_GoodGroups.j1 k1 l0 l0 (l0.length : Int) x7_1 true))) else (impl_GoodGroups.j1 k1 l0 l0 (l0.length : Int) x7_1 true))) = some r := H
       have A8 := xm A80
       clear A80
       replace H := Option.bind_eq_some_iff.mp H
       obtain ⟨t203, A90, H⟩ := H
       replace H : (if t203 = true then ((impl_isSum.f ((rd_T45 l0 x7_1).f1)).bind fun t204 => (if t204 = true then ((impl_isSum.f ((rd_T45 l0 x7_1).f2)).bind fun t205 => (if t205 = true then (if ((rd_T45 l0 x7_1).f1) = 0 then (if ((rd_T45 l0 x7_1).f2) = 0 then (impl_GoodGroups.j1 k1 l0 l0 (l0.length : Int) x7_1 true) else (if x7_1 > 0 then (if 0 ≤ (wrap64 (x7_1 - 1)) then (if (wrap64 (x7_1 - 1)) < (l0.length : Int) then ((impl_compareRows.f k1 ((rd_T45 l0 (wrap64 (x7_1 - 1))).f0.f0) ((rd_T45 l0 x7_1).f0.f0)).bind fun t207 => (impl_GoodGroups.j1 k1 l0 l0 (l0.length : Int) x7_1 (decide (t207 ≥ 0)))) else (none)) else (none)) else (impl_GoodGroups.j1 k1 l0 l0 (l0.length : Int) x7_1 false))) else (if x7_1 > 0 then (if 0 ≤ (wrap64 (x7_1 - 1)) then (if (wrap64 (x7_1 - 1)) < (l0.length : Int) then ((impl_compareRows.f k1 ((rd_T45 l0 (wrap64 (x7_1 - 1))).f0.f0) ((rd_T45 l0 x7_1).f0.f0)).bind fun t209 => (impl_GoodGroups.j1 k1 l0 l0 (l0.length : Int) x7_1 (decide (t209 ≥ 0)))) else (none)) else (none)) else (impl_GoodGroups.j1 k1 l0 l0 (l0.length : Int) x7_1 false))) else (impl_GoodGroups.j1 k1 l0 l0 (l0.length : Int) x7_1 true))) else (impl_GoodGroups.j1 k1 l0 l0 (l0.length : Int) x7_1 true))) else (impl_GoodGroups.j1 k1 l0 l0 (l0.length : Int) x7_1 true)) = some r := H
       have A9 := xm A90
       clear A90
       by_cases c10 : t203 = true
       ·subst c10
        have H1 : ((impl_isSum.f ((rd_T45 l0 x7_1).f1)).bind fun t204 => (if t204 = true then ((impl_isSum.f ((rd_T45 l0 x7_1).f2)).bind fun t205 => (if t205 = true then (if ((rd_T45 l0 x7_1).f1) = 0 then (if ((rd_T45 l0 x7_1).f2) = 0 then (impl_GoodGroups.j1 k1 l0 l0 (l0.length : Int) x7_1 true) else (if x7_1 > 0 then (if 0 ≤ (wrap64 (x7_1 - 1)) then (if (wrap64 (x7_1 - 1)) < (l0.length : Int) then ((impl_compareRows.f k1 ((rd_T45 l0 (wrap64 (x7_1 - 1))).f0.f0) ((rd_T45 l0 x7_1).f0.f0)).bind fun t207 => (impl_GoodGroups.j1 k1 l0 l0 (l0.length : Int) x7_1 (decide (t207 ≥ 0)))) else (none)) else (none)) else (impl_GoodGroups.j1 k1 l0 l0 (l0.length : Int) x7_1 false))) else (if x7_1 > 0 then (if 0 ≤ (wrap64 (x7_1 - 1)) then (if (wrap64 (x7_1 - 1)) < (l0.length : Int) then ((impl_compareRows.f k1 ((rd_T45 l0 (wrap64 (x7_1 - 1))).f0.f0) ((rd_T45 l0 x7_1).f0.f0)).bind fun t209 => (impl_GoodGroups.j1 k1 l0 l0 (l0.length : Int) x7_1 (decide (t209 ≥ 0)))) else (none)) else (none)) else (impl_GoodGroups.j1 k1 l0 l0 (l0.length : Int) x7_1 false))) else (impl_GoodGroups.j1 k1 l0 l0 (l0.length : Int) x7_1 true))) else (impl_GoodGroups.j1 k1 l0 l0 (l0.length : Int) x7_1 true))) = some r := by first | (with_reducible rfl) | (rw [if_pos rfl] at H; exact H)
        clear H
        have H := H1
        clear H1
        replace H := Option.bind_eq_some_iff.mp H
        obtain ⟨t204, A110, H⟩ := H
        replace H : (if t204 = true then ((impl_isSum.f ((rd_T45 l0 x7_1).f2)).bind fun t205 => (if t205 = true then (if ((rd_T45 l0 x7_1).f1) = 0 then (if ((rd_T45 l0 x7_1).f2) = 0 then (impl_GoodGroups.j1 k1 l0 l0 (l0.length : Int) x7_1 true) else (if x7_1 > 0 then (if 0 ≤ (wrap64 (x7_1 - 1)) then (if (wrap64 (x7_1 - 1)) < (l0.length : Int) then ((impl_compareRows.f k1 ((rd_T45 l0 (wrap64 (x7_1 - 1))).f0.f0) ((rd_T45 l0 x7_1).f0.f0)).bind fun t207 => (impl_GoodGroups.j1 k1 l0 l0 (l0.length : Int) x7_1 (decide (t207 ≥ 0)))) else (none)) else (none)) else (impl_GoodGroups.j1 k1 l0 l0 (l0.length : Int) x7_1 false))) else (if x7_1 > 0 then (if 0 ≤ (wrap64 (x7_1 - 1)) then (if (wrap64 (x7_1 - 1)) < (l0.length : Int) then ((impl_compareRows.f k1 ((rd_T45 l0 (wrap64 (x7_1 - 1))).f0.f0) ((rd_T45 l0 x7_1).f0.f0)).bind fun t209 => (impl_GoodGroups.j1 k1 l0 l0 (l0.length : Int) x7_1 (decide (t209 ≥ 0)))) else (none)) else (none)) else (impl_GoodGroups.j1 k1 l0 l0 (l0.length : Int) x7_1 false))) else (impl_GoodGroups.j1 k1 l0 l0 (l0.length : Int) x7_1 true))) else (impl_GoodGroups.j1 k1 l0 l0 (l0.length : Int) x7_1 true)) = some r := H
        have A11 := xm A110
        clear A110
        by_cases c12 : t204 = true
        ·subst c12
         have H1 : ((impl_isSum.f ((rd_T45 l0 x7_1).f2)).bind fun t205 => (if t205 = true then (if ((rd_T45 l0 x7_1).f1) = 0 then (if ((rd_T45 l0 x7_1).f2) = 0 then (impl_GoodGroups.j1 k1 l0 l0 (l0.length : Int) x7_1 true) else (if x7_1 > 0 then (if 0 ≤ (wrap64 (x7_1 - 1)) then (if (wrap64 (x7_1 - 1)) < (l0.length : Int) then ((impl_compareRows.f k1 ((rd_T45 l0 (wrap64 (x7_1 - 1))).f0.f0) ((rd_T45 l0 x7_1).f0.f0)).bind fun t207 => (impl_GoodGroups.j1 k1 l0 l0 (l0.length : Int) x7_1 (decide (t207 ≥ 0)))) else (none)) else (none)) else (impl_GoodGroups.j1 k1 l0 l0 (l0.length : Int) x7_1 false))) else (if x7_1 > 0 then (if 0 ≤ (wrap64 (x7_1 - 1)) then (if (wrap64 (x7_1 - 1)) < (l0.length : Int) then ((impl_compareRows.f k1 ((rd_T45 l0 (wrap64 (x7_1 - 1))).f0.f0) ((rd_T45 l0 x7_1).f0.f0)).bind fun t209 => (impl_GoodGroups.j1 k1 l0 l0 (l0.length : Int) x7_1 (decide (t209 ≥ 0)))) else (none)) else (none)) else (impl_GoodGroups.j1 k1 l0 l0 (l0.length : Int) x7_1 false))) else (impl_GoodGroups.j1 k1 l0 l0 (l0.length : Int) x7_1 true))) = some r := by first | (with_reducible rfl) | (rw [if_pos rfl] at H; exact H)
         clear H
         have H := H1
         clear H1
         replace H := Option.bind_eq_some_iff.mp H
         obtain ⟨t205, A130, H⟩ := H
         replace H : (if t205 = true then (if ((rd_T45 l0 x7_1).f1) = 0 then (if ((rd_T45 l0 x7_1).f2) = 0 then (impl_GoodGroups.j1 k1 l0 l0 (l0.length : Int) x7_1 true) else (if x7_1 > 0 then (if 0 ≤ (wrap64 (x7_1 - 1)) then (if (wrap64 (x7_1 - 1)) < (l0.length : Int) then ((impl_compareRows.f k1 ((rd_T45 l0 (wrap64 (x7_1 - 1))).f0.f0) ((rd_T45 l0 x7_1).f0.f0)).bind fun t207 => (impl_GoodGroups.j1 k1 l0 l0 (l0.length : Int) x7_1 (decide (t207 ≥ 0)))) else (none)) else (none)) else (impl_GoodGroups.j1 k1 l0 l0 (l0.length : Int) x7_1 false))) else (if x7_1 > 0 then (if 0 ≤ (wrap64 (x7_1 - 1)) then (if (wrap64 (x7_1 - 1)) < (l0.length : Int) then ((impl_compareRows.f k1 ((rd_T45 l0 (wrap64 (x7_1 - 1))).f0.f0) ((rd_T45 l0 x7_1).f0.f0)).bind fun t209 => (impl_GoodGroups.j1 k1 l0 l0 (l0.length : Int) x7_1 (decide (t209 ≥ 0)))) else (none)) else (none)) else (impl_GoodGroups.j1 k1 l0 l0 (l0.length : Int) x7_1 false))) else (impl_GoodGroups.j1 k1 l0 l0 (l0.length : Int) x7_1 true)) = some r := H
         have A13 := xm A130
         clear A130
         by_cases c14 : t205 = true
         ·subst c14
          have H1 : (if ((rd_T45 l0 x7_1).f1) = 0 then (if ((rd_T45 l0 x7_1).f2) = 0 then (impl_GoodGroups.j1 k1 l0 l0 (l0.length : Int) x7_1 true) else (if x7_1 > 0 then (if 0 ≤ (wrap64 (x7_1 - 1)) then (if (wrap64 (x7_1 - 1)) < (l0.length : Int) then ((impl_compareRows.f k1 ((rd_T45 l0 (wrap64 (x7_1 - 1))).f0.f0) ((rd_T45 l0 x7_1).f0.f0)).bind fun t207 => (impl_GoodGroups.j1 k1 l0 l0 (l0.length : Int) x7_1 (decide (t207 ≥ 0)))) else (none)) else (none)) else (impl_GoodGroups.j1 k1 l0 l0 (l0.length : Int) x7_1 false))) else (if x7_1 > 0 then (if 0 ≤ (wrap64 (x7_1 - 1)) then (if (wrap64 (x7_1 - 1)) < (l0.length : Int) then ((impl_compareRows.f k1 ((rd_T45 l0 (wrap64 (x7_1 - 1))).f0.f0) ((rd_T45 l0 x7_1).f0.f0)).bind fun t209 => (impl_GoodGroups.j1 k1 l0 l0 (l0.length : Int) x7_1 (decide (t209 ≥ 0)))) else (none)) else (none)) else (impl_GoodGroups.j1 k1 l0 l0 (l0.length : Int) x7_1 false))) = some r := by first | (with_reducible rfl) | (rw [if_pos rfl] at H; exact H)
          clear H
          have H := H1
          clear H1
          by_cases c15 : ((rd_T45 l0 x7_1).f1) = 0
          ·rw [if_pos c15] at H
           have c15b0 : (((rd_T45 l0 x7_1).f1) == 0) = true := beq_iff_eq.mpr c15
           have c15b1 : (((rd_T45 l0 x7_1).f1) != 0) = false := bne_eq_false_iff_eq.mpr c15
           clear c15
           (first | rw [c15b0] | (simp only [i64_w, i32_w]; rw [c15b0]) | skip)
           by_cases c16 : ((rd_T45 l0 x7_1).f2) = 0
           ·rw [if_pos c16] at H
            have c16b0 : (((rd_T45 l0 x7_1).f2) == 0) = true := beq_iff_eq.mpr c16
            have c16b1 : (((rd_T45 l0 x7_1).f2) != 0) = false := bne_eq_false_iff_eq.mpr c16
            clear c16
            have H' := xm H
            clear H
            try go_wp2
            have n0_ : Aside0 ((((w6.setCell ⟨gb201, 0, none⟩ (.slice A200_0 ((rd_T45 l0 x7_1).f0.f0).length c200_0)).setCell ⟨gb201, 1, none⟩ (.int .i64 ((rd_T45 l0 x7_1).f1))).setCell ⟨gb201, 2, none⟩ (.int .i64 ((rd_T45 l0 x7_1).f2))).heap[gb201]? = some (.cells #[.slice A200_0 ((rd_T45 l0 x7_1).f0.f0).length c200_0, .int .i64 ((rd_T45 l0 x7_1).f1), .int .i64 ((rd_T45 l0 x7_1).f2)] 45 (0, 0))) := ⟨by (with_reducible repeat (first | refine xq ?_ _ | refine xr ?_ | refine xo ?_ _)); refine blk_put (cs := #[.slice A200_0 ((rd_T45 l0 x7_1).f0.f0).length c200_0, .int .i64 ((rd_T45 l0 x7_1).f1), .int .i64 0]) ?_ 2 _ rfl; (with_reducible repeat (first | refine xq ?_ _ | refine xr ?_ | refine xo ?_ _)); refine blk_put (cs := #[.slice A200_0 ((rd_T45 l0 x7_1).f0.f0).length c200_0, .int .i64 0, .int .i64 0]) ?_ 1 _ rfl; (with_reducible repeat (first | refine xq ?_ _ | refine xr ?_ | refine xo ?_ _)); refine blk_put (cs := #[.slice none 0 0, .int .i64 0, .int .i64 0]) ?_ 0 _ rfl; (with_reducible repeat (first | refine xq ?_ _ | refine xr ?_ | refine xo ?_ _)); exact BK201.out⟩
            have n1_ : Aside0 (Below w.heap.size w (((w6.setCell ⟨gb201, 0, none⟩ (.slice A200_0 ((rd_T45 l0 x7_1).f0.f0).length c200_0)).setCell ⟨gb201, 1, none⟩ (.int .i64 ((rd_T45 l0 x7_1).f1))).setCell ⟨gb201, 2, none⟩ (.int .i64 ((rd_T45 l0 x7_1).f2)))) := ⟨by repeat (first | (with_reducible first | exact HB.out | apply xa | apply xn | apply xd | refine xt ?_ GE201.out) | exact HB.out)⟩
            (try clear BK201)
            (try clear HB)
            generalize (((w6.setCell ⟨gb201, 0, none⟩ (.slice A200_0 ((rd_T45 l0 x7_1).f0.f0).length c200_0)).setCell ⟨gb201, 1, none⟩ (.int .i64 ((rd_T45 l0 x7_1).f1))).setCell ⟨gb201, 2, none⟩ (.int .i64 ((rd_T45 l0 x7_1).f2))) = w17 at n0_ n1_ ⊢
            revert n0_ n1_; intro BK201 HB
            have n0_ := xm (xr BK201.out)
            have n1_ := xm (xd HB.out)
            revert n0_ n1_; clear BK201 HB; intro BK201 HB
            refine start_ (n := 44) (S := fun w' => w'.cell? ⟨gb201, 0, none⟩ = some (.slice A200_0 ((rd_T45 l0 x7_1).f0.f0).length c200_0) ∧ w'.cell? ⟨gb201, 1, none⟩ = some (.int .i64 ((rd_T45 l0 x7_1).f1)) ∧ w'.cell? ⟨gb201, 2, none⟩ = some (.int .i64 ((rd_T45 l0 x7_1).f2))) (ds := []) #[Z,Z,Z,Z,Z,Z,Z,Z,Z,Z,Z,Z,Z,Z,Z,Z,Z,Z,Z,Z,Z,Z,Z,Z,Z,Z,Z,Z,Z,Z,Z,Z,Z,Z,Z,Z,Z,Z,Z,Z,Z,Z,Z,Z] (by kernel_rfl) rfl rfl ⟨(xc BK201.out 0).trans rfl, (xc BK201.out 1).trans rfl, (xc BK201.out 2).trans rfl⟩ (fun hHeld => ?_); refine with_tabW impl_GoodGroups.tab4 impl_GoodGroups.bits4 (fun HT_ HW_ => ?_)
            generalize w17.drew = w18 at BK201 HB hHeld ⊢
            refine pu 0 44 1 ?_
            refine pu 2 44 5 ?_
            refine tx 1 44 7 rfl rfl (take_ofW HT_.out HW_.out (by kernel_rfl)) hHeld (by rintro w' ⟨s0, s1, s2⟩; go_simp; with_reducible rfl) ?_
            refine one_ (i := 3) (N := some 15) #[Y,Y,Y,Y,Z,Z,Z,Z,Z,Z,Z,Z,Z,Z,Z,Z,Z,Z,Z,Z,Z,Z,Z,Z,Z,Z,Z,Z,Z,Z,Z,Z,Z,Z,Z,Z,Z,Z,Z,Z,Z,Z,Z,Z] rfl rfl (one_of HT_.out (by kernel_rfl)) (by decide) (fun K hK => ?_)
            refine goes_ Try.func18 (by kernel_rfl) rfl #[.slice (some ad200) l0.length c0] (by rfl) rfl rfl mB ?_
            with_reducible refine (impl_keyLength.calls _ _ l0 t202 _ ?side1 ?side2 A8.out).mono ?_
            (case side1 => exact cB (Kd.C_below HR0.out HB.out))
            (case side2 => exact HC0.out)
            rintro e w' ⟨rfl, ⟨nd, rfl⟩⟩
            refine ⟨_, rfl, ?_⟩
            refine hK.out _ _ ⟨(xc BK201.out 0).trans rfl, (xc BK201.out 1).trans rfl, (xc BK201.out 2).trans rfl⟩ (fun hHeld => nC ?_)
            clear hK K
            refine one_ (i := 4) (N := some 16) #[Y,Y,Y,Y,Y,Z,Z,Z,Z,Z,Z,Z,Z,Z,Z,Z,Z,Z,Z,Z,Z,Z,Z,Z,Z,Z,Z,Z,Z,Z,Z,Z,Z,Z,Z,Z,Z,Z,Z,Z,Z,Z,Z,Z] rfl rfl (one_of HT_.out (by kernel_rfl)) (by decide) (fun K hK => ?_)
            refine goes_ Try.func33 (by kernel_rfl) rfl #[.agg #[.slice A200_0 ((rd_T45 l0 x7_1).f0.f0).length c200_0], .int .i64 t202] (by rfl) rfl rfl mB ?_
            with_reducible refine (impl_isRowOf.calls _ _ ((rd_T45 l0 x7_1).f0.f0) t202 true _ ?side1 ?side2 A9.out).mono ?_
            (case side1 => repeat (first | exact (Kd.C_below HR200_0.out bG) | (with_reducible refine Kd.C_alloc ?_ _) | (with_reducible refine Kd.C_drewN ?_ _) | (with_reducible refine Kd.C_drew ?_)))
            (case side2 => exact HC200_0.out)
            rintro e w19 ⟨rfl, hb⟩
            refine ⟨_, rfl, ?_⟩
            have n0_ := xm (blk_below (kB BK201) hb)
            have n1_ := xm (below_step bG hb)
            revert n0_ n1_; clear BK201 HB; intro BK201 HB
            (try clear hb)
            (try clear hb2)
            (try clear hk)
            (try clear hi)
            refine hK.out _ _ ⟨(xc BK201.out 0).trans rfl, (xc BK201.out 1).trans rfl, (xc BK201.out 2).trans rfl⟩ (fun hHeld => nC ?_)
            clear hK K
            refine pu 5 44 63 ?_
            refine pu 6 44 127 ?_
            refine pu 7 44 255 ?_
            refine tx 8 44 511 rfl rfl (take_ofW HT_.out HW_.out (by kernel_rfl)) hHeld (by rintro w' ⟨s0, s1, s2⟩; go_simp; with_reducible rfl) ?_
            refine one_ (i := 9) (N := some 21) #[Y,Y,Y,Y,Y,Y,Y,Y,Y,Y,Z,Z,Z,Z,Z,Z,Z,Z,Z,Z,Z,Z,Z,Z,Z,Z,Z,Z,Z,Z,Z,Z,Z,Z,Z,Z,Z,Z,Z,Z,Z,Z,Z,Z] rfl rfl (one_of HT_.out (by kernel_rfl)) (by decide) (fun K hK => ?_)
            refine goes_ Try.func34 (by kernel_rfl) rfl #[.int .i64 ((rd_T45 l0 x7_1).f1)] (by rfl) rfl rfl mB ?_
            with_reducible refine (impl_isSum.calls ((rd_T45 l0 x7_1).f1) true _ A11.out).mono ?_
            rintro e w' ⟨rfl, ⟨nd, rfl⟩⟩
            refine ⟨_, rfl, ?_⟩
            refine hK.out _ _ ⟨(xc BK201.out 0).trans rfl, (xc BK201.out 1).trans rfl, (xc BK201.out 2).trans rfl⟩ (fun hHeld => nC ?_)
            clear hK K
            refine pu 10 44 2047 ?_
            refine pu 11 44 4095 ?_
            refine pu 12 44 8191 ?_
            refine pu 13 44 16383 ?_
            refine tx 14 44 32767 rfl rfl (take_ofW HT_.out HW_.out (by kernel_rfl)) hHeld (by rintro w' ⟨s0, s1, s2⟩; go_simp; with_reducible rfl) ?_
            refine one_ (i := 15) (N := some 27) #[Y,Y,Y,Y,Y,Y,Y,Y,Y,Y,Y,Y,Y,Y,Y,Y,Z,Z,Z,Z,Z,Z,Z,Z,Z,Z,Z,Z,Z,Z,Z,Z,Z,Z,Z,Z,Z,Z,Z,Z,Z,Z,Z,Z] rfl rfl (one_of HT_.out (by kernel_rfl)) (by decide) (fun K hK => ?_)
            refine goes_ Try.func34 (by kernel_rfl) rfl #[.int .i64 ((rd_T45 l0 x7_1).f2)] (by rfl) rfl rfl mB ?_
            with_reducible refine (impl_isSum.calls ((rd_T45 l0 x7_1).f2) true _ A13.out).mono ?_
            rintro e w' ⟨rfl, ⟨nd, rfl⟩⟩
            refine ⟨_, rfl, ?_⟩
            refine hK.out _ _ ⟨(xc BK201.out 0).trans rfl, (xc BK201.out 1).trans rfl, (xc BK201.out 2).trans rfl⟩ (fun hHeld => nC ?_)
            clear hK K
            refine pu 16 44 131071 ?_
            refine pu 17 44 262143 ?_
            refine pu 18 44 524287 ?_
            refine pu 19 44 1048575 ?_
            refine tx 20 44 2097151 rfl rfl (take_ofW HT_.out HW_.out (by kernel_rfl)) hHeld (by rintro w' ⟨s0, s1, s2⟩; go_simp; with_reducible rfl) ?_
            refine pu 21 44 4194303 ?_
            refine pu 22 44 8388607 ?_
            refine pu 23 44 16777215 ?_
            refine tx 24 44 33554431 rfl rfl (take_ofW HT_.out HW_.out (by kernel_rfl)) hHeld (by rintro w' ⟨s0, s1, s2⟩; go_simp; with_reducible rfl) ?_
            refine pu 25 44 67108863 ?_
            refine pu 26 44 134217727 ?_
            refine pu 27 44 268435455 ?_
            refine pu 28 44 536870911 ?_
            refine ou 29 44 1073741823 ?_
            refine ou 30 44 2147483647 ?_
            refine ou 31 44 4294967295 ?_
            refine ou 32 44 8589934591 ?_
            refine ou 33 44 17179869183 ?_
            refine ou 34 44 34359738367 ?_
            refine ou 35 44 68719476735 ?_
            refine ou 36 44 137438953471 ?_
            refine ou 37 44 274877906943 ?_
            refine ou 38 44 549755813887 ?_
            refine ou 39 44 1099511627775 ?_
            refine ou 40 44 2199023255551 ?_
            refine ou 41 44 4398046511103 ?_
            refine ou 42 44 8796093022207 ?_
            refine pu 43 44 17592186044415 ?_
            refine done_ (done_of HT_.out (by kernel_rfl)) ?_
            try go_wp2
            go_meet
            case rel => exact ⟨_, (true), (by first | rfl | (simp; done) | (simp [*]; done)), H', ⟨by have := HK1.out; first | omega | exact Nat.le_refl _⟩, ⟨by (with_reducible repeat (first | refine xq ?_ _ | refine xr ?_ | refine xo ?_ _)); exact BK201.out⟩, ⟨by repeat (first | (with_reducible first | exact HB.out | apply xa | apply xn | apply xd | refine xt ?_ GE201.out) | exact HB.out)⟩⟩
           ·rw [if_neg c16] at H
            have c16b0 : (((rd_T45 l0 x7_1).f2) == 0) = false := beq_eq_false_iff_ne.mpr c16
            have c16b1 : (((rd_T45 l0 x7_1).f2) != 0) = true := bne_iff_ne.mpr c16
            by_cases c20 : x7_1 > 0
            ·rw [if_pos c20] at H
             have c20b0 : decide (0 < x7_1) = true := decide_eq_true c20
             clear c20
             obtain ⟨ji21, hji21⟩ : ∃ j_ : Int, (wrap64 (x7_1 - 1)) = j_ := ⟨_, rfl⟩
             replace H : (if 0 ≤ (ji21) then (if (ji21) < (l0.length : Int) then ((impl_compareRows.f k1 ((rd_T45 l0 (ji21)).f0.f0) ((rd_T45 l0 x7_1).f0.f0)).bind fun t207 => (impl_GoodGroups.j1 k1 l0 l0 (l0.length : Int) x7_1 (decide (t207 ≥ 0)))) else (none)) else (none)) = some r := by first | (rw [hji21] at H; exact H) | (simp only [hji21] at H ⊢; exact H)
             (try rw [hji21] at A8)
             (try rw [hji21] at A9)
             (try rw [hji21] at A11)
             (try rw [hji21] at A13)
             have hji21w : (IntKind.i64.wrap (x7_1 - 1)) = ji21 := (i64_w _).trans hji21
             by_cases c22 : 0 ≤ (ji21)
             ·rw [if_pos c22] at H
              have c22b0 : decide (0 ≤ (ji21)) = true := decide_eq_true c22
              clear c22
              by_cases c23 : (ji21) < (l0.length : Int)
              ·rw [if_pos c23] at H
               have c23b0 : decide ((ji21) < (l0.length : Int)) = true := decide_eq_true c23
               clear c23
               replace H := Option.bind_eq_some_iff.mp H
               obtain ⟨t207, A240, H⟩ := H
               replace H : (impl_GoodGroups.j1 k1 l0 l0 (l0.length : Int) x7_1 (decide (t207 ≥ 0))) = some r := H
               have A24 := xm A240
               clear A240
               have H' := xm H
               clear H
               try go_wp2
               have n0_ : Aside0 ((((w6.setCell ⟨gb201, 0, none⟩ (.slice A200_0 ((rd_T45 l0 x7_1).f0.f0).length c200_0)).setCell ⟨gb201, 1, none⟩ (.int .i64 ((rd_T45 l0 x7_1).f1))).setCell ⟨gb201, 2, none⟩ (.int .i64 ((rd_T45 l0 x7_1).f2))).heap[gb201]? = some (.cells #[.slice A200_0 ((rd_T45 l0 x7_1).f0.f0).length c200_0, .int .i64 ((rd_T45 l0 x7_1).f1), .int .i64 ((rd_T45 l0 x7_1).f2)] 45 (0, 0))) := ⟨by (with_reducible repeat (first | refine xq ?_ _ | refine xr ?_ | refine xo ?_ _)); refine blk_put (cs := #[.slice A200_0 ((rd_T45 l0 x7_1).f0.f0).length c200_0, .int .i64 ((rd_T45 l0 x7_1).f1), .int .i64 0]) ?_ 2 _ rfl; (with_reducible repeat (first | refine xq ?_ _ | refine xr ?_ | refine xo ?_ _)); refine blk_put (cs := #[.slice A200_0 ((rd_T45 l0 x7_1).f0.f0).length c200_0, .int .i64 0, .int .i64 0]) ?_ 1 _ rfl; (with_reducible repeat (first | refine xq ?_ _ | refine xr ?_ | refine xo ?_ _)); refine blk_put (cs := #[.slice none 0 0, .int .i64 0, .int .i64 0]) ?_ 0 _ rfl; (with_reducible repeat (first | refine xq ?_ _ | refine xr ?_ | refine xo ?_ _)); exact BK201.out⟩
               have n1_ : Aside0 (Below w.heap.size w (((w6.setCell ⟨gb201, 0, none⟩ (.slice A200_0 ((rd_T45 l0 x7_1).f0.f0).length c200_0)).setCell ⟨gb201, 1, none⟩ (.int .i64 ((rd_T45 l0 x7_1).f1))).setCell ⟨gb201, 2, none⟩ (.int .i64 ((rd_T45 l0 x7_1).f2)))) := ⟨by repeat (first | (with_reducible first | exact HB.out | apply xa | apply xn | apply xd | refine xt ?_ GE201.out) | exact HB.out)⟩
               (try clear BK201)
               (try clear HB)
               generalize (((w6.setCell ⟨gb201, 0, none⟩ (.slice A200_0 ((rd_T45 l0 x7_1).f0.f0).length c200_0)).setCell ⟨gb201, 1, none⟩ (.int .i64 ((rd_T45 l0 x7_1).f1))).setCell ⟨gb201, 2, none⟩ (.int .i64 ((rd_T45 l0 x7_1).f2))) = w25 at n0_ n1_ ⊢
               revert n0_ n1_; intro BK201 HB
               have n0_ := xm (xr BK201.out)
               have n1_ := xm (xd HB.out)
               revert n0_ n1_; clear BK201 HB; intro BK201 HB
               have p206 : 0 ≤ ((ji21) : Int) := of_decide_eq_true aB
               have q206 : (ji21) < (l0.length : Int) := of_decide_eq_true aB
               obtain ⟨ad206, A206_0, c206_0, e206, hx206_0, hx206_1, hx206_2, hl206_0, hi206_0⟩ := at_T45 HR0.out (ji21) p206 q206
               have hw206_2 := hx206_2
               have hw206_1 := hx206_1
               have hw206_0 := hx206_0
               obtain rfl : ad200 = ad206 := (by injection e206)
               replace hx206_0 := (HB.out.cell (World.block_lt_of_cell? w _ hx206_0)).trans hx206_0
               replace hx206_1 := (HB.out.cell (World.block_lt_of_cell? w _ hx206_1)).trans hx206_1
               replace hx206_2 := (HB.out.cell (World.block_lt_of_cell? w _ hx206_2)).trans hx206_2
               have HR206_0 := xm hi206_0
               have HC206_0 := xm hl206_0
               clear hi206_0 hl206_0
               replace p206 := eq_true p206
               replace q206 := eq_true q206
               refine start_ (n := 44) (S := fun w' => w'.cell? ⟨gb201, 0, none⟩ = some (.slice A200_0 ((rd_T45 l0 x7_1).f0.f0).length c200_0) ∧ w'.cell? ⟨gb201, 1, none⟩ = some (.int .i64 ((rd_T45 l0 x7_1).f1)) ∧ w'.cell? ⟨gb201, 2, none⟩ = some (.int .i64 ((rd_T45 l0 x7_1).f2)) ∧ w'.cell? (ad200.add (((ji21)).toNat * 3)) = some (.slice A206_0 ((rd_T45 l0 (ji21)).f0.f0).length c206_0) ∧ w'.cell? ⟨(ad200.add (((ji21)).toNat * 3)).block, (ad200.add (((ji21)).toNat * 3)).off + 1, none⟩ = some (.int .i64 ((rd_T45 l0 (ji21)).f1)) ∧ w'.cell? ⟨(ad200.add (((ji21)).toNat * 3)).block, (ad200.add (((ji21)).toNat * 3)).off + 2, none⟩ = some (.int .i64 ((rd_T45 l0 (ji21)).f2))) (ds := []) #[Z,Z,Z,Z,Z,Z,Z,Z,Z,Z,Z,Z,Z,Z,Z,Z,Z,Z,Z,Z,Z,Z,Z,Z,Z,Z,Z,Z,Z,Z,Z,Z,Z,Z,Z,Z,Z,Z,Z,Z,Z,Z,Z,Z] (by kernel_rfl) rfl rfl ⟨(xc BK201.out 0).trans rfl, (xc BK201.out 1).trans rfl, (xc BK201.out 2).trans rfl, ((HB.out.cell (World.block_lt_of_cell? w _ hw206_0)).trans hw206_0), ((HB.out.cell (World.block_lt_of_cell? w _ hw206_1)).trans hw206_1), ((HB.out.cell (World.block_lt_of_cell? w _ hw206_2)).trans hw206_2)⟩ (fun hHeld => ?_); refine with_tabW impl_GoodGroups.tab4 impl_GoodGroups.bits4 (fun HT_ HW_ => ?_)
               generalize w25.drew = w26 at BK201 HB HR206_0 hx206_0 hx206_1 hx206_2 hHeld ⊢
               refine pu 0 44 1 ?_
               refine pu 2 44 5 ?_
               refine tx 1 44 7 rfl rfl (take_ofW HT_.out HW_.out (by kernel_rfl)) hHeld (by rintro w' ⟨s0, s1, s2, s3, s4, s5⟩; go_simp; with_reducible rfl) ?_
               refine one_ (i := 3) (N := some 15) #[Y,Y,Y,Y,Z,Z,Z,Z,Z,Z,Z,Z,Z,Z,Z,Z,Z,Z,Z,Z,Z,Z,Z,Z,Z,Z,Z,Z,Z,Z,Z,Z,Z,Z,Z,Z,Z,Z,Z,Z,Z,Z,Z,Z] rfl rfl (one_of HT_.out (by kernel_rfl)) (by decide) (fun K hK => ?_)
               refine goes_ Try.func18 (by kernel_rfl) rfl #[.slice (some ad200) l0.length c0] (by rfl) rfl rfl mB ?_
               with_reducible refine (impl_keyLength.calls _ _ l0 t202 _ ?side1 ?side2 A8.out).mono ?_
               (case side1 => exact cB (Kd.C_below HR0.out HB.out))
               (case side2 => exact HC0.out)
               rintro e w' ⟨rfl, ⟨nd, rfl⟩⟩
               refine ⟨_, rfl, ?_⟩
               refine hK.out _ _ ⟨(xc BK201.out 0).trans rfl, (xc BK201.out 1).trans rfl, (xc BK201.out 2).trans rfl, ((HB.out.cell (World.block_lt_of_cell? w _ hw206_0)).trans hw206_0), ((HB.out.cell (World.block_lt_of_cell? w _ hw206_1)).trans hw206_1), ((HB.out.cell (World.block_lt_of_cell? w _ hw206_2)).trans hw206_2)⟩ (fun hHeld => nC ?_)
               clear hK K
               refine one_ (i := 4) (N := some 16) #[Y,Y,Y,Y,Y,Z,Z,Z,Z,Z,Z,Z,Z,Z,Z,Z,Z,Z,Z,Z,Z,Z,Z,Z,Z,Z,Z,Z,Z,Z,Z,Z,Z,Z,Z,Z,Z,Z,Z,Z,Z,Z,Z,Z] rfl rfl (one_of HT_.out (by kernel_rfl)) (by decide) (fun K hK => ?_)
               refine goes_ Try.func33 (by kernel_rfl) rfl #[.agg #[.slice A200_0 ((rd_T45 l0 x7_1).f0.f0).length c200_0], .int .i64 t202] (by rfl) rfl rfl mB ?_
               with_reducible refine (impl_isRowOf.calls _ _ ((rd_T45 l0 x7_1).f0.f0) t202 true _ ?side1 ?side2 A9.out).mono ?_
               (case side1 => repeat (first | exact (Kd.C_below HR200_0.out bG) | (with_reducible refine Kd.C_alloc ?_ _) | (with_reducible refine Kd.C_drewN ?_ _) | (with_reducible refine Kd.C_drew ?_)))
               (case side2 => exact HC200_0.out)
               rintro e w27 ⟨rfl, hb⟩
               refine ⟨_, rfl, ?_⟩
               have n0_ := xm (blk_below (kB BK201) hb)
               have n1_ := xm (below_step bG hb)
               revert n0_ n1_; clear BK201 HB; intro BK201 HB
               (try clear hb)
               (try clear hb2)
               (try clear hk)
               (try clear hi)
               refine hK.out _ _ ⟨(xc BK201.out 0).trans rfl, (xc BK201.out 1).trans rfl, (xc BK201.out 2).trans rfl, ((HB.out.cell (World.block_lt_of_cell? w _ hw206_0)).trans hw206_0), ((HB.out.cell (World.block_lt_of_cell? w _ hw206_1)).trans hw206_1), ((HB.out.cell (World.block_lt_of_cell? w _ hw206_2)).trans hw206_2)⟩ (fun hHeld => nC ?_)
               clear hK K
               refine pu 5 44 63 ?_
               refine pu 6 44 127 ?_
               refine pu 7 44 255 ?_
               refine tx 8 44 511 rfl rfl (take_ofW HT_.out HW_.out (by kernel_rfl)) hHeld (by rintro w' ⟨s0, s1, s2, s3, s4, s5⟩; go_simp; with_reducible rfl) ?_
               refine one_ (i := 9) (N := some 21) #[Y,Y,Y,Y,Y,Y,Y,Y,Y,Y,Z,Z,Z,Z,Z,Z,Z,Z,Z,Z,Z,Z,Z,Z,Z,Z,Z,Z,Z,Z,Z,Z,Z,Z,Z,Z,Z,Z,Z,Z,Z,Z,Z,Z] rfl rfl (one_of HT_.out (by kernel_rfl)) (by decide) (fun K hK => ?_)
               refine goes_ Try.func34 (by kernel_rfl) rfl #[.int .i64 ((rd_T45 l0 x7_1).f1)] (by rfl) rfl rfl mB ?_
               with_reducible refine (impl_isSum.calls ((rd_T45 l0 x7_1).f1) true _ A11.out).mono ?_
               rintro e w' ⟨rfl, ⟨nd, rfl⟩⟩
               refine ⟨_, rfl, ?_⟩
               refine hK.out _ _ ⟨(xc BK201.out 0).trans rfl, (xc BK201.out 1).trans rfl, (xc BK201.out 2).trans rfl, ((HB.out.cell (World.block_lt_of_cell? w _ hw206_0)).trans hw206_0), ((HB.out.cell (World.block_lt_of_cell? w _ hw206_1)).trans hw206_1), ((HB.out.cell (World.block_lt_of_cell? w _ hw206_2)).trans hw206_2)⟩ (fun hHeld => nC ?_)
               clear hK K
               refine pu 10 44 2047 ?_
               refine pu 11 44 4095 ?_
               refine pu 12 44 8191 ?_
               refine pu 13 44 16383 ?_
               refine tx 14 44 32767 rfl rfl (take_ofW HT_.out HW_.out (by kernel_rfl)) hHeld (by rintro w' ⟨s0, s1, s2, s3, s4, s5⟩; go_simp; with_reducible rfl) ?_
               refine one_ (i := 15) (N := some 27) #[Y,Y,Y,Y,Y,Y,Y,Y,Y,Y,Y,Y,Y,Y,Y,Y,Z,Z,Z,Z,Z,Z,Z,Z,Z,Z,Z,Z,Z,Z,Z,Z,Z,Z,Z,Z,Z,Z,Z,Z,Z,Z,Z,Z] rfl rfl (one_of HT_.out (by kernel_rfl)) (by decide) (fun K hK => ?_)
               refine goes_ Try.func34 (by kernel_rfl) rfl #[.int .i64 ((rd_T45 l0 x7_1).f2)] (by rfl) rfl rfl mB ?_
               with_reducible refine (impl_isSum.calls ((rd_T45 l0 x7_1).f2) true _ A13.out).mono ?_
               rintro e w' ⟨rfl, ⟨nd, rfl⟩⟩
               refine ⟨_, rfl, ?_⟩
               refine hK.out _ _ ⟨(xc BK201.out 0).trans rfl, (xc BK201.out 1).trans rfl, (xc BK201.out 2).trans rfl, ((HB.out.cell (World.block_lt_of_cell? w _ hw206_0)).trans hw206_0), ((HB.out.cell (World.block_lt_of_cell? w _ hw206_1)).trans hw206_1), ((HB.out.cell (World.block_lt_of_cell? w _ hw206_2)).trans hw206_2)⟩ (fun hHeld => nC ?_)
               clear hK K
               refine pu 16 44 131071 ?_
               refine pu 17 44 262143 ?_
               refine pu 18 44 524287 ?_
               refine pu 19 44 1048575 ?_
               refine tx 20 44 2097151 rfl rfl (take_ofW HT_.out HW_.out (by kernel_rfl)) hHeld (by rintro w' ⟨s0, s1, s2, s3, s4, s5⟩; go_simp; with_reducible rfl) ?_
               refine pu 21 44 4194303 ?_
               refine pu 22 44 8388607 ?_
               refine pu 23 44 16777215 ?_
               refine tx 24 44 33554431 rfl rfl (take_ofW HT_.out HW_.out (by kernel_rfl)) hHeld (by rintro w' ⟨s0, s1, s2, s3, s4, s5⟩; go_simp; with_reducible rfl) ?_
               refine pu 25 44 67108863 ?_
               refine pu 26 44 134217727 ?_
               refine pu 27 44 268435455 ?_
               refine pu 28 44 536870911 ?_
               refine pu 29 44 1073741823 ?_
               refine pu 30 44 2147483647 ?_
               refine pu 31 44 4294967295 ?_
               refine pu 32 44 8589934591 ?_
               refine pu 33 44 17179869183 ?_
               refine pu 34 44 34359738367 ?_
               refine pu 35 44 68719476735 ?_
               refine pu 36 44 137438953471 ?_
               refine pu 38 44 412316860415 ?_
               refine tx 37 44 549755813887 rfl rfl (take_ofW HT_.out HW_.out (by kernel_rfl)) hHeld (by rintro w' ⟨s0, s1, s2, s3, s4, s5⟩; go_simp; with_reducible rfl) ?_
               refine tx 39 44 1099511627775 rfl rfl (take_ofW HT_.out HW_.out (by kernel_rfl)) hHeld (by rintro w' ⟨s0, s1, s2, s3, s4, s5⟩; go_simp; with_reducible rfl) ?_
               refine one_ (i := 40) (N := some 52) #[Y,Y,Y,Y,Y,Y,Y,Y,Y,Y,Y,Y,Y,Y,Y,Y,Y,Y,Y,Y,Y,Y,Y,Y,Y,Y,Y,Y,Y,Y,Y,Y,Y,Y,Y,Y,Y,Y,Y,Y,Y,Z,Z,Z] rfl rfl (one_of HT_.out (by kernel_rfl)) (by decide) (fun K hK => ?_)
               refine goes_ Try.func35 (by kernel_rfl) rfl #[.agg #[.slice A206_0 ((rd_T45 l0 (ji21)).f0.f0).length c206_0], .agg #[.slice A200_0 ((rd_T45 l0 x7_1).f0.f0).length c200_0]] (by rfl) rfl rfl (by (try simp only [List.map_toArray, List.map_cons, List.map_nil]); first | done | (simp only [hji21]; rfl) | rfl | (simp only [List.length_drop, List.length_take]; rfl)) ?_
               with_reducible refine (impl_compareRows.calls k1 _ _ ((rd_T45 l0 (ji21)).f0.f0) _ _ ((rd_T45 l0 x7_1).f0.f0) t207 _ ?side1 ?side2 ?side3 ?side4 A24.out).mono ?_
               (case side1 => repeat (first | exact (Kd.C_below HR206_0.out bG) | (with_reducible refine Kd.C_alloc ?_ _) | (with_reducible refine Kd.C_drewN ?_ _) | (with_reducible refine Kd.C_drew ?_)))
               (case side2 => exact HC206_0.out)
               (case side3 => repeat (first | exact (Kd.C_below HR200_0.out bG) | (with_reducible refine Kd.C_alloc ?_ _) | (with_reducible refine Kd.C_drewN ?_ _) | (with_reducible refine Kd.C_drew ?_)))
               (case side4 => exact HC200_0.out)
               rintro e w28 ⟨rfl, hb⟩
               refine ⟨_, rfl, ?_⟩
               have n0_ := xm (blk_below (kB BK201) hb)
               have n1_ := xm (below_step bG hb)
               revert n0_ n1_; clear BK201 HB; intro BK201 HB
               (try clear hb)
               (try clear hb2)
               (try clear hk)
               (try clear hi)
               refine hK.out _ _ ⟨(xc BK201.out 0).trans rfl, (xc BK201.out 1).trans rfl, (xc BK201.out 2).trans rfl, ((HB.out.cell (World.block_lt_of_cell? w _ hw206_0)).trans hw206_0), ((HB.out.cell (World.block_lt_of_cell? w _ hw206_1)).trans hw206_1), ((HB.out.cell (World.block_lt_of_cell? w _ hw206_2)).trans hw206_2)⟩ (fun hHeld => nC ?_)
               clear hK K
               refine pu 41 44 4398046511103 ?_
               refine pu 42 44 8796093022207 ?_
               refine pu 43 44 17592186044415 ?_
               refine done_ (done_of HT_.out (by kernel_rfl)) ?_
               try go_wp2
               go_meet
               case rel => exact ⟨_, (decide (t207 ≥ 0)), (by first | rfl | (simp; done) | (simp [*]; done)), H', ⟨by have := HK1.out; first | omega | exact Nat.le_refl _⟩, ⟨by (with_reducible repeat (first | refine xq ?_ _ | refine xr ?_ | refine xo ?_ _)); exact BK201.out⟩, ⟨by repeat (first | (with_reducible first | exact HB.out | apply xa | apply xn | apply xd | refine xt ?_ GE201.out) | exact HB.out)⟩⟩
              ·rw [if_neg c23] at H
               exact absurd H (by simp)
             ·rw [if_neg c22] at H
              exact absurd H (by simp)
            ·rw [if_neg c20] at H
             have c20b0 : decide (0 < x7_1) = false := decide_eq_false c20
             clear c20
             have H' := xm H
             clear H
             try go_wp2
             have n0_ : Aside0 ((((w6.setCell ⟨gb201, 0, none⟩ (.slice A200_0 ((rd_T45 l0 x7_1).f0.f0).length c200_0)).setCell ⟨gb201, 1, none⟩ (.int .i64 ((rd_T45 l0 x7_1).f1))).setCell ⟨gb201, 2, none⟩ (.int .i64 ((rd_T45 l0 x7_1).f2))).heap[gb201]? = some (.cells #[.slice A200_0 ((rd_T45 l0 x7_1).f0.f0).length c200_0, .int .i64 ((rd_T45 l0 x7_1).f1), .int .i64 ((rd_T45 l0 x7_1).f2)] 45 (0, 0))) := ⟨by (with_reducible repeat (first | refine xq ?_ _ | refine xr ?_ | refine xo ?_ _)); refine blk_put (cs := #[.slice A200_0 ((rd_T45 l0 x7_1).f0.f0).length c200_0, .int .i64 ((rd_T45 l0 x7_1).f1), .int .i64 0]) ?_ 2 _ rfl; (with_reducible repeat (first | refine xq ?_ _ | refine xr ?_ | refine xo ?_ _)); refine blk_put (cs := #[.slice A200_0 ((rd_T45 l0 x7_1).f0.f0).length c200_0, .int .i64 0, .int .i64 0]) ?_ 1 _ rfl; (with_reducible repeat (first | refine xq ?_ _ | refine xr ?_ | refine xo ?_ _)); refine blk_put (cs := #[.slice none 0 0, .int .i64 0, .int .i64 0]) ?_ 0 _ rfl; (with_reducible repeat (first | refine xq ?_ _ | refine xr ?_ | refine xo ?_ _)); exact BK201.out⟩
             have n1_ : Aside0 (Below w.heap.size w (((w6.setCell ⟨gb201, 0, none⟩ (.slice A200_0 ((rd_T45 l0 x7_1).f0.f0).length c200_0)).setCell ⟨gb201, 1, none⟩ (.int .i64 ((rd_T45 l0 x7_1).f1))).setCell ⟨gb201, 2, none⟩ (.int .i64 ((rd_T45 l0 x7_1).f2)))) := ⟨by repeat (first | (with_reducible first | exact HB.out | apply xa | apply xn | apply xd | refine xt ?_ GE201.out) | exact HB.out)⟩
             (try clear BK201)
             (try clear HB)
             generalize (((w6.setCell ⟨gb201, 0, none⟩ (.slice A200_0 ((rd_T45 l0 x7_1).f0.f0).length c200_0)).setCell ⟨gb201, 1, none⟩ (.int .i64 ((rd_T45 l0 x7_1).f1))).setCell ⟨gb201, 2, none⟩ (.int .i64 ((rd_T45 l0 x7_1).f2))) = w29 at n0_ n1_ ⊢
             revert n0_ n1_; intro BK201 HB
             have n0_ := xm (xr BK201.out)
             have n1_ := xm (xd HB.out)
             revert n0_ n1_; clear BK201 HB; intro BK201 HB
             refine start_ (n := 44) (S := fun w' => w'.cell? ⟨gb201, 0, none⟩ = some (.slice A200_0 ((rd_T45 l0 x7_1).f0.f0).length c200_0) ∧ w'.cell? ⟨gb201, 1, none⟩ = some (.int .i64 ((rd_T45 l0 x7_1).f1)) ∧ w'.cell? ⟨gb201, 2, none⟩ = some (.int .i64 ((rd_T45 l0 x7_1).f2))) (ds := []) #[Z,Z,Z,Z,Z,Z,Z,Z,Z,Z,Z,Z,Z,Z,Z,Z,Z,Z,Z,Z,Z,Z,Z,Z,Z,Z,Z,Z,Z,Z,Z,Z,Z,Z,Z,Z,Z,Z,Z,Z,Z,Z,Z,Z] (by kernel_rfl) rfl rfl ⟨(xc BK201.out 0).trans rfl, (xc BK201.out 1).trans rfl, (xc BK201.out 2).trans rfl⟩ (fun hHeld => ?_); refine with_tabW impl_GoodGroups.tab4 impl_GoodGroups.bits4 (fun HT_ HW_ => ?_)
             generalize w29.drew = w30 at BK201 HB hHeld ⊢
             refine pu 0 44 1 ?_
             refine pu 2 44 5 ?_
             refine tx 1 44 7 rfl rfl (take_ofW HT_.out HW_.out (by kernel_rfl)) hHeld (by rintro w' ⟨s0, s1, s2⟩; go_simp; with_reducible rfl) ?_
             refine one_ (i := 3) (N := some 15) #[Y,Y,Y,Y,Z,Z,Z,Z,Z,Z,Z,Z,Z,Z,Z,Z,Z,Z,Z,Z,Z,Z,Z,Z,Z,Z,Z,Z,Z,Z,Z,Z,Z,Z,Z,Z,Z,Z,Z,Z,Z,Z,Z,Z] rfl rfl (one_of HT_.out (by kernel_rfl)) (by decide) (fun K hK => ?_)
             refine goes_ Try.func18 (by kernel_rfl) rfl #[.slice (some ad200) l0.length c0] (by rfl) rfl rfl mB ?_
             with_reducible refine (impl_keyLength.calls _ _ l0 t202 _ ?side1 ?side2 A8.out).mono ?_
             (case side1 => exact cB (Kd.C_below HR0.out HB.out))
             (case side2 => exact HC0.out)
             rintro e w' ⟨rfl, ⟨nd, rfl⟩⟩
             refine ⟨_, rfl, ?_⟩
             refine hK.out _ _ ⟨(xc BK201.out 0).trans rfl, (xc BK201.out 1).trans rfl, (xc BK201.out 2).trans rfl⟩ (fun hHeld => nC ?_)
             clear hK K
             refine one_ (i := 4) (N := some 16) #[Y,Y,Y,Y,Y,Z,Z,Z,Z,Z,Z,Z,Z,Z,Z,Z,Z,Z,Z,Z,Z,Z,Z,Z,Z,Z,Z,Z,Z,Z,Z,Z,Z,Z,Z,Z,Z,Z,Z,Z,Z,Z,Z,Z] rfl rfl (one_of HT_.out (by kernel_rfl)) (by decide) (fun K hK => ?_)
             refine goes_ Try.func33 (by kernel_rfl) rfl #[.agg #[.slice A200_0 ((rd_T45 l0 x7_1).f0.f0).length c200_0], .int .i64 t202] (by rfl) rfl rfl mB ?_
             with_reducible refine (impl_isRowOf.calls _ _ ((rd_T45 l0 x7_1).f0.f0) t202 true _ ?side1 ?side2 A9.out).mono ?_
             (case side1 => repeat (first | exact (Kd.C_below HR200_0.out bG) | (with_reducible refine Kd.C_alloc ?_ _) | (with_reducible refine Kd.C_drewN ?_ _) | (with_reducible refine Kd.C_drew ?_)))
             (case side2 => exact HC200_0.out)
             rintro e w31 ⟨rfl, hb⟩
             refine ⟨_, rfl, ?_⟩
             have n0_ := xm (blk_below (kB BK201) hb)
             have n1_ := xm (below_step bG hb)
             revert n0_ n1_; clear BK201 HB; intro BK201 HB
             (try clear hb)
             (try clear hb2)
             (try clear hk)
             (try clear hi)
             refine hK.out _ _ ⟨(xc BK201.out 0).trans rfl, (xc BK201.out 1).trans rfl, (xc BK201.out 2).trans rfl⟩ (fun hHeld => nC ?_)
             clear hK K
             refine pu 5 44 63 ?_
             refine pu 6 44 127 ?_
             refine pu 7 44 255 ?_
             refine tx 8 44 511 rfl rfl (take_ofW HT_.out HW_.out (by kernel_rfl)) hHeld (by rintro w' ⟨s0, s1, s2⟩; go_simp; with_reducible rfl) ?_
             refine one_ (i := 9) (N := some 21) #[Y,Y,Y,Y,Y,Y,Y,Y,Y,Y,Z,Z,Z,Z,Z,Z,Z,Z,Z,Z,Z,Z,Z,Z,Z,Z,Z,Z,Z,Z,Z,Z,Z,Z,Z,Z,Z,Z,Z,Z,Z,Z,Z,Z] rfl rfl (one_of HT_.out (by kernel_rfl)) (by decide) (fun K hK => ?_)
             refine goes_ Try.func34 (by kernel_rfl) rfl #[.int .i64 ((rd_T45 l0 x7_1).f1)] (by rfl) rfl rfl mB ?_
             with_reducible refine (impl_isSum.calls ((rd_T45 l0 x7_1).f1) true _ A11.out).mono ?_
             rintro e w' ⟨rfl, ⟨nd, rfl⟩⟩
             refine ⟨_, rfl, ?_⟩
             refine hK.out _ _ ⟨(xc BK201.out 0).trans rfl, (xc BK201.out 1).trans rfl, (xc BK201.out 2).trans rfl⟩ (fun hHeld => nC ?_)
             clear hK K
             refine pu 10 44 2047 ?_
             refine pu 11 44 4095 ?_
             refine pu 12 44 8191 ?_
             refine pu 13 44 16383 ?_
             refine tx 14 44 32767 rfl rfl (take_ofW HT_.out HW_.out (by kernel_rfl)) hHeld (by rintro w' ⟨s0, s1, s2⟩; go_simp; with_reducible rfl) ?_
             refine one_ (i := 15) (N := some 27) #[Y,Y,Y,Y,Y,Y,Y,Y,Y,Y,Y,Y,Y,Y,Y,Y,Z,Z,Z,Z,Z,Z,Z,Z,Z,Z,Z,Z,Z,Z,Z,Z,Z,Z,Z,Z,Z,Z,Z,Z,Z,Z,Z,Z] rfl rfl (one_of HT_.out (by kernel_rfl)) (by decide) (fun K hK => ?_)
             refine goes_ Try.func34 (by kernel_rfl) rfl #[.int .i64 ((rd_T45 l0 x7_1).f2)] (by rfl) rfl rfl mB ?_
             with_reducible refine (impl_isSum.calls ((rd_T45 l0 x7_1).f2) true _ A13.out).mono ?_
             rintro e w' ⟨rfl, ⟨nd, rfl⟩⟩
             refine ⟨_, rfl, ?_⟩
             refine hK.out _ _ ⟨(xc BK201.out 0).trans rfl, (xc BK201.out 1).trans rfl, (xc BK201.out 2).trans rfl⟩ (fun hHeld => nC ?_)
             clear hK K
             refine pu 16 44 131071 ?_
             refine pu 17 44 262143 ?_
             refine pu 18 44 524287 ?_
             refine pu 19 44 1048575 ?_
             refine tx 20 44 2097151 rfl rfl (take_ofW HT_.out HW_.out (by kernel_rfl)) hHeld (by rintro w' ⟨s0, s1, s2⟩; go_simp; with_reducible rfl) ?_
             refine pu 21 44 4194303 ?_
             refine pu 22 44 8388607 ?_
             refine pu 23 44 16777215 ?_
             refine tx 24 44 33554431 rfl rfl (take_ofW HT_.out HW_.out (by kernel_rfl)) hHeld (by rintro w' ⟨s0, s1, s2⟩; go_simp; with_reducible rfl) ?_
             refine pu 25 44 67108863 ?_
             refine pu 26 44 134217727 ?_
             refine pu 27 44 268435455 ?_
             refine pu 28 44 536870911 ?_
             refine pu 29 44 1073741823 ?_
             refine pu 30 44 2147483647 ?_
             refine pu 31 44 4294967295 ?_
             refine ou 32 44 8589934591 ?_
             refine ou 33 44 17179869183 ?_
             refine ou 34 44 34359738367 ?_
             refine ou 35 44 68719476735 ?_
             refine ou 36 44 137438953471 ?_
             refine ou 37 44 274877906943 ?_
             refine ou 38 44 549755813887 ?_
             refine ou 39 44 1099511627775 ?_
             refine ou 40 44 2199023255551 ?_
             refine ou 41 44 4398046511103 ?_
             refine pu 42 44 8796093022207 ?_
             refine pu 43 44 17592186044415 ?_
             refine done_ (done_of HT_.out (by kernel_rfl)) ?_
             try go_wp2
             go_meet
             case rel => exact ⟨_, (false), (by first | rfl | (simp; done) | (simp [*]; done)), H', ⟨by have := HK1.out; first | omega | exact Nat.le_refl _⟩, ⟨by (with_reducible repeat (first | refine xq ?_ _ | refine xr ?_ | refine xo ?_ _)); exact BK201.out⟩, ⟨by repeat (first | (with_reducible first | exact HB.out | apply xa | apply xn | apply xd | refine xt ?_ GE201.out) | exact HB.out)⟩⟩
          ·rw [if_neg c15] at H
           have c15b0 : (((rd_T45 l0 x7_1).f1) == 0) = false := beq_eq_false_iff_ne.mpr c15
           have c15b1 : (((rd_T45 l0 x7_1).f1) != 0) = true := bne_iff_ne.mpr c15
           (first | rw [c15b0] | (simp only [i64_w, i32_w]; rw [c15b0]) | skip)
           by_cases c32 : x7_1 > 0
           ·rw [if_pos c32] at H
            have c32b0 : decide (0 < x7_1) = true := decide_eq_true c32
            clear c32
            obtain ⟨ji33, hji33⟩ : ∃ j_ : Int, (wrap64 (x7_1 - 1)) = j_ := ⟨_, rfl⟩
            replace H : (if 0 ≤ (ji33) then (if (ji33) < (l0.length : Int) then ((impl_compareRows.f k1 ((rd_T45 l0 (ji33)).f0.f0) ((rd_T45 l0 x7_1).f0.f0)).bind fun t209 => (impl_GoodGroups.j1 k1 l0 l0 (l0.length : Int) x7_1 (decide (t209 ≥ 0)))) else (none)) else (none)) = some r := by first | (rw [hji33] at H; exact H) | (simp only [hji33] at H ⊢; exact H)
            (try rw [hji33] at A8)
            (try rw [hji33] at A9)
            (try rw [hji33] at A11)
            (try rw [hji33] at A13)
            have hji33w : (IntKind.i64.wrap (x7_1 - 1)) = ji33 := (i64_w _).trans hji33
            by_cases c34 : 0 ≤ (ji33)
            ·rw [if_pos c34] at H
             have c34b0 : decide (0 ≤ (ji33)) = true := decide_eq_true c34
             clear c34
             by_cases c35 : (ji33) < (l0.length : Int)
             ·rw [if_pos c35] at H
              have c35b0 : decide ((ji33) < (l0.length : Int)) = true := decide_eq_true c35
              clear c35
              replace H := Option.bind_eq_some_iff.mp H
              obtain ⟨t209, A360, H⟩ := H
              replace H : (impl_GoodGroups.j1 k1 l0 l0 (l0.length : Int) x7_1 (decide (t209 ≥ 0))) = some r := H
              have A36 := xm A360
              clear A360
              have H' := xm H
              clear H
              try go_wp2
              have n0_ : Aside0 ((((w6.setCell ⟨gb201, 0, none⟩ (.slice A200_0 ((rd_T45 l0 x7_1).f0.f0).length c200_0)).setCell ⟨gb201, 1, none⟩ (.int .i64 ((rd_T45 l0 x7_1).f1))).setCell ⟨gb201, 2, none⟩ (.int .i64 ((rd_T45 l0 x7_1).f2))).heap[gb201]? = some (.cells #[.slice A200_0 ((rd_T45 l0 x7_1).f0.f0).length c200_0, .int .i64 ((rd_T45 l0 x7_1).f1), .int .i64 ((rd_T45 l0 x7_1).f2)] 45 (0, 0))) := ⟨by (with_reducible repeat (first | refine xq ?_ _ | refine xr ?_ | refine xo ?_ _)); refine blk_put (cs := #[.slice A200_0 ((rd_T45 l0 x7_1).f0.f0).length c200_0, .int .i64 ((rd_T45 l0 x7_1).f1), .int .i64 0]) ?_ 2 _ rfl; (with_reducible repeat (first | refine xq ?_ _ | refine xr ?_ | refine xo ?_ _)); refine blk_put (cs := #[.slice A200_0 ((rd_T45 l0 x7_1).f0.f0).length c200_0, .int .i64 0, .int .i64 0]) ?_ 1 _ rfl; (with_reducible repeat (first | refine xq ?_ _ | refine xr ?_ | refine xo ?_ _)); refine blk_put (cs := #[.slice none 0 0, .int .i64 0, .int .i64 0]) ?_ 0 _ rfl; (with_reducible repeat (first | refine xq ?_ _ | refine xr ?_ | refine xo ?_ _)); exact BK201.out⟩
              have n1_ : Aside0 (Below w.heap.size w (((w6.setCell ⟨gb201, 0, none⟩ (.slice A200_0 ((rd_T45 l0 x7_1).f0.f0).length c200_0)).setCell ⟨gb201, 1, none⟩ (.int .i64 ((rd_T45 l0 x7_1).f1))).setCell ⟨gb201, 2, none⟩ (.int .i64 ((rd_T45 l0 x7_1).f2)))) := ⟨by repeat (first | (with_reducible first | exact HB.out | apply xa | apply xn | apply xd | refine xt ?_ GE201.out) | exact HB.out)⟩
              (try clear BK201)
              (try clear HB)
              generalize (((w6.setCell ⟨gb201, 0, none⟩ (.slice A200_0 ((rd_T45 l0 x7_1).f0.f0).length c200_0)).setCell ⟨gb201, 1, none⟩ (.int .i64 ((rd_T45 l0 x7_1).f1))).setCell ⟨gb201, 2, none⟩ (.int .i64 ((rd_T45 l0 x7_1).f2))) = w37 at n0_ n1_ ⊢
              revert n0_ n1_; intro BK201 HB
              have n0_ := xm (xr BK201.out)
              have n1_ := xm (xd HB.out)
              revert n0_ n1_; clear BK201 HB; intro BK201 HB
              have p208 : 0 ≤ ((ji33) : Int) := of_decide_eq_true aB
              have q208 : (ji33) < (l0.length : Int) := of_decide_eq_true aB
              obtain ⟨ad208, A208_0, c208_0, e208, hx208_0, hx208_1, hx208_2, hl208_0, hi208_0⟩ := at_T45 HR0.out (ji33) p208 q208
              have hw208_2 := hx208_2
              have hw208_1 := hx208_1
              have hw208_0 := hx208_0
              obtain rfl : ad200 = ad208 := (by injection e208)
              replace hx208_0 := (HB.out.cell (World.block_lt_of_cell? w _ hx208_0)).trans hx208_0
              replace hx208_1 := (HB.out.cell (World.block_lt_of_cell? w _ hx208_1)).trans hx208_1
              replace hx208_2 := (HB.out.cell (World.block_lt_of_cell? w _ hx208_2)).trans hx208_2
              have HR208_0 := xm hi208_0
              have HC208_0 := xm hl208_0
              clear hi208_0 hl208_0
              replace p208 := eq_true p208
              replace q208 := eq_true q208
              refine start_ (n := 44) (S := fun w' => w'.cell? ⟨gb201, 0, none⟩ = some (.slice A200_0 ((rd_T45 l0 x7_1).f0.f0).length c200_0) ∧ w'.cell? ⟨gb201, 1, none⟩ = some (.int .i64 ((rd_T45 l0 x7_1).f1)) ∧ w'.cell? ⟨gb201, 2, none⟩ = some (.int .i64 ((rd_T45 l0 x7_1).f2)) ∧ w'.cell? (ad200.add (((ji33)).toNat * 3)) = some (.slice A208_0 ((rd_T45 l0 (ji33)).f0.f0).length c208_0) ∧ w'.cell? ⟨(ad200.add (((ji33)).toNat * 3)).block, (ad200.add (((ji33)).toNat * 3)).off + 1, none⟩ = some (.int .i64 ((rd_T45 l0 (ji33)).f1)) ∧ w'.cell? ⟨(ad200.add (((ji33)).toNat * 3)).block, (ad200.add (((ji33)).toNat * 3)).off + 2, none⟩ = some (.int .i64 ((rd_T45 l0 (ji33)).f2))) (ds := []) #[Z,Z,Z,Z,Z,Z,Z,Z,Z,Z,Z,Z,Z,Z,Z,Z,Z,Z,Z,Z,Z,Z,Z,Z,Z,Z,Z,Z,Z,Z,Z,Z,Z,Z,Z,Z,Z,Z,Z,Z,Z,Z,Z,Z] (by kernel_rfl) rfl rfl ⟨(xc BK201.out 0).trans rfl, (xc BK201.out 1).trans rfl, (xc BK201.out 2).trans rfl, ((HB.out.cell (World.block_lt_of_cell? w _ hw208_0)).trans hw208_0), ((HB.out.cell (World.block_lt_of_cell? w _ hw208_1)).trans hw208_1), ((HB.out.cell (World.block_lt_of_cell? w _ hw208_2)).trans hw208_2)⟩ (fun hHeld => ?_); refine with_tabW impl_GoodGroups.tab4 impl_GoodGroups.bits4 (fun HT_ HW_ => ?_)
              generalize w37.drew = w38 at BK201 HB HR208_0 hx208_0 hx208_1 hx208_2 hHeld ⊢
              refine pu 0 44 1 ?_
              refine pu 2 44 5 ?_
              refine tx 1 44 7 rfl rfl (take_ofW HT_.out HW_.out (by kernel_rfl)) hHeld (by rintro w' ⟨s0, s1, s2, s3, s4, s5⟩; go_simp; with_reducible rfl) ?_
              refine one_ (i := 3) (N := some 15) #[Y,Y,Y,Y,Z,Z,Z,Z,Z,Z,Z,Z,Z,Z,Z,Z,Z,Z,Z,Z,Z,Z,Z,Z,Z,Z,Z,Z,Z,Z,Z,Z,Z,Z,Z,Z,Z,Z,Z,Z,Z,Z,Z,Z] rfl rfl (one_of HT_.out (by kernel_rfl)) (by decide) (fun K hK => ?_)
              refine goes_ Try.func18 (by kernel_rfl) rfl #[.slice (some ad200) l0.length c0] (by rfl) rfl rfl mB ?_
              with_reducible refine (impl_keyLength.calls _ _ l0 t202 _ ?side1 ?side2 A8.out).mono ?_
              (case side1 => exact cB (Kd.C_below HR0.out HB.out))
              (case side2 => exact HC0.out)
              rintro e w' ⟨rfl, ⟨nd, rfl⟩⟩
              refine ⟨_, rfl, ?_⟩
              refine hK.out _ _ ⟨(xc BK201.out 0).trans rfl, (xc BK201.out 1).trans rfl, (xc BK201.out 2).trans rfl, ((HB.out.cell (World.block_lt_of_cell? w _ hw208_0)).trans hw208_0), ((HB.out.cell (World.block_lt_of_cell? w _ hw208_1)).trans hw208_1), ((HB.out.cell (World.block_lt_of_cell? w _ hw208_2)).trans hw208_2)⟩ (fun hHeld => nC ?_)
              clear hK K
              refine one_ (i := 4) (N := some 16) #[Y,Y,Y,Y,Y,Z,Z,Z,Z,Z,Z,Z,Z,Z,Z,Z,Z,Z,Z,Z,Z,Z,Z,Z,Z,Z,Z,Z,Z,Z,Z,Z,Z,Z,Z,Z,Z,Z,Z,Z,Z,Z,Z,Z] rfl rfl (one_of HT_.out (by kernel_rfl)) (by decide) (fun K hK => ?_)
              refine goes_ Try.func33 (by kernel_rfl) rfl #[.agg #[.slice A200_0 ((rd_T45 l0 x7_1).f0.f0).length c200_0], .int .i64 t202] (by rfl) rfl rfl mB ?_
              with_reducible refine (impl_isRowOf.calls _ _ ((rd_T45 l0 x7_1).f0.f0) t202 true _ ?side1 ?side2 A9.out).mono ?_
              (case side1 => repeat (first | exact (Kd.C_below HR200_0.out bG) | (with_reducible refine Kd.C_alloc ?_ _) | (with_reducible refine Kd.C_drewN ?_ _) | (with_reducible refine Kd.C_drew ?_)))
              (case side2 => exact HC200_0.out)
              rintro e w39 ⟨rfl, hb⟩
              refine ⟨_, rfl, ?_⟩
              have n0_ := xm (blk_below (kB BK201) hb)
              have n1_ := xm (below_step bG hb)
              revert n0_ n1_; clear BK201 HB; intro BK201 HB
              (try clear hb)
              (try clear hb2)
              (try clear hk)
              (try clear hi)
              refine hK.out _ _ ⟨(xc BK201.out 0).trans rfl, (xc BK201.out 1).trans rfl, (xc BK201.out 2).trans rfl, ((HB.out.cell (World.block_lt_of_cell? w _ hw208_0)).trans hw208_0), ((HB.out.cell (World.block_lt_of_cell? w _ hw208_1)).trans hw208_1), ((HB.out.cell (World.block_lt_of_cell? w _ hw208_2)).trans hw208_2)⟩ (fun hHeld => nC ?_)
              clear hK K
              refine pu 5 44 63 ?_
              refine pu 6 44 127 ?_
              refine pu 7 44 255 ?_
              refine tx 8 44 511 rfl rfl (take_ofW HT_.out HW_.out (by kernel_rfl)) hHeld (by rintro w' ⟨s0, s1, s2, s3, s4, s5⟩; go_simp; with_reducible rfl) ?_
              refine one_ (i := 9) (N := some 21) #[Y,Y,Y,Y,Y,Y,Y,Y,Y,Y,Z,Z,Z,Z,Z,Z,Z,Z,Z,Z,Z,Z,Z,Z,Z,Z,Z,Z,Z,Z,Z,Z,Z,Z,Z,Z,Z,Z,Z,Z,Z,Z,Z,Z] rfl rfl (one_of HT_.out (by kernel_rfl)) (by decide) (fun K hK => ?_)
              refine goes_ Try.func34 (by kernel_rfl) rfl #[.int .i64 ((rd_T45 l0 x7_1).f1)] (by rfl) rfl rfl mB ?_
              with_reducible refine (impl_isSum.calls ((rd_T45 l0 x7_1).f1) true _ A11.out).mono ?_
              rintro e w' ⟨rfl, ⟨nd, rfl⟩⟩
              refine ⟨_, rfl, ?_⟩
              refine hK.out _ _ ⟨(xc BK201.out 0).trans rfl, (xc BK201.out 1).trans rfl, (xc BK201.out 2).trans rfl, ((HB.out.cell (World.block_lt_of_cell? w _ hw208_0)).trans hw208_0), ((HB.out.cell (World.block_lt_of_cell? w _ hw208_1)).trans hw208_1), ((HB.out.cell (World.block_lt_of_cell? w _ hw208_2)).trans hw208_2)⟩ (fun hHeld => nC ?_)
              clear hK K
              refine pu 10 44 2047 ?_
              refine pu 11 44 4095 ?_
              refine pu 12 44 8191 ?_
              refine pu 13 44 16383 ?_
              refine tx 14 44 32767 rfl rfl (take_ofW HT_.out HW_.out (by kernel_rfl)) hHeld (by rintro w' ⟨s0, s1, s2, s3, s4, s5⟩; go_simp; with_reducible rfl) ?_
              refine one_ (i := 15) (N := some 27) #[Y,Y,Y,Y,Y,Y,Y,Y,Y,Y,Y,Y,Y,Y,Y,Y,Z,Z,Z,Z,Z,Z,Z,Z,Z,Z,Z,Z,Z,Z,Z,Z,Z,Z,Z,Z,Z,Z,Z,Z,Z,Z,Z,Z] rfl rfl (one_of HT_.out (by kernel_rfl)) (by decide) (fun K hK => ?_)
              refine goes_ Try.func34 (by kernel_rfl) rfl #[.int .i64 ((rd_T45 l0 x7_1).f2)] (by rfl) rfl rfl mB ?_
              with_reducible refine (impl_isSum.calls ((rd_T45 l0 x7_1).f2) true _ A13.out).mono ?_
              rintro e w' ⟨rfl, ⟨nd, rfl⟩⟩
              refine ⟨_, rfl, ?_⟩
              refine hK.out _ _ ⟨(xc BK201.out 0).trans rfl, (xc BK201.out 1).trans rfl, (xc BK201.out 2).trans rfl, ((HB.out.cell (World.block_lt_of_cell? w _ hw208_0)).trans hw208_0), ((HB.out.cell (World.block_lt_of_cell? w _ hw208_1)).trans hw208_1), ((HB.out.cell (World.block_lt_of_cell? w _ hw208_2)).trans hw208_2)⟩ (fun hHeld => nC ?_)
              clear hK K
              refine pu 16 44 131071 ?_
              refine pu 17 44 262143 ?_
              refine pu 18 44 524287 ?_
              refine pu 19 44 1048575 ?_
              refine tx 20 44 2097151 rfl rfl (take_ofW HT_.out HW_.out (by kernel_rfl)) hHeld (by rintro w' ⟨s0, s1, s2, s3, s4, s5⟩; go_simp; with_reducible rfl) ?_
              refine pu 21 44 4194303 ?_
              refine pu 22 44 8388607 ?_
              refine ou 23 44 16777215 ?_
              refine ou 24 44 33554431 ?_
              refine ou 25 44 67108863 ?_
              refine pu 26 44 134217727 ?_
              refine pu 27 44 268435455 ?_
              refine pu 28 44 536870911 ?_
              refine pu 29 44 1073741823 ?_
              refine pu 30 44 2147483647 ?_
              refine pu 31 44 4294967295 ?_
              refine pu 32 44 8589934591 ?_
              refine pu 33 44 17179869183 ?_
              refine pu 34 44 34359738367 ?_
              refine pu 35 44 68719476735 ?_
              refine pu 36 44 137438953471 ?_
              refine pu 38 44 412316860415 ?_
              refine tx 37 44 549755813887 rfl rfl (take_ofW HT_.out HW_.out (by kernel_rfl)) hHeld (by rintro w' ⟨s0, s1, s2, s3, s4, s5⟩; go_simp; with_reducible rfl) ?_
              refine tx 39 44 1099511627775 rfl rfl (take_ofW HT_.out HW_.out (by kernel_rfl)) hHeld (by rintro w' ⟨s0, s1, s2, s3, s4, s5⟩; go_simp; with_reducible rfl) ?_
              refine one_ (i := 40) (N := some 52) #[Y,Y,Y,Y,Y,Y,Y,Y,Y,Y,Y,Y,Y,Y,Y,Y,Y,Y,Y,Y,Y,Y,Y,Y,Y,Y,Y,Y,Y,Y,Y,Y,Y,Y,Y,Y,Y,Y,Y,Y,Y,Z,Z,Z] rfl rfl (one_of HT_.out (by kernel_rfl)) (by decide) (fun K hK => ?_)
              refine goes_ Try.func35 (by kernel_rfl) rfl #[.agg #[.slice A208_0 ((rd_T45 l0 (ji33)).f0.f0).length c208_0], .agg #[.slice A200_0 ((rd_T45 l0 x7_1).f0.f0).length c200_0]] (by rfl) rfl rfl (by (try simp only [List.map_toArray, List.map_cons, List.map_nil]); first | done | (simp only [hji33]; rfl) | rfl | (simp only [List.length_drop, List.length_take]; rfl)) ?_
              with_reducible refine (impl_compareRows.calls k1 _ _ ((rd_T45 l0 (ji33)).f0.f0) _ _ ((rd_T45 l0 x7_1).f0.f0) t209 _ ?side1 ?side2 ?side3 ?side4 A36.out).mono ?_
              (case side1 => repeat (first | exact (Kd.C_below HR208_0.out bG) | (with_reducible refine Kd.C_alloc ?_ _) | (with_reducible refine Kd.C_drewN ?_ _) | (with_reducible refine Kd.C_drew ?_)))
              (case side2 => exact HC208_0.out)
              (case side3 => repeat (first | exact (Kd.C_below HR200_0.out bG) | (with_reducible refine Kd.C_alloc ?_ _) | (with_reducible refine Kd.C_drewN ?_ _) | (with_reducible refine Kd.C_drew ?_)))
              (case side4 => exact HC200_0.out)
              rintro e w40 ⟨rfl, hb⟩
              refine ⟨_, rfl, ?_⟩
              have n0_ := xm (blk_below (kB BK201) hb)
              have n1_ := xm (below_step bG hb)
              revert n0_ n1_; clear BK201 HB; intro BK201 HB
              (try clear hb)
              (try clear hb2)
              (try clear hk)
              (try clear hi)
              refine hK.out _ _ ⟨(xc BK201.out 0).trans rfl, (xc BK201.out 1).trans rfl, (xc BK201.out 2).trans rfl, ((HB.out.cell (World.block_lt_of_cell? w _ hw208_0)).trans hw208_0), ((HB.out.cell (World.block_lt_of_cell? w _ hw208_1)).trans hw208_1), ((HB.out.cell (World.block_lt_of_cell? w _ hw208_2)).trans hw208_2)⟩ (fun hHeld => nC ?_)
              clear hK K
              refine pu 41 44 4398046511103 ?_
              refine pu 42 44 8796093022207 ?_
              refine pu 43 44 17592186044415 ?_
              refine done_ (done_of HT_.out (by kernel_rfl)) ?_
              try go_wp2
              go_meet
              case rel => exact ⟨_, (decide (t209 ≥ 0)), (by first | rfl | (simp; done) | (simp [*]; done)), H', ⟨by have := HK1.out; first | omega | exact Nat.le_refl _⟩, ⟨by (with_reducible repeat (first | refine xq ?_ _ | refine xr ?_ | refine xo ?_ _)); exact BK201.out⟩, ⟨by repeat (first | (with_reducible first | exact HB.out | apply xa | apply xn | apply xd | refine xt ?_ GE201.out) | exact HB.out)⟩⟩
             ·rw [if_neg c35] at H
              exact absurd H (by simp)
            ·rw [if_neg c34] at H
             exact absurd H (by simp)
           ·rw [if_neg c32] at H
            have c32b0 : decide (0 < x7_1) = false := decide_eq_false c32
            clear c32
            have H' := xm H
            clear H
            try go_wp2
            have n0_ : Aside0 ((((w6.setCell ⟨gb201, 0, none⟩ (.slice A200_0 ((rd_T45 l0 x7_1).f0.f0).length c200_0)).setCell ⟨gb201, 1, none⟩ (.int .i64 ((rd_T45 l0 x7_1).f1))).setCell ⟨gb201, 2, none⟩ (.int .i64 ((rd_T45 l0 x7_1).f2))).heap[gb201]? = some (.cells #[.slice A200_0 ((rd_T45 l0 x7_1).f0.f0).length c200_0, .int .i64 ((rd_T45 l0 x7_1).f1), .int .i64 ((rd_T45 l0 x7_1).f2)] 45 (0, 0))) := ⟨by (with_reducible repeat (first | refine xq ?_ _ | refine xr ?_ | refine xo ?_ _)); refine blk_put (cs := #[.slice A200_0 ((rd_T45 l0 x7_1).f0.f0).length c200_0, .int .i64 ((rd_T45 l0 x7_1).f1), .int .i64 0]) ?_ 2 _ rfl; (with_reducible repeat (first | refine xq ?_ _ | refine xr ?_ | refine xo ?_ _)); refine blk_put (cs := #[.slice A200_0 ((rd_T45 l0 x7_1).f0.f0).length c200_0, .int .i64 0, .int .i64 0]) ?_ 1 _ rfl; (with_reducible repeat (first | refine xq ?_ _ | refine xr ?_ | refine xo ?_ _)); refine blk_put (cs := #[.slice none 0 0, .int .i64 0, .int .i64 0]) ?_ 0 _ rfl; (with_reducible repeat (first | refine xq ?_ _ | refine xr ?_ | refine xo ?_ _)); exact BK201.out⟩
            have n1_ : Aside0 (Below w.heap.size w (((w6.setCell ⟨gb201, 0, none⟩ (.slice A200_0 ((rd_T45 l0 x7_1).f0.f0).length c200_0)).setCell ⟨gb201, 1, none⟩ (.int .i64 ((rd_T45 l0 x7_1).f1))).setCell ⟨gb201, 2, none⟩ (.int .i64 ((rd_T45 l0 x7_1).f2)))) := ⟨by repeat (first | (with_reducible first | exact HB.out | apply xa | apply xn | apply xd | refine xt ?_ GE201.out) | exact HB.out)⟩
            (try clear BK201)
            (try clear HB)
            generalize (((w6.setCell ⟨gb201, 0, none⟩ (.slice A200_0 ((rd_T45 l0 x7_1).f0.f0).length c200_0)).setCell ⟨gb201, 1, none⟩ (.int .i64 ((rd_T45 l0 x7_1).f1))).setCell ⟨gb201, 2, none⟩ (.int .i64 ((rd_T45 l0 x7_1).f2))) = w41 at n0_ n1_ ⊢
            revert n0_ n1_; intro BK201 HB
            have n0_ := xm (xr BK201.out)
            have n1_ := xm (xd HB.out)
            revert n0_ n1_; clear BK201 HB; intro BK201 HB
            refine start_ (n := 44) (S := fun w' => w'.cell? ⟨gb201, 0, none⟩ = some (.slice A200_0 ((rd_T45 l0 x7_1).f0.f0).length c200_0) ∧ w'.cell? ⟨gb201, 1, none⟩ = some (.int .i64 ((rd_T45 l0 x7_1).f1)) ∧ w'.cell? ⟨gb201, 2, none⟩ = some (.int .i64 ((rd_T45 l0 x7_1).f2))) (ds := []) #[Z,Z,Z,Z,Z,Z,Z,Z,Z,Z,Z,Z,Z,Z,Z,Z,Z,Z,Z,Z,Z,Z,Z,Z,Z,Z,Z,Z,Z,Z,Z,Z,Z,Z,Z,Z,Z,Z,Z,Z,Z,Z,Z,Z] (by kernel_rfl) rfl rfl ⟨(xc BK201.out 0).trans rfl, (xc BK201.out 1).trans rfl, (xc BK201.out 2).trans rfl⟩ (fun hHeld => ?_); refine with_tabW impl_GoodGroups.tab4 impl_GoodGroups.bits4 (fun HT_ HW_ => ?_)
            generalize w41.drew = w42 at BK201 HB hHeld ⊢
            refine pu 0 44 1 ?_
            refine pu 2 44 5 ?_
            refine tx 1 44 7 rfl rfl (take_ofW HT_.out HW_.out (by kernel_rfl)) hHeld (by rintro w' ⟨s0, s1, s2⟩; go_simp; with_reducible rfl) ?_
            refine one_ (i := 3) (N := some 15) #[Y,Y,Y,Y,Z,Z,Z,Z,Z,Z,Z,Z,Z,Z,Z,Z,Z,Z,Z,Z,Z,Z,Z,Z,Z,Z,Z,Z,Z,Z,Z,Z,Z,Z,Z,Z,Z,Z,Z,Z,Z,Z,Z,Z] rfl rfl (one_of HT_.out (by kernel_rfl)) (by decide) (fun K hK => ?_)
            refine goes_ Try.func18 (by kernel_rfl) rfl #[.slice (some ad200) l0.length c0] (by rfl) rfl rfl mB ?_
            with_reducible refine (impl_keyLength.calls _ _ l0 t202 _ ?side1 ?side2 A8.out).mono ?_
            (case side1 => exact cB (Kd.C_below HR0.out HB.out))
            (case side2 => exact HC0.out)
            rintro e w' ⟨rfl, ⟨nd, rfl⟩⟩
            refine ⟨_, rfl, ?_⟩
            refine hK.out _ _ ⟨(xc BK201.out 0).trans rfl, (xc BK201.out 1).trans rfl, (xc BK201.out 2).trans rfl⟩ (fun hHeld => nC ?_)
            clear hK K
            refine one_ (i := 4) (N := some 16) #[Y,Y,Y,Y,Y,Z,Z,Z,Z,Z,Z,Z,Z,Z,Z,Z,Z,Z,Z,Z,Z,Z,Z,Z,Z,Z,Z,Z,Z,Z,Z,Z,Z,Z,Z,Z,Z,Z,Z,Z,Z,Z,Z,Z] rfl rfl (one_of HT_.out (by kernel_rfl)) (by decide) (fun K hK => ?_)
            refine goes_ Try.func33 (by kernel_rfl) rfl #[.agg #[.slice A200_0 ((rd_T45 l0 x7_1).f0.f0).length c200_0], .int .i64 t202] (by rfl) rfl rfl mB ?_
            with_reducible refine (impl_isRowOf.calls _ _ ((rd_T45 l0 x7_1).f0.f0) t202 true _ ?side1 ?side2 A9.out).mono ?_
            (case side1 => repeat (first | exact (Kd.C_below HR200_0.out bG) | (with_reducible refine Kd.C_alloc ?_ _) | (with_reducible refine Kd.C_drewN ?_ _) | (with_reducible refine Kd.C_drew ?_)))
            (case side2 => exact HC200_0.out)
            rintro e w43 ⟨rfl, hb⟩
            refine ⟨_, rfl, ?_⟩
            have n0_ := xm (blk_below (kB BK201) hb)
            have n1_ := xm (below_step bG hb)
            revert n0_ n1_; clear BK201 HB; intro BK201 HB
            (try clear hb)
            (try clear hb2)
            (try clear hk)
            (try clear hi)
            refine hK.out _ _ ⟨(xc BK201.out 0).trans rfl, (xc BK201.out 1).trans rfl, (xc BK201.out 2).trans rfl⟩ (fun hHeld => nC ?_)
            clear hK K
            refine pu 5 44 63 ?_
            refine pu 6 44 127 ?_
            refine pu 7 44 255 ?_
            refine tx 8 44 511 rfl rfl (take_ofW HT_.out HW_.out (by kernel_rfl)) hHeld (by rintro w' ⟨s0, s1, s2⟩; go_simp; with_reducible rfl) ?_
            refine one_ (i := 9) (N := some 21) #[Y,Y,Y,Y,Y,Y,Y,Y,Y,Y,Z,Z,Z,Z,Z,Z,Z,Z,Z,Z,Z,Z,Z,Z,Z,Z,Z,Z,Z,Z,Z,Z,Z,Z,Z,Z,Z,Z,Z,Z,Z,Z,Z,Z] rfl rfl (one_of HT_.out (by kernel_rfl)) (by decide) (fun K hK => ?_)
            refine goes_ Try.func34 (by kernel_rfl) rfl #[.int .i64 ((rd_T45 l0 x7_1).f1)] (by rfl) rfl rfl mB ?_
            with_reducible refine (impl_isSum.calls ((rd_T45 l0 x7_1).f1) true _ A11.out).mono ?_
            rintro e w' ⟨rfl, ⟨nd, rfl⟩⟩
            refine ⟨_, rfl, ?_⟩
            refine hK.out _ _ ⟨(xc BK201.out 0).trans rfl, (xc BK201.out 1).trans rfl, (xc BK201.out 2).trans rfl⟩ (fun hHeld => nC ?_)
            clear hK K
            refine pu 10 44 2047 ?_
            refine pu 11 44 4095 ?_
            refine pu 12 44 8191 ?_
            refine pu 13 44 16383 ?_
            refine tx 14 44 32767 rfl rfl (take_ofW HT_.out HW_.out (by kernel_rfl)) hHeld (by rintro w' ⟨s0, s1, s2⟩; go_simp; with_reducible rfl) ?_
            refine one_ (i := 15) (N := some 27) #[Y,Y,Y,Y,Y,Y,Y,Y,Y,Y,Y,Y,Y,Y,Y,Y,Z,Z,Z,Z,Z,Z,Z,Z,Z,Z,Z,Z,Z,Z,Z,Z,Z,Z,Z,Z,Z,Z,Z,Z,Z,Z,Z,Z] rfl rfl (one_of HT_.out (by kernel_rfl)) (by decide) (fun K hK => ?_)
            refine goes_ Try.func34 (by kernel_rfl) rfl #[.int .i64 ((rd_T45 l0 x7_1).f2)] (by rfl) rfl rfl mB ?_
            with_reducible refine (impl_isSum.calls ((rd_T45 l0 x7_1).f2) true _ A13.out).mono ?_
            rintro e w' ⟨rfl, ⟨nd, rfl⟩⟩
            refine ⟨_, rfl, ?_⟩
            refine hK.out _ _ ⟨(xc BK201.out 0).trans rfl, (xc BK201.out 1).trans rfl, (xc BK201.out 2).trans rfl⟩ (fun hHeld => nC ?_)
            clear hK K
            refine pu 16 44 131071 ?_
            refine pu 17 44 262143 ?_
            refine pu 18 44 524287 ?_
            refine pu 19 44 1048575 ?_
            refine tx 20 44 2097151 rfl rfl (take_ofW HT_.out HW_.out (by kernel_rfl)) hHeld (by rintro w' ⟨s0, s1, s2⟩; go_simp; with_reducible rfl) ?_
            refine pu 21 44 4194303 ?_
            refine pu 22 44 8388607 ?_
            refine ou 23 44 16777215 ?_
            refine ou 24 44 33554431 ?_
            refine ou 25 44 67108863 ?_
            refine pu 26 44 134217727 ?_
            refine pu 27 44 268435455 ?_
            refine pu 28 44 536870911 ?_
            refine pu 29 44 1073741823 ?_
            refine pu 30 44 2147483647 ?_
            refine pu 31 44 4294967295 ?_
            refine ou 32 44 8589934591 ?_
            refine ou 33 44 17179869183 ?_
            refine ou 34 44 34359738367 ?_
            refine ou 35 44 68719476735 ?_
            refine ou 36 44 137438953471 ?_
            refine ou 37 44 274877906943 ?_
            refine ou 38 44 549755813887 ?_
            refine ou 39 44 1099511627775 ?_
            refine ou 40 44 2199023255551 ?_
            refine ou 41 44 4398046511103 ?_
            refine pu 42 44 8796093022207 ?_
            refine pu 43 44 17592186044415 ?_
            refine done_ (done_of HT_.out (by kernel_rfl)) ?_
            try go_wp2
            go_meet
            case rel => exact ⟨_, (false), (by first | rfl | (simp; done) | (simp [*]; done)), H', ⟨by have := HK1.out; first | omega | exact Nat.le_refl _⟩, ⟨by (with_reducible repeat (first | refine xq ?_ _ | refine xr ?_ | refine xo ?_ _)); exact BK201.out⟩, ⟨by repeat (first | (with_reducible first | exact HB.out | apply xa | apply xn | apply xd | refine xt ?_ GE201.out) | exact HB.out)⟩⟩
         ·replace c14 := Bool.eq_false_iff.mpr c14
          subst c14
          have H1 : (impl_GoodGroups.j1 k1 l0 l0 (l0.length : Int) x7_1 true) = some r := by first | (with_reducible rfl) | (rw [if_neg (show ¬ (false = true) by decide)] at H; exact H)
          clear H
          have H := H1
          clear H1
          have H' := xm H
          clear H
          try go_wp2
          have n0_ : Aside0 ((((w6.setCell ⟨gb201, 0, none⟩ (.slice A200_0 ((rd_T45 l0 x7_1).f0.f0).length c200_0)).setCell ⟨gb201, 1, none⟩ (.int .i64 ((rd_T45 l0 x7_1).f1))).setCell ⟨gb201, 2, none⟩ (.int .i64 ((rd_T45 l0 x7_1).f2))).heap[gb201]? = some (.cells #[.slice A200_0 ((rd_T45 l0 x7_1).f0.f0).length c200_0, .int .i64 ((rd_T45 l0 x7_1).f1), .int .i64 ((rd_T45 l0 x7_1).f2)] 45 (0, 0))) := ⟨by (with_reducible repeat (first | refine xq ?_ _ | refine xr ?_ | refine xo ?_ _)); refine blk_put (cs := #[.slice A200_0 ((rd_T45 l0 x7_1).f0.f0).length c200_0, .int .i64 ((rd_T45 l0 x7_1).f1), .int .i64 0]) ?_ 2 _ rfl; (with_reducible repeat (first | refine xq ?_ _ | refine xr ?_ | refine xo ?_ _)); refine blk_put (cs := #[.slice A200_0 ((rd_T45 l0 x7_1).f0.f0).length c200_0, .int .i64 0, .int .i64 0]) ?_ 1 _ rfl; (with_reducible repeat (first | refine xq ?_ _ | refine xr ?_ | refine xo ?_ _)); refine blk_put (cs := #[.slice none 0 0, .int .i64 0, .int .i64 0]) ?_ 0 _ rfl; (with_reducible repeat (first | refine xq ?_ _ | refine xr ?_ | refine xo ?_ _)); exact BK201.out⟩
          have n1_ : Aside0 (Below w.heap.size w (((w6.setCell ⟨gb201, 0, none⟩ (.slice A200_0 ((rd_T45 l0 x7_1).f0.f0).length c200_0)).setCell ⟨gb201, 1, none⟩ (.int .i64 ((rd_T45 l0 x7_1).f1))).setCell ⟨gb201, 2, none⟩ (.int .i64 ((rd_T45 l0 x7_1).f2)))) := ⟨by repeat (first | (with_reducible first | exact HB.out | apply xa | apply xn | apply xd | refine xt ?_ GE201.out) | exact HB.out)⟩
          (try clear BK201)
          (try clear HB)
          generalize (((w6.setCell ⟨gb201, 0, none⟩ (.slice A200_0 ((rd_T45 l0 x7_1).f0.f0).length c200_0)).setCell ⟨gb201, 1, none⟩ (.int .i64 ((rd_T45 l0 x7_1).f1))).setCell ⟨gb201, 2, none⟩ (.int .i64 ((rd_T45 l0 x7_1).f2))) = w44 at n0_ n1_ ⊢
          revert n0_ n1_; intro BK201 HB
          have n0_ := xm (xr BK201.out)
          have n1_ := xm (xd HB.out)
          revert n0_ n1_; clear BK201 HB; intro BK201 HB
          refine start_ (n := 44) (S := fun w' => w'.cell? ⟨gb201, 0, none⟩ = some (.slice A200_0 ((rd_T45 l0 x7_1).f0.f0).length c200_0) ∧ w'.cell? ⟨gb201, 1, none⟩ = some (.int .i64 ((rd_T45 l0 x7_1).f1)) ∧ w'.cell? ⟨gb201, 2, none⟩ = some (.int .i64 ((rd_T45 l0 x7_1).f2))) (ds := []) #[Z,Z,Z,Z,Z,Z,Z,Z,Z,Z,Z,Z,Z,Z,Z,Z,Z,Z,Z,Z,Z,Z,Z,Z,Z,Z,Z,Z,Z,Z,Z,Z,Z,Z,Z,Z,Z,Z,Z,Z,Z,Z,Z,Z] (by kernel_rfl) rfl rfl ⟨(xc BK201.out 0).trans rfl, (xc BK201.out 1).trans rfl, (xc BK201.out 2).trans rfl⟩ (fun hHeld => ?_); refine with_tabW impl_GoodGroups.tab4 impl_GoodGroups.bits4 (fun HT_ HW_ => ?_)
          generalize w44.drew = w45 at BK201 HB hHeld ⊢
          refine pu 0 44 1 ?_
          refine pu 2 44 5 ?_
          refine tx 1 44 7 rfl rfl (take_ofW HT_.out HW_.out (by kernel_rfl)) hHeld (by rintro w' ⟨s0, s1, s2⟩; go_simp; with_reducible rfl) ?_
          refine one_ (i := 3) (N := some 15) #[Y,Y,Y,Y,Z,Z,Z,Z,Z,Z,Z,Z,Z,Z,Z,Z,Z,Z,Z,Z,Z,Z,Z,Z,Z,Z,Z,Z,Z,Z,Z,Z,Z,Z,Z,Z,Z,Z,Z,Z,Z,Z,Z,Z] rfl rfl (one_of HT_.out (by kernel_rfl)) (by decide) (fun K hK => ?_)
          refine goes_ Try.func18 (by kernel_rfl) rfl #[.slice (some ad200) l0.length c0] (by rfl) rfl rfl mB ?_
          with_reducible refine (impl_keyLength.calls _ _ l0 t202 _ ?side1 ?side2 A8.out).mono ?_
          (case side1 => exact cB (Kd.C_below HR0.out HB.out))
          (case side2 => exact HC0.out)
          rintro e w' ⟨rfl, ⟨nd, rfl⟩⟩
          refine ⟨_, rfl, ?_⟩
          refine hK.out _ _ ⟨(xc BK201.out 0).trans rfl, (xc BK201.out 1).trans rfl, (xc BK201.out 2).trans rfl⟩ (fun hHeld => nC ?_)
          clear hK K
          refine one_ (i := 4) (N := some 16) #[Y,Y,Y,Y,Y,Z,Z,Z,Z,Z,Z,Z,Z,Z,Z,Z,Z,Z,Z,Z,Z,Z,Z,Z,Z,Z,Z,Z,Z,Z,Z,Z,Z,Z,Z,Z,Z,Z,Z,Z,Z,Z,Z,Z] rfl rfl (one_of HT_.out (by kernel_rfl)) (by decide) (fun K hK => ?_)
          refine goes_ Try.func33 (by kernel_rfl) rfl #[.agg #[.slice A200_0 ((rd_T45 l0 x7_1).f0.f0).length c200_0], .int .i64 t202] (by rfl) rfl rfl mB ?_
          with_reducible refine (impl_isRowOf.calls _ _ ((rd_T45 l0 x7_1).f0.f0) t202 true _ ?side1 ?side2 A9.out).mono ?_
          (case side1 => repeat (first | exact (Kd.C_below HR200_0.out bG) | (with_reducible refine Kd.C_alloc ?_ _) | (with_reducible refine Kd.C_drewN ?_ _) | (with_reducible refine Kd.C_drew ?_)))
          (case side2 => exact HC200_0.out)
          rintro e w46 ⟨rfl, hb⟩
          refine ⟨_, rfl, ?_⟩
          have n0_ := xm (blk_below (kB BK201) hb)
          have n1_ := xm (below_step bG hb)
          revert n0_ n1_; clear BK201 HB; intro BK201 HB
          (try clear hb)
          (try clear hb2)
          (try clear hk)
          (try clear hi)
          refine hK.out _ _ ⟨(xc BK201.out 0).trans rfl, (xc BK201.out 1).trans rfl, (xc BK201.out 2).trans rfl⟩ (fun hHeld => nC ?_)
          clear hK K
          refine pu 5 44 63 ?_
          refine pu 6 44 127 ?_
          refine pu 7 44 255 ?_
          refine tx 8 44 511 rfl rfl (take_ofW HT_.out HW_.out (by kernel_rfl)) hHeld (by rintro w' ⟨s0, s1, s2⟩; go_simp; with_reducible rfl) ?_
          refine one_ (i := 9) (N := some 21) #[Y,Y,Y,Y,Y,Y,Y,Y,Y,Y,Z,Z,Z,Z,Z,Z,Z,Z,Z,Z,Z,Z,Z,Z,Z,Z,Z,Z,Z,Z,Z,Z,Z,Z,Z,Z,Z,Z,Z,Z,Z,Z,Z,Z] rfl rfl (one_of HT_.out (by kernel_rfl)) (by decide) (fun K hK => ?_)
          refine goes_ Try.func34 (by kernel_rfl) rfl #[.int .i64 ((rd_T45 l0 x7_1).f1)] (by rfl) rfl rfl mB ?_
          with_reducible refine (impl_isSum.calls ((rd_T45 l0 x7_1).f1) true _ A11.out).mono ?_
          rintro e w' ⟨rfl, ⟨nd, rfl⟩⟩
          refine ⟨_, rfl, ?_⟩
          refine hK.out _ _ ⟨(xc BK201.out 0).trans rfl, (xc BK201.out 1).trans rfl, (xc BK201.out 2).trans rfl⟩ (fun hHeld => nC ?_)
          clear hK K
          refine pu 10 44 2047 ?_
          refine pu 11 44 4095 ?_
          refine pu 12 44 8191 ?_
          refine pu 13 44 16383 ?_
          refine tx 14 44 32767 rfl rfl (take_ofW HT_.out HW_.out (by kernel_rfl)) hHeld (by rintro w' ⟨s0, s1, s2⟩; go_simp; with_reducible rfl) ?_
          refine one_ (i := 15) (N := some 27) #[Y,Y,Y,Y,Y,Y,Y,Y,Y,Y,Y,Y,Y,Y,Y,Y,Z,Z,Z,Z,Z,Z,Z,Z,Z,Z,Z,Z,Z,Z,Z,Z,Z,Z,Z,Z,Z,Z,Z,Z,Z,Z,Z,Z] rfl rfl (one_of HT_.out (by kernel_rfl)) (by decide) (fun K hK => ?_)
          refine goes_ Try.func34 (by kernel_rfl) rfl #[.int .i64 ((rd_T45 l0 x7_1).f2)] (by rfl) rfl rfl mB ?_
          with_reducible refine (impl_isSum.calls ((rd_T45 l0 x7_1).f2) false _ A13.out).mono ?_
          rintro e w' ⟨rfl, ⟨nd, rfl⟩⟩
          refine ⟨_, rfl, ?_⟩
          refine hK.out _ _ ⟨(xc BK201.out 0).trans rfl, (xc BK201.out 1).trans rfl, (xc BK201.out 2).trans rfl⟩ (fun hHeld => nC ?_)
          clear hK K
          refine pu 16 44 131071 ?_
          refine pu 17 44 262143 ?_
          refine pu 18 44 524287 ?_
          refine ou 19 44 1048575 ?_
          refine ou 20 44 2097151 ?_
          refine ou 21 44 4194303 ?_
          refine ou 22 44 8388607 ?_
          refine ou 23 44 16777215 ?_
          refine ou 24 44 33554431 ?_
          refine ou 25 44 67108863 ?_
          refine ou 26 44 134217727 ?_
          refine pu 27 44 268435455 ?_
          refine pu 28 44 536870911 ?_
          refine ou 29 44 1073741823 ?_
          refine ou 30 44 2147483647 ?_
          refine ou 31 44 4294967295 ?_
          refine ou 32 44 8589934591 ?_
          refine ou 33 44 17179869183 ?_
          refine ou 34 44 34359738367 ?_
          refine ou 35 44 68719476735 ?_
          refine ou 36 44 137438953471 ?_
          refine ou 37 44 274877906943 ?_
          refine ou 38 44 549755813887 ?_
          refine ou 39 44 1099511627775 ?_
          refine ou 40 44 2199023255551 ?_
          refine ou 41 44 4398046511103 ?_
          refine ou 42 44 8796093022207 ?_
          refine pu 43 44 17592186044415 ?_
          refine done_ (done_of HT_.out (by kernel_rfl)) ?_
          try go_wp2
          go_meet
          case rel => exact ⟨_, (true), (by first | rfl | (simp; done) | (simp [*]; done)), H', ⟨by have := HK1.out; first | omega | exact Nat.le_refl _⟩, ⟨by (with_reducible repeat (first | refine xq ?_ _ | refine xr ?_ | refine xo ?_ _)); exact BK201.out⟩, ⟨by repeat (first | (with_reducible first | exact HB.out | apply xa | apply xn | apply xd | refine xt ?_ GE201.out) | exact HB.out)⟩⟩
        ·replace c12 := Bool.eq_false_iff.mpr c12
         subst c12
         have H1 : (impl_GoodGroups.j1 k1 l0 l0 (l0.length : Int) x7_1 true) = some r := by first | (with_reducible rfl) | (rw [if_neg (show ¬ (false = true) by decide)] at H; exact H)
         clear H
         have H := H1
         clear H1
         have H' := xm H
         clear H
         try go_wp2
         have n0_ : Aside0 ((((w6.setCell ⟨gb201, 0, none⟩ (.slice A200_0 ((rd_T45 l0 x7_1).f0.f0).length c200_0)).setCell ⟨gb201, 1, none⟩ (.int .i64 ((rd_T45 l0 x7_1).f1))).setCell ⟨gb201, 2, none⟩ (.int .i64 ((rd_T45 l0 x7_1).f2))).heap[gb201]? = some (.cells #[.slice A200_0 ((rd_T45 l0 x7_1).f0.f0).length c200_0, .int .i64 ((rd_T45 l0 x7_1).f1), .int .i64 ((rd_T45 l0 x7_1).f2)] 45 (0, 0))) := ⟨by (with_reducible repeat (first | refine xq ?_ _ | refine xr ?_ | refine xo ?_ _)); refine blk_put (cs := #[.slice A200_0 ((rd_T45 l0 x7_1).f0.f0).length c200_0, .int .i64 ((rd_T45 l0 x7_1).f1), .int .i64 0]) ?_ 2 _ rfl; (with_reducible repeat (first | refine xq ?_ _ | refine xr ?_ | refine xo ?_ _)); refine blk_put (cs := #[.slice A200_0 ((rd_T45 l0 x7_1).f0.f0).length c200_0, .int .i64 0, .int .i64 0]) ?_ 1 _ rfl; (with_reducible repeat (first | refine xq ?_ _ | refine xr ?_ | refine xo ?_ _)); refine blk_put (cs := #[.slice none 0 0, .int .i64 0, .int .i64 0]) ?_ 0 _ rfl; (with_reducible repeat (first | refine xq ?_ _ | refine xr ?_ | refine xo ?_ _)); exact BK201.out⟩
         have n1_ : Aside0 (Below w.heap.size w (((w6.setCell ⟨gb201, 0, none⟩ (.slice A200_0 ((rd_T45 l0 x7_1).f0.f0).length c200_0)).setCell ⟨gb201, 1, none⟩ (.int .i64 ((rd_T45 l0 x7_1).f1))).setCell ⟨gb201, 2, none⟩ (.int .i64 ((rd_T45 l0 x7_1).f2)))) := ⟨by repeat (first | (with_reducible first | exact HB.out | apply xa | apply xn | apply xd | refine xt ?_ GE201.out) | exact HB.out)⟩
         (try clear BK201)
         (try clear HB)
         generalize (((w6.setCell ⟨gb201, 0, none⟩ (.slice A200_0 ((rd_T45 l0 x7_1).f0.f0).length c200_0)).setCell ⟨gb201, 1, none⟩ (.int .i64 ((rd_T45 l0 x7_1).f1))).setCell ⟨gb201, 2, none⟩ (.int .i64 ((rd_T45 l0 x7_1).f2))) = w47 at n0_ n1_ ⊢
         revert n0_ n1_; intro BK201 HB
         have n0_ := xm (xr BK201.out)
         have n1_ := xm (xd HB.out)
         revert n0_ n1_; clear BK201 HB; intro BK201 HB
         refine start_ (n := 44) (S := fun w' => w'.cell? ⟨gb201, 0, none⟩ = some (.slice A200_0 ((rd_T45 l0 x7_1).f0.f0).length c200_0) ∧ w'.cell? ⟨gb201, 1, none⟩ = some (.int .i64 ((rd_T45 l0 x7_1).f1)) ∧ w'.cell? ⟨gb201, 2, none⟩ = some (.int .i64 ((rd_T45 l0 x7_1).f2))) (ds := []) #[Z,Z,Z,Z,Z,Z,Z,Z,Z,Z,Z,Z,Z,Z,Z,Z,Z,Z,Z,Z,Z,Z,Z,Z,Z,Z,Z,Z,Z,Z,Z,Z,Z,Z,Z,Z,Z,Z,Z,Z,Z,Z,Z,Z] (by kernel_rfl) rfl rfl ⟨(xc BK201.out 0).trans rfl, (xc BK201.out 1).trans rfl, (xc BK201.out 2).trans rfl⟩ (fun hHeld => ?_); refine with_tabW impl_GoodGroups.tab4 impl_GoodGroups.bits4 (fun HT_ HW_ => ?_)
         generalize w47.drew = w48 at BK201 HB hHeld ⊢
         refine pu 0 44 1 ?_
         refine pu 2 44 5 ?_
         refine tx 1 44 7 rfl rfl (take_ofW HT_.out HW_.out (by kernel_rfl)) hHeld (by rintro w' ⟨s0, s1, s2⟩; go_simp; with_reducible rfl) ?_
         refine one_ (i := 3) (N := some 15) #[Y,Y,Y,Y,Z,Z,Z,Z,Z,Z,Z,Z,Z,Z,Z,Z,Z,Z,Z,Z,Z,Z,Z,Z,Z,Z,Z,Z,Z,Z,Z,Z,Z,Z,Z,Z,Z,Z,Z,Z,Z,Z,Z,Z] rfl rfl (one_of HT_.out (by kernel_rfl)) (by decide) (fun K hK => ?_)
         refine goes_ Try.func18 (by kernel_rfl) rfl #[.slice (some ad200) l0.length c0] (by rfl) rfl rfl mB ?_
         with_reducible refine (impl_keyLength.calls _ _ l0 t202 _ ?side1 ?side2 A8.out).mono ?_
         (case side1 => exact cB (Kd.C_below HR0.out HB.out))
         (case side2 => exact HC0.out)
         rintro e w' ⟨rfl, ⟨nd, rfl⟩⟩
         refine ⟨_, rfl, ?_⟩
         refine hK.out _ _ ⟨(xc BK201.out 0).trans rfl, (xc BK201.out 1).trans rfl, (xc BK201.out 2).trans rfl⟩ (fun hHeld => nC ?_)
         clear hK K
         refine one_ (i := 4) (N := some 16) #[Y,Y,Y,Y,Y,Z,Z,Z,Z,Z,Z,Z,Z,Z,Z,Z,Z,Z,Z,Z,Z,Z,Z,Z,Z,Z,Z,Z,Z,Z,Z,Z,Z,Z,Z,Z,Z,Z,Z,Z,Z,Z,Z,Z] rfl rfl (one_of HT_.out (by kernel_rfl)) (by decide) (fun K hK => ?_)
         refine goes_ Try.func33 (by kernel_rfl) rfl #[.agg #[.slice A200_0 ((rd_T45 l0 x7_1).f0.f0).length c200_0], .int .i64 t202] (by rfl) rfl rfl mB ?_
         with_reducible refine (impl_isRowOf.calls _ _ ((rd_T45 l0 x7_1).f0.f0) t202 true _ ?side1 ?side2 A9.out).mono ?_
         (case side1 => repeat (first | exact (Kd.C_below HR200_0.out bG) | (with_reducible refine Kd.C_alloc ?_ _) | (with_reducible refine Kd.C_drewN ?_ _) | (with_reducible refine Kd.C_drew ?_)))
         (case side2 => exact HC200_0.out)
         rintro e w49 ⟨rfl, hb⟩
         refine ⟨_, rfl, ?_⟩
         have n0_ := xm (blk_below (kB BK201) hb)
         have n1_ := xm (below_step bG hb)
         revert n0_ n1_; clear BK201 HB; intro BK201 HB
         (try clear hb)
         (try clear hb2)
         (try clear hk)
         (try clear hi)
         refine hK.out _ _ ⟨(xc BK201.out 0).trans rfl, (xc BK201.out 1).trans rfl, (xc BK201.out 2).trans rfl⟩ (fun hHeld => nC ?_)
         clear hK K
         refine pu 5 44 63 ?_
         refine pu 6 44 127 ?_
         refine pu 7 44 255 ?_
         refine tx 8 44 511 rfl rfl (take_ofW HT_.out HW_.out (by kernel_rfl)) hHeld (by rintro w' ⟨s0, s1, s2⟩; go_simp; with_reducible rfl) ?_
         refine one_ (i := 9) (N := some 21) #[Y,Y,Y,Y,Y,Y,Y,Y,Y,Y,Z,Z,Z,Z,Z,Z,Z,Z,Z,Z,Z,Z,Z,Z,Z,Z,Z,Z,Z,Z,Z,Z,Z,Z,Z,Z,Z,Z,Z,Z,Z,Z,Z,Z] rfl rfl (one_of HT_.out (by kernel_rfl)) (by decide) (fun K hK => ?_)
         refine goes_ Try.func34 (by kernel_rfl) rfl #[.int .i64 ((rd_T45 l0 x7_1).f1)] (by rfl) rfl rfl mB ?_
         with_reducible refine (impl_isSum.calls ((rd_T45 l0 x7_1).f1) false _ A11.out).mono ?_
         rintro e w' ⟨rfl, ⟨nd, rfl⟩⟩
         refine ⟨_, rfl, ?_⟩
         refine hK.out _ _ ⟨(xc BK201.out 0).trans rfl, (xc BK201.out 1).trans rfl, (xc BK201.out 2).trans rfl⟩ (fun hHeld => nC ?_)
         clear hK K
         refine pu 10 44 2047 ?_
         refine pu 11 44 4095 ?_
         refine pu 12 44 8191 ?_
         refine ou 13 44 16383 ?_
         refine ou 14 44 32767 ?_
         refine ou 15 44 65535 ?_
         refine ou 16 44 131071 ?_
         refine pu 17 44 262143 ?_
         refine pu 18 44 524287 ?_
         refine ou 19 44 1048575 ?_
         refine ou 20 44 2097151 ?_
         refine ou 21 44 4194303 ?_
         refine ou 22 44 8388607 ?_
         refine ou 23 44 16777215 ?_
         refine ou 24 44 33554431 ?_
         refine ou 25 44 67108863 ?_
         refine ou 26 44 134217727 ?_
         refine pu 27 44 268435455 ?_
         refine pu 28 44 536870911 ?_
         refine ou 29 44 1073741823 ?_
         refine ou 30 44 2147483647 ?_
         refine ou 31 44 4294967295 ?_
         refine ou 32 44 8589934591 ?_
         refine ou 33 44 17179869183 ?_
         refine ou 34 44 34359738367 ?_
         refine ou 35 44 68719476735 ?_
         refine ou 36 44 137438953471 ?_
         refine ou 37 44 274877906943 ?_
         refine ou 38 44 549755813887 ?_
         refine ou 39 44 1099511627775 ?_
         refine ou 40 44 2199023255551 ?_
         refine ou 41 44 4398046511103 ?_
         refine ou 42 44 8796093022207 ?_
         refine pu 43 44 17592186044415 ?_
         refine done_ (done_of HT_.out (by kernel_rfl)) ?_
         try go_wp2
         go_meet
         case rel => exact ⟨_, (true), (by first | rfl | (simp; done) | (simp [*]; done)), H', ⟨by have := HK1.out; first | omega | exact Nat.le_refl _⟩, ⟨by (with_reducible repeat (first | refine xq ?_ _ | refine xr ?_ | refine xo ?_ _)); exact BK201.out⟩, ⟨by repeat (first | (with_reducible first | exact HB.out | apply xa | apply xn | apply xd | refine xt ?_ GE201.out) | exact HB.out)⟩⟩
       ·replace c10 := Bool.eq_false_iff.mpr c10
        subst c10
        have H1 : (impl_GoodGroups.j1 k1 l0 l0 (l0.length : Int) x7_1 true) = some r := by first | (with_reducible rfl) | (rw [if_neg (show ¬ (false = true) by decide)] at H; exact H)
        clear H
        have H := H1
        clear H1
        have H' := xm H
        clear H
        try go_wp2
        have n0_ : Aside0 ((((w6.setCell ⟨gb201, 0, none⟩ (.slice A200_0 ((rd_T45 l0 x7_1).f0.f0).length c200_0)).setCell ⟨gb201, 1, none⟩ (.int .i64 ((rd_T45 l0 x7_1).f1))).setCell ⟨gb201, 2, none⟩ (.int .i64 ((rd_T45 l0 x7_1).f2))).heap[gb201]? = some (.cells #[.slice A200_0 ((rd_T45 l0 x7_1).f0.f0).length c200_0, .int .i64 ((rd_T45 l0 x7_1).f1), .int .i64 ((rd_T45 l0 x7_1).f2)] 45 (0, 0))) := ⟨by (with_reducible repeat (first | refine xq ?_ _ | refine xr ?_ | refine xo ?_ _)); refine blk_put (cs := #[.slice A200_0 ((rd_T45 l0 x7_1).f0.f0).length c200_0, .int .i64 ((rd_T45 l0 x7_1).f1), .int .i64 0]) ?_ 2 _ rfl; (with_reducible repeat (first | refine xq ?_ _ | refine xr ?_ | refine xo ?_ _)); refine blk_put (cs := #[.slice A200_0 ((rd_T45 l0 x7_1).f0.f0).length c200_0, .int .i64 0, .int .i64 0]) ?_ 1 _ rfl; (with_reducible repeat (first | refine xq ?_ _ | refine xr ?_ | refine xo ?_ _)); refine blk_put (cs := #[.slice none 0 0, .int .i64 0, .int .i64 0]) ?_ 0 _ rfl; (with_reducible repeat (first | refine xq ?_ _ | refine xr ?_ | refine xo ?_ _)); exact BK201.out⟩
        have n1_ : Aside0 (Below w.heap.size w (((w6.setCell ⟨gb201, 0, none⟩ (.slice A200_0 ((rd_T45 l0 x7_1).f0.f0).length c200_0)).setCell ⟨gb201, 1, none⟩ (.int .i64 ((rd_T45 l0 x7_1).f1))).setCell ⟨gb201, 2, none⟩ (.int .i64 ((rd_T45 l0 x7_1).f2)))) := ⟨by repeat (first | (with_reducible first | exact HB.out | apply xa | apply xn | apply xd | refine xt ?_ GE201.out) | exact HB.out)⟩
        (try clear BK201)
        (try clear HB)
        generalize (((w6.setCell ⟨gb201, 0, none⟩ (.slice A200_0 ((rd_T45 l0 x7_1).f0.f0).length c200_0)).setCell ⟨gb201, 1, none⟩ (.int .i64 ((rd_T45 l0 x7_1).f1))).setCell ⟨gb201, 2, none⟩ (.int .i64 ((rd_T45 l0 x7_1).f2))) = w50 at n0_ n1_ ⊢
        revert n0_ n1_; intro BK201 HB
        have n0_ := xm (xr BK201.out)
        have n1_ := xm (xd HB.out)
        revert n0_ n1_; clear BK201 HB; intro BK201 HB
        refine start_ (n := 44) (S := fun w' => w'.cell? ⟨gb201, 0, none⟩ = some (.slice A200_0 ((rd_T45 l0 x7_1).f0.f0).length c200_0) ∧ w'.cell? ⟨gb201, 1, none⟩ = some (.int .i64 ((rd_T45 l0 x7_1).f1)) ∧ w'.cell? ⟨gb201, 2, none⟩ = some (.int .i64 ((rd_T45 l0 x7_1).f2))) (ds := []) #[Z,Z,Z,Z,Z,Z,Z,Z,Z,Z,Z,Z,Z,Z,Z,Z,Z,Z,Z,Z,Z,Z,Z,Z,Z,Z,Z,Z,Z,Z,Z,Z,Z,Z,Z,Z,Z,Z,Z,Z,Z,Z,Z,Z] (by kernel_rfl) rfl rfl ⟨(xc BK201.out 0).trans rfl, (xc BK201.out 1).trans rfl, (xc BK201.out 2).trans rfl⟩ (fun hHeld => ?_); refine with_tabW impl_GoodGroups.tab4 impl_GoodGroups.bits4 (fun HT_ HW_ => ?_)
        generalize w50.drew = w51 at BK201 HB hHeld ⊢
        refine pu 0 44 1 ?_
        refine pu 2 44 5 ?_
        refine tx 1 44 7 rfl rfl (take_ofW HT_.out HW_.out (by kernel_rfl)) hHeld (by rintro w' ⟨s0, s1, s2⟩; go_simp; with_reducible rfl) ?_
        refine one_ (i := 3) (N := some 15) #[Y,Y,Y,Y,Z,Z,Z,Z,Z,Z,Z,Z,Z,Z,Z,Z,Z,Z,Z,Z,Z,Z,Z,Z,Z,Z,Z,Z,Z,Z,Z,Z,Z,Z,Z,Z,Z,Z,Z,Z,Z,Z,Z,Z] rfl rfl (one_of HT_.out (by kernel_rfl)) (by decide) (fun K hK => ?_)
        refine goes_ Try.func18 (by kernel_rfl) rfl #[.slice (some ad200) l0.length c0] (by rfl) rfl rfl mB ?_
        with_reducible refine (impl_keyLength.calls _ _ l0 t202 _ ?side1 ?side2 A8.out).mono ?_
        (case side1 => exact cB (Kd.C_below HR0.out HB.out))
        (case side2 => exact HC0.out)
        rintro e w' ⟨rfl, ⟨nd, rfl⟩⟩
        refine ⟨_, rfl, ?_⟩
        refine hK.out _ _ ⟨(xc BK201.out 0).trans rfl, (xc BK201.out 1).trans rfl, (xc BK201.out 2).trans rfl⟩ (fun hHeld => nC ?_)
        clear hK K
        refine one_ (i := 4) (N := some 16) #[Y,Y,Y,Y,Y,Z,Z,Z,Z,Z,Z,Z,Z,Z,Z,Z,Z,Z,Z,Z,Z,Z,Z,Z,Z,Z,Z,Z,Z,Z,Z,Z,Z,Z,Z,Z,Z,Z,Z,Z,Z,Z,Z,Z] rfl rfl (one_of HT_.out (by kernel_rfl)) (by decide) (fun K hK => ?_)
        refine goes_ Try.func33 (by kernel_rfl) rfl #[.agg #[.slice A200_0 ((rd_T45 l0 x7_1).f0.f0).length c200_0], .int .i64 t202] (by rfl) rfl rfl mB ?_
        with_reducible refine (impl_isRowOf.calls _ _ ((rd_T45 l0 x7_1).f0.f0) t202 false _ ?side1 ?side2 A9.out).mono ?_
        (case side1 => repeat (first | exact (Kd.C_below HR200_0.out bG) | (with_reducible refine Kd.C_alloc ?_ _) | (with_reducible refine Kd.C_drewN ?_ _) | (with_reducible refine Kd.C_drew ?_)))
        (case side2 => exact HC200_0.out)
        rintro e w52 ⟨rfl, hb⟩
        refine ⟨_, rfl, ?_⟩
        have n0_ := xm (blk_below (kB BK201) hb)
        have n1_ := xm (below_step bG hb)
        revert n0_ n1_; clear BK201 HB; intro BK201 HB
        (try clear hb)
        (try clear hb2)
        (try clear hk)
        (try clear hi)
        refine hK.out _ _ ⟨(xc BK201.out 0).trans rfl, (xc BK201.out 1).trans rfl, (xc BK201.out 2).trans rfl⟩ (fun hHeld => nC ?_)
        clear hK K
        refine pu 5 44 63 ?_
        refine pu 6 44 127 ?_
        refine ou 7 44 255 ?_
        refine ou 8 44 511 ?_
        refine ou 9 44 1023 ?_
        refine ou 10 44 2047 ?_
        refine pu 11 44 4095 ?_
        refine pu 12 44 8191 ?_
        refine ou 13 44 16383 ?_
        refine ou 14 44 32767 ?_
        refine ou 15 44 65535 ?_
        refine ou 16 44 131071 ?_
        refine pu 17 44 262143 ?_
        refine pu 18 44 524287 ?_
        refine ou 19 44 1048575 ?_
        refine ou 20 44 2097151 ?_
        refine ou 21 44 4194303 ?_
        refine ou 22 44 8388607 ?_
        refine ou 23 44 16777215 ?_
        refine ou 24 44 33554431 ?_
        refine ou 25 44 67108863 ?_
        refine ou 26 44 134217727 ?_
        refine pu 27 44 268435455 ?_
        refine pu 28 44 536870911 ?_
        refine ou 29 44 1073741823 ?_
        refine ou 30 44 2147483647 ?_
        refine ou 31 44 4294967295 ?_
        refine ou 32 44 8589934591 ?_
        refine ou 33 44 17179869183 ?_
        refine ou 34 44 34359738367 ?_
        refine ou 35 44 68719476735 ?_
        refine ou 36 44 137438953471 ?_
        refine ou 37 44 274877906943 ?_
        refine ou 38 44 549755813887 ?_
        refine ou 39 44 1099511627775 ?_
        refine ou 40 44 2199023255551 ?_
        refine ou 41 44 4398046511103 ?_
        refine ou 42 44 8796093022207 ?_
        refine pu 43 44 17592186044415 ?_
        refine done_ (done_of HT_.out (by kernel_rfl)) ?_
        try go_wp2
        go_meet
        case rel => exact ⟨_, (true), (by first | rfl | (simp; done) | (simp [*]; done)), H', ⟨by have := HK1.out; first | omega | exact Nat.le_refl _⟩, ⟨by (with_reducible repeat (first | refine xq ?_ _ | refine xr ?_ | refine xo ?_ _)); exact BK201.out⟩, ⟨by repeat (first | (with_reducible first | exact HB.out | apply xa | apply xn | apply xd | refine xt ?_ GE201.out) | exact HB.out)⟩⟩
      case rest =>
       clear HC5
       try clear c1
       try clear c2
       try clear p2
       try clear c3
       try clear c10
       try clear c12
       try clear c18
       try clear c20
       try clear c33
       try clear c34
       obtain ⟨kq, x55_4, rfl, HA, HJ4, BK201, HB⟩ := hcut
       cases kq with
       | zero => exact absurd HA.out (by simp [impl_GoodGroups.j1])
       | succ kj4 =>
        have H := HA.out
        clear HA
        simp only [impl_GoodGroups.j1] at H
        by_cases c53 : x55_4 = true
        ·subst c53
         have H1 : (some false) = some r := by first | (with_reducible rfl) | (rw [if_pos rfl] at H; exact H)
         clear H
         have H := H1
         clear H1
         obtain rfl := Option.some.inj H
         go_wp2
         go_ret
         exact ⟨by first | rfl | (simp [errW_none, errW_some] <;> rfl) | (simp [*, errW_none, errW_some] <;> rfl), by repeat (first | (with_reducible first | exact HB.out | apply xa | apply xn | apply xd | refine xt ?_ GE201.out) | exact HB.out)⟩
        ·replace c53 := Bool.eq_false_iff.mpr c53
         subst c53
         have H1 : (impl_GoodGroups.l0 kj4 l0 l0 (l0.length : Int) (wrap64 (x7_1 + 1))) = some r := by first | (with_reducible rfl) | (rw [if_neg (show ¬ (false = true) by decide)] at H; exact H)
         clear H
         have H := H1
         clear H1
         have H' := xm H
         clear H
         go_wp2
         go_roundg kj4
         case measure => have := HK1.out; have := HJ4.out; omega
         case rel => exact ⟨(wrap64 (x7_1 + 1)), (by first | rfl | (simp; done) | (simp [*]; done)), H', ⟨by have := HK1.out; have := HJ4.out; omega⟩, ⟨by repeat (first | (with_reducible first | exact HB.out | apply xa | apply xn | apply xd | refine xt ?_ GE201.out) | exact HB.out)⟩⟩
     ·rw [if_neg c4] at H
      exact absurd H (by simp)
    ·rw [if_neg c3] at H
     exact absurd H (by simp)
   ·rw [if_neg c2] at H
    have c2b0 : decide (x7_1 < (l0.length : Int)) = false := decide_eq_false c2
    clear c2
    obtain rfl := Option.some.inj H
    go_wp2
    go_ret
    exact ⟨by first | rfl | (simp [errW_none, errW_some] <;> rfl) | (simp [*, errW_none, errW_some] <;> rfl), by repeat (first | (with_reducible first | exact HB.out | apply xa | apply xn | apply xd) | exact HB.out)⟩

end Go.Proofs.Ytaddemalepndfaa.G
