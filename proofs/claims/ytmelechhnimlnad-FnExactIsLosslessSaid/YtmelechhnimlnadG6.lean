/- Written by a program of this claim's own, out of the translation: functions of the program as plain functions, and that the calls answer as these. No conditions. -/
import Derived.Test.YtmelechhnimlnadG0
import Derived.Test.YtmelechhnimlnadG3
import Derived.Test.YtmelechhnimlnadG4
import Derived.Test.YtmelechhnimlnadG5
namespace Go.Proofs.Ytmelechhnimlnad.G
open Go.RowKit Go.Proofs.Ytmelechhnimlnad.X Go.Proofs.YtmelechhnimlnadW.PrintWords Go.Proofs.YtmelechhnimlnadW.PrintLast Go.Proofs.YtmelechhnimlnadW.PrintMore
attribute [local go_sem] max2_int min2_int max_two min_two max_three min_three max_four min_four   -- for this text's walks alone
set_option linter.unusedVariables false
set_option linter.unusedSimpArgs false

/-! ### spec_l9Step: function 34 -/
mutual
def spec_l9Step.l0 : Nat → List (S49) → Int → Int → Int → List (S48) → Option (Int × (List (S48)) × Bool)
 | 0, _, _, _, _, _ => none
 | k + 1, x14, x15, x16, x202000, x202001 => if x16 < x15 then (if 0 ≤ x16 then (if x16 < (x14.length : Int) then (spec_l9Step.l1 k x14 x15 x16 x202001 (x202001.length : Int) 0 x202000 x202001 ((rd_T49 x14 x16).f0) ((rd_T49 x14 x16).f1)) else (none)) else (none)) else (some (0, ([] : List (S48)), false))
def spec_l9Step.l1 : Nat → List (S49) → Int → Int → List (S48) → Int → Int → Int → List (S48) → List Int → List Int → Option (Int × (List (S48)) × Bool)
 | 0, _, _, _, _, _, _, _, _, _, _ => none
 | k + 1, x14, x15, x16, x21, x22, x23, x202000, x202001, x205000, x205001 => if x23 < x22 then (if 0 ≤ x23 then (if x23 < (x21.length : Int) then (if 0 ≤ (wrap64 (x23 + 1)) then (if (wrap64 (x23 + 1)) ≤ (x202001.length : Int) then ((some (x202001.drop ((wrap64 (x23 + 1)) : Int).toNat : List (S48))).bind fun y207 => (spec_l9Step.l2 k x14 x15 x16 x21 x22 x23 y207 (y207.length : Int) 0 x202000 x202001 x205000 x205001 ((rd_T48 x21 x23).f0))) else (none)) else (none)) else (none)) else (none)) else (spec_l9Step.l0 k x14 x15 (wrap64 (x16 + 1)) x202000 x202001)
def spec_l9Step.l2 : Nat → List (S49) → Int → Int → List (S48) → Int → Int → List (S48) → Int → Int → Int → List (S48) → List Int → List Int → List Int → Option (Int × (List (S48)) × Bool)
 | 0, _, _, _, _, _, _, _, _, _, _, _, _, _, _ => none
 | k + 1, x14, x15, x16, x21, x22, x23, x32, x33, x34, x202000, x202001, x205000, x205001, x207000 => if x34 < x33 then (if 0 ≤ x34 then (if x34 < (x32.length : Int) then ((spec_l1Pick.f k x207000 x205000).bind fun t213 => ((spec_l1Pick.f k ((rd_T48 x32 x34).f0) x205000).bind fun t216 => ((spec_l1Compare.f k t213 t216).bind fun t219 => (if t219 = 0 then (spec_l9Step.l3 k x14 x15 x16 x21 x22 x23 x32 x33 x34 x205001 (x205001.length : Int) 0 x202000 x202001 x205000 x205001 x207000 ((rd_T48 x32 x34).f0)) else (spec_l9Step.l2 k x14 x15 x16 x21 x22 x23 x32 x33 (wrap64 (x34 + 1)) x202000 x202001 x205000 x205001 x207000))))) else (none)) else (none)) else (spec_l9Step.l1 k x14 x15 x16 x21 x22 (wrap64 (x23 + 1)) x202000 x202001 x205000 x205001)
def spec_l9Step.l3 : Nat → List (S49) → Int → Int → List (S48) → Int → Int → List (S48) → Int → Int → List Int → Int → Int → Int → List (S48) → List Int → List Int → List Int → List Int → Option (Int × (List (S48)) × Bool)
 | 0, _, _, _, _, _, _, _, _, _, _, _, _, _, _, _, _, _, _ => none
 | k + 1, x14, x15, x16, x21, x22, x23, x32, x33, x34, x49, x50, x51, x202000, x202001, x205000, x205001, x207000, x213000 => if x51 < x50 then (if 0 ≤ x51 then (if x51 < (x49.length : Int) then (if 0 ≤ (rd x49 x51) then (if (rd x49 x51) < (x207000.length : Int) then (if (rd x49 x51) < (x213000.length : Int) then (if (rd x207000 (rd x49 x51)) = (rd x213000 (rd x49 x51)) then (spec_l9Step.l3 k x14 x15 x16 x21 x22 x23 x32 x33 x34 x49 x50 (wrap64 (x51 + 1)) x202000 x202001 x205000 x205001 x207000 x213000) else ((spec_l9Made.f k x202000 x202001 (rd x49 x51) (rd x207000 (rd x49 x51)) (rd x213000 (rd x49 x51))).bind fun bt225 => (some (bt225.1, bt225.2, true)))) else (none)) else (none)) else (none)) else (none)) else (none)) else (spec_l9Step.l2 k x14 x15 x16 x21 x22 x23 x32 x33 (wrap64 (x34 + 1)) x202000 x202001 x205000 x205001 x207000)
end
def spec_l9Step.f (k : Nat) (a0_0 : Int) (l0_1 : List (S48)) (l1 : List (S49)) : Option (Int × (List (S48)) × Bool) := spec_l9Step.l0 k l1 (l1.length : Int) 0 a0_0 l0_1
theorem spec_l9Step.mono_l : ∀ k, (∀ y0 y1 y2 y3 y4, LeO (spec_l9Step.l0 k y0 y1 y2 y3 y4) (spec_l9Step.l0 (k + 1) y0 y1 y2 y3 y4)) ∧ (∀ y0 y1 y2 y3 y4 y5 y6 y7 y8 y9, LeO (spec_l9Step.l1 k y0 y1 y2 y3 y4 y5 y6 y7 y8 y9) (spec_l9Step.l1 (k + 1) y0 y1 y2 y3 y4 y5 y6 y7 y8 y9)) ∧ (∀ y0 y1 y2 y3 y4 y5 y6 y7 y8 y9 y10 y11 y12 y13, LeO (spec_l9Step.l2 k y0 y1 y2 y3 y4 y5 y6 y7 y8 y9 y10 y11 y12 y13) (spec_l9Step.l2 (k + 1) y0 y1 y2 y3 y4 y5 y6 y7 y8 y9 y10 y11 y12 y13)) ∧ (∀ y0 y1 y2 y3 y4 y5 y6 y7 y8 y9 y10 y11 y12 y13 y14 y15 y16 y17, LeO (spec_l9Step.l3 k y0 y1 y2 y3 y4 y5 y6 y7 y8 y9 y10 y11 y12 y13 y14 y15 y16 y17) (spec_l9Step.l3 (k + 1) y0 y1 y2 y3 y4 y5 y6 y7 y8 y9 y10 y11 y12 y13 y14 y15 y16 y17))
 | 0 => ⟨fun _ _ _ _ _ r h => by simp [spec_l9Step.l0] at h, fun _ _ _ _ _ _ _ _ _ _ r h => by simp [spec_l9Step.l1] at h, fun _ _ _ _ _ _ _ _ _ _ _ _ _ _ r h => by simp [spec_l9Step.l2] at h, fun _ _ _ _ _ _ _ _ _ _ _ _ _ _ _ _ _ _ r h => by simp [spec_l9Step.l3] at h⟩
 | k + 1 => by
  obtain ⟨ih0, ih1, ih2, ih3⟩ := spec_l9Step.mono_l k
  refine ⟨?_, ?_, ?_, ?_⟩
  ·intro y0 y1 y2 y3 y4
   unfold spec_l9Step.l0
   repeat' first
   | (with_reducible exact ih0 _ _ _ _ _)
   | (with_reducible exact ih1 _ _ _ _ _ _ _ _ _ _)
   | (with_reducible exact ih2 _ _ _ _ _ _ _ _ _ _ _ _ _ _)
   | (with_reducible exact ih3 _ _ _ _ _ _ _ _ _ _ _ _ _ _ _ _ _ _)
   | (with_reducible exact spec_l1Compare.mono _ _ _)
   | (with_reducible exact spec_l1Pick.mono _ _ _)
   | (with_reducible exact spec_l9Made.mono _ _ _ _ _ _)
   | (with_reducible exact LeO.refl _)
   | (with_reducible exact LeO.none _)
   | (with_reducible refine LeO.ite ?_ ?_)
   | (with_reducible refine LeO.bind ?_ (fun _ => ?_))
   | exact ih0 _ _ _ _ _
   | exact ih1 _ _ _ _ _ _ _ _ _ _
   | exact ih2 _ _ _ _ _ _ _ _ _ _ _ _ _ _
   | exact ih3 _ _ _ _ _ _ _ _ _ _ _ _ _ _ _ _ _ _
   | exact spec_l1Compare.mono _ _ _
   | exact spec_l1Pick.mono _ _ _
   | exact spec_l9Made.mono _ _ _ _ _ _
   | exact LeO.none _
   | refine LeO.ite ?_ ?_
   | refine LeO.bind ?_ (fun _ => ?_)
  ·intro y0 y1 y2 y3 y4 y5 y6 y7 y8 y9
   unfold spec_l9Step.l1
   repeat' first
   | (with_reducible exact ih0 _ _ _ _ _)
   | (with_reducible exact ih1 _ _ _ _ _ _ _ _ _ _)
   | (with_reducible exact ih2 _ _ _ _ _ _ _ _ _ _ _ _ _ _)
   | (with_reducible exact ih3 _ _ _ _ _ _ _ _ _ _ _ _ _ _ _ _ _ _)
   | (with_reducible exact spec_l1Compare.mono _ _ _)
   | (with_reducible exact spec_l1Pick.mono _ _ _)
   | (with_reducible exact spec_l9Made.mono _ _ _ _ _ _)
   | (with_reducible exact LeO.refl _)
   | (with_reducible exact LeO.none _)
   | (with_reducible refine LeO.ite ?_ ?_)
   | (with_reducible refine LeO.bind ?_ (fun _ => ?_))
   | exact ih0 _ _ _ _ _
   | exact ih1 _ _ _ _ _ _ _ _ _ _
   | exact ih2 _ _ _ _ _ _ _ _ _ _ _ _ _ _
   | exact ih3 _ _ _ _ _ _ _ _ _ _ _ _ _ _ _ _ _ _
   | exact spec_l1Compare.mono _ _ _
   | exact spec_l1Pick.mono _ _ _
   | exact spec_l9Made.mono _ _ _ _ _ _
   | exact LeO.none _
   | refine LeO.ite ?_ ?_
   | refine LeO.bind ?_ (fun _ => ?_)
  ·intro y0 y1 y2 y3 y4 y5 y6 y7 y8 y9 y10 y11 y12 y13
   unfold spec_l9Step.l2
   repeat' first
   | (with_reducible exact ih0 _ _ _ _ _)
   | (with_reducible exact ih1 _ _ _ _ _ _ _ _ _ _)
   | (with_reducible exact ih2 _ _ _ _ _ _ _ _ _ _ _ _ _ _)
   | (with_reducible exact ih3 _ _ _ _ _ _ _ _ _ _ _ _ _ _ _ _ _ _)
   | (with_reducible exact spec_l1Compare.mono _ _ _)
   | (with_reducible exact spec_l1Pick.mono _ _ _)
   | (with_reducible exact spec_l9Made.mono _ _ _ _ _ _)
   | (with_reducible exact LeO.refl _)
   | (with_reducible exact LeO.none _)
   | (with_reducible refine LeO.ite ?_ ?_)
   | (with_reducible refine LeO.bind ?_ (fun _ => ?_))
   | exact ih0 _ _ _ _ _
   | exact ih1 _ _ _ _ _ _ _ _ _ _
   | exact ih2 _ _ _ _ _ _ _ _ _ _ _ _ _ _
   | exact ih3 _ _ _ _ _ _ _ _ _ _ _ _ _ _ _ _ _ _
   | exact spec_l1Compare.mono _ _ _
   | exact spec_l1Pick.mono _ _ _
   | exact spec_l9Made.mono _ _ _ _ _ _
   | exact LeO.none _
   | refine LeO.ite ?_ ?_
   | refine LeO.bind ?_ (fun _ => ?_)
  ·intro y0 y1 y2 y3 y4 y5 y6 y7 y8 y9 y10 y11 y12 y13 y14 y15 y16 y17
   unfold spec_l9Step.l3
   repeat' first
   | (with_reducible exact ih0 _ _ _ _ _)
   | (with_reducible exact ih1 _ _ _ _ _ _ _ _ _ _)
   | (with_reducible exact ih2 _ _ _ _ _ _ _ _ _ _ _ _ _ _)
   | (with_reducible exact ih3 _ _ _ _ _ _ _ _ _ _ _ _ _ _ _ _ _ _)
   | (with_reducible exact spec_l1Compare.mono _ _ _)
   | (with_reducible exact spec_l1Pick.mono _ _ _)
   | (with_reducible exact spec_l9Made.mono _ _ _ _ _ _)
   | (with_reducible exact LeO.refl _)
   | (with_reducible exact LeO.none _)
   | (with_reducible refine LeO.ite ?_ ?_)
   | (with_reducible refine LeO.bind ?_ (fun _ => ?_))
   | exact ih0 _ _ _ _ _
   | exact ih1 _ _ _ _ _ _ _ _ _ _
   | exact ih2 _ _ _ _ _ _ _ _ _ _ _ _ _ _
   | exact ih3 _ _ _ _ _ _ _ _ _ _ _ _ _ _ _ _ _ _
   | exact spec_l1Compare.mono _ _ _
   | exact spec_l1Pick.mono _ _ _
   | exact spec_l9Made.mono _ _ _ _ _ _
   | exact LeO.none _
   | refine LeO.ite ?_ ?_
   | refine LeO.bind ?_ (fun _ => ?_)
theorem spec_l9Step.mono : ∀ a0 a1 a2 k, LeO (spec_l9Step.f k a0 a1 a2) (spec_l9Step.f (k + 1) a0 a1 a2) := by
 intro a0 a1 a2 k
 obtain ⟨ih0, ih1, ih2, ih3⟩ := spec_l9Step.mono_l k
 unfold spec_l9Step.f
 repeat' first
   | (with_reducible exact ih0 _ _ _ _ _)
   | (with_reducible exact ih1 _ _ _ _ _ _ _ _ _ _)
   | (with_reducible exact ih2 _ _ _ _ _ _ _ _ _ _ _ _ _ _)
   | (with_reducible exact ih3 _ _ _ _ _ _ _ _ _ _ _ _ _ _ _ _ _ _)
   | (with_reducible exact spec_l1Compare.mono _ _ _)
   | (with_reducible exact spec_l1Pick.mono _ _ _)
   | (with_reducible exact spec_l9Made.mono _ _ _ _ _ _)
   | (with_reducible exact LeO.refl _)
   | (with_reducible exact LeO.none _)
   | (with_reducible refine LeO.ite ?_ ?_)
   | (with_reducible refine LeO.bind ?_ (fun _ => ?_))
   | exact ih0 _ _ _ _ _
   | exact ih1 _ _ _ _ _ _ _ _ _ _
   | exact ih2 _ _ _ _ _ _ _ _ _ _ _ _ _ _
   | exact ih3 _ _ _ _ _ _ _ _ _ _ _ _ _ _ _ _ _ _
   | exact spec_l1Compare.mono _ _ _
   | exact spec_l1Pick.mono _ _ _
   | exact spec_l9Made.mono _ _ _ _ _ _
   | exact LeO.none _
   | refine LeO.ite ?_ ?_
   | refine LeO.bind ?_ (fun _ => ?_)
def spec_l9Step.T10 : Bool × List (List Nat × List Nat) := (true, [([], []), ([], []), ([1], [1]), ([0, 2], [0, 2]), ([], []), ([], []), ([5], [5]), ([4, 6, 3], [4, 6]), ([3, 7, 7], [3, 7]), ([8], [8])])
def spec_l9Step.B10 : List Nat := [0, 0, 2, 7, 0, 0, 32, 127, 255, 511]
theorem spec_l9Step.tab10 : rtab .any (opsOf Try.f34 10) = spec_l9Step.T10 := by kernel_rfl
theorem spec_l9Step.bits10 : waitsOk spec_l9Step.T10.2 spec_l9Step.B10 = true := by kernel_rfl
def spec_l9Step.T14 : Bool × List (List Nat × List Nat) := (true, [([], []), ([0], [0]), ([], []), ([1, 2], [1, 2]), ([3], [3]), ([], []), ([5], [5]), ([], []), ([6, 7], [6, 7]), ([8], [8]), ([4, 9], [4, 9])])
def spec_l9Step.B14 : List Nat := [0, 1, 0, 7, 15, 0, 32, 0, 224, 480, 1023]
theorem spec_l9Step.tab14 : rtab .any (opsOf Try.f34 14) = spec_l9Step.T14 := by kernel_rfl
theorem spec_l9Step.bits14 : waitsOk spec_l9Step.T14.2 spec_l9Step.B14 = true := by kernel_rfl
def spec_l9Step.T15 : Bool × List (List Nat × List Nat) := (true, [([], []), ([], []), ([], []), ([2], [2]), ([], []), ([3, 4], [3, 4]), ([5], [5]), ([], []), ([7], [7]), ([], []), ([8, 9], [8, 9]), ([10], [10]), ([0, 1, 6, 11], [0, 1, 6, 11]), ([12, 12, 0, 1, 2, 3, 4, 5, 6, 7, 8, 9, 10, 11, 12], [12]), ([13, 0, 1, 2, 3, 4, 5, 6, 7, 8, 9, 10, 11, 12, 13], [])])
def spec_l9Step.B15 : List Nat := [0, 0, 0, 4, 0, 28, 60, 0, 128, 0, 896, 1920, 4095, 8191, 16383]
theorem spec_l9Step.tab15 : rtab .any (opsOf Try.f34 15) = spec_l9Step.T15 := by kernel_rfl
theorem spec_l9Step.bits15 : waitsOk spec_l9Step.T15.2 spec_l9Step.B15 = true := by kernel_rfl
set_option maxHeartbeats 8000000 in
set_option maxRecDepth 100000 in
theorem spec_l9Step.calls (k : Nat) (a0_0 : Int) (A0_1 : Option Addr) (c0_1 : Nat) (l0_1 : List (S48)) (A1 : Option Addr) (c1 : Nat) (l1 : List (S49)) (r1 : Int) (r2 : List (S48)) (r3 : Bool) (w : World) (hr0_1 : Kd.C k48 w A0_1 l0_1.length l0_1) (hc0_1 : l0_1.length ≤ c0_1) (hr1 : Kd.C k49 w A1 l1.length l1) (hc1 : l1.length ≤ c1) (h : spec_l9Step.f k a0_0 l0_1 l1 = some (r1, r2, r3)) :
  Calls Try.prog 34 #[.agg #[.int .i64 a0_0, .slice A0_1 l0_1.length c0_1], .slice A1 l1.length c1] w fun e w' => ∃ v1_ : Value, e = .returned (.tuple #[.agg #[.int .i64 r1, v1_], .bool r3]) ∧ Kd.S k48 48 w' w.heap.size (fun _ => True) v1_ r2 ∧ Below w.heap.size w w' := by
 have hu43 := Try.underlying43
 have hu49 := Try.underlying49
 have hu48 := Try.underlying48
 have HR0_1 := xm hr0_1
 have HC0_1 := xm hc0_1
 clear hr0_1 hc0_1
 have HR1 := xm hr1
 have HC1 := xm hc1
 clear hr1 hc1
 have HB := xm (Below.refl w.heap.size w)
 have H : (spec_l9Step.l0 k l1 (l1.length : Int) 0 a0_0 l0_1) = some (r1, r2, r3) := h
 clear h
 have H' := xm H
 clear H
 go_enter Try.func34, Try.ntmps34
 go_wp2_with (first | ((with_reducible refine gate_dst (N := 2) rfl ?_); refine box_event ?hg (N := 2) ?hd (cs := #[.int .i64 a0_0, .slice A0_1 l0_1.length c0_1]) (t := 43) ?hr ?_; (case hd => rfl); (case hg => rfl); (case hr => exact zB); intro gb201 hg w3 hbox hb; have n0_ := xm (below_step bB hb); have n1_ := xm (hbox); have n2_ := xm ((by rw [hg]; exact (xz bB) : w.heap.size ≤ gb201)); have n3_ := xm ((by rw [hg]; exact (xz bB) : w.heap.size ≤ gb201)); revert n0_ n1_ n2_ n3_; clear HB; intro HB BK201 GW201 GE201; clear hb hbox hg) | ((with_reducible refine gate_dst (N := 4) rfl ?_); refine box_event ?hg (N := 4) ?hd (cs := #[.int .i64 0, .slice none 0 0]) (t := 43) ?hr ?_; (case hd => rfl); (case hg => rfl); (case hr => exact zB); intro gb202 hg w4 hbox hb; have n0_ := xm (blk_below (kB BK201) hb); have n1_ := xm (below_step bG hb); have n2_ := xm (hbox); have n3_ := xm ((by rw [hg]; exact (xz bG) : w.heap.size ≤ gb202)); have n4_ := xm ((by rw [hg]; exact (xz bG) : w.heap.size ≤ gb202)); have n5_ := xm ((by rw [hg]; exact Nat.ne_of_lt (blk_lt (kB BK201)) : gb201 ≠ gb202)); have n6_ := xm ((by rw [hg]; exact Nat.ne_of_gt (blk_lt (kB BK201)) : gb202 ≠ gb201)); revert n0_ n1_ n2_ n3_ n4_ n5_ n6_; clear BK201 HB; intro BK201 HB BK202 GW202 GE202 NB201_202 NB202_201; clear hb hbox hg))
 go_loopg [16] k (fun kq v16 w' => ∃ (x16_1 : Int) (x203000_1 : Int), v16 = .int .i64 x16_1 ∧ Aside0 (spec_l9Step.l0 kq l1 (l1.length : Int) x16_1 a0_0 l0_1 = some (r1, r2, r3)) ∧ Aside0 (kq ≤ k) ∧ Aside0 (w'.heap[gb201]? = some (.cells #[.int .i64 a0_0, (.slice A0_1 l0_1.length c0_1)] 43 (0, 0))) ∧ Aside0 (w'.heap[gb202]? = some (.cells #[.int .i64 x203000_1, (.slice none 0 0)] 43 (0, 0))) ∧ Aside0 (Below w.heap.size w w'))
 case atStart => exact ⟨(0), (0), sB, H', ⟨Nat.le_refl _⟩, ⟨kB BK201⟩, ⟨kB BK202⟩, ⟨bG⟩⟩
 case round =>
  clear H'
  try clear c1
  try clear p2
  try clear c3
  obtain ⟨x16_1, x203000_1, rfl, HA, HK1, BK201, BK202, HB⟩ := hrel
  cases gk with
  | zero => exact absurd HA.out (by simp [spec_l9Step.l0])
  | succ k1 =>
   have H := HA.out
   clear HA
   simp only [spec_l9Step.l0] at H
   by_cases c5 : x16_1 < (l1.length : Int)
   ·rw [if_pos c5] at H
    have c5b0 : decide (x16_1 < (l1.length : Int)) = true := decide_eq_true c5
    clear c5
    by_cases c6 : 0 ≤ x16_1
    ·rw [if_pos c6] at H
     have c6b0 : decide (0 ≤ x16_1) = true := decide_eq_true c6
     clear c6
     by_cases c7 : x16_1 < (l1.length : Int)
     ·rw [if_pos c7] at H
      have c7b0 : decide (x16_1 < (l1.length : Int)) = true := decide_eq_true c7
      clear c7
      have H' := xm H
      clear H
      have p203 : 0 ≤ (x16_1 : Int) := of_decide_eq_true aB
      have q203 : x16_1 < (l1.length : Int) := of_decide_eq_true aB
      obtain ⟨ad203, A203_0, c203_0, A203_1, c203_1, e203, hx203_0, hx203_1, hl203_0, hi203_0, hl203_1, hi203_1⟩ := at_T49 HR1.out x16_1 p203 q203
      cases e203
      replace hx203_0 := hU hx203_0
      replace hx203_1 := hU hx203_1
      have HR203_0 := xm hi203_0
      have HC203_0 := xm hl203_0
      clear hi203_0 hl203_0
      have HR203_1 := xm hi203_1
      have HC203_1 := xm hl203_1
      clear hi203_1 hl203_1
      replace p203 := eq_true p203
      replace q203 := eq_true q203
      go_wp2_with (first | ((with_reducible refine gate_dst (N := 7) rfl ?_); refine box_event ?hg (N := 7) ?hd (cs := #[.slice none 0 0, .slice none 0 0]) (t := 49) ?hr ?_; (case hd => rfl); (case hg => rfl); (case hr => exact zB); intro gb204 hg w8 hbox hb; have n0_ := xm (blk_below (kB BK201) hb); have n1_ := xm (blk_below (kB BK202) hb); have n2_ := xm (below_step bG hb); have n3_ := xm (hbox); have n4_ := xm ((by rw [hg]; exact (xz bG) : w.heap.size ≤ gb204)); have n5_ := xm ((by rw [hg]; exact (xz bG) : w.heap.size ≤ gb204)); have n6_ := xm ((by rw [hg]; exact Nat.ne_of_lt (blk_lt (kB BK201)) : gb201 ≠ gb204)); have n7_ := xm ((by rw [hg]; exact Nat.ne_of_gt (blk_lt (kB BK201)) : gb204 ≠ gb201)); have n8_ := xm ((by rw [hg]; exact Nat.ne_of_lt (blk_lt (kB BK202)) : gb202 ≠ gb204)); have n9_ := xm ((by rw [hg]; exact Nat.ne_of_gt (blk_lt (kB BK202)) : gb204 ≠ gb202)); revert n0_ n1_ n2_ n3_ n4_ n5_ n6_ n7_ n8_ n9_; clear BK201 BK202 HB; intro BK201 BK202 HB BK204 GW204 GE204 NB201_204 NB204_201 NB202_204 NB204_202; clear hb hbox hg; have hnb9 := NB204_201.out; have hnc9 := NB201_204.out; have hnb10 := NB204_202.out; have hnc10 := NB202_204.out; obtain ⟨hcz11_0, hcz11_1, hfz11_0, hfz11_1⟩ := cz2 BK204.out; have hnb12 := NB201_202.out; have hnc12 := NB202_201.out; obtain ⟨hcz13_0, hcz13_1, hfz13_0, hfz13_1⟩ := cz2 BK201.out))
      go_loopg [23] k1 (fun kq v23 w' => ∃ (x23_2 : Int) (x203000_2 : Int), v23 = .int .i64 x23_2 ∧ Aside0 (spec_l9Step.l1 kq l1 (l1.length : Int) x16_1 l0_1 (l0_1.length : Int) x23_2 a0_0 l0_1 ((rd_T49 l1 x16_1).f0) ((rd_T49 l1 x16_1).f1) = some (r1, r2, r3)) ∧ Aside0 (kq ≤ k1) ∧ Aside0 (w'.heap[gb201]? = some (.cells #[.int .i64 a0_0, (.slice A0_1 l0_1.length c0_1)] 43 (0, 0))) ∧ Aside0 (w'.heap[gb202]? = some (.cells #[.int .i64 x203000_2, (.slice none 0 0)] 43 (0, 0))) ∧ Aside0 (w'.heap[gb204]? = some (.cells #[(.slice A203_0 ((rd_T49 l1 x16_1).f0).length c203_0), (.slice A203_1 ((rd_T49 l1 x16_1).f1).length c203_1)] 49 (0, 0))) ∧ Aside0 (Below w.heap.size w w'))
      case atStart => exact ⟨(0), (x203000_1), sB, H', ⟨Nat.le_refl _⟩, ⟨by (with_reducible repeat (first | refine xq ?_ _ | refine xr ?_ | refine xo ?_ _)); refine blk_far ?_ NB201_204.out _; (with_reducible repeat (first | refine xq ?_ _ | refine xr ?_ | refine xo ?_ _)); refine blk_far ?_ NB201_204.out _; (with_reducible repeat (first | refine xq ?_ _ | refine xr ?_ | refine xo ?_ _)); exact BK201.out⟩, ⟨by (with_reducible repeat (first | refine xq ?_ _ | refine xr ?_ | refine xo ?_ _)); refine blk_far ?_ NB202_204.out _; (with_reducible repeat (first | refine xq ?_ _ | refine xr ?_ | refine xo ?_ _)); refine blk_far ?_ NB202_204.out _; (with_reducible repeat (first | refine xq ?_ _ | refine xr ?_ | refine xo ?_ _)); exact BK202.out⟩, ⟨by (with_reducible repeat (first | refine xq ?_ _ | refine xr ?_ | refine xo ?_ _)); refine blk_put (cs := #[.slice A203_0 ((rd_T49 l1 x16_1).f0).length c203_0, .slice none 0 0]) ?_ 1 _ rfl; (with_reducible repeat (first | refine xq ?_ _ | refine xr ?_ | refine xo ?_ _)); refine blk_put (cs := #[.slice none 0 0, .slice none 0 0]) ?_ 0 _ rfl; (with_reducible repeat (first | refine xq ?_ _ | refine xr ?_ | refine xo ?_ _)); exact BK204.out⟩, ⟨bG⟩⟩
      case round =>
       clear H'
       try clear c1
       try clear c2
       try clear p2
       try clear q2
       try clear hx2
       try clear c3
       try clear c5
       try clear c5b0
       try clear c6
       try clear c6b0
       try clear c7
       try clear c7b0
       try clear c9
       try clear c10
       try clear c12
       try clear hcz11_0 hcz11_1
       try clear hcz13_0 hcz13_1
       try clear hfz11_0 hfz11_1
       try clear hfz13_0 hfz13_1
       try clear hx203_0
       try clear hx203_1
       try clear p2
       try clear p203
       try clear q203
       obtain ⟨x23_2, x203000_2, rfl, HA, HK2, BK201, BK202, BK204, HB⟩ := hrel
       cases gk with
       | zero => exact absurd HA.out (by simp [spec_l9Step.l1])
       | succ k2 =>
        have H := HA.out
        clear HA
        simp only [spec_l9Step.l1] at H
        by_cases c14 : x23_2 < (l0_1.length : Int)
        ·rw [if_pos c14] at H
         have c14b0 : decide (x23_2 < (l0_1.length : Int)) = true := decide_eq_true c14
         clear c14
         by_cases c15 : 0 ≤ x23_2
         ·rw [if_pos c15] at H
          have c15b0 : decide (0 ≤ x23_2) = true := decide_eq_true c15
          clear c15
          by_cases c16 : x23_2 < (l0_1.length : Int)
          ·rw [if_pos c16] at H
           have c16b0 : decide (x23_2 < (l0_1.length : Int)) = true := decide_eq_true c16
           clear c16
           obtain ⟨ji17, hji17⟩ : ∃ j_ : Int, (wrap64 (x23_2 + 1)) = j_ := ⟨_, rfl⟩
           replace H : (if 0 ≤ (ji17) then (if (ji17) ≤ (l0_1.length : Int) then ((some (l0_1.drop ((ji17) : Int).toNat : List (S48))).bind fun y207 => (spec_l9Step.l2 k2 l1 (l1.length : Int) x16_1 l0_1 (l0_1.length : Int) x23_2 y207 (y207.length : Int) 0 a0_0 l0_1 ((rd_T49 l1 x16_1).f0) ((rd_T49 l1 x16_1).f1) ((rd_T48 l0_1 x23_2).f0))) else (none)) else (none)) = some (r1, r2, r3) := by first | (rw [hji17] at H; exact H) | (simp only [hji17] at H ⊢; exact H)
           have hji17w : (IntKind.i64.wrap (x23_2 + 1)) = ji17 := (i64_w _).trans hji17
           by_cases c18 : 0 ≤ (ji17)
           ·rw [if_pos c18] at H
            have c18b0 := eq_true c18
            have c18b1 : decide (0 ≤ (ji17)) = true := decide_eq_true c18
            clear c18
            by_cases c19 : (ji17) ≤ (l0_1.length : Int)
            ·rw [if_pos c19] at H
             have c19b0 := eq_true c19
             have c19b1 : decide ((ji17) ≤ (l0_1.length : Int)) = true := decide_eq_true c19
             clear c19
             obtain ⟨y207, hy207⟩ : ∃ y_ : List (S48), y_ = (l0_1.drop ((ji17) : Int).toNat) := ⟨_, rfl⟩
             replace H : (spec_l9Step.l2 k2 l1 (l1.length : Int) x16_1 l0_1 (l0_1.length : Int) x23_2 y207 (y207.length : Int) 0 a0_0 l0_1 ((rd_T49 l1 x16_1).f0) ((rd_T49 l1 x16_1).f1) ((rd_T48 l0_1 x23_2).f0)) = some (r1, r2, r3) := by first | (rw [hy207]; with_reducible exact H) | (have H2_ := (Option.bind_some _ _).symm.trans H; rw [hy207]; with_reducible exact H2_) | (have H2_ := (Option.bind_some _ _).symm.trans H; with_reducible exact H2_) | with_reducible exact H | (rw [hy207]; exact H) | exact H
             have Ny207 := xm hy207
             clear hy207
             have H' := xm H
             clear H
             have p205 : 0 ≤ (x23_2 : Int) := of_decide_eq_true aB
             have q205 : x23_2 < (l0_1.length : Int) := of_decide_eq_true aB
             obtain ⟨ad205, A205_0, c205_0, e205, hx205_0, hl205_0, hi205_0⟩ := at_T48 HR0_1.out x23_2 p205 q205
             cases e205
             replace hx205_0 := hU hx205_0
             have HR205_0 := xm hi205_0
             have HC205_0 := xm hl205_0
             clear hi205_0 hl205_0
             replace p205 := eq_true p205
             replace q205 := eq_true q205
             go_wp2_with (first | ((with_reducible refine gate_dst (N := 9) rfl ?_); refine box_event ?hg (N := 9) ?hd (cs := #[.slice none 0 0]) (t := 48) ?hr ?_; (case hd => rfl); (case hg => rfl); (case hr => exact zB); intro gb206 hg w20 hbox hb; have n0_ := xm (blk_below (kB BK201) hb); have n1_ := xm (blk_below (kB BK202) hb); have n2_ := xm (blk_below (kB BK204) hb); have n3_ := xm (below_step bG hb); have n4_ := xm (hbox); have n5_ := xm ((by rw [hg]; exact (xz bG) : w.heap.size ≤ gb206)); have n6_ := xm ((by rw [hg]; exact (xz bG) : w.heap.size ≤ gb206)); have n7_ := xm ((by rw [hg]; exact Nat.ne_of_lt (blk_lt (kB BK201)) : gb201 ≠ gb206)); have n8_ := xm ((by rw [hg]; exact Nat.ne_of_gt (blk_lt (kB BK201)) : gb206 ≠ gb201)); have n9_ := xm ((by rw [hg]; exact Nat.ne_of_lt (blk_lt (kB BK202)) : gb202 ≠ gb206)); have n10_ := xm ((by rw [hg]; exact Nat.ne_of_gt (blk_lt (kB BK202)) : gb206 ≠ gb202)); have n11_ := xm ((by rw [hg]; exact Nat.ne_of_lt (blk_lt (kB BK204)) : gb204 ≠ gb206)); have n12_ := xm ((by rw [hg]; exact Nat.ne_of_gt (blk_lt (kB BK204)) : gb206 ≠ gb204)); revert n0_ n1_ n2_ n3_ n4_ n5_ n6_ n7_ n8_ n9_ n10_ n11_ n12_; clear BK201 BK202 BK204 HB; intro BK201 BK202 BK204 HB BK206 GW206 GE206 NB201_206 NB206_201 NB202_206 NB206_202 NB204_206 NB206_204; clear hb hbox hg; have hnb21 := NB206_201.out; have hnc21 := NB201_206.out; have hnb22 := NB206_202.out; have hnc22 := NB202_206.out; have hnb23 := NB206_204.out; have hnc23 := NB204_206.out; obtain ⟨hcz24_0, hfz24_0⟩ := cz1 BK206.out) | ((with_reducible refine gate_store (t := 48) (p := 9) rfl ?_); refine store_event (t := 48) (p := 9) (v := ?vo_w25) (w1 := (w20.setCell ⟨gb206, 0, none⟩ (.slice A205_0 ((rd_T48 l0_1 x23_2).f0).length c205_0))) ?hg ?ho ?hn ?hr ?_; (case ho => rfl); (case hg => rfl); (case hn => rfl); (case hr => exact zB); intro w25 hw; have n0_ : Aside0 (w25.heap[gb201]? = some (.cells #[.int .i64 a0_0, .slice (some ad205) l0_1.length c0_1] 43 (0, 0))) := ⟨(by rw [hw]; exact (kF BK201 NB201_206))⟩; have n1_ : Aside0 (w25.heap[gb202]? = some (.cells #[.int .i64 x203000_2, .slice none 0 0] 43 (0, 0))) := ⟨(by rw [hw]; exact (kF BK202 NB202_206))⟩; have n2_ : Aside0 (w25.heap[gb204]? = some (.cells #[.slice A203_0 ((rd_T49 l1 x16_1).f0).length c203_0, .slice A203_1 ((rd_T49 l1 x16_1).f1).length c203_1] 49 (0, 0))) := ⟨(by rw [hw]; exact (kF BK204 NB204_206))⟩; have n3_ : Aside0 (w25.heap[gb206]? = some (.cells #[.slice A205_0 ((rd_T48 l0_1 x23_2).f0).length c205_0] 48 (0, 0))) := ⟨(by rw [hw]; exact (by (with_reducible repeat (first | refine xq ?_ _ | refine xr ?_ | refine xo ?_ _)); refine blk_put (cs := #[.slice none 0 0]) ?_ 0 _ rfl; (with_reducible repeat (first | refine xq ?_ _ | refine xr ?_ | refine xo ?_ _)); exact BK206.out))⟩; have n4_ : Aside0 (Below w.heap.size w w25) := ⟨(by rw [hw]; exact bG)⟩; revert n0_ n1_ n2_ n3_ n4_; clear hw BK201 BK202 BK204 BK206 HB; intro BK201 BK202 BK204 BK206 HB; have hnb26 := NB201_202.out; have hnc26 := NB202_201.out; have hnb27 := NB201_204.out; have hnc27 := NB204_201.out; obtain ⟨hcz28_0, hcz28_1, hfz28_0, hfz28_1⟩ := cz2 BK201.out; have q29 : ((ji17) : Int) ≤ ((l0_1.length : Int) : Int) := of_decide_eq_true aB; obtain ⟨i029, hi029, _, hsz29, _⟩ := info_parts info48; have hroom29 : l0_1.length ≤ c0_1 := HC0_1.out; have hC29 : Kd.C k48 _ (some ad205) l0_1.length l0_1 := HR0_1.out; have q029 : (0 : Int) ≤ ((ji17) : Int) := of_decide_eq_true aB; have hcut29 := cut_from (P := Try.prog) 41 48 .i64 Try.underlying41 hi029 1 hsz29 (some ad205) l0_1.length c0_1 (ji17) q029 q29; have hr29 := Kd.C_drop (m := ((ji17) : Int).toNat) (c := c0_1) hC29 (by omega) hroom29; obtain ⟨A29, hA29⟩ : ∃ Aq_, Aq_ = (if c0_1 = ((ji17) : Int).toNat then (some ad205) else ((some ad205) : Option Addr).map (·.add (((ji17) : Int).toNat * 1))) := ⟨_, rfl⟩; obtain ⟨c29, hc29⟩ : ∃ cq_, cq_ = c0_1 - ((ji17) : Int).toNat := ⟨_, rfl⟩; have hy29 : y207.length = l0_1.length - ((ji17) : Int).toNat := (by rw [Ny207.out, List.length_drop] <;> omega); rw [show (l0_1).drop ((ji17) : Int).toNat = y207 from Ny207.out.symm] at hr29; replace hr29 : Kd.C k48 _ A29 y207.length y207 := (by rw [hA29]; exact hr29); rw [← hy29, ← hA29, ← hc29] at hcut29; have HR210 := xm hr29; have HC210 := xm (show y207.length ≤ c29 from by rw [hy29, hc29]; exact Nat.sub_le_sub_right hroom29 _); clear hr29 hC29 hroom29 hi029 hsz29 hc29; have KY29 := xm hy29; have KA29 := xm hA29; clear hy29 hA29; replace q29 := eq_true q29))
             go_loopg [34] k2 (fun kq v34 w' => ∃ (x34_3 : Int) (x203000_3 : Int), v34 = .int .i64 x34_3 ∧ Aside0 (spec_l9Step.l2 kq l1 (l1.length : Int) x16_1 l0_1 (l0_1.length : Int) x23_2 y207 (y207.length : Int) x34_3 a0_0 l0_1 ((rd_T49 l1 x16_1).f0) ((rd_T49 l1 x16_1).f1) ((rd_T48 l0_1 x23_2).f0) = some (r1, r2, r3)) ∧ Aside0 (kq ≤ k2) ∧ Aside0 (w'.heap[gb201]? = some (.cells #[.int .i64 a0_0, (.slice (some ad205) l0_1.length c0_1)] 43 (0, 0))) ∧ Aside0 (w'.heap[gb202]? = some (.cells #[.int .i64 x203000_3, (.slice none 0 0)] 43 (0, 0))) ∧ Aside0 (w'.heap[gb204]? = some (.cells #[(.slice A203_0 ((rd_T49 l1 x16_1).f0).length c203_0), (.slice A203_1 ((rd_T49 l1 x16_1).f1).length c203_1)] 49 (0, 0))) ∧ Aside0 (w'.heap[gb206]? = some (.cells #[(.slice A205_0 ((rd_T48 l0_1 x23_2).f0).length c205_0)] 48 (0, 0))) ∧ Aside0 (Below w.heap.size w w'))
             case atStart => exact ⟨(0), (x203000_2), sB, H', ⟨Nat.le_refl _⟩, ⟨kB BK201⟩, ⟨kB BK202⟩, ⟨kB BK204⟩, ⟨kB BK206⟩, ⟨bG⟩⟩
             case round =>
              clear H'
              try clear c1
              try clear c2
              try clear p2
              try clear q2
              try clear hx2
              try clear c3
              try clear c5
              try clear c5b0
              try clear c6
              try clear c6b0
              try clear p6
              try clear c7
              try clear c7b0
              try clear c9
              try clear c10
              try clear c12
              try clear c14
              try clear c14b0
              try clear c15
              try clear c15b0
              try clear c16
              try clear c16b0
              try clear c18
              try clear c18b0 c18b1
              try clear c19
              try clear c19b0 c19b1
              try clear c20
              try clear p20
              try clear q20
              try clear hx20
              try clear c21
              try clear c22
              try clear c23
              try clear c26
              try clear c27
              try clear c29
              try clear q29
              try clear hcz11_0 hcz11_1
              try clear hcz13_0 hcz13_1
              try clear hcz24_0
              try clear hcz28_0 hcz28_1
              try clear hfz11_0 hfz11_1
              try clear hfz13_0 hfz13_1
              try clear hfz24_0
              try clear hfz28_0 hfz28_1
              try clear hx203_0
              try clear hx203_1
              try clear hx205_0
              try clear p2
              try clear p203
              try clear p205
              try clear q029
              try clear q2
              try clear q203
              try clear q205
              try clear q29
              obtain ⟨x34_3, x203000_3, rfl, HA, HK3, BK201, BK202, BK204, BK206, HB⟩ := hrel
              cases gk with
              | zero => exact absurd HA.out (by simp [spec_l9Step.l2])
              | succ k3 =>
               have H := HA.out
               clear HA
               simp only [spec_l9Step.l2] at H
               by_cases c30 : x34_3 < (y207.length : Int)
               ·rw [if_pos c30] at H
                have c30b0 : decide (x34_3 < (y207.length : Int)) = true := decide_eq_true c30
                clear c30
                by_cases c31 : 0 ≤ x34_3
                ·rw [if_pos c31] at H
                 have c31b0 : decide (0 ≤ x34_3) = true := decide_eq_true c31
                 clear c31
                 by_cases c32 : x34_3 < (y207.length : Int)
                 ·rw [if_pos c32] at H
                  have c32b0 : decide (x34_3 < (y207.length : Int)) = true := decide_eq_true c32
                  clear c32
                  replace H := Option.bind_eq_some_iff.mp H
                  obtain ⟨t213, A330, H⟩ := H
                  replace H : ((spec_l1Pick.f k3 ((rd_T48 y207 x34_3).f0) ((rd_T49 l1 x16_1).f0)).bind fun t216 => ((spec_l1Compare.f k3 t213 t216).bind fun t219 => (if t219 = 0 then (spec_l9Step.l3 k3 l1 (l1.length : Int) x16_1 l0_1 (l0_1.length : Int) x23_2 y207 (y207.length : Int) x34_3 ((rd_T49 l1 x16_1).f1) (((rd_T49 l1 x16_1).f1).length : Int) 0 a0_0 l0_1 ((rd_T49 l1 x16_1).f0) ((rd_T49 l1 x16_1).f1) ((rd_T48 l0_1 x23_2).f0) ((rd_T48 y207 x34_3).f0)) else (spec_l9Step.l2 k3 l1 (l1.length : Int) x16_1 l0_1 (l0_1.length : Int) x23_2 y207 (y207.length : Int) (wrap64 (x34_3 + 1)) a0_0 l0_1 ((rd_T49 l1 x16_1).f0) ((rd_T49 l1 x16_1).f1) ((rd_T48 l0_1 x23_2).f0))))) = some (r1, r2, r3) := H
                  have A33 := xm A330
                  clear A330
                  replace H := Option.bind_eq_some_iff.mp H
                  obtain ⟨t216, A340, H⟩ := H
                  replace H : ((spec_l1Compare.f k3 t213 t216).bind fun t219 => (if t219 = 0 then (spec_l9Step.l3 k3 l1 (l1.length : Int) x16_1 l0_1 (l0_1.length : Int) x23_2 y207 (y207.length : Int) x34_3 ((rd_T49 l1 x16_1).f1) (((rd_T49 l1 x16_1).f1).length : Int) 0 a0_0 l0_1 ((rd_T49 l1 x16_1).f0) ((rd_T49 l1 x16_1).f1) ((rd_T48 l0_1 x23_2).f0) ((rd_T48 y207 x34_3).f0)) else (spec_l9Step.l2 k3 l1 (l1.length : Int) x16_1 l0_1 (l0_1.length : Int) x23_2 y207 (y207.length : Int) (wrap64 (x34_3 + 1)) a0_0 l0_1 ((rd_T49 l1 x16_1).f0) ((rd_T49 l1 x16_1).f1) ((rd_T48 l0_1 x23_2).f0)))) = some (r1, r2, r3) := H
                  have A34 := xm A340
                  clear A340
                  replace H := Option.bind_eq_some_iff.mp H
                  obtain ⟨t219, A350, H⟩ := H
                  replace H : (if t219 = 0 then (spec_l9Step.l3 k3 l1 (l1.length : Int) x16_1 l0_1 (l0_1.length : Int) x23_2 y207 (y207.length : Int) x34_3 ((rd_T49 l1 x16_1).f1) (((rd_T49 l1 x16_1).f1).length : Int) 0 a0_0 l0_1 ((rd_T49 l1 x16_1).f0) ((rd_T49 l1 x16_1).f1) ((rd_T48 l0_1 x23_2).f0) ((rd_T48 y207 x34_3).f0)) else (spec_l9Step.l2 k3 l1 (l1.length : Int) x16_1 l0_1 (l0_1.length : Int) x23_2 y207 (y207.length : Int) (wrap64 (x34_3 + 1)) a0_0 l0_1 ((rd_T49 l1 x16_1).f0) ((rd_T49 l1 x16_1).f1) ((rd_T48 l0_1 x23_2).f0))) = some (r1, r2, r3) := H
                  have A35 := xm A350
                  clear A350
                  by_cases c36 : t219 = 0
                  ·rw [if_pos c36] at H
                   have c36b0 : (t219 == 0) = true := beq_iff_eq.mpr c36
                   have c36b1 : (t219 != 0) = false := bne_eq_false_iff_eq.mpr c36
                   clear c36
                   have H' := xm H
                   clear H
                   have p211 : 0 ≤ (x34_3 : Int) := of_decide_eq_true aB
                   have q211 : x34_3 < (y207.length : Int) := of_decide_eq_true aB
                   obtain ⟨ad211, A211_0, c211_0, e211, hx211_0, hl211_0, hi211_0⟩ := at_T48 HR210.out x34_3 p211 q211
                   cases e211
                   replace hx211_0 := hU hx211_0
                   have HR211_0 := xm hi211_0
                   have HC211_0 := xm hl211_0
                   clear hi211_0 hl211_0
                   replace p211 := eq_true p211
                   replace q211 := eq_true q211
                   try go_wp2_with (first | ((with_reducible refine gate_dst (N := 11) rfl ?_); refine box_event ?hg (N := 11) ?hd (cs := #[.slice none 0 0]) (t := 48) ?hr ?_; (case hd => rfl); (case hg => rfl); (case hr => exact zB); intro gb212 hg w37 hbox hb; have n0_ := xm (blk_below (kB BK201) hb); have n1_ := xm (blk_below (kB BK202) hb); have n2_ := xm (blk_below (kB BK204) hb); have n3_ := xm (blk_below (kB BK206) hb); have n4_ := xm (below_step bG hb); have n5_ := xm (hbox); have n6_ := xm ((by rw [hg]; exact (xz bG) : w.heap.size ≤ gb212)); have n7_ := xm ((by rw [hg]; exact (xz bG) : w.heap.size ≤ gb212)); have n8_ := xm ((by rw [hg]; exact Nat.ne_of_lt (blk_lt (kB BK201)) : gb201 ≠ gb212)); have n9_ := xm ((by rw [hg]; exact Nat.ne_of_gt (blk_lt (kB BK201)) : gb212 ≠ gb201)); have n10_ := xm ((by rw [hg]; exact Nat.ne_of_lt (blk_lt (kB BK202)) : gb202 ≠ gb212)); have n11_ := xm ((by rw [hg]; exact Nat.ne_of_gt (blk_lt (kB BK202)) : gb212 ≠ gb202)); have n12_ := xm ((by rw [hg]; exact Nat.ne_of_lt (blk_lt (kB BK204)) : gb204 ≠ gb212)); have n13_ := xm ((by rw [hg]; exact Nat.ne_of_gt (blk_lt (kB BK204)) : gb212 ≠ gb204)); have n14_ := xm ((by rw [hg]; exact Nat.ne_of_lt (blk_lt (kB BK206)) : gb206 ≠ gb212)); have n15_ := xm ((by rw [hg]; exact Nat.ne_of_gt (blk_lt (kB BK206)) : gb212 ≠ gb206)); revert n0_ n1_ n2_ n3_ n4_ n5_ n6_ n7_ n8_ n9_ n10_ n11_ n12_ n13_ n14_ n15_; clear BK201 BK202 BK204 BK206 HB; intro BK201 BK202 BK204 BK206 HB BK212 GW212 GE212 NB201_212 NB212_201 NB202_212 NB212_202 NB204_212 NB212_204 NB206_212 NB212_206; clear hb hbox hg; have hnb38 := NB212_201.out; have hnc38 := NB201_212.out; have hnb39 := NB212_202.out; have hnc39 := NB202_212.out; have hnb40 := NB212_204.out; have hnc40 := NB204_212.out; have hnb41 := NB212_206.out; have hnc41 := NB206_212.out; obtain ⟨hcz42_0, hfz42_0⟩ := cz1 BK212.out))
                   have n0_ : Aside0 ((w37.setCell ⟨gb212, 0, none⟩ (.slice A211_0 ((rd_T48 y207 x34_3).f0).length c211_0)).heap[gb201]? = some (.cells #[.int .i64 a0_0, .slice (some ad205) l0_1.length c0_1] 43 (0, 0))) := ⟨by (with_reducible repeat (first | refine xq ?_ _ | refine xr ?_ | refine xo ?_ _)); refine blk_far ?_ NB201_212.out _; (with_reducible repeat (first | refine xq ?_ _ | refine xr ?_ | refine xo ?_ _)); exact BK201.out⟩
                   have n1_ : Aside0 ((w37.setCell ⟨gb212, 0, none⟩ (.slice A211_0 ((rd_T48 y207 x34_3).f0).length c211_0)).heap[gb202]? = some (.cells #[.int .i64 x203000_3, .slice none 0 0] 43 (0, 0))) := ⟨by (with_reducible repeat (first | refine xq ?_ _ | refine xr ?_ | refine xo ?_ _)); refine blk_far ?_ NB202_212.out _; (with_reducible repeat (first | refine xq ?_ _ | refine xr ?_ | refine xo ?_ _)); exact BK202.out⟩
                   have n2_ : Aside0 ((w37.setCell ⟨gb212, 0, none⟩ (.slice A211_0 ((rd_T48 y207 x34_3).f0).length c211_0)).heap[gb204]? = some (.cells #[.slice A203_0 ((rd_T49 l1 x16_1).f0).length c203_0, .slice A203_1 ((rd_T49 l1 x16_1).f1).length c203_1] 49 (0, 0))) := ⟨by (with_reducible repeat (first | refine xq ?_ _ | refine xr ?_ | refine xo ?_ _)); refine blk_far ?_ NB204_212.out _; (with_reducible repeat (first | refine xq ?_ _ | refine xr ?_ | refine xo ?_ _)); exact BK204.out⟩
                   have n3_ : Aside0 ((w37.setCell ⟨gb212, 0, none⟩ (.slice A211_0 ((rd_T48 y207 x34_3).f0).length c211_0)).heap[gb206]? = some (.cells #[.slice A205_0 ((rd_T48 l0_1 x23_2).f0).length c205_0] 48 (0, 0))) := ⟨by (with_reducible repeat (first | refine xq ?_ _ | refine xr ?_ | refine xo ?_ _)); refine blk_far ?_ NB206_212.out _; (with_reducible repeat (first | refine xq ?_ _ | refine xr ?_ | refine xo ?_ _)); exact BK206.out⟩
                   have n4_ : Aside0 ((w37.setCell ⟨gb212, 0, none⟩ (.slice A211_0 ((rd_T48 y207 x34_3).f0).length c211_0)).heap[gb212]? = some (.cells #[.slice A211_0 ((rd_T48 y207 x34_3).f0).length c211_0] 48 (0, 0))) := ⟨by (with_reducible repeat (first | refine xq ?_ _ | refine xr ?_ | refine xo ?_ _)); refine blk_put (cs := #[.slice none 0 0]) ?_ 0 _ rfl; (with_reducible repeat (first | refine xq ?_ _ | refine xr ?_ | refine xo ?_ _)); exact BK212.out⟩
                   have n5_ : Aside0 (Below w.heap.size w (w37.setCell ⟨gb212, 0, none⟩ (.slice A211_0 ((rd_T48 y207 x34_3).f0).length c211_0))) := ⟨bG⟩
                   (try clear BK201)
                   (try clear BK202)
                   (try clear BK204)
                   (try clear BK206)
                   (try clear BK212)
                   (try clear HB)
                   generalize (w37.setCell ⟨gb212, 0, none⟩ (.slice A211_0 ((rd_T48 y207 x34_3).f0).length c211_0)) = w43 at n0_ n1_ n2_ n3_ n4_ n5_ ⊢
                   revert n0_ n1_ n2_ n3_ n4_ n5_; intro BK201 BK202 BK204 BK206 BK212 HB
                   have n0_ := xm (xr BK201.out)
                   have n1_ := xm (xr BK202.out)
                   have n2_ := xm (xr BK204.out)
                   have n3_ := xm (xr BK206.out)
                   have n4_ := xm (xr BK212.out)
                   have n5_ := xm (xd HB.out)
                   revert n0_ n1_ n2_ n3_ n4_ n5_; clear BK201 BK202 BK204 BK206 BK212 HB; intro BK201 BK202 BK204 BK206 BK212 HB
                   refine start_ (n := 10) (S := fun w' => w'.cell? ⟨gb206, 0, none⟩ = some (.slice A205_0 ((rd_T48 l0_1 x23_2).f0).length c205_0) ∧ w'.cell? ⟨gb204, 0, none⟩ = some (.slice A203_0 ((rd_T49 l1 x16_1).f0).length c203_0) ∧ w'.cell? ⟨gb204, 1, none⟩ = some (.slice A203_1 ((rd_T49 l1 x16_1).f1).length c203_1) ∧ w'.cell? ⟨gb212, 0, none⟩ = some (.slice A211_0 ((rd_T48 y207 x34_3).f0).length c211_0)) (ds := []) #[Z,Z,Z,Z,Z,Z,Z,Z,Z,Z] (by kernel_rfl) rfl rfl ⟨(xc BK206.out 0).trans rfl, (xc BK204.out 0).trans rfl, (xc BK204.out 1).trans rfl, (xc BK212.out 0).trans rfl⟩ (fun hHeld => ?_); refine with_tabW spec_l9Step.tab10 spec_l9Step.bits10 (fun HT_ HW_ => ?_)
                   generalize w43.drew = w44 at BK201 BK202 BK204 BK206 BK212 HB hHeld ⊢
                   refine pu 1 10 2 ?_
                   refine pu 5 10 34 ?_
                   refine tx 0 10 35 rfl rfl (take_ofW HT_.out HW_.out (by kernel_rfl)) hHeld (by rintro w' ⟨s0, s1, s2, s3⟩; go_simp; with_reducible rfl) ?_
                   refine tx 2 10 39 rfl rfl (take_ofW HT_.out HW_.out (by kernel_rfl)) hHeld (by rintro w' ⟨s0, s1, s2, s3⟩; go_simp; with_reducible rfl) ?_
                   refine tx 4 10 55 rfl rfl (take_ofW HT_.out HW_.out (by kernel_rfl)) hHeld (by rintro w' ⟨s0, s1, s2, s3⟩; go_simp; with_reducible rfl) ?_
                   refine tx 6 10 119 rfl rfl (take_ofW HT_.out HW_.out (by kernel_rfl)) hHeld (by rintro w' ⟨s0, s1, s2, s3⟩; go_simp; with_reducible rfl) ?_
                   refine one_ (i := 3) (N := some 41) #[Y,Y,Y,Y,Y,Y,Y,Z,Z,Z] rfl rfl (one_of HT_.out (by kernel_rfl)) (by decide) (fun K hK => ?_)
                   refine goes_ Try.func50 (by kernel_rfl) rfl #[.agg #[.slice A205_0 ((rd_T48 l0_1 x23_2).f0).length c205_0], .slice A203_0 ((rd_T49 l1 x16_1).f0).length c203_0] (by rfl) rfl rfl mB ?_
                   with_reducible refine (spec_l1Pick.calls k3 _ _ ((rd_T48 l0_1 x23_2).f0) _ _ ((rd_T49 l1 x16_1).f0) t213 _ ?side1 ?side2 ?side3 ?side4 A33.out).mono ?_
                   (case side1 => exact cB (Kd.C_below HR205_0.out HB.out))
                   (case side2 => exact HC205_0.out)
                   (case side3 => exact cB (Kd.C_below HR203_0.out HB.out))
                   (case side4 => exact HC203_0.out)
                   rintro e w45 ⟨v214, rfl, ho0, hb⟩
                   refine ⟨_, rfl, ?_⟩
                   have n0_ := xm (Kd.R_lower ho0 (xz bG))
                   have n1_ := xm (blk_below (kB BK201) hb)
                   have n2_ := xm (blk_below (kB BK202) hb)
                   have n3_ := xm (blk_below (kB BK204) hb)
                   have n4_ := xm (blk_below (kB BK206) hb)
                   have n5_ := xm (blk_below (kB BK212) hb)
                   have n6_ := xm (below_step bG hb)
                   revert n0_ n1_ n2_ n3_ n4_ n5_ n6_; clear BK201 BK202 BK204 BK206 BK212 HB; intro HO215 BK201 BK202 BK204 BK206 BK212 HB
                   (try clear hb)
                   (try clear hb2)
                   (try clear hk)
                   (try clear hi)
                   (try clear ho0)
                   refine hK.out _ _ ⟨(xc BK206.out 0).trans rfl, (xc BK204.out 0).trans rfl, (xc BK204.out 1).trans rfl, (xc BK212.out 0).trans rfl⟩ (fun hHeld => nC ?_)
                   clear hK K
                   refine one_ (i := 7) (N := some 45) #[Y,Y,Y,Y,Y,Y,Y,Y,Z,Z] rfl rfl (one_of HT_.out (by kernel_rfl)) (by decide) (fun K hK => ?_)
                   refine goes_ Try.func50 (by kernel_rfl) rfl #[.agg #[.slice A211_0 ((rd_T48 y207 x34_3).f0).length c211_0], .slice A203_0 ((rd_T49 l1 x16_1).f0).length c203_0] (by rfl) rfl rfl mB ?_
                   with_reducible refine (spec_l1Pick.calls k3 _ _ ((rd_T48 y207 x34_3).f0) _ _ ((rd_T49 l1 x16_1).f0) t216 _ ?side1 ?side2 ?side3 ?side4 A34.out).mono ?_
                   (case side1 => exact cB (Kd.C_below HR211_0.out HB.out))
                   (case side2 => exact HC211_0.out)
                   (case side3 => exact cB (Kd.C_below HR203_0.out HB.out))
                   (case side4 => exact HC203_0.out)
                   rintro e w46 ⟨v217, rfl, ho0, hb⟩
                   refine ⟨_, rfl, ?_⟩
                   have n0_ := xm (Kd.R_elder' (rB HO215) (Kd.R_base ho0) hb)
                   have n1_ := xm (Kd.R_lower (Kd.R_new' ho0 (Kd.R_lt (rB HO215))) (xz bG))
                   have n2_ := xm (blk_below (kB BK201) hb)
                   have n3_ := xm (blk_below (kB BK202) hb)
                   have n4_ := xm (blk_below (kB BK204) hb)
                   have n5_ := xm (blk_below (kB BK206) hb)
                   have n6_ := xm (blk_below (kB BK212) hb)
                   have n7_ := xm (below_step bG hb)
                   revert n0_ n1_ n2_ n3_ n4_ n5_ n6_ n7_; clear HO215 BK201 BK202 BK204 BK206 BK212 HB; intro HO215 HO218 BK201 BK202 BK204 BK206 BK212 HB
                   (try clear hb)
                   (try clear hb2)
                   (try clear hk)
                   (try clear hi)
                   (try clear ho0)
                   obtain ⟨Ao47, co47, eo47⟩ := Kd.R_slice HO215.out
                   (first | subst eo47 | (injection eo47 with f1_ f2_ f3_; have f4_ := f1_.symm; have f5_ := f3_.symm; clear f1_ f2_ f3_; subst f4_; subst f5_))
                   obtain ⟨Ao48, co48, eo48⟩ := Kd.R_slice HO218.out
                   (first | subst eo48 | (injection eo48 with f1_ f2_ f3_; have f4_ := f1_.symm; have f5_ := f3_.symm; clear f1_ f2_ f3_; subst f4_; subst f5_))
                   refine hK.out _ _ ⟨(xc BK206.out 0).trans rfl, (xc BK204.out 0).trans rfl, (xc BK204.out 1).trans rfl, (xc BK212.out 0).trans rfl⟩ (fun hHeld => nC ?_)
                   clear hK K
                   refine one_ (i := 8) (N := some 46) #[Y,Y,Y,Y,Y,Y,Y,Y,Y,Z] rfl rfl (one_of HT_.out (by kernel_rfl)) (by decide) (fun K hK => ?_)
                   refine goes_ Try.func49 (by kernel_rfl) rfl #[.agg #[.slice Ao47 t213.length co47], .agg #[.slice Ao48 t216.length co48]] (by rfl) rfl rfl mB ?_
                   with_reducible refine (spec_l1Compare.calls k3 _ _ t213 _ _ t216 t219 _ ?side1 ?side2 ?side3 ?side4 A35.out).mono ?_
                   (case side1 => repeat (first | exact (Kd.R_reads' HO215.out).2.2 | (with_reducible refine Kd.C_alloc ?_ _) | (with_reducible refine Kd.C_drewN ?_ _) | (with_reducible refine Kd.C_drew ?_)))
                   (case side2 => exact (Kd.R_reads' HO215.out).2.1)
                   (case side3 => repeat (first | exact (Kd.R_reads' HO218.out).2.2 | (with_reducible refine Kd.C_alloc ?_ _) | (with_reducible refine Kd.C_drewN ?_ _) | (with_reducible refine Kd.C_drew ?_)))
                   (case side4 => exact (Kd.R_reads' HO218.out).2.1)
                   rintro e w49 ⟨rfl, hb⟩
                   refine ⟨_, rfl, ?_⟩
                   have n0_ := xm (Kd.R_below (rB HO215) hb)
                   have n1_ := xm (Kd.R_below (rB HO218) hb)
                   have n2_ := xm (blk_below (kB BK201) hb)
                   have n3_ := xm (blk_below (kB BK202) hb)
                   have n4_ := xm (blk_below (kB BK204) hb)
                   have n5_ := xm (blk_below (kB BK206) hb)
                   have n6_ := xm (blk_below (kB BK212) hb)
                   have n7_ := xm (below_step bG hb)
                   revert n0_ n1_ n2_ n3_ n4_ n5_ n6_ n7_; clear HO215 HO218 BK201 BK202 BK204 BK206 BK212 HB; intro HO215 HO218 BK201 BK202 BK204 BK206 BK212 HB
                   (try clear hb)
                   (try clear hb2)
                   (try clear hk)
                   (try clear hi)
                   refine hK.out _ _ ⟨(xc BK206.out 0).trans rfl, (xc BK204.out 0).trans rfl, (xc BK204.out 1).trans rfl, (xc BK212.out 0).trans rfl⟩ (fun hHeld => nC ?_)
                   clear hK K
                   refine pu 9 10 1023 ?_
                   refine done_ (done_of HT_.out (by kernel_rfl)) ?_
                   have hnb50 := NB204_201.out
                   have hnc50 := NB201_204.out
                   have hnb51 := NB204_202.out
                   have hnc51 := NB202_204.out
                   have hnb52 := NB204_206.out
                   have hnc52 := NB206_204.out
                   obtain ⟨hcz53_0, hcz53_1, hfz53_0, hfz53_1⟩ := cz2 BK204.out
                   try go_wp2
                   go_loopg [51] k3 (fun kq v51 w' => ∃ (x51_4 : Int) (x203000_4 : Int), v51 = .int .i64 x51_4 ∧ Aside0 (spec_l9Step.l3 kq l1 (l1.length : Int) x16_1 l0_1 (l0_1.length : Int) x23_2 y207 (y207.length : Int) x34_3 ((rd_T49 l1 x16_1).f1) (((rd_T49 l1 x16_1).f1).length : Int) x51_4 a0_0 l0_1 ((rd_T49 l1 x16_1).f0) ((rd_T49 l1 x16_1).f1) ((rd_T48 l0_1 x23_2).f0) ((rd_T48 y207 x34_3).f0) = some (r1, r2, r3)) ∧ Aside0 (kq ≤ k3) ∧ Aside0 (w'.heap[gb201]? = some (.cells #[.int .i64 a0_0, (.slice (some ad205) l0_1.length c0_1)] 43 (0, 0))) ∧ Aside0 (w'.heap[gb202]? = some (.cells #[.int .i64 x203000_4, (.slice none 0 0)] 43 (0, 0))) ∧ Aside0 (w'.heap[gb204]? = some (.cells #[(.slice A203_0 ((rd_T49 l1 x16_1).f0).length c203_0), (.slice A203_1 ((rd_T49 l1 x16_1).f1).length c203_1)] 49 (0, 0))) ∧ Aside0 (w'.heap[gb206]? = some (.cells #[(.slice A205_0 ((rd_T48 l0_1 x23_2).f0).length c205_0)] 48 (0, 0))) ∧ Aside0 (w'.heap[gb212]? = some (.cells #[(.slice A211_0 ((rd_T48 y207 x34_3).f0).length c211_0)] 48 (0, 0))) ∧ Aside0 (Below w.heap.size w w'))
                   case atStart => exact ⟨(0), (x203000_3), sB, H', ⟨Nat.le_refl _⟩, ⟨kB BK201⟩, ⟨kB BK202⟩, ⟨kB BK204⟩, ⟨kB BK206⟩, ⟨kB BK212⟩, ⟨bG⟩⟩
                   case round =>
                    clear H'
                    try clear c1
                    try clear c2
                    try clear p2
                    try clear q2
                    try clear hx2
                    try clear c3
                    try clear c4
                    try clear c5
                    try clear c5b0
                    try clear c6
                    try clear c6b0
                    try clear p6
                    try clear c7
                    try clear c7b0
                    try clear c9
                    try clear c10
                    try clear c12
                    try clear c14
                    try clear c14b0
                    try clear c15
                    try clear c15b0
                    try clear c16
                    try clear c16b0
                    try clear c18
                    try clear c18b0 c18b1
                    try clear c19
                    try clear c19b0 c19b1
                    try clear c20
                    try clear p20
                    try clear q20
                    try clear hx20
                    try clear c21
                    try clear p21
                    try clear q21
                    try clear hx21
                    try clear c22
                    try clear c23
                    try clear c26
                    try clear c27
                    try clear c29
                    try clear q29
                    try clear c30
                    try clear c30b0
                    try clear c31
                    try clear c31b0
                    try clear c32
                    try clear c32b0
                    try clear c34
                    try clear c36
                    try clear c36b0 c36b1
                    try clear c38
                    try clear c39
                    try clear c40
                    try clear c41
                    try clear c49
                    try clear c50
                    try clear c51
                    try clear c52
                    try clear hcz11_0 hcz11_1
                    try clear hcz13_0 hcz13_1
                    try clear hcz24_0
                    try clear hcz28_0 hcz28_1
                    try clear hcz42_0
                    try clear hcz53_0 hcz53_1
                    try clear hfz11_0 hfz11_1
                    try clear hfz13_0 hfz13_1
                    try clear hfz24_0
                    try clear hfz28_0 hfz28_1
                    try clear hfz42_0
                    try clear hfz53_0 hfz53_1
                    try clear hx203_0
                    try clear hx203_1
                    try clear hx205_0
                    try clear hx211_0
                    try clear p2
                    try clear p20
                    try clear p203
                    try clear p205
                    try clear p211
                    try clear p6
                    try clear q029
                    try clear q2
                    try clear q20
                    try clear q203
                    try clear q205
                    try clear q211
                    try clear q29
                    obtain ⟨x51_4, x203000_4, rfl, HA, HK4, BK201, BK202, BK204, BK206, BK212, HB⟩ := hrel
                    cases gk with
                    | zero => exact absurd HA.out (by simp [spec_l9Step.l3])
                    | succ k4 =>
                     have H := HA.out
                     clear HA
                     simp only [spec_l9Step.l3] at H
                     by_cases c54 : x51_4 < (((rd_T49 l1 x16_1).f1).length : Int)
                     ·rw [if_pos c54] at H
                      have c54b0 : decide (x51_4 < (((rd_T49 l1 x16_1).f1).length : Int)) = true := decide_eq_true c54
                      clear c54
                      by_cases c55 : 0 ≤ x51_4
                      ·rw [if_pos c55] at H
                       have c55b0 : decide (0 ≤ x51_4) = true := decide_eq_true c55
                       clear c55
                       by_cases c56 : x51_4 < (((rd_T49 l1 x16_1).f1).length : Int)
                       ·rw [if_pos c56] at H
                        have c56b0 : decide (x51_4 < (((rd_T49 l1 x16_1).f1).length : Int)) = true := decide_eq_true c56
                        clear c56
                        by_cases c57 : 0 ≤ (rd ((rd_T49 l1 x16_1).f1) x51_4)
                        ·rw [if_pos c57] at H
                         have c57b0 : decide (0 ≤ (rd ((rd_T49 l1 x16_1).f1) x51_4)) = true := decide_eq_true c57
                         clear c57
                         by_cases c58 : (rd ((rd_T49 l1 x16_1).f1) x51_4) < (((rd_T48 l0_1 x23_2).f0).length : Int)
                         ·rw [if_pos c58] at H
                          have c58b0 : decide ((rd ((rd_T49 l1 x16_1).f1) x51_4) < (((rd_T48 l0_1 x23_2).f0).length : Int)) = true := decide_eq_true c58
                          clear c58
                          by_cases c59 : (rd ((rd_T49 l1 x16_1).f1) x51_4) < (((rd_T48 y207 x34_3).f0).length : Int)
                          ·rw [if_pos c59] at H
                           have c59b0 : decide ((rd ((rd_T49 l1 x16_1).f1) x51_4) < (((rd_T48 y207 x34_3).f0).length : Int)) = true := decide_eq_true c59
                           clear c59
                           by_cases c60 : (rd ((rd_T48 l0_1 x23_2).f0) (rd ((rd_T49 l1 x16_1).f1) x51_4)) = (rd ((rd_T48 y207 x34_3).f0) (rd ((rd_T49 l1 x16_1).f1) x51_4))
                           ·rw [if_pos c60] at H
                            have c60b0 : ((rd ((rd_T48 l0_1 x23_2).f0) (rd ((rd_T49 l1 x16_1).f1) x51_4)) == (rd ((rd_T48 y207 x34_3).f0) (rd ((rd_T49 l1 x16_1).f1) x51_4))) = true := beq_iff_eq.mpr c60
                            have c60b1 : ((rd ((rd_T48 l0_1 x23_2).f0) (rd ((rd_T49 l1 x16_1).f1) x51_4)) != (rd ((rd_T48 y207 x34_3).f0) (rd ((rd_T49 l1 x16_1).f1) x51_4))) = false := bne_eq_false_iff_eq.mpr c60
                            clear c60
                            have H' := xm H
                            clear H
                            have p220 : 0 ≤ (x51_4 : Int) := of_decide_eq_true aB
                            have q220 : x51_4 < (((rd_T49 l1 x16_1).f1).length : Int) := of_decide_eq_true aB
                            obtain ⟨ad220, e220, hx220_0⟩ := Kd.at_int HR203_1.out x51_4 p220 q220
                            cases e220
                            replace hx220_0 := hU hx220_0
                            replace p220 := eq_true p220
                            replace q220 := eq_true q220
                            try go_wp2
                            have n0_ := xm (xr BK201.out)
                            have n1_ := xm (xr BK202.out)
                            have n2_ := xm (xr BK204.out)
                            have n3_ := xm (xr BK206.out)
                            have n4_ := xm (xr BK212.out)
                            have n5_ := xm (xd HB.out)
                            revert n0_ n1_ n2_ n3_ n4_ n5_; clear BK201 BK202 BK204 BK206 BK212 HB; intro BK201 BK202 BK204 BK206 BK212 HB
                            have p221 : 0 ≤ ((rd ((rd_T49 l1 x16_1).f1) x51_4) : Int) := of_decide_eq_true aB
                            have q221 : (rd ((rd_T49 l1 x16_1).f1) x51_4) < (((rd_T48 l0_1 x23_2).f0).length : Int) := of_decide_eq_true aB
                            obtain ⟨ad221, e221, hx221_0⟩ := Kd.at_int HR205_0.out (rd ((rd_T49 l1 x16_1).f1) x51_4) p221 q221
                            have hw221_0 := hx221_0
                            cases e221
                            replace hx221_0 := hU hx221_0
                            replace p221 := eq_true p221
                            replace q221 := eq_true q221
                            have p222 : 0 ≤ ((rd ((rd_T49 l1 x16_1).f1) x51_4) : Int) := of_decide_eq_true aB
                            have q222 : (rd ((rd_T49 l1 x16_1).f1) x51_4) < (((rd_T48 y207 x34_3).f0).length : Int) := of_decide_eq_true aB
                            obtain ⟨ad222, e222, hx222_0⟩ := Kd.at_int HR211_0.out (rd ((rd_T49 l1 x16_1).f1) x51_4) p222 q222
                            have hw222_0 := hx222_0
                            cases e222
                            replace hx222_0 := hU hx222_0
                            replace p222 := eq_true p222
                            replace q222 := eq_true q222
                            refine start_ (n := 11) (S := fun w' => w'.cell? ⟨gb206, 0, none⟩ = some (.slice (some ad221) ((rd_T48 l0_1 x23_2).f0).length c205_0) ∧ w'.cell? ⟨gb212, 0, none⟩ = some (.slice (some ad222) ((rd_T48 y207 x34_3).f0).length c211_0) ∧ w'.cell? (ad221.add ((rd ((rd_T49 l1 x16_1).f1) x51_4)).toNat) = some (.int .i64 (rd ((rd_T48 l0_1 x23_2).f0) (rd ((rd_T49 l1 x16_1).f1) x51_4))) ∧ w'.cell? (ad222.add ((rd ((rd_T49 l1 x16_1).f1) x51_4)).toNat) = some (.int .i64 (rd ((rd_T48 y207 x34_3).f0) (rd ((rd_T49 l1 x16_1).f1) x51_4)))) (ds := []) #[Z,Z,Z,Z,Z,Z,Z,Z,Z,Z,Z] (by kernel_rfl) rfl rfl ⟨(xc BK206.out 0).trans rfl, (xc BK212.out 0).trans rfl, ((HB.out.cell (World.block_lt_of_cell? w _ hw221_0)).trans hw221_0), ((HB.out.cell (World.block_lt_of_cell? w _ hw222_0)).trans hw222_0)⟩ (fun hHeld => ?_); refine with_tabW spec_l9Step.tab14 spec_l9Step.bits14 (fun HT_ HW_ => ?_)
                            generalize wr.drew = w61 at BK201 BK202 BK204 BK206 BK212 HB hx221_0 hx222_0 hHeld ⊢
                            refine pu 0 11 1 ?_
                            refine pu 2 11 5 ?_
                            refine pu 5 11 37 ?_
                            refine pu 7 11 165 ?_
                            refine tx 1 11 167 rfl rfl (take_ofW HT_.out HW_.out (by kernel_rfl)) hHeld (by rintro w' ⟨s0, s1, s2, s3⟩; go_simp; with_reducible rfl) ?_
                            refine pu 3 11 175 ?_
                            refine tx 4 11 191 rfl rfl (take_ofW HT_.out HW_.out (by kernel_rfl)) hHeld (by rintro w' ⟨s0, s1, s2, s3⟩; go_simp; with_reducible rfl) ?_
                            refine tx 6 11 255 rfl rfl (take_ofW HT_.out HW_.out (by kernel_rfl)) hHeld (by rintro w' ⟨s0, s1, s2, s3⟩; go_simp; with_reducible rfl) ?_
                            refine pu 8 11 511 ?_
                            refine tx 9 11 1023 rfl rfl (take_ofW HT_.out HW_.out (by kernel_rfl)) hHeld (by rintro w' ⟨s0, s1, s2, s3⟩; go_simp; with_reducible rfl) ?_
                            refine pu 10 11 2047 ?_
                            refine done_ (done_of HT_.out (by kernel_rfl)) ?_
                            try go_wp2
                            go_roundg k4
                            case measure => have := HK1.out; have := HK2.out; have := HK3.out; have := HK4.out; omega
                            case rel => exact ⟨(wrap64 (x51_4 + 1)), (x203000_4), sB, H', ⟨by have := HK1.out; have := HK2.out; have := HK3.out; have := HK4.out; omega⟩, ⟨kB BK201⟩, ⟨kB BK202⟩, ⟨kB BK204⟩, ⟨kB BK206⟩, ⟨kB BK212⟩, ⟨bG⟩⟩
                           ·rw [if_neg c60] at H
                            have c60b0 : ((rd ((rd_T48 l0_1 x23_2).f0) (rd ((rd_T49 l1 x16_1).f1) x51_4)) == (rd ((rd_T48 y207 x34_3).f0) (rd ((rd_T49 l1 x16_1).f1) x51_4))) = false := beq_eq_false_iff_ne.mpr c60
                            have c60b1 : ((rd ((rd_T48 l0_1 x23_2).f0) (rd ((rd_T49 l1 x16_1).f1) x51_4)) != (rd ((rd_T48 y207 x34_3).f0) (rd ((rd_T49 l1 x16_1).f1) x51_4))) = true := bne_iff_ne.mpr c60
                            replace H := Option.bind_eq_some_iff.mp H
                            obtain ⟨⟨t225, t226⟩, A620, H⟩ := H
                            replace H : (some (t225, t226, true)) = some (r1, r2, r3) := H
                            have A62 := xm A620
                            clear A620
                            simp only [Option.some.injEq, Prod.mk.injEq] at H
                            obtain ⟨rfl, rfl, rfl⟩ := H
                            have p220 : 0 ≤ (x51_4 : Int) := of_decide_eq_true aB
                            have q220 : x51_4 < (((rd_T49 l1 x16_1).f1).length : Int) := of_decide_eq_true aB
                            obtain ⟨ad220, e220, hx220_0⟩ := Kd.at_int HR203_1.out x51_4 p220 q220
                            cases e220
                            replace hx220_0 := hU hx220_0
                            replace p220 := eq_true p220
                            replace q220 := eq_true q220
                            try go_wp2
                            have n0_ := xm (xr BK201.out)
                            have n1_ := xm (xr BK202.out)
                            have n2_ := xm (xr BK204.out)
                            have n3_ := xm (xr BK206.out)
                            have n4_ := xm (xr BK212.out)
                            have n5_ := xm (xd HB.out)
                            revert n0_ n1_ n2_ n3_ n4_ n5_; clear BK201 BK202 BK204 BK206 BK212 HB; intro BK201 BK202 BK204 BK206 BK212 HB
                            have p221 : 0 ≤ ((rd ((rd_T49 l1 x16_1).f1) x51_4) : Int) := of_decide_eq_true aB
                            have q221 : (rd ((rd_T49 l1 x16_1).f1) x51_4) < (((rd_T48 l0_1 x23_2).f0).length : Int) := of_decide_eq_true aB
                            obtain ⟨ad221, e221, hx221_0⟩ := Kd.at_int HR205_0.out (rd ((rd_T49 l1 x16_1).f1) x51_4) p221 q221
                            have hw221_0 := hx221_0
                            cases e221
                            replace hx221_0 := hU hx221_0
                            replace p221 := eq_true p221
                            replace q221 := eq_true q221
                            have p222 : 0 ≤ ((rd ((rd_T49 l1 x16_1).f1) x51_4) : Int) := of_decide_eq_true aB
                            have q222 : (rd ((rd_T49 l1 x16_1).f1) x51_4) < (((rd_T48 y207 x34_3).f0).length : Int) := of_decide_eq_true aB
                            obtain ⟨ad222, e222, hx222_0⟩ := Kd.at_int HR211_0.out (rd ((rd_T49 l1 x16_1).f1) x51_4) p222 q222
                            have hw222_0 := hx222_0
                            cases e222
                            replace hx222_0 := hU hx222_0
                            replace p222 := eq_true p222
                            replace q222 := eq_true q222
                            refine start_ (n := 11) (S := fun w' => w'.cell? ⟨gb206, 0, none⟩ = some (.slice (some ad221) ((rd_T48 l0_1 x23_2).f0).length c205_0) ∧ w'.cell? ⟨gb212, 0, none⟩ = some (.slice (some ad222) ((rd_T48 y207 x34_3).f0).length c211_0) ∧ w'.cell? (ad221.add ((rd ((rd_T49 l1 x16_1).f1) x51_4)).toNat) = some (.int .i64 (rd ((rd_T48 l0_1 x23_2).f0) (rd ((rd_T49 l1 x16_1).f1) x51_4))) ∧ w'.cell? (ad222.add ((rd ((rd_T49 l1 x16_1).f1) x51_4)).toNat) = some (.int .i64 (rd ((rd_T48 y207 x34_3).f0) (rd ((rd_T49 l1 x16_1).f1) x51_4)))) (ds := []) #[Z,Z,Z,Z,Z,Z,Z,Z,Z,Z,Z] (by kernel_rfl) rfl rfl ⟨(xc BK206.out 0).trans rfl, (xc BK212.out 0).trans rfl, ((HB.out.cell (World.block_lt_of_cell? w _ hw221_0)).trans hw221_0), ((HB.out.cell (World.block_lt_of_cell? w _ hw222_0)).trans hw222_0)⟩ (fun hHeld => ?_); refine with_tabW spec_l9Step.tab14 spec_l9Step.bits14 (fun HT_ HW_ => ?_)
                            generalize wr.drew = w63 at BK201 BK202 BK204 BK206 BK212 HB hx221_0 hx222_0 hHeld ⊢
                            refine pu 0 11 1 ?_
                            refine pu 2 11 5 ?_
                            refine pu 5 11 37 ?_
                            refine pu 7 11 165 ?_
                            refine tx 1 11 167 rfl rfl (take_ofW HT_.out HW_.out (by kernel_rfl)) hHeld (by rintro w' ⟨s0, s1, s2, s3⟩; go_simp; with_reducible rfl) ?_
                            refine pu 3 11 175 ?_
                            refine tx 4 11 191 rfl rfl (take_ofW HT_.out HW_.out (by kernel_rfl)) hHeld (by rintro w' ⟨s0, s1, s2, s3⟩; go_simp; with_reducible rfl) ?_
                            refine tx 6 11 255 rfl rfl (take_ofW HT_.out HW_.out (by kernel_rfl)) hHeld (by rintro w' ⟨s0, s1, s2, s3⟩; go_simp; with_reducible rfl) ?_
                            refine pu 8 11 511 ?_
                            refine tx 9 11 1023 rfl rfl (take_ofW HT_.out HW_.out (by kernel_rfl)) hHeld (by rintro w' ⟨s0, s1, s2, s3⟩; go_simp; with_reducible rfl) ?_
                            refine pu 10 11 2047 ?_
                            refine done_ (done_of HT_.out (by kernel_rfl)) ?_
                            try go_wp2
                            have n0_ := xm (xr BK201.out)
                            have n1_ := xm (xr BK202.out)
                            have n2_ := xm (xr BK204.out)
                            have n3_ := xm (xr BK206.out)
                            have n4_ := xm (xr BK212.out)
                            have n5_ := xm (xd HB.out)
                            revert n0_ n1_ n2_ n3_ n4_ n5_; clear BK201 BK202 BK204 BK206 BK212 HB; intro BK201 BK202 BK204 BK206 BK212 HB
                            have p223 : 0 ≤ ((rd ((rd_T49 l1 x16_1).f1) x51_4) : Int) := of_decide_eq_true aB
                            have q223 : (rd ((rd_T49 l1 x16_1).f1) x51_4) < (((rd_T48 l0_1 x23_2).f0).length : Int) := of_decide_eq_true aB
                            obtain ⟨ad223, e223, hx223_0⟩ := Kd.at_int HR205_0.out (rd ((rd_T49 l1 x16_1).f1) x51_4) p223 q223
                            have hw223_0 := hx223_0
                            obtain rfl : ad221 = ad223 := (by injection e223)
                            replace hx223_0 := hU hx223_0
                            replace p223 := eq_true p223
                            replace q223 := eq_true q223
                            have p224 : 0 ≤ ((rd ((rd_T49 l1 x16_1).f1) x51_4) : Int) := of_decide_eq_true aB
                            have q224 : (rd ((rd_T49 l1 x16_1).f1) x51_4) < (((rd_T48 y207 x34_3).f0).length : Int) := of_decide_eq_true aB
                            obtain ⟨ad224, e224, hx224_0⟩ := Kd.at_int HR211_0.out (rd ((rd_T49 l1 x16_1).f1) x51_4) p224 q224
                            have hw224_0 := hx224_0
                            obtain rfl : ad222 = ad224 := (by injection e224)
                            replace hx224_0 := hU hx224_0
                            replace p224 := eq_true p224
                            replace q224 := eq_true q224
                            refine start_ (n := 15) (S := fun w' => w'.cell? ⟨gb201, 0, none⟩ = some (.int .i64 a0_0) ∧ w'.cell? ⟨gb201, 1, none⟩ = some (.slice (some ad205) l0_1.length c0_1) ∧ w'.cell? ⟨gb206, 0, none⟩ = some (.slice (some ad221) ((rd_T48 l0_1 x23_2).f0).length c205_0) ∧ w'.cell? ⟨gb212, 0, none⟩ = some (.slice (some ad222) ((rd_T48 y207 x34_3).f0).length c211_0) ∧ w'.cell? (ad221.add ((rd ((rd_T49 l1 x16_1).f1) x51_4)).toNat) = some (.int .i64 (rd ((rd_T48 l0_1 x23_2).f0) (rd ((rd_T49 l1 x16_1).f1) x51_4))) ∧ w'.cell? (ad222.add ((rd ((rd_T49 l1 x16_1).f1) x51_4)).toNat) = some (.int .i64 (rd ((rd_T48 y207 x34_3).f0) (rd ((rd_T49 l1 x16_1).f1) x51_4)))) (ds := []) #[Z,Z,Z,Z,Z,Z,Z,Z,Z,Z,Z,Z,Z,Z,Z] (by kernel_rfl) rfl rfl ⟨(xc BK201.out 0).trans rfl, (xc BK201.out 1).trans rfl, (xc BK206.out 0).trans rfl, (xc BK212.out 0).trans rfl, ((HB.out.cell (World.block_lt_of_cell? w _ hw223_0)).trans hw223_0), ((HB.out.cell (World.block_lt_of_cell? w _ hw224_0)).trans hw224_0)⟩ (fun hHeld => ?_); refine with_tabW spec_l9Step.tab15 spec_l9Step.bits15 (fun HT_ HW_ => ?_)
                            generalize w63.drew = w64 at BK201 BK202 BK204 BK206 BK212 HB hx223_0 hx224_0 hHeld ⊢
                            refine pu 1 15 2 ?_
                            refine pu 2 15 6 ?_
                            refine pu 4 15 22 ?_
                            refine pu 7 15 150 ?_
                            refine pu 9 15 662 ?_
                            refine tx 0 15 663 rfl rfl (take_ofW HT_.out HW_.out (by kernel_rfl)) hHeld (by rintro w' ⟨s0, s1, s2, s3, s4, s5⟩; go_simp; with_reducible rfl) ?_
                            refine tx 3 15 671 rfl rfl (take_ofW HT_.out HW_.out (by kernel_rfl)) hHeld (by rintro w' ⟨s0, s1, s2, s3, s4, s5⟩; go_simp; with_reducible rfl) ?_
                            refine pu 5 15 703 ?_
                            refine tx 6 15 767 rfl rfl (take_ofW HT_.out HW_.out (by kernel_rfl)) hHeld (by rintro w' ⟨s0, s1, s2, s3, s4, s5⟩; go_simp; with_reducible rfl) ?_
                            refine tx 8 15 1023 rfl rfl (take_ofW HT_.out HW_.out (by kernel_rfl)) hHeld (by rintro w' ⟨s0, s1, s2, s3, s4, s5⟩; go_simp; with_reducible rfl) ?_
                            refine pu 10 15 2047 ?_
                            refine tx 11 15 4095 rfl rfl (take_ofW HT_.out HW_.out (by kernel_rfl)) hHeld (by rintro w' ⟨s0, s1, s2, s3, s4, s5⟩; go_simp; with_reducible rfl) ?_
                            refine one_ (i := 12) (N := some 78) #[Y,Y,Y,Y,Y,Y,Y,Y,Y,Y,Y,Y,Y,Z,Z] rfl rfl (one_of HT_.out (by kernel_rfl)) (by decide) (fun K hK => ?_)
                            refine goes_ Try.func51 (by kernel_rfl) rfl #[.agg #[.int .i64 a0_0, .slice (some ad205) l0_1.length c0_1], .int .i64 (rd ((rd_T49 l1 x16_1).f1) x51_4), .int .i64 (rd ((rd_T48 l0_1 x23_2).f0) (rd ((rd_T49 l1 x16_1).f1) x51_4)), .int .i64 (rd ((rd_T48 y207 x34_3).f0) (rd ((rd_T49 l1 x16_1).f1) x51_4))] (by rfl) rfl rfl mB ?_
                            with_reducible refine (spec_l9Made.calls k4 a0_0 _ _ l0_1 (rd ((rd_T49 l1 x16_1).f1) x51_4) (rd ((rd_T48 l0_1 x23_2).f0) (rd ((rd_T49 l1 x16_1).f1) x51_4)) (rd ((rd_T48 y207 x34_3).f0) (rd ((rd_T49 l1 x16_1).f1) x51_4)) t225 t226 _ ?side1 ?side2 A62.out).mono ?_
                            (case side1 => exact cB (Kd.C_below HR0_1.out HB.out))
                            (case side2 => exact HC0_1.out)
                            rintro e w65 ⟨v227, rfl, ho0, hb⟩
                            refine ⟨_, rfl, ?_⟩
                            have n0_ := xm (Kd.S_lower (Kd.S_newB (Kd.S_newB ho0 (kB BK206)) (kB BK212)) (xz bG))
                            have n1_ := xm (blk_below (kB BK201) hb)
                            have n2_ := xm (blk_below (kB BK202) hb)
                            have n3_ := xm (blk_below (kB BK204) hb)
                            have n4_ := xm (blk_below (kB BK206) hb)
                            have n5_ := xm (blk_below (kB BK212) hb)
                            have n6_ := xm (below_step bG hb)
                            revert n0_ n1_ n2_ n3_ n4_ n5_ n6_; clear BK201 BK202 BK204 BK206 BK212 HB; intro HO228 BK201 BK202 BK204 BK206 BK212 HB
                            (try clear hb)
                            (try clear hb2)
                            (try clear hk)
                            (try clear hi)
                            (try clear ho0)
                            obtain ⟨Ao67, co67, eo67⟩ := Kd.S_slice HO228.out
                            (first | subst eo67 | (injection eo67 with f1_ f2_ f3_; have f4_ := f1_.symm; have f5_ := f3_.symm; clear f1_ f2_ f3_; subst f4_; subst f5_))
                            refine hK.out _ _ ⟨(xc BK201.out 0).trans rfl, (xc BK201.out 1).trans rfl, (xc BK206.out 0).trans rfl, (xc BK212.out 0).trans rfl, ((HB.out.cell (World.block_lt_of_cell? w _ hw223_0)).trans hw223_0), ((HB.out.cell (World.block_lt_of_cell? w _ hw224_0)).trans hw224_0)⟩ (fun hHeld => nC ?_)
                            clear hK K
                            refine one_ (i := 13) (N := none) #[Y,Y,Y,Y,Y,Y,Y,Y,Y,Y,Y,Y,Y,Y,Z] rfl rfl (one_of HT_.out (by kernel_rfl)) (by decide) (fun K hK => ?_)
                            have hs66 : w65.cell? ⟨gb202, 0, none⟩ = some (.int .i64 x203000_4) := (xc BK202.out 0).trans rfl
                            have hfs66 := xf BK202.out 0
                            have hns66_0 := NB201_202.out
                            have hns66_2 := NB204_202.out
                            have hns66_3 := NB206_202.out
                            have hns66_4 := NB212_202.out
                            have hms66_0 := NB202_201.out
                            have hms66_2 := NB202_204.out
                            have hms66_3 := NB202_206.out
                            have hms66_4 := NB202_212.out
                            have hs68 : w65.cell? ⟨gb202, 1, none⟩ = some (.slice none 0 0) := (xc BK202.out 1).trans rfl
                            have hfs68 := xf BK202.out 1
                            have hns68_0 := NB201_202.out
                            have hns68_2 := NB204_202.out
                            have hns68_3 := NB206_202.out
                            have hns68_4 := NB212_202.out
                            have hms68_0 := NB202_201.out
                            have hms68_2 := NB202_204.out
                            have hms68_3 := NB202_206.out
                            have hms68_4 := NB202_212.out
                            refine skip_ (w1 := ?_) (by rfl) rfl ?_ ?_
                            rotate_left
                            ·go_simp
                             rfl
                            refine hK.out _ _ ⟨((cell_far (p := ⟨gb202, _, none⟩) NB201_202.out _).trans (((cell_far (p := ⟨gb202, _, none⟩) NB201_202.out _).trans (hHeld.1)))), ((cell_far (p := ⟨gb202, _, none⟩) NB201_202.out _).trans (((cell_far (p := ⟨gb202, _, none⟩) NB201_202.out _).trans (hHeld.2.1)))), ((cell_far (p := ⟨gb202, _, none⟩) NB206_202.out _).trans (((cell_far (p := ⟨gb202, _, none⟩) NB206_202.out _).trans (hHeld.2.2.1)))), ((cell_far (p := ⟨gb202, _, none⟩) NB212_202.out _).trans (((cell_far (p := ⟨gb202, _, none⟩) NB212_202.out _).trans (hHeld.2.2.2.1)))), ((cell_far (p := ⟨gb202, _, none⟩) (by first | exact Nat.ne_of_lt (Nat.lt_of_lt_of_le (by have := World.block_lt_of_cell? _ _ hw223_0; first | rwa [add_block] at this | exact this) GW202.out) | (rw [add_block]; exact Nat.ne_of_lt (Nat.lt_of_lt_of_le (by have := World.block_lt_of_cell? _ _ hw223_0; first | rwa [add_block] at this | exact this) GW202.out)) | (show (Addr.add _ _).block ≠ _; rw [add_block]; exact Nat.ne_of_lt (Nat.lt_of_lt_of_le (by have := World.block_lt_of_cell? _ _ hw223_0; first | rwa [add_block] at this | exact this) GW202.out)) | (dsimp only; exact Nat.ne_of_lt (Nat.lt_of_lt_of_le (by have := World.block_lt_of_cell? _ _ hw223_0; first | rwa [add_block] at this | exact this) GW202.out))) _).trans (((cell_far (p := ⟨gb202, _, none⟩) (by first | exact Nat.ne_of_lt (Nat.lt_of_lt_of_le (by have := World.block_lt_of_cell? _ _ hw223_0; first | rwa [add_block] at this | exact this) GW202.out) | (rw [add_block]; exact Nat.ne_of_lt (Nat.lt_of_lt_of_le (by have := World.block_lt_of_cell? _ _ hw223_0; first | rwa [add_block] at this | exact this) GW202.out)) | (show (Addr.add _ _).block ≠ _; rw [add_block]; exact Nat.ne_of_lt (Nat.lt_of_lt_of_le (by have := World.block_lt_of_cell? _ _ hw223_0; first | rwa [add_block] at this | exact this) GW202.out)) | (dsimp only; exact Nat.ne_of_lt (Nat.lt_of_lt_of_le (by have := World.block_lt_of_cell? _ _ hw223_0; first | rwa [add_block] at this | exact this) GW202.out))) _).trans (hHeld.2.2.2.2.1)))), ((cell_far (p := ⟨gb202, _, none⟩) (by first | exact Nat.ne_of_lt (Nat.lt_of_lt_of_le (by have := World.block_lt_of_cell? _ _ hw224_0; first | rwa [add_block] at this | exact this) GW202.out) | (rw [add_block]; exact Nat.ne_of_lt (Nat.lt_of_lt_of_le (by have := World.block_lt_of_cell? _ _ hw224_0; first | rwa [add_block] at this | exact this) GW202.out)) | (show (Addr.add _ _).block ≠ _; rw [add_block]; exact Nat.ne_of_lt (Nat.lt_of_lt_of_le (by have := World.block_lt_of_cell? _ _ hw224_0; first | rwa [add_block] at this | exact this) GW202.out)) | (dsimp only; exact Nat.ne_of_lt (Nat.lt_of_lt_of_le (by have := World.block_lt_of_cell? _ _ hw224_0; first | rwa [add_block] at this | exact this) GW202.out))) _).trans (((cell_far (p := ⟨gb202, _, none⟩) (by first | exact Nat.ne_of_lt (Nat.lt_of_lt_of_le (by have := World.block_lt_of_cell? _ _ hw224_0; first | rwa [add_block] at this | exact this) GW202.out) | (rw [add_block]; exact Nat.ne_of_lt (Nat.lt_of_lt_of_le (by have := World.block_lt_of_cell? _ _ hw224_0; first | rwa [add_block] at this | exact this) GW202.out)) | (show (Addr.add _ _).block ≠ _; rw [add_block]; exact Nat.ne_of_lt (Nat.lt_of_lt_of_le (by have := World.block_lt_of_cell? _ _ hw224_0; first | rwa [add_block] at this | exact this) GW202.out)) | (dsimp only; exact Nat.ne_of_lt (Nat.lt_of_lt_of_le (by have := World.block_lt_of_cell? _ _ hw224_0; first | rwa [add_block] at this | exact this) GW202.out))) _).trans (hHeld.2.2.2.2.2))))⟩ (fun hHeld => ?_)
                            clear hK K
                            refine pu 14 15 32767 ?_
                            refine done_ (done_of HT_.out (by kernel_rfl)) ?_
                            simp only [Exit.then]
                            rename_i ka kz kh
                            refine ka _ _ ?_
                            refine wp_ret ?_
                            repeat (first | (with_reducible refine ret_in ?_) | (with_reducible refine ret_then ?_))
                            refine bodyPost_ret (results_ct rfl _ _ gb202 43 #[.int .i64 t225, .slice Ao67 t226.length co67] (0, 0) _ rfl (by (with_reducible repeat (first | refine xq ?_ _ | refine xr ?_ | refine xo ?_ _)); refine blk_put (cs := #[.int .i64 t225, .slice none 0 0]) ?_ 1 _ rfl; (with_reducible repeat (first | refine xq ?_ _ | refine xr ?_ | refine xo ?_ _)); refine blk_put (cs := #[.int .i64 x203000_4, .slice none 0 0]) ?_ 0 _ rfl; (with_reducible repeat (first | refine xq ?_ _ | refine xr ?_ | refine xo ?_ _)); exact BK202.out) Try.underlying43 rfl (by kernel_rfl)) rfl ?_
                            exact ⟨_, by first | rfl | (simp [errW_none, errW_some] <;> rfl) | (simp only [← hji17]; first | rfl | (simp [errW_none, errW_some] <;> rfl)) | (simp [*, errW_none, errW_some] <;> rfl), by (with_reducible repeat (first | apply Kd.S_alloc | apply Kd.S_drewN | apply Kd.S_drew)); exact Kd.S_mono (Kd.S_far (p := ⟨gb202, 1, none⟩) (Kd.S_far (p := ⟨gb202, 0, none⟩) (Kd.S_types HO228.out BK202.out (by decide)) (fun _ hk => hk.2) (.int .i64 t225)) (fun _ hk => hk.2) (.slice Ao67 t226.length co67)) (fun _ hk => trivial), bG⟩
                          ·rw [if_neg c59] at H
                           exact absurd H (by simp)
                         ·rw [if_neg c58] at H
                          exact absurd H (by simp)
                        ·rw [if_neg c57] at H
                         exact absurd H (by simp)
                       ·rw [if_neg c56] at H
                        exact absurd H (by simp)
                      ·rw [if_neg c55] at H
                       exact absurd H (by simp)
                     ·rw [if_neg c54] at H
                      have c54b0 : decide (x51_4 < (((rd_T49 l1 x16_1).f1).length : Int)) = false := decide_eq_false c54
                      clear c54
                      have H' := xm H
                      clear H
                      go_wp2
                      go_roundg k4
                      case measure => have := HK1.out; have := HK2.out; have := HK3.out; have := HK4.out; omega
                      case rel => exact ⟨(wrap64 (x34_3 + 1)), (x203000_4), sB, H', ⟨by have := HK1.out; have := HK2.out; have := HK3.out; have := HK4.out; omega⟩, ⟨kB BK201⟩, ⟨kB BK202⟩, ⟨kB BK204⟩, ⟨kB BK206⟩, ⟨bG⟩⟩
                  ·rw [if_neg c36] at H
                   have c36b0 : (t219 == 0) = false := beq_eq_false_iff_ne.mpr c36
                   have c36b1 : (t219 != 0) = true := bne_iff_ne.mpr c36
                   have H' := xm H
                   clear H
                   have p211 : 0 ≤ (x34_3 : Int) := of_decide_eq_true aB
                   have q211 : x34_3 < (y207.length : Int) := of_decide_eq_true aB
                   obtain ⟨ad211, A211_0, c211_0, e211, hx211_0, hl211_0, hi211_0⟩ := at_T48 HR210.out x34_3 p211 q211
                   cases e211
                   replace hx211_0 := hU hx211_0
                   have HR211_0 := xm hi211_0
                   have HC211_0 := xm hl211_0
                   clear hi211_0 hl211_0
                   replace p211 := eq_true p211
                   replace q211 := eq_true q211
                   try go_wp2_with (first | ((with_reducible refine gate_dst (N := 11) rfl ?_); refine box_event ?hg (N := 11) ?hd (cs := #[.slice none 0 0]) (t := 48) ?hr ?_; (case hd => rfl); (case hg => rfl); (case hr => exact zB); intro gb212 hg w69 hbox hb; have n0_ := xm (blk_below (kB BK201) hb); have n1_ := xm (blk_below (kB BK202) hb); have n2_ := xm (blk_below (kB BK204) hb); have n3_ := xm (blk_below (kB BK206) hb); have n4_ := xm (below_step bG hb); have n5_ := xm (hbox); have n6_ := xm ((by rw [hg]; exact (xz bG) : w.heap.size ≤ gb212)); have n7_ := xm ((by rw [hg]; exact (xz bG) : w.heap.size ≤ gb212)); have n8_ := xm ((by rw [hg]; exact Nat.ne_of_lt (blk_lt (kB BK201)) : gb201 ≠ gb212)); have n9_ := xm ((by rw [hg]; exact Nat.ne_of_gt (blk_lt (kB BK201)) : gb212 ≠ gb201)); have n10_ := xm ((by rw [hg]; exact Nat.ne_of_lt (blk_lt (kB BK202)) : gb202 ≠ gb212)); have n11_ := xm ((by rw [hg]; exact Nat.ne_of_gt (blk_lt (kB BK202)) : gb212 ≠ gb202)); have n12_ := xm ((by rw [hg]; exact Nat.ne_of_lt (blk_lt (kB BK204)) : gb204 ≠ gb212)); have n13_ := xm ((by rw [hg]; exact Nat.ne_of_gt (blk_lt (kB BK204)) : gb212 ≠ gb204)); have n14_ := xm ((by rw [hg]; exact Nat.ne_of_lt (blk_lt (kB BK206)) : gb206 ≠ gb212)); have n15_ := xm ((by rw [hg]; exact Nat.ne_of_gt (blk_lt (kB BK206)) : gb212 ≠ gb206)); revert n0_ n1_ n2_ n3_ n4_ n5_ n6_ n7_ n8_ n9_ n10_ n11_ n12_ n13_ n14_ n15_; clear BK201 BK202 BK204 BK206 HB; intro BK201 BK202 BK204 BK206 HB BK212 GW212 GE212 NB201_212 NB212_201 NB202_212 NB212_202 NB204_212 NB212_204 NB206_212 NB212_206; clear hb hbox hg; have hnb70 := NB212_201.out; have hnc70 := NB201_212.out; have hnb71 := NB212_202.out; have hnc71 := NB202_212.out; have hnb72 := NB212_204.out; have hnc72 := NB204_212.out; have hnb73 := NB212_206.out; have hnc73 := NB206_212.out; obtain ⟨hcz74_0, hfz74_0⟩ := cz1 BK212.out))
                   have n0_ : Aside0 ((w69.setCell ⟨gb212, 0, none⟩ (.slice A211_0 ((rd_T48 y207 x34_3).f0).length c211_0)).heap[gb201]? = some (.cells #[.int .i64 a0_0, .slice (some ad205) l0_1.length c0_1] 43 (0, 0))) := ⟨by (with_reducible repeat (first | refine xq ?_ _ | refine xr ?_ | refine xo ?_ _)); refine blk_far ?_ NB201_212.out _; (with_reducible repeat (first | refine xq ?_ _ | refine xr ?_ | refine xo ?_ _)); exact BK201.out⟩
                   have n1_ : Aside0 ((w69.setCell ⟨gb212, 0, none⟩ (.slice A211_0 ((rd_T48 y207 x34_3).f0).length c211_0)).heap[gb202]? = some (.cells #[.int .i64 x203000_3, .slice none 0 0] 43 (0, 0))) := ⟨by (with_reducible repeat (first | refine xq ?_ _ | refine xr ?_ | refine xo ?_ _)); refine blk_far ?_ NB202_212.out _; (with_reducible repeat (first | refine xq ?_ _ | refine xr ?_ | refine xo ?_ _)); exact BK202.out⟩
                   have n2_ : Aside0 ((w69.setCell ⟨gb212, 0, none⟩ (.slice A211_0 ((rd_T48 y207 x34_3).f0).length c211_0)).heap[gb204]? = some (.cells #[.slice A203_0 ((rd_T49 l1 x16_1).f0).length c203_0, .slice A203_1 ((rd_T49 l1 x16_1).f1).length c203_1] 49 (0, 0))) := ⟨by (with_reducible repeat (first | refine xq ?_ _ | refine xr ?_ | refine xo ?_ _)); refine blk_far ?_ NB204_212.out _; (with_reducible repeat (first | refine xq ?_ _ | refine xr ?_ | refine xo ?_ _)); exact BK204.out⟩
                   have n3_ : Aside0 ((w69.setCell ⟨gb212, 0, none⟩ (.slice A211_0 ((rd_T48 y207 x34_3).f0).length c211_0)).heap[gb206]? = some (.cells #[.slice A205_0 ((rd_T48 l0_1 x23_2).f0).length c205_0] 48 (0, 0))) := ⟨by (with_reducible repeat (first | refine xq ?_ _ | refine xr ?_ | refine xo ?_ _)); refine blk_far ?_ NB206_212.out _; (with_reducible repeat (first | refine xq ?_ _ | refine xr ?_ | refine xo ?_ _)); exact BK206.out⟩
                   have n4_ : Aside0 ((w69.setCell ⟨gb212, 0, none⟩ (.slice A211_0 ((rd_T48 y207 x34_3).f0).length c211_0)).heap[gb212]? = some (.cells #[.slice A211_0 ((rd_T48 y207 x34_3).f0).length c211_0] 48 (0, 0))) := ⟨by (with_reducible repeat (first | refine xq ?_ _ | refine xr ?_ | refine xo ?_ _)); refine blk_put (cs := #[.slice none 0 0]) ?_ 0 _ rfl; (with_reducible repeat (first | refine xq ?_ _ | refine xr ?_ | refine xo ?_ _)); exact BK212.out⟩
                   have n5_ : Aside0 (Below w.heap.size w (w69.setCell ⟨gb212, 0, none⟩ (.slice A211_0 ((rd_T48 y207 x34_3).f0).length c211_0))) := ⟨bG⟩
                   (try clear BK201)
                   (try clear BK202)
                   (try clear BK204)
                   (try clear BK206)
                   (try clear BK212)
                   (try clear HB)
                   generalize (w69.setCell ⟨gb212, 0, none⟩ (.slice A211_0 ((rd_T48 y207 x34_3).f0).length c211_0)) = w75 at n0_ n1_ n2_ n3_ n4_ n5_ ⊢
                   revert n0_ n1_ n2_ n3_ n4_ n5_; intro BK201 BK202 BK204 BK206 BK212 HB
                   have n0_ := xm (xr BK201.out)
                   have n1_ := xm (xr BK202.out)
                   have n2_ := xm (xr BK204.out)
                   have n3_ := xm (xr BK206.out)
                   have n4_ := xm (xr BK212.out)
                   have n5_ := xm (xd HB.out)
                   revert n0_ n1_ n2_ n3_ n4_ n5_; clear BK201 BK202 BK204 BK206 BK212 HB; intro BK201 BK202 BK204 BK206 BK212 HB
                   refine start_ (n := 10) (S := fun w' => w'.cell? ⟨gb206, 0, none⟩ = some (.slice A205_0 ((rd_T48 l0_1 x23_2).f0).length c205_0) ∧ w'.cell? ⟨gb204, 0, none⟩ = some (.slice A203_0 ((rd_T49 l1 x16_1).f0).length c203_0) ∧ w'.cell? ⟨gb204, 1, none⟩ = some (.slice A203_1 ((rd_T49 l1 x16_1).f1).length c203_1) ∧ w'.cell? ⟨gb212, 0, none⟩ = some (.slice A211_0 ((rd_T48 y207 x34_3).f0).length c211_0)) (ds := []) #[Z,Z,Z,Z,Z,Z,Z,Z,Z,Z] (by kernel_rfl) rfl rfl ⟨(xc BK206.out 0).trans rfl, (xc BK204.out 0).trans rfl, (xc BK204.out 1).trans rfl, (xc BK212.out 0).trans rfl⟩ (fun hHeld => ?_); refine with_tabW spec_l9Step.tab10 spec_l9Step.bits10 (fun HT_ HW_ => ?_)
                   generalize w75.drew = w76 at BK201 BK202 BK204 BK206 BK212 HB hHeld ⊢
                   refine pu 1 10 2 ?_
                   refine pu 5 10 34 ?_
                   refine tx 0 10 35 rfl rfl (take_ofW HT_.out HW_.out (by kernel_rfl)) hHeld (by rintro w' ⟨s0, s1, s2, s3⟩; go_simp; with_reducible rfl) ?_
                   refine tx 2 10 39 rfl rfl (take_ofW HT_.out HW_.out (by kernel_rfl)) hHeld (by rintro w' ⟨s0, s1, s2, s3⟩; go_simp; with_reducible rfl) ?_
                   refine tx 4 10 55 rfl rfl (take_ofW HT_.out HW_.out (by kernel_rfl)) hHeld (by rintro w' ⟨s0, s1, s2, s3⟩; go_simp; with_reducible rfl) ?_
                   refine tx 6 10 119 rfl rfl (take_ofW HT_.out HW_.out (by kernel_rfl)) hHeld (by rintro w' ⟨s0, s1, s2, s3⟩; go_simp; with_reducible rfl) ?_
                   refine one_ (i := 3) (N := some 41) #[Y,Y,Y,Y,Y,Y,Y,Z,Z,Z] rfl rfl (one_of HT_.out (by kernel_rfl)) (by decide) (fun K hK => ?_)
                   refine goes_ Try.func50 (by kernel_rfl) rfl #[.agg #[.slice A205_0 ((rd_T48 l0_1 x23_2).f0).length c205_0], .slice A203_0 ((rd_T49 l1 x16_1).f0).length c203_0] (by rfl) rfl rfl mB ?_
                   with_reducible refine (spec_l1Pick.calls k3 _ _ ((rd_T48 l0_1 x23_2).f0) _ _ ((rd_T49 l1 x16_1).f0) t213 _ ?side1 ?side2 ?side3 ?side4 A33.out).mono ?_
                   (case side1 => exact cB (Kd.C_below HR205_0.out HB.out))
                   (case side2 => exact HC205_0.out)
                   (case side3 => exact cB (Kd.C_below HR203_0.out HB.out))
                   (case side4 => exact HC203_0.out)
                   rintro e w77 ⟨v214, rfl, ho0, hb⟩
                   refine ⟨_, rfl, ?_⟩
                   have n0_ := xm (Kd.R_lower ho0 (xz bG))
                   have n1_ := xm (blk_below (kB BK201) hb)
                   have n2_ := xm (blk_below (kB BK202) hb)
                   have n3_ := xm (blk_below (kB BK204) hb)
                   have n4_ := xm (blk_below (kB BK206) hb)
                   have n5_ := xm (blk_below (kB BK212) hb)
                   have n6_ := xm (below_step bG hb)
                   revert n0_ n1_ n2_ n3_ n4_ n5_ n6_; clear BK201 BK202 BK204 BK206 BK212 HB; intro HO215 BK201 BK202 BK204 BK206 BK212 HB
                   (try clear hb)
                   (try clear hb2)
                   (try clear hk)
                   (try clear hi)
                   (try clear ho0)
                   refine hK.out _ _ ⟨(xc BK206.out 0).trans rfl, (xc BK204.out 0).trans rfl, (xc BK204.out 1).trans rfl, (xc BK212.out 0).trans rfl⟩ (fun hHeld => nC ?_)
                   clear hK K
                   refine one_ (i := 7) (N := some 45) #[Y,Y,Y,Y,Y,Y,Y,Y,Z,Z] rfl rfl (one_of HT_.out (by kernel_rfl)) (by decide) (fun K hK => ?_)
                   refine goes_ Try.func50 (by kernel_rfl) rfl #[.agg #[.slice A211_0 ((rd_T48 y207 x34_3).f0).length c211_0], .slice A203_0 ((rd_T49 l1 x16_1).f0).length c203_0] (by rfl) rfl rfl mB ?_
                   with_reducible refine (spec_l1Pick.calls k3 _ _ ((rd_T48 y207 x34_3).f0) _ _ ((rd_T49 l1 x16_1).f0) t216 _ ?side1 ?side2 ?side3 ?side4 A34.out).mono ?_
                   (case side1 => exact cB (Kd.C_below HR211_0.out HB.out))
                   (case side2 => exact HC211_0.out)
                   (case side3 => exact cB (Kd.C_below HR203_0.out HB.out))
                   (case side4 => exact HC203_0.out)
                   rintro e w78 ⟨v217, rfl, ho0, hb⟩
                   refine ⟨_, rfl, ?_⟩
                   have n0_ := xm (Kd.R_elder' (rB HO215) (Kd.R_base ho0) hb)
                   have n1_ := xm (Kd.R_lower (Kd.R_new' ho0 (Kd.R_lt (rB HO215))) (xz bG))
                   have n2_ := xm (blk_below (kB BK201) hb)
                   have n3_ := xm (blk_below (kB BK202) hb)
                   have n4_ := xm (blk_below (kB BK204) hb)
                   have n5_ := xm (blk_below (kB BK206) hb)
                   have n6_ := xm (blk_below (kB BK212) hb)
                   have n7_ := xm (below_step bG hb)
                   revert n0_ n1_ n2_ n3_ n4_ n5_ n6_ n7_; clear HO215 BK201 BK202 BK204 BK206 BK212 HB; intro HO215 HO218 BK201 BK202 BK204 BK206 BK212 HB
                   (try clear hb)
                   (try clear hb2)
                   (try clear hk)
                   (try clear hi)
                   (try clear ho0)
                   obtain ⟨Ao79, co79, eo79⟩ := Kd.R_slice HO215.out
                   (first | subst eo79 | (injection eo79 with f1_ f2_ f3_; have f4_ := f1_.symm; have f5_ := f3_.symm; clear f1_ f2_ f3_; subst f4_; subst f5_))
                   obtain ⟨Ao80, co80, eo80⟩ := Kd.R_slice HO218.out
                   (first | subst eo80 | (injection eo80 with f1_ f2_ f3_; have f4_ := f1_.symm; have f5_ := f3_.symm; clear f1_ f2_ f3_; subst f4_; subst f5_))
                   refine hK.out _ _ ⟨(xc BK206.out 0).trans rfl, (xc BK204.out 0).trans rfl, (xc BK204.out 1).trans rfl, (xc BK212.out 0).trans rfl⟩ (fun hHeld => nC ?_)
                   clear hK K
                   refine one_ (i := 8) (N := some 46) #[Y,Y,Y,Y,Y,Y,Y,Y,Y,Z] rfl rfl (one_of HT_.out (by kernel_rfl)) (by decide) (fun K hK => ?_)
                   refine goes_ Try.func49 (by kernel_rfl) rfl #[.agg #[.slice Ao79 t213.length co79], .agg #[.slice Ao80 t216.length co80]] (by rfl) rfl rfl mB ?_
                   with_reducible refine (spec_l1Compare.calls k3 _ _ t213 _ _ t216 t219 _ ?side1 ?side2 ?side3 ?side4 A35.out).mono ?_
                   (case side1 => repeat (first | exact (Kd.R_reads' HO215.out).2.2 | (with_reducible refine Kd.C_alloc ?_ _) | (with_reducible refine Kd.C_drewN ?_ _) | (with_reducible refine Kd.C_drew ?_)))
                   (case side2 => exact (Kd.R_reads' HO215.out).2.1)
                   (case side3 => repeat (first | exact (Kd.R_reads' HO218.out).2.2 | (with_reducible refine Kd.C_alloc ?_ _) | (with_reducible refine Kd.C_drewN ?_ _) | (with_reducible refine Kd.C_drew ?_)))
                   (case side4 => exact (Kd.R_reads' HO218.out).2.1)
                   rintro e w81 ⟨rfl, hb⟩
                   refine ⟨_, rfl, ?_⟩
                   have n0_ := xm (Kd.R_below (rB HO215) hb)
                   have n1_ := xm (Kd.R_below (rB HO218) hb)
                   have n2_ := xm (blk_below (kB BK201) hb)
                   have n3_ := xm (blk_below (kB BK202) hb)
                   have n4_ := xm (blk_below (kB BK204) hb)
                   have n5_ := xm (blk_below (kB BK206) hb)
                   have n6_ := xm (blk_below (kB BK212) hb)
                   have n7_ := xm (below_step bG hb)
                   revert n0_ n1_ n2_ n3_ n4_ n5_ n6_ n7_; clear HO215 HO218 BK201 BK202 BK204 BK206 BK212 HB; intro HO215 HO218 BK201 BK202 BK204 BK206 BK212 HB
                   (try clear hb)
                   (try clear hb2)
                   (try clear hk)
                   (try clear hi)
                   refine hK.out _ _ ⟨(xc BK206.out 0).trans rfl, (xc BK204.out 0).trans rfl, (xc BK204.out 1).trans rfl, (xc BK212.out 0).trans rfl⟩ (fun hHeld => nC ?_)
                   clear hK K
                   refine pu 9 10 1023 ?_
                   refine done_ (done_of HT_.out (by kernel_rfl)) ?_
                   try go_wp2
                   go_roundg k3
                   case measure => have := HK1.out; have := HK2.out; have := HK3.out; omega
                   case rel => exact ⟨(wrap64 (x34_3 + 1)), (x203000_3), sB, H', ⟨by have := HK1.out; have := HK2.out; have := HK3.out; omega⟩, ⟨kB BK201⟩, ⟨kB BK202⟩, ⟨kB BK204⟩, ⟨kB BK206⟩, ⟨bG⟩⟩
                 ·rw [if_neg c32] at H
                  exact absurd H (by simp)
                ·rw [if_neg c31] at H
                 exact absurd H (by simp)
               ·rw [if_neg c30] at H
                have c30b0 : decide (x34_3 < (y207.length : Int)) = false := decide_eq_false c30
                clear c30
                have H' := xm H
                clear H
                go_wp2
                go_roundg k3
                case measure => have := HK1.out; have := HK2.out; have := HK3.out; omega
                case rel => exact ⟨(wrap64 (x23_2 + 1)), (x203000_3), sB, H', ⟨by have := HK1.out; have := HK2.out; have := HK3.out; omega⟩, ⟨kB BK201⟩, ⟨kB BK202⟩, ⟨kB BK204⟩, ⟨bG⟩⟩
            ·rw [if_neg c19] at H
             exact absurd H (by simp)
           ·rw [if_neg c18] at H
            exact absurd H (by simp)
          ·rw [if_neg c16] at H
           exact absurd H (by simp)
         ·rw [if_neg c15] at H
          exact absurd H (by simp)
        ·rw [if_neg c14] at H
         have c14b0 : decide (x23_2 < (l0_1.length : Int)) = false := decide_eq_false c14
         clear c14
         have H' := xm H
         clear H
         go_wp2
         go_roundg k2
         case measure => have := HK1.out; have := HK2.out; omega
         case rel => exact ⟨(wrap64 (x16_1 + 1)), (x203000_2), sB, H', ⟨by have := HK1.out; have := HK2.out; omega⟩, ⟨kB BK201⟩, ⟨kB BK202⟩, ⟨bG⟩⟩
     ·rw [if_neg c7] at H
      exact absurd H (by simp)
    ·rw [if_neg c6] at H
     exact absurd H (by simp)
   ·rw [if_neg c5] at H
    have c5b0 : decide (x16_1 < (l1.length : Int)) = false := decide_eq_false c5
    clear c5
    simp only [Option.some.injEq, Prod.mk.injEq] at H
    obtain ⟨rfl, rfl, rfl⟩ := H
    have hnb82 := NB202_201.out
    have hnc82 := NB201_202.out
    obtain ⟨hcz83_0, hcz83_1, hfz83_0, hfz83_1⟩ := cz2 BK202.out
    go_upto_region 20 with (fail)
    go_wp2_with (first | ((with_reducible refine gate_store (t := 43) (p := 4) rfl ?_); refine store_event (t := 43) (p := 4) (v := ?vo) (w1 := ((wr.setCell ⟨gb202, 0, none⟩ (.int .i64 0)).setCell ⟨gb202, 1, none⟩ (.slice none 0 0))) ?hg ?ho ?hn ?hr ?_; (case ho => rfl); (case hg => rfl); (case hn => rfl); (case hr => exact zB); intro w_s hw; subst hw; refine Hid.out ?_))
    refine hidX ?_
    refine Kd.event_run (v := .bool false) rfl rfl ?_
    rename_i ka
    refine ka _ _ ?_
    refine wp_ret ?_
    refine bodyPost_ret (results_ct rfl _ _ gb202 43 #[.int .i64 0, .slice none 0 0] (0, 0) _ rfl (by (with_reducible repeat (first | refine xq ?_ _ | refine xr ?_ | refine xo ?_ _)); refine blk_put (cs := #[.int .i64 0, .slice none 0 0]) ?_ 1 _ rfl; (with_reducible repeat (first | refine xq ?_ _ | refine xr ?_ | refine xo ?_ _)); refine blk_put (cs := #[.int .i64 x203000_1, .slice none 0 0]) ?_ 0 _ rfl; (with_reducible repeat (first | refine xq ?_ _ | refine xr ?_ | refine xo ?_ _)); exact BK202.out) Try.underlying43 rfl (by kernel_rfl)) rfl ?_
    exact ⟨_, eB, by first | exact Kd.S_nil _ _ _ _ _ | exact Kd.N_nil _ _ _ _ _ | exact Kd.V_nil _ _ _ _ _ | exact Kd.Q_nil _ _ _ _ _ | exact Kd.R_nil _ _ _ _ _, bG⟩

end Go.Proofs.Ytmelechhnimlnad.G
