/- Written by a program of this claim's own, out of the translation: functions of the program as plain functions, and that the calls answer as these. No conditions. -/
import Derived.Test.YtmelechhnimlnadG0
import Derived.Test.YtmelechhnimlnadG11
import Derived.Test.YtmelechhnimlnadG12
namespace Go.Proofs.Ytmelechhnimlnad.G
open Go.RowKit Go.Proofs.Ytmelechhnimlnad.X Go.Proofs.YtmelechhnimlnadW.PrintWords Go.Proofs.YtmelechhnimlnadW.PrintLast Go.Proofs.YtmelechhnimlnadW.PrintMore
attribute [local go_sem] max2_int min2_int max_two min_two max_three min_three max_four min_four   -- for this text's walks alone
set_option linter.unusedVariables false
set_option linter.unusedSimpArgs false

/-! ### impl_Tableau_stepBy: function 45 -/
mutual
def impl_Tableau_stepBy.l0 : Nat → List (S48) → Int → Int → Int → List (S48) → List Int → List Int → Option (Bool × List (S48))
 | 0, _, _, _, _, _, _, _ => none
 | k + 1, x12, x13, x14, x352000, x352001, x353000, x353001 => if x14 < x13 then (if 0 ≤ x14 then (if x14 < (x12.length : Int) then (if 0 ≤ (wrap64 (x14 + 1)) then (if (wrap64 (x14 + 1)) ≤ (x352001.length : Int) then ((some (x352001.drop ((wrap64 (x14 + 1)) : Int).toNat : List (S48))).bind fun y355 => (impl_Tableau_stepBy.l1 k x12 x13 x14 y355 (y355.length : Int) 0 x352000 x352001 x353000 x353001 ((rd_T48 x12 x14).f0))) else (none)) else (none)) else (none)) else (none)) else (some (false, x352001))
def impl_Tableau_stepBy.l1 : Nat → List (S48) → Int → Int → List (S48) → Int → Int → Int → List (S48) → List Int → List Int → List Int → Option (Bool × List (S48))
 | 0, _, _, _, _, _, _, _, _, _, _, _ => none
 | k + 1, x12, x13, x14, x23, x24, x25, x352000, x352001, x353000, x353001, x355000 => if x25 < x24 then (if 0 ≤ x25 then (if x25 < (x23.length : Int) then ((impl_Row_picked.f k x355000 x353000).bind fun t361 => ((impl_Row_picked.f k ((rd_T48 x23 x25).f0) x353000).bind fun t364 => ((impl_compareRows.f k t361 t364).bind fun t367 => (if t367 = 0 then (impl_Tableau_stepBy.l2 k x12 x13 x14 x23 x24 x25 x353001 (x353001.length : Int) 0 x352000 x352001 x353000 x353001 x355000 ((rd_T48 x23 x25).f0)) else (impl_Tableau_stepBy.l1 k x12 x13 x14 x23 x24 (wrap64 (x25 + 1)) x352000 x352001 x353000 x353001 x355000))))) else (none)) else (none)) else (impl_Tableau_stepBy.l0 k x12 x13 (wrap64 (x14 + 1)) x352000 x352001 x353000 x353001)
def impl_Tableau_stepBy.l2 : Nat → List (S48) → Int → Int → List (S48) → Int → Int → List Int → Int → Int → Int → List (S48) → List Int → List Int → List Int → List Int → Option (Bool × List (S48))
 | 0, _, _, _, _, _, _, _, _, _, _, _, _, _, _, _ => none
 | k + 1, x12, x13, x14, x23, x24, x25, x40, x41, x42, x352000, x352001, x353000, x353001, x355000, x361000 => if x42 < x41 then (if 0 ≤ x42 then (if x42 < (x40.length : Int) then (if 0 ≤ (rd x40 x42) then (if (rd x40 x42) < (x355000.length : Int) then (if (rd x40 x42) < (x361000.length : Int) then (if (rd x355000 (rd x40 x42)) = (rd x361000 (rd x40 x42)) then (impl_Tableau_stepBy.l2 k x12 x13 x14 x23 x24 x25 x40 x41 (wrap64 (x42 + 1)) x352000 x352001 x353000 x353001 x355000 x361000) else ((impl_Tableau_alike.f (rd x40 x42) (rd x355000 (rd x40 x42)) (rd x361000 (rd x40 x42)) x352001).bind fun s => some (true, s))) else (none)) else (none)) else (none)) else (none)) else (none)) else (impl_Tableau_stepBy.l1 k x12 x13 x14 x23 x24 (wrap64 (x25 + 1)) x352000 x352001 x353000 x353001 x355000)
end
def impl_Tableau_stepBy.f (k : Nat) (a0_0 : Int) (l0_1 : List (S48)) (l1_0 : List Int) (l1_1 : List Int) : Option (Bool × List (S48)) := impl_Tableau_stepBy.l0 k l0_1 (l0_1.length : Int) 0 a0_0 l0_1 l1_0 l1_1
theorem impl_Tableau_stepBy.mono_l : ∀ k, (∀ y0 y1 y2 y3 y4 y5 y6, LeO (impl_Tableau_stepBy.l0 k y0 y1 y2 y3 y4 y5 y6) (impl_Tableau_stepBy.l0 (k + 1) y0 y1 y2 y3 y4 y5 y6)) ∧ (∀ y0 y1 y2 y3 y4 y5 y6 y7 y8 y9 y10, LeO (impl_Tableau_stepBy.l1 k y0 y1 y2 y3 y4 y5 y6 y7 y8 y9 y10) (impl_Tableau_stepBy.l1 (k + 1) y0 y1 y2 y3 y4 y5 y6 y7 y8 y9 y10)) ∧ (∀ y0 y1 y2 y3 y4 y5 y6 y7 y8 y9 y10 y11 y12 y13 y14, LeO (impl_Tableau_stepBy.l2 k y0 y1 y2 y3 y4 y5 y6 y7 y8 y9 y10 y11 y12 y13 y14) (impl_Tableau_stepBy.l2 (k + 1) y0 y1 y2 y3 y4 y5 y6 y7 y8 y9 y10 y11 y12 y13 y14))
 | 0 => ⟨fun _ _ _ _ _ _ _ r h => by simp [impl_Tableau_stepBy.l0] at h, fun _ _ _ _ _ _ _ _ _ _ _ r h => by simp [impl_Tableau_stepBy.l1] at h, fun _ _ _ _ _ _ _ _ _ _ _ _ _ _ _ r h => by simp [impl_Tableau_stepBy.l2] at h⟩
 | k + 1 => by
  obtain ⟨ih0, ih1, ih2⟩ := impl_Tableau_stepBy.mono_l k
  refine ⟨?_, ?_, ?_⟩
  ·intro y0 y1 y2 y3 y4 y5 y6
   unfold impl_Tableau_stepBy.l0
   repeat' first
   | (with_reducible exact ih0 _ _ _ _ _ _ _)
   | (with_reducible exact ih1 _ _ _ _ _ _ _ _ _ _ _)
   | (with_reducible exact ih2 _ _ _ _ _ _ _ _ _ _ _ _ _ _ _)
   | (with_reducible exact impl_Row_picked.mono _ _ _)
   | (with_reducible exact impl_compareRows.mono _ _ _)
   | (with_reducible exact LeO.refl _)
   | (with_reducible exact LeO.none _)
   | (with_reducible refine LeO.ite ?_ ?_)
   | (with_reducible refine LeO.bind ?_ (fun _ => ?_))
   | exact ih0 _ _ _ _ _ _ _
   | exact ih1 _ _ _ _ _ _ _ _ _ _ _
   | exact ih2 _ _ _ _ _ _ _ _ _ _ _ _ _ _ _
   | exact impl_Row_picked.mono _ _ _
   | exact impl_compareRows.mono _ _ _
   | exact LeO.none _
   | refine LeO.ite ?_ ?_
   | refine LeO.bind ?_ (fun _ => ?_)
  ·intro y0 y1 y2 y3 y4 y5 y6 y7 y8 y9 y10
   unfold impl_Tableau_stepBy.l1
   repeat' first
   | (with_reducible exact ih0 _ _ _ _ _ _ _)
   | (with_reducible exact ih1 _ _ _ _ _ _ _ _ _ _ _)
   | (with_reducible exact ih2 _ _ _ _ _ _ _ _ _ _ _ _ _ _ _)
   | (with_reducible exact impl_Row_picked.mono _ _ _)
   | (with_reducible exact impl_compareRows.mono _ _ _)
   | (with_reducible exact LeO.refl _)
   | (with_reducible exact LeO.none _)
   | (with_reducible refine LeO.ite ?_ ?_)
   | (with_reducible refine LeO.bind ?_ (fun _ => ?_))
   | exact ih0 _ _ _ _ _ _ _
   | exact ih1 _ _ _ _ _ _ _ _ _ _ _
   | exact ih2 _ _ _ _ _ _ _ _ _ _ _ _ _ _ _
   | exact impl_Row_picked.mono _ _ _
   | exact impl_compareRows.mono _ _ _
   | exact LeO.none _
   | refine LeO.ite ?_ ?_
   | refine LeO.bind ?_ (fun _ => ?_)
  ·intro y0 y1 y2 y3 y4 y5 y6 y7 y8 y9 y10 y11 y12 y13 y14
   unfold impl_Tableau_stepBy.l2
   repeat' first
   | (with_reducible exact ih0 _ _ _ _ _ _ _)
   | (with_reducible exact ih1 _ _ _ _ _ _ _ _ _ _ _)
   | (with_reducible exact ih2 _ _ _ _ _ _ _ _ _ _ _ _ _ _ _)
   | (with_reducible exact impl_Row_picked.mono _ _ _)
   | (with_reducible exact impl_compareRows.mono _ _ _)
   | (with_reducible exact LeO.refl _)
   | (with_reducible exact LeO.none _)
   | (with_reducible refine LeO.ite ?_ ?_)
   | (with_reducible refine LeO.bind ?_ (fun _ => ?_))
   | exact ih0 _ _ _ _ _ _ _
   | exact ih1 _ _ _ _ _ _ _ _ _ _ _
   | exact ih2 _ _ _ _ _ _ _ _ _ _ _ _ _ _ _
   | exact impl_Row_picked.mono _ _ _
   | exact impl_compareRows.mono _ _ _
   | exact LeO.none _
   | refine LeO.ite ?_ ?_
   | refine LeO.bind ?_ (fun _ => ?_)
theorem impl_Tableau_stepBy.mono : ∀ a0 a1 a2 a3 k, LeO (impl_Tableau_stepBy.f k a0 a1 a2 a3) (impl_Tableau_stepBy.f (k + 1) a0 a1 a2 a3) := by
 intro a0 a1 a2 a3 k
 obtain ⟨ih0, ih1, ih2⟩ := impl_Tableau_stepBy.mono_l k
 unfold impl_Tableau_stepBy.f
 repeat' first
   | (with_reducible exact ih0 _ _ _ _ _ _ _)
   | (with_reducible exact ih1 _ _ _ _ _ _ _ _ _ _ _)
   | (with_reducible exact ih2 _ _ _ _ _ _ _ _ _ _ _ _ _ _ _)
   | (with_reducible exact impl_Row_picked.mono _ _ _)
   | (with_reducible exact impl_compareRows.mono _ _ _)
   | (with_reducible exact LeO.refl _)
   | (with_reducible exact LeO.none _)
   | (with_reducible refine LeO.ite ?_ ?_)
   | (with_reducible refine LeO.bind ?_ (fun _ => ?_))
   | exact ih0 _ _ _ _ _ _ _
   | exact ih1 _ _ _ _ _ _ _ _ _ _ _
   | exact ih2 _ _ _ _ _ _ _ _ _ _ _ _ _ _ _
   | exact impl_Row_picked.mono _ _ _
   | exact impl_compareRows.mono _ _ _
   | exact LeO.none _
   | refine LeO.ite ?_ ?_
   | refine LeO.bind ?_ (fun _ => ?_)
def impl_Tableau_stepBy.T7 : Bool × List (List Nat × List Nat) := (true, [([], []), ([], []), ([1], [1]), ([0, 2], [0, 2]), ([], []), ([], []), ([5], [5]), ([4, 6, 3], [4, 6]), ([3, 7, 7], [3, 7]), ([8], [8])])
def impl_Tableau_stepBy.B7 : List Nat := [0, 0, 2, 7, 0, 0, 32, 127, 255, 511]
theorem impl_Tableau_stepBy.tab7 : rtab .any (opsOf Try.f45 7) = impl_Tableau_stepBy.T7 := by kernel_rfl
theorem impl_Tableau_stepBy.bits7 : waitsOk impl_Tableau_stepBy.T7.2 impl_Tableau_stepBy.B7 = true := by kernel_rfl
def impl_Tableau_stepBy.T11 : Bool × List (List Nat × List Nat) := (true, [([], []), ([0], [0]), ([], []), ([1, 2], [1, 2]), ([3], [3]), ([], []), ([5], [5]), ([], []), ([6, 7], [6, 7]), ([8], [8]), ([4, 9], [4, 9])])
def impl_Tableau_stepBy.B11 : List Nat := [0, 1, 0, 7, 15, 0, 32, 0, 224, 480, 1023]
theorem impl_Tableau_stepBy.tab11 : rtab .any (opsOf Try.f45 11) = impl_Tableau_stepBy.T11 := by kernel_rfl
theorem impl_Tableau_stepBy.bits11 : waitsOk impl_Tableau_stepBy.T11.2 impl_Tableau_stepBy.B11 = true := by kernel_rfl
def impl_Tableau_stepBy.T12 : Bool × List (List Nat × List Nat) := (true, [([], []), ([], []), ([], []), ([2], [2]), ([], []), ([3, 4], [3, 4]), ([5], [5]), ([], []), ([7], [7]), ([], []), ([8, 9], [8, 9]), ([10], [10]), ([0, 1, 6, 11], [0, 1, 6, 11])])
def impl_Tableau_stepBy.B12 : List Nat := [0, 0, 0, 4, 0, 28, 60, 0, 128, 0, 896, 1920, 4095]
theorem impl_Tableau_stepBy.tab12 : rtab .any (opsOf Try.f45 12) = impl_Tableau_stepBy.T12 := by kernel_rfl
theorem impl_Tableau_stepBy.bits12 : waitsOk impl_Tableau_stepBy.T12.2 impl_Tableau_stepBy.B12 = true := by kernel_rfl
set_option maxHeartbeats 8000000 in
set_option maxRecDepth 100000 in
theorem impl_Tableau_stepBy.calls (k : Nat) (a0_0 : Int) (A0_1 : Option Addr) (c0_1 : Nat) (l0_1 : List (S48)) (A1_0 : Option Addr) (c1_0 : Nat) (l1_0 : List Int) (A1_1 : Option Addr) (c1_1 : Nat) (l1_1 : List Int) (r : Bool) (r2 : List (S48)) (P0_ : Nat → Prop) (w0 w : World) (hW : Below w0.heap.size w0 w) (ho : Kd.S k48 48 w w0.heap.size P0_ (.slice A0_1 l0_1.length c0_1) l0_1) (hr1_0 : Kd.C (Kd.int .i64) w A1_0 l1_0.length l1_0) (hc1_0 : l1_0.length ≤ c1_0) (hr1_1 : Kd.C (Kd.int .i64) w A1_1 l1_1.length l1_1) (hc1_1 : l1_1.length ≤ c1_1) (h : impl_Tableau_stepBy.f k a0_0 l0_1 l1_0 l1_1 = some (r, r2)) :
  Calls Try.prog 45 #[.agg #[.int .i64 a0_0, .slice A0_1 l0_1.length c0_1], .agg #[.slice A1_0 l1_0.length c1_0, .slice A1_1 l1_1.length c1_1]] w fun e w' => e = .returned (.bool r) ∧ Kd.S k48 48 w' w0.heap.size P0_ (.slice A0_1 l0_1.length c0_1) r2 ∧ Below w0.heap.size w0 w' ∧ Kept w w' P0_ := by
 have hu43 := Try.underlying43
 have hu49 := Try.underlying49
 have hu48 := Try.underlying48
 have HR0_1 := xm (Kd.S_reads' ho).2.2
 have HC0_1 := xm (Kd.S_reads' ho).2.1
 have HSO := xm ho
 have HWO := xm hW
 clear ho hW
 have HR1_0 := xm hr1_0
 have HC1_0 := xm hc1_0
 clear hr1_0 hc1_0
 have HR1_1 := xm hr1_1
 have HC1_1 := xm hc1_1
 clear hr1_1 hc1_1
 have HB := xm (Below.refl w.heap.size w)
 have H : (impl_Tableau_stepBy.l0 k l0_1 (l0_1.length : Int) 0 a0_0 l0_1 l1_0 l1_1) = some (r, r2) := h
 clear h
 have H' := xm H
 clear H
 go_enter Try.func45, Try.ntmps45
 go_wp2_with (first | ((with_reducible refine gate_dst (N := 2) rfl ?_); refine box_event ?hg (N := 2) ?hd (cs := #[.int .i64 a0_0, .slice A0_1 l0_1.length c0_1]) (t := 43) ?hr ?_; (case hd => rfl); (case hg => rfl); (case hr => exact zB); intro gb351 hg w3 hbox hb; have n0_ := xm (below_step bB hb); have n1_ := xm (hbox); have n2_ := xm ((by rw [hg]; exact (xz bB) : w.heap.size ≤ gb351)); have n3_ := xm ((by rw [hg]; exact (xz bB) : w.heap.size ≤ gb351)); revert n0_ n1_ n2_ n3_; clear HB; intro HB BK351 GW351 GE351; clear hb hbox hg) | ((with_reducible refine gate_dst (N := 3) rfl ?_); refine box_event ?hg (N := 3) ?hd (cs := #[.slice A1_0 l1_0.length c1_0, .slice A1_1 l1_1.length c1_1]) (t := 49) ?hr ?_; (case hd => rfl); (case hg => rfl); (case hr => exact zB); intro gb352 hg w4 hbox hb; have n0_ := xm (blk_below (kB BK351) hb); have n1_ := xm (below_step bG hb); have n2_ := xm (hbox); have n3_ := xm ((by rw [hg]; exact (xz bG) : w.heap.size ≤ gb352)); have n4_ := xm ((by rw [hg]; exact (xz bG) : w.heap.size ≤ gb352)); have n5_ := xm ((by rw [hg]; exact Nat.ne_of_lt (blk_lt (kB BK351)) : gb351 ≠ gb352)); have n6_ := xm ((by rw [hg]; exact Nat.ne_of_gt (blk_lt (kB BK351)) : gb352 ≠ gb351)); revert n0_ n1_ n2_ n3_ n4_ n5_ n6_; clear BK351 HB; intro BK351 HB BK352 GW352 GE352 NB351_352 NB352_351; clear hb hbox hg; have hnb5 := NB351_352.out; have hnc5 := NB352_351.out; obtain ⟨hcz6_0, hcz6_1, hfz6_0, hfz6_1⟩ := cz2 BK351.out))
 go_loopg [14] k (fun kq v14 w' => ∃ (x14_1 : Int), v14 = .int .i64 x14_1 ∧ Aside0 (impl_Tableau_stepBy.l0 kq l0_1 (l0_1.length : Int) x14_1 a0_0 l0_1 l1_0 l1_1 = some (r, r2)) ∧ Aside0 (kq ≤ k) ∧ Aside0 (w'.heap[gb351]? = some (.cells #[.int .i64 a0_0, (.slice A0_1 l0_1.length c0_1)] 43 (0, 0))) ∧ Aside0 (w'.heap[gb352]? = some (.cells #[(.slice A1_0 l1_0.length c1_0), (.slice A1_1 l1_1.length c1_1)] 49 (0, 0))) ∧ Aside0 (Below w.heap.size w w'))
 case atStart => exact ⟨(0), sB, H', ⟨Nat.le_refl _⟩, ⟨kB BK351⟩, ⟨kB BK352⟩, ⟨bG⟩⟩
 case round =>
  clear H'
  try clear c1
  try clear p2
  try clear c4
  try clear c5
  try clear hcz6_0 hcz6_1 hfz6_0 hfz6_1
  obtain ⟨x14_1, rfl, HA, HK1, BK351, BK352, HB⟩ := hrel
  cases gk with
  | zero => exact absurd HA.out (by simp [impl_Tableau_stepBy.l0])
  | succ k1 =>
   have H := HA.out
   clear HA
   simp only [impl_Tableau_stepBy.l0] at H
   by_cases c7 : x14_1 < (l0_1.length : Int)
   ·rw [if_pos c7] at H
    have c7b0 : decide (x14_1 < (l0_1.length : Int)) = true := decide_eq_true c7
    clear c7
    by_cases c8 : 0 ≤ x14_1
    ·rw [if_pos c8] at H
     have c8b0 : decide (0 ≤ x14_1) = true := decide_eq_true c8
     clear c8
     by_cases c9 : x14_1 < (l0_1.length : Int)
     ·rw [if_pos c9] at H
      have c9b0 : decide (x14_1 < (l0_1.length : Int)) = true := decide_eq_true c9
      clear c9
      obtain ⟨ji10, hji10⟩ : ∃ j_ : Int, (wrap64 (x14_1 + 1)) = j_ := ⟨_, rfl⟩
      replace H : (if 0 ≤ (ji10) then (if (ji10) ≤ (l0_1.length : Int) then ((some (l0_1.drop ((ji10) : Int).toNat : List (S48))).bind fun y355 => (impl_Tableau_stepBy.l1 k1 l0_1 (l0_1.length : Int) x14_1 y355 (y355.length : Int) 0 a0_0 l0_1 l1_0 l1_1 ((rd_T48 l0_1 x14_1).f0))) else (none)) else (none)) = some (r, r2) := by first | (rw [hji10] at H; exact H) | (simp only [hji10] at H ⊢; exact H)
      have hji10w : (IntKind.i64.wrap (x14_1 + 1)) = ji10 := (i64_w _).trans hji10
      by_cases c11 : 0 ≤ (ji10)
      ·rw [if_pos c11] at H
       have c11b0 := eq_true c11
       have c11b1 : decide (0 ≤ (ji10)) = true := decide_eq_true c11
       clear c11
       by_cases c12 : (ji10) ≤ (l0_1.length : Int)
       ·rw [if_pos c12] at H
        have c12b0 := eq_true c12
        have c12b1 : decide ((ji10) ≤ (l0_1.length : Int)) = true := decide_eq_true c12
        clear c12
        obtain ⟨y355, hy355⟩ : ∃ y_ : List (S48), y_ = (l0_1.drop ((ji10) : Int).toNat) := ⟨_, rfl⟩
        replace H : (impl_Tableau_stepBy.l1 k1 l0_1 (l0_1.length : Int) x14_1 y355 (y355.length : Int) 0 a0_0 l0_1 l1_0 l1_1 ((rd_T48 l0_1 x14_1).f0)) = some (r, r2) := by first | (rw [hy355]; with_reducible exact H) | (have H2_ := (Option.bind_some _ _).symm.trans H; rw [hy355]; with_reducible exact H2_) | (have H2_ := (Option.bind_some _ _).symm.trans H; with_reducible exact H2_) | with_reducible exact H | (rw [hy355]; exact H) | exact H
        have Ny355 := xm hy355
        clear hy355
        have H' := xm H
        clear H
        have p353 : 0 ≤ (x14_1 : Int) := of_decide_eq_true aB
        have q353 : x14_1 < (l0_1.length : Int) := of_decide_eq_true aB
        obtain ⟨ad353, A353_0, c353_0, e353, hx353_0, hl353_0, hi353_0⟩ := at_T48 HR0_1.out x14_1 p353 q353
        cases e353
        replace hx353_0 := hU hx353_0
        have HR353_0 := xm hi353_0
        have HC353_0 := xm hl353_0
        clear hi353_0 hl353_0
        replace p353 := eq_true p353
        replace q353 := eq_true q353
        go_wp2_with (first | ((with_reducible refine gate_dst (N := 6) rfl ?_); refine box_event ?hg (N := 6) ?hd (cs := #[.slice none 0 0]) (t := 48) ?hr ?_; (case hd => rfl); (case hg => rfl); (case hr => exact zB); intro gb354 hg w13 hbox hb; have n0_ := xm (blk_below (kB BK351) hb); have n1_ := xm (blk_below (kB BK352) hb); have n2_ := xm (below_step bG hb); have n3_ := xm (hbox); have n4_ := xm ((by rw [hg]; exact (xz bG) : w.heap.size ≤ gb354)); have n5_ := xm ((by rw [hg]; exact (xz bG) : w.heap.size ≤ gb354)); have n6_ := xm ((by rw [hg]; exact Nat.ne_of_lt (blk_lt (kB BK351)) : gb351 ≠ gb354)); have n7_ := xm ((by rw [hg]; exact Nat.ne_of_gt (blk_lt (kB BK351)) : gb354 ≠ gb351)); have n8_ := xm ((by rw [hg]; exact Nat.ne_of_lt (blk_lt (kB BK352)) : gb352 ≠ gb354)); have n9_ := xm ((by rw [hg]; exact Nat.ne_of_gt (blk_lt (kB BK352)) : gb354 ≠ gb352)); revert n0_ n1_ n2_ n3_ n4_ n5_ n6_ n7_ n8_ n9_; clear BK351 BK352 HB; intro BK351 BK352 HB BK354 GW354 GE354 NB351_354 NB354_351 NB352_354 NB354_352; clear hb hbox hg; have hnb14 := NB354_351.out; have hnc14 := NB351_354.out; have hnb15 := NB354_352.out; have hnc15 := NB352_354.out; obtain ⟨hcz16_0, hfz16_0⟩ := cz1 BK354.out) | ((with_reducible refine gate_store (t := 48) (p := 6) rfl ?_); refine store_event (t := 48) (p := 6) (v := ?vo_w17) (w1 := (w13.setCell ⟨gb354, 0, none⟩ (.slice A353_0 ((rd_T48 l0_1 x14_1).f0).length c353_0))) ?hg ?ho ?hn ?hr ?_; (case ho => rfl); (case hg => rfl); (case hn => rfl); (case hr => exact zB); intro w17 hw; have n0_ : Aside0 (w17.heap[gb351]? = some (.cells #[.int .i64 a0_0, .slice (some ad353) l0_1.length c0_1] 43 (0, 0))) := ⟨(by rw [hw]; exact (kF BK351 NB351_354))⟩; have n1_ : Aside0 (w17.heap[gb352]? = some (.cells #[.slice A1_0 l1_0.length c1_0, .slice A1_1 l1_1.length c1_1] 49 (0, 0))) := ⟨(by rw [hw]; exact (kF BK352 NB352_354))⟩; have n2_ : Aside0 (w17.heap[gb354]? = some (.cells #[.slice A353_0 ((rd_T48 l0_1 x14_1).f0).length c353_0] 48 (0, 0))) := ⟨(by rw [hw]; exact (by (with_reducible repeat (first | refine xq ?_ _ | refine xr ?_ | refine xo ?_ _)); refine blk_put (cs := #[.slice none 0 0]) ?_ 0 _ rfl; (with_reducible repeat (first | refine xq ?_ _ | refine xr ?_ | refine xo ?_ _)); exact BK354.out))⟩; have n3_ : Aside0 (Below w.heap.size w w17) := ⟨(by rw [hw]; exact bG)⟩; revert n0_ n1_ n2_ n3_; clear hw BK351 BK352 BK354 HB; intro BK351 BK352 BK354 HB; have hnb18 := NB351_352.out; have hnc18 := NB352_351.out; obtain ⟨hcz19_0, hcz19_1, hfz19_0, hfz19_1⟩ := cz2 BK351.out; have q20 : ((ji10) : Int) ≤ ((l0_1.length : Int) : Int) := of_decide_eq_true aB; obtain ⟨i020, hi020, _, hsz20, _⟩ := info_parts info48; have hroom20 : l0_1.length ≤ c0_1 := HC0_1.out; have hC20 : Kd.C k48 _ (some ad353) l0_1.length l0_1 := HR0_1.out; have q020 : (0 : Int) ≤ ((ji10) : Int) := of_decide_eq_true aB; have hcut20 := cut_from (P := Try.prog) 41 48 .i64 Try.underlying41 hi020 1 hsz20 (some ad353) l0_1.length c0_1 (ji10) q020 q20; have hr20 := Kd.C_drop (m := ((ji10) : Int).toNat) (c := c0_1) hC20 (by omega) hroom20; obtain ⟨A20, hA20⟩ : ∃ Aq_, Aq_ = (if c0_1 = ((ji10) : Int).toNat then (some ad353) else ((some ad353) : Option Addr).map (·.add (((ji10) : Int).toNat * 1))) := ⟨_, rfl⟩; obtain ⟨c20, hc20⟩ : ∃ cq_, cq_ = c0_1 - ((ji10) : Int).toNat := ⟨_, rfl⟩; have hy20 : y355.length = l0_1.length - ((ji10) : Int).toNat := (by rw [Ny355.out, List.length_drop] <;> omega); rw [show (l0_1).drop ((ji10) : Int).toNat = y355 from Ny355.out.symm] at hr20; replace hr20 : Kd.C k48 _ A20 y355.length y355 := (by rw [hA20]; exact hr20); rw [← hy20, ← hA20, ← hc20] at hcut20; have HR358 := xm hr20; have HC358 := xm (show y355.length ≤ c20 from by rw [hy20, hc20]; exact Nat.sub_le_sub_right hroom20 _); clear hr20 hC20 hroom20 hi020 hsz20 hc20; have KY20 := xm hy20; have KA20 := xm hA20; clear hy20 hA20; replace q20 := eq_true q20))
        go_loopg [25] k1 (fun kq v25 w' => ∃ (x25_2 : Int), v25 = .int .i64 x25_2 ∧ Aside0 (impl_Tableau_stepBy.l1 kq l0_1 (l0_1.length : Int) x14_1 y355 (y355.length : Int) x25_2 a0_0 l0_1 l1_0 l1_1 ((rd_T48 l0_1 x14_1).f0) = some (r, r2)) ∧ Aside0 (kq ≤ k1) ∧ Aside0 (w'.heap[gb351]? = some (.cells #[.int .i64 a0_0, (.slice (some ad353) l0_1.length c0_1)] 43 (0, 0))) ∧ Aside0 (w'.heap[gb352]? = some (.cells #[(.slice A1_0 l1_0.length c1_0), (.slice A1_1 l1_1.length c1_1)] 49 (0, 0))) ∧ Aside0 (w'.heap[gb354]? = some (.cells #[(.slice A353_0 ((rd_T48 l0_1 x14_1).f0).length c353_0)] 48 (0, 0))) ∧ Aside0 (Below w.heap.size w w'))
        case atStart => exact ⟨(0), sB, H', ⟨Nat.le_refl _⟩, ⟨kB BK351⟩, ⟨kB BK352⟩, ⟨kB BK354⟩, ⟨bG⟩⟩
        case round =>
         clear H'
         try clear c1
         try clear c2
         try clear p2
         try clear q2
         try clear c3
         try clear p3
         try clear q3
         try clear hx3
         try clear c4
         try clear c5
         try clear p6
         try clear c7
         try clear c7b0
         try clear c8
         try clear c8b0
         try clear c9
         try clear c9b0
         try clear c11
         try clear c11b0 c11b1
         try clear c12
         try clear c12b0 c12b1
         try clear c14
         try clear c15
         try clear c18
         try clear c20
         try clear q20
         try clear hcz16_0
         try clear hcz19_0 hcz19_1
         try clear hcz6_0 hcz6_1
         try clear hfz16_0
         try clear hfz19_0 hfz19_1
         try clear hfz6_0 hfz6_1
         try clear hx353_0
         try clear p2
         try clear p353
         try clear q020
         try clear q20
         try clear q353
         obtain ⟨x25_2, rfl, HA, HK2, BK351, BK352, BK354, HB⟩ := hrel
         cases gk with
         | zero => exact absurd HA.out (by simp [impl_Tableau_stepBy.l1])
         | succ k2 =>
          have H := HA.out
          clear HA
          simp only [impl_Tableau_stepBy.l1] at H
          by_cases c21 : x25_2 < (y355.length : Int)
          ·rw [if_pos c21] at H
           have c21b0 : decide (x25_2 < (y355.length : Int)) = true := decide_eq_true c21
           clear c21
           by_cases c22 : 0 ≤ x25_2
           ·rw [if_pos c22] at H
            have c22b0 : decide (0 ≤ x25_2) = true := decide_eq_true c22
            clear c22
            by_cases c23 : x25_2 < (y355.length : Int)
            ·rw [if_pos c23] at H
             have c23b0 : decide (x25_2 < (y355.length : Int)) = true := decide_eq_true c23
             clear c23
             replace H := Option.bind_eq_some_iff.mp H
             obtain ⟨t361, A240, H⟩ := H
             replace H : ((impl_Row_picked.f k2 ((rd_T48 y355 x25_2).f0) l1_0).bind fun t364 => ((impl_compareRows.f k2 t361 t364).bind fun t367 => (if t367 = 0 then (impl_Tableau_stepBy.l2 k2 l0_1 (l0_1.length : Int) x14_1 y355 (y355.length : Int) x25_2 l1_1 (l1_1.length : Int) 0 a0_0 l0_1 l1_0 l1_1 ((rd_T48 l0_1 x14_1).f0) ((rd_T48 y355 x25_2).f0)) else (impl_Tableau_stepBy.l1 k2 l0_1 (l0_1.length : Int) x14_1 y355 (y355.length : Int) (wrap64 (x25_2 + 1)) a0_0 l0_1 l1_0 l1_1 ((rd_T48 l0_1 x14_1).f0))))) = some (r, r2) := H
             have A24 := xm A240
             clear A240
             replace H := Option.bind_eq_some_iff.mp H
             obtain ⟨t364, A250, H⟩ := H
             replace H : ((impl_compareRows.f k2 t361 t364).bind fun t367 => (if t367 = 0 then (impl_Tableau_stepBy.l2 k2 l0_1 (l0_1.length : Int) x14_1 y355 (y355.length : Int) x25_2 l1_1 (l1_1.length : Int) 0 a0_0 l0_1 l1_0 l1_1 ((rd_T48 l0_1 x14_1).f0) ((rd_T48 y355 x25_2).f0)) else (impl_Tableau_stepBy.l1 k2 l0_1 (l0_1.length : Int) x14_1 y355 (y355.length : Int) (wrap64 (x25_2 + 1)) a0_0 l0_1 l1_0 l1_1 ((rd_T48 l0_1 x14_1).f0)))) = some (r, r2) := H
             have A25 := xm A250
             clear A250
             replace H := Option.bind_eq_some_iff.mp H
             obtain ⟨t367, A260, H⟩ := H
             replace H : (if t367 = 0 then (impl_Tableau_stepBy.l2 k2 l0_1 (l0_1.length : Int) x14_1 y355 (y355.length : Int) x25_2 l1_1 (l1_1.length : Int) 0 a0_0 l0_1 l1_0 l1_1 ((rd_T48 l0_1 x14_1).f0) ((rd_T48 y355 x25_2).f0)) else (impl_Tableau_stepBy.l1 k2 l0_1 (l0_1.length : Int) x14_1 y355 (y355.length : Int) (wrap64 (x25_2 + 1)) a0_0 l0_1 l1_0 l1_1 ((rd_T48 l0_1 x14_1).f0))) = some (r, r2) := H
             have A26 := xm A260
             clear A260
             by_cases c27 : t367 = 0
             ·rw [if_pos c27] at H
              have c27b0 : (t367 == 0) = true := beq_iff_eq.mpr c27
              have c27b1 : (t367 != 0) = false := bne_eq_false_iff_eq.mpr c27
              clear c27
              have H' := xm H
              clear H
              have p359 : 0 ≤ (x25_2 : Int) := of_decide_eq_true aB
              have q359 : x25_2 < (y355.length : Int) := of_decide_eq_true aB
              obtain ⟨ad359, A359_0, c359_0, e359, hx359_0, hl359_0, hi359_0⟩ := at_T48 HR358.out x25_2 p359 q359
              cases e359
              replace hx359_0 := hU hx359_0
              have HR359_0 := xm hi359_0
              have HC359_0 := xm hl359_0
              clear hi359_0 hl359_0
              replace p359 := eq_true p359
              replace q359 := eq_true q359
              try go_wp2_with (first | ((with_reducible refine gate_dst (N := 8) rfl ?_); refine box_event ?hg (N := 8) ?hd (cs := #[.slice none 0 0]) (t := 48) ?hr ?_; (case hd => rfl); (case hg => rfl); (case hr => exact zB); intro gb360 hg w28 hbox hb; have n0_ := xm (blk_below (kB BK351) hb); have n1_ := xm (blk_below (kB BK352) hb); have n2_ := xm (blk_below (kB BK354) hb); have n3_ := xm (below_step bG hb); have n4_ := xm (hbox); have n5_ := xm ((by rw [hg]; exact (xz bG) : w.heap.size ≤ gb360)); have n6_ := xm ((by rw [hg]; exact (xz bG) : w.heap.size ≤ gb360)); have n7_ := xm ((by rw [hg]; exact Nat.ne_of_lt (blk_lt (kB BK351)) : gb351 ≠ gb360)); have n8_ := xm ((by rw [hg]; exact Nat.ne_of_gt (blk_lt (kB BK351)) : gb360 ≠ gb351)); have n9_ := xm ((by rw [hg]; exact Nat.ne_of_lt (blk_lt (kB BK352)) : gb352 ≠ gb360)); have n10_ := xm ((by rw [hg]; exact Nat.ne_of_gt (blk_lt (kB BK352)) : gb360 ≠ gb352)); have n11_ := xm ((by rw [hg]; exact Nat.ne_of_lt (blk_lt (kB BK354)) : gb354 ≠ gb360)); have n12_ := xm ((by rw [hg]; exact Nat.ne_of_gt (blk_lt (kB BK354)) : gb360 ≠ gb354)); revert n0_ n1_ n2_ n3_ n4_ n5_ n6_ n7_ n8_ n9_ n10_ n11_ n12_; clear BK351 BK352 BK354 HB; intro BK351 BK352 BK354 HB BK360 GW360 GE360 NB351_360 NB360_351 NB352_360 NB360_352 NB354_360 NB360_354; clear hb hbox hg; have hnb29 := NB360_351.out; have hnc29 := NB351_360.out; have hnb30 := NB360_352.out; have hnc30 := NB352_360.out; have hnb31 := NB360_354.out; have hnc31 := NB354_360.out; obtain ⟨hcz32_0, hfz32_0⟩ := cz1 BK360.out))
              have n0_ : Aside0 ((w28.setCell ⟨gb360, 0, none⟩ (.slice A359_0 ((rd_T48 y355 x25_2).f0).length c359_0)).heap[gb351]? = some (.cells #[.int .i64 a0_0, .slice (some ad353) l0_1.length c0_1] 43 (0, 0))) := ⟨by (with_reducible repeat (first | refine xq ?_ _ | refine xr ?_ | refine xo ?_ _)); refine blk_far ?_ NB351_360.out _; (with_reducible repeat (first | refine xq ?_ _ | refine xr ?_ | refine xo ?_ _)); exact BK351.out⟩
              have n1_ : Aside0 ((w28.setCell ⟨gb360, 0, none⟩ (.slice A359_0 ((rd_T48 y355 x25_2).f0).length c359_0)).heap[gb352]? = some (.cells #[.slice A1_0 l1_0.length c1_0, .slice A1_1 l1_1.length c1_1] 49 (0, 0))) := ⟨by (with_reducible repeat (first | refine xq ?_ _ | refine xr ?_ | refine xo ?_ _)); refine blk_far ?_ NB352_360.out _; (with_reducible repeat (first | refine xq ?_ _ | refine xr ?_ | refine xo ?_ _)); exact BK352.out⟩
              have n2_ : Aside0 ((w28.setCell ⟨gb360, 0, none⟩ (.slice A359_0 ((rd_T48 y355 x25_2).f0).length c359_0)).heap[gb354]? = some (.cells #[.slice A353_0 ((rd_T48 l0_1 x14_1).f0).length c353_0] 48 (0, 0))) := ⟨by (with_reducible repeat (first | refine xq ?_ _ | refine xr ?_ | refine xo ?_ _)); refine blk_far ?_ NB354_360.out _; (with_reducible repeat (first | refine xq ?_ _ | refine xr ?_ | refine xo ?_ _)); exact BK354.out⟩
              have n3_ : Aside0 ((w28.setCell ⟨gb360, 0, none⟩ (.slice A359_0 ((rd_T48 y355 x25_2).f0).length c359_0)).heap[gb360]? = some (.cells #[.slice A359_0 ((rd_T48 y355 x25_2).f0).length c359_0] 48 (0, 0))) := ⟨by (with_reducible repeat (first | refine xq ?_ _ | refine xr ?_ | refine xo ?_ _)); refine blk_put (cs := #[.slice none 0 0]) ?_ 0 _ rfl; (with_reducible repeat (first | refine xq ?_ _ | refine xr ?_ | refine xo ?_ _)); exact BK360.out⟩
              have n4_ : Aside0 (Below w.heap.size w (w28.setCell ⟨gb360, 0, none⟩ (.slice A359_0 ((rd_T48 y355 x25_2).f0).length c359_0))) := ⟨bG⟩
              (try clear BK351)
              (try clear BK352)
              (try clear BK354)
              (try clear BK360)
              (try clear HB)
              generalize (w28.setCell ⟨gb360, 0, none⟩ (.slice A359_0 ((rd_T48 y355 x25_2).f0).length c359_0)) = w33 at n0_ n1_ n2_ n3_ n4_ ⊢
              revert n0_ n1_ n2_ n3_ n4_; intro BK351 BK352 BK354 BK360 HB
              have n0_ := xm (xr BK351.out)
              have n1_ := xm (xr BK352.out)
              have n2_ := xm (xr BK354.out)
              have n3_ := xm (xr BK360.out)
              have n4_ := xm (xd HB.out)
              revert n0_ n1_ n2_ n3_ n4_; clear BK351 BK352 BK354 BK360 HB; intro BK351 BK352 BK354 BK360 HB
              refine start_ (n := 10) (S := fun w' => w'.cell? ⟨gb354, 0, none⟩ = some (.slice A353_0 ((rd_T48 l0_1 x14_1).f0).length c353_0) ∧ w'.cell? ⟨gb352, 0, none⟩ = some (.slice A1_0 l1_0.length c1_0) ∧ w'.cell? ⟨gb352, 1, none⟩ = some (.slice A1_1 l1_1.length c1_1) ∧ w'.cell? ⟨gb360, 0, none⟩ = some (.slice A359_0 ((rd_T48 y355 x25_2).f0).length c359_0)) (ds := []) #[Z,Z,Z,Z,Z,Z,Z,Z,Z,Z] (by kernel_rfl) rfl rfl ⟨(xc BK354.out 0).trans rfl, (xc BK352.out 0).trans rfl, (xc BK352.out 1).trans rfl, (xc BK360.out 0).trans rfl⟩ (fun hHeld => ?_); refine with_tabW impl_Tableau_stepBy.tab7 impl_Tableau_stepBy.bits7 (fun HT_ HW_ => ?_)
              generalize w33.drew = w34 at BK351 BK352 BK354 BK360 HB hHeld ⊢
              refine pu 1 10 2 ?_
              refine pu 5 10 34 ?_
              refine tx 0 10 35 rfl rfl (take_ofW HT_.out HW_.out (by kernel_rfl)) hHeld (by rintro w' ⟨s0, s1, s2, s3⟩; go_simp; with_reducible rfl) ?_
              refine tx 2 10 39 rfl rfl (take_ofW HT_.out HW_.out (by kernel_rfl)) hHeld (by rintro w' ⟨s0, s1, s2, s3⟩; go_simp; with_reducible rfl) ?_
              refine tx 4 10 55 rfl rfl (take_ofW HT_.out HW_.out (by kernel_rfl)) hHeld (by rintro w' ⟨s0, s1, s2, s3⟩; go_simp; with_reducible rfl) ?_
              refine tx 6 10 119 rfl rfl (take_ofW HT_.out HW_.out (by kernel_rfl)) hHeld (by rintro w' ⟨s0, s1, s2, s3⟩; go_simp; with_reducible rfl) ?_
              refine one_ (i := 3) (N := some 32) #[Y,Y,Y,Y,Y,Y,Y,Z,Z,Z] rfl rfl (one_of HT_.out (by kernel_rfl)) (by decide) (fun K hK => ?_)
              refine goes_ Try.func57 (by kernel_rfl) rfl #[.agg #[.slice A353_0 ((rd_T48 l0_1 x14_1).f0).length c353_0], .slice A1_0 l1_0.length c1_0] (by rfl) rfl rfl mB ?_
              with_reducible refine (impl_Row_picked.calls k2 _ _ ((rd_T48 l0_1 x14_1).f0) _ _ l1_0 t361 _ ?side1 ?side2 ?side3 ?side4 A24.out).mono ?_
              (case side1 => exact cB (Kd.C_below HR353_0.out HB.out))
              (case side2 => exact HC353_0.out)
              (case side3 => exact cB (Kd.C_below HR1_0.out HB.out))
              (case side4 => exact HC1_0.out)
              rintro e w35 ⟨v362, rfl, ho0, hb⟩
              refine ⟨_, rfl, ?_⟩
              have n0_ := xm (Kd.R_lower ho0 (xz bG))
              have n1_ := xm (blk_below (kB BK351) hb)
              have n2_ := xm (blk_below (kB BK352) hb)
              have n3_ := xm (blk_below (kB BK354) hb)
              have n4_ := xm (blk_below (kB BK360) hb)
              have n5_ := xm (below_step bG hb)
              revert n0_ n1_ n2_ n3_ n4_ n5_; clear BK351 BK352 BK354 BK360 HB; intro HO363 BK351 BK352 BK354 BK360 HB
              (try clear hb)
              (try clear hb2)
              (try clear hk)
              (try clear hi)
              (try clear ho0)
              refine hK.out _ _ ⟨(xc BK354.out 0).trans rfl, (xc BK352.out 0).trans rfl, (xc BK352.out 1).trans rfl, (xc BK360.out 0).trans rfl⟩ (fun hHeld => nC ?_)
              clear hK K
              refine one_ (i := 7) (N := some 36) #[Y,Y,Y,Y,Y,Y,Y,Y,Z,Z] rfl rfl (one_of HT_.out (by kernel_rfl)) (by decide) (fun K hK => ?_)
              refine goes_ Try.func57 (by kernel_rfl) rfl #[.agg #[.slice A359_0 ((rd_T48 y355 x25_2).f0).length c359_0], .slice A1_0 l1_0.length c1_0] (by rfl) rfl rfl mB ?_
              with_reducible refine (impl_Row_picked.calls k2 _ _ ((rd_T48 y355 x25_2).f0) _ _ l1_0 t364 _ ?side1 ?side2 ?side3 ?side4 A25.out).mono ?_
              (case side1 => exact cB (Kd.C_below HR359_0.out HB.out))
              (case side2 => exact HC359_0.out)
              (case side3 => exact cB (Kd.C_below HR1_0.out HB.out))
              (case side4 => exact HC1_0.out)
              rintro e w36 ⟨v365, rfl, ho0, hb⟩
              refine ⟨_, rfl, ?_⟩
              have n0_ := xm (Kd.R_elder' (rB HO363) (Kd.R_base ho0) hb)
              have n1_ := xm (Kd.R_lower (Kd.R_new' ho0 (Kd.R_lt (rB HO363))) (xz bG))
              have n2_ := xm (blk_below (kB BK351) hb)
              have n3_ := xm (blk_below (kB BK352) hb)
              have n4_ := xm (blk_below (kB BK354) hb)
              have n5_ := xm (blk_below (kB BK360) hb)
              have n6_ := xm (below_step bG hb)
              revert n0_ n1_ n2_ n3_ n4_ n5_ n6_; clear HO363 BK351 BK352 BK354 BK360 HB; intro HO363 HO366 BK351 BK352 BK354 BK360 HB
              (try clear hb)
              (try clear hb2)
              (try clear hk)
              (try clear hi)
              (try clear ho0)
              obtain ⟨Ao37, co37, eo37⟩ := Kd.R_slice HO363.out
              (first | subst eo37 | (injection eo37 with f1_ f2_ f3_; have f4_ := f1_.symm; have f5_ := f3_.symm; clear f1_ f2_ f3_; subst f4_; subst f5_))
              obtain ⟨Ao38, co38, eo38⟩ := Kd.R_slice HO366.out
              (first | subst eo38 | (injection eo38 with f1_ f2_ f3_; have f4_ := f1_.symm; have f5_ := f3_.symm; clear f1_ f2_ f3_; subst f4_; subst f5_))
              refine hK.out _ _ ⟨(xc BK354.out 0).trans rfl, (xc BK352.out 0).trans rfl, (xc BK352.out 1).trans rfl, (xc BK360.out 0).trans rfl⟩ (fun hHeld => nC ?_)
              clear hK K
              refine one_ (i := 8) (N := some 37) #[Y,Y,Y,Y,Y,Y,Y,Y,Y,Z] rfl rfl (one_of HT_.out (by kernel_rfl)) (by decide) (fun K hK => ?_)
              refine goes_ Try.func56 (by kernel_rfl) rfl #[.agg #[.slice Ao37 t361.length co37], .agg #[.slice Ao38 t364.length co38]] (by rfl) rfl rfl mB ?_
              with_reducible refine (impl_compareRows.calls k2 _ _ t361 _ _ t364 t367 _ ?side1 ?side2 ?side3 ?side4 A26.out).mono ?_
              (case side1 => repeat (first | exact (Kd.R_reads' HO363.out).2.2 | (with_reducible refine Kd.C_alloc ?_ _) | (with_reducible refine Kd.C_drewN ?_ _) | (with_reducible refine Kd.C_drew ?_)))
              (case side2 => exact (Kd.R_reads' HO363.out).2.1)
              (case side3 => repeat (first | exact (Kd.R_reads' HO366.out).2.2 | (with_reducible refine Kd.C_alloc ?_ _) | (with_reducible refine Kd.C_drewN ?_ _) | (with_reducible refine Kd.C_drew ?_)))
              (case side4 => exact (Kd.R_reads' HO366.out).2.1)
              rintro e w39 ⟨rfl, hb⟩
              refine ⟨_, rfl, ?_⟩
              have n0_ := xm (Kd.R_below (rB HO363) hb)
              have n1_ := xm (Kd.R_below (rB HO366) hb)
              have n2_ := xm (blk_below (kB BK351) hb)
              have n3_ := xm (blk_below (kB BK352) hb)
              have n4_ := xm (blk_below (kB BK354) hb)
              have n5_ := xm (blk_below (kB BK360) hb)
              have n6_ := xm (below_step bG hb)
              revert n0_ n1_ n2_ n3_ n4_ n5_ n6_; clear HO363 HO366 BK351 BK352 BK354 BK360 HB; intro HO363 HO366 BK351 BK352 BK354 BK360 HB
              (try clear hb)
              (try clear hb2)
              (try clear hk)
              (try clear hi)
              refine hK.out _ _ ⟨(xc BK354.out 0).trans rfl, (xc BK352.out 0).trans rfl, (xc BK352.out 1).trans rfl, (xc BK360.out 0).trans rfl⟩ (fun hHeld => nC ?_)
              clear hK K
              refine pu 9 10 1023 ?_
              refine done_ (done_of HT_.out (by kernel_rfl)) ?_
              have hnb40 := NB352_351.out
              have hnc40 := NB351_352.out
              have hnb41 := NB352_354.out
              have hnc41 := NB354_352.out
              obtain ⟨hcz42_0, hcz42_1, hfz42_0, hfz42_1⟩ := cz2 BK352.out
              try go_wp2
              go_loopg [42] k2 (fun kq v42 w' => ∃ (x42_3 : Int), v42 = .int .i64 x42_3 ∧ Aside0 (impl_Tableau_stepBy.l2 kq l0_1 (l0_1.length : Int) x14_1 y355 (y355.length : Int) x25_2 l1_1 (l1_1.length : Int) x42_3 a0_0 l0_1 l1_0 l1_1 ((rd_T48 l0_1 x14_1).f0) ((rd_T48 y355 x25_2).f0) = some (r, r2)) ∧ Aside0 (kq ≤ k2) ∧ Aside0 (w'.heap[gb351]? = some (.cells #[.int .i64 a0_0, (.slice (some ad353) l0_1.length c0_1)] 43 (0, 0))) ∧ Aside0 (w'.heap[gb352]? = some (.cells #[(.slice A1_0 l1_0.length c1_0), (.slice A1_1 l1_1.length c1_1)] 49 (0, 0))) ∧ Aside0 (w'.heap[gb354]? = some (.cells #[(.slice A353_0 ((rd_T48 l0_1 x14_1).f0).length c353_0)] 48 (0, 0))) ∧ Aside0 (w'.heap[gb360]? = some (.cells #[(.slice A359_0 ((rd_T48 y355 x25_2).f0).length c359_0)] 48 (0, 0))) ∧ Aside0 (Below w.heap.size w w'))
              case atStart => exact ⟨(0), sB, H', ⟨Nat.le_refl _⟩, ⟨kB BK351⟩, ⟨kB BK352⟩, ⟨kB BK354⟩, ⟨kB BK360⟩, ⟨bG⟩⟩
              case round =>
               clear H'
               try clear c1
               try clear c2
               try clear p2
               try clear q2
               try clear c3
               try clear p3
               try clear q3
               try clear hx3
               try clear c4
               try clear c5
               try clear p6
               try clear c7
               try clear c7b0
               try clear c8
               try clear c8b0
               try clear c9
               try clear c9b0
               try clear c11
               try clear c11b0 c11b1
               try clear c12
               try clear c12b0 c12b1
               try clear c14
               try clear c15
               try clear c18
               try clear c20
               try clear q20
               try clear c21
               try clear c21b0
               try clear c22
               try clear c22b0
               try clear c23
               try clear c23b0
               try clear c27
               try clear c27b0 c27b1
               try clear c29
               try clear c30
               try clear c31
               try clear c35
               try clear p35
               try clear q35
               try clear hx35
               try clear c40
               try clear c41
               try clear hcz16_0
               try clear hcz19_0 hcz19_1
               try clear hcz32_0
               try clear hcz42_0 hcz42_1
               try clear hcz6_0 hcz6_1
               try clear hfz16_0
               try clear hfz19_0 hfz19_1
               try clear hfz32_0
               try clear hfz42_0 hfz42_1
               try clear hfz6_0 hfz6_1
               try clear hx353_0
               try clear hx359_0
               try clear p2
               try clear p3
               try clear p353
               try clear p359
               try clear p6
               try clear q020
               try clear q2
               try clear q20
               try clear q3
               try clear q353
               try clear q359
               obtain ⟨x42_3, rfl, HA, HK3, BK351, BK352, BK354, BK360, HB⟩ := hrel
               cases gk with
               | zero => exact absurd HA.out (by simp [impl_Tableau_stepBy.l2])
               | succ k3 =>
                have H := HA.out
                clear HA
                simp only [impl_Tableau_stepBy.l2] at H
                by_cases c43 : x42_3 < (l1_1.length : Int)
                ·rw [if_pos c43] at H
                 have c43b0 : decide (x42_3 < (l1_1.length : Int)) = true := decide_eq_true c43
                 clear c43
                 by_cases c44 : 0 ≤ x42_3
                 ·rw [if_pos c44] at H
                  have c44b0 : decide (0 ≤ x42_3) = true := decide_eq_true c44
                  clear c44
                  by_cases c45 : x42_3 < (l1_1.length : Int)
                  ·rw [if_pos c45] at H
                   have c45b0 : decide (x42_3 < (l1_1.length : Int)) = true := decide_eq_true c45
                   clear c45
                   by_cases c46 : 0 ≤ (rd l1_1 x42_3)
                   ·rw [if_pos c46] at H
                    have c46b0 : decide (0 ≤ (rd l1_1 x42_3)) = true := decide_eq_true c46
                    clear c46
                    by_cases c47 : (rd l1_1 x42_3) < (((rd_T48 l0_1 x14_1).f0).length : Int)
                    ·rw [if_pos c47] at H
                     have c47b0 : decide ((rd l1_1 x42_3) < (((rd_T48 l0_1 x14_1).f0).length : Int)) = true := decide_eq_true c47
                     clear c47
                     by_cases c48 : (rd l1_1 x42_3) < (((rd_T48 y355 x25_2).f0).length : Int)
                     ·rw [if_pos c48] at H
                      have c48b0 : decide ((rd l1_1 x42_3) < (((rd_T48 y355 x25_2).f0).length : Int)) = true := decide_eq_true c48
                      clear c48
                      by_cases c49 : (rd ((rd_T48 l0_1 x14_1).f0) (rd l1_1 x42_3)) = (rd ((rd_T48 y355 x25_2).f0) (rd l1_1 x42_3))
                      ·rw [if_pos c49] at H
                       have c49b0 : ((rd ((rd_T48 l0_1 x14_1).f0) (rd l1_1 x42_3)) == (rd ((rd_T48 y355 x25_2).f0) (rd l1_1 x42_3))) = true := beq_iff_eq.mpr c49
                       have c49b1 : ((rd ((rd_T48 l0_1 x14_1).f0) (rd l1_1 x42_3)) != (rd ((rd_T48 y355 x25_2).f0) (rd l1_1 x42_3))) = false := bne_eq_false_iff_eq.mpr c49
                       clear c49
                       have H' := xm H
                       clear H
                       have p368 : 0 ≤ (x42_3 : Int) := of_decide_eq_true aB
                       have q368 : x42_3 < (l1_1.length : Int) := of_decide_eq_true aB
                       obtain ⟨ad368, e368, hx368_0⟩ := Kd.at_int HR1_1.out x42_3 p368 q368
                       cases e368
                       replace hx368_0 := hU hx368_0
                       replace p368 := eq_true p368
                       replace q368 := eq_true q368
                       try go_wp2
                       have n0_ := xm (xr BK351.out)
                       have n1_ := xm (xr BK352.out)
                       have n2_ := xm (xr BK354.out)
                       have n3_ := xm (xr BK360.out)
                       have n4_ := xm (xd HB.out)
                       revert n0_ n1_ n2_ n3_ n4_; clear BK351 BK352 BK354 BK360 HB; intro BK351 BK352 BK354 BK360 HB
                       have p369 : 0 ≤ ((rd l1_1 x42_3) : Int) := of_decide_eq_true aB
                       have q369 : (rd l1_1 x42_3) < (((rd_T48 l0_1 x14_1).f0).length : Int) := of_decide_eq_true aB
                       obtain ⟨ad369, e369, hx369_0⟩ := Kd.at_int HR353_0.out (rd l1_1 x42_3) p369 q369
                       have hw369_0 := hx369_0
                       cases e369
                       replace hx369_0 := hU hx369_0
                       replace p369 := eq_true p369
                       replace q369 := eq_true q369
                       have p370 : 0 ≤ ((rd l1_1 x42_3) : Int) := of_decide_eq_true aB
                       have q370 : (rd l1_1 x42_3) < (((rd_T48 y355 x25_2).f0).length : Int) := of_decide_eq_true aB
                       obtain ⟨ad370, e370, hx370_0⟩ := Kd.at_int HR359_0.out (rd l1_1 x42_3) p370 q370
                       have hw370_0 := hx370_0
                       cases e370
                       replace hx370_0 := hU hx370_0
                       replace p370 := eq_true p370
                       replace q370 := eq_true q370
                       refine start_ (n := 11) (S := fun w' => w'.cell? ⟨gb354, 0, none⟩ = some (.slice (some ad369) ((rd_T48 l0_1 x14_1).f0).length c353_0) ∧ w'.cell? ⟨gb360, 0, none⟩ = some (.slice (some ad370) ((rd_T48 y355 x25_2).f0).length c359_0) ∧ w'.cell? (ad369.add ((rd l1_1 x42_3)).toNat) = some (.int .i64 (rd ((rd_T48 l0_1 x14_1).f0) (rd l1_1 x42_3))) ∧ w'.cell? (ad370.add ((rd l1_1 x42_3)).toNat) = some (.int .i64 (rd ((rd_T48 y355 x25_2).f0) (rd l1_1 x42_3)))) (ds := []) #[Z,Z,Z,Z,Z,Z,Z,Z,Z,Z,Z] (by kernel_rfl) rfl rfl ⟨(xc BK354.out 0).trans rfl, (xc BK360.out 0).trans rfl, ((HB.out.cell (World.block_lt_of_cell? w _ hw369_0)).trans hw369_0), ((HB.out.cell (World.block_lt_of_cell? w _ hw370_0)).trans hw370_0)⟩ (fun hHeld => ?_); refine with_tabW impl_Tableau_stepBy.tab11 impl_Tableau_stepBy.bits11 (fun HT_ HW_ => ?_)
                       generalize wr.drew = w50 at BK351 BK352 BK354 BK360 HB hx369_0 hx370_0 hHeld ⊢
                       refine pu 0 11 1 ?_
                       refine pu 2 11 5 ?_
                       refine pu 5 11 37 ?_
                       refine pu 7 11 165 ?_
                       refine tx 1 11 167 rfl rfl (take_ofW HT_.out HW_.out (by kernel_rfl)) hHeld (by rintro w' ⟨s0, s1, s2, s3⟩; go_simp; with_reducible rfl) ?_
                       refine pu 3 11 175 ?_
                       refine tx 4 11 191 rfl rfl (take_ofW HT_.out HW_.out (by kernel_rfl)) hHeld (by rintro w' ⟨s0, s1, s2, s3⟩; go_simp; with_reducible rfl) ?_
                       refine tx 6 11 255 rfl rfl (take_ofW HT_.out HW_.out (by kernel_rfl)) hHeld (by rintro w' ⟨s0, s1, s2, s3⟩; go_simp; with_reducible rfl) ?_
                       refine pu 8 11 511 ?_
                       refine tx 9 11 1023 rfl rfl (take_ofW HT_.out HW_.out (by kernel_rfl)) hHeld (by rintro w' ⟨s0, s1, s2, s3⟩; go_simp; with_reducible rfl) ?_
                       refine pu 10 11 2047 ?_
                       refine done_ (done_of HT_.out (by kernel_rfl)) ?_
                       try go_wp2
                       go_roundg k3
                       case measure => have := HK1.out; have := HK2.out; have := HK3.out; omega
                       case rel => exact ⟨(wrap64 (x42_3 + 1)), sB, H', ⟨by have := HK1.out; have := HK2.out; have := HK3.out; omega⟩, ⟨kB BK351⟩, ⟨kB BK352⟩, ⟨kB BK354⟩, ⟨kB BK360⟩, ⟨bG⟩⟩
                      ·rw [if_neg c49] at H
                       have c49b0 : ((rd ((rd_T48 l0_1 x14_1).f0) (rd l1_1 x42_3)) == (rd ((rd_T48 y355 x25_2).f0) (rd l1_1 x42_3))) = false := beq_eq_false_iff_ne.mpr c49
                       have c49b1 : ((rd ((rd_T48 l0_1 x14_1).f0) (rd l1_1 x42_3)) != (rd ((rd_T48 y355 x25_2).f0) (rd l1_1 x42_3))) = true := bne_iff_ne.mpr c49
                       replace H := Option.bind_eq_some_iff.mp H
                       obtain ⟨sl, A510, H⟩ := H
                       replace H : some (true, sl) = some (r, r2) := H
                       have A51 := xm A510
                       clear A510
                       obtain ⟨rfl, rfl⟩ := Prod.mk.inj (Option.some.inj H)
                       have p368 : 0 ≤ (x42_3 : Int) := of_decide_eq_true aB
                       have q368 : x42_3 < (l1_1.length : Int) := of_decide_eq_true aB
                       obtain ⟨ad368, e368, hx368_0⟩ := Kd.at_int HR1_1.out x42_3 p368 q368
                       cases e368
                       replace hx368_0 := hU hx368_0
                       replace p368 := eq_true p368
                       replace q368 := eq_true q368
                       try go_wp2
                       have n0_ := xm (xr BK351.out)
                       have n1_ := xm (xr BK352.out)
                       have n2_ := xm (xr BK354.out)
                       have n3_ := xm (xr BK360.out)
                       have n4_ := xm (xd HB.out)
                       revert n0_ n1_ n2_ n3_ n4_; clear BK351 BK352 BK354 BK360 HB; intro BK351 BK352 BK354 BK360 HB
                       have p369 : 0 ≤ ((rd l1_1 x42_3) : Int) := of_decide_eq_true aB
                       have q369 : (rd l1_1 x42_3) < (((rd_T48 l0_1 x14_1).f0).length : Int) := of_decide_eq_true aB
                       obtain ⟨ad369, e369, hx369_0⟩ := Kd.at_int HR353_0.out (rd l1_1 x42_3) p369 q369
                       have hw369_0 := hx369_0
                       cases e369
                       replace hx369_0 := hU hx369_0
                       replace p369 := eq_true p369
                       replace q369 := eq_true q369
                       have p370 : 0 ≤ ((rd l1_1 x42_3) : Int) := of_decide_eq_true aB
                       have q370 : (rd l1_1 x42_3) < (((rd_T48 y355 x25_2).f0).length : Int) := of_decide_eq_true aB
                       obtain ⟨ad370, e370, hx370_0⟩ := Kd.at_int HR359_0.out (rd l1_1 x42_3) p370 q370
                       have hw370_0 := hx370_0
                       cases e370
                       replace hx370_0 := hU hx370_0
                       replace p370 := eq_true p370
                       replace q370 := eq_true q370
                       refine start_ (n := 11) (S := fun w' => w'.cell? ⟨gb354, 0, none⟩ = some (.slice (some ad369) ((rd_T48 l0_1 x14_1).f0).length c353_0) ∧ w'.cell? ⟨gb360, 0, none⟩ = some (.slice (some ad370) ((rd_T48 y355 x25_2).f0).length c359_0) ∧ w'.cell? (ad369.add ((rd l1_1 x42_3)).toNat) = some (.int .i64 (rd ((rd_T48 l0_1 x14_1).f0) (rd l1_1 x42_3))) ∧ w'.cell? (ad370.add ((rd l1_1 x42_3)).toNat) = some (.int .i64 (rd ((rd_T48 y355 x25_2).f0) (rd l1_1 x42_3)))) (ds := []) #[Z,Z,Z,Z,Z,Z,Z,Z,Z,Z,Z] (by kernel_rfl) rfl rfl ⟨(xc BK354.out 0).trans rfl, (xc BK360.out 0).trans rfl, ((HB.out.cell (World.block_lt_of_cell? w _ hw369_0)).trans hw369_0), ((HB.out.cell (World.block_lt_of_cell? w _ hw370_0)).trans hw370_0)⟩ (fun hHeld => ?_); refine with_tabW impl_Tableau_stepBy.tab11 impl_Tableau_stepBy.bits11 (fun HT_ HW_ => ?_)
                       generalize wr.drew = w52 at BK351 BK352 BK354 BK360 HB hx369_0 hx370_0 hHeld ⊢
                       refine pu 0 11 1 ?_
                       refine pu 2 11 5 ?_
                       refine pu 5 11 37 ?_
                       refine pu 7 11 165 ?_
                       refine tx 1 11 167 rfl rfl (take_ofW HT_.out HW_.out (by kernel_rfl)) hHeld (by rintro w' ⟨s0, s1, s2, s3⟩; go_simp; with_reducible rfl) ?_
                       refine pu 3 11 175 ?_
                       refine tx 4 11 191 rfl rfl (take_ofW HT_.out HW_.out (by kernel_rfl)) hHeld (by rintro w' ⟨s0, s1, s2, s3⟩; go_simp; with_reducible rfl) ?_
                       refine tx 6 11 255 rfl rfl (take_ofW HT_.out HW_.out (by kernel_rfl)) hHeld (by rintro w' ⟨s0, s1, s2, s3⟩; go_simp; with_reducible rfl) ?_
                       refine pu 8 11 511 ?_
                       refine tx 9 11 1023 rfl rfl (take_ofW HT_.out HW_.out (by kernel_rfl)) hHeld (by rintro w' ⟨s0, s1, s2, s3⟩; go_simp; with_reducible rfl) ?_
                       refine pu 10 11 2047 ?_
                       refine done_ (done_of HT_.out (by kernel_rfl)) ?_
                       try go_wp2
                       have n0_ := xm (xr BK351.out)
                       have n1_ := xm (xr BK352.out)
                       have n2_ := xm (xr BK354.out)
                       have n3_ := xm (xr BK360.out)
                       have n4_ := xm (xd HB.out)
                       revert n0_ n1_ n2_ n3_ n4_; clear BK351 BK352 BK354 BK360 HB; intro BK351 BK352 BK354 BK360 HB
                       have p371 : 0 ≤ ((rd l1_1 x42_3) : Int) := of_decide_eq_true aB
                       have q371 : (rd l1_1 x42_3) < (((rd_T48 l0_1 x14_1).f0).length : Int) := of_decide_eq_true aB
                       obtain ⟨ad371, e371, hx371_0⟩ := Kd.at_int HR353_0.out (rd l1_1 x42_3) p371 q371
                       have hw371_0 := hx371_0
                       obtain rfl : ad369 = ad371 := (by injection e371)
                       replace hx371_0 := hU hx371_0
                       replace p371 := eq_true p371
                       replace q371 := eq_true q371
                       have p372 : 0 ≤ ((rd l1_1 x42_3) : Int) := of_decide_eq_true aB
                       have q372 : (rd l1_1 x42_3) < (((rd_T48 y355 x25_2).f0).length : Int) := of_decide_eq_true aB
                       obtain ⟨ad372, e372, hx372_0⟩ := Kd.at_int HR359_0.out (rd l1_1 x42_3) p372 q372
                       have hw372_0 := hx372_0
                       obtain rfl : ad370 = ad372 := (by injection e372)
                       replace hx372_0 := hU hx372_0
                       replace p372 := eq_true p372
                       replace q372 := eq_true q372
                       refine start_ (n := 13) (S := fun w' => w'.cell? ⟨gb351, 0, none⟩ = some (.int .i64 a0_0) ∧ w'.cell? ⟨gb351, 1, none⟩ = some (.slice (some ad353) l0_1.length c0_1) ∧ w'.cell? ⟨gb354, 0, none⟩ = some (.slice (some ad369) ((rd_T48 l0_1 x14_1).f0).length c353_0) ∧ w'.cell? ⟨gb360, 0, none⟩ = some (.slice (some ad370) ((rd_T48 y355 x25_2).f0).length c359_0) ∧ w'.cell? (ad369.add ((rd l1_1 x42_3)).toNat) = some (.int .i64 (rd ((rd_T48 l0_1 x14_1).f0) (rd l1_1 x42_3))) ∧ w'.cell? (ad370.add ((rd l1_1 x42_3)).toNat) = some (.int .i64 (rd ((rd_T48 y355 x25_2).f0) (rd l1_1 x42_3)))) (ds := [12]) #[Z,Z,Z,Z,Z,Z,Z,Z,Z,Z,Z,Z,Z] (by kernel_rfl) rfl rfl ⟨(xc BK351.out 0).trans rfl, (xc BK351.out 1).trans rfl, (xc BK354.out 0).trans rfl, (xc BK360.out 0).trans rfl, ((HB.out.cell (World.block_lt_of_cell? w _ hw371_0)).trans hw371_0), ((HB.out.cell (World.block_lt_of_cell? w _ hw372_0)).trans hw372_0)⟩ (fun hHeld => ?_); refine with_tabW impl_Tableau_stepBy.tab12 impl_Tableau_stepBy.bits12 (fun HT_ HW_ => ?_)
                       generalize w52.drew = w53 at BK351 BK352 BK354 BK360 HB hx371_0 hx372_0 hHeld ⊢
                       refine pu 1 13 2 ?_
                       refine pu 2 13 6 ?_
                       refine pu 4 13 22 ?_
                       refine pu 7 13 150 ?_
                       refine pu 9 13 662 ?_
                       refine tx 0 13 663 rfl rfl (by kernel_rfl) hHeld (by rintro w' ⟨s0, s1, s2, s3, s4, s5⟩; go_simp; with_reducible rfl) ?_
                       refine tx 3 13 671 rfl rfl (by kernel_rfl) hHeld (by rintro w' ⟨s0, s1, s2, s3, s4, s5⟩; go_simp; with_reducible rfl) ?_
                       refine pu 5 13 703 ?_
                       refine tx 6 13 767 rfl rfl (by kernel_rfl) hHeld (by rintro w' ⟨s0, s1, s2, s3, s4, s5⟩; go_simp; with_reducible rfl) ?_
                       refine tx 8 13 1023 rfl rfl (by kernel_rfl) hHeld (by rintro w' ⟨s0, s1, s2, s3, s4, s5⟩; go_simp; with_reducible rfl) ?_
                       refine pu 10 13 2047 ?_
                       refine tx 11 13 4095 rfl rfl (by kernel_rfl) hHeld (by rintro w' ⟨s0, s1, s2, s3, s4, s5⟩; go_simp; with_reducible rfl) ?_
                       refine last_ (i := 12) (N := some 69) #[Y,Y,Y,Y,Y,Y,Y,Y,Y,Y,Y,Y,Y] rfl rfl (one_of HT_.out (by kernel_rfl)) (by decide) (fun K hK => ?_)
                       refine goes_ Try.func58 (by kernel_rfl) rfl #[.agg #[.int .i64 a0_0, .slice (some ad353) l0_1.length c0_1], .int .i64 (rd l1_1 x42_3), .int .i64 (rd ((rd_T48 l0_1 x14_1).f0) (rd l1_1 x42_3)), .int .i64 (rd ((rd_T48 y355 x25_2).f0) (rd l1_1 x42_3))] (by rfl) rfl rfl mB ?_
                       refine (impl_Tableau_alike.calls a0_0 (rd l1_1 x42_3) (rd ((rd_T48 l0_1 x14_1).f0) (rd l1_1 x42_3)) (rd ((rd_T48 y355 x25_2).f0) (rd l1_1 x42_3)) P0_ _ l0_1 sl w0 _ (below_step HWO.out bG) (Kd.S_below HSO.out bG) A51.out).mono ?_
                       rintro e w_s ⟨rfl, hs, hb, hk⟩
                       refine ⟨_, rfl, ?_⟩
                       have HSF := xm hs
                       have HBF := xm hb
                       have HKF := xm (Kept.then_ (Kept.of_below bG P0_) hk (fun _ h_ => .inl h_))
                       clear hs hb hk
                       refine hK.out _ _ (nC ?_)
                       clear hK K
                       refine done_ (done_of HT_.out (by kernel_rfl)) ?_
                       try go_wp2
                       go_ret
                       exact ⟨by first | rfl | (simp [errW_none, errW_some] <;> rfl) | (simp only [← hji10]; first | rfl | (simp [errW_none, errW_some] <;> rfl)) | (simp [*, errW_none, errW_some] <;> rfl), HSF.out, HBF.out, HKF.out⟩
                     ·rw [if_neg c48] at H
                      exact absurd H (by simp)
                    ·rw [if_neg c47] at H
                     exact absurd H (by simp)
                   ·rw [if_neg c46] at H
                    exact absurd H (by simp)
                  ·rw [if_neg c45] at H
                   exact absurd H (by simp)
                 ·rw [if_neg c44] at H
                  exact absurd H (by simp)
                ·rw [if_neg c43] at H
                 have c43b0 : decide (x42_3 < (l1_1.length : Int)) = false := decide_eq_false c43
                 clear c43
                 have H' := xm H
                 clear H
                 go_wp2
                 go_roundg k3
                 case measure => have := HK1.out; have := HK2.out; have := HK3.out; omega
                 case rel => exact ⟨(wrap64 (x25_2 + 1)), sB, H', ⟨by have := HK1.out; have := HK2.out; have := HK3.out; omega⟩, ⟨kB BK351⟩, ⟨kB BK352⟩, ⟨kB BK354⟩, ⟨bG⟩⟩
             ·rw [if_neg c27] at H
              have c27b0 : (t367 == 0) = false := beq_eq_false_iff_ne.mpr c27
              have c27b1 : (t367 != 0) = true := bne_iff_ne.mpr c27
              have H' := xm H
              clear H
              have p359 : 0 ≤ (x25_2 : Int) := of_decide_eq_true aB
              have q359 : x25_2 < (y355.length : Int) := of_decide_eq_true aB
              obtain ⟨ad359, A359_0, c359_0, e359, hx359_0, hl359_0, hi359_0⟩ := at_T48 HR358.out x25_2 p359 q359
              cases e359
              replace hx359_0 := hU hx359_0
              have HR359_0 := xm hi359_0
              have HC359_0 := xm hl359_0
              clear hi359_0 hl359_0
              replace p359 := eq_true p359
              replace q359 := eq_true q359
              try go_wp2_with (first | ((with_reducible refine gate_dst (N := 8) rfl ?_); refine box_event ?hg (N := 8) ?hd (cs := #[.slice none 0 0]) (t := 48) ?hr ?_; (case hd => rfl); (case hg => rfl); (case hr => exact zB); intro gb360 hg w55 hbox hb; have n0_ := xm (blk_below (kB BK351) hb); have n1_ := xm (blk_below (kB BK352) hb); have n2_ := xm (blk_below (kB BK354) hb); have n3_ := xm (below_step bG hb); have n4_ := xm (hbox); have n5_ := xm ((by rw [hg]; exact (xz bG) : w.heap.size ≤ gb360)); have n6_ := xm ((by rw [hg]; exact (xz bG) : w.heap.size ≤ gb360)); have n7_ := xm ((by rw [hg]; exact Nat.ne_of_lt (blk_lt (kB BK351)) : gb351 ≠ gb360)); have n8_ := xm ((by rw [hg]; exact Nat.ne_of_gt (blk_lt (kB BK351)) : gb360 ≠ gb351)); have n9_ := xm ((by rw [hg]; exact Nat.ne_of_lt (blk_lt (kB BK352)) : gb352 ≠ gb360)); have n10_ := xm ((by rw [hg]; exact Nat.ne_of_gt (blk_lt (kB BK352)) : gb360 ≠ gb352)); have n11_ := xm ((by rw [hg]; exact Nat.ne_of_lt (blk_lt (kB BK354)) : gb354 ≠ gb360)); have n12_ := xm ((by rw [hg]; exact Nat.ne_of_gt (blk_lt (kB BK354)) : gb360 ≠ gb354)); revert n0_ n1_ n2_ n3_ n4_ n5_ n6_ n7_ n8_ n9_ n10_ n11_ n12_; clear BK351 BK352 BK354 HB; intro BK351 BK352 BK354 HB BK360 GW360 GE360 NB351_360 NB360_351 NB352_360 NB360_352 NB354_360 NB360_354; clear hb hbox hg; have hnb56 := NB360_351.out; have hnc56 := NB351_360.out; have hnb57 := NB360_352.out; have hnc57 := NB352_360.out; have hnb58 := NB360_354.out; have hnc58 := NB354_360.out; obtain ⟨hcz59_0, hfz59_0⟩ := cz1 BK360.out))
              have n0_ : Aside0 ((w55.setCell ⟨gb360, 0, none⟩ (.slice A359_0 ((rd_T48 y355 x25_2).f0).length c359_0)).heap[gb351]? = some (.cells #[.int .i64 a0_0, .slice (some ad353) l0_1.length c0_1] 43 (0, 0))) := ⟨by (with_reducible repeat (first | refine xq ?_ _ | refine xr ?_ | refine xo ?_ _)); refine blk_far ?_ NB351_360.out _; (with_reducible repeat (first | refine xq ?_ _ | refine xr ?_ | refine xo ?_ _)); exact BK351.out⟩
              have n1_ : Aside0 ((w55.setCell ⟨gb360, 0, none⟩ (.slice A359_0 ((rd_T48 y355 x25_2).f0).length c359_0)).heap[gb352]? = some (.cells #[.slice A1_0 l1_0.length c1_0, .slice A1_1 l1_1.length c1_1] 49 (0, 0))) := ⟨by (with_reducible repeat (first | refine xq ?_ _ | refine xr ?_ | refine xo ?_ _)); refine blk_far ?_ NB352_360.out _; (with_reducible repeat (first | refine xq ?_ _ | refine xr ?_ | refine xo ?_ _)); exact BK352.out⟩
              have n2_ : Aside0 ((w55.setCell ⟨gb360, 0, none⟩ (.slice A359_0 ((rd_T48 y355 x25_2).f0).length c359_0)).heap[gb354]? = some (.cells #[.slice A353_0 ((rd_T48 l0_1 x14_1).f0).length c353_0] 48 (0, 0))) := ⟨by (with_reducible repeat (first | refine xq ?_ _ | refine xr ?_ | refine xo ?_ _)); refine blk_far ?_ NB354_360.out _; (with_reducible repeat (first | refine xq ?_ _ | refine xr ?_ | refine xo ?_ _)); exact BK354.out⟩
              have n3_ : Aside0 ((w55.setCell ⟨gb360, 0, none⟩ (.slice A359_0 ((rd_T48 y355 x25_2).f0).length c359_0)).heap[gb360]? = some (.cells #[.slice A359_0 ((rd_T48 y355 x25_2).f0).length c359_0] 48 (0, 0))) := ⟨by (with_reducible repeat (first | refine xq ?_ _ | refine xr ?_ | refine xo ?_ _)); refine blk_put (cs := #[.slice none 0 0]) ?_ 0 _ rfl; (with_reducible repeat (first | refine xq ?_ _ | refine xr ?_ | refine xo ?_ _)); exact BK360.out⟩
              have n4_ : Aside0 (Below w.heap.size w (w55.setCell ⟨gb360, 0, none⟩ (.slice A359_0 ((rd_T48 y355 x25_2).f0).length c359_0))) := ⟨bG⟩
              (try clear BK351)
              (try clear BK352)
              (try clear BK354)
              (try clear BK360)
              (try clear HB)
              generalize (w55.setCell ⟨gb360, 0, none⟩ (.slice A359_0 ((rd_T48 y355 x25_2).f0).length c359_0)) = w60 at n0_ n1_ n2_ n3_ n4_ ⊢
              revert n0_ n1_ n2_ n3_ n4_; intro BK351 BK352 BK354 BK360 HB
              have n0_ := xm (xr BK351.out)
              have n1_ := xm (xr BK352.out)
              have n2_ := xm (xr BK354.out)
              have n3_ := xm (xr BK360.out)
              have n4_ := xm (xd HB.out)
              revert n0_ n1_ n2_ n3_ n4_; clear BK351 BK352 BK354 BK360 HB; intro BK351 BK352 BK354 BK360 HB
              refine start_ (n := 10) (S := fun w' => w'.cell? ⟨gb354, 0, none⟩ = some (.slice A353_0 ((rd_T48 l0_1 x14_1).f0).length c353_0) ∧ w'.cell? ⟨gb352, 0, none⟩ = some (.slice A1_0 l1_0.length c1_0) ∧ w'.cell? ⟨gb352, 1, none⟩ = some (.slice A1_1 l1_1.length c1_1) ∧ w'.cell? ⟨gb360, 0, none⟩ = some (.slice A359_0 ((rd_T48 y355 x25_2).f0).length c359_0)) (ds := []) #[Z,Z,Z,Z,Z,Z,Z,Z,Z,Z] (by kernel_rfl) rfl rfl ⟨(xc BK354.out 0).trans rfl, (xc BK352.out 0).trans rfl, (xc BK352.out 1).trans rfl, (xc BK360.out 0).trans rfl⟩ (fun hHeld => ?_); refine with_tabW impl_Tableau_stepBy.tab7 impl_Tableau_stepBy.bits7 (fun HT_ HW_ => ?_)
              generalize w60.drew = w61 at BK351 BK352 BK354 BK360 HB hHeld ⊢
              refine pu 1 10 2 ?_
              refine pu 5 10 34 ?_
              refine tx 0 10 35 rfl rfl (take_ofW HT_.out HW_.out (by kernel_rfl)) hHeld (by rintro w' ⟨s0, s1, s2, s3⟩; go_simp; with_reducible rfl) ?_
              refine tx 2 10 39 rfl rfl (take_ofW HT_.out HW_.out (by kernel_rfl)) hHeld (by rintro w' ⟨s0, s1, s2, s3⟩; go_simp; with_reducible rfl) ?_
              refine tx 4 10 55 rfl rfl (take_ofW HT_.out HW_.out (by kernel_rfl)) hHeld (by rintro w' ⟨s0, s1, s2, s3⟩; go_simp; with_reducible rfl) ?_
              refine tx 6 10 119 rfl rfl (take_ofW HT_.out HW_.out (by kernel_rfl)) hHeld (by rintro w' ⟨s0, s1, s2, s3⟩; go_simp; with_reducible rfl) ?_
              refine one_ (i := 3) (N := some 32) #[Y,Y,Y,Y,Y,Y,Y,Z,Z,Z] rfl rfl (one_of HT_.out (by kernel_rfl)) (by decide) (fun K hK => ?_)
              refine goes_ Try.func57 (by kernel_rfl) rfl #[.agg #[.slice A353_0 ((rd_T48 l0_1 x14_1).f0).length c353_0], .slice A1_0 l1_0.length c1_0] (by rfl) rfl rfl mB ?_
              with_reducible refine (impl_Row_picked.calls k2 _ _ ((rd_T48 l0_1 x14_1).f0) _ _ l1_0 t361 _ ?side1 ?side2 ?side3 ?side4 A24.out).mono ?_
              (case side1 => exact cB (Kd.C_below HR353_0.out HB.out))
              (case side2 => exact HC353_0.out)
              (case side3 => exact cB (Kd.C_below HR1_0.out HB.out))
              (case side4 => exact HC1_0.out)
              rintro e w62 ⟨v362, rfl, ho0, hb⟩
              refine ⟨_, rfl, ?_⟩
              have n0_ := xm (Kd.R_lower ho0 (xz bG))
              have n1_ := xm (blk_below (kB BK351) hb)
              have n2_ := xm (blk_below (kB BK352) hb)
              have n3_ := xm (blk_below (kB BK354) hb)
              have n4_ := xm (blk_below (kB BK360) hb)
              have n5_ := xm (below_step bG hb)
              revert n0_ n1_ n2_ n3_ n4_ n5_; clear BK351 BK352 BK354 BK360 HB; intro HO363 BK351 BK352 BK354 BK360 HB
              (try clear hb)
              (try clear hb2)
              (try clear hk)
              (try clear hi)
              (try clear ho0)
              refine hK.out _ _ ⟨(xc BK354.out 0).trans rfl, (xc BK352.out 0).trans rfl, (xc BK352.out 1).trans rfl, (xc BK360.out 0).trans rfl⟩ (fun hHeld => nC ?_)
              clear hK K
              refine one_ (i := 7) (N := some 36) #[Y,Y,Y,Y,Y,Y,Y,Y,Z,Z] rfl rfl (one_of HT_.out (by kernel_rfl)) (by decide) (fun K hK => ?_)
              refine goes_ Try.func57 (by kernel_rfl) rfl #[.agg #[.slice A359_0 ((rd_T48 y355 x25_2).f0).length c359_0], .slice A1_0 l1_0.length c1_0] (by rfl) rfl rfl mB ?_
              with_reducible refine (impl_Row_picked.calls k2 _ _ ((rd_T48 y355 x25_2).f0) _ _ l1_0 t364 _ ?side1 ?side2 ?side3 ?side4 A25.out).mono ?_
              (case side1 => exact cB (Kd.C_below HR359_0.out HB.out))
              (case side2 => exact HC359_0.out)
              (case side3 => exact cB (Kd.C_below HR1_0.out HB.out))
              (case side4 => exact HC1_0.out)
              rintro e w63 ⟨v365, rfl, ho0, hb⟩
              refine ⟨_, rfl, ?_⟩
              have n0_ := xm (Kd.R_elder' (rB HO363) (Kd.R_base ho0) hb)
              have n1_ := xm (Kd.R_lower (Kd.R_new' ho0 (Kd.R_lt (rB HO363))) (xz bG))
              have n2_ := xm (blk_below (kB BK351) hb)
              have n3_ := xm (blk_below (kB BK352) hb)
              have n4_ := xm (blk_below (kB BK354) hb)
              have n5_ := xm (blk_below (kB BK360) hb)
              have n6_ := xm (below_step bG hb)
              revert n0_ n1_ n2_ n3_ n4_ n5_ n6_; clear HO363 BK351 BK352 BK354 BK360 HB; intro HO363 HO366 BK351 BK352 BK354 BK360 HB
              (try clear hb)
              (try clear hb2)
              (try clear hk)
              (try clear hi)
              (try clear ho0)
              obtain ⟨Ao64, co64, eo64⟩ := Kd.R_slice HO363.out
              (first | subst eo64 | (injection eo64 with f1_ f2_ f3_; have f4_ := f1_.symm; have f5_ := f3_.symm; clear f1_ f2_ f3_; subst f4_; subst f5_))
              obtain ⟨Ao65, co65, eo65⟩ := Kd.R_slice HO366.out
              (first | subst eo65 | (injection eo65 with f1_ f2_ f3_; have f4_ := f1_.symm; have f5_ := f3_.symm; clear f1_ f2_ f3_; subst f4_; subst f5_))
              refine hK.out _ _ ⟨(xc BK354.out 0).trans rfl, (xc BK352.out 0).trans rfl, (xc BK352.out 1).trans rfl, (xc BK360.out 0).trans rfl⟩ (fun hHeld => nC ?_)
              clear hK K
              refine one_ (i := 8) (N := some 37) #[Y,Y,Y,Y,Y,Y,Y,Y,Y,Z] rfl rfl (one_of HT_.out (by kernel_rfl)) (by decide) (fun K hK => ?_)
              refine goes_ Try.func56 (by kernel_rfl) rfl #[.agg #[.slice Ao64 t361.length co64], .agg #[.slice Ao65 t364.length co65]] (by rfl) rfl rfl mB ?_
              with_reducible refine (impl_compareRows.calls k2 _ _ t361 _ _ t364 t367 _ ?side1 ?side2 ?side3 ?side4 A26.out).mono ?_
              (case side1 => repeat (first | exact (Kd.R_reads' HO363.out).2.2 | (with_reducible refine Kd.C_alloc ?_ _) | (with_reducible refine Kd.C_drewN ?_ _) | (with_reducible refine Kd.C_drew ?_)))
              (case side2 => exact (Kd.R_reads' HO363.out).2.1)
              (case side3 => repeat (first | exact (Kd.R_reads' HO366.out).2.2 | (with_reducible refine Kd.C_alloc ?_ _) | (with_reducible refine Kd.C_drewN ?_ _) | (with_reducible refine Kd.C_drew ?_)))
              (case side4 => exact (Kd.R_reads' HO366.out).2.1)
              rintro e w66 ⟨rfl, hb⟩
              refine ⟨_, rfl, ?_⟩
              have n0_ := xm (Kd.R_below (rB HO363) hb)
              have n1_ := xm (Kd.R_below (rB HO366) hb)
              have n2_ := xm (blk_below (kB BK351) hb)
              have n3_ := xm (blk_below (kB BK352) hb)
              have n4_ := xm (blk_below (kB BK354) hb)
              have n5_ := xm (blk_below (kB BK360) hb)
              have n6_ := xm (below_step bG hb)
              revert n0_ n1_ n2_ n3_ n4_ n5_ n6_; clear HO363 HO366 BK351 BK352 BK354 BK360 HB; intro HO363 HO366 BK351 BK352 BK354 BK360 HB
              (try clear hb)
              (try clear hb2)
              (try clear hk)
              (try clear hi)
              refine hK.out _ _ ⟨(xc BK354.out 0).trans rfl, (xc BK352.out 0).trans rfl, (xc BK352.out 1).trans rfl, (xc BK360.out 0).trans rfl⟩ (fun hHeld => nC ?_)
              clear hK K
              refine pu 9 10 1023 ?_
              refine done_ (done_of HT_.out (by kernel_rfl)) ?_
              try go_wp2
              go_roundg k2
              case measure => have := HK1.out; have := HK2.out; omega
              case rel => exact ⟨(wrap64 (x25_2 + 1)), sB, H', ⟨by have := HK1.out; have := HK2.out; omega⟩, ⟨kB BK351⟩, ⟨kB BK352⟩, ⟨kB BK354⟩, ⟨bG⟩⟩
            ·rw [if_neg c23] at H
             exact absurd H (by simp)
           ·rw [if_neg c22] at H
            exact absurd H (by simp)
          ·rw [if_neg c21] at H
           have c21b0 : decide (x25_2 < (y355.length : Int)) = false := decide_eq_false c21
           clear c21
           have H' := xm H
           clear H
           go_wp2
           go_roundg k2
           case measure => have := HK1.out; have := HK2.out; omega
           case rel => exact ⟨(wrap64 (x14_1 + 1)), sB, H', ⟨by have := HK1.out; have := HK2.out; omega⟩, ⟨kB BK351⟩, ⟨kB BK352⟩, ⟨bG⟩⟩
       ·rw [if_neg c12] at H
        exact absurd H (by simp)
      ·rw [if_neg c11] at H
       exact absurd H (by simp)
     ·rw [if_neg c9] at H
      exact absurd H (by simp)
    ·rw [if_neg c8] at H
     exact absurd H (by simp)
   ·rw [if_neg c7] at H
    have c7b0 : decide (x14_1 < (l0_1.length : Int)) = false := decide_eq_false c7
    clear c7
    obtain ⟨rfl, rfl⟩ := Prod.mk.inj (Option.some.inj H)
    go_wp2
    go_ret
    exact ⟨eB, Kd.S_below HSO.out bG, below_step HWO.out bG, Kept.of_below bG P0_⟩

end Go.Proofs.Ytmelechhnimlnad.G
