/- Written by a program of this claim's own, out of the translation: functions of the program as plain functions, and that the calls answer as these. No conditions. -/
import Derived.Test.YtmelechhnimlnaaG0
namespace Go.Proofs.Ytmelechhnimlnaa.G
open Go.RowKit Go.Proofs.Ytmelechhnimlnaa.X Go.Proofs.YtmelechhnimlnaaW.PrintWords Go.Proofs.YtmelechhnimlnaaW.PrintLast Go.Proofs.YtmelechhnimlnaaW.PrintMore
attribute [local go_sem] max2_int min2_int max_two min_two max_three min_three max_four min_four   -- for this text's walks alone
set_option linter.unusedVariables false
set_option linter.unusedSimpArgs false

/-! ### spec_l1Join: function 19 -/
mutual
def spec_l1Join.l0 : Nat → List (List Int) → List (List Int) → Int → Int → List Int → List Int → List Int → Option (List Int × Bool)
 | 0, _, _, _, _, _, _, _ => none
 | k + 1, x2, x21, x22, x23, x249000, x250000, x258000 => if x23 < x22 then (if 0 ≤ x23 then (if x23 < (x21.length : Int) then (if 0 < ((rd_L2 x21 x23).length : Int) then (if 0 ≤ (rd (rd_L2 x21 x23) 0) then (if (rd (rd_L2 x21 x23) 0) < (x249000.length : Int) then (if 1 < ((rd_L2 x21 x23).length : Int) then (if 0 ≤ (rd (rd_L2 x21 x23) 1) then (if (rd (rd_L2 x21 x23) 1) < (x250000.length : Int) then (if (rd x249000 (rd (rd_L2 x21 x23) 0)) = (rd x250000 (rd (rd_L2 x21 x23) 1)) then (spec_l1Join.l0 k x2 x21 x22 (wrap64 (x23 + 1)) x249000 x250000 x258000) else (some (([] : List Int), false))) else (none)) else (none)) else (none)) else (none)) else (none)) else (none)) else (none)) else (none)) else (spec_l1Join.l1 k x2 x250000 (x250000.length : Int) 0 x258000)
def spec_l1Join.l1 : Nat → List (List Int) → List Int → Int → Int → List Int → Option (List Int × Bool)
 | 0, _, _, _, _, _ => none
 | k + 1, x2, x45, x46, x47, x258000 => if x47 < x46 then (if 0 ≤ x47 then (if x47 < (x45.length : Int) then (spec_l1Join.l2 k x2 x47 (rd x45 x47) false x45 x46 x47 x2 (x2.length : Int) 0 x258000) else (none)) else (none)) else (some (x258000, decide ((x258000.length : Int) ≤ 6)))
def spec_l1Join.l2 : Nat → List (List Int) → Int → Int → Bool → List Int → Int → Int → List (List Int) → Int → Int → List Int → Option (List Int × Bool)
 | 0, _, _, _, _, _, _, _, _, _, _, _ => none
 | k + 1, x2, x11, x12, x13, x45, x46, x47, x52, x53, x54, x258000 => if x54 < x53 then (if 0 ≤ x54 then (if x54 < (x52.length : Int) then (if x13 = true then (spec_l1Join.l2 k x2 x11 x12 true x45 x46 x47 x52 x53 (wrap64 (x54 + 1)) x258000) else (if 1 < ((rd_L2 x52 x54).length : Int) then (spec_l1Join.l2 k x2 x11 x12 ((rd (rd_L2 x52 x54) 1) == x11) x45 x46 x47 x52 x53 (wrap64 (x54 + 1)) x258000) else (none))) else (none)) else (none)) else (if x13 = true then (spec_l1Join.l1 k x2 x45 x46 (wrap64 (x47 + 1)) x258000) else (if x258000.length < 17592186044416 then (spec_l1Join.l1 k x2 x45 x46 (wrap64 (x47 + 1)) (x258000 ++ [x12])) else (none)))
end
def spec_l1Join.f (k : Nat) (l0_0 : List Int) (l1_0 : List Int) (l2 : List (List Int)) : Option (List Int × Bool) := (some (([] : List Int) : List Int)).bind fun y251 => (if y251.length + l0_0.length < 17592186044416 then (spec_l1Join.l0 k l2 l2 (l2.length : Int) 0 l0_0 l1_0 (y251 ++ l0_0)) else (none))
theorem spec_l1Join.mono_l : ∀ k, (∀ y0 y1 y2 y3 y4 y5 y6, LeO (spec_l1Join.l0 k y0 y1 y2 y3 y4 y5 y6) (spec_l1Join.l0 (k + 1) y0 y1 y2 y3 y4 y5 y6)) ∧ (∀ y0 y1 y2 y3 y4, LeO (spec_l1Join.l1 k y0 y1 y2 y3 y4) (spec_l1Join.l1 (k + 1) y0 y1 y2 y3 y4)) ∧ (∀ y0 y1 y2 y3 y4 y5 y6 y7 y8 y9 y10, LeO (spec_l1Join.l2 k y0 y1 y2 y3 y4 y5 y6 y7 y8 y9 y10) (spec_l1Join.l2 (k + 1) y0 y1 y2 y3 y4 y5 y6 y7 y8 y9 y10))
 | 0 => ⟨fun _ _ _ _ _ _ _ r h => by simp [spec_l1Join.l0] at h, fun _ _ _ _ _ r h => by simp [spec_l1Join.l1] at h, fun _ _ _ _ _ _ _ _ _ _ _ r h => by simp [spec_l1Join.l2] at h⟩
 | k + 1 => by
  obtain ⟨ih0, ih1, ih2⟩ := spec_l1Join.mono_l k
  refine ⟨?_, ?_, ?_⟩
  ·intro y0 y1 y2 y3 y4 y5 y6
   unfold spec_l1Join.l0
   repeat' first
   | (with_reducible exact ih0 _ _ _ _ _ _ _)
   | (with_reducible exact ih1 _ _ _ _ _)
   | (with_reducible exact ih2 _ _ _ _ _ _ _ _ _ _ _)
   | (with_reducible exact LeO.refl _)
   | (with_reducible exact LeO.none _)
   | (with_reducible refine LeO.ite ?_ ?_)
   | (with_reducible refine LeO.bind ?_ (fun _ => ?_))
   | exact ih0 _ _ _ _ _ _ _
   | exact ih1 _ _ _ _ _
   | exact ih2 _ _ _ _ _ _ _ _ _ _ _
   | exact LeO.none _
   | refine LeO.ite ?_ ?_
   | refine LeO.bind ?_ (fun _ => ?_)
  ·intro y0 y1 y2 y3 y4
   unfold spec_l1Join.l1
   repeat' first
   | (with_reducible exact ih0 _ _ _ _ _ _ _)
   | (with_reducible exact ih1 _ _ _ _ _)
   | (with_reducible exact ih2 _ _ _ _ _ _ _ _ _ _ _)
   | (with_reducible exact LeO.refl _)
   | (with_reducible exact LeO.none _)
   | (with_reducible refine LeO.ite ?_ ?_)
   | (with_reducible refine LeO.bind ?_ (fun _ => ?_))
   | exact ih0 _ _ _ _ _ _ _
   | exact ih1 _ _ _ _ _
   | exact ih2 _ _ _ _ _ _ _ _ _ _ _
   | exact LeO.none _
   | refine LeO.ite ?_ ?_
   | refine LeO.bind ?_ (fun _ => ?_)
  ·intro y0 y1 y2 y3 y4 y5 y6 y7 y8 y9 y10
   unfold spec_l1Join.l2
   repeat' first
   | (with_reducible exact ih0 _ _ _ _ _ _ _)
   | (with_reducible exact ih1 _ _ _ _ _)
   | (with_reducible exact ih2 _ _ _ _ _ _ _ _ _ _ _)
   | (with_reducible exact LeO.refl _)
   | (with_reducible exact LeO.none _)
   | (with_reducible refine LeO.ite ?_ ?_)
   | (with_reducible refine LeO.bind ?_ (fun _ => ?_))
   | exact ih0 _ _ _ _ _ _ _
   | exact ih1 _ _ _ _ _
   | exact ih2 _ _ _ _ _ _ _ _ _ _ _
   | exact LeO.none _
   | refine LeO.ite ?_ ?_
   | refine LeO.bind ?_ (fun _ => ?_)
theorem spec_l1Join.mono : ∀ a0 a1 a2 k, LeO (spec_l1Join.f k a0 a1 a2) (spec_l1Join.f (k + 1) a0 a1 a2) := by
 intro a0 a1 a2 k
 obtain ⟨ih0, ih1, ih2⟩ := spec_l1Join.mono_l k
 unfold spec_l1Join.f
 repeat' first
   | (with_reducible exact ih0 _ _ _ _ _ _ _)
   | (with_reducible exact ih1 _ _ _ _ _)
   | (with_reducible exact ih2 _ _ _ _ _ _ _ _ _ _ _)
   | (with_reducible exact LeO.refl _)
   | (with_reducible exact LeO.none _)
   | (with_reducible refine LeO.ite ?_ ?_)
   | (with_reducible refine LeO.bind ?_ (fun _ => ?_))
   | exact ih0 _ _ _ _ _ _ _
   | exact ih1 _ _ _ _ _
   | exact ih2 _ _ _ _ _ _ _ _ _ _ _
   | exact LeO.none _
   | refine LeO.ite ?_ ?_
   | refine LeO.bind ?_ (fun _ => ?_)
def spec_l1Join.T5 : Bool × List (List Nat × List Nat) := (true, [([], []), ([0], [0]), ([], []), ([2], [2]), ([3], [3]), ([1, 4], [1, 4]), ([5], [5]), ([], []), ([7], [7]), ([], []), ([9], [9]), ([10], [10]), ([8, 11], [8, 11]), ([12], [12]), ([6, 13], [6, 13])])
def spec_l1Join.B5 : List Nat := [0, 1, 0, 4, 12, 31, 63, 0, 128, 0, 512, 1536, 3968, 8064, 16383]
theorem spec_l1Join.tab5 : rtab .any (opsOf Try.f19 5) = spec_l1Join.T5 := by kernel_rfl
theorem spec_l1Join.bits5 : waitsOk spec_l1Join.T5.2 spec_l1Join.B5 = true := by kernel_rfl
set_option maxHeartbeats 8000000 in
set_option maxRecDepth 100000 in
theorem spec_l1Join.calls (k : Nat) (A0_0 : Option Addr) (c0_0 : Nat) (l0_0 : List Int) (A1_0 : Option Addr) (c1_0 : Nat) (l1_0 : List Int) (A2 : Option Addr) (c2 : Nat) (l2 : List (List Int)) (r1 : List Int) (r2 : Bool) (w : World) (hr0_0 : Kd.C (Kd.int .i64) w A0_0 l0_0.length l0_0) (hc0_0 : l0_0.length ≤ c0_0) (hr1_0 : Kd.C (Kd.int .i64) w A1_0 l1_0.length l1_0) (hc1_0 : l1_0.length ≤ c1_0) (hr2 : Kd.C (Kd.slice 3 (Kd.int .i64)) w A2 l2.length l2) (hc2 : l2.length ≤ c2) (h : spec_l1Join.f k l0_0 l1_0 l2 = some (r1, r2)) :
  Calls Try.prog 19 #[.agg #[.slice A0_0 l0_0.length c0_0], .agg #[.slice A1_0 l1_0.length c1_0], .slice A2 l2.length c2] w fun e w' => ∃ v0_ : Value, e = .returned (.tuple #[.agg #[v0_], .bool r2]) ∧ Kd.R (Kd.int .i64) 3 w' w.heap.size (fun _ => True) v0_ r1 ∧ Below w.heap.size w w' := by
 have hu25 := Try.underlying25
 have HR0_0 := xm hr0_0
 have HC0_0 := xm hc0_0
 clear hr0_0 hc0_0
 have HR1_0 := xm hr1_0
 have HC1_0 := xm hc1_0
 clear hr1_0 hc1_0
 have HR2 := xm hr2
 have HC2 := xm hc2
 clear hr2 hc2
 have HB := xm (Below.refl w.heap.size w)
 have H : ((some (([] : List Int) : List Int)).bind fun y251 => (if y251.length + l0_0.length < 17592186044416 then (spec_l1Join.l0 k l2 l2 (l2.length : Int) 0 l0_0 l1_0 (y251 ++ l0_0)) else (none))) = some (r1, r2) := h
 clear h
 obtain ⟨y251, hy251⟩ : ∃ y_ : List Int, y_ = (([] : List Int)) := ⟨_, rfl⟩
 replace H : (if y251.length + l0_0.length < 17592186044416 then (spec_l1Join.l0 k l2 l2 (l2.length : Int) 0 l0_0 l1_0 (y251 ++ l0_0)) else (none)) = some (r1, r2) := by first | (rw [hy251]; with_reducible exact H) | (have H2_ := (Option.bind_some _ _).symm.trans H; rw [hy251]; with_reducible exact H2_) | (have H2_ := (Option.bind_some _ _).symm.trans H; with_reducible exact H2_) | with_reducible exact H | (rw [hy251]; exact H) | exact H
 have Ny251 := xm hy251
 clear hy251
 by_cases c4 : y251.length + l0_0.length < 17592186044416
 ·rw [if_pos c4] at H
  have LMc4 := xm c4
  clear c4
  obtain ⟨y254, hy254⟩ : ∃ y_ : List Int, y_ = (y251 ++ l0_0) := ⟨_, rfl⟩
  replace H : (spec_l1Join.l0 k l2 l2 (l2.length : Int) 0 l0_0 l1_0 y254) = some (r1, r2) := by first | (rw [hy254]; with_reducible exact H) | (have H2_ := (Option.bind_some _ _).symm.trans H; rw [hy254]; with_reducible exact H2_) | (have H2_ := (Option.bind_some _ _).symm.trans H; with_reducible exact H2_) | with_reducible exact H | (rw [hy254]; exact H) | exact H
  have Ny254 := xm hy254
  clear hy254
  have H' := xm H
  clear H
  go_enter Try.func19, Try.ntmps19
  go_wp2_with (first | ((with_reducible refine gate_dst (N := 3) rfl ?_); refine box_event ?hg (N := 3) ?hd (cs := #[.slice A0_0 l0_0.length c0_0]) (t := 25) ?hr ?_; (case hd => rfl); (case hg => rfl); (case hr => exact zB); intro gb248 hg w5 hbox hb; have n0_ := xm (below_step bB hb); have n1_ := xm (hbox); have n2_ := xm ((by rw [hg]; exact (xz bB) : w.heap.size ≤ gb248)); have n3_ := xm ((by rw [hg]; exact (xz bB) : w.heap.size ≤ gb248)); revert n0_ n1_ n2_ n3_; clear HB; intro HB BK248 GW248 GE248; clear hb hbox hg) | ((with_reducible refine gate_dst (N := 4) rfl ?_); refine box_event ?hg (N := 4) ?hd (cs := #[.slice A1_0 l1_0.length c1_0]) (t := 25) ?hr ?_; (case hd => rfl); (case hg => rfl); (case hr => exact zB); intro gb249 hg w6 hbox hb; have n0_ := xm (blk_below (kB BK248) hb); have n1_ := xm (below_step bG hb); have n2_ := xm (hbox); have n3_ := xm ((by rw [hg]; exact (xz bG) : w.heap.size ≤ gb249)); have n4_ := xm ((by rw [hg]; exact (xz bG) : w.heap.size ≤ gb249)); have n5_ := xm ((by rw [hg]; exact Nat.ne_of_lt (blk_lt (kB BK248)) : gb248 ≠ gb249)); have n6_ := xm ((by rw [hg]; exact Nat.ne_of_gt (blk_lt (kB BK248)) : gb249 ≠ gb248)); revert n0_ n1_ n2_ n3_ n4_ n5_ n6_; clear BK248 HB; intro BK248 HB BK249 GW249 GE249 NB248_249 NB249_248; clear hb hbox hg) | ((with_reducible refine gate_dst (N := 6) rfl ?_); refine box_event ?hg (N := 6) ?hd (cs := #[.slice none 0 0]) (t := 25) ?hr ?_; (case hd => rfl); (case hg => rfl); (case hr => exact zB); intro gb250 hg w7 hbox hb; have n0_ := xm (blk_below (kB BK248) hb); have n1_ := xm (blk_below (kB BK249) hb); have n2_ := xm (below_step bG hb); have n3_ := xm (hbox); have n4_ := xm ((by rw [hg]; exact (xz bG) : w.heap.size ≤ gb250)); have n5_ := xm ((by rw [hg]; exact (xz bG) : w.heap.size ≤ gb250)); have n6_ := xm ((by rw [hg]; exact Nat.ne_of_lt (blk_lt (kB BK248)) : gb248 ≠ gb250)); have n7_ := xm ((by rw [hg]; exact Nat.ne_of_gt (blk_lt (kB BK248)) : gb250 ≠ gb248)); have n8_ := xm ((by rw [hg]; exact Nat.ne_of_lt (blk_lt (kB BK249)) : gb249 ≠ gb250)); have n9_ := xm ((by rw [hg]; exact Nat.ne_of_gt (blk_lt (kB BK249)) : gb250 ≠ gb249)); revert n0_ n1_ n2_ n3_ n4_ n5_ n6_ n7_ n8_ n9_; clear BK248 BK249 HB; intro BK248 BK249 HB BK250 GW250 GE250 NB248_250 NB250_248 NB249_250 NB250_249; clear hb hbox hg) | ((with_reducible refine gate_dst (N := 16) rfl ?_); refine Kd.R_lit (Kd.int .i64) _ 3 ?hg (N := 16) ?hd (xs := ([] : List Int)) (inner := []) (ok := fun _ => True) (okp := fun _ => True) ?hr ?hp (fun _ hk => hk) trivial (Below.refl _ _) (Nat.le_refl _) (by simp) ?_; (case hd => rfl); (case hg => rfl); (case hr => exact zB); (case hp => exact (Reps.none _ _)); intro v252 w8 ho9 hb hg_ hnew_; clear hg_ hnew_; (first | rw [← Ny251.out] at ho9 | (simp only [Int.reduceToNat] at ho9; rw [← Ny251.out] at ho9)); have n0_ := xm (Kd.R_lower ho9 (xz bG)); have n1_ := xm (blk_below (kB BK248) hb); have n2_ := xm (blk_below (kB BK249) hb); have n3_ := xm (blk_below (kB BK250) hb); have n4_ := xm (below_step bG hb); revert n0_ n1_ n2_ n3_ n4_; clear BK248 BK249 BK250 HB; intro HO253 BK248 BK249 BK250 HB; clear hb ho9; have hnb10 := NB248_249.out; have hnc10 := NB249_248.out; have hnb11 := NB248_250.out; have hnc11 := NB250_248.out; obtain ⟨hcz12_0, hfz12_0⟩ := cz1 BK248.out) | ((with_reducible refine gate_builtin (b := .append) (xs := #[.tmp 16, .tmp 18]) rfl ?_); at_builtin; refine Kd.R_append_rows (Kd.int .i64) (w0 := w) w.heap.size rfl (.tmp 16) (.tmp 18) 23 3 (.int .i64 0) 8 rfl Try.underlying23 info3 rfl (by decide) (by omega) v252 y251 l0_0 _ _ _ (fun _ => True) (fun _ => False) rfl rfl ?aO ?aR (fun _ _ h => h) (fun _ h => h.elim) ?aF ?aB ?aS ?aL ?_; (case aR => exact cB (Kd.C_below HR0_0.out HB.out)); (case aB => exact bG); (case aF => exact (fun _ _ => trivial)); (case aO => exact (rB HO253)); (case aS => exact (xz bG)); (case aL => have := LMc4.out; omega); intro v255 w13 ho hb hg hat; rw [← Ny254.out] at ho; have n0_ := xm (blk_grown (kB BK248) hg (Kd.R_ne HO253.out BK248.out (by decide))); have n1_ := xm (blk_grown (kB BK249) hg (Kd.R_ne HO253.out BK249.out (by decide))); have n2_ := xm (blk_grown (kB BK250) hg (Kd.R_ne HO253.out BK250.out (by decide))); have n3_ := xm (hb); have n4_ := xm (ho); revert n0_ n1_ n2_ n3_ n4_; clear BK248 BK249 BK250 HB HO253; intro BK248 BK249 BK250 HB HO256; clear ho hb hg hat; obtain ⟨Ao14, co14, eo14⟩ := Kd.R_slice HO256.out; subst eo14) | ((with_reducible refine gate_dst (N := 8) rfl ?_); refine box_event ?hg (N := 8) ?hd (cs := #[.slice none 0 0]) (t := 25) ?hr ?_; (case hd => rfl); (case hg => rfl); (case hr => exact zB); intro gb257 hg w15 hbox hb; have n0_ := xm (Kd.R_below (rB HO256) hb); have n1_ := xm (blk_below (kB BK248) hb); have n2_ := xm (blk_below (kB BK249) hb); have n3_ := xm (blk_below (kB BK250) hb); have n4_ := xm (below_step bG hb); have n5_ := xm (hbox); have n6_ := xm ((by rw [hg]; exact (xz bG) : w.heap.size ≤ gb257)); have n7_ := xm ((by rw [hg]; exact (xz bG) : w.heap.size ≤ gb257)); have n8_ := xm ((by rw [hg]; exact Nat.ne_of_lt (blk_lt (kB BK248)) : gb248 ≠ gb257)); have n9_ := xm ((by rw [hg]; exact Nat.ne_of_gt (blk_lt (kB BK248)) : gb257 ≠ gb248)); have n10_ := xm ((by rw [hg]; exact Nat.ne_of_lt (blk_lt (kB BK249)) : gb249 ≠ gb257)); have n11_ := xm ((by rw [hg]; exact Nat.ne_of_gt (blk_lt (kB BK249)) : gb257 ≠ gb249)); have n12_ := xm ((by rw [hg]; exact Nat.ne_of_lt (blk_lt (kB BK250)) : gb250 ≠ gb257)); have n13_ := xm ((by rw [hg]; exact Nat.ne_of_gt (blk_lt (kB BK250)) : gb257 ≠ gb250)); revert n0_ n1_ n2_ n3_ n4_ n5_ n6_ n7_ n8_ n9_ n10_ n11_ n12_ n13_; clear HO256 BK248 BK249 BK250 HB; intro HO256 BK248 BK249 BK250 HB BK257 GW257 GE257 NB248_257 NB257_248 NB249_257 NB257_249 NB250_257 NB257_250; clear hb hbox hg; have hnb16 := NB257_248.out; have hnc16 := NB248_257.out; have hnb17 := NB257_249.out; have hnc17 := NB249_257.out; have hnb18 := NB257_250.out; have hnc18 := NB250_257.out; obtain ⟨hcz19_0, hfz19_0⟩ := cz1 BK257.out))
  go_loopg [23] k (fun kq v23 w' => ∃ (x23_1 : Int), v23 = .int .i64 x23_1 ∧ Aside0 (spec_l1Join.l0 kq l2 l2 (l2.length : Int) x23_1 l0_0 l1_0 y254 = some (r1, r2)) ∧ Aside0 (kq ≤ k) ∧ Aside0 (Kd.R (Kd.int .i64) 3 w' w.heap.size (fun _ => True) (.slice Ao14 y254.length co14) y254) ∧ Aside0 (w'.heap[gb248]? = some (.cells #[(.slice A0_0 l0_0.length c0_0)] 25 (0, 0))) ∧ Aside0 (w'.heap[gb249]? = some (.cells #[(.slice A1_0 l1_0.length c1_0)] 25 (0, 0))) ∧ Aside0 (w'.heap[gb250]? = some (.cells #[(.slice none 0 0)] 25 (0, 0))) ∧ Aside0 (w'.heap[gb257]? = some (.cells #[(.slice Ao14 y254.length co14)] 25 (0, 0))) ∧ Aside0 (Below w.heap.size w w'))
  case atStart => exact ⟨(0), sB, H', ⟨Nat.le_refl _⟩, ⟨by (with_reducible repeat (first | apply Kd.R_alloc | apply Kd.R_drewN | apply Kd.R_drew)); exact Kd.R_mono (Kd.R_far (p := ⟨gb257, 0, none⟩) (Kd.R_types HO256.out BK257.out (by decide)) (fun _ hk => hk.2) (.slice Ao14 y254.length co14)) (fun _ hk => trivial)⟩, ⟨by (with_reducible repeat (first | refine xq ?_ _ | refine xr ?_ | refine xo ?_ _)); refine blk_far ?_ NB248_257.out _; (with_reducible repeat (first | refine xq ?_ _ | refine xr ?_ | refine xo ?_ _)); exact BK248.out⟩, ⟨by (with_reducible repeat (first | refine xq ?_ _ | refine xr ?_ | refine xo ?_ _)); refine blk_far ?_ NB249_257.out _; (with_reducible repeat (first | refine xq ?_ _ | refine xr ?_ | refine xo ?_ _)); exact BK249.out⟩, ⟨by (with_reducible repeat (first | refine xq ?_ _ | refine xr ?_ | refine xo ?_ _)); refine blk_far ?_ NB250_257.out _; (with_reducible repeat (first | refine xq ?_ _ | refine xr ?_ | refine xo ?_ _)); exact BK250.out⟩, ⟨by (with_reducible repeat (first | refine xq ?_ _ | refine xr ?_ | refine xo ?_ _)); refine blk_put (cs := #[.slice none 0 0]) ?_ 0 _ rfl; (with_reducible repeat (first | refine xq ?_ _ | refine xr ?_ | refine xo ?_ _)); exact BK257.out⟩, ⟨bG⟩⟩
  case round =>
   clear H'
   try clear c1
   try clear c2
   try clear p2
   try clear c4
   try clear c10
   try clear c11
   try clear c16
   try clear c17
   try clear c18
   try clear c19
   try clear hcz12_0
   try clear hcz19_0
   try clear hfz12_0
   try clear hfz19_0
   obtain ⟨x23_1, rfl, HA, HK1, HO_258000, BK248, BK249, BK250, BK257, HB⟩ := hrel
   cases gk with
   | zero => exact absurd HA.out (by simp [spec_l1Join.l0])
   | succ k1 =>
    have H := HA.out
    clear HA
    simp only [spec_l1Join.l0] at H
    by_cases c20 : x23_1 < (l2.length : Int)
    ·rw [if_pos c20] at H
     have c20b0 : decide (x23_1 < (l2.length : Int)) = true := decide_eq_true c20
     clear c20
     by_cases c21 : 0 ≤ x23_1
     ·rw [if_pos c21] at H
      have c21b0 : decide (0 ≤ x23_1) = true := decide_eq_true c21
      clear c21
      by_cases c22 : x23_1 < (l2.length : Int)
      ·rw [if_pos c22] at H
       have c22b0 : decide (x23_1 < (l2.length : Int)) = true := decide_eq_true c22
       clear c22
       by_cases c23 : 0 < ((rd_L2 l2 x23_1).length : Int)
       ·rw [if_pos c23] at H
        have c23b0 : decide (0 < ((rd_L2 l2 x23_1).length : Int)) = true := decide_eq_true c23
        have c23b1 : decide (0 < (rd_L2 l2 x23_1).length) = true := decide_eq_true (by omega)
        clear c23
        by_cases c24 : 0 ≤ (rd (rd_L2 l2 x23_1) 0)
        ·rw [if_pos c24] at H
         have c24b0 : decide (0 ≤ (rd (rd_L2 l2 x23_1) 0)) = true := decide_eq_true c24
         clear c24
         by_cases c25 : (rd (rd_L2 l2 x23_1) 0) < (l0_0.length : Int)
         ·rw [if_pos c25] at H
          have c25b0 : decide ((rd (rd_L2 l2 x23_1) 0) < (l0_0.length : Int)) = true := decide_eq_true c25
          clear c25
          by_cases c26 : 1 < ((rd_L2 l2 x23_1).length : Int)
          ·rw [if_pos c26] at H
           have c26b0 : decide (1 < ((rd_L2 l2 x23_1).length : Int)) = true := decide_eq_true c26
           have c26b1 : decide (1 < (rd_L2 l2 x23_1).length) = true := decide_eq_true (by omega)
           clear c26
           by_cases c27 : 0 ≤ (rd (rd_L2 l2 x23_1) 1)
           ·rw [if_pos c27] at H
            have c27b0 : decide (0 ≤ (rd (rd_L2 l2 x23_1) 1)) = true := decide_eq_true c27
            clear c27
            by_cases c28 : (rd (rd_L2 l2 x23_1) 1) < (l1_0.length : Int)
            ·rw [if_pos c28] at H
             have c28b0 : decide ((rd (rd_L2 l2 x23_1) 1) < (l1_0.length : Int)) = true := decide_eq_true c28
             clear c28
             by_cases c29 : (rd l0_0 (rd (rd_L2 l2 x23_1) 0)) = (rd l1_0 (rd (rd_L2 l2 x23_1) 1))
             ·rw [if_pos c29] at H
              have c29b0 : ((rd l0_0 (rd (rd_L2 l2 x23_1) 0)) == (rd l1_0 (rd (rd_L2 l2 x23_1) 1))) = true := beq_iff_eq.mpr c29
              have c29b1 : ((rd l0_0 (rd (rd_L2 l2 x23_1) 0)) != (rd l1_0 (rd (rd_L2 l2 x23_1) 1))) = false := bne_eq_false_iff_eq.mpr c29
              clear c29
              have H' := xm H
              clear H
              have p258 : 0 ≤ (x23_1 : Int) := of_decide_eq_true aB
              have q258 : x23_1 < (l2.length : Int) := of_decide_eq_true aB
              obtain ⟨ad258, A258_0, c258_0, e258, hx258_0, hl258_0, hi258_0⟩ := at_L2 HR2.out x23_1 p258 q258
              cases e258
              replace hx258_0 := hU hx258_0
              have HR258_0 := xm hi258_0
              have HC258_0 := xm hl258_0
              clear hi258_0 hl258_0
              replace p258 := eq_true p258
              replace q258 := eq_true q258
              try go_wp2
              have n0_ := xm (Kd.R_drew HO_258000.out)
              have n1_ := xm (xr BK248.out)
              have n2_ := xm (xr BK249.out)
              have n3_ := xm (xr BK250.out)
              have n4_ := xm (xr BK257.out)
              have n5_ := xm (xd HB.out)
              revert n0_ n1_ n2_ n3_ n4_ n5_; clear HO_258000 BK248 BK249 BK250 BK257 HB; intro HO_258000 BK248 BK249 BK250 BK257 HB
              have p259 : 0 ≤ (0 : Int) := (by omega)
              have q259 : 0 < ((rd_L2 l2 x23_1).length : Int) := of_decide_eq_true aB
              obtain ⟨ad259, e259, hx259_0⟩ := Kd.at_int HR258_0.out 0 p259 q259
              have hw259_0 := hx259_0
              (try rw [show ((0 : Int)).toNat = 0 from rfl] at hw259_0)
              (try rw [show 0 * 1 = 0 from rfl] at hw259_0)
              (try rw [Addr.add_zero'] at hw259_0)
              cases e259
              have qi259 : (0 < (rd_L2 l2 x23_1).length) = True := eq_true (by omega)
              (try rw [show ((0 : Int)).toNat = 0 from rfl] at hx259_0)
              (try rw [Addr.add_zero'] at hx259_0)
              replace hx259_0 := hU hx259_0
              replace p259 := eq_true p259
              replace q259 := eq_true q259
              have p260 : 0 ≤ ((rd (rd_L2 l2 x23_1) 0) : Int) := of_decide_eq_true aB
              have q260 : (rd (rd_L2 l2 x23_1) 0) < (l0_0.length : Int) := of_decide_eq_true aB
              obtain ⟨ad260, e260, hx260_0⟩ := Kd.at_int HR0_0.out (rd (rd_L2 l2 x23_1) 0) p260 q260
              have hw260_0 := hx260_0
              cases e260
              replace hx260_0 := hU hx260_0
              replace p260 := eq_true p260
              replace q260 := eq_true q260
              have p261 : 0 ≤ (1 : Int) := (by omega)
              have q261 : 1 < ((rd_L2 l2 x23_1).length : Int) := of_decide_eq_true aB
              obtain ⟨ad261, e261, hx261_0⟩ := Kd.at_int HR258_0.out 1 p261 q261
              have hw261_0 := hx261_0
              (try rw [show ((1 : Int)).toNat = 1 from rfl] at hw261_0)
              (try rw [show 1 * 1 = 1 from rfl] at hw261_0)
              (try simp only [Nat.reduceMul, Nat.reduceEqDiff, Go.Addr.add, ↓reduceIte] at hw261_0)
              obtain rfl : ad259 = ad261 := (by injection e261)
              (try simp only [show (1 : Int).toNat = 1 from rfl, Nat.reduceMul, Nat.reduceEqDiff, Go.Addr.add, ↓reduceIte] at hx261_0)
              have qi261 : (1 < (rd_L2 l2 x23_1).length) = True := eq_true (by omega)
              (try rw [show ((1 : Int)).toNat = 1 from rfl] at hx261_0)
              replace hx261_0 := hU hx261_0
              replace p261 := eq_true p261
              replace q261 := eq_true q261
              have p262 : 0 ≤ ((rd (rd_L2 l2 x23_1) 1) : Int) := of_decide_eq_true aB
              have q262 : (rd (rd_L2 l2 x23_1) 1) < (l1_0.length : Int) := of_decide_eq_true aB
              obtain ⟨ad262, e262, hx262_0⟩ := Kd.at_int HR1_0.out (rd (rd_L2 l2 x23_1) 1) p262 q262
              have hw262_0 := hx262_0
              cases e262
              replace hx262_0 := hU hx262_0
              replace p262 := eq_true p262
              replace q262 := eq_true q262
              refine start_ (n := 15) (S := fun w' => w'.cell? ⟨gb248, 0, none⟩ = some (.slice (some ad260) l0_0.length c0_0) ∧ w'.cell? ⟨gb249, 0, none⟩ = some (.slice (some ad262) l1_0.length c1_0) ∧ w'.cell? ad259 = some (.int .i64 (rd (rd_L2 l2 x23_1) 0)) ∧ w'.cell? (ad260.add ((rd (rd_L2 l2 x23_1) 0)).toNat) = some (.int .i64 (rd l0_0 (rd (rd_L2 l2 x23_1) 0))) ∧ w'.cell? ⟨ad259.block, ad259.off + 1, none⟩ = some (.int .i64 (rd (rd_L2 l2 x23_1) 1)) ∧ w'.cell? (ad262.add ((rd (rd_L2 l2 x23_1) 1)).toNat) = some (.int .i64 (rd l1_0 (rd (rd_L2 l2 x23_1) 1)))) (ds := []) #[Z,Z,Z,Z,Z,Z,Z,Z,Z,Z,Z,Z,Z,Z,Z] (by kernel_rfl) rfl rfl ⟨(xc BK248.out 0).trans rfl, (xc BK249.out 0).trans rfl, ((HB.out.cell (World.block_lt_of_cell? w _ hw259_0)).trans hw259_0), ((HB.out.cell (World.block_lt_of_cell? w _ hw260_0)).trans hw260_0), ((HB.out.cell (World.block_lt_of_cell? w _ hw261_0)).trans hw261_0), ((HB.out.cell (World.block_lt_of_cell? w _ hw262_0)).trans hw262_0)⟩ (fun hHeld => ?_); refine with_tabW spec_l1Join.tab5 spec_l1Join.bits5 (fun HT_ HW_ => ?_)
              generalize wr.drew = w30 at HO_258000 BK248 BK249 BK250 BK257 HB hx259_0 hx260_0 hx261_0 hx262_0 hHeld ⊢
              refine pu 0 15 1 ?_
              refine pu 2 15 5 ?_
              refine pu 3 15 13 ?_
              refine pu 7 15 141 ?_
              refine pu 9 15 653 ?_
              refine pu 10 15 1677 ?_
              refine tx 1 15 1679 rfl rfl (take_ofW HT_.out HW_.out (by kernel_rfl)) hHeld (by rintro w' ⟨s0, s1, s2, s3, s4, s5⟩; go_simp; with_reducible rfl) ?_
              refine tx 4 15 1695 rfl rfl (take_ofW HT_.out HW_.out (by kernel_rfl)) hHeld (by rintro w' ⟨s0, s1, s2, s3, s4, s5⟩; go_simp; with_reducible rfl) ?_
              refine pu 5 15 1727 ?_
              refine tx 6 15 1791 rfl rfl (take_ofW HT_.out HW_.out (by kernel_rfl)) hHeld (by rintro w' ⟨s0, s1, s2, s3, s4, s5⟩; go_simp; with_reducible rfl) ?_
              refine tx 8 15 2047 rfl rfl (take_ofW HT_.out HW_.out (by kernel_rfl)) hHeld (by rintro w' ⟨s0, s1, s2, s3, s4, s5⟩; go_simp; with_reducible rfl) ?_
              refine tx 11 15 4095 rfl rfl (take_ofW HT_.out HW_.out (by kernel_rfl)) hHeld (by rintro w' ⟨s0, s1, s2, s3, s4, s5⟩; go_simp; with_reducible rfl) ?_
              refine pu 12 15 8191 ?_
              refine tx 13 15 16383 rfl rfl (take_ofW HT_.out HW_.out (by kernel_rfl)) hHeld (by rintro w' ⟨s0, s1, s2, s3, s4, s5⟩; go_simp; with_reducible rfl) ?_
              refine pu 14 15 32767 ?_
              refine done_ (done_of HT_.out (by kernel_rfl)) ?_
              try go_wp2
              go_roundg k1
              case measure => have := HK1.out; omega
              case rel => exact ⟨(wrap64 (x23_1 + 1)), sB, H', ⟨by have := HK1.out; omega⟩, ⟨rB HO_258000⟩, ⟨kB BK248⟩, ⟨kB BK249⟩, ⟨kB BK250⟩, ⟨kB BK257⟩, ⟨bG⟩⟩
             ·rw [if_neg c29] at H
              have c29b0 : ((rd l0_0 (rd (rd_L2 l2 x23_1) 0)) == (rd l1_0 (rd (rd_L2 l2 x23_1) 1))) = false := beq_eq_false_iff_ne.mpr c29
              have c29b1 : ((rd l0_0 (rd (rd_L2 l2 x23_1) 0)) != (rd l1_0 (rd (rd_L2 l2 x23_1) 1))) = true := bne_iff_ne.mpr c29
              simp only [Option.some.injEq, Prod.mk.injEq] at H
              obtain ⟨rfl, rfl⟩ := H
              have p258 : 0 ≤ (x23_1 : Int) := of_decide_eq_true aB
              have q258 : x23_1 < (l2.length : Int) := of_decide_eq_true aB
              obtain ⟨ad258, A258_0, c258_0, e258, hx258_0, hl258_0, hi258_0⟩ := at_L2 HR2.out x23_1 p258 q258
              cases e258
              replace hx258_0 := hU hx258_0
              have HR258_0 := xm hi258_0
              have HC258_0 := xm hl258_0
              clear hi258_0 hl258_0
              replace p258 := eq_true p258
              replace q258 := eq_true q258
              try go_wp2
              have n0_ := xm (Kd.R_drew HO_258000.out)
              have n1_ := xm (xr BK248.out)
              have n2_ := xm (xr BK249.out)
              have n3_ := xm (xr BK250.out)
              have n4_ := xm (xr BK257.out)
              have n5_ := xm (xd HB.out)
              revert n0_ n1_ n2_ n3_ n4_ n5_; clear HO_258000 BK248 BK249 BK250 BK257 HB; intro HO_258000 BK248 BK249 BK250 BK257 HB
              have p259 : 0 ≤ (0 : Int) := (by omega)
              have q259 : 0 < ((rd_L2 l2 x23_1).length : Int) := of_decide_eq_true aB
              obtain ⟨ad259, e259, hx259_0⟩ := Kd.at_int HR258_0.out 0 p259 q259
              have hw259_0 := hx259_0
              (try rw [show ((0 : Int)).toNat = 0 from rfl] at hw259_0)
              (try rw [show 0 * 1 = 0 from rfl] at hw259_0)
              (try rw [Addr.add_zero'] at hw259_0)
              cases e259
              have qi259 : (0 < (rd_L2 l2 x23_1).length) = True := eq_true (by omega)
              (try rw [show ((0 : Int)).toNat = 0 from rfl] at hx259_0)
              (try rw [Addr.add_zero'] at hx259_0)
              replace hx259_0 := hU hx259_0
              replace p259 := eq_true p259
              replace q259 := eq_true q259
              have p260 : 0 ≤ ((rd (rd_L2 l2 x23_1) 0) : Int) := of_decide_eq_true aB
              have q260 : (rd (rd_L2 l2 x23_1) 0) < (l0_0.length : Int) := of_decide_eq_true aB
              obtain ⟨ad260, e260, hx260_0⟩ := Kd.at_int HR0_0.out (rd (rd_L2 l2 x23_1) 0) p260 q260
              have hw260_0 := hx260_0
              cases e260
              replace hx260_0 := hU hx260_0
              replace p260 := eq_true p260
              replace q260 := eq_true q260
              have p261 : 0 ≤ (1 : Int) := (by omega)
              have q261 : 1 < ((rd_L2 l2 x23_1).length : Int) := of_decide_eq_true aB
              obtain ⟨ad261, e261, hx261_0⟩ := Kd.at_int HR258_0.out 1 p261 q261
              have hw261_0 := hx261_0
              (try rw [show ((1 : Int)).toNat = 1 from rfl] at hw261_0)
              (try rw [show 1 * 1 = 1 from rfl] at hw261_0)
              (try simp only [Nat.reduceMul, Nat.reduceEqDiff, Go.Addr.add, ↓reduceIte] at hw261_0)
              obtain rfl : ad259 = ad261 := (by injection e261)
              (try simp only [show (1 : Int).toNat = 1 from rfl, Nat.reduceMul, Nat.reduceEqDiff, Go.Addr.add, ↓reduceIte] at hx261_0)
              have qi261 : (1 < (rd_L2 l2 x23_1).length) = True := eq_true (by omega)
              (try rw [show ((1 : Int)).toNat = 1 from rfl] at hx261_0)
              replace hx261_0 := hU hx261_0
              replace p261 := eq_true p261
              replace q261 := eq_true q261
              have p262 : 0 ≤ ((rd (rd_L2 l2 x23_1) 1) : Int) := of_decide_eq_true aB
              have q262 : (rd (rd_L2 l2 x23_1) 1) < (l1_0.length : Int) := of_decide_eq_true aB
              obtain ⟨ad262, e262, hx262_0⟩ := Kd.at_int HR1_0.out (rd (rd_L2 l2 x23_1) 1) p262 q262
              have hw262_0 := hx262_0
              cases e262
              replace hx262_0 := hU hx262_0
              replace p262 := eq_true p262
              replace q262 := eq_true q262
              refine start_ (n := 15) (S := fun w' => w'.cell? ⟨gb248, 0, none⟩ = some (.slice (some ad260) l0_0.length c0_0) ∧ w'.cell? ⟨gb249, 0, none⟩ = some (.slice (some ad262) l1_0.length c1_0) ∧ w'.cell? ad259 = some (.int .i64 (rd (rd_L2 l2 x23_1) 0)) ∧ w'.cell? (ad260.add ((rd (rd_L2 l2 x23_1) 0)).toNat) = some (.int .i64 (rd l0_0 (rd (rd_L2 l2 x23_1) 0))) ∧ w'.cell? ⟨ad259.block, ad259.off + 1, none⟩ = some (.int .i64 (rd (rd_L2 l2 x23_1) 1)) ∧ w'.cell? (ad262.add ((rd (rd_L2 l2 x23_1) 1)).toNat) = some (.int .i64 (rd l1_0 (rd (rd_L2 l2 x23_1) 1)))) (ds := []) #[Z,Z,Z,Z,Z,Z,Z,Z,Z,Z,Z,Z,Z,Z,Z] (by kernel_rfl) rfl rfl ⟨(xc BK248.out 0).trans rfl, (xc BK249.out 0).trans rfl, ((HB.out.cell (World.block_lt_of_cell? w _ hw259_0)).trans hw259_0), ((HB.out.cell (World.block_lt_of_cell? w _ hw260_0)).trans hw260_0), ((HB.out.cell (World.block_lt_of_cell? w _ hw261_0)).trans hw261_0), ((HB.out.cell (World.block_lt_of_cell? w _ hw262_0)).trans hw262_0)⟩ (fun hHeld => ?_); refine with_tabW spec_l1Join.tab5 spec_l1Join.bits5 (fun HT_ HW_ => ?_)
              generalize wr.drew = w31 at HO_258000 BK248 BK249 BK250 BK257 HB hx259_0 hx260_0 hx261_0 hx262_0 hHeld ⊢
              refine pu 0 15 1 ?_
              refine pu 2 15 5 ?_
              refine pu 3 15 13 ?_
              refine pu 7 15 141 ?_
              refine pu 9 15 653 ?_
              refine pu 10 15 1677 ?_
              refine tx 1 15 1679 rfl rfl (take_ofW HT_.out HW_.out (by kernel_rfl)) hHeld (by rintro w' ⟨s0, s1, s2, s3, s4, s5⟩; go_simp; with_reducible rfl) ?_
              refine tx 4 15 1695 rfl rfl (take_ofW HT_.out HW_.out (by kernel_rfl)) hHeld (by rintro w' ⟨s0, s1, s2, s3, s4, s5⟩; go_simp; with_reducible rfl) ?_
              refine pu 5 15 1727 ?_
              refine tx 6 15 1791 rfl rfl (take_ofW HT_.out HW_.out (by kernel_rfl)) hHeld (by rintro w' ⟨s0, s1, s2, s3, s4, s5⟩; go_simp; with_reducible rfl) ?_
              refine tx 8 15 2047 rfl rfl (take_ofW HT_.out HW_.out (by kernel_rfl)) hHeld (by rintro w' ⟨s0, s1, s2, s3, s4, s5⟩; go_simp; with_reducible rfl) ?_
              refine tx 11 15 4095 rfl rfl (take_ofW HT_.out HW_.out (by kernel_rfl)) hHeld (by rintro w' ⟨s0, s1, s2, s3, s4, s5⟩; go_simp; with_reducible rfl) ?_
              refine pu 12 15 8191 ?_
              refine tx 13 15 16383 rfl rfl (take_ofW HT_.out HW_.out (by kernel_rfl)) hHeld (by rintro w' ⟨s0, s1, s2, s3, s4, s5⟩; go_simp; with_reducible rfl) ?_
              refine pu 14 15 32767 ?_
              refine done_ (done_of HT_.out (by kernel_rfl)) ?_
              have hnb32 := NB250_248.out
              have hnc32 := NB248_250.out
              have hnb33 := NB250_249.out
              have hnc33 := NB249_250.out
              have hnb34 := NB250_257.out
              have hnc34 := NB257_250.out
              obtain ⟨hcz35_0, hfz35_0⟩ := cz1 BK250.out
              try go_wp2
              refine bodyPost_ret (results_ct rfl _ _ gb250 25 #[.slice none 0 0] (0, 0) _ rfl (by (with_reducible repeat (first | refine xq ?_ _ | refine xr ?_ | refine xo ?_ _)); refine blk_put (cs := #[.slice none 0 0]) ?_ 0 _ rfl; (with_reducible repeat (first | refine xq ?_ _ | refine xr ?_ | refine xo ?_ _)); exact BK250.out) Try.underlying25 rfl (by kernel_rfl)) rfl ?_
              exact ⟨_, eB, by first | exact Kd.R_nil _ _ _ _ _ | exact Kd.N_nil _ _ _ _ _ | exact Kd.V_nil _ _ _ _ _ | exact Kd.Q_nil _ _ _ _ _ | exact Kd.S_nil _ _ _ _ _, bG⟩
            ·rw [if_neg c28] at H
             exact absurd H (by simp)
           ·rw [if_neg c27] at H
            exact absurd H (by simp)
          ·rw [if_neg c26] at H
           exact absurd H (by simp)
         ·rw [if_neg c25] at H
          exact absurd H (by simp)
        ·rw [if_neg c24] at H
         exact absurd H (by simp)
       ·rw [if_neg c23] at H
        exact absurd H (by simp)
      ·rw [if_neg c22] at H
       exact absurd H (by simp)
     ·rw [if_neg c21] at H
      exact absurd H (by simp)
    ·rw [if_neg c20] at H
     have c20b0 : decide (x23_1 < (l2.length : Int)) = false := decide_eq_false c20
     clear c20
     have H' := xm H
     clear H
     have hnb36 := NB249_248.out
     have hnc36 := NB248_249.out
     have hnb37 := NB249_250.out
     have hnc37 := NB250_249.out
     have hnb38 := NB249_257.out
     have hnc38 := NB257_249.out
     obtain ⟨hcz39_0, hfz39_0⟩ := cz1 BK249.out
     go_wp2
     go_loopg [47] k1 (fun kq v47 w' => ∃ (x47_2 : Int) (x258000_2 : List Int) (u258000 : Value), v47 = .int .i64 x47_2 ∧ Aside0 (spec_l1Join.l1 kq l2 l1_0 (l1_0.length : Int) x47_2 x258000_2 = some (r1, r2)) ∧ Aside0 (kq ≤ k1) ∧ Aside0 (Kd.R (Kd.int .i64) 3 w' w.heap.size (fun _ => True) u258000 x258000_2) ∧ Aside0 (w'.heap[gb248]? = some (.cells #[(.slice A0_0 l0_0.length c0_0)] 25 (0, 0))) ∧ Aside0 (w'.heap[gb249]? = some (.cells #[(.slice A1_0 l1_0.length c1_0)] 25 (0, 0))) ∧ Aside0 (w'.heap[gb250]? = some (.cells #[(.slice none 0 0)] 25 (0, 0))) ∧ Aside0 (w'.heap[gb257]? = some (.cells #[u258000] 25 (0, 0))) ∧ Aside0 (Below w.heap.size w w'))
     case atStart => exact ⟨(0), (y254), (.slice Ao14 y254.length co14), sB, H', ⟨Nat.le_refl _⟩, ⟨rB HO_258000⟩, ⟨kB BK248⟩, ⟨kB BK249⟩, ⟨kB BK250⟩, ⟨kB BK257⟩, ⟨bG⟩⟩
     case round =>
      clear H'
      try clear c1
      try clear c2
      try clear p2
      try clear q2
      try clear hx2
      try clear qi2
      try clear c3
      try clear c4
      try clear p6
      try clear c10
      try clear c11
      try clear c16
      try clear c17
      try clear c18
      try clear c19
      try clear c20
      try clear c20b0
      try clear c21
      try clear c21b0
      try clear c22
      try clear c22b0
      try clear c23
      try clear c23b0 c23b1
      try clear c24
      try clear c24b0
      try clear c25
      try clear c25b0
      try clear p25
      try clear q25
      try clear hx25
      try clear qi25
      try clear c26
      try clear c26b0 c26b1
      try clear p26
      try clear q26
      try clear hx26
      try clear qi26
      try clear c27
      try clear c27b0
      try clear c28
      try clear c28b0
      try clear c29
      try clear c29b0 c29b1
      try clear c32
      try clear c33
      try clear c34
      try clear c36
      try clear c37
      try clear c38
      try clear hcz12_0
      try clear hcz19_0
      try clear hcz35_0
      try clear hcz39_0
      try clear hfz12_0
      try clear hfz19_0
      try clear hfz35_0
      try clear hfz39_0
      try clear hx258_0
      try clear hx259_0
      try clear hx260_0
      try clear hx261_0
      try clear hx262_0
      try clear p2
      try clear p258
      try clear p259
      try clear p260
      try clear p261
      try clear p262
      try clear q258
      try clear q259
      try clear q260
      try clear q261
      try clear q262
      obtain ⟨x47_2, x258000_2, u258000, rfl, HA, HK2, HO_258000, BK248, BK249, BK250, BK257, HB⟩ := hrel
      cases gk with
      | zero => exact absurd HA.out (by simp [spec_l1Join.l1])
      | succ k2 =>
       have H := HA.out
       clear HA
       simp only [spec_l1Join.l1] at H
       by_cases c40 : x47_2 < (l1_0.length : Int)
       ·rw [if_pos c40] at H
        have c40b0 : decide (x47_2 < (l1_0.length : Int)) = true := decide_eq_true c40
        clear c40
        by_cases c41 : 0 ≤ x47_2
        ·rw [if_pos c41] at H
         have c41b0 : decide (0 ≤ x47_2) = true := decide_eq_true c41
         clear c41
         by_cases c42 : x47_2 < (l1_0.length : Int)
         ·rw [if_pos c42] at H
          have c42b0 : decide (x47_2 < (l1_0.length : Int)) = true := decide_eq_true c42
          clear c42
          have H' := xm H
          clear H
          have p263 : 0 ≤ (x47_2 : Int) := of_decide_eq_true aB
          have q263 : x47_2 < (l1_0.length : Int) := of_decide_eq_true aB
          obtain ⟨ad263, e263, hx263_0⟩ := Kd.at_int HR1_0.out x47_2 p263 q263
          cases e263
          replace hx263_0 := hU hx263_0
          replace p263 := eq_true p263
          replace q263 := eq_true q263
          go_wp2
          go_loopg [13, 54] k2 (fun kq v13 v54 w' => ∃ (x13_3 : Bool) (x54_3 : Int), v13 = .bool x13_3 ∧ v54 = .int .i64 x54_3 ∧ Aside0 (spec_l1Join.l2 kq l2 x47_2 (rd l1_0 x47_2) x13_3 l1_0 (l1_0.length : Int) x47_2 l2 (l2.length : Int) x54_3 x258000_2 = some (r1, r2)) ∧ Aside0 (kq ≤ k2) ∧ Aside0 (Kd.R (Kd.int .i64) 3 w' w.heap.size (fun _ => True) u258000 x258000_2) ∧ Aside0 (w'.heap[gb248]? = some (.cells #[(.slice A0_0 l0_0.length c0_0)] 25 (0, 0))) ∧ Aside0 (w'.heap[gb249]? = some (.cells #[(.slice (some ad263) l1_0.length c1_0)] 25 (0, 0))) ∧ Aside0 (w'.heap[gb250]? = some (.cells #[(.slice none 0 0)] 25 (0, 0))) ∧ Aside0 (w'.heap[gb257]? = some (.cells #[u258000] 25 (0, 0))) ∧ Aside0 (Below w.heap.size w w'))
          case atStart => exact ⟨(false), (0), sB, sB, H', ⟨Nat.le_refl _⟩, ⟨rB HO_258000⟩, ⟨kB BK248⟩, ⟨kB BK249⟩, ⟨kB BK250⟩, ⟨kB BK257⟩, ⟨bG⟩⟩
          case round =>
           clear H'
           try clear c1
           try clear c2
           try clear p2
           try clear q2
           try clear hx2
           try clear qi2
           try clear c3
           try clear c4
           try clear p6
           try clear c10
           try clear c11
           try clear c16
           try clear c17
           try clear c18
           try clear c19
           try clear c20
           try clear c20b0
           try clear c21
           try clear c21b0
           try clear c22
           try clear c22b0
           try clear c23
           try clear c23b0 c23b1
           try clear c24
           try clear c24b0
           try clear c25
           try clear c25b0
           try clear p25
           try clear q25
           try clear hx25
           try clear qi25
           try clear c26
           try clear c26b0 c26b1
           try clear p26
           try clear q26
           try clear hx26
           try clear qi26
           try clear c27
           try clear c27b0
           try clear c28
           try clear c28b0
           try clear c29
           try clear c29b0 c29b1
           try clear c32
           try clear c33
           try clear c34
           try clear c36
           try clear c37
           try clear c38
           try clear c40
           try clear c40b0
           try clear c41
           try clear c41b0
           try clear c42
           try clear c42b0
           try clear hcz12_0
           try clear hcz19_0
           try clear hcz35_0
           try clear hcz39_0
           try clear hfz12_0
           try clear hfz19_0
           try clear hfz35_0
           try clear hfz39_0
           try clear hx258_0
           try clear hx259_0
           try clear hx260_0
           try clear hx261_0
           try clear hx262_0
           try clear hx263_0
           try clear p2
           try clear p25
           try clear p258
           try clear p259
           try clear p26
           try clear p260
           try clear p261
           try clear p262
           try clear p263
           try clear p6
           try clear q2
           try clear q25
           try clear q258
           try clear q259
           try clear q26
           try clear q260
           try clear q261
           try clear q262
           try clear q263
           obtain ⟨x13_3, x54_3, rfl, rfl, HA, HK3, HO_258000, BK248, BK249, BK250, BK257, HB⟩ := hrel
           cases gk with
           | zero => exact absurd HA.out (by simp [spec_l1Join.l2])
           | succ k3 =>
            have H := HA.out
            clear HA
            simp only [spec_l1Join.l2] at H
            by_cases c43 : x54_3 < (l2.length : Int)
            ·rw [if_pos c43] at H
             have c43b0 : decide (x54_3 < (l2.length : Int)) = true := decide_eq_true c43
             clear c43
             by_cases c44 : 0 ≤ x54_3
             ·rw [if_pos c44] at H
              have c44b0 : decide (0 ≤ x54_3) = true := decide_eq_true c44
              clear c44
              by_cases c45 : x54_3 < (l2.length : Int)
              ·rw [if_pos c45] at H
               have c45b0 : decide (x54_3 < (l2.length : Int)) = true := decide_eq_true c45
               clear c45
               by_cases c46 : x13_3 = true
               ·subst c46
                have H1 : (spec_l1Join.l2 k3 l2 x47_2 (rd l1_0 x47_2) true l1_0 (l1_0.length : Int) x47_2 l2 (l2.length : Int) (wrap64 (x54_3 + 1)) x258000_2) = some (r1, r2) := by first | (with_reducible rfl) | (rw [if_pos rfl] at H; exact H)
                clear H
                have H := H1
                clear H1
                have H' := xm H
                clear H
                have p264 : 0 ≤ (x54_3 : Int) := of_decide_eq_true aB
                have q264 : x54_3 < (l2.length : Int) := of_decide_eq_true aB
                obtain ⟨ad264, A264_0, c264_0, e264, hx264_0, hl264_0, hi264_0⟩ := at_L2 HR2.out x54_3 p264 q264
                cases e264
                replace hx264_0 := hU hx264_0
                have HR264_0 := xm hi264_0
                have HC264_0 := xm hl264_0
                clear hi264_0 hl264_0
                replace p264 := eq_true p264
                replace q264 := eq_true q264
                go_wp2
                go_roundg k3
                case measure => have := HK1.out; have := HK2.out; have := HK3.out; omega
                case rel => exact ⟨(true), (wrap64 (x54_3 + 1)), sB, sB, H', ⟨by have := HK1.out; have := HK2.out; have := HK3.out; omega⟩, ⟨rB HO_258000⟩, ⟨kB BK248⟩, ⟨kB BK249⟩, ⟨kB BK250⟩, ⟨kB BK257⟩, ⟨bG⟩⟩
               ·replace c46 := Bool.eq_false_iff.mpr c46
                subst c46
                have H1 : (if 1 < ((rd_L2 l2 x54_3).length : Int) then (spec_l1Join.l2 k3 l2 x47_2 (rd l1_0 x47_2) ((rd (rd_L2 l2 x54_3) 1) == x47_2) l1_0 (l1_0.length : Int) x47_2 l2 (l2.length : Int) (wrap64 (x54_3 + 1)) x258000_2) else (none)) = some (r1, r2) := by first | (with_reducible rfl) | (rw [if_neg (show ¬ (false = true) by decide)] at H; exact H)
                clear H
                have H := H1
                clear H1
                by_cases c47 : 1 < ((rd_L2 l2 x54_3).length : Int)
                ·rw [if_pos c47] at H
                 have c47b0 : decide (1 < ((rd_L2 l2 x54_3).length : Int)) = true := decide_eq_true c47
                 have c47b1 : decide (1 < (rd_L2 l2 x54_3).length) = true := decide_eq_true (by omega)
                 clear c47
                 have H' := xm H
                 clear H
                 have p264 : 0 ≤ (x54_3 : Int) := of_decide_eq_true aB
                 have q264 : x54_3 < (l2.length : Int) := of_decide_eq_true aB
                 obtain ⟨ad264, A264_0, c264_0, e264, hx264_0, hl264_0, hi264_0⟩ := at_L2 HR2.out x54_3 p264 q264
                 cases e264
                 replace hx264_0 := hU hx264_0
                 have HR264_0 := xm hi264_0
                 have HC264_0 := xm hl264_0
                 clear hi264_0 hl264_0
                 replace p264 := eq_true p264
                 replace q264 := eq_true q264
                 have p265 : 0 ≤ (1 : Int) := (by omega)
                 have q265 : 1 < ((rd_L2 l2 x54_3).length : Int) := of_decide_eq_true aB
                 obtain ⟨ad265, e265, hx265_0⟩ := Kd.at_int HR264_0.out 1 p265 q265
                 cases e265
                 (try simp only [show (1 : Int).toNat = 1 from rfl, Nat.reduceMul, Nat.reduceEqDiff, Go.Addr.add, ↓reduceIte] at hx265_0)
                 have qi265 : (1 < (rd_L2 l2 x54_3).length) = True := eq_true (by omega)
                 (try rw [show ((1 : Int)).toNat = 1 from rfl] at hx265_0)
                 replace hx265_0 := hU hx265_0
                 replace p265 := eq_true p265
                 replace q265 := eq_true q265
                 go_wp2
                 go_roundg k3
                 case measure => have := HK1.out; have := HK2.out; have := HK3.out; omega
                 case rel => exact ⟨(((rd (rd_L2 l2 x54_3) 1) == x47_2)), (wrap64 (x54_3 + 1)), sB, sB, H', ⟨by have := HK1.out; have := HK2.out; have := HK3.out; omega⟩, ⟨rB HO_258000⟩, ⟨kB BK248⟩, ⟨kB BK249⟩, ⟨kB BK250⟩, ⟨kB BK257⟩, ⟨bG⟩⟩
                ·rw [if_neg c47] at H
                 exact absurd H (by simp)
              ·rw [if_neg c45] at H
               exact absurd H (by simp)
             ·rw [if_neg c44] at H
              exact absurd H (by simp)
            ·rw [if_neg c43] at H
             have c43b0 : decide (x54_3 < (l2.length : Int)) = false := decide_eq_false c43
             clear c43
             by_cases c48 : x13_3 = true
             ·subst c48
              have H1 : (spec_l1Join.l1 k3 l2 l1_0 (l1_0.length : Int) (wrap64 (x47_2 + 1)) x258000_2) = some (r1, r2) := by first | (with_reducible rfl) | (rw [if_pos rfl] at H; exact H)
              clear H
              have H := H1
              clear H1
              have H' := xm H
              clear H
              go_wp2
              go_roundg k3
              case measure => have := HK1.out; have := HK2.out; have := HK3.out; omega
              case rel => exact ⟨(wrap64 (x47_2 + 1)), (x258000_2), (u258000), sB, H', ⟨by have := HK1.out; have := HK2.out; have := HK3.out; omega⟩, ⟨rB HO_258000⟩, ⟨kB BK248⟩, ⟨kB BK249⟩, ⟨kB BK250⟩, ⟨kB BK257⟩, ⟨bG⟩⟩
             ·replace c48 := Bool.eq_false_iff.mpr c48
              subst c48
              have H1 : (if x258000_2.length < 17592186044416 then (spec_l1Join.l1 k3 l2 l1_0 (l1_0.length : Int) (wrap64 (x47_2 + 1)) (x258000_2 ++ [(rd l1_0 x47_2)])) else (none)) = some (r1, r2) := by first | (with_reducible rfl) | (rw [if_neg (show ¬ (false = true) by decide)] at H; exact H)
              clear H
              have H := H1
              clear H1
              by_cases c49 : x258000_2.length < 17592186044416
              ·rw [if_pos c49] at H
               have LMc49 := xm c49
               clear c49
               obtain ⟨y266, hy266⟩ : ∃ y_ : List Int, y_ = (x258000_2 ++ [(rd l1_0 x47_2)]) := ⟨_, rfl⟩
               replace H : (spec_l1Join.l1 k3 l2 l1_0 (l1_0.length : Int) (wrap64 (x47_2 + 1)) y266) = some (r1, r2) := by first | (rw [hy266]; with_reducible exact H) | (have H2_ := (Option.bind_some _ _).symm.trans H; rw [hy266]; with_reducible exact H2_) | (have H2_ := (Option.bind_some _ _).symm.trans H; with_reducible exact H2_) | with_reducible exact H | (rw [hy266]; exact H) | exact H
               have Ny266 := xm hy266
               clear hy266
               have H' := xm H
               clear H
               have hnb50 := NB257_248.out
               have hnc50 := NB248_257.out
               have hnb51 := NB257_249.out
               have hnc51 := NB249_257.out
               have hnb52 := NB257_250.out
               have hnc52 := NB250_257.out
               obtain ⟨hcz53_0, hfz53_0⟩ := cz1 BK257.out
               go_wp2_with (first | ((with_reducible refine gate_builtin (b := .append) (xs := #[.tmp 70, .tmp 72]) rfl ?_); at_builtin; refine Kd.R_append (Kd.int .i64) (w0 := w) w.heap.size rfl (.tmp 70) (.tmp 72) 23 3 (.int .i64 0) 8 rfl Try.underlying23 info3 rfl (by decide) (by omega) u258000 x258000_2 (rd l1_0 x47_2) [.int .i64 (rd l1_0 x47_2)] (fun _ => True) (fun _ => False) rfl rfl ?aP (fun _ hk => hk.elim) ?aF ?aO ?aB ?aS ?aL ?_; (case aP => exact rfl); (case aB => exact bG); (case aF => exact (fun _ _ => trivial)); (case aO => exact (rB HO_258000)); (case aS => exact (xz bG)); (case aL => have := LMc49.out; omega); intro v267 w54 ho hb hg hat; rw [← Ny266.out] at ho; have n0_ := xm (blk_grown (kB BK248) hg (Kd.R_ne HO_258000.out BK248.out (by decide))); have n1_ := xm (blk_grown (kB BK249) hg (Kd.R_ne HO_258000.out BK249.out (by decide))); have n2_ := xm (blk_grown (kB BK250) hg (Kd.R_ne HO_258000.out BK250.out (by decide))); have n3_ := xm (blk_grown (kB BK257) hg (Kd.R_ne HO_258000.out BK257.out (by decide))); have n4_ := xm (hb); have n5_ := xm (ho); revert n0_ n1_ n2_ n3_ n4_ n5_; clear BK248 BK249 BK250 BK257 HB HO_258000; intro BK248 BK249 BK250 BK257 HB HO268; clear ho hb hg hat; obtain ⟨Ao55, co55, eo55⟩ := Kd.R_slice HO268.out; subst eo55; obtain ⟨hcz56_0, hfz56_0⟩ := cz1 BK257.out))
               go_roundg k3
               case measure => have := HK1.out; have := HK2.out; have := HK3.out; omega
               case rel => exact ⟨(wrap64 (x47_2 + 1)), (y266), (.slice Ao55 y266.length co55), sB, H', ⟨by have := HK1.out; have := HK2.out; have := HK3.out; omega⟩, ⟨by (with_reducible repeat (first | apply Kd.R_alloc | apply Kd.R_drewN | apply Kd.R_drew)); exact Kd.R_mono (Kd.R_far (p := ⟨gb257, 0, none⟩) (Kd.R_types HO268.out BK257.out (by decide)) (fun _ hk => hk.2) (.slice Ao55 y266.length co55)) (fun _ hk => trivial)⟩, ⟨by (with_reducible repeat (first | refine xq ?_ _ | refine xr ?_ | refine xo ?_ _)); refine blk_far ?_ NB248_257.out _; (with_reducible repeat (first | refine xq ?_ _ | refine xr ?_ | refine xo ?_ _)); exact BK248.out⟩, ⟨by (with_reducible repeat (first | refine xq ?_ _ | refine xr ?_ | refine xo ?_ _)); refine blk_far ?_ NB249_257.out _; (with_reducible repeat (first | refine xq ?_ _ | refine xr ?_ | refine xo ?_ _)); exact BK249.out⟩, ⟨by (with_reducible repeat (first | refine xq ?_ _ | refine xr ?_ | refine xo ?_ _)); refine blk_far ?_ NB250_257.out _; (with_reducible repeat (first | refine xq ?_ _ | refine xr ?_ | refine xo ?_ _)); exact BK250.out⟩, ⟨by (with_reducible repeat (first | refine xq ?_ _ | refine xr ?_ | refine xo ?_ _)); refine blk_put (cs := #[u258000]) ?_ 0 _ rfl; (with_reducible repeat (first | refine xq ?_ _ | refine xr ?_ | refine xo ?_ _)); exact BK257.out⟩, ⟨bG⟩⟩
              ·rw [if_neg c49] at H
               exact absurd H (by simp)
         ·rw [if_neg c42] at H
          exact absurd H (by simp)
        ·rw [if_neg c41] at H
         exact absurd H (by simp)
       ·rw [if_neg c40] at H
        have c40b0 : decide (x47_2 < (l1_0.length : Int)) = false := decide_eq_false c40
        clear c40
        simp only [Option.some.injEq, Prod.mk.injEq] at H
        obtain ⟨rfl, rfl⟩ := H
        try go_wp2
        have n0_ := xm (Kd.R_drew HO_258000.out)
        have n1_ := xm (xr BK248.out)
        have n2_ := xm (xr BK249.out)
        have n3_ := xm (xr BK250.out)
        have n4_ := xm (xr BK257.out)
        have n5_ := xm (xd HB.out)
        revert n0_ n1_ n2_ n3_ n4_ n5_; clear HO_258000 BK248 BK249 BK250 BK257 HB; intro HO_258000 BK248 BK249 BK250 BK257 HB
        obtain ⟨Ao58, co58, eo58⟩ := Kd.R_slice HO_258000.out
        (first | subst eo58 | (injection eo58 with f1_ f2_ f3_; have f4_ := f1_.symm; have f5_ := f3_.symm; clear f1_ f2_ f3_; subst f4_; subst f5_))
        refine start_ (n := 7) (S := fun w' => w'.cell? ⟨gb257, 0, none⟩ = some (.slice Ao58 x258000_2.length co58)) (ds := []) #[false, false, false, false, false, false, false] (by kernel_rfl) rfl rfl ((xc BK257.out 0).trans rfl) (fun hHeld => ?_)
        generalize wr.drew = w57 at HO_258000 BK248 BK249 BK250 BK257 HB hHeld ⊢
        refine px 1 7 2 (by kernel_rfl) ?_
        refine take_ (i := 0) (N := some 76) (v := ?_) (a' := ?_) #[true, true, false, false, false, false, false] rfl rfl (by kernel_rfl) (fun _ _ _ h => h) (Or.inl ⟨by rfl, ?_⟩) hHeld ?_ ?_
        rotate_left
        ·intro w' s0
         go_simp
         with_reducible rfl
        rotate_left
        ·simp only [Act.put, xi, xj, xk, i64_w, i32_w]
         rfl
        refine take_ (i := 2) (N := some 78) (v := ?_) (a' := ?_) #[true, true, true, false, false, false, false] rfl rfl (by kernel_rfl) (fun _ _ _ h => h) (Or.inl ⟨by rfl, ?_⟩) hHeld ?_ ?_
        rotate_left
        ·intro w' s0
         go_simp
         with_reducible rfl
        rotate_left
        ·simp only [Act.put, xi, xj, xk, i64_w, i32_w]
         rfl
        refine px 3 7 15 (by kernel_rfl) ?_
        refine px 4 7 31 (by kernel_rfl) ?_
        refine one_ (i := 5) (N := none) #[true, true, true, true, true, true, false] rfl rfl (by kernel_rfl) (by decide) (fun K hK => ?_)
        have hs59 : w57.cell? ⟨gb250, 0, none⟩ = some (.slice none 0 0) := (xc BK250.out 0).trans rfl
        have hfs59 := xf BK250.out 0
        have hns59_0 := NB248_250.out
        have hns59_1 := NB249_250.out
        have hns59_3 := NB257_250.out
        have hms59_0 := NB250_248.out
        have hms59_1 := NB250_249.out
        have hms59_3 := NB250_257.out
        refine skip_ (w1 := ?_) (by rfl) rfl ?_ ?_
        rotate_left
        ·go_simp
         rfl
        refine hK.out _ _ (((cell_far (p := ⟨gb250, _, none⟩) NB257_250.out _).trans (hHeld))) (fun hHeld => ?_)
        clear hK K
        refine px 6 7 127 (by kernel_rfl) ?_
        refine done_ (by kernel_rfl) ?_
        try go_wp2
        refine bodyPost_ret (results_ct rfl _ _ gb250 25 #[.slice Ao58 x258000_2.length co58] (0, 0) _ rfl (by (with_reducible repeat (first | refine xq ?_ _ | refine xr ?_ | refine xo ?_ _)); refine blk_put (cs := #[.slice none 0 0]) ?_ 0 _ rfl; (with_reducible repeat (first | refine xq ?_ _ | refine xr ?_ | refine xo ?_ _)); exact BK250.out) Try.underlying25 rfl (by kernel_rfl)) rfl ?_
        exact ⟨_, eB, by (with_reducible repeat (first | apply Kd.R_alloc | apply Kd.R_drewN | apply Kd.R_drew)); exact Kd.R_mono (Kd.R_far (p := ⟨gb250, 0, none⟩) (Kd.R_types HO_258000.out BK250.out (by decide)) (fun _ hk => hk.2) (.slice Ao58 x258000_2.length co58)) (fun _ hk => trivial), bG⟩
 ·rw [if_neg c4] at H
  exact absurd H (by simp)

end Go.Proofs.Ytmelechhnimlnaa.G
