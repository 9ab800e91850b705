/- Written by a program of this claim's own, out of the translation: functions of the program as plain functions, and that the calls answer as these. No conditions. -/
import Derived.Test.YtcbikaoackbbjaaG0
namespace Go.Proofs.Ytcbikaoackbbjaa.G
open Go.RowKit Go.Proofs.Ytcbikaoackbbjaa.X Go.Proofs.YtcbikaoackbbjaaW.PrintWords Go.Proofs.YtcbikaoackbbjaaW.PrintLast Go.Proofs.YtcbikaoackbbjaaW.PrintMore
attribute [local go_sem] max2_int min2_int max_two min_two max_three min_three max_four min_four   -- for this text's walks alone
set_option linter.unusedVariables false
set_option linter.unusedSimpArgs false

/-! ### spec_l1Join: function 117 -/
mutual
def spec_l1Join.l0 : Nat → List (List Int) → List (List Int) → Int → Int → List Int → List Int → List Int → Option (List Int × Bool)
 | 0, _, _, _, _, _, _, _ => none
 | k + 1, x2, x21, x22, x23, x137000, x138000, x146000 => if x23 < x22 then (if 0 ≤ x23 then (if x23 < (x21.length : Int) then (if 0 < ((rd_L1 x21 x23).length : Int) then (if 0 ≤ (rd (rd_L1 x21 x23) 0) then (if (rd (rd_L1 x21 x23) 0) < (x137000.length : Int) then (if 1 < ((rd_L1 x21 x23).length : Int) then (if 0 ≤ (rd (rd_L1 x21 x23) 1) then (if (rd (rd_L1 x21 x23) 1) < (x138000.length : Int) then (if (rd x137000 (rd (rd_L1 x21 x23) 0)) = (rd x138000 (rd (rd_L1 x21 x23) 1)) then (spec_l1Join.l0 k x2 x21 x22 (wrap64 (x23 + 1)) x137000 x138000 x146000) else (some (([] : List Int), false))) else (none)) else (none)) else (none)) else (none)) else (none)) else (none)) else (none)) else (none)) else (spec_l1Join.l1 k x2 x138000 (x138000.length : Int) 0 x146000)
def spec_l1Join.l1 : Nat → List (List Int) → List Int → Int → Int → List Int → Option (List Int × Bool)
 | 0, _, _, _, _, _ => none
 | k + 1, x2, x45, x46, x47, x146000 => if x47 < x46 then (if 0 ≤ x47 then (if x47 < (x45.length : Int) then (spec_l1Join.l2 k x2 x47 (rd x45 x47) false x45 x46 x47 x2 (x2.length : Int) 0 x146000) else (none)) else (none)) else (some (x146000, decide ((x146000.length : Int) ≤ 6)))
def spec_l1Join.l2 : Nat → List (List Int) → Int → Int → Bool → List Int → Int → Int → List (List Int) → Int → Int → List Int → Option (List Int × Bool)
 | 0, _, _, _, _, _, _, _, _, _, _, _ => none
 | k + 1, x2, x11, x12, x13, x45, x46, x47, x52, x53, x54, x146000 => if x54 < x53 then (if 0 ≤ x54 then (if x54 < (x52.length : Int) then (if x13 = true then (spec_l1Join.l2 k x2 x11 x12 true x45 x46 x47 x52 x53 (wrap64 (x54 + 1)) x146000) else (if 1 < ((rd_L1 x52 x54).length : Int) then (spec_l1Join.l2 k x2 x11 x12 ((rd (rd_L1 x52 x54) 1) == x11) x45 x46 x47 x52 x53 (wrap64 (x54 + 1)) x146000) else (none))) else (none)) else (none)) else (if x13 = true then (spec_l1Join.l1 k x2 x45 x46 (wrap64 (x47 + 1)) x146000) else (if x146000.length < 17592186044416 then (spec_l1Join.l1 k x2 x45 x46 (wrap64 (x47 + 1)) (x146000 ++ [x12])) else (none)))
end
def spec_l1Join.f (k : Nat) (l0_0 : List Int) (l1_0 : List Int) (l2 : List (List Int)) : Option (List Int × Bool) := (some (([] : List Int) : List Int)).bind fun y139 => (if y139.length + l0_0.length < 17592186044416 then (spec_l1Join.l0 k l2 l2 (l2.length : Int) 0 l0_0 l1_0 (y139 ++ l0_0)) else (none))
theorem spec_l1Join.mono_l : ∀ k, (∀ y0 y1 y2 y3 y4 y5 y6, LeO (spec_l1Join.l0 k y0 y1 y2 y3 y4 y5 y6) (spec_l1Join.l0 (k + 1) y0 y1 y2 y3 y4 y5 y6)) ∧ (∀ y0 y1 y2 y3 y4, LeO (spec_l1Join.l1 k y0 y1 y2 y3 y4) (spec_l1Join.l1 (k + 1) y0 y1 y2 y3 y4)) ∧ (∀ y0 y1 y2 y3 y4 y5 y6 y7 y8 y9 y10, LeO (spec_l1Join.l2 k y0 y1 y2 y3 y4 y5 y6 y7 y8 y9 y10) (spec_l1Join.l2 (k + 1) y0 y1 y2 y3 y4 y5 y6 y7 y8 y9 y10))
 | 0 => ⟨fun _ _ _ _ _ _ _ r h => by simp [spec_l1Join.l0] at h, fun _ _ _ _ _ r h => by simp [spec_l1Join.l1] at h, fun _ _ _ _ _ _ _ _ _ _ _ r h => by simp [spec_l1Join.l2] at h⟩
 | k + 1 => by
  obtain ⟨ih0, ih1, ih2⟩ := spec_l1Join.mono_l k
  refine ⟨?_, ?_, ?_⟩
  ·intro y0 y1 y2 y3 y4 y5 y6
   unfold spec_l1Join.l0
   repeat' first
   | (with_reducible exact ih0 _ _ _ _ _ _ _)
   | (with_reducible exact ih1 _ _ _ _ _)
   | (with_reducible exact ih2 _ _ _ _ _ _ _ _ _ _ _)
   | (with_reducible exact LeO.refl _)
   | (with_reducible exact LeO.none _)
   | (with_reducible refine LeO.ite ?_ ?_)
   | (with_reducible refine LeO.bind ?_ (fun _ => ?_))
   | exact ih0 _ _ _ _ _ _ _
   | exact ih1 _ _ _ _ _
   | exact ih2 _ _ _ _ _ _ _ _ _ _ _
   | exact LeO.none _
   | refine LeO.ite ?_ ?_
   | refine LeO.bind ?_ (fun _ => ?_)
  ·intro y0 y1 y2 y3 y4
   unfold spec_l1Join.l1
   repeat' first
   | (with_reducible exact ih0 _ _ _ _ _ _ _)
   | (with_reducible exact ih1 _ _ _ _ _)
   | (with_reducible exact ih2 _ _ _ _ _ _ _ _ _ _ _)
   | (with_reducible exact LeO.refl _)
   | (with_reducible exact LeO.none _)
   | (with_reducible refine LeO.ite ?_ ?_)
   | (with_reducible refine LeO.bind ?_ (fun _ => ?_))
   | exact ih0 _ _ _ _ _ _ _
   | exact ih1 _ _ _ _ _
   | exact ih2 _ _ _ _ _ _ _ _ _ _ _
   | exact LeO.none _
   | refine LeO.ite ?_ ?_
   | refine LeO.bind ?_ (fun _ => ?_)
  ·intro y0 y1 y2 y3 y4 y5 y6 y7 y8 y9 y10
   unfold spec_l1Join.l2
   repeat' first
   | (with_reducible exact ih0 _ _ _ _ _ _ _)
   | (with_reducible exact ih1 _ _ _ _ _)
   | (with_reducible exact ih2 _ _ _ _ _ _ _ _ _ _ _)
   | (with_reducible exact LeO.refl _)
   | (with_reducible exact LeO.none _)
   | (with_reducible refine LeO.ite ?_ ?_)
   | (with_reducible refine LeO.bind ?_ (fun _ => ?_))
   | exact ih0 _ _ _ _ _ _ _
   | exact ih1 _ _ _ _ _
   | exact ih2 _ _ _ _ _ _ _ _ _ _ _
   | exact LeO.none _
   | refine LeO.ite ?_ ?_
   | refine LeO.bind ?_ (fun _ => ?_)
theorem spec_l1Join.mono : ∀ a0 a1 a2 k, LeO (spec_l1Join.f k a0 a1 a2) (spec_l1Join.f (k + 1) a0 a1 a2) := by
 intro a0 a1 a2 k
 obtain ⟨ih0, ih1, ih2⟩ := spec_l1Join.mono_l k
 unfold spec_l1Join.f
 repeat' first
   | (with_reducible exact ih0 _ _ _ _ _ _ _)
   | (with_reducible exact ih1 _ _ _ _ _)
   | (with_reducible exact ih2 _ _ _ _ _ _ _ _ _ _ _)
   | (with_reducible exact LeO.refl _)
   | (with_reducible exact LeO.none _)
   | (with_reducible refine LeO.ite ?_ ?_)
   | (with_reducible refine LeO.bind ?_ (fun _ => ?_))
   | exact ih0 _ _ _ _ _ _ _
   | exact ih1 _ _ _ _ _
   | exact ih2 _ _ _ _ _ _ _ _ _ _ _
   | exact LeO.none _
   | refine LeO.ite ?_ ?_
   | refine LeO.bind ?_ (fun _ => ?_)
def spec_l1Join.T5 : Bool × List (List Nat × List Nat) := (true, [([], []), ([0], [0]), ([], []), ([2], [2]), ([3], [3]), ([1, 4], [1, 4]), ([5], [5]), ([], []), ([7], [7]), ([], []), ([9], [9]), ([10], [10]), ([8, 11], [8, 11]), ([12], [12]), ([6, 13], [6, 13])])
def spec_l1Join.B5 : List Nat := [0, 1, 0, 4, 12, 31, 63, 0, 128, 0, 512, 1536, 3968, 8064, 16383]
theorem spec_l1Join.tab5 : rtab .any (opsOf Try.f117 5) = spec_l1Join.T5 := by kernel_rfl
theorem spec_l1Join.bits5 : waitsOk spec_l1Join.T5.2 spec_l1Join.B5 = true := by kernel_rfl
set_option maxHeartbeats 8000000 in
set_option maxRecDepth 100000 in
theorem spec_l1Join.calls (k : Nat) (A0_0 : Option Addr) (c0_0 : Nat) (l0_0 : List Int) (A1_0 : Option Addr) (c1_0 : Nat) (l1_0 : List Int) (A2 : Option Addr) (c2 : Nat) (l2 : List (List Int)) (r1 : List Int) (r2 : Bool) (w : World) (hr0_0 : Kd.C (Kd.int .i64) w A0_0 l0_0.length l0_0) (hc0_0 : l0_0.length ≤ c0_0) (hr1_0 : Kd.C (Kd.int .i64) w A1_0 l1_0.length l1_0) (hc1_0 : l1_0.length ≤ c1_0) (hr2 : Kd.C (Kd.slice 3 (Kd.int .i64)) w A2 l2.length l2) (hc2 : l2.length ≤ c2) (h : spec_l1Join.f k l0_0 l1_0 l2 = some (r1, r2)) :
  Calls Try.prog 117 #[.agg #[.slice A0_0 l0_0.length c0_0], .agg #[.slice A1_0 l1_0.length c1_0], .slice A2 l2.length c2] w fun e w' => ∃ v0_ : Value, e = .returned (.tuple #[.agg #[v0_], .bool r2]) ∧ Kd.R (Kd.int .i64) 3 w' w.heap.size (fun _ => True) v0_ r1 ∧ Below w.heap.size w w' := by
 have hu26 := Try.underlying26
 have HR0_0 := xm hr0_0
 have HC0_0 := xm hc0_0
 clear hr0_0 hc0_0
 have HR1_0 := xm hr1_0
 have HC1_0 := xm hc1_0
 clear hr1_0 hc1_0
 have HR2 := xm hr2
 have HC2 := xm hc2
 clear hr2 hc2
 have HB := xm (Below.refl w.heap.size w)
 have H : ((some (([] : List Int) : List Int)).bind fun y139 => (if y139.length + l0_0.length < 17592186044416 then (spec_l1Join.l0 k l2 l2 (l2.length : Int) 0 l0_0 l1_0 (y139 ++ l0_0)) else (none))) = some (r1, r2) := h
 clear h
 obtain ⟨y139, hy139⟩ : ∃ y_ : List Int, y_ = (([] : List Int)) := ⟨_, rfl⟩
 replace H : (if y139.length + l0_0.length < 17592186044416 then (spec_l1Join.l0 k l2 l2 (l2.length : Int) 0 l0_0 l1_0 (y139 ++ l0_0)) else (none)) = some (r1, r2) := by first | (rw [hy139]; with_reducible exact H) | (have H2_ := (Option.bind_some _ _).symm.trans H; rw [hy139]; with_reducible exact H2_) | (have H2_ := (Option.bind_some _ _).symm.trans H; with_reducible exact H2_) | with_reducible exact H | (rw [hy139]; exact H) | exact H
 have Ny139 := xm hy139
 clear hy139
 by_cases c4 : y139.length + l0_0.length < 17592186044416
 ·rw [if_pos c4] at H
  have LMc4 := xm c4
  clear c4
  obtain ⟨y142, hy142⟩ : ∃ y_ : List Int, y_ = (y139 ++ l0_0) := ⟨_, rfl⟩
  replace H : (spec_l1Join.l0 k l2 l2 (l2.length : Int) 0 l0_0 l1_0 y142) = some (r1, r2) := by first | (rw [hy142]; with_reducible exact H) | (have H2_ := (Option.bind_some _ _).symm.trans H; rw [hy142]; with_reducible exact H2_) | (have H2_ := (Option.bind_some _ _).symm.trans H; with_reducible exact H2_) | with_reducible exact H | (rw [hy142]; exact H) | exact H
  have Ny142 := xm hy142
  clear hy142
  have H' := xm H
  clear H
  go_enter Try.func117, Try.ntmps117
  go_wp2_with (first | ((with_reducible refine gate_dst (N := 3) rfl ?_); refine box_event ?hg (N := 3) ?hd (cs := #[.slice A0_0 l0_0.length c0_0]) (t := 26) ?hr ?_; (case hd => rfl); (case hg => rfl); (case hr => exact zB); intro gb136 hg w5 hbox hb; have n0_ := xm (below_step bB hb); have n1_ := xm (hbox); have n2_ := xm ((by rw [hg]; exact (xz bB) : w.heap.size ≤ gb136)); have n3_ := xm ((by rw [hg]; exact (xz bB) : w.heap.size ≤ gb136)); clear HB; have HB := n0_; have BK136 := n1_; have GW136 := n2_; have GE136 := n3_; clear n0_ n1_ n2_ n3_; clear hb hbox hg) | ((with_reducible refine gate_dst (N := 4) rfl ?_); refine box_event ?hg (N := 4) ?hd (cs := #[.slice A1_0 l1_0.length c1_0]) (t := 26) ?hr ?_; (case hd => rfl); (case hg => rfl); (case hr => exact zB); intro gb137 hg w6 hbox hb; have n0_ := xm (blk_below (kB BK136) hb); have n1_ := xm (below_step bG hb); have n2_ := xm (hbox); have n3_ := xm ((by rw [hg]; exact (xz bG) : w.heap.size ≤ gb137)); have n4_ := xm ((by rw [hg]; exact (xz bG) : w.heap.size ≤ gb137)); have n5_ := xm ((by rw [hg]; exact Nat.ne_of_lt (blk_lt (kB BK136)) : gb136 ≠ gb137)); have n6_ := xm ((by rw [hg]; exact Nat.ne_of_gt (blk_lt (kB BK136)) : gb137 ≠ gb136)); clear BK136; clear HB; have BK136 := n0_; have HB := n1_; have BK137 := n2_; have GW137 := n3_; have GE137 := n4_; have NB136_137 := n5_; have NB137_136 := n6_; clear n0_ n1_ n2_ n3_ n4_ n5_ n6_; clear hb hbox hg) | ((with_reducible refine gate_dst (N := 6) rfl ?_); refine box_event ?hg (N := 6) ?hd (cs := #[.slice none 0 0]) (t := 26) ?hr ?_; (case hd => rfl); (case hg => rfl); (case hr => exact zB); intro gb138 hg w7 hbox hb; have n0_ := xm (blk_below (kB BK136) hb); have n1_ := xm (blk_below (kB BK137) hb); have n2_ := xm (below_step bG hb); have n3_ := xm (hbox); have n4_ := xm ((by rw [hg]; exact (xz bG) : w.heap.size ≤ gb138)); have n5_ := xm ((by rw [hg]; exact (xz bG) : w.heap.size ≤ gb138)); have n6_ := xm ((by rw [hg]; exact Nat.ne_of_lt (blk_lt (kB BK136)) : gb136 ≠ gb138)); have n7_ := xm ((by rw [hg]; exact Nat.ne_of_gt (blk_lt (kB BK136)) : gb138 ≠ gb136)); have n8_ := xm ((by rw [hg]; exact Nat.ne_of_lt (blk_lt (kB BK137)) : gb137 ≠ gb138)); have n9_ := xm ((by rw [hg]; exact Nat.ne_of_gt (blk_lt (kB BK137)) : gb138 ≠ gb137)); clear BK136; clear BK137; clear HB; have BK136 := n0_; have BK137 := n1_; have HB := n2_; have BK138 := n3_; have GW138 := n4_; have GE138 := n5_; have NB136_138 := n6_; have NB138_136 := n7_; have NB137_138 := n8_; have NB138_137 := n9_; clear n0_ n1_ n2_ n3_ n4_ n5_ n6_ n7_ n8_ n9_; clear hb hbox hg) | ((with_reducible refine gate_dst (N := 16) rfl ?_); refine Kd.R_lit (Kd.int .i64) _ 3 ?hg (N := 16) ?hd (xs := ([] : List Int)) (inner := []) (ok := fun _ => True) (okp := fun _ => True) ?hr ?hp (fun _ hk => hk) trivial (Below.refl _ _) (Nat.le_refl _) (by simp) ?_; (case hd => rfl); (case hg => rfl); (case hr => exact zB); (case hp => exact (Reps.none _ _)); intro v140 w8 ho9 hb hg_ hnew_; clear hg_ hnew_; (first | rw [← Ny139.out] at ho9 | (simp only [Int.reduceToNat] at ho9; rw [← Ny139.out] at ho9)); have n0_ := xm (Kd.R_lower ho9 (xz bG)); have n1_ := xm (blk_below (kB BK136) hb); have n2_ := xm (blk_below (kB BK137) hb); have n3_ := xm (blk_below (kB BK138) hb); have n4_ := xm (below_step bG hb); clear BK136; clear BK137; clear BK138; clear HB; have HO141 := n0_; have BK136 := n1_; have BK137 := n2_; have BK138 := n3_; have HB := n4_; clear n0_ n1_ n2_ n3_ n4_; clear hb ho9; have hnb10 := NB136_137.out; have hnc10 := NB137_136.out; have hnb11 := NB136_138.out; have hnc11 := NB138_136.out; obtain ⟨hcz12_0, hfz12_0⟩ := cz1 BK136.out) | ((with_reducible refine gate_builtin (b := .append) (xs := #[.tmp 16, .tmp 18]) rfl ?_); at_builtin; refine Kd.R_append_rows (Kd.int .i64) (w0 := w) w.heap.size rfl (.tmp 16) (.tmp 18) 22 3 (.int .i64 0) 8 rfl Try.underlying22 info3 rfl (by decide) (by omega) v140 y139 l0_0 _ _ _ (fun _ => True) (fun _ => False) rfl rfl ?aO ?aR (fun _ _ h => h) (fun _ h => h.elim) ?aF ?aB ?aS ?aL ?_; (case aR => exact cB (Kd.C_below HR0_0.out HB.out)); (case aB => exact bG); (case aF => exact (fun _ _ => trivial)); (case aO => exact (rB HO141)); (case aS => exact (xz bG)); (case aL => have := LMc4.out; omega); intro v143 w13 ho hb hg hat; rw [← Ny142.out] at ho; have n0_ := xm (blk_grown (kB BK136) hg (Kd.R_ne HO141.out BK136.out (by decide))); have n1_ := xm (blk_grown (kB BK137) hg (Kd.R_ne HO141.out BK137.out (by decide))); have n2_ := xm (blk_grown (kB BK138) hg (Kd.R_ne HO141.out BK138.out (by decide))); have n3_ := xm (hb); have n4_ := xm (ho); clear BK136; clear BK137; clear BK138; clear HB; clear HO141; have BK136 := n0_; have BK137 := n1_; have BK138 := n2_; have HB := n3_; have HO144 := n4_; clear n0_ n1_ n2_ n3_ n4_; clear ho hb hg hat; obtain ⟨Ao14, co14, eo14⟩ := Kd.R_slice HO144.out; subst eo14) | ((with_reducible refine gate_dst (N := 8) rfl ?_); refine box_event ?hg (N := 8) ?hd (cs := #[.slice none 0 0]) (t := 26) ?hr ?_; (case hd => rfl); (case hg => rfl); (case hr => exact zB); intro gb145 hg w15 hbox hb; have n0_ := xm (Kd.R_below (rB HO144) hb); have n1_ := xm (blk_below (kB BK136) hb); have n2_ := xm (blk_below (kB BK137) hb); have n3_ := xm (blk_below (kB BK138) hb); have n4_ := xm (below_step bG hb); have n5_ := xm (hbox); have n6_ := xm ((by rw [hg]; exact (xz bG) : w.heap.size ≤ gb145)); have n7_ := xm ((by rw [hg]; exact (xz bG) : w.heap.size ≤ gb145)); have n8_ := xm ((by rw [hg]; exact Nat.ne_of_lt (blk_lt (kB BK136)) : gb136 ≠ gb145)); have n9_ := xm ((by rw [hg]; exact Nat.ne_of_gt (blk_lt (kB BK136)) : gb145 ≠ gb136)); have n10_ := xm ((by rw [hg]; exact Nat.ne_of_lt (blk_lt (kB BK137)) : gb137 ≠ gb145)); have n11_ := xm ((by rw [hg]; exact Nat.ne_of_gt (blk_lt (kB BK137)) : gb145 ≠ gb137)); have n12_ := xm ((by rw [hg]; exact Nat.ne_of_lt (blk_lt (kB BK138)) : gb138 ≠ gb145)); have n13_ := xm ((by rw [hg]; exact Nat.ne_of_gt (blk_lt (kB BK138)) : gb145 ≠ gb138)); clear HO144; clear BK136; clear BK137; clear BK138; clear HB; have HO144 := n0_; have BK136 := n1_; have BK137 := n2_; have BK138 := n3_; have HB := n4_; have BK145 := n5_; have GW145 := n6_; have GE145 := n7_; have NB136_145 := n8_; have NB145_136 := n9_; have NB137_145 := n10_; have NB145_137 := n11_; have NB138_145 := n12_; have NB145_138 := n13_; clear n0_ n1_ n2_ n3_ n4_ n5_ n6_ n7_ n8_ n9_ n10_ n11_ n12_ n13_; clear hb hbox hg; have hnb16 := NB145_136.out; have hnc16 := NB136_145.out; have hnb17 := NB145_137.out; have hnc17 := NB137_145.out; have hnb18 := NB145_138.out; have hnc18 := NB138_145.out; obtain ⟨hcz19_0, hfz19_0⟩ := cz1 BK145.out))
  go_loopg [23] k (fun kq v23 w' => ∃ (x23_1 : Int), v23 = .int .i64 x23_1 ∧ Aside0 (spec_l1Join.l0 kq l2 l2 (l2.length : Int) x23_1 l0_0 l1_0 y142 = some (r1, r2)) ∧ Aside0 (kq ≤ k) ∧ Aside0 (Kd.R (Kd.int .i64) 3 w' w.heap.size (fun _ => True) (.slice Ao14 y142.length co14) y142) ∧ Aside0 (w'.heap[gb136]? = some (.cells #[(.slice A0_0 l0_0.length c0_0)] 26 (0, 0))) ∧ Aside0 (w'.heap[gb137]? = some (.cells #[(.slice A1_0 l1_0.length c1_0)] 26 (0, 0))) ∧ Aside0 (w'.heap[gb138]? = some (.cells #[(.slice none 0 0)] 26 (0, 0))) ∧ Aside0 (w'.heap[gb145]? = some (.cells #[(.slice Ao14 y142.length co14)] 26 (0, 0))) ∧ Aside0 (Below w.heap.size w w'))
  case atStart => exact ⟨(0), (by first | rfl | (simp; done) | (simp [*]; done)), H', ⟨Nat.le_refl _⟩, ⟨by (with_reducible repeat (first | apply Kd.R_alloc | apply Kd.R_drewN | apply Kd.R_drew)); exact Kd.R_mono (Kd.R_far (p := ⟨gb145, 0, none⟩) (Kd.R_types HO144.out BK145.out (by decide)) (fun _ hk => hk.2) (.slice Ao14 y142.length co14)) (fun _ hk => trivial)⟩, ⟨by (with_reducible repeat (first | refine xq ?_ _ | refine xr ?_ | refine xo ?_ _)); refine blk_far ?_ NB136_145.out _; (with_reducible repeat (first | refine xq ?_ _ | refine xr ?_ | refine xo ?_ _)); exact BK136.out⟩, ⟨by (with_reducible repeat (first | refine xq ?_ _ | refine xr ?_ | refine xo ?_ _)); refine blk_far ?_ NB137_145.out _; (with_reducible repeat (first | refine xq ?_ _ | refine xr ?_ | refine xo ?_ _)); exact BK137.out⟩, ⟨by (with_reducible repeat (first | refine xq ?_ _ | refine xr ?_ | refine xo ?_ _)); refine blk_far ?_ NB138_145.out _; (with_reducible repeat (first | refine xq ?_ _ | refine xr ?_ | refine xo ?_ _)); exact BK138.out⟩, ⟨by (with_reducible repeat (first | refine xq ?_ _ | refine xr ?_ | refine xo ?_ _)); refine blk_put (cs := #[.slice none 0 0]) ?_ 0 _ rfl; (with_reducible repeat (first | refine xq ?_ _ | refine xr ?_ | refine xo ?_ _)); exact BK145.out⟩, ⟨by repeat (first | (with_reducible first | exact HB.out | apply xa | apply xn | apply xd | refine xt ?_ GE136.out | refine xt ?_ GE137.out | refine xt ?_ GE138.out | refine xt ?_ GE145.out) | exact HB.out)⟩⟩
  case round =>
   clear H'
   try clear c1
   try clear c2
   try clear p2
   try clear c4
   try clear c10
   try clear c11
   try clear c16
   try clear c17
   try clear c18
   try clear hcz12_0
   try clear hcz19_0
   try clear hfz12_0
   try clear hfz19_0
   obtain ⟨x23_1, rfl, HA, HK1, HO_146000, BK136, BK137, BK138, BK145, HB⟩ := hrel
   cases gk with
   | zero => exact absurd HA.out (by simp [spec_l1Join.l0])
   | succ k1 =>
    have H := HA.out
    clear HA
    simp only [spec_l1Join.l0] at H
    by_cases c20 : x23_1 < (l2.length : Int)
    ·rw [if_pos c20] at H
     have c20b0 : decide (x23_1 < (l2.length : Int)) = true := decide_eq_true c20
     clear c20
     by_cases c21 : 0 ≤ x23_1
     ·rw [if_pos c21] at H
      have c21b0 : decide (0 ≤ x23_1) = true := decide_eq_true c21
      clear c21
      by_cases c22 : x23_1 < (l2.length : Int)
      ·rw [if_pos c22] at H
       have c22b0 : decide (x23_1 < (l2.length : Int)) = true := decide_eq_true c22
       clear c22
       by_cases c23 : 0 < ((rd_L1 l2 x23_1).length : Int)
       ·rw [if_pos c23] at H
        have c23b0 : decide (0 < ((rd_L1 l2 x23_1).length : Int)) = true := decide_eq_true c23
        have c23b1 : decide (0 < (rd_L1 l2 x23_1).length) = true := decide_eq_true (by omega)
        clear c23
        by_cases c24 : 0 ≤ (rd (rd_L1 l2 x23_1) 0)
        ·rw [if_pos c24] at H
         have c24b0 : decide (0 ≤ (rd (rd_L1 l2 x23_1) 0)) = true := decide_eq_true c24
         clear c24
         by_cases c25 : (rd (rd_L1 l2 x23_1) 0) < (l0_0.length : Int)
         ·rw [if_pos c25] at H
          have c25b0 : decide ((rd (rd_L1 l2 x23_1) 0) < (l0_0.length : Int)) = true := decide_eq_true c25
          clear c25
          by_cases c26 : 1 < ((rd_L1 l2 x23_1).length : Int)
          ·rw [if_pos c26] at H
           have c26b0 : decide (1 < ((rd_L1 l2 x23_1).length : Int)) = true := decide_eq_true c26
           have c26b1 : decide (1 < (rd_L1 l2 x23_1).length) = true := decide_eq_true (by omega)
           clear c26
           by_cases c27 : 0 ≤ (rd (rd_L1 l2 x23_1) 1)
           ·rw [if_pos c27] at H
            have c27b0 : decide (0 ≤ (rd (rd_L1 l2 x23_1) 1)) = true := decide_eq_true c27
            clear c27
            by_cases c28 : (rd (rd_L1 l2 x23_1) 1) < (l1_0.length : Int)
            ·rw [if_pos c28] at H
             have c28b0 : decide ((rd (rd_L1 l2 x23_1) 1) < (l1_0.length : Int)) = true := decide_eq_true c28
             clear c28
             by_cases c29 : (rd l0_0 (rd (rd_L1 l2 x23_1) 0)) = (rd l1_0 (rd (rd_L1 l2 x23_1) 1))
             ·rw [if_pos c29] at H
              have c29b0 : ((rd l0_0 (rd (rd_L1 l2 x23_1) 0)) == (rd l1_0 (rd (rd_L1 l2 x23_1) 1))) = true := beq_iff_eq.mpr c29
              have c29b1 : ((rd l0_0 (rd (rd_L1 l2 x23_1) 0)) != (rd l1_0 (rd (rd_L1 l2 x23_1) 1))) = false := bne_eq_false_iff_eq.mpr c29
              clear c29
              have H' := xm H
              clear H
              have p146 : 0 ≤ (x23_1 : Int) := of_decide_eq_true aB
              have q146 : x23_1 < (l2.length : Int) := of_decide_eq_true aB
              obtain ⟨ad146, A146_0, c146_0, e146, hx146_0, hl146_0, hi146_0⟩ := at_L1 HR2.out x23_1 p146 q146
              cases e146
              replace hx146_0 := (HB.out.cell (World.block_lt_of_cell? w _ hx146_0)).trans hx146_0
              have HR146_0 := xm hi146_0
              have HC146_0 := xm hl146_0
              clear hi146_0 hl146_0
              replace p146 := eq_true p146
              replace q146 := eq_true q146
              try go_wp2
              have n0_ := xm (Kd.R_drew HO_146000.out)
              have n1_ := xm (xr BK136.out)
              have n2_ := xm (xr BK137.out)
              have n3_ := xm (xr BK138.out)
              have n4_ := xm (xr BK145.out)
              have n5_ := xm (xd HB.out)
              clear HO_146000
              clear BK136
              clear BK137
              clear BK138
              clear BK145
              clear HB
              have HO_146000 := n0_
              have BK136 := n1_
              have BK137 := n2_
              have BK138 := n3_
              have BK145 := n4_
              have HB := n5_
              clear n0_ n1_ n2_ n3_ n4_ n5_
              have p147 : 0 ≤ (0 : Int) := (by omega)
              have q147 : 0 < ((rd_L1 l2 x23_1).length : Int) := of_decide_eq_true aB
              obtain ⟨ad147, e147, hx147_0⟩ := Kd.at_int HR146_0.out 0 p147 q147
              have hw147_0 := hx147_0
              (try rw [show ((0 : Int)).toNat = 0 from rfl] at hw147_0)
              (try rw [show 0 * 1 = 0 from rfl] at hw147_0)
              (try rw [Addr.add_zero'] at hw147_0)
              cases e147
              have qi147 : (0 < (rd_L1 l2 x23_1).length) = True := eq_true (by omega)
              (try rw [show ((0 : Int)).toNat = 0 from rfl] at hx147_0)
              (try rw [Addr.add_zero'] at hx147_0)
              replace hx147_0 := (HB.out.cell (World.block_lt_of_cell? w _ hx147_0)).trans hx147_0
              replace p147 := eq_true p147
              replace q147 := eq_true q147
              have p148 : 0 ≤ ((rd (rd_L1 l2 x23_1) 0) : Int) := of_decide_eq_true aB
              have q148 : (rd (rd_L1 l2 x23_1) 0) < (l0_0.length : Int) := of_decide_eq_true aB
              obtain ⟨ad148, e148, hx148_0⟩ := Kd.at_int HR0_0.out (rd (rd_L1 l2 x23_1) 0) p148 q148
              have hw148_0 := hx148_0
              cases e148
              replace hx148_0 := (HB.out.cell (World.block_lt_of_cell? w _ hx148_0)).trans hx148_0
              replace p148 := eq_true p148
              replace q148 := eq_true q148
              have p149 : 0 ≤ (1 : Int) := (by omega)
              have q149 : 1 < ((rd_L1 l2 x23_1).length : Int) := of_decide_eq_true aB
              obtain ⟨ad149, e149, hx149_0⟩ := Kd.at_int HR146_0.out 1 p149 q149
              have hw149_0 := hx149_0
              (try rw [show ((1 : Int)).toNat = 1 from rfl] at hw149_0)
              (try rw [show 1 * 1 = 1 from rfl] at hw149_0)
              (try simp only [Nat.reduceMul, Nat.reduceEqDiff, Go.Addr.add, ↓reduceIte] at hw149_0)
              obtain rfl : ad147 = ad149 := (by injection e149)
              (try simp only [show (1 : Int).toNat = 1 from rfl, Nat.reduceMul, Nat.reduceEqDiff, Go.Addr.add, ↓reduceIte] at hx149_0)
              have qi149 : (1 < (rd_L1 l2 x23_1).length) = True := eq_true (by omega)
              (try rw [show ((1 : Int)).toNat = 1 from rfl] at hx149_0)
              replace hx149_0 := (HB.out.cell (World.block_lt_of_cell? w _ hx149_0)).trans hx149_0
              replace p149 := eq_true p149
              replace q149 := eq_true q149
              have p150 : 0 ≤ ((rd (rd_L1 l2 x23_1) 1) : Int) := of_decide_eq_true aB
              have q150 : (rd (rd_L1 l2 x23_1) 1) < (l1_0.length : Int) := of_decide_eq_true aB
              obtain ⟨ad150, e150, hx150_0⟩ := Kd.at_int HR1_0.out (rd (rd_L1 l2 x23_1) 1) p150 q150
              have hw150_0 := hx150_0
              cases e150
              replace hx150_0 := (HB.out.cell (World.block_lt_of_cell? w _ hx150_0)).trans hx150_0
              replace p150 := eq_true p150
              replace q150 := eq_true q150
              refine start_ (n := 15) (S := fun w' => w'.cell? ⟨gb136, 0, none⟩ = some (.slice (some ad148) l0_0.length c0_0) ∧ w'.cell? ⟨gb137, 0, none⟩ = some (.slice (some ad150) l1_0.length c1_0) ∧ w'.cell? ad147 = some (.int .i64 (rd (rd_L1 l2 x23_1) 0)) ∧ w'.cell? (ad148.add ((rd (rd_L1 l2 x23_1) 0)).toNat) = some (.int .i64 (rd l0_0 (rd (rd_L1 l2 x23_1) 0))) ∧ w'.cell? ⟨ad147.block, ad147.off + 1, none⟩ = some (.int .i64 (rd (rd_L1 l2 x23_1) 1)) ∧ w'.cell? (ad150.add ((rd (rd_L1 l2 x23_1) 1)).toNat) = some (.int .i64 (rd l1_0 (rd (rd_L1 l2 x23_1) 1)))) (ds := []) #[Z,Z,Z,Z,Z,Z,Z,Z,Z,Z,Z,Z,Z,Z,Z] (by kernel_rfl) rfl rfl ⟨(xc BK136.out 0).trans rfl, (xc BK137.out 0).trans rfl, ((HB.out.cell (World.block_lt_of_cell? w _ hw147_0)).trans hw147_0), ((HB.out.cell (World.block_lt_of_cell? w _ hw148_0)).trans hw148_0), ((HB.out.cell (World.block_lt_of_cell? w _ hw149_0)).trans hw149_0), ((HB.out.cell (World.block_lt_of_cell? w _ hw150_0)).trans hw150_0)⟩ (fun hHeld => ?_); refine with_tabW spec_l1Join.tab5 spec_l1Join.bits5 (fun HT_ HW_ => ?_)
              generalize wr.drew = w30 at HO_146000 BK136 BK137 BK138 BK145 HB hx147_0 hx148_0 hx149_0 hx150_0 hHeld ⊢
              refine px 0 15 1 (any_of HT_.out (by kernel_rfl)) ?_
              refine px 2 15 5 (any_of HT_.out (by kernel_rfl)) ?_
              refine px 3 15 13 (any_of HT_.out (by kernel_rfl)) ?_
              refine px 7 15 141 (any_of HT_.out (by kernel_rfl)) ?_
              refine px 9 15 653 (any_of HT_.out (by kernel_rfl)) ?_
              refine px 10 15 1677 (any_of HT_.out (by kernel_rfl)) ?_
              refine tx 1 15 1679 rfl rfl (take_ofW HT_.out HW_.out (by kernel_rfl)) hHeld (by rintro w' ⟨s0, s1, s2, s3, s4, s5⟩; go_simp; with_reducible rfl) ?_
              refine tx 4 15 1695 rfl rfl (take_ofW HT_.out HW_.out (by kernel_rfl)) hHeld (by rintro w' ⟨s0, s1, s2, s3, s4, s5⟩; go_simp; with_reducible rfl) ?_
              refine px 5 15 1727 (any_of HT_.out (by kernel_rfl)) ?_
              refine tx 6 15 1791 rfl rfl (take_ofW HT_.out HW_.out (by kernel_rfl)) hHeld (by rintro w' ⟨s0, s1, s2, s3, s4, s5⟩; go_simp; with_reducible rfl) ?_
              refine tx 8 15 2047 rfl rfl (take_ofW HT_.out HW_.out (by kernel_rfl)) hHeld (by rintro w' ⟨s0, s1, s2, s3, s4, s5⟩; go_simp; with_reducible rfl) ?_
              refine tx 11 15 4095 rfl rfl (take_ofW HT_.out HW_.out (by kernel_rfl)) hHeld (by rintro w' ⟨s0, s1, s2, s3, s4, s5⟩; go_simp; with_reducible rfl) ?_
              refine px 12 15 8191 (any_of HT_.out (by kernel_rfl)) ?_
              refine tx 13 15 16383 rfl rfl (take_ofW HT_.out HW_.out (by kernel_rfl)) hHeld (by rintro w' ⟨s0, s1, s2, s3, s4, s5⟩; go_simp; with_reducible rfl) ?_
              refine px 14 15 32767 (any_of HT_.out (by kernel_rfl)) ?_
              refine done_ (done_of HT_.out (by kernel_rfl)) ?_
              try go_wp2
              go_roundg k1
              case measure => have := HK1.out; omega
              case rel => exact ⟨(wrap64 (x23_1 + 1)), (by first | rfl | (simp; done) | (simp [*]; done)), H', ⟨by have := HK1.out; omega⟩, ⟨by (with_reducible repeat (first | apply Kd.R_alloc | apply Kd.R_drewN | apply Kd.R_drew)); exact HO_146000.out⟩, ⟨by (with_reducible repeat (first | refine xq ?_ _ | refine xr ?_ | refine xo ?_ _)); exact BK136.out⟩, ⟨by (with_reducible repeat (first | refine xq ?_ _ | refine xr ?_ | refine xo ?_ _)); exact BK137.out⟩, ⟨by (with_reducible repeat (first | refine xq ?_ _ | refine xr ?_ | refine xo ?_ _)); exact BK138.out⟩, ⟨by (with_reducible repeat (first | refine xq ?_ _ | refine xr ?_ | refine xo ?_ _)); exact BK145.out⟩, ⟨by repeat (first | (with_reducible first | exact HB.out | apply xa | apply xn | apply xd | refine xt ?_ GE136.out | refine xt ?_ GE137.out | refine xt ?_ GE138.out | refine xt ?_ GE145.out) | exact HB.out)⟩⟩
             ·rw [if_neg c29] at H
              have c29b0 : ((rd l0_0 (rd (rd_L1 l2 x23_1) 0)) == (rd l1_0 (rd (rd_L1 l2 x23_1) 1))) = false := beq_eq_false_iff_ne.mpr c29
              have c29b1 : ((rd l0_0 (rd (rd_L1 l2 x23_1) 0)) != (rd l1_0 (rd (rd_L1 l2 x23_1) 1))) = true := bne_iff_ne.mpr c29
              simp only [Option.some.injEq, Prod.mk.injEq] at H
              obtain ⟨rfl, rfl⟩ := H
              have p146 : 0 ≤ (x23_1 : Int) := of_decide_eq_true aB
              have q146 : x23_1 < (l2.length : Int) := of_decide_eq_true aB
              obtain ⟨ad146, A146_0, c146_0, e146, hx146_0, hl146_0, hi146_0⟩ := at_L1 HR2.out x23_1 p146 q146
              cases e146
              replace hx146_0 := (HB.out.cell (World.block_lt_of_cell? w _ hx146_0)).trans hx146_0
              have HR146_0 := xm hi146_0
              have HC146_0 := xm hl146_0
              clear hi146_0 hl146_0
              replace p146 := eq_true p146
              replace q146 := eq_true q146
              try go_wp2
              have n0_ := xm (Kd.R_drew HO_146000.out)
              have n1_ := xm (xr BK136.out)
              have n2_ := xm (xr BK137.out)
              have n3_ := xm (xr BK138.out)
              have n4_ := xm (xr BK145.out)
              have n5_ := xm (xd HB.out)
              clear HO_146000
              clear BK136
              clear BK137
              clear BK138
              clear BK145
              clear HB
              have HO_146000 := n0_
              have BK136 := n1_
              have BK137 := n2_
              have BK138 := n3_
              have BK145 := n4_
              have HB := n5_
              clear n0_ n1_ n2_ n3_ n4_ n5_
              have p147 : 0 ≤ (0 : Int) := (by omega)
              have q147 : 0 < ((rd_L1 l2 x23_1).length : Int) := of_decide_eq_true aB
              obtain ⟨ad147, e147, hx147_0⟩ := Kd.at_int HR146_0.out 0 p147 q147
              have hw147_0 := hx147_0
              (try rw [show ((0 : Int)).toNat = 0 from rfl] at hw147_0)
              (try rw [show 0 * 1 = 0 from rfl] at hw147_0)
              (try rw [Addr.add_zero'] at hw147_0)
              cases e147
              have qi147 : (0 < (rd_L1 l2 x23_1).length) = True := eq_true (by omega)
              (try rw [show ((0 : Int)).toNat = 0 from rfl] at hx147_0)
              (try rw [Addr.add_zero'] at hx147_0)
              replace hx147_0 := (HB.out.cell (World.block_lt_of_cell? w _ hx147_0)).trans hx147_0
              replace p147 := eq_true p147
              replace q147 := eq_true q147
              have p148 : 0 ≤ ((rd (rd_L1 l2 x23_1) 0) : Int) := of_decide_eq_true aB
              have q148 : (rd (rd_L1 l2 x23_1) 0) < (l0_0.length : Int) := of_decide_eq_true aB
              obtain ⟨ad148, e148, hx148_0⟩ := Kd.at_int HR0_0.out (rd (rd_L1 l2 x23_1) 0) p148 q148
              have hw148_0 := hx148_0
              cases e148
              replace hx148_0 := (HB.out.cell (World.block_lt_of_cell? w _ hx148_0)).trans hx148_0
              replace p148 := eq_true p148
              replace q148 := eq_true q148
              have p149 : 0 ≤ (1 : Int) := (by omega)
              have q149 : 1 < ((rd_L1 l2 x23_1).length : Int) := of_decide_eq_true aB
              obtain ⟨ad149, e149, hx149_0⟩ := Kd.at_int HR146_0.out 1 p149 q149
              have hw149_0 := hx149_0
              (try rw [show ((1 : Int)).toNat = 1 from rfl] at hw149_0)
              (try rw [show 1 * 1 = 1 from rfl] at hw149_0)
              (try simp only [Nat.reduceMul, Nat.reduceEqDiff, Go.Addr.add, ↓reduceIte] at hw149_0)
              obtain rfl : ad147 = ad149 := (by injection e149)
              (try simp only [show (1 : Int).toNat = 1 from rfl, Nat.reduceMul, Nat.reduceEqDiff, Go.Addr.add, ↓reduceIte] at hx149_0)
              have qi149 : (1 < (rd_L1 l2 x23_1).length) = True := eq_true (by omega)
              (try rw [show ((1 : Int)).toNat = 1 from rfl] at hx149_0)
              replace hx149_0 := (HB.out.cell (World.block_lt_of_cell? w _ hx149_0)).trans hx149_0
              replace p149 := eq_true p149
              replace q149 := eq_true q149
              have p150 : 0 ≤ ((rd (rd_L1 l2 x23_1) 1) : Int) := of_decide_eq_true aB
              have q150 : (rd (rd_L1 l2 x23_1) 1) < (l1_0.length : Int) := of_decide_eq_true aB
              obtain ⟨ad150, e150, hx150_0⟩ := Kd.at_int HR1_0.out (rd (rd_L1 l2 x23_1) 1) p150 q150
              have hw150_0 := hx150_0
              cases e150
              replace hx150_0 := (HB.out.cell (World.block_lt_of_cell? w _ hx150_0)).trans hx150_0
              replace p150 := eq_true p150
              replace q150 := eq_true q150
              refine start_ (n := 15) (S := fun w' => w'.cell? ⟨gb136, 0, none⟩ = some (.slice (some ad148) l0_0.length c0_0) ∧ w'.cell? ⟨gb137, 0, none⟩ = some (.slice (some ad150) l1_0.length c1_0) ∧ w'.cell? ad147 = some (.int .i64 (rd (rd_L1 l2 x23_1) 0)) ∧ w'.cell? (ad148.add ((rd (rd_L1 l2 x23_1) 0)).toNat) = some (.int .i64 (rd l0_0 (rd (rd_L1 l2 x23_1) 0))) ∧ w'.cell? ⟨ad147.block, ad147.off + 1, none⟩ = some (.int .i64 (rd (rd_L1 l2 x23_1) 1)) ∧ w'.cell? (ad150.add ((rd (rd_L1 l2 x23_1) 1)).toNat) = some (.int .i64 (rd l1_0 (rd (rd_L1 l2 x23_1) 1)))) (ds := []) #[Z,Z,Z,Z,Z,Z,Z,Z,Z,Z,Z,Z,Z,Z,Z] (by kernel_rfl) rfl rfl ⟨(xc BK136.out 0).trans rfl, (xc BK137.out 0).trans rfl, ((HB.out.cell (World.block_lt_of_cell? w _ hw147_0)).trans hw147_0), ((HB.out.cell (World.block_lt_of_cell? w _ hw148_0)).trans hw148_0), ((HB.out.cell (World.block_lt_of_cell? w _ hw149_0)).trans hw149_0), ((HB.out.cell (World.block_lt_of_cell? w _ hw150_0)).trans hw150_0)⟩ (fun hHeld => ?_); refine with_tabW spec_l1Join.tab5 spec_l1Join.bits5 (fun HT_ HW_ => ?_)
              generalize wr.drew = w31 at HO_146000 BK136 BK137 BK138 BK145 HB hx147_0 hx148_0 hx149_0 hx150_0 hHeld ⊢
              refine px 0 15 1 (any_of HT_.out (by kernel_rfl)) ?_
              refine px 2 15 5 (any_of HT_.out (by kernel_rfl)) ?_
              refine px 3 15 13 (any_of HT_.out (by kernel_rfl)) ?_
              refine px 7 15 141 (any_of HT_.out (by kernel_rfl)) ?_
              refine px 9 15 653 (any_of HT_.out (by kernel_rfl)) ?_
              refine px 10 15 1677 (any_of HT_.out (by kernel_rfl)) ?_
              refine tx 1 15 1679 rfl rfl (take_ofW HT_.out HW_.out (by kernel_rfl)) hHeld (by rintro w' ⟨s0, s1, s2, s3, s4, s5⟩; go_simp; with_reducible rfl) ?_
              refine tx 4 15 1695 rfl rfl (take_ofW HT_.out HW_.out (by kernel_rfl)) hHeld (by rintro w' ⟨s0, s1, s2, s3, s4, s5⟩; go_simp; with_reducible rfl) ?_
              refine px 5 15 1727 (any_of HT_.out (by kernel_rfl)) ?_
              refine tx 6 15 1791 rfl rfl (take_ofW HT_.out HW_.out (by kernel_rfl)) hHeld (by rintro w' ⟨s0, s1, s2, s3, s4, s5⟩; go_simp; with_reducible rfl) ?_
              refine tx 8 15 2047 rfl rfl (take_ofW HT_.out HW_.out (by kernel_rfl)) hHeld (by rintro w' ⟨s0, s1, s2, s3, s4, s5⟩; go_simp; with_reducible rfl) ?_
              refine tx 11 15 4095 rfl rfl (take_ofW HT_.out HW_.out (by kernel_rfl)) hHeld (by rintro w' ⟨s0, s1, s2, s3, s4, s5⟩; go_simp; with_reducible rfl) ?_
              refine px 12 15 8191 (any_of HT_.out (by kernel_rfl)) ?_
              refine tx 13 15 16383 rfl rfl (take_ofW HT_.out HW_.out (by kernel_rfl)) hHeld (by rintro w' ⟨s0, s1, s2, s3, s4, s5⟩; go_simp; with_reducible rfl) ?_
              refine px 14 15 32767 (any_of HT_.out (by kernel_rfl)) ?_
              refine done_ (done_of HT_.out (by kernel_rfl)) ?_
              have hnb32 := NB138_136.out
              have hnc32 := NB136_138.out
              have hnb33 := NB138_137.out
              have hnc33 := NB137_138.out
              have hnb34 := NB138_145.out
              have hnc34 := NB145_138.out
              obtain ⟨hcz35_0, hfz35_0⟩ := cz1 BK138.out
              try go_wp2
              refine bodyPost_ret (results_ct rfl _ _ gb138 26 #[.slice none 0 0] (0, 0) _ rfl (by (with_reducible repeat (first | refine xq ?_ _ | refine xr ?_ | refine xo ?_ _)); refine blk_put (cs := #[.slice none 0 0]) ?_ 0 _ rfl; (with_reducible repeat (first | refine xq ?_ _ | refine xr ?_ | refine xo ?_ _)); exact BK138.out) Try.underlying26 rfl (by kernel_rfl)) rfl ?_
              exact ⟨_, by first | rfl | (simp [errW_none, errW_some] <;> rfl) | (simp [*, errW_none, errW_some] <;> rfl), by first | exact Kd.R_nil _ _ _ _ _ | exact Kd.N_nil _ _ _ _ _ | exact Kd.V_nil _ _ _ _ _ | exact Kd.Q_nil _ _ _ _ _ | exact Kd.S_nil _ _ _ _ _, by repeat (first | (with_reducible first | exact HB.out | apply xa | apply xn | apply xd | refine xt ?_ GE136.out | refine xt ?_ GE137.out | refine xt ?_ GE138.out | refine xt ?_ GE145.out) | exact HB.out)⟩
            ·rw [if_neg c28] at H
             exact absurd H (by simp)
           ·rw [if_neg c27] at H
            exact absurd H (by simp)
          ·rw [if_neg c26] at H
           exact absurd H (by simp)
         ·rw [if_neg c25] at H
          exact absurd H (by simp)
        ·rw [if_neg c24] at H
         exact absurd H (by simp)
       ·rw [if_neg c23] at H
        exact absurd H (by simp)
      ·rw [if_neg c22] at H
       exact absurd H (by simp)
     ·rw [if_neg c21] at H
      exact absurd H (by simp)
    ·rw [if_neg c20] at H
     have c20b0 : decide (x23_1 < (l2.length : Int)) = false := decide_eq_false c20
     clear c20
     have H' := xm H
     clear H
     have hnb36 := NB137_136.out
     have hnc36 := NB136_137.out
     have hnb37 := NB137_138.out
     have hnc37 := NB138_137.out
     have hnb38 := NB137_145.out
     have hnc38 := NB145_137.out
     obtain ⟨hcz39_0, hfz39_0⟩ := cz1 BK137.out
     go_wp2
     go_loopg [47] k1 (fun kq v47 w' => ∃ (x47_2 : Int) (x146000_2 : List Int) (u146000 : Value), v47 = .int .i64 x47_2 ∧ Aside0 (spec_l1Join.l1 kq l2 l1_0 (l1_0.length : Int) x47_2 x146000_2 = some (r1, r2)) ∧ Aside0 (kq ≤ k1) ∧ Aside0 (Kd.R (Kd.int .i64) 3 w' w.heap.size (fun _ => True) u146000 x146000_2) ∧ Aside0 (w'.heap[gb136]? = some (.cells #[(.slice A0_0 l0_0.length c0_0)] 26 (0, 0))) ∧ Aside0 (w'.heap[gb137]? = some (.cells #[(.slice A1_0 l1_0.length c1_0)] 26 (0, 0))) ∧ Aside0 (w'.heap[gb138]? = some (.cells #[(.slice none 0 0)] 26 (0, 0))) ∧ Aside0 (w'.heap[gb145]? = some (.cells #[u146000] 26 (0, 0))) ∧ Aside0 (Below w.heap.size w w'))
     case atStart => exact ⟨(0), (y142), (.slice Ao14 y142.length co14), (by first | rfl | (simp; done) | (simp [*]; done)), H', ⟨Nat.le_refl _⟩, ⟨by (with_reducible repeat (first | apply Kd.R_alloc | apply Kd.R_drewN | apply Kd.R_drew)); exact HO_146000.out⟩, ⟨by (with_reducible repeat (first | refine xq ?_ _ | refine xr ?_ | refine xo ?_ _)); exact BK136.out⟩, ⟨by (with_reducible repeat (first | refine xq ?_ _ | refine xr ?_ | refine xo ?_ _)); exact BK137.out⟩, ⟨by (with_reducible repeat (first | refine xq ?_ _ | refine xr ?_ | refine xo ?_ _)); exact BK138.out⟩, ⟨by (with_reducible repeat (first | refine xq ?_ _ | refine xr ?_ | refine xo ?_ _)); exact BK145.out⟩, ⟨by repeat (first | (with_reducible first | exact HB.out | apply xa | apply xn | apply xd | refine xt ?_ GE136.out | refine xt ?_ GE137.out | refine xt ?_ GE138.out | refine xt ?_ GE145.out) | exact HB.out)⟩⟩
     case round =>
      clear H'
      try clear c1
      try clear p1
      try clear q1
      try clear hx1
      try clear qi1
      try clear c2
      try clear p2
      try clear c3
      try clear c4
      try clear p6
      try clear c10
      try clear c11
      try clear c14
      try clear p14
      try clear q14
      try clear hx14
      try clear qi14
      try clear p15
      try clear q15
      try clear hx15
      try clear c16
      try clear c17
      try clear c18
      try clear c20
      try clear c20b0
      try clear c21
      try clear c21b0
      try clear c22
      try clear c22b0
      try clear c23
      try clear c23b0
      try clear c23b1
      try clear c24
      try clear c24b0
      try clear c25
      try clear c25b0
      try clear c26
      try clear c26b0
      try clear c26b1
      try clear c27
      try clear c27b0
      try clear c28
      try clear c28b0
      try clear c29
      try clear c29b0
      try clear c29b1
      try clear c32
      try clear c33
      try clear c34
      try clear c36
      try clear c37
      try clear c38
      try clear hcz12_0
      try clear hcz19_0
      try clear hcz35_0
      try clear hcz39_0
      try clear hfz12_0
      try clear hfz19_0
      try clear hfz35_0
      try clear hfz39_0
      try clear hx146_0
      try clear hx147_0
      try clear hx148_0
      try clear hx149_0
      try clear hx150_0
      try clear p146
      try clear p147
      try clear p148
      try clear p149
      try clear p150
      try clear p2
      try clear q146
      try clear q147
      try clear q148
      try clear q149
      try clear q150
      obtain ⟨x47_2, x146000_2, u146000, rfl, HA, HK2, HO_146000, BK136, BK137, BK138, BK145, HB⟩ := hrel
      cases gk with
      | zero => exact absurd HA.out (by simp [spec_l1Join.l1])
      | succ k2 =>
       have H := HA.out
       clear HA
       simp only [spec_l1Join.l1] at H
       by_cases c40 : x47_2 < (l1_0.length : Int)
       ·rw [if_pos c40] at H
        have c40b0 : decide (x47_2 < (l1_0.length : Int)) = true := decide_eq_true c40
        clear c40
        by_cases c41 : 0 ≤ x47_2
        ·rw [if_pos c41] at H
         have c41b0 : decide (0 ≤ x47_2) = true := decide_eq_true c41
         clear c41
         by_cases c42 : x47_2 < (l1_0.length : Int)
         ·rw [if_pos c42] at H
          have c42b0 : decide (x47_2 < (l1_0.length : Int)) = true := decide_eq_true c42
          clear c42
          have H' := xm H
          clear H
          have p151 : 0 ≤ (x47_2 : Int) := of_decide_eq_true aB
          have q151 : x47_2 < (l1_0.length : Int) := of_decide_eq_true aB
          obtain ⟨ad151, e151, hx151_0⟩ := Kd.at_int HR1_0.out x47_2 p151 q151
          cases e151
          replace hx151_0 := (HB.out.cell (World.block_lt_of_cell? w _ hx151_0)).trans hx151_0
          replace p151 := eq_true p151
          replace q151 := eq_true q151
          go_wp2
          go_loopg [13, 54] k2 (fun kq v13 v54 w' => ∃ (x13_3 : Bool) (x54_3 : Int), v13 = .bool x13_3 ∧ v54 = .int .i64 x54_3 ∧ Aside0 (spec_l1Join.l2 kq l2 x47_2 (rd l1_0 x47_2) x13_3 l1_0 (l1_0.length : Int) x47_2 l2 (l2.length : Int) x54_3 x146000_2 = some (r1, r2)) ∧ Aside0 (kq ≤ k2) ∧ Aside0 (Kd.R (Kd.int .i64) 3 w' w.heap.size (fun _ => True) u146000 x146000_2) ∧ Aside0 (w'.heap[gb136]? = some (.cells #[(.slice A0_0 l0_0.length c0_0)] 26 (0, 0))) ∧ Aside0 (w'.heap[gb137]? = some (.cells #[(.slice (some ad151) l1_0.length c1_0)] 26 (0, 0))) ∧ Aside0 (w'.heap[gb138]? = some (.cells #[(.slice none 0 0)] 26 (0, 0))) ∧ Aside0 (w'.heap[gb145]? = some (.cells #[u146000] 26 (0, 0))) ∧ Aside0 (Below w.heap.size w w'))
          case atStart => exact ⟨(false), (0), (by first | rfl | (simp; done) | (simp [*]; done)), (by first | rfl | (simp; done) | (simp [*]; done)), H', ⟨Nat.le_refl _⟩, ⟨by (with_reducible repeat (first | apply Kd.R_alloc | apply Kd.R_drewN | apply Kd.R_drew)); exact HO_146000.out⟩, ⟨by (with_reducible repeat (first | refine xq ?_ _ | refine xr ?_ | refine xo ?_ _)); exact BK136.out⟩, ⟨by (with_reducible repeat (first | refine xq ?_ _ | refine xr ?_ | refine xo ?_ _)); exact BK137.out⟩, ⟨by (with_reducible repeat (first | refine xq ?_ _ | refine xr ?_ | refine xo ?_ _)); exact BK138.out⟩, ⟨by (with_reducible repeat (first | refine xq ?_ _ | refine xr ?_ | refine xo ?_ _)); exact BK145.out⟩, ⟨by repeat (first | (with_reducible first | exact HB.out | apply xa | apply xn | apply xd | refine xt ?_ GE136.out | refine xt ?_ GE137.out | refine xt ?_ GE138.out | refine xt ?_ GE145.out) | exact HB.out)⟩⟩
          case round =>
           clear H'
           try clear c1
           try clear p1
           try clear q1
           try clear hx1
           try clear qi1
           try clear c2
           try clear p2
           try clear c3
           try clear c4
           try clear p6
           try clear c10
           try clear c11
           try clear c14
           try clear p14
           try clear q14
           try clear hx14
           try clear qi14
           try clear p15
           try clear q15
           try clear hx15
           try clear c16
           try clear c17
           try clear c18
           try clear c20
           try clear c20b0
           try clear c21
           try clear c21b0
           try clear c22
           try clear c22b0
           try clear c23
           try clear c23b0
           try clear c23b1
           try clear c24
           try clear c24b0
           try clear c25
           try clear c25b0
           try clear c26
           try clear c26b0
           try clear c26b1
           try clear c27
           try clear c27b0
           try clear c28
           try clear c28b0
           try clear c29
           try clear c29b0
           try clear c29b1
           try clear c32
           try clear c33
           try clear c34
           try clear c36
           try clear c37
           try clear c38
           try clear c40
           try clear c40b0
           try clear c41
           try clear c41b0
           try clear c42
           try clear c42b0
           try clear hcz12_0
           try clear hcz19_0
           try clear hcz35_0
           try clear hcz39_0
           try clear hfz12_0
           try clear hfz19_0
           try clear hfz35_0
           try clear hfz39_0
           try clear hx146_0
           try clear hx147_0
           try clear hx148_0
           try clear hx149_0
           try clear hx150_0
           try clear hx151_0
           try clear p1
           try clear p14
           try clear p146
           try clear p147
           try clear p148
           try clear p149
           try clear p15
           try clear p150
           try clear p151
           try clear p2
           try clear p6
           try clear q1
           try clear q14
           try clear q146
           try clear q147
           try clear q148
           try clear q149
           try clear q15
           try clear q150
           try clear q151
           obtain ⟨x13_3, x54_3, rfl, rfl, HA, HK3, HO_146000, BK136, BK137, BK138, BK145, HB⟩ := hrel
           cases gk with
           | zero => exact absurd HA.out (by simp [spec_l1Join.l2])
           | succ k3 =>
            have H := HA.out
            clear HA
            simp only [spec_l1Join.l2] at H
            by_cases c43 : x54_3 < (l2.length : Int)
            ·rw [if_pos c43] at H
             have c43b0 : decide (x54_3 < (l2.length : Int)) = true := decide_eq_true c43
             clear c43
             by_cases c44 : 0 ≤ x54_3
             ·rw [if_pos c44] at H
              have c44b0 : decide (0 ≤ x54_3) = true := decide_eq_true c44
              clear c44
              by_cases c45 : x54_3 < (l2.length : Int)
              ·rw [if_pos c45] at H
               have c45b0 : decide (x54_3 < (l2.length : Int)) = true := decide_eq_true c45
               clear c45
               by_cases c46 : x13_3 = true
               ·subst c46
                have H1 : (spec_l1Join.l2 k3 l2 x47_2 (rd l1_0 x47_2) true l1_0 (l1_0.length : Int) x47_2 l2 (l2.length : Int) (wrap64 (x54_3 + 1)) x146000_2) = some (r1, r2) := by first | (with_reducible rfl) | (rw [if_pos rfl] at H; exact H)
                clear H
                have H := H1
                clear H1
                have H' := xm H
                clear H
                have p152 : 0 ≤ (x54_3 : Int) := of_decide_eq_true aB
                have q152 : x54_3 < (l2.length : Int) := of_decide_eq_true aB
                obtain ⟨ad152, A152_0, c152_0, e152, hx152_0, hl152_0, hi152_0⟩ := at_L1 HR2.out x54_3 p152 q152
                cases e152
                replace hx152_0 := (HB.out.cell (World.block_lt_of_cell? w _ hx152_0)).trans hx152_0
                have HR152_0 := xm hi152_0
                have HC152_0 := xm hl152_0
                clear hi152_0 hl152_0
                replace p152 := eq_true p152
                replace q152 := eq_true q152
                go_wp2
                go_roundg k3
                case measure => have := HK1.out; have := HK2.out; have := HK3.out; omega
                case rel => exact ⟨(true), (wrap64 (x54_3 + 1)), (by first | rfl | (simp; done) | (simp [*]; done)), (by first | rfl | (simp; done) | (simp [*]; done)), H', ⟨by have := HK1.out; have := HK2.out; have := HK3.out; omega⟩, ⟨by (with_reducible repeat (first | apply Kd.R_alloc | apply Kd.R_drewN | apply Kd.R_drew)); exact HO_146000.out⟩, ⟨by (with_reducible repeat (first | refine xq ?_ _ | refine xr ?_ | refine xo ?_ _)); exact BK136.out⟩, ⟨by (with_reducible repeat (first | refine xq ?_ _ | refine xr ?_ | refine xo ?_ _)); exact BK137.out⟩, ⟨by (with_reducible repeat (first | refine xq ?_ _ | refine xr ?_ | refine xo ?_ _)); exact BK138.out⟩, ⟨by (with_reducible repeat (first | refine xq ?_ _ | refine xr ?_ | refine xo ?_ _)); exact BK145.out⟩, ⟨by repeat (first | (with_reducible first | exact HB.out | apply xa | apply xn | apply xd | refine xt ?_ GE136.out | refine xt ?_ GE137.out | refine xt ?_ GE138.out | refine xt ?_ GE145.out) | exact HB.out)⟩⟩
               ·replace c46 := Bool.eq_false_iff.mpr c46
                subst c46
                have H1 : (if 1 < ((rd_L1 l2 x54_3).length : Int) then (spec_l1Join.l2 k3 l2 x47_2 (rd l1_0 x47_2) ((rd (rd_L1 l2 x54_3) 1) == x47_2) l1_0 (l1_0.length : Int) x47_2 l2 (l2.length : Int) (wrap64 (x54_3 + 1)) x146000_2) else (none)) = some (r1, r2) := by first | (with_reducible rfl) | (rw [if_neg (show ¬ (false = true) by decide)] at H; exact H)
                clear H
                have H := H1
                clear H1
                by_cases c47 : 1 < ((rd_L1 l2 x54_3).length : Int)
                ·rw [if_pos c47] at H
                 have c47b0 : decide (1 < ((rd_L1 l2 x54_3).length : Int)) = true := decide_eq_true c47
                 have c47b1 : decide (1 < (rd_L1 l2 x54_3).length) = true := decide_eq_true (by omega)
                 clear c47
                 have H' := xm H
                 clear H
                 have p152 : 0 ≤ (x54_3 : Int) := of_decide_eq_true aB
                 have q152 : x54_3 < (l2.length : Int) := of_decide_eq_true aB
                 obtain ⟨ad152, A152_0, c152_0, e152, hx152_0, hl152_0, hi152_0⟩ := at_L1 HR2.out x54_3 p152 q152
                 cases e152
                 replace hx152_0 := (HB.out.cell (World.block_lt_of_cell? w _ hx152_0)).trans hx152_0
                 have HR152_0 := xm hi152_0
                 have HC152_0 := xm hl152_0
                 clear hi152_0 hl152_0
                 replace p152 := eq_true p152
                 replace q152 := eq_true q152
                 have p153 : 0 ≤ (1 : Int) := (by omega)
                 have q153 : 1 < ((rd_L1 l2 x54_3).length : Int) := of_decide_eq_true aB
                 obtain ⟨ad153, e153, hx153_0⟩ := Kd.at_int HR152_0.out 1 p153 q153
                 cases e153
                 (try simp only [show (1 : Int).toNat = 1 from rfl, Nat.reduceMul, Nat.reduceEqDiff, Go.Addr.add, ↓reduceIte] at hx153_0)
                 have qi153 : (1 < (rd_L1 l2 x54_3).length) = True := eq_true (by omega)
                 (try rw [show ((1 : Int)).toNat = 1 from rfl] at hx153_0)
                 replace hx153_0 := (HB.out.cell (World.block_lt_of_cell? w _ hx153_0)).trans hx153_0
                 replace p153 := eq_true p153
                 replace q153 := eq_true q153
                 go_wp2
                 go_roundg k3
                 case measure => have := HK1.out; have := HK2.out; have := HK3.out; omega
                 case rel => exact ⟨(((rd (rd_L1 l2 x54_3) 1) == x47_2)), (wrap64 (x54_3 + 1)), (by first | rfl | (simp; done) | (simp [*]; done)), (by first | rfl | (simp; done) | (simp [*]; done)), H', ⟨by have := HK1.out; have := HK2.out; have := HK3.out; omega⟩, ⟨by (with_reducible repeat (first | apply Kd.R_alloc | apply Kd.R_drewN | apply Kd.R_drew)); exact HO_146000.out⟩, ⟨by (with_reducible repeat (first | refine xq ?_ _ | refine xr ?_ | refine xo ?_ _)); exact BK136.out⟩, ⟨by (with_reducible repeat (first | refine xq ?_ _ | refine xr ?_ | refine xo ?_ _)); exact BK137.out⟩, ⟨by (with_reducible repeat (first | refine xq ?_ _ | refine xr ?_ | refine xo ?_ _)); exact BK138.out⟩, ⟨by (with_reducible repeat (first | refine xq ?_ _ | refine xr ?_ | refine xo ?_ _)); exact BK145.out⟩, ⟨by repeat (first | (with_reducible first | exact HB.out | apply xa | apply xn | apply xd | refine xt ?_ GE136.out | refine xt ?_ GE137.out | refine xt ?_ GE138.out | refine xt ?_ GE145.out) | exact HB.out)⟩⟩
                ·rw [if_neg c47] at H
                 exact absurd H (by simp)
              ·rw [if_neg c45] at H
               exact absurd H (by simp)
             ·rw [if_neg c44] at H
              exact absurd H (by simp)
            ·rw [if_neg c43] at H
             have c43b0 : decide (x54_3 < (l2.length : Int)) = false := decide_eq_false c43
             clear c43
             by_cases c48 : x13_3 = true
             ·subst c48
              have H1 : (spec_l1Join.l1 k3 l2 l1_0 (l1_0.length : Int) (wrap64 (x47_2 + 1)) x146000_2) = some (r1, r2) := by first | (with_reducible rfl) | (rw [if_pos rfl] at H; exact H)
              clear H
              have H := H1
              clear H1
              have H' := xm H
              clear H
              go_wp2
              go_roundg k3
              case measure => have := HK1.out; have := HK2.out; have := HK3.out; omega
              case rel => exact ⟨(wrap64 (x47_2 + 1)), (x146000_2), (u146000), (by first | rfl | (simp; done) | (simp [*]; done)), H', ⟨by have := HK1.out; have := HK2.out; have := HK3.out; omega⟩, ⟨by (with_reducible repeat (first | apply Kd.R_alloc | apply Kd.R_drewN | apply Kd.R_drew)); exact HO_146000.out⟩, ⟨by (with_reducible repeat (first | refine xq ?_ _ | refine xr ?_ | refine xo ?_ _)); exact BK136.out⟩, ⟨by (with_reducible repeat (first | refine xq ?_ _ | refine xr ?_ | refine xo ?_ _)); exact BK137.out⟩, ⟨by (with_reducible repeat (first | refine xq ?_ _ | refine xr ?_ | refine xo ?_ _)); exact BK138.out⟩, ⟨by (with_reducible repeat (first | refine xq ?_ _ | refine xr ?_ | refine xo ?_ _)); exact BK145.out⟩, ⟨by repeat (first | (with_reducible first | exact HB.out | apply xa | apply xn | apply xd | refine xt ?_ GE136.out | refine xt ?_ GE137.out | refine xt ?_ GE138.out | refine xt ?_ GE145.out) | exact HB.out)⟩⟩
             ·replace c48 := Bool.eq_false_iff.mpr c48
              subst c48
              have H1 : (if x146000_2.length < 17592186044416 then (spec_l1Join.l1 k3 l2 l1_0 (l1_0.length : Int) (wrap64 (x47_2 + 1)) (x146000_2 ++ [(rd l1_0 x47_2)])) else (none)) = some (r1, r2) := by first | (with_reducible rfl) | (rw [if_neg (show ¬ (false = true) by decide)] at H; exact H)
              clear H
              have H := H1
              clear H1
              by_cases c49 : x146000_2.length < 17592186044416
              ·rw [if_pos c49] at H
               have LMc49 := xm c49
               clear c49
               obtain ⟨y154, hy154⟩ : ∃ y_ : List Int, y_ = (x146000_2 ++ [(rd l1_0 x47_2)]) := ⟨_, rfl⟩
               replace H : (spec_l1Join.l1 k3 l2 l1_0 (l1_0.length : Int) (wrap64 (x47_2 + 1)) y154) = some (r1, r2) := by first | (rw [hy154]; with_reducible exact H) | (have H2_ := (Option.bind_some _ _).symm.trans H; rw [hy154]; with_reducible exact H2_) | (have H2_ := (Option.bind_some _ _).symm.trans H; with_reducible exact H2_) | with_reducible exact H | (rw [hy154]; exact H) | exact H
               have Ny154 := xm hy154
               clear hy154
               have H' := xm H
               clear H
               have hnb50 := NB145_136.out
               have hnc50 := NB136_145.out
               have hnb51 := NB145_137.out
               have hnc51 := NB137_145.out
               have hnb52 := NB145_138.out
               have hnc52 := NB138_145.out
               obtain ⟨hcz53_0, hfz53_0⟩ := cz1 BK145.out
               go_wp2_with (first | ((with_reducible refine gate_builtin (b := .append) (xs := #[.tmp 70, .tmp 72]) rfl ?_); at_builtin; refine Kd.R_append (Kd.int .i64) (w0 := w) w.heap.size rfl (.tmp 70) (.tmp 72) 22 3 (.int .i64 0) 8 rfl Try.underlying22 info3 rfl (by decide) (by omega) u146000 x146000_2 (rd l1_0 x47_2) [.int .i64 (rd l1_0 x47_2)] (fun _ => True) (fun _ => False) rfl rfl ?aP (fun _ hk => hk.elim) ?aF ?aO ?aB ?aS ?aL ?_; (case aP => exact rfl); (case aB => exact bG); (case aF => exact (fun _ _ => trivial)); (case aO => exact (rB HO_146000)); (case aS => exact (xz bG)); (case aL => have := LMc49.out; omega); intro v155 w54 ho hb hg hat; rw [← Ny154.out] at ho; have n0_ := xm (blk_grown (kB BK136) hg (Kd.R_ne HO_146000.out BK136.out (by decide))); have n1_ := xm (blk_grown (kB BK137) hg (Kd.R_ne HO_146000.out BK137.out (by decide))); have n2_ := xm (blk_grown (kB BK138) hg (Kd.R_ne HO_146000.out BK138.out (by decide))); have n3_ := xm (blk_grown (kB BK145) hg (Kd.R_ne HO_146000.out BK145.out (by decide))); have n4_ := xm (hb); have n5_ := xm (ho); clear BK136; clear BK137; clear BK138; clear BK145; clear HB; clear HO_146000; have BK136 := n0_; have BK137 := n1_; have BK138 := n2_; have BK145 := n3_; have HB := n4_; have HO156 := n5_; clear n0_ n1_ n2_ n3_ n4_ n5_; clear ho hb hg hat; obtain ⟨Ao55, co55, eo55⟩ := Kd.R_slice HO156.out; subst eo55; obtain ⟨hcz56_0, hfz56_0⟩ := cz1 BK145.out))
               go_roundg k3
               case measure => have := HK1.out; have := HK2.out; have := HK3.out; omega
               case rel => exact ⟨(wrap64 (x47_2 + 1)), (y154), (.slice Ao55 y154.length co55), (by first | rfl | (simp; done) | (simp [*]; done)), H', ⟨by have := HK1.out; have := HK2.out; have := HK3.out; omega⟩, ⟨by (with_reducible repeat (first | apply Kd.R_alloc | apply Kd.R_drewN | apply Kd.R_drew)); exact Kd.R_mono (Kd.R_far (p := ⟨gb145, 0, none⟩) (Kd.R_types HO156.out BK145.out (by decide)) (fun _ hk => hk.2) (.slice Ao55 y154.length co55)) (fun _ hk => trivial)⟩, ⟨by (with_reducible repeat (first | refine xq ?_ _ | refine xr ?_ | refine xo ?_ _)); refine blk_far ?_ NB136_145.out _; (with_reducible repeat (first | refine xq ?_ _ | refine xr ?_ | refine xo ?_ _)); exact BK136.out⟩, ⟨by (with_reducible repeat (first | refine xq ?_ _ | refine xr ?_ | refine xo ?_ _)); refine blk_far ?_ NB137_145.out _; (with_reducible repeat (first | refine xq ?_ _ | refine xr ?_ | refine xo ?_ _)); exact BK137.out⟩, ⟨by (with_reducible repeat (first | refine xq ?_ _ | refine xr ?_ | refine xo ?_ _)); refine blk_far ?_ NB138_145.out _; (with_reducible repeat (first | refine xq ?_ _ | refine xr ?_ | refine xo ?_ _)); exact BK138.out⟩, ⟨by (with_reducible repeat (first | refine xq ?_ _ | refine xr ?_ | refine xo ?_ _)); refine blk_put (cs := #[u146000]) ?_ 0 _ rfl; (with_reducible repeat (first | refine xq ?_ _ | refine xr ?_ | refine xo ?_ _)); exact BK145.out⟩, ⟨by repeat (first | (with_reducible first | exact HB.out | apply xa | apply xn | apply xd | refine xt ?_ GE136.out | refine xt ?_ GE137.out | refine xt ?_ GE138.out | refine xt ?_ GE145.out) | exact HB.out)⟩⟩
              ·rw [if_neg c49] at H
               exact absurd H (by simp)
         ·rw [if_neg c42] at H
          exact absurd H (by simp)
        ·rw [if_neg c41] at H
         exact absurd H (by simp)
       ·rw [if_neg c40] at H
        have c40b0 : decide (x47_2 < (l1_0.length : Int)) = false := decide_eq_false c40
        clear c40
        simp only [Option.some.injEq, Prod.mk.injEq] at H
        obtain ⟨rfl, rfl⟩ := H
        try go_wp2
        have n0_ := xm (Kd.R_drew HO_146000.out)
        have n1_ := xm (xr BK136.out)
        have n2_ := xm (xr BK137.out)
        have n3_ := xm (xr BK138.out)
        have n4_ := xm (xr BK145.out)
        have n5_ := xm (xd HB.out)
        clear HO_146000
        clear BK136
        clear BK137
        clear BK138
        clear BK145
        clear HB
        have HO_146000 := n0_
        have BK136 := n1_
        have BK137 := n2_
        have BK138 := n3_
        have BK145 := n4_
        have HB := n5_
        clear n0_ n1_ n2_ n3_ n4_ n5_
        obtain ⟨Ao58, co58, eo58⟩ := Kd.R_slice HO_146000.out
        (first | subst eo58 | (injection eo58 with f1_ f2_ f3_; have f4_ := f1_.symm; have f5_ := f3_.symm; clear f1_ f2_ f3_; subst f4_; subst f5_))
        refine start_ (n := 7) (S := fun w' => w'.cell? ⟨gb145, 0, none⟩ = some (.slice Ao58 x146000_2.length co58)) (ds := []) #[false, false, false, false, false, false, false] (by kernel_rfl) rfl rfl ((xc BK145.out 0).trans rfl) (fun hHeld => ?_)
        generalize wr.drew = w57 at HO_146000 BK136 BK137 BK138 BK145 HB hHeld ⊢
        refine px 1 7 2 (by kernel_rfl) ?_
        refine take_ (i := 0) (N := some 76) (v := ?_) (a' := ?_) #[true, true, false, false, false, false, false] rfl rfl (by kernel_rfl) (fun _ _ _ h => h) (Or.inl ⟨by rfl, ?_⟩) hHeld ?_ ?_
        rotate_left
        ·intro w' s0
         go_simp
         with_reducible rfl
        rotate_left
        ·simp only [Act.put, xi, xj, xk, i64_w, i32_w]
         rfl
        refine take_ (i := 2) (N := some 78) (v := ?_) (a' := ?_) #[true, true, true, false, false, false, false] rfl rfl (by kernel_rfl) (fun _ _ _ h => h) (Or.inl ⟨by rfl, ?_⟩) hHeld ?_ ?_
        rotate_left
        ·intro w' s0
         go_simp
         with_reducible rfl
        rotate_left
        ·simp only [Act.put, xi, xj, xk, i64_w, i32_w]
         rfl
        refine px 3 7 15 (by kernel_rfl) ?_
        refine px 4 7 31 (by kernel_rfl) ?_
        refine one_ (i := 5) (N := none) #[true, true, true, true, true, true, false] rfl rfl (by kernel_rfl) (by decide) (fun K hK => ?_)
        have hs59 : w57.cell? ⟨gb138, 0, none⟩ = some (.slice none 0 0) := (xc BK138.out 0).trans rfl
        have hfs59 := xf BK138.out 0
        have hns59_0 := NB136_138.out
        have hns59_1 := NB137_138.out
        have hns59_3 := NB145_138.out
        have hms59_0 := NB138_136.out
        have hms59_1 := NB138_137.out
        have hms59_3 := NB138_145.out
        refine skip_ (w1 := ?_) (by rfl) rfl ?_ ?_
        rotate_left
        ·go_simp
         rfl
        refine hK.out _ _ (((cell_far (p := ⟨gb138, _, none⟩) NB145_138.out _).trans (hHeld))) (fun hHeld => ?_)
        clear hK K
        refine px 6 7 127 (by kernel_rfl) ?_
        refine done_ (by kernel_rfl) ?_
        try go_wp2
        refine bodyPost_ret (results_ct rfl _ _ gb138 26 #[.slice Ao58 x146000_2.length co58] (0, 0) _ rfl (by (with_reducible repeat (first | refine xq ?_ _ | refine xr ?_ | refine xo ?_ _)); refine blk_put (cs := #[.slice none 0 0]) ?_ 0 _ rfl; (with_reducible repeat (first | refine xq ?_ _ | refine xr ?_ | refine xo ?_ _)); exact BK138.out) Try.underlying26 rfl (by kernel_rfl)) rfl ?_
        exact ⟨_, by first | rfl | (simp [errW_none, errW_some] <;> rfl) | (simp [*, errW_none, errW_some] <;> rfl), by (with_reducible repeat (first | apply Kd.R_alloc | apply Kd.R_drewN | apply Kd.R_drew)); exact Kd.R_mono (Kd.R_far (p := ⟨gb138, 0, none⟩) (Kd.R_types HO_146000.out BK138.out (by decide)) (fun _ hk => hk.2) (.slice Ao58 x146000_2.length co58)) (fun _ hk => trivial), by repeat (first | (with_reducible first | exact HB.out | apply xa | apply xn | apply xd | refine xt ?_ GE136.out | refine xt ?_ GE137.out | refine xt ?_ GE138.out | refine xt ?_ GE145.out) | exact HB.out)⟩
 ·rw [if_neg c4] at H
  exact absurd H (by simp)

end Go.Proofs.Ytcbikaoackbbjaa.G
