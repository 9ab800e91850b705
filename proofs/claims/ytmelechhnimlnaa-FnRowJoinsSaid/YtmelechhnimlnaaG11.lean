/- Written by a program of this claim's own, out of the translation: functions of the program as plain functions, and that the calls answer as these. No conditions. -/
import Derived.Test.YtmelechhnimlnaaG0
import Derived.Test.YtmelechhnimlnaaG7
import Derived.Test.YtmelechhnimlnaaG10
namespace Go.Proofs.Ytmelechhnimlnaa.G
open Go.RowKit Go.Proofs.Ytmelechhnimlnaa.X Go.Proofs.YtmelechhnimlnaaW.PrintWords Go.Proofs.YtmelechhnimlnaaW.PrintLast Go.Proofs.YtmelechhnimlnaaW.PrintMore
attribute [local go_sem] max2_int min2_int max_two min_two max_three min_three max_four min_four   -- for this text's walks alone
set_option linter.unusedVariables false
set_option linter.unusedSimpArgs false

/-! ### spec_l1Pick: function 27 -/
def spec_l1Pick.l0 : Nat → List Int → Int → Int → List Int → List Int → Option (List Int)
 | 0, _, _, _, _, _ => none
 | k + 1, x9, x10, x11, x319000, x321000 => if x11 < x10 then (if 0 ≤ x11 then (if x11 < (x9.length : Int) then (if 0 ≤ (rd x9 x11) then (if (rd x9 x11) < (x319000.length : Int) then (if x321000.length < 17592186044416 then (spec_l1Pick.l0 k x9 x10 (wrap64 (x11 + 1)) x319000 (x321000 ++ [rd x319000 (rd x9 x11)])) else (none)) else (none)) else (none)) else (none)) else (none)) else (some x321000)
def spec_l1Pick.f (k : Nat) (l0_0 : List Int) (l1 : List Int) : Option (List Int) := spec_l1Pick.l0 k l1 (l1.length : Int) 0 l0_0 ([] : List Int)
theorem spec_l1Pick.mono_l : ∀ k, (∀ y0 y1 y2 y3 y4, LeO (spec_l1Pick.l0 k y0 y1 y2 y3 y4) (spec_l1Pick.l0 (k + 1) y0 y1 y2 y3 y4))
 | 0 => fun _ _ _ _ _ r h => by simp [spec_l1Pick.l0] at h
 | k + 1 => by
  have ih0 := spec_l1Pick.mono_l k
  ·intro y0 y1 y2 y3 y4
   unfold spec_l1Pick.l0
   repeat' first
   | (with_reducible exact ih0 _ _ _ _ _)
   | (with_reducible exact LeO.refl _)
   | (with_reducible exact LeO.none _)
   | (with_reducible refine LeO.ite ?_ ?_)
   | (with_reducible refine LeO.bind ?_ (fun _ => ?_))
   | exact ih0 _ _ _ _ _
   | exact LeO.none _
   | refine LeO.ite ?_ ?_
   | refine LeO.bind ?_ (fun _ => ?_)
theorem spec_l1Pick.mono : ∀ a0 a1 k, LeO (spec_l1Pick.f k a0 a1) (spec_l1Pick.f (k + 1) a0 a1) := by
 intro a0 a1 k
 have ih0 := spec_l1Pick.mono_l k
 unfold spec_l1Pick.f
 repeat' first
   | (with_reducible exact ih0 _ _ _ _ _)
   | (with_reducible exact LeO.refl _)
   | (with_reducible exact LeO.none _)
   | (with_reducible refine LeO.ite ?_ ?_)
   | (with_reducible refine LeO.bind ?_ (fun _ => ?_))
   | exact ih0 _ _ _ _ _
   | exact LeO.none _
   | refine LeO.ite ?_ ?_
   | refine LeO.bind ?_ (fun _ => ?_)
def spec_l1Pick.T5 : Bool × List (List Nat × List Nat) := (true, [([], []), ([0], [0]), ([], []), ([2], [2]), ([], []), ([3, 4], [3, 4]), ([5], [5]), ([6], [6]), ([1, 7], [1, 7]), ([0, 1, 2, 3, 4, 5, 6, 7, 8], []), ([9, 8, 8, 0, 1, 2, 3, 4, 5, 6, 7, 8], [8, 9])])
def spec_l1Pick.B5 : List Nat := [0, 1, 0, 4, 0, 28, 60, 124, 255, 511, 1023]
theorem spec_l1Pick.tab5 : rtab .any (opsOf Try.f27 5) = spec_l1Pick.T5 := by kernel_rfl
theorem spec_l1Pick.bits5 : waitsOk spec_l1Pick.T5.2 spec_l1Pick.B5 = true := by kernel_rfl
set_option maxHeartbeats 8000000 in
set_option maxRecDepth 100000 in
theorem spec_l1Pick.calls (k : Nat) (A0_0 : Option Addr) (c0_0 : Nat) (l0_0 : List Int) (A1 : Option Addr) (c1 : Nat) (l1 : List Int) (r : List Int) (w : World) (hr0_0 : Kd.C (Kd.int .i64) w A0_0 l0_0.length l0_0) (hc0_0 : l0_0.length ≤ c0_0) (hr1 : Kd.C (Kd.int .i64) w A1 l1.length l1) (hc1 : l1.length ≤ c1) (h : spec_l1Pick.f k l0_0 l1 = some r) :
  Calls Try.prog 27 #[.agg #[.slice A0_0 l0_0.length c0_0], .slice A1 l1.length c1] w fun e w' => ∃ v0_ : Value, e = .returned (.agg #[v0_]) ∧ Kd.R (Kd.int .i64) 3 w' w.heap.size (fun _ => True) v0_ r ∧ Below w.heap.size w w' := by
 have hu25 := Try.underlying25
 have HR0_0 := xm hr0_0
 have HC0_0 := xm hc0_0
 clear hr0_0 hc0_0
 have HR1 := xm hr1
 have HC1 := xm hc1
 clear hr1 hc1
 have HB := xm (Below.refl w.heap.size w)
 have H : (spec_l1Pick.l0 k l1 (l1.length : Int) 0 l0_0 ([] : List Int)) = some r := h
 clear h
 have H' := xm H
 clear H
 go_enter Try.func27, Try.ntmps27
 go_wp2_with (first | ((with_reducible refine gate_dst (N := 2) rfl ?_); refine box_event ?hg (N := 2) ?hd (cs := #[.slice A0_0 l0_0.length c0_0]) (t := 25) ?hr ?_; (case hd => rfl); (case hg => rfl); (case hr => exact zB); intro gb318 hg w3 hbox hb; have n0_ := xm (below_step bB hb); have n1_ := xm (hbox); have n2_ := xm ((by rw [hg]; exact (xz bB) : w.heap.size ≤ gb318)); have n3_ := xm ((by rw [hg]; exact (xz bB) : w.heap.size ≤ gb318)); revert n0_ n1_ n2_ n3_; clear HB; intro HB BK318 GW318 GE318; clear hb hbox hg) | ((with_reducible refine gate_dst (N := 4) rfl ?_); refine box_event ?hg (N := 4) ?hd (cs := #[.slice none 0 0]) (t := 25) ?hr ?_; (case hd => rfl); (case hg => rfl); (case hr => exact zB); intro gb319 hg w4 hbox hb; have n0_ := xm (blk_below (kB BK318) hb); have n1_ := xm (below_step bG hb); have n2_ := xm (hbox); have n3_ := xm ((by rw [hg]; exact (xz bG) : w.heap.size ≤ gb319)); have n4_ := xm ((by rw [hg]; exact (xz bG) : w.heap.size ≤ gb319)); have n5_ := xm ((by rw [hg]; exact Nat.ne_of_lt (blk_lt (kB BK318)) : gb318 ≠ gb319)); have n6_ := xm ((by rw [hg]; exact Nat.ne_of_gt (blk_lt (kB BK318)) : gb319 ≠ gb318)); revert n0_ n1_ n2_ n3_ n4_ n5_ n6_; clear BK318 HB; intro BK318 HB BK319 GW319 GE319 NB318_319 NB319_318; clear hb hbox hg) | ((with_reducible refine gate_dst (N := 5) rfl ?_); refine box_event ?hg (N := 5) ?hd (cs := #[.slice none 0 0]) (t := 25) ?hr ?_; (case hd => rfl); (case hg => rfl); (case hr => exact zB); intro gb320 hg w5 hbox hb; have n0_ := xm (blk_below (kB BK318) hb); have n1_ := xm (blk_below (kB BK319) hb); have n2_ := xm (below_step bG hb); have n3_ := xm (hbox); have n4_ := xm ((by rw [hg]; exact (xz bG) : w.heap.size ≤ gb320)); have n5_ := xm ((by rw [hg]; exact (xz bG) : w.heap.size ≤ gb320)); have n6_ := xm ((by rw [hg]; exact Nat.ne_of_lt (blk_lt (kB BK318)) : gb318 ≠ gb320)); have n7_ := xm ((by rw [hg]; exact Nat.ne_of_gt (blk_lt (kB BK318)) : gb320 ≠ gb318)); have n8_ := xm ((by rw [hg]; exact Nat.ne_of_lt (blk_lt (kB BK319)) : gb319 ≠ gb320)); have n9_ := xm ((by rw [hg]; exact Nat.ne_of_gt (blk_lt (kB BK319)) : gb320 ≠ gb319)); revert n0_ n1_ n2_ n3_ n4_ n5_ n6_ n7_ n8_ n9_; clear BK318 BK319 HB; intro BK318 BK319 HB BK320 GW320 GE320 NB318_320 NB320_318 NB319_320 NB320_319; clear hb hbox hg; have hnb6 := NB320_318.out; have hnc6 := NB318_320.out; have hnb7 := NB320_319.out; have hnc7 := NB319_320.out; obtain ⟨hcz8_0, hfz8_0⟩ := cz1 BK320.out))
 go_loopg [11] k (fun kq v11 w' => ∃ (x11_1 : Int) (x321000_1 : List Int) (u321000 : Value), v11 = .int .i64 x11_1 ∧ Aside0 (spec_l1Pick.l0 kq l1 (l1.length : Int) x11_1 l0_0 x321000_1 = some r) ∧ Aside0 (kq ≤ k) ∧ Aside0 (Kd.R (Kd.int .i64) 3 w' w.heap.size (fun _ => True) u321000 x321000_1) ∧ Aside0 (w'.heap[gb318]? = some (.cells #[(.slice A0_0 l0_0.length c0_0)] 25 (0, 0))) ∧ Aside0 (w'.heap[gb319]? = some (.cells #[(.slice none 0 0)] 25 (0, 0))) ∧ Aside0 (w'.heap[gb320]? = some (.cells #[u321000] 25 (0, 0))) ∧ Aside0 (Below w.heap.size w w'))
 case atStart => exact ⟨(0), (([] : List Int)), (.slice none 0 0), sB, H', ⟨Nat.le_refl _⟩, ⟨by first | exact Kd.R_nil _ _ _ _ _ | exact Kd.N_nil _ _ _ _ _ | exact Kd.V_nil _ _ _ _ _ | exact Kd.Q_nil _ _ _ _ _ | exact Kd.S_nil _ _ _ _ _⟩, ⟨by (with_reducible repeat (first | refine xq ?_ _ | refine xr ?_ | refine xo ?_ _)); refine blk_far ?_ NB318_320.out _; (with_reducible repeat (first | refine xq ?_ _ | refine xr ?_ | refine xo ?_ _)); exact BK318.out⟩, ⟨by (with_reducible repeat (first | refine xq ?_ _ | refine xr ?_ | refine xo ?_ _)); refine blk_far ?_ NB319_320.out _; (with_reducible repeat (first | refine xq ?_ _ | refine xr ?_ | refine xo ?_ _)); exact BK319.out⟩, ⟨by (with_reducible repeat (first | refine xq ?_ _ | refine xr ?_ | refine xo ?_ _)); refine blk_put (cs := #[.slice none 0 0]) ?_ 0 _ rfl; (with_reducible repeat (first | refine xq ?_ _ | refine xr ?_ | refine xo ?_ _)); exact BK320.out⟩, ⟨bG⟩⟩
 case round =>
  clear H'
  try clear c1
  try clear c2
  try clear p2
  try clear c6
  try clear c7
  try clear hcz8_0 hfz8_0
  obtain ⟨x11_1, x321000_1, u321000, rfl, HA, HK1, HO_321000, BK318, BK319, BK320, HB⟩ := hrel
  cases gk with
  | zero => exact absurd HA.out (by simp [spec_l1Pick.l0])
  | succ k1 =>
   have H := HA.out
   clear HA
   simp only [spec_l1Pick.l0] at H
   by_cases c9 : x11_1 < (l1.length : Int)
   ·rw [if_pos c9] at H
    have c9b0 : decide (x11_1 < (l1.length : Int)) = true := decide_eq_true c9
    clear c9
    by_cases c10 : 0 ≤ x11_1
    ·rw [if_pos c10] at H
     have c10b0 : decide (0 ≤ x11_1) = true := decide_eq_true c10
     clear c10
     by_cases c11 : x11_1 < (l1.length : Int)
     ·rw [if_pos c11] at H
      have c11b0 : decide (x11_1 < (l1.length : Int)) = true := decide_eq_true c11
      clear c11
      by_cases c12 : 0 ≤ (rd l1 x11_1)
      ·rw [if_pos c12] at H
       have c12b0 : decide (0 ≤ (rd l1 x11_1)) = true := decide_eq_true c12
       clear c12
       by_cases c13 : (rd l1 x11_1) < (l0_0.length : Int)
       ·rw [if_pos c13] at H
        have c13b0 : decide ((rd l1 x11_1) < (l0_0.length : Int)) = true := decide_eq_true c13
        clear c13
        by_cases c14 : x321000_1.length < 17592186044416
        ·rw [if_pos c14] at H
         have LMc14 := xm c14
         clear c14
         obtain ⟨y323, hy323⟩ : ∃ y_ : List Int, y_ = (x321000_1 ++ [rd l0_0 (rd l1 x11_1)]) := ⟨_, rfl⟩
         replace H : (spec_l1Pick.l0 k1 l1 (l1.length : Int) (wrap64 (x11_1 + 1)) l0_0 y323) = some r := by first | (rw [hy323]; with_reducible exact H) | (have H2_ := (Option.bind_some _ _).symm.trans H; rw [hy323]; with_reducible exact H2_) | (have H2_ := (Option.bind_some _ _).symm.trans H; with_reducible exact H2_) | with_reducible exact H | (rw [hy323]; exact H) | exact H
         have Ny323 := xm hy323
         clear hy323
         have H' := xm H
         clear H
         have p321 : 0 ≤ (x11_1 : Int) := of_decide_eq_true aB
         have q321 : x11_1 < (l1.length : Int) := of_decide_eq_true aB
         obtain ⟨ad321, e321, hx321_0⟩ := Kd.at_int HR1.out x11_1 p321 q321
         cases e321
         replace hx321_0 := hU hx321_0
         replace p321 := eq_true p321
         replace q321 := eq_true q321
         try go_wp2
         have n0_ := xm (Kd.R_drew HO_321000.out)
         have n1_ := xm (xr BK318.out)
         have n2_ := xm (xr BK319.out)
         have n3_ := xm (xr BK320.out)
         have n4_ := xm (xd HB.out)
         revert n0_ n1_ n2_ n3_ n4_; clear HO_321000 BK318 BK319 BK320 HB; intro HO_321000 BK318 BK319 BK320 HB
         have p322 : 0 ≤ ((rd l1 x11_1) : Int) := of_decide_eq_true aB
         have q322 : (rd l1 x11_1) < (l0_0.length : Int) := of_decide_eq_true aB
         obtain ⟨ad322, e322, hx322_0⟩ := Kd.at_int HR0_0.out (rd l1 x11_1) p322 q322
         have hw322_0 := hx322_0
         cases e322
         replace hx322_0 := hU hx322_0
         replace p322 := eq_true p322
         replace q322 := eq_true q322
         refine start_ (n := 11) (S := fun w' => w'.cell? ⟨gb320, 0, none⟩ = some (u321000) ∧ w'.cell? ⟨gb318, 0, none⟩ = some (.slice (some ad322) l0_0.length c0_0) ∧ w'.cell? (ad322.add ((rd l1 x11_1)).toNat) = some (.int .i64 (rd l0_0 (rd l1 x11_1)))) (ds := [10]) #[Z,Z,Z,Z,Z,Z,Z,Z,Z,Z,Z] (by kernel_rfl) rfl rfl ⟨(xc BK320.out 0).trans rfl, (xc BK318.out 0).trans rfl, ((HB.out.cell (World.block_lt_of_cell? w _ hw322_0)).trans hw322_0)⟩ (fun hHeld => ?_); refine with_tabW spec_l1Pick.tab5 spec_l1Pick.bits5 (fun HT_ HW_ => ?_)
         generalize wr.drew = w15 at HO_321000 BK318 BK319 BK320 HB hx322_0 hHeld ⊢
         refine pu 0 11 1 ?_
         refine pu 2 11 5 ?_
         refine pu 4 11 21 ?_
         refine tx 1 11 23 rfl rfl (take_ofW HT_.out HW_.out (by kernel_rfl)) hHeld (by rintro w' ⟨s0, s1, s2⟩; go_simp; with_reducible rfl) ?_
         refine tx 3 11 31 rfl rfl (take_ofW HT_.out HW_.out (by kernel_rfl)) hHeld (by rintro w' ⟨s0, s1, s2⟩; go_simp; with_reducible rfl) ?_
         refine pu 5 11 63 ?_
         refine tx 6 11 127 rfl rfl (take_ofW HT_.out HW_.out (by kernel_rfl)) hHeld (by rintro w' ⟨s0, s1, s2⟩; go_simp; with_reducible rfl) ?_
         refine one_ (i := 7) (N := some 22) #[Y,Y,Y,Y,Y,Y,Y,Y,Z,Z,Z] rfl rfl (one_of HT_.out (by kernel_rfl)) (by decide) (fun K hK => ?_)
         refine value_ (w1 := ?_) (v := ?_) (by rfl) rfl ?_ ?_
         rotate_left 2
         ·go_simp
          constructor
          ·rfl
          ·rfl
         refine hK.out _ _ ⟨(xc (xo BK320.out _) 0).trans rfl, (xc (xo BK318.out _) 0).trans rfl, (World.cell?_alloc_lt _ _ _ (World.block_lt_of_cell? _ _ (((HB.out.cell (World.block_lt_of_cell? w _ hw322_0)).trans hw322_0)))).trans (((HB.out.cell (World.block_lt_of_cell? w _ hw322_0)).trans hw322_0))⟩ (fun hHeld => nC ?_)
         clear hK K
         refine one_ (i := 8) (N := some 23) #[Y,Y,Y,Y,Y,Y,Y,Y,Y,Z,Z] rfl rfl (one_of HT_.out (by kernel_rfl)) (by decide) (fun K hK => ?_)
         refine Kd.R_append_step (Kd.int .i64) (w0 := w) w.heap.size (by rfl) (.tmp 16) (.tmp 22) 23 3 (.int .i64 0) 8 rfl Try.underlying23 info3 rfl (by decide) (by omega) u321000 x321000_1 (rd l0_0 (rd l1 x11_1)) [.int .i64 (rd l0_0 (rd l1 x11_1))] (fun _ => True) (fun _ => False) rfl rfl ?aP (fun _ hk => hk.elim) ?aF ?aO ?aB ?aS ?aL ?_
         (case aP => exact rfl)
         (case aB => exact bG)
         (case aF => exact (fun _ _ => trivial))
         (case aO => exact (rB HO_321000))
         (case aS => exact (xz bG))
         (case aL => have := LMc14.out; omega)
         intro v324 w16 ho hb hg hat
         rw [← Ny323.out] at ho
         have n0_ := xm (blk_grown (kB BK318) hg (Kd.R_ne HO_321000.out BK318.out (by decide)))
         have n1_ := xm (blk_grown (kB BK319) hg (Kd.R_ne HO_321000.out BK319.out (by decide)))
         have n2_ := xm (blk_grown (kB BK320) hg (Kd.R_ne HO_321000.out BK320.out (by decide)))
         have n3_ := xm (hb)
         have n4_ := xm (ho)
         revert n0_ n1_ n2_ n3_ n4_; clear BK318 BK319 BK320 HB HO_321000; intro BK318 BK319 BK320 HB HO325
         clear ho hb hg hat
         obtain ⟨Ao17, co17, eo17⟩ := Kd.R_slice HO325.out
         (first | subst eo17 | (injection eo17 with f1_ f2_ f3_; have f4_ := f1_.symm; have f5_ := f3_.symm; clear f1_ f2_ f3_; subst f4_; subst f5_))
         refine hK.out _ _ ⟨(xc BK320.out 0).trans rfl, (xc BK318.out 0).trans rfl, ((HB.out.cell (World.block_lt_of_cell? w _ hw322_0)).trans hw322_0)⟩ (fun hHeld => nC ?_)
         clear hK K
         refine pu 9 11 1023 ?_
         refine last_ (i := 10) (N := none) #[Y,Y,Y,Y,Y,Y,Y,Y,Y,Y,Y] rfl rfl (one_of HT_.out (by kernel_rfl)) (by decide) (fun K hK => ?_)
         have hs18 : w16.cell? ⟨gb320, 0, none⟩ = some (u321000) := (xc BK320.out 0).trans rfl
         have hfs18 := xf BK320.out 0
         have hns18_0 := NB318_320.out
         have hns18_1 := NB319_320.out
         have hms18_0 := NB320_318.out
         have hms18_1 := NB320_319.out
         refine skip_ (w1 := ?_) (by rfl) rfl ?_ ?_
         rotate_left
         ·go_simp
          rfl
         refine hK.out _ _ ?_
         clear hK K
         refine done_ (done_of HT_.out (by kernel_rfl)) ?_
         try go_wp2
         go_roundg k1
         case measure => have := HK1.out; omega
         case rel => exact ⟨(wrap64 (x11_1 + 1)), (y323), (.slice Ao17 y323.length co17), sB, H', ⟨by have := HK1.out; omega⟩, ⟨by (with_reducible repeat (first | apply Kd.R_alloc | apply Kd.R_drewN | apply Kd.R_drew)); exact Kd.R_mono (Kd.R_far (p := ⟨gb320, 0, none⟩) (Kd.R_types HO325.out BK320.out (by decide)) (fun _ hk => hk.2) (.slice Ao17 y323.length co17)) (fun _ hk => trivial)⟩, ⟨by (with_reducible repeat (first | refine xq ?_ _ | refine xr ?_ | refine xo ?_ _)); refine blk_far ?_ NB318_320.out _; (with_reducible repeat (first | refine xq ?_ _ | refine xr ?_ | refine xo ?_ _)); exact BK318.out⟩, ⟨by (with_reducible repeat (first | refine xq ?_ _ | refine xr ?_ | refine xo ?_ _)); refine blk_far ?_ NB319_320.out _; (with_reducible repeat (first | refine xq ?_ _ | refine xr ?_ | refine xo ?_ _)); exact BK319.out⟩, ⟨by (with_reducible repeat (first | refine xq ?_ _ | refine xr ?_ | refine xo ?_ _)); refine blk_put (cs := #[u321000]) ?_ 0 _ rfl; (with_reducible repeat (first | refine xq ?_ _ | refine xr ?_ | refine xo ?_ _)); exact BK320.out⟩, ⟨bG⟩⟩
        ·rw [if_neg c14] at H
         exact absurd H (by simp)
       ·rw [if_neg c13] at H
        exact absurd H (by simp)
      ·rw [if_neg c12] at H
       exact absurd H (by simp)
     ·rw [if_neg c11] at H
      exact absurd H (by simp)
    ·rw [if_neg c10] at H
     exact absurd H (by simp)
   ·rw [if_neg c9] at H
    have c9b0 : decide (x11_1 < (l1.length : Int)) = false := decide_eq_false c9
    clear c9
    obtain rfl := Option.some.inj H
    have hnb19 := NB320_318.out
    have hnc19 := NB318_320.out
    have hnb20 := NB320_319.out
    have hnc20 := NB319_320.out
    obtain ⟨hcz21_0, hfz21_0⟩ := cz1 BK320.out
    obtain ⟨Ao22, co22, eo22⟩ := Kd.R_slice HO_321000.out
    subst eo22
    have hnb23 := NB319_318.out
    have hnc23 := NB318_319.out
    obtain ⟨hcz24_0, hfz24_0⟩ := cz1 BK319.out
    go_wp2
    refine bodyPost_ret (results_cell_row rfl _ _ gb319 25 #[.slice Ao22 x321000_1.length co22] (0, 0) _ rfl (by (with_reducible repeat (first | refine xq ?_ _ | refine xr ?_ | refine xo ?_ _)); refine blk_put (cs := #[.slice none 0 0]) ?_ 0 _ rfl; (with_reducible repeat (first | refine xq ?_ _ | refine xr ?_ | refine xo ?_ _)); exact BK319.out) Try.underlying25 rfl (by kernel_rfl)) rfl ?_
    exact ⟨_, eB, by (with_reducible repeat (first | apply Kd.R_alloc | apply Kd.R_drewN | apply Kd.R_drew)); exact Kd.R_mono (Kd.R_far (p := ⟨gb319, 0, none⟩) (Kd.R_types HO_321000.out BK319.out (by decide)) (fun _ hk => hk.2) (.slice Ao22 x321000_1.length co22)) (fun _ hk => trivial), bG⟩

/-! ### spec_PickCells: function 11 -/
def spec_PickCells.f (k : Nat) (l0_0 : List Int) (l1 : List Int) : Option (List Int × Bool) := (spec_GoodRow.f k l0_0).bind fun t328 => (if t328 = true then ((spec_l1Columns.f k l1 (l0_0.length : Int)).bind fun t329 => (if t329 = true then ((spec_l1Pick.f k l0_0 l1).bind fun t330 => (some (t330, true))) else (some (([] : List Int), false)))) else (some (([] : List Int), false)))
theorem spec_PickCells.mono : ∀ a0 a1 k, LeO (spec_PickCells.f k a0 a1) (spec_PickCells.f (k + 1) a0 a1) := by
 intro a0 a1 k
 unfold spec_PickCells.f
 repeat' first
   | (with_reducible exact spec_GoodRow.mono _ _)
   | (with_reducible exact spec_l1Columns.mono _ _ _)
   | (with_reducible exact spec_l1Pick.mono _ _ _)
   | (with_reducible exact LeO.refl _)
   | (with_reducible exact LeO.none _)
   | (with_reducible refine LeO.ite ?_ ?_)
   | (with_reducible refine LeO.bind ?_ (fun _ => ?_))
   | exact spec_GoodRow.mono _ _
   | exact spec_l1Columns.mono _ _ _
   | exact spec_l1Pick.mono _ _ _
   | exact LeO.none _
   | refine LeO.ite ?_ ?_
   | refine LeO.bind ?_ (fun _ => ?_)
set_option maxHeartbeats 8000000 in
set_option maxRecDepth 100000 in
theorem spec_PickCells.calls (k : Nat) (A0_0 : Option Addr) (c0_0 : Nat) (l0_0 : List Int) (A1 : Option Addr) (c1 : Nat) (l1 : List Int) (r1 : List Int) (r2 : Bool) (w : World) (hr0_0 : Kd.C (Kd.int .i64) w A0_0 l0_0.length l0_0) (hc0_0 : l0_0.length ≤ c0_0) (hr1 : Kd.C (Kd.int .i64) w A1 l1.length l1) (hc1 : l1.length ≤ c1) (h : spec_PickCells.f k l0_0 l1 = some (r1, r2)) :
  Calls Try.prog 11 #[.agg #[.slice A0_0 l0_0.length c0_0], .slice A1 l1.length c1] w fun e w' => ∃ v0_ : Value, e = .returned (.tuple #[.agg #[v0_], .bool r2]) ∧ Kd.R (Kd.int .i64) 3 w' w.heap.size (fun _ => True) v0_ r1 ∧ Below w.heap.size w w' := by
 have hu25 := Try.underlying25
 have HR0_0 := xm hr0_0
 have HC0_0 := xm hc0_0
 clear hr0_0 hc0_0
 have HR1 := xm hr1
 have HC1 := xm hc1
 clear hr1 hc1
 have HB := xm (Below.refl w.heap.size w)
 have H : ((spec_GoodRow.f k l0_0).bind fun t328 => (if t328 = true then ((spec_l1Columns.f k l1 (l0_0.length : Int)).bind fun t329 => (if t329 = true then ((spec_l1Pick.f k l0_0 l1).bind fun t330 => (some (t330, true))) else (some (([] : List Int), false)))) else (some (([] : List Int), false)))) = some (r1, r2) := h
 clear h
 replace H := Option.bind_eq_some_iff.mp H
 obtain ⟨t328, A30, H⟩ := H
 replace H : (if t328 = true then ((spec_l1Columns.f k l1 (l0_0.length : Int)).bind fun t329 => (if t329 = true then ((spec_l1Pick.f k l0_0 l1).bind fun t330 => (some (t330, true))) else (some (([] : List Int), false)))) else (some (([] : List Int), false))) = some (r1, r2) := H
 have A3 := xm A30
 clear A30
 by_cases c4 : t328 = true
 ·subst c4
  have H1 : ((spec_l1Columns.f k l1 (l0_0.length : Int)).bind fun t329 => (if t329 = true then ((spec_l1Pick.f k l0_0 l1).bind fun t330 => (some (t330, true))) else (some (([] : List Int), false)))) = some (r1, r2) := by first | (with_reducible rfl) | (rw [if_pos rfl] at H; exact H)
  clear H
  have H := H1
  clear H1
  replace H := Option.bind_eq_some_iff.mp H
  obtain ⟨t329, A50, H⟩ := H
  replace H : (if t329 = true then ((spec_l1Pick.f k l0_0 l1).bind fun t330 => (some (t330, true))) else (some (([] : List Int), false))) = some (r1, r2) := H
  have A5 := xm A50
  clear A50
  by_cases c6 : t329 = true
  ·subst c6
   have H1 : ((spec_l1Pick.f k l0_0 l1).bind fun t330 => (some (t330, true))) = some (r1, r2) := by first | (with_reducible rfl) | (rw [if_pos rfl] at H; exact H)
   clear H
   have H := H1
   clear H1
   replace H := Option.bind_eq_some_iff.mp H
   obtain ⟨t330, A70, H⟩ := H
   replace H : (some (t330, true)) = some (r1, r2) := H
   have A7 := xm A70
   clear A70
   simp only [Option.some.injEq, Prod.mk.injEq] at H
   obtain ⟨rfl, rfl⟩ := H
   go_enter Try.func11, Try.ntmps11
   go_wp2_with (first | ((with_reducible refine gate_dst (N := 2) rfl ?_); (try (refine gate_guard (by rfl) ?_; dsimp only)); refine box_event ?hg (N := 2) ?hd (cs := #[.slice A0_0 l0_0.length c0_0]) (t := 25) ?hr ?_; (case hd => rfl); (case hg => rfl); (case hr => exact zB); intro gb326 hg w8 hbox hb; have n0_ := xm (below_step bB hb); have n1_ := xm (hbox); have n2_ := xm ((by rw [hg]; exact (xz bB) : w.heap.size ≤ gb326)); have n3_ := xm ((by rw [hg]; exact (xz bB) : w.heap.size ≤ gb326)); revert n0_ n1_ n2_ n3_; clear HB; intro HB BK326 GW326 GE326; clear hb hbox hg) | ((with_reducible refine gate_dst (N := 4) rfl ?_); (try (refine gate_guard (by rfl) ?_; dsimp only)); refine box_event ?hg (N := 4) ?hd (cs := #[.slice none 0 0]) (t := 25) ?hr ?_; (case hd => rfl); (case hg => rfl); (case hr => exact zB); intro gb327 hg w9 hbox hb; have n0_ := xm (blk_below (kB BK326) hb); have n1_ := xm (below_step bG hb); have n2_ := xm (hbox); have n3_ := xm ((by rw [hg]; exact (xz bG) : w.heap.size ≤ gb327)); have n4_ := xm ((by rw [hg]; exact (xz bG) : w.heap.size ≤ gb327)); have n5_ := xm ((by rw [hg]; exact Nat.ne_of_lt (blk_lt (kB BK326)) : gb326 ≠ gb327)); have n6_ := xm ((by rw [hg]; exact Nat.ne_of_gt (blk_lt (kB BK326)) : gb327 ≠ gb326)); revert n0_ n1_ n2_ n3_ n4_ n5_ n6_; clear BK326 HB; intro BK326 HB BK327 GW327 GE327 NB326_327 NB327_326; clear hb hbox hg; have hnb10 := NB326_327.out; have hnc10 := NB327_326.out; obtain ⟨hcz11_0, hfz11_0⟩ := cz1 BK326.out) | ((with_reducible refine gate_callee (f := 17) rfl ?_); refine goesL_ (some 7) rfl rfl Try.func17 (by kernel_rfl) rfl #[.agg #[.slice A0_0 l0_0.length c0_0]] rfl mB ?_; (with_reducible refine (spec_GoodRow.calls k _ _ l0_0 true _ ?side1 ?side2 A3.out).mono ?_); (case side1 => exact cB (Kd.C_below HR0_0.out HB.out)); (case side2 => exact HC0_0.out); rintro e w12 ⟨rfl, hb⟩; refine ⟨_, rfl, ?_⟩; have n0_ := xm (blk_below (kB BK326) hb); have n1_ := xm (blk_below (kB BK327) hb); have n2_ := xm (below_step bG hb); revert n0_ n1_ n2_; clear BK326 BK327 HB; intro BK326 BK327 HB; (try clear hb); obtain ⟨hcz13_0, hfz13_0⟩ := cz1 BK326.out) | (go_at_call 26; (with_reducible refine (spec_l1Columns.calls k _ _ l1 (l0_0.length : Int) true _ ?side1 ?side2 A5.out).mono ?_); (case side1 => exact cB (Kd.C_below HR1.out HB.out)); (case side2 => exact HC1.out); rintro e w' ⟨rfl, ⟨nd, rfl⟩⟩; (first | (rw [drewN_self w12]; generalize hq_ : World.drewN w12 _ = w12; have n0_ : Aside0 (w12.heap[gb326]? = some (.cells #[.slice A0_0 l0_0.length c0_0] 25 (0, 0))) := ⟨by rw [← hq_]; exact (kB BK326)⟩; have n1_ : Aside0 (w12.heap[gb327]? = some (.cells #[.slice none 0 0] 25 (0, 0))) := ⟨by rw [← hq_]; exact (kB BK327)⟩; have n2_ : Aside0 (Below w.heap.size w w12) := ⟨by rw [← hq_]; exact bG⟩; clear BK326 BK327 HB hq_; revert n0_ n1_ n2_; intro BK326 BK327 HB) | (have n0_ : Aside0 (w12.heap[gb326]? = some (.cells #[.slice A0_0 l0_0.length c0_0] 25 (0, 0))) := ⟨(kB BK326)⟩; have n1_ : Aside0 (w12.heap[gb327]? = some (.cells #[.slice none 0 0] 25 (0, 0))) := ⟨(kB BK327)⟩; have n2_ : Aside0 (Below w.heap.size w w12) := ⟨bG⟩; clear BK326 BK327 HB; revert n0_ n1_ n2_; intro BK326 BK327 HB)); obtain ⟨hcz14_0, hfz14_0⟩ := cz1 BK326.out) | ((with_reducible refine gate_callee (f := 27) rfl ?_); refine goesL_ (some 20) rfl rfl Try.func27 (by kernel_rfl) rfl #[.agg #[.slice A0_0 l0_0.length c0_0], .slice A1 l1.length c1] rfl mB ?_; (with_reducible refine (spec_l1Pick.calls k _ _ l0_0 _ _ l1 t330 _ ?side1 ?side2 ?side3 ?side4 A7.out).mono ?_); (case side1 => exact cB (Kd.C_below HR0_0.out HB.out)); (case side2 => exact HC0_0.out); (case side3 => exact cB (Kd.C_below HR1.out HB.out)); (case side4 => exact HC1.out); rintro e w15 ⟨v331, rfl, ho0, hb⟩; refine ⟨_, rfl, ?_⟩; have n0_ := xm (Kd.R_lower ho0 (xz bG)); have n1_ := xm (blk_below (kB BK326) hb); have n2_ := xm (blk_below (kB BK327) hb); have n3_ := xm (below_step bG hb); revert n0_ n1_ n2_ n3_; clear BK326 BK327 HB; intro HO332 BK326 BK327 HB; (try clear hb); (try clear ho0); obtain ⟨Ao16, co16, eo16⟩ := Kd.R_slice HO332.out; subst eo16; obtain ⟨hcz17_0, hfz17_0⟩ := cz1 BK327.out))
   refine bodyPost_ret (results_ct rfl _ _ gb327 25 #[.slice Ao16 t330.length co16] (0, 0) _ rfl (by (with_reducible repeat (first | refine xq ?_ _ | refine xr ?_ | refine xo ?_ _)); refine blk_put (cs := #[.slice none 0 0]) ?_ 0 _ rfl; (with_reducible repeat (first | refine xq ?_ _ | refine xr ?_ | refine xo ?_ _)); exact BK327.out) Try.underlying25 rfl (by kernel_rfl)) rfl ?_
   exact ⟨_, eB, by (with_reducible repeat (first | apply Kd.R_alloc | apply Kd.R_drewN | apply Kd.R_drew)); exact Kd.R_mono (Kd.R_far (p := ⟨gb327, 0, none⟩) (Kd.R_types HO332.out BK327.out (by decide)) (fun _ hk => hk.2) (.slice Ao16 t330.length co16)) (fun _ hk => trivial), bG⟩
  ·replace c6 := Bool.eq_false_iff.mpr c6
   subst c6
   have H1 : (some (([] : List Int), false)) = some (r1, r2) := by first | (with_reducible rfl) | (rw [if_neg (show ¬ (false = true) by decide)] at H; exact H)
   clear H
   have H := H1
   clear H1
   simp only [Option.some.injEq, Prod.mk.injEq] at H
   obtain ⟨rfl, rfl⟩ := H
   go_enter Try.func11, Try.ntmps11
   go_wp2_with (first | ((with_reducible refine gate_dst (N := 2) rfl ?_); (try (refine gate_guard (by rfl) ?_; dsimp only)); refine box_event ?hg (N := 2) ?hd (cs := #[.slice A0_0 l0_0.length c0_0]) (t := 25) ?hr ?_; (case hd => rfl); (case hg => rfl); (case hr => exact zB); intro gb326 hg w18 hbox hb; have n0_ := xm (below_step bB hb); have n1_ := xm (hbox); have n2_ := xm ((by rw [hg]; exact (xz bB) : w.heap.size ≤ gb326)); have n3_ := xm ((by rw [hg]; exact (xz bB) : w.heap.size ≤ gb326)); revert n0_ n1_ n2_ n3_; clear HB; intro HB BK326 GW326 GE326; clear hb hbox hg) | ((with_reducible refine gate_dst (N := 4) rfl ?_); (try (refine gate_guard (by rfl) ?_; dsimp only)); refine box_event ?hg (N := 4) ?hd (cs := #[.slice none 0 0]) (t := 25) ?hr ?_; (case hd => rfl); (case hg => rfl); (case hr => exact zB); intro gb327 hg w19 hbox hb; have n0_ := xm (blk_below (kB BK326) hb); have n1_ := xm (below_step bG hb); have n2_ := xm (hbox); have n3_ := xm ((by rw [hg]; exact (xz bG) : w.heap.size ≤ gb327)); have n4_ := xm ((by rw [hg]; exact (xz bG) : w.heap.size ≤ gb327)); have n5_ := xm ((by rw [hg]; exact Nat.ne_of_lt (blk_lt (kB BK326)) : gb326 ≠ gb327)); have n6_ := xm ((by rw [hg]; exact Nat.ne_of_gt (blk_lt (kB BK326)) : gb327 ≠ gb326)); revert n0_ n1_ n2_ n3_ n4_ n5_ n6_; clear BK326 HB; intro BK326 HB BK327 GW327 GE327 NB326_327 NB327_326; clear hb hbox hg; have hnb20 := NB326_327.out; have hnc20 := NB327_326.out; obtain ⟨hcz21_0, hfz21_0⟩ := cz1 BK326.out) | ((with_reducible refine gate_callee (f := 17) rfl ?_); refine goesL_ (some 7) rfl rfl Try.func17 (by kernel_rfl) rfl #[.agg #[.slice A0_0 l0_0.length c0_0]] rfl mB ?_; (with_reducible refine (spec_GoodRow.calls k _ _ l0_0 true _ ?side1 ?side2 A3.out).mono ?_); (case side1 => exact cB (Kd.C_below HR0_0.out HB.out)); (case side2 => exact HC0_0.out); rintro e w22 ⟨rfl, hb⟩; refine ⟨_, rfl, ?_⟩; have n0_ := xm (blk_below (kB BK326) hb); have n1_ := xm (blk_below (kB BK327) hb); have n2_ := xm (below_step bG hb); revert n0_ n1_ n2_; clear BK326 BK327 HB; intro BK326 BK327 HB; (try clear hb); obtain ⟨hcz23_0, hfz23_0⟩ := cz1 BK326.out) | (go_at_call 26; (with_reducible refine (spec_l1Columns.calls k _ _ l1 (l0_0.length : Int) false _ ?side1 ?side2 A5.out).mono ?_); (case side1 => exact cB (Kd.C_below HR1.out HB.out)); (case side2 => exact HC1.out); rintro e w' ⟨rfl, ⟨nd, rfl⟩⟩; (first | (rw [drewN_self w22]; generalize hq_ : World.drewN w22 _ = w22; have n0_ : Aside0 (w22.heap[gb326]? = some (.cells #[.slice A0_0 l0_0.length c0_0] 25 (0, 0))) := ⟨by rw [← hq_]; exact (kB BK326)⟩; have n1_ : Aside0 (w22.heap[gb327]? = some (.cells #[.slice none 0 0] 25 (0, 0))) := ⟨by rw [← hq_]; exact (kB BK327)⟩; have n2_ : Aside0 (Below w.heap.size w w22) := ⟨by rw [← hq_]; exact bG⟩; clear BK326 BK327 HB hq_; revert n0_ n1_ n2_; intro BK326 BK327 HB) | (have n0_ : Aside0 (w22.heap[gb326]? = some (.cells #[.slice A0_0 l0_0.length c0_0] 25 (0, 0))) := ⟨(kB BK326)⟩; have n1_ : Aside0 (w22.heap[gb327]? = some (.cells #[.slice none 0 0] 25 (0, 0))) := ⟨(kB BK327)⟩; have n2_ : Aside0 (Below w.heap.size w w22) := ⟨bG⟩; clear BK326 BK327 HB; revert n0_ n1_ n2_; intro BK326 BK327 HB)); obtain ⟨hcz24_0, hfz24_0⟩ := cz1 BK327.out))
   refine bodyPost_ret (results_ct rfl _ _ gb327 25 #[.slice none 0 0] (0, 0) _ rfl (by (with_reducible repeat (first | refine xq ?_ _ | refine xr ?_ | refine xo ?_ _)); refine blk_put (cs := #[.slice none 0 0]) ?_ 0 _ rfl; (with_reducible repeat (first | refine xq ?_ _ | refine xr ?_ | refine xo ?_ _)); exact BK327.out) Try.underlying25 rfl (by kernel_rfl)) rfl ?_
   exact ⟨_, eB, by first | exact Kd.R_nil _ _ _ _ _ | exact Kd.N_nil _ _ _ _ _ | exact Kd.V_nil _ _ _ _ _ | exact Kd.Q_nil _ _ _ _ _ | exact Kd.S_nil _ _ _ _ _, bG⟩
 ·replace c4 := Bool.eq_false_iff.mpr c4
  subst c4
  have H1 : (some (([] : List Int), false)) = some (r1, r2) := by first | (with_reducible rfl) | (rw [if_neg (show ¬ (false = true) by decide)] at H; exact H)
  clear H
  have H := H1
  clear H1
  simp only [Option.some.injEq, Prod.mk.injEq] at H
  obtain ⟨rfl, rfl⟩ := H
  go_enter Try.func11, Try.ntmps11
  go_wp2_with (first | ((with_reducible refine gate_dst (N := 2) rfl ?_); (try (refine gate_guard (by rfl) ?_; dsimp only)); refine box_event ?hg (N := 2) ?hd (cs := #[.slice A0_0 l0_0.length c0_0]) (t := 25) ?hr ?_; (case hd => rfl); (case hg => rfl); (case hr => exact zB); intro gb326 hg w25 hbox hb; have n0_ := xm (below_step bB hb); have n1_ := xm (hbox); have n2_ := xm ((by rw [hg]; exact (xz bB) : w.heap.size ≤ gb326)); have n3_ := xm ((by rw [hg]; exact (xz bB) : w.heap.size ≤ gb326)); revert n0_ n1_ n2_ n3_; clear HB; intro HB BK326 GW326 GE326; clear hb hbox hg) | ((with_reducible refine gate_dst (N := 4) rfl ?_); (try (refine gate_guard (by rfl) ?_; dsimp only)); refine box_event ?hg (N := 4) ?hd (cs := #[.slice none 0 0]) (t := 25) ?hr ?_; (case hd => rfl); (case hg => rfl); (case hr => exact zB); intro gb327 hg w26 hbox hb; have n0_ := xm (blk_below (kB BK326) hb); have n1_ := xm (below_step bG hb); have n2_ := xm (hbox); have n3_ := xm ((by rw [hg]; exact (xz bG) : w.heap.size ≤ gb327)); have n4_ := xm ((by rw [hg]; exact (xz bG) : w.heap.size ≤ gb327)); have n5_ := xm ((by rw [hg]; exact Nat.ne_of_lt (blk_lt (kB BK326)) : gb326 ≠ gb327)); have n6_ := xm ((by rw [hg]; exact Nat.ne_of_gt (blk_lt (kB BK326)) : gb327 ≠ gb326)); revert n0_ n1_ n2_ n3_ n4_ n5_ n6_; clear BK326 HB; intro BK326 HB BK327 GW327 GE327 NB326_327 NB327_326; clear hb hbox hg; have hnb27 := NB326_327.out; have hnc27 := NB327_326.out; obtain ⟨hcz28_0, hfz28_0⟩ := cz1 BK326.out) | ((with_reducible refine gate_callee (f := 17) rfl ?_); refine goesL_ (some 7) rfl rfl Try.func17 (by kernel_rfl) rfl #[.agg #[.slice A0_0 l0_0.length c0_0]] rfl mB ?_; (with_reducible refine (spec_GoodRow.calls k _ _ l0_0 false _ ?side1 ?side2 A3.out).mono ?_); (case side1 => exact cB (Kd.C_below HR0_0.out HB.out)); (case side2 => exact HC0_0.out); rintro e w29 ⟨rfl, hb⟩; refine ⟨_, rfl, ?_⟩; have n0_ := xm (blk_below (kB BK326) hb); have n1_ := xm (blk_below (kB BK327) hb); have n2_ := xm (below_step bG hb); revert n0_ n1_ n2_; clear BK326 BK327 HB; intro BK326 BK327 HB; (try clear hb); obtain ⟨hcz30_0, hfz30_0⟩ := cz1 BK327.out))
  refine bodyPost_ret (results_ct rfl _ _ gb327 25 #[.slice none 0 0] (0, 0) _ rfl (by (with_reducible repeat (first | refine xq ?_ _ | refine xr ?_ | refine xo ?_ _)); refine blk_put (cs := #[.slice none 0 0]) ?_ 0 _ rfl; (with_reducible repeat (first | refine xq ?_ _ | refine xr ?_ | refine xo ?_ _)); exact BK327.out) Try.underlying25 rfl (by kernel_rfl)) rfl ?_
  exact ⟨_, eB, by first | exact Kd.R_nil _ _ _ _ _ | exact Kd.N_nil _ _ _ _ _ | exact Kd.V_nil _ _ _ _ _ | exact Kd.Q_nil _ _ _ _ _ | exact Kd.S_nil _ _ _ _ _, bG⟩

end Go.Proofs.Ytmelechhnimlnaa.G
