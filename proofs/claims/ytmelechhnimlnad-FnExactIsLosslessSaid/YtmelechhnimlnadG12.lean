/- Written by a program of this claim's own, out of the translation: functions of the program as plain functions, and that the calls answer as these. No conditions. -/
import Derived.Test.YtmelechhnimlnadG0
namespace Go.Proofs.Ytmelechhnimlnad.G
open Go.RowKit Go.Proofs.Ytmelechhnimlnad.X Go.Proofs.YtmelechhnimlnadW.PrintWords Go.Proofs.YtmelechhnimlnadW.PrintLast Go.Proofs.YtmelechhnimlnadW.PrintMore
attribute [local go_sem] max2_int min2_int max_two min_two max_three min_three max_four min_four   -- for this text's walks alone
set_option linter.unusedVariables false
set_option linter.unusedSimpArgs false

/-! ### impl_Row_picked: function 57 -/
def impl_Row_picked.l0 : Nat → List Int → Int → Int → List Int → List Int → Option (List Int)
 | 0, _, _, _, _, _ => none
 | k + 1, x8, x9, x10, x344000, x346000 => if x10 < x9 then (if 0 ≤ x10 then (if x10 < (x8.length : Int) then (if 0 ≤ (rd x8 x10) then (if (rd x8 x10) < (x344000.length : Int) then (if x346000.length < 17592186044416 then (impl_Row_picked.l0 k x8 x9 (wrap64 (x10 + 1)) x344000 (x346000 ++ [rd x344000 (rd x8 x10)])) else (none)) else (none)) else (none)) else (none)) else (none)) else (some x346000)
def impl_Row_picked.f (k : Nat) (l0_0 : List Int) (l1 : List Int) : Option (List Int) := impl_Row_picked.l0 k l1 (l1.length : Int) 0 l0_0 ([] : List Int)
theorem impl_Row_picked.mono_l : ∀ k, (∀ y0 y1 y2 y3 y4, LeO (impl_Row_picked.l0 k y0 y1 y2 y3 y4) (impl_Row_picked.l0 (k + 1) y0 y1 y2 y3 y4))
 | 0 => fun _ _ _ _ _ r h => by simp [impl_Row_picked.l0] at h
 | k + 1 => by
  have ih0 := impl_Row_picked.mono_l k
  ·intro y0 y1 y2 y3 y4
   unfold impl_Row_picked.l0
   repeat' first
   | (with_reducible exact ih0 _ _ _ _ _)
   | (with_reducible exact LeO.refl _)
   | (with_reducible exact LeO.none _)
   | (with_reducible refine LeO.ite ?_ ?_)
   | (with_reducible refine LeO.bind ?_ (fun _ => ?_))
   | exact ih0 _ _ _ _ _
   | exact LeO.none _
   | refine LeO.ite ?_ ?_
   | refine LeO.bind ?_ (fun _ => ?_)
theorem impl_Row_picked.mono : ∀ a0 a1 k, LeO (impl_Row_picked.f k a0 a1) (impl_Row_picked.f (k + 1) a0 a1) := by
 intro a0 a1 k
 have ih0 := impl_Row_picked.mono_l k
 unfold impl_Row_picked.f
 repeat' first
   | (with_reducible exact ih0 _ _ _ _ _)
   | (with_reducible exact LeO.refl _)
   | (with_reducible exact LeO.none _)
   | (with_reducible refine LeO.ite ?_ ?_)
   | (with_reducible refine LeO.bind ?_ (fun _ => ?_))
   | exact ih0 _ _ _ _ _
   | exact LeO.none _
   | refine LeO.ite ?_ ?_
   | refine LeO.bind ?_ (fun _ => ?_)
def impl_Row_picked.T5 : Bool × List (List Nat × List Nat) := (true, [([], []), ([0], [0]), ([], []), ([2], [2]), ([], []), ([3, 4], [3, 4]), ([5], [5]), ([6], [6]), ([1, 7], [1, 7]), ([0, 1, 2, 3, 4, 5, 6, 7, 8], []), ([9, 8, 8, 0, 1, 2, 3, 4, 5, 6, 7, 8], [8, 9])])
def impl_Row_picked.B5 : List Nat := [0, 1, 0, 4, 0, 28, 60, 124, 255, 511, 1023]
theorem impl_Row_picked.tab5 : rtab .any (opsOf Try.f57 5) = impl_Row_picked.T5 := by kernel_rfl
theorem impl_Row_picked.bits5 : waitsOk impl_Row_picked.T5.2 impl_Row_picked.B5 = true := by kernel_rfl
set_option maxHeartbeats 8000000 in
set_option maxRecDepth 100000 in
theorem impl_Row_picked.calls (k : Nat) (A0_0 : Option Addr) (c0_0 : Nat) (l0_0 : List Int) (A1 : Option Addr) (c1 : Nat) (l1 : List Int) (r : List Int) (w : World) (hr0_0 : Kd.C (Kd.int .i64) w A0_0 l0_0.length l0_0) (hc0_0 : l0_0.length ≤ c0_0) (hr1 : Kd.C (Kd.int .i64) w A1 l1.length l1) (hc1 : l1.length ≤ c1) (h : impl_Row_picked.f k l0_0 l1 = some r) :
  Calls Try.prog 57 #[.agg #[.slice A0_0 l0_0.length c0_0], .slice A1 l1.length c1] w fun e w' => ∃ v0_ : Value, e = .returned (.agg #[v0_]) ∧ Kd.R (Kd.int .i64) 3 w' w.heap.size (fun _ => True) v0_ r ∧ Below w.heap.size w w' := by
 have hu48 := Try.underlying48
 have HR0_0 := xm hr0_0
 have HC0_0 := xm hc0_0
 clear hr0_0 hc0_0
 have HR1 := xm hr1
 have HC1 := xm hc1
 clear hr1 hc1
 have HB := xm (Below.refl w.heap.size w)
 have H : (impl_Row_picked.l0 k l1 (l1.length : Int) 0 l0_0 ([] : List Int)) = some r := h
 clear h
 have H' := xm H
 clear H
 go_enter Try.func57, Try.ntmps57
 go_wp2_with (first | ((with_reducible refine gate_dst (N := 2) rfl ?_); refine box_event ?hg (N := 2) ?hd (cs := #[.slice A0_0 l0_0.length c0_0]) (t := 48) ?hr ?_; (case hd => rfl); (case hg => rfl); (case hr => exact zB); intro gb343 hg w3 hbox hb; have n0_ := xm (below_step bB hb); have n1_ := xm (hbox); have n2_ := xm ((by rw [hg]; exact (xz bB) : w.heap.size ≤ gb343)); have n3_ := xm ((by rw [hg]; exact (xz bB) : w.heap.size ≤ gb343)); revert n0_ n1_ n2_ n3_; clear HB; intro HB BK343 GW343 GE343; clear hb hbox hg) | ((with_reducible refine gate_dst (N := 4) rfl ?_); refine box_event ?hg (N := 4) ?hd (cs := #[.slice none 0 0]) (t := 48) ?hr ?_; (case hd => rfl); (case hg => rfl); (case hr => exact zB); intro gb344 hg w4 hbox hb; have n0_ := xm (blk_below (kB BK343) hb); have n1_ := xm (below_step bG hb); have n2_ := xm (hbox); have n3_ := xm ((by rw [hg]; exact (xz bG) : w.heap.size ≤ gb344)); have n4_ := xm ((by rw [hg]; exact (xz bG) : w.heap.size ≤ gb344)); have n5_ := xm ((by rw [hg]; exact Nat.ne_of_lt (blk_lt (kB BK343)) : gb343 ≠ gb344)); have n6_ := xm ((by rw [hg]; exact Nat.ne_of_gt (blk_lt (kB BK343)) : gb344 ≠ gb343)); revert n0_ n1_ n2_ n3_ n4_ n5_ n6_; clear BK343 HB; intro BK343 HB BK344 GW344 GE344 NB343_344 NB344_343; clear hb hbox hg) | ((with_reducible refine gate_dst (N := 5) rfl ?_); refine box_event ?hg (N := 5) ?hd (cs := #[.slice none 0 0]) (t := 48) ?hr ?_; (case hd => rfl); (case hg => rfl); (case hr => exact zB); intro gb345 hg w5 hbox hb; have n0_ := xm (blk_below (kB BK343) hb); have n1_ := xm (blk_below (kB BK344) hb); have n2_ := xm (below_step bG hb); have n3_ := xm (hbox); have n4_ := xm ((by rw [hg]; exact (xz bG) : w.heap.size ≤ gb345)); have n5_ := xm ((by rw [hg]; exact (xz bG) : w.heap.size ≤ gb345)); have n6_ := xm ((by rw [hg]; exact Nat.ne_of_lt (blk_lt (kB BK343)) : gb343 ≠ gb345)); have n7_ := xm ((by rw [hg]; exact Nat.ne_of_gt (blk_lt (kB BK343)) : gb345 ≠ gb343)); have n8_ := xm ((by rw [hg]; exact Nat.ne_of_lt (blk_lt (kB BK344)) : gb344 ≠ gb345)); have n9_ := xm ((by rw [hg]; exact Nat.ne_of_gt (blk_lt (kB BK344)) : gb345 ≠ gb344)); revert n0_ n1_ n2_ n3_ n4_ n5_ n6_ n7_ n8_ n9_; clear BK343 BK344 HB; intro BK343 BK344 HB BK345 GW345 GE345 NB343_345 NB345_343 NB344_345 NB345_344; clear hb hbox hg))
 go_loopg [10] k (fun kq v10 w' => ∃ (x10_1 : Int) (x346000_1 : List Int) (u346000 : Value), v10 = .int .i64 x10_1 ∧ Aside0 (impl_Row_picked.l0 kq l1 (l1.length : Int) x10_1 l0_0 x346000_1 = some r) ∧ Aside0 (kq ≤ k) ∧ Aside0 (Kd.R (Kd.int .i64) 3 w' w.heap.size (fun _ => True) u346000 x346000_1) ∧ Aside0 (w'.heap[gb343]? = some (.cells #[(.slice A0_0 l0_0.length c0_0)] 48 (0, 0))) ∧ Aside0 (w'.heap[gb344]? = some (.cells #[(.slice none 0 0)] 48 (0, 0))) ∧ Aside0 (w'.heap[gb345]? = some (.cells #[u346000] 48 (0, 0))) ∧ Aside0 (Below w.heap.size w w'))
 case atStart => exact ⟨(0), (([] : List Int)), (.slice none 0 0), sB, H', ⟨Nat.le_refl _⟩, ⟨by first | exact Kd.R_nil _ _ _ _ _ | exact Kd.N_nil _ _ _ _ _ | exact Kd.V_nil _ _ _ _ _ | exact Kd.Q_nil _ _ _ _ _ | exact Kd.S_nil _ _ _ _ _⟩, ⟨kB BK343⟩, ⟨kB BK344⟩, ⟨kB BK345⟩, ⟨bG⟩⟩
 case round =>
  clear H'
  try clear c1
  try clear p2
  try clear c5
  obtain ⟨x10_1, x346000_1, u346000, rfl, HA, HK1, HO_346000, BK343, BK344, BK345, HB⟩ := hrel
  cases gk with
  | zero => exact absurd HA.out (by simp [impl_Row_picked.l0])
  | succ k1 =>
   have H := HA.out
   clear HA
   simp only [impl_Row_picked.l0] at H
   by_cases c6 : x10_1 < (l1.length : Int)
   ·rw [if_pos c6] at H
    have c6b0 : decide (x10_1 < (l1.length : Int)) = true := decide_eq_true c6
    clear c6
    by_cases c7 : 0 ≤ x10_1
    ·rw [if_pos c7] at H
     have c7b0 : decide (0 ≤ x10_1) = true := decide_eq_true c7
     clear c7
     by_cases c8 : x10_1 < (l1.length : Int)
     ·rw [if_pos c8] at H
      have c8b0 : decide (x10_1 < (l1.length : Int)) = true := decide_eq_true c8
      clear c8
      by_cases c9 : 0 ≤ (rd l1 x10_1)
      ·rw [if_pos c9] at H
       have c9b0 : decide (0 ≤ (rd l1 x10_1)) = true := decide_eq_true c9
       clear c9
       by_cases c10 : (rd l1 x10_1) < (l0_0.length : Int)
       ·rw [if_pos c10] at H
        have c10b0 : decide ((rd l1 x10_1) < (l0_0.length : Int)) = true := decide_eq_true c10
        clear c10
        by_cases c11 : x346000_1.length < 17592186044416
        ·rw [if_pos c11] at H
         have LMc11 := xm c11
         clear c11
         obtain ⟨y348, hy348⟩ : ∃ y_ : List Int, y_ = (x346000_1 ++ [rd l0_0 (rd l1 x10_1)]) := ⟨_, rfl⟩
         replace H : (impl_Row_picked.l0 k1 l1 (l1.length : Int) (wrap64 (x10_1 + 1)) l0_0 y348) = some r := by first | (rw [hy348]; with_reducible exact H) | (have H2_ := (Option.bind_some _ _).symm.trans H; rw [hy348]; with_reducible exact H2_) | (have H2_ := (Option.bind_some _ _).symm.trans H; with_reducible exact H2_) | with_reducible exact H | (rw [hy348]; exact H) | exact H
         have Ny348 := xm hy348
         clear hy348
         have H' := xm H
         clear H
         have p346 : 0 ≤ (x10_1 : Int) := of_decide_eq_true aB
         have q346 : x10_1 < (l1.length : Int) := of_decide_eq_true aB
         obtain ⟨ad346, e346, hx346_0⟩ := Kd.at_int HR1.out x10_1 p346 q346
         cases e346
         replace hx346_0 := hU hx346_0
         replace p346 := eq_true p346
         replace q346 := eq_true q346
         try go_wp2
         have n0_ := xm (Kd.R_drew HO_346000.out)
         have n1_ := xm (xr BK343.out)
         have n2_ := xm (xr BK344.out)
         have n3_ := xm (xr BK345.out)
         have n4_ := xm (xd HB.out)
         revert n0_ n1_ n2_ n3_ n4_; clear HO_346000 BK343 BK344 BK345 HB; intro HO_346000 BK343 BK344 BK345 HB
         have p347 : 0 ≤ ((rd l1 x10_1) : Int) := of_decide_eq_true aB
         have q347 : (rd l1 x10_1) < (l0_0.length : Int) := of_decide_eq_true aB
         obtain ⟨ad347, e347, hx347_0⟩ := Kd.at_int HR0_0.out (rd l1 x10_1) p347 q347
         have hw347_0 := hx347_0
         cases e347
         replace hx347_0 := hU hx347_0
         replace p347 := eq_true p347
         replace q347 := eq_true q347
         refine start_ (n := 11) (S := fun w' => w'.cell? ⟨gb345, 0, none⟩ = some (u346000) ∧ w'.cell? ⟨gb343, 0, none⟩ = some (.slice (some ad347) l0_0.length c0_0) ∧ w'.cell? (ad347.add ((rd l1 x10_1)).toNat) = some (.int .i64 (rd l0_0 (rd l1 x10_1)))) (ds := [10]) #[Z,Z,Z,Z,Z,Z,Z,Z,Z,Z,Z] (by kernel_rfl) rfl rfl ⟨(xc BK345.out 0).trans rfl, (xc BK343.out 0).trans rfl, ((HB.out.cell (World.block_lt_of_cell? w _ hw347_0)).trans hw347_0)⟩ (fun hHeld => ?_); refine with_tabW impl_Row_picked.tab5 impl_Row_picked.bits5 (fun HT_ HW_ => ?_)
         generalize wr.drew = w12 at HO_346000 BK343 BK344 BK345 HB hx347_0 hHeld ⊢
         refine pu 0 11 1 ?_
         refine pu 2 11 5 ?_
         refine pu 4 11 21 ?_
         refine tx 1 11 23 rfl rfl (take_ofW HT_.out HW_.out (by kernel_rfl)) hHeld (by rintro w' ⟨s0, s1, s2⟩; go_simp; with_reducible rfl) ?_
         refine tx 3 11 31 rfl rfl (take_ofW HT_.out HW_.out (by kernel_rfl)) hHeld (by rintro w' ⟨s0, s1, s2⟩; go_simp; with_reducible rfl) ?_
         refine pu 5 11 63 ?_
         refine tx 6 11 127 rfl rfl (take_ofW HT_.out HW_.out (by kernel_rfl)) hHeld (by rintro w' ⟨s0, s1, s2⟩; go_simp; with_reducible rfl) ?_
         refine one_ (i := 7) (N := some 21) #[Y,Y,Y,Y,Y,Y,Y,Y,Z,Z,Z] rfl rfl (one_of HT_.out (by kernel_rfl)) (by decide) (fun K hK => ?_)
         refine value_ (w1 := ?_) (v := ?_) (by rfl) rfl ?_ ?_
         rotate_left 2
         ·go_simp
          constructor
          ·rfl
          ·rfl
         refine hK.out _ _ ⟨(xc (xo BK345.out _) 0).trans rfl, (xc (xo BK343.out _) 0).trans rfl, (World.cell?_alloc_lt _ _ _ (World.block_lt_of_cell? _ _ (((HB.out.cell (World.block_lt_of_cell? w _ hw347_0)).trans hw347_0)))).trans (((HB.out.cell (World.block_lt_of_cell? w _ hw347_0)).trans hw347_0))⟩ (fun hHeld => nC ?_)
         clear hK K
         refine one_ (i := 8) (N := some 22) #[Y,Y,Y,Y,Y,Y,Y,Y,Y,Z,Z] rfl rfl (one_of HT_.out (by kernel_rfl)) (by decide) (fun K hK => ?_)
         refine Kd.R_append_step (Kd.int .i64) (w0 := w) w.heap.size (by rfl) (.tmp 15) (.tmp 21) 35 3 (.int .i64 0) 8 rfl Try.underlying35 info3 rfl (by decide) (by omega) u346000 x346000_1 (rd l0_0 (rd l1 x10_1)) [.int .i64 (rd l0_0 (rd l1 x10_1))] (fun _ => True) (fun _ => False) rfl rfl ?aP (fun _ hk => hk.elim) ?aF ?aO ?aB ?aS ?aL ?_
         (case aP => exact rfl)
         (case aB => exact bG)
         (case aF => exact (fun _ _ => trivial))
         (case aO => exact (rB HO_346000))
         (case aS => exact (xz bG))
         (case aL => have := LMc11.out; omega)
         intro v349 w13 ho hb hg hat
         rw [← Ny348.out] at ho
         have n0_ := xm (blk_grown (kB BK343) hg (Kd.R_ne HO_346000.out BK343.out (by decide)))
         have n1_ := xm (blk_grown (kB BK344) hg (Kd.R_ne HO_346000.out BK344.out (by decide)))
         have n2_ := xm (blk_grown (kB BK345) hg (Kd.R_ne HO_346000.out BK345.out (by decide)))
         have n3_ := xm (hb)
         have n4_ := xm (ho)
         revert n0_ n1_ n2_ n3_ n4_; clear BK343 BK344 BK345 HB HO_346000; intro BK343 BK344 BK345 HB HO350
         clear ho hb hg hat
         obtain ⟨Ao14, co14, eo14⟩ := Kd.R_slice HO350.out
         (first | subst eo14 | (injection eo14 with f1_ f2_ f3_; have f4_ := f1_.symm; have f5_ := f3_.symm; clear f1_ f2_ f3_; subst f4_; subst f5_))
         refine hK.out _ _ ⟨(xc BK345.out 0).trans rfl, (xc BK343.out 0).trans rfl, ((HB.out.cell (World.block_lt_of_cell? w _ hw347_0)).trans hw347_0)⟩ (fun hHeld => nC ?_)
         clear hK K
         refine pu 9 11 1023 ?_
         refine last_ (i := 10) (N := none) #[Y,Y,Y,Y,Y,Y,Y,Y,Y,Y,Y] rfl rfl (one_of HT_.out (by kernel_rfl)) (by decide) (fun K hK => ?_)
         have hs15 : w13.cell? ⟨gb345, 0, none⟩ = some (u346000) := (xc BK345.out 0).trans rfl
         have hfs15 := xf BK345.out 0
         have hns15_0 := NB343_345.out
         have hns15_1 := NB344_345.out
         have hms15_0 := NB345_343.out
         have hms15_1 := NB345_344.out
         refine skip_ (w1 := ?_) (by rfl) rfl ?_ ?_
         rotate_left
         ·go_simp
          rfl
         refine hK.out _ _ ?_
         clear hK K
         refine done_ (done_of HT_.out (by kernel_rfl)) ?_
         try go_wp2
         go_roundg k1
         case measure => have := HK1.out; omega
         case rel => exact ⟨(wrap64 (x10_1 + 1)), (y348), (.slice Ao14 y348.length co14), sB, H', ⟨by have := HK1.out; omega⟩, ⟨by (with_reducible repeat (first | apply Kd.R_alloc | apply Kd.R_drewN | apply Kd.R_drew)); exact Kd.R_mono (Kd.R_far (p := ⟨gb345, 0, none⟩) (Kd.R_types HO350.out BK345.out (by decide)) (fun _ hk => hk.2) (.slice Ao14 y348.length co14)) (fun _ hk => trivial)⟩, ⟨by (with_reducible repeat (first | refine xq ?_ _ | refine xr ?_ | refine xo ?_ _)); refine blk_far ?_ NB343_345.out _; (with_reducible repeat (first | refine xq ?_ _ | refine xr ?_ | refine xo ?_ _)); exact BK343.out⟩, ⟨by (with_reducible repeat (first | refine xq ?_ _ | refine xr ?_ | refine xo ?_ _)); refine blk_far ?_ NB344_345.out _; (with_reducible repeat (first | refine xq ?_ _ | refine xr ?_ | refine xo ?_ _)); exact BK344.out⟩, ⟨by (with_reducible repeat (first | refine xq ?_ _ | refine xr ?_ | refine xo ?_ _)); refine blk_put (cs := #[u346000]) ?_ 0 _ rfl; (with_reducible repeat (first | refine xq ?_ _ | refine xr ?_ | refine xo ?_ _)); exact BK345.out⟩, ⟨bG⟩⟩
        ·rw [if_neg c11] at H
         exact absurd H (by simp)
       ·rw [if_neg c10] at H
        exact absurd H (by simp)
      ·rw [if_neg c9] at H
       exact absurd H (by simp)
     ·rw [if_neg c8] at H
      exact absurd H (by simp)
    ·rw [if_neg c7] at H
     exact absurd H (by simp)
   ·rw [if_neg c6] at H
    have c6b0 : decide (x10_1 < (l1.length : Int)) = false := decide_eq_false c6
    clear c6
    obtain rfl := Option.some.inj H
    have hnb16 := NB345_343.out
    have hnc16 := NB343_345.out
    have hnb17 := NB345_344.out
    have hnc17 := NB344_345.out
    obtain ⟨hcz18_0, hfz18_0⟩ := cz1 BK345.out
    obtain ⟨Ao19, co19, eo19⟩ := Kd.R_slice HO_346000.out
    subst eo19
    have hnb20 := NB344_343.out
    have hnc20 := NB343_344.out
    obtain ⟨hcz21_0, hfz21_0⟩ := cz1 BK344.out
    go_wp2
    refine bodyPost_ret (results_cell_row rfl _ _ gb344 48 #[.slice Ao19 x346000_1.length co19] (0, 0) _ rfl (by (with_reducible repeat (first | refine xq ?_ _ | refine xr ?_ | refine xo ?_ _)); refine blk_put (cs := #[.slice none 0 0]) ?_ 0 _ rfl; (with_reducible repeat (first | refine xq ?_ _ | refine xr ?_ | refine xo ?_ _)); exact BK344.out) Try.underlying48 rfl (by kernel_rfl)) rfl ?_
    exact ⟨_, eB, by (with_reducible repeat (first | apply Kd.R_alloc | apply Kd.R_drewN | apply Kd.R_drew)); exact Kd.R_mono (Kd.R_far (p := ⟨gb344, 0, none⟩) (Kd.R_types HO_346000.out BK344.out (by decide)) (fun _ hk => hk.2) (.slice Ao19 x346000_1.length co19)) (fun _ hk => trivial), bG⟩

/-! ### impl_Tableau_alike: function 58 -/
def impl_Tableau_alike.el (a1 a2 a3 : Int) (x : S48) : S48 := if rd x.f0 a1 = (if a2 < a3 then a3 else a2) then ⟨x.f0.set a1.toNat (if a3 < a2 then a3 else a2)⟩ else x
def impl_Tableau_alike.f (a1 a2 a3 : Int) : List S48 → Option (List S48)
 | [] => some []
 | x :: xs => if 0 ≤ a1 ∧ a1 < (x.f0.length : Int) then (impl_Tableau_alike.f a1 a2 a3 xs).bind fun s => some (impl_Tableau_alike.el a1 a2 a3 x :: s) else none
set_option maxHeartbeats 8000000 in
set_option maxRecDepth 100000 in
theorem impl_Tableau_alike.calls (a0 a1 a2 a3 : Int) (P0_ : Nat → Prop) (u9000_ : Value) (l0 r : List S48) (w0 w : World) (hB : Below w0.heap.size w0 w) (ho0 : Kd.S k48 48 w w0.heap.size P0_ u9000_ l0) (h : impl_Tableau_alike.f a1 a2 a3 l0 = some r) :
  Calls Try.prog 58 #[.agg #[.int .i64 a0, u9000_], .int .i64 a1, .int .i64 a2, .int .i64 a3] w fun e w' => e = .returned (.tuple #[]) ∧ Kd.S k48 48 w' w0.heap.size P0_ u9000_ r ∧ Below w0.heap.size w0 w' ∧ Kept w w' P0_ := by
 have huT := Try.underlying43
 have huR := Try.underlying48
 obtain ⟨A0, c0, rfl⟩ := Kd.S_slice ho0
 have HS := xm ho0
 have HB := xm hB
 have HK := xm (Kept.refl w P0_)
 have H0 := xm h
 have hlen := (Kd.S_reads' ho0).2.2.2.1
 clear ho0 hB h
 go_enter Try.func58, Try.ntmps58
 go_wp2_with (first | ((with_reducible refine gate_dst (N := 4) rfl ?_); refine box_event ?hg (N := 4) ?hd (cs := #[.int .i64 a0, .slice A0 l0.length c0]) (t := 43) ?hr ?_; (case hd => rfl); (case hg => rfl); (case hr => exact zB); intro gb hg w1 hbox hb; have n0_ := xm (Kd.S_below HS.out hb); have n1_ := xm (below_step HB.out hb); have n2_ := xm (Kept.then_ HK.out (Kept.of_below hb (fun _ => False)) (fun _ h_ => h_.elim)); clear HS HB HK hb hg; revert n0_ n1_ n2_; intro HS HB HK; obtain ⟨hc0, hc1, hf0, hf1⟩ := cz2 hbox; clear hbox))
 go_loopg [13] l0.length (fun kq v13 w' => ∃ (ys zs ws : List S48) (x5 : Int), v13 = .int .i64 x5 ∧ Aside0 (x5 = ys.length) ∧ Aside0 (ys.length + zs.length = l0.length) ∧ Aside0 (zs.length ≤ kq) ∧ Aside0 (impl_Tableau_alike.f a1 a2 a3 zs = some ws) ∧ Aside0 (r = ys ++ ws) ∧ Aside0 (Kd.S k48 48 w' w0.heap.size P0_ (.slice A0 l0.length c0) (ys ++ zs)) ∧ Aside0 (Kept w w' P0_) ∧ Aside0 (Below w0.heap.size w0 w'))
 case atStart => exact ⟨[], l0, r, 0, rfl, ⟨rfl⟩, ⟨by simp⟩, ⟨Nat.le_refl _⟩, H0, ⟨rfl⟩, ⟨HS.out⟩, ⟨HK.out⟩, ⟨HB.out⟩⟩
 case round =>
  clear HS HK HB H0
  try clear hc0 hc1 hf0 hf1
  obtain ⟨ys, zs, ws, x5, rfl, hx5, hyz, hzk, HF, HR, HS, HK, HB⟩ := hrel
  have h50 := hx5.out
  have h51 := hyz.out
  cases zs with
  | nil =>
   have hc : decide (x5 < (l0.length : Int)) = false := decide_eq_false (by simp at h51; omega)
   have hf := HF.out
   unfold impl_Tableau_alike.f at hf
   obtain rfl := Option.some.inj hf
   have HR2 := HR.out
   rw [List.append_nil] at HR2
   subst HR2
   have HS2 := HS.out
   rw [List.append_nil] at HS2
   have HS3 := xm HS2
   clear HS2 HS HF HR h50 h51 hx5 hyz hzk
   go_wp2
   refine bodyPost_end (results_none rfl _ _ _) rfl ?_
   exact ⟨rfl, HS3.out, HB.out, HK.out⟩
  | cons x zs =>
   have hzc : (x :: zs).length = zs.length + 1 := rfl
   have hc : decide (x5 < (l0.length : Int)) = true := decide_eq_true (by omega)
   have hf := HF.out
   unfold impl_Tableau_alike.f at hf
   by_cases hcol : 0 ≤ a1 ∧ a1 < (x.f0.length : Int)
   case neg => rw [if_neg hcol] at hf; cases hf
   rw [if_pos hcol] at hf
   obtain ⟨s, hN, hf⟩ := Option.bind_eq_some_iff.mp hf
   have hws := Option.some.inj hf
   have HN := xm hN
   have HW := xm hws
   clear hN hws HF hf
   obtain ⟨go, co, eo, gb, _, _⟩ := Kd.S_form HS.out (by rw [List.length_append]; omega)
   (injection eo with ea_ en_ ec_; subst ea_; subst ec_; clear en_)
   have hi0 : 0 ≤ x5 := by omega
   have hi1 : x5 < (l0.length : Int) := by omega
   have hit : x5.toNat = ys.length := by omega
   have hset : ∀ y z : S48, (ys ++ y :: zs).set x5.toNat z = ys ++ z :: zs := fun y z => by rw [hit]; simp
   have hget : ∀ (y z : S48), (ys ++ y :: zs).getD x5.toNat z = y := fun y z => by rw [hit]; simp
   have HI := xm (And.intro hi0 (And.intro hi1 (And.intro gb (And.intro hset hget))))
   have HL5 := xm (And.intro h50 (And.intro h51 (And.intro hzc hlen)))
   clear hit hset hget gb h50 h51 hzc
   obtain ⟨oki, ce, hcl, hM, hcc, hfr, hoki, hH⟩ := Kd.S_elem HS.out z48 x5 HI.out.1 HI.out.2.1
   rw [HI.out.2.2.2.2] at hM
   obtain ⟨v0, rfl, g0⟩ := k48_openM hM
   obtain ⟨Ai, ci, ei⟩ := Kd.R_slice g0
   subst ei
   have hx0 : wr.cell? ⟨go, x5.toNat, none⟩ = some (.slice Ai x.f0.length ci) := (by have z_ := hcc 0 _ rfl; (try simp only [show (k48).sz = 1 from rfl, Nat.mul_one, Nat.add_zero] at z_); exact z_)
   obtain ⟨gi, cgi, eoi, gbi, gli, cli, hgi⟩ := Kd.R_form g0 (by omega)
   (first | cases eoi | (injection eoi with ea_ en_ ec_; (first | subst ea_ | (injection ea_ with ea_; subst ea_)); subst ec_; clear en_))
   have HH := xm hH
   have HG := xm g0
   have HO := xm hoki
   have HC := xm hcl
   have GI := xm gbi
   have GL := xm gli
   (try clear hM)
   clear hcl hcc hfr hoki hH g0 gbi gli cli hgi
   have p5 := eq_true hcol.1
   have q5 := eq_true hcol.2
   have HQ := xm hcol
   clear hcol
   obtain ⟨mx, hmx⟩ : ∃ mx, (if a2 < a3 then a3 else a2) = mx := ⟨_, rfl⟩
   obtain ⟨mn, hmn⟩ : ∃ mn, (if a3 < a2 then a3 else a2) = mn := ⟨_, rfl⟩
   have HE := xm (show impl_Tableau_alike.el a1 a2 a3 x = if rd x.f0 a1 = mx then ⟨x.f0.set a1.toNat mn⟩ else x by unfold impl_Tableau_alike.el; rw [hmx, hmn])
   by_cases hm : rd x.f0 a1 = mx
   ·have hmb : ((rdOf 0 x.f0 a1) == mx) = true := beq_iff_eq.mpr hm
    have HM := xm hm
    clear hm
    go_wp2_with (first
     | ((with_reducible refine gate_dst (N := 9) rfl ?_); refine box_event ?hg (N := 9) ?hd (cs := #[.slice none 0 0]) (t := 48) ?hr ?_; (case hd => rfl); (case hg => rfl); (case hr => exact zB); intro g9 hg9 w2 hbox hb; obtain ⟨hc9, hf9⟩ := cz1 hbox; have HBX := xm hbox; have HBB := xm hb; have HG9 := xm hg9; clear hbox hb hg9)
     | ((with_reducible refine gate_store (t := 48) (p := 9) rfl ?_); refine store_event (t := 48) (p := 9) (v := ?vo9) (w1 := (w2.setCell ⟨g9, 0, none⟩ (.slice (some ⟨gi, 0, none⟩) x.f0.length ci))) ?hg ?ho ?hn ?hr ?_; (case ho => rfl); (case hg => rfl); (case hn => rfl); (case hr => exact zB); intro w3 hw; clear hc9 hf9; have hb3 : Below wr.heap.size wr w3 := (by rw [hw]; exact HBB.out.setCell (p := ⟨g9, 0, none⟩) (by rw [HG9.out]; exact Nat.le_refl _) _); have hc9 : w3.cell? ⟨g9, 0, none⟩ = some (.slice (some ⟨gi, 0, none⟩) x.f0.length ci) := (by rw [hw]; exact (xc (blk_put HBX.out 0 (.slice (some ⟨gi, 0, none⟩) x.f0.length ci) rfl) 0).trans rfl); have n0_ := xm (Kd.S_below HS.out hb3); have n1_ := xm (Kept.then_ HK.out (Kept.of_below hb3 (fun _ => False)) (fun _ h_ => h_.elim)); have n2_ := xm (below_step HB.out hb3); have n3_ := xm (Kd.R_below HG.out hb3); have n4_ := xm (Kd.H_step HH.out (fun k_ _ _ hlt_ => hb3.block k_ hlt_)); clear HS HK HB HG HH HBX HBB hb3 hw hx0; revert n0_ n1_ n2_ n3_ n4_; intro HS HK HB HG HH; obtain ⟨hxi, hfi⟩ := Kd.R_celln 0 HG.out a1 HQ.out.1 HQ.out.2)
     | ((with_reducible refine gate_store (t := 3) (p := 32) rfl ?_); refine store_event (t := 3) (p := 32) (v := ?vo32) (w1 := (w3.setCell ⟨gi, a1.toNat, none⟩ (.int .i64 (mn)))) ?hg ?ho ?hn ?hr ?_; (case ho => rfl); (case hg => rfl); (case hn => rfl); (case hr => exact zB); intro w4 hw; have hp := Kd.R_putg HG.out a1 (mn); have hg : w3.grownBy w4 (some gi) := (by rw [hw]; exact hp.2); have hy : Kd.R (Kd.int .i64) 3 w4 w0.heap.size oki (.slice (some ⟨gi, 0, none⟩) x.f0.length ci) (x.f0.set a1.toNat (mn)) := (by rw [hw]; have z_ := hp.1; exact z_); have n0_ := xm (by rw [← HI.out.2.2.2.1 x (⟨x.f0.set a1.toNat (mn)⟩ : S48)]; exact Kd.H_back (x' := (⟨x.f0.set a1.toNat (mn)⟩ : S48)) (Kd.H_step HH.out (fun k_ _ hn_ hlt_ => hg.block k_ hlt_ (fun e_ => hn_ (HG.out.1 k_ e_.symm)))) (k48_mkM w4 w0.heap.size oki (⟨x.f0.set a1.toNat (mn)⟩ : S48) hy) (fun _ h_ => h_) : Kd.S k48 48 w4 w0.heap.size P0_ (.slice (some ⟨go, 0, none⟩) l0.length c0) (ys ++ (⟨x.f0.set a1.toNat (mn)⟩ : S48) :: zs)); have n1_ := xm (Kept.of_grown (S := P0_) hg HK.out (fun k_ e_ => .inl (HO.out k_ (HG.out.1 k_ e_)).1)); have n2_ := xm (by rw [hw]; exact xt HB.out GI.out : Below w0.heap.size w0 w4); clear HS HK HB hg hp hy hw hxi hfi hc9; revert n0_ n1_ n2_; intro HS HK HB))
    go_roundg zs.length
    case measure => have z_ := hzk.out; simp at z_; omega
    case rel =>
     have hw5 : wrap64 (x5 + 1) = x5 + 1 := by have := HL5.out; unfold wrap64; omega
     have he : impl_Tableau_alike.el a1 a2 a3 x = ⟨x.f0.set a1.toNat (mn)⟩ := by rw [HE.out, if_pos HM.out]
     refine ⟨ys ++ [⟨x.f0.set a1.toNat (mn)⟩], zs, s, wrap64 (x5 + 1), sB, ⟨?_⟩, ⟨?_⟩, ⟨Nat.le_refl _⟩, HN, ⟨?_⟩, ⟨?_⟩, HK, HB⟩
     ·rw [hw5, HL5.out.1]; simp
     ·have := HL5.out; simp; omega
     ·rw [HR.out, ← HW.out, he]; simp
     ·have z_ := HS.out; simpa using z_
   ·have hmb : ((rdOf 0 x.f0 a1) == mx) = false := beq_eq_false_iff_ne.mpr hm
    have HM := xm hm
    clear hm
    go_wp2_with (first
     | ((with_reducible refine gate_dst (N := 9) rfl ?_); refine box_event ?hg (N := 9) ?hd (cs := #[.slice none 0 0]) (t := 48) ?hr ?_; (case hd => rfl); (case hg => rfl); (case hr => exact zB); intro g9 hg9 w2 hbox hb; obtain ⟨hc9, hf9⟩ := cz1 hbox; have HBX := xm hbox; have HBB := xm hb; have HG9 := xm hg9; clear hbox hb hg9)
     | ((with_reducible refine gate_store (t := 48) (p := 9) rfl ?_); refine store_event (t := 48) (p := 9) (v := ?vo9) (w1 := (w2.setCell ⟨g9, 0, none⟩ (.slice (some ⟨gi, 0, none⟩) x.f0.length ci))) ?hg ?ho ?hn ?hr ?_; (case ho => rfl); (case hg => rfl); (case hn => rfl); (case hr => exact zB); intro w3 hw; clear hc9 hf9; have hb3 : Below wr.heap.size wr w3 := (by rw [hw]; exact HBB.out.setCell (p := ⟨g9, 0, none⟩) (by rw [HG9.out]; exact Nat.le_refl _) _); have hc9 : w3.cell? ⟨g9, 0, none⟩ = some (.slice (some ⟨gi, 0, none⟩) x.f0.length ci) := (by rw [hw]; exact (xc (blk_put HBX.out 0 (.slice (some ⟨gi, 0, none⟩) x.f0.length ci) rfl) 0).trans rfl); have n0_ := xm (Kd.S_below HS.out hb3); have n1_ := xm (Kept.then_ HK.out (Kept.of_below hb3 (fun _ => False)) (fun _ h_ => h_.elim)); have n2_ := xm (below_step HB.out hb3); have n3_ := xm (Kd.R_below HG.out hb3); have n4_ := xm (Kd.H_step HH.out (fun k_ _ _ hlt_ => hb3.block k_ hlt_)); clear HS HK HB HG HH HBX HBB hb3 hw hx0; revert n0_ n1_ n2_ n3_ n4_; intro HS HK HB HG HH; obtain ⟨hxi, hfi⟩ := Kd.R_celln 0 HG.out a1 HQ.out.1 HQ.out.2))
    go_roundg zs.length
    case measure => have z_ := hzk.out; simp at z_; omega
    case rel =>
     have hw5 : wrap64 (x5 + 1) = x5 + 1 := by have := HL5.out; unfold wrap64; omega
     have he : impl_Tableau_alike.el a1 a2 a3 x = x := by rw [HE.out, if_neg HM.out]
     refine ⟨ys ++ [x], zs, s, wrap64 (x5 + 1), sB, ⟨?_⟩, ⟨?_⟩, ⟨Nat.le_refl _⟩, HN, ⟨?_⟩, ⟨?_⟩, HK, HB⟩
     ·rw [hw5, HL5.out.1]; simp
     ·have := HL5.out; simp; omega
     ·rw [HR.out, ← HW.out, he]; simp
     ·have z_ := HS.out; simpa using z_

end Go.Proofs.Ytmelechhnimlnad.G
