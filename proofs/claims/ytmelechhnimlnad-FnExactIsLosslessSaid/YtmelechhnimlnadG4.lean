/- Written by a program of this claim's own, out of the translation: functions of the program as plain functions, and that the calls answer as these. No conditions. -/
import Derived.Test.YtmelechhnimlnadG0
namespace Go.Proofs.Ytmelechhnimlnad.G
open Go.RowKit Go.Proofs.Ytmelechhnimlnad.X Go.Proofs.YtmelechhnimlnadW.PrintWords Go.Proofs.YtmelechhnimlnadW.PrintLast Go.Proofs.YtmelechhnimlnadW.PrintMore
attribute [local go_sem] max2_int min2_int max_two min_two max_three min_three max_four min_four   -- for this text's walks alone
set_option linter.unusedVariables false
set_option linter.unusedSimpArgs false

/-! ### spec_l1Pick: function 50 -/
def spec_l1Pick.l0 : Nat → List Int → Int → Int → List Int → List Int → Option (List Int)
 | 0, _, _, _, _, _ => none
 | k + 1, x9, x10, x11, x169000, x171000 => if x11 < x10 then (if 0 ≤ x11 then (if x11 < (x9.length : Int) then (if 0 ≤ (rd x9 x11) then (if (rd x9 x11) < (x169000.length : Int) then (if x171000.length < 17592186044416 then (spec_l1Pick.l0 k x9 x10 (wrap64 (x11 + 1)) x169000 (x171000 ++ [rd x169000 (rd x9 x11)])) else (none)) else (none)) else (none)) else (none)) else (none)) else (some x171000)
def spec_l1Pick.f (k : Nat) (l0_0 : List Int) (l1 : List Int) : Option (List Int) := spec_l1Pick.l0 k l1 (l1.length : Int) 0 l0_0 ([] : List Int)
theorem spec_l1Pick.mono_l : ∀ k, (∀ y0 y1 y2 y3 y4, LeO (spec_l1Pick.l0 k y0 y1 y2 y3 y4) (spec_l1Pick.l0 (k + 1) y0 y1 y2 y3 y4))
 | 0 => fun _ _ _ _ _ r h => by simp [spec_l1Pick.l0] at h
 | k + 1 => by
  have ih0 := spec_l1Pick.mono_l k
  ·intro y0 y1 y2 y3 y4
   unfold spec_l1Pick.l0
   repeat' first
   | (with_reducible exact ih0 _ _ _ _ _)
   | (with_reducible exact LeO.refl _)
   | (with_reducible exact LeO.none _)
   | (with_reducible refine LeO.ite ?_ ?_)
   | (with_reducible refine LeO.bind ?_ (fun _ => ?_))
   | exact ih0 _ _ _ _ _
   | exact LeO.none _
   | refine LeO.ite ?_ ?_
   | refine LeO.bind ?_ (fun _ => ?_)
theorem spec_l1Pick.mono : ∀ a0 a1 k, LeO (spec_l1Pick.f k a0 a1) (spec_l1Pick.f (k + 1) a0 a1) := by
 intro a0 a1 k
 have ih0 := spec_l1Pick.mono_l k
 unfold spec_l1Pick.f
 repeat' first
   | (with_reducible exact ih0 _ _ _ _ _)
   | (with_reducible exact LeO.refl _)
   | (with_reducible exact LeO.none _)
   | (with_reducible refine LeO.ite ?_ ?_)
   | (with_reducible refine LeO.bind ?_ (fun _ => ?_))
   | exact ih0 _ _ _ _ _
   | exact LeO.none _
   | refine LeO.ite ?_ ?_
   | refine LeO.bind ?_ (fun _ => ?_)
def spec_l1Pick.T5 : Bool × List (List Nat × List Nat) := (true, [([], []), ([0], [0]), ([], []), ([2], [2]), ([], []), ([3, 4], [3, 4]), ([5], [5]), ([6], [6]), ([1, 7], [1, 7]), ([0, 1, 2, 3, 4, 5, 6, 7, 8], []), ([9, 8, 8, 0, 1, 2, 3, 4, 5, 6, 7, 8], [8, 9])])
def spec_l1Pick.B5 : List Nat := [0, 1, 0, 4, 0, 28, 60, 124, 255, 511, 1023]
theorem spec_l1Pick.tab5 : rtab .any (opsOf Try.f50 5) = spec_l1Pick.T5 := by kernel_rfl
theorem spec_l1Pick.bits5 : waitsOk spec_l1Pick.T5.2 spec_l1Pick.B5 = true := by kernel_rfl
set_option maxHeartbeats 8000000 in
set_option maxRecDepth 100000 in
theorem spec_l1Pick.calls (k : Nat) (A0_0 : Option Addr) (c0_0 : Nat) (l0_0 : List Int) (A1 : Option Addr) (c1 : Nat) (l1 : List Int) (r : List Int) (w : World) (hr0_0 : Kd.C (Kd.int .i64) w A0_0 l0_0.length l0_0) (hc0_0 : l0_0.length ≤ c0_0) (hr1 : Kd.C (Kd.int .i64) w A1 l1.length l1) (hc1 : l1.length ≤ c1) (h : spec_l1Pick.f k l0_0 l1 = some r) :
  Calls Try.prog 50 #[.agg #[.slice A0_0 l0_0.length c0_0], .slice A1 l1.length c1] w fun e w' => ∃ v0_ : Value, e = .returned (.agg #[v0_]) ∧ Kd.R (Kd.int .i64) 3 w' w.heap.size (fun _ => True) v0_ r ∧ Below w.heap.size w w' := by
 have hu48 := Try.underlying48
 have HR0_0 := xm hr0_0
 have HC0_0 := xm hc0_0
 clear hr0_0 hc0_0
 have HR1 := xm hr1
 have HC1 := xm hc1
 clear hr1 hc1
 have HB := xm (Below.refl w.heap.size w)
 have H : (spec_l1Pick.l0 k l1 (l1.length : Int) 0 l0_0 ([] : List Int)) = some r := h
 clear h
 have H' := xm H
 clear H
 go_enter Try.func50, Try.ntmps50
 go_wp2_with (first | ((with_reducible refine gate_dst (N := 2) rfl ?_); refine box_event ?hg (N := 2) ?hd (cs := #[.slice A0_0 l0_0.length c0_0]) (t := 48) ?hr ?_; (case hd => rfl); (case hg => rfl); (case hr => exact zB); intro gb168 hg w3 hbox hb; have n0_ := xm (below_step bB hb); have n1_ := xm (hbox); have n2_ := xm ((by rw [hg]; exact (xz bB) : w.heap.size ≤ gb168)); have n3_ := xm ((by rw [hg]; exact (xz bB) : w.heap.size ≤ gb168)); revert n0_ n1_ n2_ n3_; clear HB; intro HB BK168 GW168 GE168; clear hb hbox hg) | ((with_reducible refine gate_dst (N := 4) rfl ?_); refine box_event ?hg (N := 4) ?hd (cs := #[.slice none 0 0]) (t := 48) ?hr ?_; (case hd => rfl); (case hg => rfl); (case hr => exact zB); intro gb169 hg w4 hbox hb; have n0_ := xm (blk_below (kB BK168) hb); have n1_ := xm (below_step bG hb); have n2_ := xm (hbox); have n3_ := xm ((by rw [hg]; exact (xz bG) : w.heap.size ≤ gb169)); have n4_ := xm ((by rw [hg]; exact (xz bG) : w.heap.size ≤ gb169)); have n5_ := xm ((by rw [hg]; exact Nat.ne_of_lt (blk_lt (kB BK168)) : gb168 ≠ gb169)); have n6_ := xm ((by rw [hg]; exact Nat.ne_of_gt (blk_lt (kB BK168)) : gb169 ≠ gb168)); revert n0_ n1_ n2_ n3_ n4_ n5_ n6_; clear BK168 HB; intro BK168 HB BK169 GW169 GE169 NB168_169 NB169_168; clear hb hbox hg) | ((with_reducible refine gate_dst (N := 5) rfl ?_); refine box_event ?hg (N := 5) ?hd (cs := #[.slice none 0 0]) (t := 48) ?hr ?_; (case hd => rfl); (case hg => rfl); (case hr => exact zB); intro gb170 hg w5 hbox hb; have n0_ := xm (blk_below (kB BK168) hb); have n1_ := xm (blk_below (kB BK169) hb); have n2_ := xm (below_step bG hb); have n3_ := xm (hbox); have n4_ := xm ((by rw [hg]; exact (xz bG) : w.heap.size ≤ gb170)); have n5_ := xm ((by rw [hg]; exact (xz bG) : w.heap.size ≤ gb170)); have n6_ := xm ((by rw [hg]; exact Nat.ne_of_lt (blk_lt (kB BK168)) : gb168 ≠ gb170)); have n7_ := xm ((by rw [hg]; exact Nat.ne_of_gt (blk_lt (kB BK168)) : gb170 ≠ gb168)); have n8_ := xm ((by rw [hg]; exact Nat.ne_of_lt (blk_lt (kB BK169)) : gb169 ≠ gb170)); have n9_ := xm ((by rw [hg]; exact Nat.ne_of_gt (blk_lt (kB BK169)) : gb170 ≠ gb169)); revert n0_ n1_ n2_ n3_ n4_ n5_ n6_ n7_ n8_ n9_; clear BK168 BK169 HB; intro BK168 BK169 HB BK170 GW170 GE170 NB168_170 NB170_168 NB169_170 NB170_169; clear hb hbox hg; have hnb6 := NB170_168.out; have hnc6 := NB168_170.out; have hnb7 := NB170_169.out; have hnc7 := NB169_170.out; obtain ⟨hcz8_0, hfz8_0⟩ := cz1 BK170.out))
 go_loopg [11] k (fun kq v11 w' => ∃ (x11_1 : Int) (x171000_1 : List Int) (u171000 : Value), v11 = .int .i64 x11_1 ∧ Aside0 (spec_l1Pick.l0 kq l1 (l1.length : Int) x11_1 l0_0 x171000_1 = some r) ∧ Aside0 (kq ≤ k) ∧ Aside0 (Kd.R (Kd.int .i64) 3 w' w.heap.size (fun _ => True) u171000 x171000_1) ∧ Aside0 (w'.heap[gb168]? = some (.cells #[(.slice A0_0 l0_0.length c0_0)] 48 (0, 0))) ∧ Aside0 (w'.heap[gb169]? = some (.cells #[(.slice none 0 0)] 48 (0, 0))) ∧ Aside0 (w'.heap[gb170]? = some (.cells #[u171000] 48 (0, 0))) ∧ Aside0 (Below w.heap.size w w'))
 case atStart => exact ⟨(0), (([] : List Int)), (.slice none 0 0), sB, H', ⟨Nat.le_refl _⟩, ⟨by first | exact Kd.R_nil _ _ _ _ _ | exact Kd.N_nil _ _ _ _ _ | exact Kd.V_nil _ _ _ _ _ | exact Kd.Q_nil _ _ _ _ _ | exact Kd.S_nil _ _ _ _ _⟩, ⟨by (with_reducible repeat (first | refine xq ?_ _ | refine xr ?_ | refine xo ?_ _)); refine blk_far ?_ NB168_170.out _; (with_reducible repeat (first | refine xq ?_ _ | refine xr ?_ | refine xo ?_ _)); exact BK168.out⟩, ⟨by (with_reducible repeat (first | refine xq ?_ _ | refine xr ?_ | refine xo ?_ _)); refine blk_far ?_ NB169_170.out _; (with_reducible repeat (first | refine xq ?_ _ | refine xr ?_ | refine xo ?_ _)); exact BK169.out⟩, ⟨by (with_reducible repeat (first | refine xq ?_ _ | refine xr ?_ | refine xo ?_ _)); refine blk_put (cs := #[.slice none 0 0]) ?_ 0 _ rfl; (with_reducible repeat (first | refine xq ?_ _ | refine xr ?_ | refine xo ?_ _)); exact BK170.out⟩, ⟨bG⟩⟩
 case round =>
  clear H'
  try clear c1
  try clear p2
  try clear c5
  try clear c6
  try clear c7
  try clear hcz8_0 hfz8_0
  obtain ⟨x11_1, x171000_1, u171000, rfl, HA, HK1, HO_171000, BK168, BK169, BK170, HB⟩ := hrel
  cases gk with
  | zero => exact absurd HA.out (by simp [spec_l1Pick.l0])
  | succ k1 =>
   have H := HA.out
   clear HA
   simp only [spec_l1Pick.l0] at H
   by_cases c9 : x11_1 < (l1.length : Int)
   ·rw [if_pos c9] at H
    have c9b0 : decide (x11_1 < (l1.length : Int)) = true := decide_eq_true c9
    clear c9
    by_cases c10 : 0 ≤ x11_1
    ·rw [if_pos c10] at H
     have c10b0 : decide (0 ≤ x11_1) = true := decide_eq_true c10
     clear c10
     by_cases c11 : x11_1 < (l1.length : Int)
     ·rw [if_pos c11] at H
      have c11b0 : decide (x11_1 < (l1.length : Int)) = true := decide_eq_true c11
      clear c11
      by_cases c12 : 0 ≤ (rd l1 x11_1)
      ·rw [if_pos c12] at H
       have c12b0 : decide (0 ≤ (rd l1 x11_1)) = true := decide_eq_true c12
       clear c12
       by_cases c13 : (rd l1 x11_1) < (l0_0.length : Int)
       ·rw [if_pos c13] at H
        have c13b0 : decide ((rd l1 x11_1) < (l0_0.length : Int)) = true := decide_eq_true c13
        clear c13
        by_cases c14 : x171000_1.length < 17592186044416
        ·rw [if_pos c14] at H
         have LMc14 := xm c14
         clear c14
         obtain ⟨y173, hy173⟩ : ∃ y_ : List Int, y_ = (x171000_1 ++ [rd l0_0 (rd l1 x11_1)]) := ⟨_, rfl⟩
         replace H : (spec_l1Pick.l0 k1 l1 (l1.length : Int) (wrap64 (x11_1 + 1)) l0_0 y173) = some r := by first | (rw [hy173]; with_reducible exact H) | (have H2_ := (Option.bind_some _ _).symm.trans H; rw [hy173]; with_reducible exact H2_) | (have H2_ := (Option.bind_some _ _).symm.trans H; with_reducible exact H2_) | with_reducible exact H | (rw [hy173]; exact H) | exact H
         have Ny173 := xm hy173
         clear hy173
         have H' := xm H
         clear H
         have p171 : 0 ≤ (x11_1 : Int) := of_decide_eq_true aB
         have q171 : x11_1 < (l1.length : Int) := of_decide_eq_true aB
         obtain ⟨ad171, e171, hx171_0⟩ := Kd.at_int HR1.out x11_1 p171 q171
         cases e171
         replace hx171_0 := hU hx171_0
         replace p171 := eq_true p171
         replace q171 := eq_true q171
         try go_wp2
         have n0_ := xm (Kd.R_drew HO_171000.out)
         have n1_ := xm (xr BK168.out)
         have n2_ := xm (xr BK169.out)
         have n3_ := xm (xr BK170.out)
         have n4_ := xm (xd HB.out)
         revert n0_ n1_ n2_ n3_ n4_; clear HO_171000 BK168 BK169 BK170 HB; intro HO_171000 BK168 BK169 BK170 HB
         have p172 : 0 ≤ ((rd l1 x11_1) : Int) := of_decide_eq_true aB
         have q172 : (rd l1 x11_1) < (l0_0.length : Int) := of_decide_eq_true aB
         obtain ⟨ad172, e172, hx172_0⟩ := Kd.at_int HR0_0.out (rd l1 x11_1) p172 q172
         have hw172_0 := hx172_0
         cases e172
         replace hx172_0 := hU hx172_0
         replace p172 := eq_true p172
         replace q172 := eq_true q172
         refine start_ (n := 11) (S := fun w' => w'.cell? ⟨gb170, 0, none⟩ = some (u171000) ∧ w'.cell? ⟨gb168, 0, none⟩ = some (.slice (some ad172) l0_0.length c0_0) ∧ w'.cell? (ad172.add ((rd l1 x11_1)).toNat) = some (.int .i64 (rd l0_0 (rd l1 x11_1)))) (ds := [10]) #[Z,Z,Z,Z,Z,Z,Z,Z,Z,Z,Z] (by kernel_rfl) rfl rfl ⟨(xc BK170.out 0).trans rfl, (xc BK168.out 0).trans rfl, ((HB.out.cell (World.block_lt_of_cell? w _ hw172_0)).trans hw172_0)⟩ (fun hHeld => ?_); refine with_tabW spec_l1Pick.tab5 spec_l1Pick.bits5 (fun HT_ HW_ => ?_)
         generalize wr.drew = w15 at HO_171000 BK168 BK169 BK170 HB hx172_0 hHeld ⊢
         refine pu 0 11 1 ?_
         refine pu 2 11 5 ?_
         refine pu 4 11 21 ?_
         refine tx 1 11 23 rfl rfl (take_ofW HT_.out HW_.out (by kernel_rfl)) hHeld (by rintro w' ⟨s0, s1, s2⟩; go_simp; with_reducible rfl) ?_
         refine tx 3 11 31 rfl rfl (take_ofW HT_.out HW_.out (by kernel_rfl)) hHeld (by rintro w' ⟨s0, s1, s2⟩; go_simp; with_reducible rfl) ?_
         refine pu 5 11 63 ?_
         refine tx 6 11 127 rfl rfl (take_ofW HT_.out HW_.out (by kernel_rfl)) hHeld (by rintro w' ⟨s0, s1, s2⟩; go_simp; with_reducible rfl) ?_
         refine one_ (i := 7) (N := some 22) #[Y,Y,Y,Y,Y,Y,Y,Y,Z,Z,Z] rfl rfl (one_of HT_.out (by kernel_rfl)) (by decide) (fun K hK => ?_)
         refine value_ (w1 := ?_) (v := ?_) (by rfl) rfl ?_ ?_
         rotate_left 2
         ·go_simp
          constructor
          ·rfl
          ·rfl
         refine hK.out _ _ ⟨(xc (xo BK170.out _) 0).trans rfl, (xc (xo BK168.out _) 0).trans rfl, (World.cell?_alloc_lt _ _ _ (World.block_lt_of_cell? _ _ (((HB.out.cell (World.block_lt_of_cell? w _ hw172_0)).trans hw172_0)))).trans (((HB.out.cell (World.block_lt_of_cell? w _ hw172_0)).trans hw172_0))⟩ (fun hHeld => nC ?_)
         clear hK K
         refine one_ (i := 8) (N := some 23) #[Y,Y,Y,Y,Y,Y,Y,Y,Y,Z,Z] rfl rfl (one_of HT_.out (by kernel_rfl)) (by decide) (fun K hK => ?_)
         refine Kd.R_append_step (Kd.int .i64) (w0 := w) w.heap.size (by rfl) (.tmp 16) (.tmp 22) 35 3 (.int .i64 0) 8 rfl Try.underlying35 info3 rfl (by decide) (by omega) u171000 x171000_1 (rd l0_0 (rd l1 x11_1)) [.int .i64 (rd l0_0 (rd l1 x11_1))] (fun _ => True) (fun _ => False) rfl rfl ?aP (fun _ hk => hk.elim) ?aF ?aO ?aB ?aS ?aL ?_
         (case aP => exact rfl)
         (case aB => exact bG)
         (case aF => exact (fun _ _ => trivial))
         (case aO => exact (rB HO_171000))
         (case aS => exact (xz bG))
         (case aL => have := LMc14.out; omega)
         intro v174 w16 ho hb hg hat
         rw [← Ny173.out] at ho
         have n0_ := xm (blk_grown (kB BK168) hg (Kd.R_ne HO_171000.out BK168.out (by decide)))
         have n1_ := xm (blk_grown (kB BK169) hg (Kd.R_ne HO_171000.out BK169.out (by decide)))
         have n2_ := xm (blk_grown (kB BK170) hg (Kd.R_ne HO_171000.out BK170.out (by decide)))
         have n3_ := xm (hb)
         have n4_ := xm (ho)
         revert n0_ n1_ n2_ n3_ n4_; clear BK168 BK169 BK170 HB HO_171000; intro BK168 BK169 BK170 HB HO175
         clear ho hb hg hat
         obtain ⟨Ao17, co17, eo17⟩ := Kd.R_slice HO175.out
         (first | subst eo17 | (injection eo17 with f1_ f2_ f3_; have f4_ := f1_.symm; have f5_ := f3_.symm; clear f1_ f2_ f3_; subst f4_; subst f5_))
         refine hK.out _ _ ⟨(xc BK170.out 0).trans rfl, (xc BK168.out 0).trans rfl, ((HB.out.cell (World.block_lt_of_cell? w _ hw172_0)).trans hw172_0)⟩ (fun hHeld => nC ?_)
         clear hK K
         refine pu 9 11 1023 ?_
         refine last_ (i := 10) (N := none) #[Y,Y,Y,Y,Y,Y,Y,Y,Y,Y,Y] rfl rfl (one_of HT_.out (by kernel_rfl)) (by decide) (fun K hK => ?_)
         have hs18 : w16.cell? ⟨gb170, 0, none⟩ = some (u171000) := (xc BK170.out 0).trans rfl
         have hfs18 := xf BK170.out 0
         have hns18_0 := NB168_170.out
         have hns18_1 := NB169_170.out
         have hms18_0 := NB170_168.out
         have hms18_1 := NB170_169.out
         refine skip_ (w1 := ?_) (by rfl) rfl ?_ ?_
         rotate_left
         ·go_simp
          rfl
         refine hK.out _ _ ?_
         clear hK K
         refine done_ (done_of HT_.out (by kernel_rfl)) ?_
         try go_wp2
         go_roundg k1
         case measure => have := HK1.out; omega
         case rel => exact ⟨(wrap64 (x11_1 + 1)), (y173), (.slice Ao17 y173.length co17), sB, H', ⟨by have := HK1.out; omega⟩, ⟨by (with_reducible repeat (first | apply Kd.R_alloc | apply Kd.R_drewN | apply Kd.R_drew)); exact Kd.R_mono (Kd.R_far (p := ⟨gb170, 0, none⟩) (Kd.R_types HO175.out BK170.out (by decide)) (fun _ hk => hk.2) (.slice Ao17 y173.length co17)) (fun _ hk => trivial)⟩, ⟨by (with_reducible repeat (first | refine xq ?_ _ | refine xr ?_ | refine xo ?_ _)); refine blk_far ?_ NB168_170.out _; (with_reducible repeat (first | refine xq ?_ _ | refine xr ?_ | refine xo ?_ _)); exact BK168.out⟩, ⟨by (with_reducible repeat (first | refine xq ?_ _ | refine xr ?_ | refine xo ?_ _)); refine blk_far ?_ NB169_170.out _; (with_reducible repeat (first | refine xq ?_ _ | refine xr ?_ | refine xo ?_ _)); exact BK169.out⟩, ⟨by (with_reducible repeat (first | refine xq ?_ _ | refine xr ?_ | refine xo ?_ _)); refine blk_put (cs := #[u171000]) ?_ 0 _ rfl; (with_reducible repeat (first | refine xq ?_ _ | refine xr ?_ | refine xo ?_ _)); exact BK170.out⟩, ⟨bG⟩⟩
        ·rw [if_neg c14] at H
         exact absurd H (by simp)
       ·rw [if_neg c13] at H
        exact absurd H (by simp)
      ·rw [if_neg c12] at H
       exact absurd H (by simp)
     ·rw [if_neg c11] at H
      exact absurd H (by simp)
    ·rw [if_neg c10] at H
     exact absurd H (by simp)
   ·rw [if_neg c9] at H
    have c9b0 : decide (x11_1 < (l1.length : Int)) = false := decide_eq_false c9
    clear c9
    obtain rfl := Option.some.inj H
    have hnb19 := NB170_168.out
    have hnc19 := NB168_170.out
    have hnb20 := NB170_169.out
    have hnc20 := NB169_170.out
    obtain ⟨hcz21_0, hfz21_0⟩ := cz1 BK170.out
    obtain ⟨Ao22, co22, eo22⟩ := Kd.R_slice HO_171000.out
    subst eo22
    have hnb23 := NB169_168.out
    have hnc23 := NB168_169.out
    obtain ⟨hcz24_0, hfz24_0⟩ := cz1 BK169.out
    go_wp2
    refine bodyPost_ret (results_cell_row rfl _ _ gb169 48 #[.slice Ao22 x171000_1.length co22] (0, 0) _ rfl (by (with_reducible repeat (first | refine xq ?_ _ | refine xr ?_ | refine xo ?_ _)); refine blk_put (cs := #[.slice none 0 0]) ?_ 0 _ rfl; (with_reducible repeat (first | refine xq ?_ _ | refine xr ?_ | refine xo ?_ _)); exact BK169.out) Try.underlying48 rfl (by kernel_rfl)) rfl ?_
    exact ⟨_, eB, by (with_reducible repeat (first | apply Kd.R_alloc | apply Kd.R_drewN | apply Kd.R_drew)); exact Kd.R_mono (Kd.R_far (p := ⟨gb169, 0, none⟩) (Kd.R_types HO_171000.out BK169.out (by decide)) (fun _ hk => hk.2) (.slice Ao22 x171000_1.length co22)) (fun _ hk => trivial), bG⟩

/-! ### spec_l2OwnRow: function 60 -/
def spec_l2OwnRow.f (l0_0 : List Int) : Option (List Int) := (some (([] : List Int) : List Int)).bind fun y178 => (if y178.length + l0_0.length < 17592186044416 then (some (y178 ++ l0_0)) else (none))
set_option maxHeartbeats 8000000 in
set_option maxRecDepth 100000 in
theorem spec_l2OwnRow.calls (A0_0 : Option Addr) (c0_0 : Nat) (l0_0 : List Int) (r : List Int) (w : World) (hr0_0 : Kd.C (Kd.int .i64) w A0_0 l0_0.length l0_0) (hc0_0 : l0_0.length ≤ c0_0) (h : spec_l2OwnRow.f l0_0 = some r) :
  Calls Try.prog 60 #[.agg #[.slice A0_0 l0_0.length c0_0]] w fun e w' => ∃ v0_ : Value, e = .returned (.agg #[v0_]) ∧ Kd.R (Kd.int .i64) 3 w' w.heap.size (fun _ => True) v0_ r ∧ Below w.heap.size w w' := by
 have hu48 := Try.underlying48
 have HR0_0 := xm hr0_0
 have HC0_0 := xm hc0_0
 clear hr0_0 hc0_0
 have HB := xm (Below.refl w.heap.size w)
 have H : ((some (([] : List Int) : List Int)).bind fun y178 => (if y178.length + l0_0.length < 17592186044416 then (some (y178 ++ l0_0)) else (none))) = some r := h
 clear h
 obtain ⟨y178, hy178⟩ : ∃ y_ : List Int, y_ = (([] : List Int)) := ⟨_, rfl⟩
 replace H : (if y178.length + l0_0.length < 17592186044416 then (some (y178 ++ l0_0)) else (none)) = some r := by first | (rw [hy178]; with_reducible exact H) | (have H2_ := (Option.bind_some _ _).symm.trans H; rw [hy178]; with_reducible exact H2_) | (have H2_ := (Option.bind_some _ _).symm.trans H; with_reducible exact H2_) | with_reducible exact H | (rw [hy178]; exact H) | exact H
 have Ny178 := xm hy178
 clear hy178
 by_cases c2 : y178.length + l0_0.length < 17592186044416
 ·rw [if_pos c2] at H
  have LMc2 := xm c2
  clear c2
  obtain ⟨y181, hy181⟩ : ∃ y_ : List Int, y_ = (y178 ++ l0_0) := ⟨_, rfl⟩
  replace H : (some y181) = some r := by first | (rw [hy181]; with_reducible exact H) | (have H2_ := (Option.bind_some _ _).symm.trans H; rw [hy181]; with_reducible exact H2_) | (have H2_ := (Option.bind_some _ _).symm.trans H; with_reducible exact H2_) | with_reducible exact H | (rw [hy181]; exact H) | exact H
  have Ny181 := xm hy181
  clear hy181
  obtain rfl := Option.some.inj H
  go_enter Try.func60, Try.ntmps60
  go_wp2_with (first | ((with_reducible refine gate_dst (N := 1) rfl ?_); refine box_event ?hg (N := 1) ?hd (cs := #[.slice A0_0 l0_0.length c0_0]) (t := 48) ?hr ?_; (case hd => rfl); (case hg => rfl); (case hr => exact zB); intro gb176 hg w3 hbox hb; have n0_ := xm (below_step bB hb); have n1_ := xm (hbox); have n2_ := xm ((by rw [hg]; exact (xz bB) : w.heap.size ≤ gb176)); have n3_ := xm ((by rw [hg]; exact (xz bB) : w.heap.size ≤ gb176)); revert n0_ n1_ n2_ n3_; clear HB; intro HB BK176 GW176 GE176; clear hb hbox hg) | ((with_reducible refine gate_dst (N := 2) rfl ?_); refine box_event ?hg (N := 2) ?hd (cs := #[.slice none 0 0]) (t := 48) ?hr ?_; (case hd => rfl); (case hg => rfl); (case hr => exact zB); intro gb177 hg w4 hbox hb; have n0_ := xm (blk_below (kB BK176) hb); have n1_ := xm (below_step bG hb); have n2_ := xm (hbox); have n3_ := xm ((by rw [hg]; exact (xz bG) : w.heap.size ≤ gb177)); have n4_ := xm ((by rw [hg]; exact (xz bG) : w.heap.size ≤ gb177)); have n5_ := xm ((by rw [hg]; exact Nat.ne_of_lt (blk_lt (kB BK176)) : gb176 ≠ gb177)); have n6_ := xm ((by rw [hg]; exact Nat.ne_of_gt (blk_lt (kB BK176)) : gb177 ≠ gb176)); revert n0_ n1_ n2_ n3_ n4_ n5_ n6_; clear BK176 HB; intro BK176 HB BK177 GW177 GE177 NB176_177 NB177_176; clear hb hbox hg) | ((with_reducible refine gate_dst (N := 3) rfl ?_); refine Kd.R_lit (Kd.int .i64) _ 3 ?hg (N := 3) ?hd (xs := ([] : List Int)) (inner := []) (ok := fun _ => True) (okp := fun _ => True) ?hr ?hp (fun _ hk => hk) trivial (Below.refl _ _) (Nat.le_refl _) (by simp) ?_; (case hd => rfl); (case hg => rfl); (case hr => exact zB); (case hp => exact (Reps.none _ _)); intro v179 w5 ho6 hb hg_ hnew_; clear hg_ hnew_; (first | rw [← Ny178.out] at ho6 | (simp only [Int.reduceToNat] at ho6; rw [← Ny178.out] at ho6)); have n0_ := xm (Kd.R_lower ho6 (xz bG)); have n1_ := xm (blk_below (kB BK176) hb); have n2_ := xm (blk_below (kB BK177) hb); have n3_ := xm (below_step bG hb); revert n0_ n1_ n2_ n3_; clear BK176 BK177 HB; intro HO180 BK176 BK177 HB; clear hb ho6; have hnb7 := NB176_177.out; have hnc7 := NB177_176.out; obtain ⟨hcz8_0, hfz8_0⟩ := cz1 BK176.out) | ((with_reducible refine gate_builtin (b := .append) (xs := #[.tmp 3, .tmp 5]) rfl ?_); at_builtin; refine Kd.R_append_rows (Kd.int .i64) (w0 := w) w.heap.size rfl (.tmp 3) (.tmp 5) 35 3 (.int .i64 0) 8 rfl Try.underlying35 info3 rfl (by decide) (by omega) v179 y178 l0_0 _ _ _ (fun _ => True) (fun _ => False) rfl rfl ?aO ?aR (fun _ _ h => h) (fun _ h => h.elim) ?aF ?aB ?aS ?aL ?_; (case aR => exact cB (Kd.C_below HR0_0.out HB.out)); (case aB => exact bG); (case aF => exact (fun _ _ => trivial)); (case aO => exact (rB HO180)); (case aS => exact (xz bG)); (case aL => have := LMc2.out; omega); intro v182 w9 ho hb hg hat; rw [← Ny181.out] at ho; have n0_ := xm (blk_grown (kB BK176) hg (Kd.R_ne HO180.out BK176.out (by decide))); have n1_ := xm (blk_grown (kB BK177) hg (Kd.R_ne HO180.out BK177.out (by decide))); have n2_ := xm (hb); have n3_ := xm (ho); revert n0_ n1_ n2_ n3_; clear BK176 BK177 HB HO180; intro BK176 BK177 HB HO183; clear ho hb hg hat; obtain ⟨Ao10, co10, eo10⟩ := Kd.R_slice HO183.out; subst eo10; obtain ⟨hcz11_0, hfz11_0⟩ := cz1 BK177.out))
  refine bodyPost_ret (results_cell_row rfl _ _ gb177 48 #[.slice Ao10 y181.length co10] (0, 0) _ rfl (by (with_reducible repeat (first | refine xq ?_ _ | refine xr ?_ | refine xo ?_ _)); refine blk_put (cs := #[.slice none 0 0]) ?_ 0 _ rfl; (with_reducible repeat (first | refine xq ?_ _ | refine xr ?_ | refine xo ?_ _)); exact BK177.out) Try.underlying48 rfl (by kernel_rfl)) rfl ?_
  exact ⟨_, eB, by (with_reducible repeat (first | apply Kd.R_alloc | apply Kd.R_drewN | apply Kd.R_drew)); exact Kd.R_mono (Kd.R_far (p := ⟨gb177, 0, none⟩) (Kd.R_types HO183.out BK177.out (by decide)) (fun _ hk => hk.2) (.slice Ao10 y181.length co10)) (fun _ hk => trivial), bG⟩
 ·rw [if_neg c2] at H
  exact absurd H (by simp)

end Go.Proofs.Ytmelechhnimlnad.G
