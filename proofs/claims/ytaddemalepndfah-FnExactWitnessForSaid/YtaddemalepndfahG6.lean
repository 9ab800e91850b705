/- Written by a program of this claim's own, out of the translation: functions of the program as plain functions, and that the calls answer as these. No conditions. -/
import Derived.Test.YtaddemalepndfahG0
import Derived.Test.YtaddemalepndfahG3
import Derived.Test.YtaddemalepndfahG5
namespace Go.Proofs.Ytaddemalepndfah.G
open Go.RowKit Go.Proofs.Ytaddemalepndfah.X Go.Proofs.YtaddemalepndfahW.PrintWords Go.Proofs.YtaddemalepndfahW.PrintLast Go.Proofs.YtaddemalepndfahW.PrintMore
attribute [local go_sem] max2_int min2_int max_two min_two max_three min_three max_four min_four   -- for this text's walks alone
set_option linter.unusedVariables false
set_option linter.unusedSimpArgs false

/-! ### spec_l2Tell: function 21 -/
def spec_l2Tell.l0 : Nat → List (S53) → Int → Int → Int → List (S53) → Option (Int × (List (S53)) × Bool)
 | 0, _, _, _, _, _ => none
 | k + 1, x11, x12, x13, x204000, x204001 => if x13 < x12 then (if 0 ≤ x13 then (if x13 < (x11.length : Int) then ((spec_l2OwnRow.f ((rd_T53 x11 x13).f0.f0)).bind fun t206 => (if x204001.length < 4398046511104 then (spec_l2Tell.l0 k x11 x12 (wrap64 (x13 + 1)) x204000 (x204001 ++ [(⟨(⟨t206⟩ : S49), (rd_T53 x11 x13).f1⟩ : S53)])) else (none))) else (none)) else (none)) else ((spec_GoodTable.f k x204000 x204001).bind fun t212 => (if t212 = true then (some (x204000, x204001, true)) else (some (0, ([] : List (S53)), false))))
def spec_l2Tell.f (k : Nat) (a0 : Int) (l1 : List (S53)) : Option (Int × (List (S53)) × Bool) := spec_l2Tell.l0 k l1 (l1.length : Int) 0 a0 ([] : List (S53))
theorem spec_l2Tell.mono_l : ∀ k, (∀ y0 y1 y2 y3 y4, LeO (spec_l2Tell.l0 k y0 y1 y2 y3 y4) (spec_l2Tell.l0 (k + 1) y0 y1 y2 y3 y4))
 | 0 => fun _ _ _ _ _ r h => by simp [spec_l2Tell.l0] at h
 | k + 1 => by
  have ih0 := spec_l2Tell.mono_l k
  ·intro y0 y1 y2 y3 y4
   unfold spec_l2Tell.l0
   repeat' first
   | (with_reducible exact ih0 _ _ _ _ _)
   | (with_reducible exact spec_GoodTable.mono _ _ _)
   | (with_reducible exact LeO.refl _)
   | (with_reducible exact LeO.none _)
   | (with_reducible refine LeO.ite ?_ ?_)
   | (with_reducible refine LeO.bind ?_ (fun _ => ?_))
   | exact ih0 _ _ _ _ _
   | exact spec_GoodTable.mono _ _ _
   | exact LeO.none _
   | refine LeO.ite ?_ ?_
   | refine LeO.bind ?_ (fun _ => ?_)
theorem spec_l2Tell.mono : ∀ a0 a1 k, LeO (spec_l2Tell.f k a0 a1) (spec_l2Tell.f (k + 1) a0 a1) := by
 intro a0 a1 k
 have ih0 := spec_l2Tell.mono_l k
 unfold spec_l2Tell.f
 repeat' first
   | (with_reducible exact ih0 _ _ _ _ _)
   | (with_reducible exact spec_GoodTable.mono _ _ _)
   | (with_reducible exact LeO.refl _)
   | (with_reducible exact LeO.none _)
   | (with_reducible refine LeO.ite ?_ ?_)
   | (with_reducible refine LeO.bind ?_ (fun _ => ?_))
   | exact ih0 _ _ _ _ _
   | exact spec_GoodTable.mono _ _ _
   | exact LeO.none _
   | refine LeO.ite ?_ ?_
   | refine LeO.bind ?_ (fun _ => ?_)
def spec_l2Tell.T5 : Bool × List (List Nat × List Nat) := (true, [([], []), ([0], [0]), ([], []), ([2], [2]), ([3], [3]), ([], []), ([5], [5]), ([4, 6], [4, 6]), ([7], [7]), ([1, 8, 4], [1, 8]), ([0, 1, 2, 3, 4, 5, 6, 7, 8, 9], []), ([10, 9, 9, 0, 1, 2, 3, 4, 5, 6, 7, 8, 9], [9, 10])])
def spec_l2Tell.B5 : List Nat := [0, 1, 0, 4, 12, 0, 32, 124, 252, 511, 1023, 2047]
theorem spec_l2Tell.tab5 : rtab .any (opsOf Try.f21 5) = spec_l2Tell.T5 := by kernel_rfl
theorem spec_l2Tell.bits5 : waitsOk spec_l2Tell.T5.2 spec_l2Tell.B5 = true := by kernel_rfl
set_option maxHeartbeats 8000000 in
set_option maxRecDepth 100000 in
theorem spec_l2Tell.calls (k : Nat) (a0 : Int) (A1 : Option Addr) (c1 : Nat) (l1 : List (S53)) (r1 : Int) (r2 : List (S53)) (r3 : Bool) (w : World) (hr1 : Kd.C k53 w A1 l1.length l1) (hc1 : l1.length ≤ c1) (h : spec_l2Tell.f k a0 l1 = some (r1, r2, r3)) :
  Calls Try.prog 21 #[.int .i64 a0, .slice A1 l1.length c1] w fun e w' => ∃ v1_ : Value, e = .returned (.tuple #[.agg #[.int .i64 r1, v1_], .bool r3]) ∧ Kd.S k53 53 w' w.heap.size (fun _ => True) v1_ r2 ∧ Below w.heap.size w w' := by
 have hu30 := Try.underlying30
 have hu53 := Try.underlying53
 have hu49 := Try.underlying49
 have HR1 := xm hr1
 have HC1 := xm hc1
 clear hr1 hc1
 have HB := xm (Below.refl w.heap.size w)
 have H : (spec_l2Tell.l0 k l1 (l1.length : Int) 0 a0 ([] : List (S53))) = some (r1, r2, r3) := h
 clear h
 have H' := xm H
 clear H
 go_enter Try.func21, Try.ntmps21
 go_wp2_with (first | ((with_reducible refine gate_dst (N := 4) rfl ?_); refine box_event ?hg (N := 4) ?hd (cs := #[.int .i64 0, .slice none 0 0]) (t := 30) ?hr ?_; (case hd => rfl); (case hg => rfl); (case hr => exact zB); intro gb202 hg w3 hbox hb; have n0_ := xm (below_step bB hb); have n1_ := xm (hbox); have n2_ := xm ((by rw [hg]; exact (xz bB) : w.heap.size ≤ gb202)); have n3_ := xm ((by rw [hg]; exact (xz bB) : w.heap.size ≤ gb202)); revert n0_ n1_ n2_ n3_; clear HB; intro HB BK202 GW202 GE202; clear hb hbox hg) | ((with_reducible refine gate_dst (N := 6) rfl ?_); refine box_event ?hg (N := 6) ?hd (cs := #[.int .i64 0, .slice none 0 0]) (t := 30) ?hr ?_; (case hd => rfl); (case hg => rfl); (case hr => exact zB); intro gb203 hg w4 hbox hb; have n0_ := xm (blk_below (kB BK202) hb); have n1_ := xm (below_step bG hb); have n2_ := xm (hbox); have n3_ := xm ((by rw [hg]; exact (xz bG) : w.heap.size ≤ gb203)); have n4_ := xm ((by rw [hg]; exact (xz bG) : w.heap.size ≤ gb203)); have n5_ := xm ((by rw [hg]; exact Nat.ne_of_lt (blk_lt (kB BK202)) : gb202 ≠ gb203)); have n6_ := xm ((by rw [hg]; exact Nat.ne_of_gt (blk_lt (kB BK202)) : gb203 ≠ gb202)); revert n0_ n1_ n2_ n3_ n4_ n5_ n6_; clear BK202 HB; intro BK202 HB BK203 GW203 GE203 NB202_203 NB203_202; clear hb hbox hg; have hnb5 := NB203_202.out; have hnc5 := NB202_203.out; obtain ⟨hcz6_0, hcz6_1, hfz6_0, hfz6_1⟩ := cz2 BK203.out))
 go_loopg [13] k (fun kq v13 w' => ∃ (x13_1 : Int) (x204001_1 : List (S53)) (u204001 : Value), v13 = .int .i64 x13_1 ∧ Aside0 (spec_l2Tell.l0 kq l1 (l1.length : Int) x13_1 a0 x204001_1 = some (r1, r2, r3)) ∧ Aside0 (kq ≤ k) ∧ Aside0 (Kd.S k53 53 w' w.heap.size (fun _ => True) u204001 x204001_1) ∧ Aside0 (w'.heap[gb202]? = some (.cells #[.int .i64 0, (.slice none 0 0)] 30 (0, 0))) ∧ Aside0 (w'.heap[gb203]? = some (.cells #[.int .i64 a0, u204001] 30 (0, 0))) ∧ Aside0 (Below w.heap.size w w'))
 case atStart => exact ⟨(0), (([] : List (S53))), (.slice none 0 0), sB, H', ⟨Nat.le_refl _⟩, ⟨by first | exact Kd.S_nil _ _ _ _ _ | exact Kd.N_nil _ _ _ _ _ | exact Kd.V_nil _ _ _ _ _ | exact Kd.Q_nil _ _ _ _ _ | exact Kd.R_nil _ _ _ _ _⟩, ⟨by (with_reducible repeat (first | refine xq ?_ _ | refine xr ?_ | refine xo ?_ _)); refine blk_far ?_ NB202_203.out _; (with_reducible repeat (first | refine xq ?_ _ | refine xr ?_ | refine xo ?_ _)); refine blk_far ?_ NB202_203.out _; (with_reducible repeat (first | refine xq ?_ _ | refine xr ?_ | refine xo ?_ _)); exact BK202.out⟩, ⟨by (with_reducible repeat (first | refine xq ?_ _ | refine xr ?_ | refine xo ?_ _)); refine blk_put (cs := #[.int .i64 a0, .slice none 0 0]) ?_ 1 _ rfl; (with_reducible repeat (first | refine xq ?_ _ | refine xr ?_ | refine xo ?_ _)); refine blk_put (cs := #[.int .i64 0, .slice none 0 0]) ?_ 0 _ rfl; (with_reducible repeat (first | refine xq ?_ _ | refine xr ?_ | refine xo ?_ _)); exact BK203.out⟩, ⟨bG⟩⟩
 case round =>
  clear H'
  try clear c1
  try clear c2
  try clear p2
  try clear c5
  try clear hcz6_0 hcz6_1 hfz6_0 hfz6_1
  obtain ⟨x13_1, x204001_1, u204001, rfl, HA, HK1, HO_204001, BK202, BK203, HB⟩ := hrel
  cases gk with
  | zero => exact absurd HA.out (by simp [spec_l2Tell.l0])
  | succ k1 =>
   have H := HA.out
   clear HA
   simp only [spec_l2Tell.l0] at H
   by_cases c7 : x13_1 < (l1.length : Int)
   ·rw [if_pos c7] at H
    have c7b0 : decide (x13_1 < (l1.length : Int)) = true := decide_eq_true c7
    clear c7
    by_cases c8 : 0 ≤ x13_1
    ·rw [if_pos c8] at H
     have c8b0 : decide (0 ≤ x13_1) = true := decide_eq_true c8
     clear c8
     by_cases c9 : x13_1 < (l1.length : Int)
     ·rw [if_pos c9] at H
      have c9b0 : decide (x13_1 < (l1.length : Int)) = true := decide_eq_true c9
      clear c9
      replace H := Option.bind_eq_some_iff.mp H
      obtain ⟨t206, A100, H⟩ := H
      replace H : (if x204001_1.length < 4398046511104 then (spec_l2Tell.l0 k1 l1 (l1.length : Int) (wrap64 (x13_1 + 1)) a0 (x204001_1 ++ [(⟨(⟨t206⟩ : S49), (rd_T53 l1 x13_1).f1⟩ : S53)])) else (none)) = some (r1, r2, r3) := H
      have A10 := xm A100
      clear A100
      by_cases c11 : x204001_1.length < 4398046511104
      ·rw [if_pos c11] at H
       have LMc11 := xm c11
       clear c11
       obtain ⟨y209, hy209⟩ : ∃ y_ : List (S53), y_ = (x204001_1 ++ [(⟨(⟨t206⟩ : S49), (rd_T53 l1 x13_1).f1⟩ : S53)]) := ⟨_, rfl⟩
       replace H : (spec_l2Tell.l0 k1 l1 (l1.length : Int) (wrap64 (x13_1 + 1)) a0 y209) = some (r1, r2, r3) := by first | (rw [hy209]; with_reducible exact H) | (have H2_ := (Option.bind_some _ _).symm.trans H; rw [hy209]; with_reducible exact H2_) | (have H2_ := (Option.bind_some _ _).symm.trans H; with_reducible exact H2_) | with_reducible exact H | (rw [hy209]; exact H) | exact H
       have Ny209 := xm hy209
       clear hy209
       have H' := xm H
       clear H
       have p204 : 0 ≤ (x13_1 : Int) := of_decide_eq_true aB
       have q204 : x13_1 < (l1.length : Int) := of_decide_eq_true aB
       obtain ⟨ad204, A204_0, c204_0, e204, hx204_0, hx204_1, hl204_0, hi204_0⟩ := at_T53 HR1.out x13_1 p204 q204
       cases e204
       replace hx204_0 := hU hx204_0
       replace hx204_1 := hU hx204_1
       have HR204_0 := xm hi204_0
       have HC204_0 := xm hl204_0
       clear hi204_0 hl204_0
       replace p204 := eq_true p204
       replace q204 := eq_true q204
       try go_wp2_with (first | ((with_reducible refine gate_dst (N := 8) rfl ?_); refine box_event ?hg (N := 8) ?hd (cs := #[.slice none 0 0, .int .i64 0]) (t := 53) ?hr ?_; (case hd => rfl); (case hg => rfl); (case hr => exact zB); intro gb205 hg w12 hbox hb; have n0_ := xm (Kd.S_below (Kd.S_elderB (tB HO_204001) gb205 (Nat.le_of_eq hg.symm)) hb); have n1_ := xm (blk_below (kB BK202) hb); have n2_ := xm (blk_below (kB BK203) hb); have n3_ := xm (below_step bG hb); have n4_ := xm (hbox); have n5_ := xm ((by rw [hg]; exact (xz bG) : w.heap.size ≤ gb205)); have n6_ := xm ((by rw [hg]; exact (xz bG) : w.heap.size ≤ gb205)); have n7_ := xm ((by rw [hg]; exact Nat.ne_of_lt (blk_lt (kB BK202)) : gb202 ≠ gb205)); have n8_ := xm ((by rw [hg]; exact Nat.ne_of_gt (blk_lt (kB BK202)) : gb205 ≠ gb202)); have n9_ := xm ((by rw [hg]; exact Nat.ne_of_lt (blk_lt (kB BK203)) : gb203 ≠ gb205)); have n10_ := xm ((by rw [hg]; exact Nat.ne_of_gt (blk_lt (kB BK203)) : gb205 ≠ gb203)); revert n0_ n1_ n2_ n3_ n4_ n5_ n6_ n7_ n8_ n9_ n10_; clear HO_204001 BK202 BK203 HB; intro HO_204001 BK202 BK203 HB BK205 GW205 GE205 NB202_205 NB205_202 NB203_205 NB205_203; clear hb hbox hg; have hnb13 := NB205_202.out; have hnc13 := NB202_205.out; have hnb14 := NB205_203.out; have hnc14 := NB203_205.out; obtain ⟨hcz15_0, hcz15_1, hfz15_0, hfz15_1⟩ := cz2 BK205.out))
       have n0_ : Aside0 (Kd.S k53 53 ((w12.setCell ⟨gb205, 0, none⟩ (.slice A204_0 ((rd_T53 l1 x13_1).f0.f0).length c204_0)).setCell ⟨gb205, 1, none⟩ (.int .i64 ((rd_T53 l1 x13_1).f1))) w.heap.size (fun k_ => k_ ≠ gb205) u204001 x204001_1) := ⟨by (with_reducible repeat (first | apply Kd.S_alloc | apply Kd.S_drewN | apply Kd.S_drew)); exact Kd.S_mono (Kd.S_far (p := ⟨gb205, 1, none⟩) (Kd.S_far (p := ⟨gb205, 0, none⟩) (Kd.S_mono HO_204001.out (fun k_ hk => (⟨hk, hk.2⟩ : _ ∧ k_ ≠ gb205))) (fun _ hk => hk.2) (.slice A204_0 ((rd_T53 l1 x13_1).f0.f0).length c204_0)) (fun _ hk => hk.2) (.int .i64 ((rd_T53 l1 x13_1).f1))) (fun _ hk => hk.1.2)⟩
       have n1_ : Aside0 (((w12.setCell ⟨gb205, 0, none⟩ (.slice A204_0 ((rd_T53 l1 x13_1).f0.f0).length c204_0)).setCell ⟨gb205, 1, none⟩ (.int .i64 ((rd_T53 l1 x13_1).f1))).heap[gb202]? = some (.cells #[.int .i64 0, .slice none 0 0] 30 (0, 0))) := ⟨by (with_reducible repeat (first | refine xq ?_ _ | refine xr ?_ | refine xo ?_ _)); refine blk_far ?_ NB202_205.out _; (with_reducible repeat (first | refine xq ?_ _ | refine xr ?_ | refine xo ?_ _)); refine blk_far ?_ NB202_205.out _; (with_reducible repeat (first | refine xq ?_ _ | refine xr ?_ | refine xo ?_ _)); exact BK202.out⟩
       have n2_ : Aside0 (((w12.setCell ⟨gb205, 0, none⟩ (.slice A204_0 ((rd_T53 l1 x13_1).f0.f0).length c204_0)).setCell ⟨gb205, 1, none⟩ (.int .i64 ((rd_T53 l1 x13_1).f1))).heap[gb203]? = some (.cells #[.int .i64 a0, u204001] 30 (0, 0))) := ⟨by (with_reducible repeat (first | refine xq ?_ _ | refine xr ?_ | refine xo ?_ _)); refine blk_far ?_ NB203_205.out _; (with_reducible repeat (first | refine xq ?_ _ | refine xr ?_ | refine xo ?_ _)); refine blk_far ?_ NB203_205.out _; (with_reducible repeat (first | refine xq ?_ _ | refine xr ?_ | refine xo ?_ _)); exact BK203.out⟩
       have n3_ : Aside0 (((w12.setCell ⟨gb205, 0, none⟩ (.slice A204_0 ((rd_T53 l1 x13_1).f0.f0).length c204_0)).setCell ⟨gb205, 1, none⟩ (.int .i64 ((rd_T53 l1 x13_1).f1))).heap[gb205]? = some (.cells #[.slice A204_0 ((rd_T53 l1 x13_1).f0.f0).length c204_0, .int .i64 ((rd_T53 l1 x13_1).f1)] 53 (0, 0))) := ⟨by (with_reducible repeat (first | refine xq ?_ _ | refine xr ?_ | refine xo ?_ _)); refine blk_put (cs := #[.slice A204_0 ((rd_T53 l1 x13_1).f0.f0).length c204_0, .int .i64 0]) ?_ 1 _ rfl; (with_reducible repeat (first | refine xq ?_ _ | refine xr ?_ | refine xo ?_ _)); refine blk_put (cs := #[.slice none 0 0, .int .i64 0]) ?_ 0 _ rfl; (with_reducible repeat (first | refine xq ?_ _ | refine xr ?_ | refine xo ?_ _)); exact BK205.out⟩
       have n4_ : Aside0 (Below w.heap.size w ((w12.setCell ⟨gb205, 0, none⟩ (.slice A204_0 ((rd_T53 l1 x13_1).f0.f0).length c204_0)).setCell ⟨gb205, 1, none⟩ (.int .i64 ((rd_T53 l1 x13_1).f1)))) := ⟨bG⟩
       (try clear HO_204001)
       (try clear BK202)
       (try clear BK203)
       (try clear BK205)
       (try clear HB)
       generalize ((w12.setCell ⟨gb205, 0, none⟩ (.slice A204_0 ((rd_T53 l1 x13_1).f0.f0).length c204_0)).setCell ⟨gb205, 1, none⟩ (.int .i64 ((rd_T53 l1 x13_1).f1))) = w16 at n0_ n1_ n2_ n3_ n4_ ⊢
       revert n0_ n1_ n2_ n3_ n4_; intro HO_204001 BK202 BK203 BK205 HB
       have n0_ := xm (Kd.S_drew HO_204001.out)
       have n1_ := xm (xr BK202.out)
       have n2_ := xm (xr BK203.out)
       have n3_ := xm (xr BK205.out)
       have n4_ := xm (xd HB.out)
       revert n0_ n1_ n2_ n3_ n4_; clear HO_204001 BK202 BK203 BK205 HB; intro HO_204001 BK202 BK203 BK205 HB
       refine start_ (n := 12) (S := fun w' => w'.cell? ⟨gb203, 0, none⟩ = some (.int .i64 a0) ∧ w'.cell? ⟨gb203, 1, none⟩ = some (u204001) ∧ w'.cell? ⟨gb205, 0, none⟩ = some (.slice A204_0 ((rd_T53 l1 x13_1).f0.f0).length c204_0) ∧ w'.cell? ⟨gb205, 1, none⟩ = some (.int .i64 ((rd_T53 l1 x13_1).f1))) (ds := [11]) #[Z,Z,Z,Z,Z,Z,Z,Z,Z,Z,Z,Z] (by kernel_rfl) rfl rfl ⟨(xc BK203.out 0).trans rfl, (xc BK203.out 1).trans rfl, (xc BK205.out 0).trans rfl, (xc BK205.out 1).trans rfl⟩ (fun hHeld => ?_); refine with_tabW spec_l2Tell.tab5 spec_l2Tell.bits5 (fun HT_ HW_ => ?_)
       generalize w16.drew = w17 at HO_204001 BK202 BK203 BK205 HB hHeld ⊢
       refine pu 0 12 1 ?_
       refine pu 2 12 5 ?_
       refine pu 5 12 37 ?_
       refine tx 1 12 39 rfl rfl (take_ofW HT_.out HW_.out (by kernel_rfl)) hHeld (by rintro w' ⟨s0, s1, s2, s3⟩; go_simp; with_reducible rfl) ?_
       refine tx 3 12 47 rfl rfl (take_ofW HT_.out HW_.out (by kernel_rfl)) hHeld (by rintro w' ⟨s0, s1, s2, s3⟩; go_simp; with_reducible rfl) ?_
       refine tx 6 12 111 rfl rfl (take_ofW HT_.out HW_.out (by kernel_rfl)) hHeld (by rintro w' ⟨s0, s1, s2, s3⟩; go_simp; with_reducible rfl) ?_
       refine one_ (i := 4) (N := some 21) #[Y,Y,Y,Y,Y,Y,Y,Z,Z,Z,Z,Z] rfl rfl (one_of HT_.out (by kernel_rfl)) (by decide) (fun K hK => ?_)
       refine goes_ Try.func38 (by kernel_rfl) rfl #[.agg #[.slice A204_0 ((rd_T53 l1 x13_1).f0.f0).length c204_0]] (by rfl) rfl rfl mB ?_
       with_reducible refine (spec_l2OwnRow.calls _ _ ((rd_T53 l1 x13_1).f0.f0) t206 _ ?side1 ?side2 A10.out).mono ?_
       (case side1 => exact cB (Kd.C_below HR204_0.out HB.out))
       (case side2 => exact HC204_0.out)
       rintro e w18 ⟨v207, rfl, ho0, hb⟩
       refine ⟨_, rfl, ?_⟩
       have n0_ := xm (Kd.S_elder' (tB HO_204001) (Kd.R_base ho0) hb)
       have n1_ := xm (Kd.R_lower ho0 (xz bG))
       have n2_ := xm (blk_below (kB BK202) hb)
       have n3_ := xm (blk_below (kB BK203) hb)
       have n4_ := xm (blk_below (kB BK205) hb)
       have n5_ := xm (below_step bG hb)
       revert n0_ n1_ n2_ n3_ n4_ n5_; clear HO_204001 BK202 BK203 BK205 HB; intro HO_204001 HO208 BK202 BK203 BK205 HB
       (try clear hb)
       (try clear hb2)
       (try clear hk)
       (try clear hi)
       (try clear ho0)
       obtain ⟨Ao19, co19, eo19⟩ := Kd.R_slice HO208.out
       (first | subst eo19 | (injection eo19 with f1_ f2_ f3_; have f4_ := f1_.symm; have f5_ := f3_.symm; clear f1_ f2_ f3_; subst f4_; subst f5_))
       refine hK.out _ _ ⟨(xc BK203.out 0).trans rfl, (xc BK203.out 1).trans rfl, (xc BK205.out 0).trans rfl, (xc BK205.out 1).trans rfl⟩ (fun hHeld => nC ?_)
       clear hK K
       refine pu 7 12 255 ?_
       refine one_ (i := 8) (N := some 25) #[Y,Y,Y,Y,Y,Y,Y,Y,Y,Z,Z,Z] rfl rfl (one_of HT_.out (by kernel_rfl)) (by decide) (fun K hK => ?_)
       refine value_ (w1 := ?_) (v := ?_) (by rfl) rfl ?_ ?_
       rotate_left 2
       ·go_simp
        constructor
        ·rfl
        ·rfl
       refine hK.out _ _ ⟨(xc (xo BK203.out _) 0).trans rfl, (xc (xo BK203.out _) 1).trans rfl, (xc (xo BK205.out _) 0).trans rfl, (xc (xo BK205.out _) 1).trans rfl⟩ (fun hHeld => nC ?_)
       clear hK K
       refine one_ (i := 9) (N := some 26) #[Y,Y,Y,Y,Y,Y,Y,Y,Y,Y,Z,Z] rfl rfl (one_of HT_.out (by kernel_rfl)) (by decide) (fun K hK => ?_)
       refine Kd.S_append_step k53 (w0 := w) w.heap.size (by rfl) (.tmp 18) (.tmp 25) 28 53 (.agg #[(.slice none 0 0), (.int .i64 0)]) 32 rfl Try.underlying28 info53 rfl (by decide) (by omega) u204001 x204001_1 (⟨(⟨t206⟩ : S49), (rd_T53 l1 x13_1).f1⟩ : S53) [.slice Ao19 t206.length co19, .int .i64 ((rd_T53 l1 x13_1).f1)] (fun k_ => k_ ≠ gb205) (fun k_ => some k_ = (.slice Ao19 t206.length co19 : Value).ownBlock) rfl rfl ?aP (fun k_ hk_ => ((Kd.R_mono (ok' := fun k_ => ((fun k_ => k_ ≠ gb205)) k_ ∧ some k_ ≠ (u204001 : Value).ownBlock) (Kd.R_types (Kd.R_apart' (HO208.out) (Kd.S_typed HO_204001.out) (by decide)) BK205.out (by decide)) (fun k_ hk => ⟨hk.2, hk.1.2⟩))).1 k_ hk_.symm) ?aF ?aO ?aB ?aS ?aL ?_
       (case aP => exact k53_mkM _ _ _ (⟨(⟨t206⟩ : S49), (rd_T53 l1 x13_1).f1⟩ : S53) (Kd.R_mono (Kd.R_tight rfl (Kd.R_mono (ok' := fun k_ => ((fun k_ => k_ ≠ gb205)) k_ ∧ some k_ ≠ (u204001 : Value).ownBlock) (Kd.R_types (Kd.R_apart' (HO208.out) (Kd.S_typed HO_204001.out) (by decide)) BK205.out (by decide)) (fun k_ hk => ⟨hk.2, hk.1.2⟩))) (fun _ h_ => h_)))
       (case aB => exact bG)
       (case aF => exact (fun k_ hk => Kd.freshB (kB BK205) k_ hk))
       (case aO => exact (by (with_reducible repeat (first | apply Kd.S_alloc | apply Kd.S_drewN | apply Kd.S_drew)); exact Kd.S_mono HO_204001.out (fun k_ hk => ⟨hk.1, fun e_ => hk.2 e_⟩)))
       (case aS => exact (xz bG))
       (case aL => have := LMc11.out; omega)
       intro v210 w20 ho hb hg hat
       rw [← Ny209.out] at ho
       have n0_ := xm (blk_grown (kB BK202) hg (Kd.S_ne HO_204001.out BK202.out (by decide)))
       have n1_ := xm (blk_grown (kB BK203) hg (Kd.S_ne HO_204001.out BK203.out (by decide)))
       have n2_ := xm (blk_grown (kB BK205) hg (Kd.S_away HO_204001.out (fun _ hk => hk.1)))
       have n3_ := xm (hb)
       have n4_ := xm (ho)
       revert n0_ n1_ n2_ n3_ n4_; clear BK202 BK203 BK205 HB HO_204001 HO208; intro BK202 BK203 BK205 HB HO211
       clear ho hb hg hat
       obtain ⟨Ao21, co21, eo21⟩ := Kd.S_slice HO211.out
       (first | subst eo21 | (injection eo21 with f1_ f2_ f3_; have f4_ := f1_.symm; have f5_ := f3_.symm; clear f1_ f2_ f3_; subst f4_; subst f5_))
       refine hK.out _ _ ⟨(xc BK203.out 0).trans rfl, (xc BK203.out 1).trans rfl, (xc BK205.out 0).trans rfl, (xc BK205.out 1).trans rfl⟩ (fun hHeld => nC ?_)
       clear hK K
       refine pu 10 12 2047 ?_
       refine last_ (i := 11) (N := none) #[Y,Y,Y,Y,Y,Y,Y,Y,Y,Y,Y,Y] rfl rfl (one_of HT_.out (by kernel_rfl)) (by decide) (fun K hK => ?_)
       have hs22 : w20.cell? ⟨gb203, 1, none⟩ = some (u204001) := (xc BK203.out 1).trans rfl
       have hfs22 := xf BK203.out 1
       have hns22_0 := NB202_203.out
       have hns22_2 := NB205_203.out
       have hms22_0 := NB203_202.out
       have hms22_2 := NB203_205.out
       refine skip_ (w1 := ?_) (by rfl) rfl ?_ ?_
       rotate_left
       ·go_simp
        rfl
       refine hK.out _ _ ?_
       clear hK K
       refine done_ (done_of HT_.out (by kernel_rfl)) ?_
       try go_wp2
       go_roundg k1
       case measure => have := HK1.out; omega
       case rel => exact ⟨(wrap64 (x13_1 + 1)), (y209), (.slice Ao21 y209.length co21), sB, H', ⟨by have := HK1.out; omega⟩, ⟨by (with_reducible repeat (first | apply Kd.S_alloc | apply Kd.S_drewN | apply Kd.S_drew)); exact Kd.S_mono (Kd.S_far (p := ⟨gb203, 1, none⟩) (Kd.S_types HO211.out BK203.out (by decide)) (fun _ hk => hk.2) (.slice Ao21 y209.length co21)) (fun _ hk => trivial)⟩, ⟨by (with_reducible repeat (first | refine xq ?_ _ | refine xr ?_ | refine xo ?_ _)); refine blk_far ?_ NB202_203.out _; (with_reducible repeat (first | refine xq ?_ _ | refine xr ?_ | refine xo ?_ _)); exact BK202.out⟩, ⟨by (with_reducible repeat (first | refine xq ?_ _ | refine xr ?_ | refine xo ?_ _)); refine blk_put (cs := #[.int .i64 a0, u204001]) ?_ 1 _ rfl; (with_reducible repeat (first | refine xq ?_ _ | refine xr ?_ | refine xo ?_ _)); exact BK203.out⟩, ⟨bG⟩⟩
      ·rw [if_neg c11] at H
       exact absurd H (by simp)
     ·rw [if_neg c9] at H
      exact absurd H (by simp)
    ·rw [if_neg c8] at H
     exact absurd H (by simp)
   ·rw [if_neg c7] at H
    have c7b0 : decide (x13_1 < (l1.length : Int)) = false := decide_eq_false c7
    clear c7
    replace H := Option.bind_eq_some_iff.mp H
    obtain ⟨t212, A230, H⟩ := H
    replace H : (if t212 = true then (some (a0, x204001_1, true)) else (some (0, ([] : List (S53)), false))) = some (r1, r2, r3) := H
    have A23 := xm A230
    clear A230
    by_cases c24 : t212 = true
    ·subst c24
     have H1 : (some (a0, x204001_1, true)) = some (r1, r2, r3) := by first | (with_reducible rfl) | (rw [if_pos rfl] at H; exact H)
     clear H
     have H := H1
     clear H1
     simp only [Option.some.injEq, Prod.mk.injEq] at H
     obtain ⟨rfl, rfl, rfl⟩ := H
     have hnb25 := NB203_202.out
     have hnc25 := NB202_203.out
     obtain ⟨hcz26_0, hcz26_1, hfz26_0, hfz26_1⟩ := cz2 BK203.out
     obtain ⟨Ao27, co27, eo27⟩ := Kd.S_slice HO_204001.out
     subst eo27
     go_wp2_with (first | ((with_reducible refine gate_callee (f := 39) rfl ?_); refine goesL_ (some 30) rfl rfl Try.func39 (by kernel_rfl) rfl #[.agg #[.int .i64 a0, .slice Ao27 x204001_1.length co27]] rfl mB ?_; (with_reducible refine (spec_GoodTable.calls k1 a0 _ _ x204001_1 true _ ?side1 ?side2 A23.out).mono ?_); (case side1 => repeat (first | exact (Kd.S_reads' HO_204001.out).2.2 | (with_reducible refine Kd.C_alloc ?_ _) | (with_reducible refine Kd.C_drewN ?_ _) | (with_reducible refine Kd.C_drew ?_))); (case side2 => exact (Kd.S_reads' HO_204001.out).2.1); rintro e w28 ⟨rfl, hb⟩; refine ⟨_, rfl, ?_⟩; have n0_ := xm (Kd.S_below (tB HO_204001) hb); have n1_ := xm (blk_below (kB BK202) hb); have n2_ := xm (blk_below (kB BK203) hb); have n3_ := xm (below_step bG hb); revert n0_ n1_ n2_ n3_; clear HO_204001 BK202 BK203 HB; intro HO_204001 BK202 BK203 HB; (try clear hb); obtain ⟨hcz29_0, hcz29_1, hfz29_0, hfz29_1⟩ := cz2 BK203.out; obtain ⟨hcz30_0, hcz30_1, hfz30_0, hfz30_1⟩ := cz2 BK202.out))
     refine bodyPost_ret (results_ct rfl _ _ gb202 30 #[.int .i64 a0, .slice Ao27 x204001_1.length co27] (0, 0) _ rfl (by (with_reducible repeat (first | refine xq ?_ _ | refine xr ?_ | refine xo ?_ _)); refine blk_put (cs := #[.int .i64 a0, .slice none 0 0]) ?_ 1 _ rfl; (with_reducible repeat (first | refine xq ?_ _ | refine xr ?_ | refine xo ?_ _)); refine blk_put (cs := #[.int .i64 0, .slice none 0 0]) ?_ 0 _ rfl; (with_reducible repeat (first | refine xq ?_ _ | refine xr ?_ | refine xo ?_ _)); exact BK202.out) Try.underlying30 rfl (by kernel_rfl)) rfl ?_
     exact ⟨_, eB, by (with_reducible repeat (first | apply Kd.S_alloc | apply Kd.S_drewN | apply Kd.S_drew)); exact Kd.S_mono (Kd.S_far (p := ⟨gb202, 1, none⟩) (Kd.S_far (p := ⟨gb202, 0, none⟩) (Kd.S_types HO_204001.out BK202.out (by decide)) (fun _ hk => hk.2) (.int .i64 a0)) (fun _ hk => hk.2) (.slice Ao27 x204001_1.length co27)) (fun _ hk => trivial), bG⟩
    ·replace c24 := Bool.eq_false_iff.mpr c24
     subst c24
     have H1 : (some (0, ([] : List (S53)), false)) = some (r1, r2, r3) := by first | (with_reducible rfl) | (rw [if_neg (show ¬ (false = true) by decide)] at H; exact H)
     clear H
     have H := H1
     clear H1
     simp only [Option.some.injEq, Prod.mk.injEq] at H
     obtain ⟨rfl, rfl, rfl⟩ := H
     have hnb31 := NB203_202.out
     have hnc31 := NB202_203.out
     obtain ⟨hcz32_0, hcz32_1, hfz32_0, hfz32_1⟩ := cz2 BK203.out
     obtain ⟨Ao33, co33, eo33⟩ := Kd.S_slice HO_204001.out
     subst eo33
     go_wp2_with (first | ((with_reducible refine gate_callee (f := 39) rfl ?_); refine goesL_ (some 30) rfl rfl Try.func39 (by kernel_rfl) rfl #[.agg #[.int .i64 a0, .slice Ao33 x204001_1.length co33]] rfl mB ?_; (with_reducible refine (spec_GoodTable.calls k1 a0 _ _ x204001_1 false _ ?side1 ?side2 A23.out).mono ?_); (case side1 => repeat (first | exact (Kd.S_reads' HO_204001.out).2.2 | (with_reducible refine Kd.C_alloc ?_ _) | (with_reducible refine Kd.C_drewN ?_ _) | (with_reducible refine Kd.C_drew ?_))); (case side2 => exact (Kd.S_reads' HO_204001.out).2.1); rintro e w34 ⟨rfl, hb⟩; refine ⟨_, rfl, ?_⟩; have n0_ := xm (Kd.S_below (tB HO_204001) hb); have n1_ := xm (blk_below (kB BK202) hb); have n2_ := xm (blk_below (kB BK203) hb); have n3_ := xm (below_step bG hb); revert n0_ n1_ n2_ n3_; clear HO_204001 BK202 BK203 HB; intro HO_204001 BK202 BK203 HB; (try clear hb); obtain ⟨hcz35_0, hcz35_1, hfz35_0, hfz35_1⟩ := cz2 BK202.out))
     refine bodyPost_ret (results_ct rfl _ _ gb202 30 #[.int .i64 0, .slice none 0 0] (0, 0) _ rfl (by (with_reducible repeat (first | refine xq ?_ _ | refine xr ?_ | refine xo ?_ _)); refine blk_put (cs := #[.int .i64 0, .slice none 0 0]) ?_ 1 _ rfl; (with_reducible repeat (first | refine xq ?_ _ | refine xr ?_ | refine xo ?_ _)); refine blk_put (cs := #[.int .i64 0, .slice none 0 0]) ?_ 0 _ rfl; (with_reducible repeat (first | refine xq ?_ _ | refine xr ?_ | refine xo ?_ _)); exact BK202.out) Try.underlying30 rfl (by kernel_rfl)) rfl ?_
     exact ⟨_, eB, by first | exact Kd.S_nil _ _ _ _ _ | exact Kd.N_nil _ _ _ _ _ | exact Kd.V_nil _ _ _ _ _ | exact Kd.Q_nil _ _ _ _ _ | exact Kd.R_nil _ _ _ _ _, bG⟩

end Go.Proofs.Ytaddemalepndfah.G
