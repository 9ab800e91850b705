/- Written by a program of this claim's own, out of the translation: functions of the program as plain functions, and that the calls answer as these. No conditions. -/
import Derived.Test.YtaddemalepndfaaG0
import Derived.Test.YtaddemalepndfaaG3
import Derived.Test.YtaddemalepndfaaG5
namespace Go.Proofs.Ytaddemalepndfaa.G
open Go.RowKit Go.Proofs.Ytaddemalepndfaa.X Go.Proofs.YtaddemalepndfaaW.PrintWords Go.Proofs.YtaddemalepndfaaW.PrintLast Go.Proofs.YtaddemalepndfaaW.PrintMore
attribute [local go_sem] max2_int min2_int max_two min_two max_three min_three max_four min_four   -- for this text's walks alone
set_option linter.unusedVariables false
set_option linter.unusedSimpArgs false

/-! ### spec_GroupsAsTable: function 5 -/
def spec_GroupsAsTable.l0 : Nat → List (S45) → Int → Int → Int → List (S47) → Option (Int × (List (S47)) × Bool)
 | 0, _, _, _, _, _ => none
 | k + 1, x13, x14, x15, x139000, x139001 => if x15 < x14 then (if 0 ≤ x15 then (if x15 < (x13.length : Int) then ((some (([] : List Int) : List Int)).bind fun y141 => (if y141.length + ((rd_T45 x13 x15).f0.f0).length < 17592186044416 then ((some (y141 ++ ((rd_T45 x13 x15).f0.f0) : List Int)).bind fun y144 => ((some (([(rd_T45 x13 x15).f1, (rd_T45 x13 x15).f2] : List Int) : List Int)).bind fun y147 => (if y144.length + y147.length < 17592186044416 then ((some (y144 ++ y147 : List Int)).bind fun y150 => (if x139001.length < 4398046511104 then (spec_GroupsAsTable.l0 k x13 x14 (wrap64 (x15 + 1)) (y150.length : Int) (x139001 ++ [(⟨(⟨y150⟩ : S43), 1⟩ : S47)])) else (none))) else (none)))) else (none))) else (none)) else (none)) else ((spec_GoodTable.f k x139000 x139001).bind fun t157 => (if t157 = true then (some (x139000, x139001, true)) else (some (0, ([] : List (S47)), false))))
def spec_GroupsAsTable.f (k : Nat) (l0 : List (S45)) : Option (Int × (List (S47)) × Bool) := (spec_GoodGroups.f k l0).bind fun t137 => (if t137 = true then (spec_GroupsAsTable.l0 k l0 (l0.length : Int) 0 0 ([] : List (S47))) else (some (0, ([] : List (S47)), false)))
theorem spec_GroupsAsTable.mono_l : ∀ k, (∀ y0 y1 y2 y3 y4, LeO (spec_GroupsAsTable.l0 k y0 y1 y2 y3 y4) (spec_GroupsAsTable.l0 (k + 1) y0 y1 y2 y3 y4))
 | 0 => fun _ _ _ _ _ r h => by simp [spec_GroupsAsTable.l0] at h
 | k + 1 => by
  have ih0 := spec_GroupsAsTable.mono_l k
  ·intro y0 y1 y2 y3 y4
   unfold spec_GroupsAsTable.l0
   repeat' first
   | (with_reducible exact ih0 _ _ _ _ _)
   | (with_reducible exact spec_GoodGroups.mono _ _)
   | (with_reducible exact spec_GoodTable.mono _ _ _)
   | (with_reducible exact LeO.refl _)
   | (with_reducible exact LeO.none _)
   | (with_reducible refine LeO.ite ?_ ?_)
   | (with_reducible refine LeO.bind ?_ (fun _ => ?_))
   | exact ih0 _ _ _ _ _
   | exact spec_GoodGroups.mono _ _
   | exact spec_GoodTable.mono _ _ _
   | exact LeO.none _
   | refine LeO.ite ?_ ?_
   | refine LeO.bind ?_ (fun _ => ?_)
theorem spec_GroupsAsTable.mono : ∀ a0 k, LeO (spec_GroupsAsTable.f k a0) (spec_GroupsAsTable.f (k + 1) a0) := by
 intro a0 k
 have ih0 := spec_GroupsAsTable.mono_l k
 unfold spec_GroupsAsTable.f
 repeat' first
   | (with_reducible exact ih0 _ _ _ _ _)
   | (with_reducible exact spec_GoodGroups.mono _ _)
   | (with_reducible exact spec_GoodTable.mono _ _ _)
   | (with_reducible exact LeO.refl _)
   | (with_reducible exact LeO.none _)
   | (with_reducible refine LeO.ite ?_ ?_)
   | (with_reducible refine LeO.bind ?_ (fun _ => ?_))
   | exact ih0 _ _ _ _ _
   | exact spec_GoodGroups.mono _ _
   | exact spec_GoodTable.mono _ _ _
   | exact LeO.none _
   | refine LeO.ite ?_ ?_
   | refine LeO.bind ?_ (fun _ => ?_)
def spec_GroupsAsTable.T7 : Bool × List (List Nat × List Nat) := (true, [([], []), ([], []), ([1], [1]), ([2], [2]), ([0, 3], [0, 3]), ([], []), ([5], [5]), ([], []), ([7], [7]), ([6, 8], [6, 8]), ([4, 9, 4], [4, 9]), ([10], [10]), ([], []), ([12, 11, 10, 0, 1, 2, 3, 4, 5, 6, 7, 8, 9, 10, 11, 12], [11, 12])])
def spec_GroupsAsTable.B7 : List Nat := [0, 0, 2, 6, 15, 0, 32, 0, 128, 480, 1023, 2047, 0, 8191]
theorem spec_GroupsAsTable.tab7 : rtab .any (opsOf Try.f5 7) = spec_GroupsAsTable.T7 := by kernel_rfl
theorem spec_GroupsAsTable.bits7 : waitsOk spec_GroupsAsTable.T7.2 spec_GroupsAsTable.B7 = true := by kernel_rfl
set_option maxHeartbeats 8000000 in
set_option maxRecDepth 100000 in
theorem spec_GroupsAsTable.calls (k : Nat) (A0 : Option Addr) (c0 : Nat) (l0 : List (S45)) (r1 : Int) (r2 : List (S47)) (r3 : Bool) (w : World) (hr0 : Kd.C k45 w A0 l0.length l0) (hc0 : l0.length ≤ c0) (h : spec_GroupsAsTable.f k l0 = some (r1, r2, r3)) :
  Calls Try.prog 5 #[.slice A0 l0.length c0] w fun e w' => ∃ v1_ : Value, e = .returned (.tuple #[.agg #[.int .i64 r1, v1_], .bool r3]) ∧ Kd.S k47 47 w' w.heap.size (fun _ => True) v1_ r2 ∧ Below w.heap.size w w' := by
 have hu26 := Try.underlying26
 have hu45 := Try.underlying45
 have hu43 := Try.underlying43
 have hu47 := Try.underlying47
 have HR0 := xm hr0
 have HC0 := xm hc0
 clear hr0 hc0
 have HB := xm (Below.refl w.heap.size w)
 have H : ((spec_GoodGroups.f k l0).bind fun t137 => (if t137 = true then (spec_GroupsAsTable.l0 k l0 (l0.length : Int) 0 0 ([] : List (S47))) else (some (0, ([] : List (S47)), false)))) = some (r1, r2, r3) := h
 clear h
 replace H := Option.bind_eq_some_iff.mp H
 obtain ⟨t137, A20, H⟩ := H
 replace H : (if t137 = true then (spec_GroupsAsTable.l0 k l0 (l0.length : Int) 0 0 ([] : List (S47))) else (some (0, ([] : List (S47)), false))) = some (r1, r2, r3) := H
 have A2 := xm A20
 clear A20
 by_cases c3 : t137 = true
 ·subst c3
  have H1 : (spec_GroupsAsTable.l0 k l0 (l0.length : Int) 0 0 ([] : List (S47))) = some (r1, r2, r3) := by first | (with_reducible rfl) | (rw [if_pos rfl] at H; exact H)
  clear H
  have H := H1
  clear H1
  have H' := xm H
  clear H
  go_enter Try.func5, Try.ntmps5
  go_wp2_with (first | ((with_reducible refine gate_dst (N := 2) rfl ?_); refine box_event ?hg (N := 2) ?hd (cs := #[.int .i64 0, .slice none 0 0]) (t := 26) ?hr ?_; (case hd => rfl); (case hg => rfl); (case hr => exact zB); intro gb136 hg w4 hbox hb; have n0_ := xm (below_step bB hb); have n1_ := xm (hbox); have n2_ := xm ((by rw [hg]; exact (xz bB) : w.heap.size ≤ gb136)); have n3_ := xm ((by rw [hg]; exact (xz bB) : w.heap.size ≤ gb136)); revert n0_ n1_ n2_ n3_; clear HB; intro HB BK136 GW136 GE136; clear hb hbox hg) | ((with_reducible refine gate_callee (f := 14) rfl ?_); refine goesL_ (some 9) rfl rfl Try.func14 (by kernel_rfl) rfl #[.slice A0 l0.length c0] rfl mB ?_; (with_reducible refine (spec_GoodGroups.calls k _ _ l0 true _ ?side1 ?side2 A2.out).mono ?_); (case side1 => exact cB (Kd.C_below HR0.out HB.out)); (case side2 => exact HC0.out); rintro e w5 ⟨rfl, hb⟩; refine ⟨_, rfl, ?_⟩; have n0_ := xm (blk_below (kB BK136) hb); have n1_ := xm (below_step bG hb); revert n0_ n1_; clear BK136 HB; intro BK136 HB; (try clear hb); (try clear hb2); (try clear hk); (try clear hi)) | ((with_reducible refine gate_dst (N := 4) rfl ?_); refine box_event ?hg (N := 4) ?hd (cs := #[.int .i64 0, .slice none 0 0]) (t := 26) ?hr ?_; (case hd => rfl); (case hg => rfl); (case hr => exact zB); intro gb138 hg w6 hbox hb; have n0_ := xm (blk_below (kB BK136) hb); have n1_ := xm (below_step bG hb); have n2_ := xm (hbox); have n3_ := xm ((by rw [hg]; exact (xz bG) : w.heap.size ≤ gb138)); have n4_ := xm ((by rw [hg]; exact (xz bG) : w.heap.size ≤ gb138)); have n5_ := xm ((by rw [hg]; exact Nat.ne_of_lt (blk_lt (kB BK136)) : gb136 ≠ gb138)); have n6_ := xm ((by rw [hg]; exact Nat.ne_of_gt (blk_lt (kB BK136)) : gb138 ≠ gb136)); revert n0_ n1_ n2_ n3_ n4_ n5_ n6_; clear BK136 HB; intro BK136 HB BK138 GW138 GE138 NB136_138 NB138_136; clear hb hbox hg; have hnb7 := NB138_136.out; have hnc7 := NB136_138.out; obtain ⟨hcz8_0, hcz8_1, hfz8_0, hfz8_1⟩ := cz2 BK138.out))
  go_loopg [15] k (fun kq v15 w' => ∃ (x15_1 : Int) (x139000_1 : Int) (x139001_1 : List (S47)) (u139001 : Value), v15 = .int .i64 x15_1 ∧ Aside0 (spec_GroupsAsTable.l0 kq l0 (l0.length : Int) x15_1 x139000_1 x139001_1 = some (r1, r2, r3)) ∧ Aside0 (kq ≤ k) ∧ Aside0 (Kd.S k47 47 w' w.heap.size (fun _ => True) u139001 x139001_1) ∧ Aside0 (w'.heap[gb136]? = some (.cells #[.int .i64 0, (.slice none 0 0)] 26 (0, 0))) ∧ Aside0 (w'.heap[gb138]? = some (.cells #[.int .i64 x139000_1, u139001] 26 (0, 0))) ∧ Aside0 (Below w.heap.size w w'))
  case atStart => exact ⟨(0), (0), (([] : List (S47))), (.slice none 0 0), (by first | rfl | (simp; done) | (simp [*]; done)), H', ⟨Nat.le_refl _⟩, ⟨by first | exact Kd.S_nil _ _ _ _ _ | exact Kd.N_nil _ _ _ _ _ | exact Kd.V_nil _ _ _ _ _ | exact Kd.Q_nil _ _ _ _ _ | exact Kd.R_nil _ _ _ _ _⟩, ⟨by (with_reducible repeat (first | refine xq ?_ _ | refine xr ?_ | refine xo ?_ _)); refine blk_far ?_ NB136_138.out _; (with_reducible repeat (first | refine xq ?_ _ | refine xr ?_ | refine xo ?_ _)); refine blk_far ?_ NB136_138.out _; (with_reducible repeat (first | refine xq ?_ _ | refine xr ?_ | refine xo ?_ _)); exact BK136.out⟩, ⟨by (with_reducible repeat (first | refine xq ?_ _ | refine xr ?_ | refine xo ?_ _)); refine blk_put (cs := #[.int .i64 0, .slice none 0 0]) ?_ 1 _ rfl; (with_reducible repeat (first | refine xq ?_ _ | refine xr ?_ | refine xo ?_ _)); refine blk_put (cs := #[.int .i64 0, .slice none 0 0]) ?_ 0 _ rfl; (with_reducible repeat (first | refine xq ?_ _ | refine xr ?_ | refine xo ?_ _)); exact BK138.out⟩, ⟨by repeat (first | (with_reducible first | exact HB.out | apply xa | apply xn | apply xd | refine xt ?_ GE136.out | refine xt ?_ GE138.out) | exact HB.out)⟩⟩
  case round =>
   clear H'
   try clear c1
   try clear p2
   try clear c3
   try clear c5
   try clear c7
   try clear hcz8_0
   try clear hcz8_1
   try clear hfz8_0
   try clear hfz8_1
   obtain ⟨x15_1, x139000_1, x139001_1, u139001, rfl, HA, HK1, HO_139001, BK136, BK138, HB⟩ := hrel
   cases gk with
   | zero => exact absurd HA.out (by simp [spec_GroupsAsTable.l0])
   | succ k1 =>
    have H := HA.out
    clear HA
    simp only [spec_GroupsAsTable.l0] at H
    by_cases c9 : x15_1 < (l0.length : Int)
    ·rw [if_pos c9] at H
     have c9b0 : decide (x15_1 < (l0.length : Int)) = true := decide_eq_true c9
     clear c9
     by_cases c10 : 0 ≤ x15_1
     ·rw [if_pos c10] at H
      have c10b0 : decide (0 ≤ x15_1) = true := decide_eq_true c10
      clear c10
      by_cases c11 : x15_1 < (l0.length : Int)
      ·rw [if_pos c11] at H
       have c11b0 : decide (x15_1 < (l0.length : Int)) = true := decide_eq_true c11
       clear c11
       obtain ⟨y141, hy141⟩ : ∃ y_ : List Int, y_ = (([] : List Int)) := ⟨_, rfl⟩
       replace H : (if y141.length + ((rd_T45 l0 x15_1).f0.f0).length < 17592186044416 then ((some (y141 ++ ((rd_T45 l0 x15_1).f0.f0) : List Int)).bind fun y144 => ((some (([(rd_T45 l0 x15_1).f1, (rd_T45 l0 x15_1).f2] : List Int) : List Int)).bind fun y147 => (if y144.length + y147.length < 17592186044416 then ((some (y144 ++ y147 : List Int)).bind fun y150 => (if x139001_1.length < 4398046511104 then (spec_GroupsAsTable.l0 k1 l0 (l0.length : Int) (wrap64 (x15_1 + 1)) (y150.length : Int) (x139001_1 ++ [(⟨(⟨y150⟩ : S43), 1⟩ : S47)])) else (none))) else (none)))) else (none)) = some (r1, r2, r3) := by first | (rw [hy141]; with_reducible exact H) | (have H2_ := (Option.bind_some _ _).symm.trans H; rw [hy141]; with_reducible exact H2_) | (have H2_ := (Option.bind_some _ _).symm.trans H; with_reducible exact H2_) | with_reducible exact H | (rw [hy141]; exact H) | exact H
       have Ny141 := xm hy141
       clear hy141
       by_cases c12 : y141.length + ((rd_T45 l0 x15_1).f0.f0).length < 17592186044416
       ·rw [if_pos c12] at H
        have LMc12 := xm c12
        clear c12
        obtain ⟨y144, hy144⟩ : ∃ y_ : List Int, y_ = (y141 ++ ((rd_T45 l0 x15_1).f0.f0)) := ⟨_, rfl⟩
        replace H : ((some (([(rd_T45 l0 x15_1).f1, (rd_T45 l0 x15_1).f2] : List Int) : List Int)).bind fun y147 => (if y144.length + y147.length < 17592186044416 then ((some (y144 ++ y147 : List Int)).bind fun y150 => (if x139001_1.length < 4398046511104 then (spec_GroupsAsTable.l0 k1 l0 (l0.length : Int) (wrap64 (x15_1 + 1)) (y150.length : Int) (x139001_1 ++ [(⟨(⟨y150⟩ : S43), 1⟩ : S47)])) else (none))) else (none))) = some (r1, r2, r3) := by first | (rw [hy144]; with_reducible exact H) | (have H2_ := (Option.bind_some _ _).symm.trans H; rw [hy144]; with_reducible exact H2_) | (have H2_ := (Option.bind_some _ _).symm.trans H; with_reducible exact H2_) | with_reducible exact H | (rw [hy144]; exact H) | exact H
        have Ny144 := xm hy144
        clear hy144
        obtain ⟨y147, hy147⟩ : ∃ y_ : List Int, y_ = (([(rd_T45 l0 x15_1).f1, (rd_T45 l0 x15_1).f2] : List Int)) := ⟨_, rfl⟩
        replace H : (if y144.length + y147.length < 17592186044416 then ((some (y144 ++ y147 : List Int)).bind fun y150 => (if x139001_1.length < 4398046511104 then (spec_GroupsAsTable.l0 k1 l0 (l0.length : Int) (wrap64 (x15_1 + 1)) (y150.length : Int) (x139001_1 ++ [(⟨(⟨y150⟩ : S43), 1⟩ : S47)])) else (none))) else (none)) = some (r1, r2, r3) := by first | (rw [hy147]; with_reducible exact H) | (have H2_ := (Option.bind_some _ _).symm.trans H; rw [hy147]; with_reducible exact H2_) | (have H2_ := (Option.bind_some _ _).symm.trans H; with_reducible exact H2_) | with_reducible exact H | (rw [hy147]; exact H) | exact H
        have Ny147 := xm hy147
        clear hy147
        by_cases c13 : y144.length + y147.length < 17592186044416
        ·rw [if_pos c13] at H
         have LMc13 := xm c13
         clear c13
         obtain ⟨y150, hy150⟩ : ∃ y_ : List Int, y_ = (y144 ++ y147) := ⟨_, rfl⟩
         replace H : (if x139001_1.length < 4398046511104 then (spec_GroupsAsTable.l0 k1 l0 (l0.length : Int) (wrap64 (x15_1 + 1)) (y150.length : Int) (x139001_1 ++ [(⟨(⟨y150⟩ : S43), 1⟩ : S47)])) else (none)) = some (r1, r2, r3) := by first | (rw [hy150]; with_reducible exact H) | (have H2_ := (Option.bind_some _ _).symm.trans H; rw [hy150]; with_reducible exact H2_) | (have H2_ := (Option.bind_some _ _).symm.trans H; with_reducible exact H2_) | with_reducible exact H | (rw [hy150]; exact H) | exact H
         have Ny150 := xm hy150
         clear hy150
         by_cases c14 : x139001_1.length < 4398046511104
         ·rw [if_pos c14] at H
          have LMc14 := xm c14
          clear c14
          obtain ⟨y154, hy154⟩ : ∃ y_ : List (S47), y_ = (x139001_1 ++ [(⟨(⟨y150⟩ : S43), 1⟩ : S47)]) := ⟨_, rfl⟩
          replace H : (spec_GroupsAsTable.l0 k1 l0 (l0.length : Int) (wrap64 (x15_1 + 1)) (y150.length : Int) y154) = some (r1, r2, r3) := by first | (rw [hy154]; with_reducible exact H) | (have H2_ := (Option.bind_some _ _).symm.trans H; rw [hy154]; with_reducible exact H2_) | (have H2_ := (Option.bind_some _ _).symm.trans H; with_reducible exact H2_) | with_reducible exact H | (rw [hy154]; exact H) | exact H
          have Ny154 := xm hy154
          clear hy154
          have H' := xm H
          clear H
          have p139 : 0 ≤ (x15_1 : Int) := of_decide_eq_true aB
          have q139 : x15_1 < (l0.length : Int) := of_decide_eq_true aB
          obtain ⟨ad139, A139_0, c139_0, e139, hx139_0, hx139_1, hx139_2, hl139_0, hi139_0⟩ := at_T45 HR0.out x15_1 p139 q139
          cases e139
          replace hx139_0 := (HB.out.cell (World.block_lt_of_cell? w _ hx139_0)).trans hx139_0
          replace hx139_1 := (HB.out.cell (World.block_lt_of_cell? w _ hx139_1)).trans hx139_1
          replace hx139_2 := (HB.out.cell (World.block_lt_of_cell? w _ hx139_2)).trans hx139_2
          have HR139_0 := xm hi139_0
          have HC139_0 := xm hl139_0
          clear hi139_0 hl139_0
          replace p139 := eq_true p139
          replace q139 := eq_true q139
          try go_wp2_with (first | ((with_reducible refine gate_dst (N := 6) rfl ?_); refine box_event ?hg (N := 6) ?hd (cs := #[.slice none 0 0, .int .i64 0, .int .i64 0]) (t := 45) ?hr ?_; (case hd => rfl); (case hg => rfl); (case hr => exact zB); intro gb140 hg w15 hbox hb; have n0_ := xm (Kd.S_below (by (with_reducible repeat (first | apply Kd.S_alloc | apply Kd.S_drewN | apply Kd.S_drew)); exact HO_139001.out) hb); have n1_ := xm (blk_below (kB BK136) hb); have n2_ := xm (blk_below (kB BK138) hb); have n3_ := xm (below_step bG hb); have n4_ := xm (hbox); have n5_ := xm ((by rw [hg]; exact (xz bG) : w.heap.size ≤ gb140)); have n6_ := xm ((by rw [hg]; exact (xz bG) : w.heap.size ≤ gb140)); have n7_ := xm ((by rw [hg]; exact Nat.ne_of_lt (blk_lt (kB BK136)) : gb136 ≠ gb140)); have n8_ := xm ((by rw [hg]; exact Nat.ne_of_gt (blk_lt (kB BK136)) : gb140 ≠ gb136)); have n9_ := xm ((by rw [hg]; exact Nat.ne_of_lt (blk_lt (kB BK138)) : gb138 ≠ gb140)); have n10_ := xm ((by rw [hg]; exact Nat.ne_of_gt (blk_lt (kB BK138)) : gb140 ≠ gb138)); revert n0_ n1_ n2_ n3_ n4_ n5_ n6_ n7_ n8_ n9_ n10_; clear HO_139001 BK136 BK138 HB; intro HO_139001 BK136 BK138 HB BK140 GW140 GE140 NB136_140 NB140_136 NB138_140 NB140_138; clear hb hbox hg; have hnb16 := NB140_136.out; have hnc16 := NB136_140.out; have hnb17 := NB140_138.out; have hnc17 := NB138_140.out; obtain ⟨hcz18_0, hcz18_1, hcz18_2, hfz18_0, hfz18_1, hfz18_2⟩ := cz3 BK140.out))
          have n0_ : Aside0 (Kd.S k47 47 (((w15.setCell ⟨gb140, 0, none⟩ (.slice A139_0 ((rd_T45 l0 x15_1).f0.f0).length c139_0)).setCell ⟨gb140, 1, none⟩ (.int .i64 ((rd_T45 l0 x15_1).f1))).setCell ⟨gb140, 2, none⟩ (.int .i64 ((rd_T45 l0 x15_1).f2))) w.heap.size (fun _ => True) u139001 x139001_1) := ⟨by (with_reducible repeat (first | apply Kd.S_alloc | apply Kd.S_drewN | apply Kd.S_drew)); exact Kd.S_mono (Kd.S_far (p := ⟨gb140, 2, none⟩) (Kd.S_far (p := ⟨gb140, 1, none⟩) (Kd.S_far (p := ⟨gb140, 0, none⟩) (Kd.S_types HO_139001.out BK140.out (by decide)) (fun _ hk => hk.2) (.slice A139_0 ((rd_T45 l0 x15_1).f0.f0).length c139_0)) (fun _ hk => hk.2) (.int .i64 ((rd_T45 l0 x15_1).f1))) (fun _ hk => hk.2) (.int .i64 ((rd_T45 l0 x15_1).f2))) (fun _ hk => trivial)⟩
          have n1_ : Aside0 ((((w15.setCell ⟨gb140, 0, none⟩ (.slice A139_0 ((rd_T45 l0 x15_1).f0.f0).length c139_0)).setCell ⟨gb140, 1, none⟩ (.int .i64 ((rd_T45 l0 x15_1).f1))).setCell ⟨gb140, 2, none⟩ (.int .i64 ((rd_T45 l0 x15_1).f2))).heap[gb136]? = some (.cells #[.int .i64 0, .slice none 0 0] 26 (0, 0))) := ⟨by (with_reducible repeat (first | refine xq ?_ _ | refine xr ?_ | refine xo ?_ _)); refine blk_far ?_ NB136_140.out _; (with_reducible repeat (first | refine xq ?_ _ | refine xr ?_ | refine xo ?_ _)); refine blk_far ?_ NB136_140.out _; (with_reducible repeat (first | refine xq ?_ _ | refine xr ?_ | refine xo ?_ _)); refine blk_far ?_ NB136_140.out _; (with_reducible repeat (first | refine xq ?_ _ | refine xr ?_ | refine xo ?_ _)); exact BK136.out⟩
          have n2_ : Aside0 ((((w15.setCell ⟨gb140, 0, none⟩ (.slice A139_0 ((rd_T45 l0 x15_1).f0.f0).length c139_0)).setCell ⟨gb140, 1, none⟩ (.int .i64 ((rd_T45 l0 x15_1).f1))).setCell ⟨gb140, 2, none⟩ (.int .i64 ((rd_T45 l0 x15_1).f2))).heap[gb138]? = some (.cells #[.int .i64 x139000_1, u139001] 26 (0, 0))) := ⟨by (with_reducible repeat (first | refine xq ?_ _ | refine xr ?_ | refine xo ?_ _)); refine blk_far ?_ NB138_140.out _; (with_reducible repeat (first | refine xq ?_ _ | refine xr ?_ | refine xo ?_ _)); refine blk_far ?_ NB138_140.out _; (with_reducible repeat (first | refine xq ?_ _ | refine xr ?_ | refine xo ?_ _)); refine blk_far ?_ NB138_140.out _; (with_reducible repeat (first | refine xq ?_ _ | refine xr ?_ | refine xo ?_ _)); exact BK138.out⟩
          have n3_ : Aside0 ((((w15.setCell ⟨gb140, 0, none⟩ (.slice A139_0 ((rd_T45 l0 x15_1).f0.f0).length c139_0)).setCell ⟨gb140, 1, none⟩ (.int .i64 ((rd_T45 l0 x15_1).f1))).setCell ⟨gb140, 2, none⟩ (.int .i64 ((rd_T45 l0 x15_1).f2))).heap[gb140]? = some (.cells #[.slice A139_0 ((rd_T45 l0 x15_1).f0.f0).length c139_0, .int .i64 ((rd_T45 l0 x15_1).f1), .int .i64 ((rd_T45 l0 x15_1).f2)] 45 (0, 0))) := ⟨by (with_reducible repeat (first | refine xq ?_ _ | refine xr ?_ | refine xo ?_ _)); refine blk_put (cs := #[.slice A139_0 ((rd_T45 l0 x15_1).f0.f0).length c139_0, .int .i64 ((rd_T45 l0 x15_1).f1), .int .i64 0]) ?_ 2 _ rfl; (with_reducible repeat (first | refine xq ?_ _ | refine xr ?_ | refine xo ?_ _)); refine blk_put (cs := #[.slice A139_0 ((rd_T45 l0 x15_1).f0.f0).length c139_0, .int .i64 0, .int .i64 0]) ?_ 1 _ rfl; (with_reducible repeat (first | refine xq ?_ _ | refine xr ?_ | refine xo ?_ _)); refine blk_put (cs := #[.slice none 0 0, .int .i64 0, .int .i64 0]) ?_ 0 _ rfl; (with_reducible repeat (first | refine xq ?_ _ | refine xr ?_ | refine xo ?_ _)); exact BK140.out⟩
          have n4_ : Aside0 (Below w.heap.size w (((w15.setCell ⟨gb140, 0, none⟩ (.slice A139_0 ((rd_T45 l0 x15_1).f0.f0).length c139_0)).setCell ⟨gb140, 1, none⟩ (.int .i64 ((rd_T45 l0 x15_1).f1))).setCell ⟨gb140, 2, none⟩ (.int .i64 ((rd_T45 l0 x15_1).f2)))) := ⟨by repeat (first | (with_reducible first | exact HB.out | apply xa | apply xn | apply xd | refine xt ?_ GE136.out | refine xt ?_ GE138.out | refine xt ?_ GE140.out) | exact HB.out)⟩
          (try clear HO_139001)
          (try clear BK136)
          (try clear BK138)
          (try clear BK140)
          (try clear HB)
          generalize (((w15.setCell ⟨gb140, 0, none⟩ (.slice A139_0 ((rd_T45 l0 x15_1).f0.f0).length c139_0)).setCell ⟨gb140, 1, none⟩ (.int .i64 ((rd_T45 l0 x15_1).f1))).setCell ⟨gb140, 2, none⟩ (.int .i64 ((rd_T45 l0 x15_1).f2))) = w19 at n0_ n1_ n2_ n3_ n4_ ⊢
          revert n0_ n1_ n2_ n3_ n4_; intro HO_139001 BK136 BK138 BK140 HB
          have n0_ := xm (Kd.S_drew HO_139001.out)
          have n1_ := xm (xr BK136.out)
          have n2_ := xm (xr BK138.out)
          have n3_ := xm (xr BK140.out)
          have n4_ := xm (xd HB.out)
          revert n0_ n1_ n2_ n3_ n4_; clear HO_139001 BK136 BK138 BK140 HB; intro HO_139001 BK136 BK138 BK140 HB
          refine start_ (n := 14) (S := fun w' => w'.cell? ⟨gb140, 0, none⟩ = some (.slice A139_0 ((rd_T45 l0 x15_1).f0.f0).length c139_0) ∧ w'.cell? ⟨gb140, 1, none⟩ = some (.int .i64 ((rd_T45 l0 x15_1).f1)) ∧ w'.cell? ⟨gb140, 2, none⟩ = some (.int .i64 ((rd_T45 l0 x15_1).f2))) (ds := []) #[Z,Z,Z,Z,Z,Z,Z,Z,Z,Z,Z,Z,Z,Z] (by kernel_rfl) rfl rfl ⟨(xc BK140.out 0).trans rfl, (xc BK140.out 1).trans rfl, (xc BK140.out 2).trans rfl⟩ (fun hHeld => ?_); refine with_tabW spec_GroupsAsTable.tab7 spec_GroupsAsTable.bits7 (fun HT_ HW_ => ?_)
          generalize w19.drew = w20 at HO_139001 BK136 BK138 BK140 HB hHeld ⊢
          refine pu 1 14 2 ?_
          refine pu 2 14 6 ?_
          refine pu 5 14 38 ?_
          refine pu 7 14 166 ?_
          refine tx 3 14 174 rfl rfl (take_ofW HT_.out HW_.out (by kernel_rfl)) hHeld (by rintro w' ⟨s0, s1, s2⟩; go_simp; with_reducible rfl) ?_
          refine tx 6 14 238 rfl rfl (take_ofW HT_.out HW_.out (by kernel_rfl)) hHeld (by rintro w' ⟨s0, s1, s2⟩; go_simp; with_reducible rfl) ?_
          refine tx 8 14 494 rfl rfl (take_ofW HT_.out HW_.out (by kernel_rfl)) hHeld (by rintro w' ⟨s0, s1, s2⟩; go_simp; with_reducible rfl) ?_
          refine join_ (σ := Value × Value × Value × Value × Nat) 1 #[Y,Y,Y,Y,Y,Y,Y,Y,Y,Y,Y,Y,Y,Z] (fun s_ => [(19, s_.1), (23, s_.2.1), (28, s_.2.2.1), (29, s_.2.2.2.1), (7, .pointer (some ⟨s_.2.2.2.2, 0, none⟩)), (30, .agg #[s_.2.2.2.1])]) (fun s_ w' => (w'.cell? ⟨gb140, 0, none⟩ = some (.slice A139_0 ((rd_T45 l0 x15_1).f0.f0).length c139_0) ∧ w'.cell? ⟨gb140, 1, none⟩ = some (.int .i64 ((rd_T45 l0 x15_1).f1)) ∧ w'.cell? ⟨gb140, 2, none⟩ = some (.int .i64 ((rd_T45 l0 x15_1).f2))) ∧ (Kd.R (Kd.int .i64) 3 w' w.heap.size (fun k_ => some k_ ≠ (s_.2.2.2.1 : Value).ownBlock) s_.2.2.1 y147) ∧ (Kd.R (Kd.int .i64) 3 w' w.heap.size (fun k_ => some k_ ≠ (s_.2.2.1 : Value).ownBlock) s_.2.2.2.1 y150) ∧ (Kd.S k47 47 w' w.heap.size (fun k_ => some k_ ≠ (s_.2.2.1 : Value).ownBlock ∧ some k_ ≠ (s_.2.2.2.1 : Value).ownBlock) u139001 x139001_1) ∧ (w'.heap[gb136]? = some (.cells #[.int .i64 0, .slice none 0 0] 26 (0, 0))) ∧ (w'.heap[gb138]? = some (.cells #[.int .i64 x139000_1, u139001] 26 (0, 0))) ∧ (w'.heap[gb140]? = some (.cells #[.slice A139_0 ((rd_T45 l0 x15_1).f0.f0).length c139_0, .int .i64 ((rd_T45 l0 x15_1).f1), .int .i64 ((rd_T45 l0 x15_1).f2)] 45 (0, 0))) ∧ (w'.heap[s_.2.2.2.2]? = some (.cells #[.slice none 0 0] 43 (0, 0))) ∧ (w.heap.size ≤ s_.2.2.2.2) ∧ (w.heap.size ≤ s_.2.2.2.2) ∧ (gb136 ≠ s_.2.2.2.2) ∧ (s_.2.2.2.2 ≠ gb136) ∧ (gb138 ≠ s_.2.2.2.2) ∧ (s_.2.2.2.2 ≠ gb138) ∧ (gb140 ≠ s_.2.2.2.2) ∧ (s_.2.2.2.2 ≠ gb140) ∧ (Below w.heap.size w w')) ?_ ?_
          rotate_left
          ·intro hJ0_4_9_10_12
           refine join_ (σ := Value × Value × Value × Value) 2 #[Y,Y,Y,Y,Y,Y,Y,Y,Y,Y,Y,Y,Z,Z] (fun s_ => [(19, s_.1), (23, s_.2.1), (28, s_.2.2.1), (29, s_.2.2.2), (30, .agg #[s_.2.2.2])]) (fun s_ w' => (w'.cell? ⟨gb140, 0, none⟩ = some (.slice A139_0 ((rd_T45 l0 x15_1).f0.f0).length c139_0) ∧ w'.cell? ⟨gb140, 1, none⟩ = some (.int .i64 ((rd_T45 l0 x15_1).f1)) ∧ w'.cell? ⟨gb140, 2, none⟩ = some (.int .i64 ((rd_T45 l0 x15_1).f2))) ∧ (Kd.R (Kd.int .i64) 3 w' w.heap.size (fun k_ => some k_ ≠ (s_.2.2.2 : Value).ownBlock) s_.2.2.1 y147) ∧ (Kd.R (Kd.int .i64) 3 w' w.heap.size (fun k_ => some k_ ≠ (s_.2.2.1 : Value).ownBlock) s_.2.2.2 y150) ∧ (Kd.S k47 47 w' w.heap.size (fun k_ => some k_ ≠ (s_.2.2.1 : Value).ownBlock ∧ some k_ ≠ (s_.2.2.2 : Value).ownBlock) u139001 x139001_1) ∧ (w'.heap[gb136]? = some (.cells #[.int .i64 0, .slice none 0 0] 26 (0, 0))) ∧ (w'.heap[gb138]? = some (.cells #[.int .i64 x139000_1, u139001] 26 (0, 0))) ∧ (w'.heap[gb140]? = some (.cells #[.slice A139_0 ((rd_T45 l0 x15_1).f0.f0).length c139_0, .int .i64 ((rd_T45 l0 x15_1).f1), .int .i64 ((rd_T45 l0 x15_1).f2)] 45 (0, 0))) ∧ (Below w.heap.size w w')) ?_ ?_
           rotate_left
           ·intro hJ0_4_9_10
            refine join_ (σ := Value × Value × Value × Nat) 3 #[Y,Y,Y,Y,Y,Y,Y,Y,Y,Y,Z,Z,Y,Z] (fun s_ => [(19, s_.1), (23, s_.2.1), (28, s_.2.2.1), (7, .pointer (some ⟨s_.2.2.2, 0, none⟩))]) (fun s_ w' => (w'.cell? ⟨gb140, 0, none⟩ = some (.slice A139_0 ((rd_T45 l0 x15_1).f0.f0).length c139_0) ∧ w'.cell? ⟨gb140, 1, none⟩ = some (.int .i64 ((rd_T45 l0 x15_1).f1)) ∧ w'.cell? ⟨gb140, 2, none⟩ = some (.int .i64 ((rd_T45 l0 x15_1).f2))) ∧ (Kd.R (Kd.int .i64) 3 w' w.heap.size (fun k_ => some k_ ≠ (s_.2.2.1 : Value).ownBlock) s_.2.1 y144) ∧ (Kd.R (Kd.int .i64) 3 w' w.heap.size (fun k_ => some k_ ≠ (s_.2.1 : Value).ownBlock) s_.2.2.1 y147) ∧ (Kd.S k47 47 w' w.heap.size (fun k_ => some k_ ≠ (s_.2.1 : Value).ownBlock ∧ some k_ ≠ (s_.2.2.1 : Value).ownBlock) u139001 x139001_1) ∧ (w'.heap[gb136]? = some (.cells #[.int .i64 0, .slice none 0 0] 26 (0, 0))) ∧ (w'.heap[gb138]? = some (.cells #[.int .i64 x139000_1, u139001] 26 (0, 0))) ∧ (w'.heap[gb140]? = some (.cells #[.slice A139_0 ((rd_T45 l0 x15_1).f0.f0).length c139_0, .int .i64 ((rd_T45 l0 x15_1).f1), .int .i64 ((rd_T45 l0 x15_1).f2)] 45 (0, 0))) ∧ (w'.heap[s_.2.2.2]? = some (.cells #[.slice none 0 0] 43 (0, 0))) ∧ (w.heap.size ≤ s_.2.2.2) ∧ (w.heap.size ≤ s_.2.2.2) ∧ (gb136 ≠ s_.2.2.2) ∧ (s_.2.2.2 ≠ gb136) ∧ (gb138 ≠ s_.2.2.2) ∧ (s_.2.2.2 ≠ gb138) ∧ (gb140 ≠ s_.2.2.2) ∧ (s_.2.2.2 ≠ gb140) ∧ (Below w.heap.size w w')) ?_ ?_
            rotate_left
            ·intro hJ0_4_9_12
             refine join_ (σ := Value × Value × Value) 4 #[Y,Y,Y,Y,Y,Y,Y,Y,Y,Y,Z,Z,Z,Z] (fun s_ => [(19, s_.1), (23, s_.2.1), (28, s_.2.2)]) (fun s_ w' => (w'.cell? ⟨gb140, 0, none⟩ = some (.slice A139_0 ((rd_T45 l0 x15_1).f0.f0).length c139_0) ∧ w'.cell? ⟨gb140, 1, none⟩ = some (.int .i64 ((rd_T45 l0 x15_1).f1)) ∧ w'.cell? ⟨gb140, 2, none⟩ = some (.int .i64 ((rd_T45 l0 x15_1).f2))) ∧ (Kd.R (Kd.int .i64) 3 w' w.heap.size (fun k_ => some k_ ≠ (s_.2.2 : Value).ownBlock) s_.2.1 y144) ∧ (Kd.R (Kd.int .i64) 3 w' w.heap.size (fun k_ => some k_ ≠ (s_.2.1 : Value).ownBlock) s_.2.2 y147) ∧ (Kd.S k47 47 w' w.heap.size (fun k_ => some k_ ≠ (s_.2.1 : Value).ownBlock ∧ some k_ ≠ (s_.2.2 : Value).ownBlock) u139001 x139001_1) ∧ (w'.heap[gb136]? = some (.cells #[.int .i64 0, .slice none 0 0] 26 (0, 0))) ∧ (w'.heap[gb138]? = some (.cells #[.int .i64 x139000_1, u139001] 26 (0, 0))) ∧ (w'.heap[gb140]? = some (.cells #[.slice A139_0 ((rd_T45 l0 x15_1).f0.f0).length c139_0, .int .i64 ((rd_T45 l0 x15_1).f1), .int .i64 ((rd_T45 l0 x15_1).f2)] 45 (0, 0))) ∧ (Below w.heap.size w w')) ?_ ?_
             rotate_left
             ·intro hJ0_4_9
              refine join_ (σ := Value × Value × Nat) 4 #[Y,Y,Y,Y,Y,Y,Y,Y,Y,Z,Z,Z,Y,Z] (fun s_ => [(19, s_.1), (23, s_.2.1), (7, .pointer (some ⟨s_.2.2, 0, none⟩))]) (fun s_ w' => (w'.cell? ⟨gb140, 0, none⟩ = some (.slice A139_0 ((rd_T45 l0 x15_1).f0.f0).length c139_0) ∧ w'.cell? ⟨gb140, 1, none⟩ = some (.int .i64 ((rd_T45 l0 x15_1).f1)) ∧ w'.cell? ⟨gb140, 2, none⟩ = some (.int .i64 ((rd_T45 l0 x15_1).f2))) ∧ (Kd.R (Kd.int .i64) 3 w' w.heap.size (fun _ => True) s_.2.1 y144) ∧ (Kd.S k47 47 w' w.heap.size (fun k_ => some k_ ≠ (s_.2.1 : Value).ownBlock) u139001 x139001_1) ∧ (w'.heap[gb136]? = some (.cells #[.int .i64 0, .slice none 0 0] 26 (0, 0))) ∧ (w'.heap[gb138]? = some (.cells #[.int .i64 x139000_1, u139001] 26 (0, 0))) ∧ (w'.heap[gb140]? = some (.cells #[.slice A139_0 ((rd_T45 l0 x15_1).f0.f0).length c139_0, .int .i64 ((rd_T45 l0 x15_1).f1), .int .i64 ((rd_T45 l0 x15_1).f2)] 45 (0, 0))) ∧ (w'.heap[s_.2.2]? = some (.cells #[.slice none 0 0] 43 (0, 0))) ∧ (w.heap.size ≤ s_.2.2) ∧ (w.heap.size ≤ s_.2.2) ∧ (gb136 ≠ s_.2.2) ∧ (s_.2.2 ≠ gb136) ∧ (gb138 ≠ s_.2.2) ∧ (s_.2.2 ≠ gb138) ∧ (gb140 ≠ s_.2.2) ∧ (s_.2.2 ≠ gb140) ∧ (Below w.heap.size w w')) ?_ ?_
              rotate_left
              ·intro hJ0_4_12
               refine join_ (σ := Value × Value × Nat) 4 #[Y,Y,Y,Y,Z,Y,Y,Y,Y,Y,Z,Z,Y,Z] (fun s_ => [(19, s_.1), (28, s_.2.1), (7, .pointer (some ⟨s_.2.2, 0, none⟩))]) (fun s_ w' => (w'.cell? ⟨gb140, 0, none⟩ = some (.slice A139_0 ((rd_T45 l0 x15_1).f0.f0).length c139_0) ∧ w'.cell? ⟨gb140, 1, none⟩ = some (.int .i64 ((rd_T45 l0 x15_1).f1)) ∧ w'.cell? ⟨gb140, 2, none⟩ = some (.int .i64 ((rd_T45 l0 x15_1).f2))) ∧ (Kd.R (Kd.int .i64) 3 w' w.heap.size (fun k_ => some k_ ≠ (s_.2.1 : Value).ownBlock) s_.1 y141) ∧ (Kd.R (Kd.int .i64) 3 w' w.heap.size (fun k_ => some k_ ≠ (s_.1 : Value).ownBlock) s_.2.1 y147) ∧ (Kd.S k47 47 w' w.heap.size (fun k_ => some k_ ≠ (s_.1 : Value).ownBlock ∧ some k_ ≠ (s_.2.1 : Value).ownBlock) u139001 x139001_1) ∧ (w'.heap[gb136]? = some (.cells #[.int .i64 0, .slice none 0 0] 26 (0, 0))) ∧ (w'.heap[gb138]? = some (.cells #[.int .i64 x139000_1, u139001] 26 (0, 0))) ∧ (w'.heap[gb140]? = some (.cells #[.slice A139_0 ((rd_T45 l0 x15_1).f0.f0).length c139_0, .int .i64 ((rd_T45 l0 x15_1).f1), .int .i64 ((rd_T45 l0 x15_1).f2)] 45 (0, 0))) ∧ (w'.heap[s_.2.2]? = some (.cells #[.slice none 0 0] 43 (0, 0))) ∧ (w.heap.size ≤ s_.2.2) ∧ (w.heap.size ≤ s_.2.2) ∧ (gb136 ≠ s_.2.2) ∧ (s_.2.2 ≠ gb136) ∧ (gb138 ≠ s_.2.2) ∧ (s_.2.2 ≠ gb138) ∧ (gb140 ≠ s_.2.2) ∧ (s_.2.2 ≠ gb140) ∧ (Below w.heap.size w w')) ?_ ?_
               rotate_left
               ·intro hJ0_9_12
                refine join_ (σ := Value × Value) 5 #[Y,Y,Y,Y,Y,Y,Y,Y,Y,Z,Z,Z,Z,Z] (fun s_ => [(19, s_.1), (23, s_.2)]) (fun s_ w' => (w'.cell? ⟨gb140, 0, none⟩ = some (.slice A139_0 ((rd_T45 l0 x15_1).f0.f0).length c139_0) ∧ w'.cell? ⟨gb140, 1, none⟩ = some (.int .i64 ((rd_T45 l0 x15_1).f1)) ∧ w'.cell? ⟨gb140, 2, none⟩ = some (.int .i64 ((rd_T45 l0 x15_1).f2))) ∧ (Kd.R (Kd.int .i64) 3 w' w.heap.size (fun _ => True) s_.2 y144) ∧ (Kd.S k47 47 w' w.heap.size (fun k_ => some k_ ≠ (s_.2 : Value).ownBlock) u139001 x139001_1) ∧ (w'.heap[gb136]? = some (.cells #[.int .i64 0, .slice none 0 0] 26 (0, 0))) ∧ (w'.heap[gb138]? = some (.cells #[.int .i64 x139000_1, u139001] 26 (0, 0))) ∧ (w'.heap[gb140]? = some (.cells #[.slice A139_0 ((rd_T45 l0 x15_1).f0.f0).length c139_0, .int .i64 ((rd_T45 l0 x15_1).f1), .int .i64 ((rd_T45 l0 x15_1).f2)] 45 (0, 0))) ∧ (Below w.heap.size w w')) ?_ ?_
                rotate_left
                ·intro hJ0_4
                 refine join_ (σ := Value × Value) 5 #[Y,Y,Y,Y,Z,Y,Y,Y,Y,Y,Z,Z,Z,Z] (fun s_ => [(19, s_.1), (28, s_.2)]) (fun s_ w' => (w'.cell? ⟨gb140, 0, none⟩ = some (.slice A139_0 ((rd_T45 l0 x15_1).f0.f0).length c139_0) ∧ w'.cell? ⟨gb140, 1, none⟩ = some (.int .i64 ((rd_T45 l0 x15_1).f1)) ∧ w'.cell? ⟨gb140, 2, none⟩ = some (.int .i64 ((rd_T45 l0 x15_1).f2))) ∧ (Kd.R (Kd.int .i64) 3 w' w.heap.size (fun k_ => some k_ ≠ (s_.2 : Value).ownBlock) s_.1 y141) ∧ (Kd.R (Kd.int .i64) 3 w' w.heap.size (fun k_ => some k_ ≠ (s_.1 : Value).ownBlock) s_.2 y147) ∧ (Kd.S k47 47 w' w.heap.size (fun k_ => some k_ ≠ (s_.1 : Value).ownBlock ∧ some k_ ≠ (s_.2 : Value).ownBlock) u139001 x139001_1) ∧ (w'.heap[gb136]? = some (.cells #[.int .i64 0, .slice none 0 0] 26 (0, 0))) ∧ (w'.heap[gb138]? = some (.cells #[.int .i64 x139000_1, u139001] 26 (0, 0))) ∧ (w'.heap[gb140]? = some (.cells #[.slice A139_0 ((rd_T45 l0 x15_1).f0.f0).length c139_0, .int .i64 ((rd_T45 l0 x15_1).f1), .int .i64 ((rd_T45 l0 x15_1).f2)] 45 (0, 0))) ∧ (Below w.heap.size w w')) ?_ ?_
                 rotate_left
                 ·intro hJ0_9
                  refine join_ (σ := Value × Nat) 5 #[Y,Y,Y,Y,Z,Y,Y,Y,Y,Z,Z,Z,Y,Z] (fun s_ => [(19, s_.1), (7, .pointer (some ⟨s_.2, 0, none⟩))]) (fun s_ w' => (w'.cell? ⟨gb140, 0, none⟩ = some (.slice A139_0 ((rd_T45 l0 x15_1).f0.f0).length c139_0) ∧ w'.cell? ⟨gb140, 1, none⟩ = some (.int .i64 ((rd_T45 l0 x15_1).f1)) ∧ w'.cell? ⟨gb140, 2, none⟩ = some (.int .i64 ((rd_T45 l0 x15_1).f2))) ∧ (Kd.R (Kd.int .i64) 3 w' w.heap.size (fun _ => True) s_.1 y141) ∧ (Kd.S k47 47 w' w.heap.size (fun k_ => some k_ ≠ (s_.1 : Value).ownBlock) u139001 x139001_1) ∧ (w'.heap[gb136]? = some (.cells #[.int .i64 0, .slice none 0 0] 26 (0, 0))) ∧ (w'.heap[gb138]? = some (.cells #[.int .i64 x139000_1, u139001] 26 (0, 0))) ∧ (w'.heap[gb140]? = some (.cells #[.slice A139_0 ((rd_T45 l0 x15_1).f0.f0).length c139_0, .int .i64 ((rd_T45 l0 x15_1).f1), .int .i64 ((rd_T45 l0 x15_1).f2)] 45 (0, 0))) ∧ (w'.heap[s_.2]? = some (.cells #[.slice none 0 0] 43 (0, 0))) ∧ (w.heap.size ≤ s_.2) ∧ (w.heap.size ≤ s_.2) ∧ (gb136 ≠ s_.2) ∧ (s_.2 ≠ gb136) ∧ (gb138 ≠ s_.2) ∧ (s_.2 ≠ gb138) ∧ (gb140 ≠ s_.2) ∧ (s_.2 ≠ gb140) ∧ (Below w.heap.size w w')) ?_ ?_
                  rotate_left
                  ·intro hJ0_12
                   refine join_ (σ := Value × Nat) 5 #[Z,Y,Y,Y,Z,Y,Y,Y,Y,Y,Z,Z,Y,Z] (fun s_ => [(28, s_.1), (7, .pointer (some ⟨s_.2, 0, none⟩))]) (fun s_ w' => (w'.cell? ⟨gb140, 0, none⟩ = some (.slice A139_0 ((rd_T45 l0 x15_1).f0.f0).length c139_0) ∧ w'.cell? ⟨gb140, 1, none⟩ = some (.int .i64 ((rd_T45 l0 x15_1).f1)) ∧ w'.cell? ⟨gb140, 2, none⟩ = some (.int .i64 ((rd_T45 l0 x15_1).f2))) ∧ (Kd.R (Kd.int .i64) 3 w' w.heap.size (fun _ => True) s_.1 y147) ∧ (Kd.S k47 47 w' w.heap.size (fun k_ => some k_ ≠ (s_.1 : Value).ownBlock) u139001 x139001_1) ∧ (w'.heap[gb136]? = some (.cells #[.int .i64 0, .slice none 0 0] 26 (0, 0))) ∧ (w'.heap[gb138]? = some (.cells #[.int .i64 x139000_1, u139001] 26 (0, 0))) ∧ (w'.heap[gb140]? = some (.cells #[.slice A139_0 ((rd_T45 l0 x15_1).f0.f0).length c139_0, .int .i64 ((rd_T45 l0 x15_1).f1), .int .i64 ((rd_T45 l0 x15_1).f2)] 45 (0, 0))) ∧ (w'.heap[s_.2]? = some (.cells #[.slice none 0 0] 43 (0, 0))) ∧ (w.heap.size ≤ s_.2) ∧ (w.heap.size ≤ s_.2) ∧ (gb136 ≠ s_.2) ∧ (s_.2 ≠ gb136) ∧ (gb138 ≠ s_.2) ∧ (s_.2 ≠ gb138) ∧ (gb140 ≠ s_.2) ∧ (s_.2 ≠ gb140) ∧ (Below w.heap.size w w')) ?_ ?_
                   rotate_left
                   ·intro hJ9_12
                    refine join_ (σ := Value) 6 #[Y,Y,Y,Y,Z,Y,Y,Y,Y,Z,Z,Z,Z,Z] (fun s_ => [(19, s_)]) (fun s_ w' => (w'.cell? ⟨gb140, 0, none⟩ = some (.slice A139_0 ((rd_T45 l0 x15_1).f0.f0).length c139_0) ∧ w'.cell? ⟨gb140, 1, none⟩ = some (.int .i64 ((rd_T45 l0 x15_1).f1)) ∧ w'.cell? ⟨gb140, 2, none⟩ = some (.int .i64 ((rd_T45 l0 x15_1).f2))) ∧ (Kd.R (Kd.int .i64) 3 w' w.heap.size (fun _ => True) s_ y141) ∧ (Kd.S k47 47 w' w.heap.size (fun k_ => some k_ ≠ (s_ : Value).ownBlock) u139001 x139001_1) ∧ (w'.heap[gb136]? = some (.cells #[.int .i64 0, .slice none 0 0] 26 (0, 0))) ∧ (w'.heap[gb138]? = some (.cells #[.int .i64 x139000_1, u139001] 26 (0, 0))) ∧ (w'.heap[gb140]? = some (.cells #[.slice A139_0 ((rd_T45 l0 x15_1).f0.f0).length c139_0, .int .i64 ((rd_T45 l0 x15_1).f1), .int .i64 ((rd_T45 l0 x15_1).f2)] 45 (0, 0))) ∧ (Below w.heap.size w w')) ?_ ?_
                    rotate_left
                    ·intro hJ0
                     refine join_ (σ := Value) 6 #[Z,Y,Y,Y,Z,Y,Y,Y,Y,Y,Z,Z,Z,Z] (fun s_ => [(28, s_)]) (fun s_ w' => (w'.cell? ⟨gb140, 0, none⟩ = some (.slice A139_0 ((rd_T45 l0 x15_1).f0.f0).length c139_0) ∧ w'.cell? ⟨gb140, 1, none⟩ = some (.int .i64 ((rd_T45 l0 x15_1).f1)) ∧ w'.cell? ⟨gb140, 2, none⟩ = some (.int .i64 ((rd_T45 l0 x15_1).f2))) ∧ (Kd.R (Kd.int .i64) 3 w' w.heap.size (fun _ => True) s_ y147) ∧ (Kd.S k47 47 w' w.heap.size (fun k_ => some k_ ≠ (s_ : Value).ownBlock) u139001 x139001_1) ∧ (w'.heap[gb136]? = some (.cells #[.int .i64 0, .slice none 0 0] 26 (0, 0))) ∧ (w'.heap[gb138]? = some (.cells #[.int .i64 x139000_1, u139001] 26 (0, 0))) ∧ (w'.heap[gb140]? = some (.cells #[.slice A139_0 ((rd_T45 l0 x15_1).f0.f0).length c139_0, .int .i64 ((rd_T45 l0 x15_1).f1), .int .i64 ((rd_T45 l0 x15_1).f2)] 45 (0, 0))) ∧ (Below w.heap.size w w')) ?_ ?_
                     rotate_left
                     ·intro hJ9
                      refine join_ (σ := Nat) 6 #[Z,Y,Y,Y,Z,Y,Y,Y,Y,Z,Z,Z,Y,Z] (fun s_ => [(7, .pointer (some ⟨s_, 0, none⟩))]) (fun s_ w' => (w'.cell? ⟨gb140, 0, none⟩ = some (.slice A139_0 ((rd_T45 l0 x15_1).f0.f0).length c139_0) ∧ w'.cell? ⟨gb140, 1, none⟩ = some (.int .i64 ((rd_T45 l0 x15_1).f1)) ∧ w'.cell? ⟨gb140, 2, none⟩ = some (.int .i64 ((rd_T45 l0 x15_1).f2))) ∧ (Kd.S k47 47 w' w.heap.size (fun _ => True) u139001 x139001_1) ∧ (w'.heap[gb136]? = some (.cells #[.int .i64 0, .slice none 0 0] 26 (0, 0))) ∧ (w'.heap[gb138]? = some (.cells #[.int .i64 x139000_1, u139001] 26 (0, 0))) ∧ (w'.heap[gb140]? = some (.cells #[.slice A139_0 ((rd_T45 l0 x15_1).f0.f0).length c139_0, .int .i64 ((rd_T45 l0 x15_1).f1), .int .i64 ((rd_T45 l0 x15_1).f2)] 45 (0, 0))) ∧ (w'.heap[s_]? = some (.cells #[.slice none 0 0] 43 (0, 0))) ∧ (w.heap.size ≤ s_) ∧ (w.heap.size ≤ s_) ∧ (gb136 ≠ s_) ∧ (s_ ≠ gb136) ∧ (gb138 ≠ s_) ∧ (s_ ≠ gb138) ∧ (gb140 ≠ s_) ∧ (s_ ≠ gb140) ∧ (Below w.heap.size w w')) ?_ ?_
                      rotate_left
                      ·intro hJ12
                       refine three_ (i := 0) (j := 9) (k := 12) (Ni := some 19) (Nj := some 28) (Nk := some 7) #[Y,Y,Y,Y,Z,Y,Y,Y,Y,Z,Z,Z,Z,Z] #[Z,Y,Y,Y,Z,Y,Y,Y,Y,Y,Z,Z,Z,Z] #[Z,Y,Y,Y,Z,Y,Y,Y,Y,Z,Z,Z,Y,Z] rfl rfl rfl rfl rfl rfl (three_of HT_.out (by kernel_rfl)) (by decide) (by decide) (by decide) (fun K hK => ?_) (fun K hK => ?_) (fun K hK => ?_)
                       ·skip
                        refine Kd.R_lit_step (Kd.int .i64) _ 3 ?hg (N := 19) ?hd (xs := ([] : List Int)) (inner := []) (ok := fun _ => True) (okp := fun _ => True) ?hr ?hp (fun _ hk => hk) trivial (Below.refl _ _) (Nat.le_refl _) (by simp) ?_; (case hd => rfl); (case hg => rfl); (case hr => exact zB); (case hp => exact (Reps.none _ _))
                        intro v142 w21 ho22 hb hg_ hnew_
                        clear hg_ hnew_
                        (first | rw [← Ny141.out] at ho22 | (simp only [Int.reduceToNat] at ho22; rw [← Ny141.out] at ho22))
                        have n0_ := xm (Kd.S_elder' (by (with_reducible repeat (first | apply Kd.S_alloc | apply Kd.S_drewN | apply Kd.S_drew)); exact HO_139001.out) (Kd.R_base ho22) hb)
                        have n1_ := xm (Kd.R_lower ho22 (xz bG))
                        have n2_ := xm (blk_below (kB BK136) hb)
                        have n3_ := xm (blk_below (kB BK138) hb)
                        have n4_ := xm (blk_below (kB BK140) hb)
                        have n5_ := xm (below_step bG hb)
                        revert n0_ n1_ n2_ n3_ n4_ n5_; clear HO_139001 BK136 BK138 BK140 HB; intro HO_139001 HO143 BK136 BK138 BK140 HB
                        clear hb ho22
                        refine hK.out _ _ ⟨(xc BK140.out 0).trans rfl, (xc BK140.out 1).trans rfl, (xc BK140.out 2).trans rfl⟩ (fun hHeld => nC ?_)
                        clear hK K
                        exact norm_ pB (hJ0 (v142) _ ⟨hHeld, (rB HO143), (by (with_reducible repeat (first | apply Kd.S_alloc | apply Kd.S_drewN | apply Kd.S_drew)); exact Kd.S_mono HO_139001.out (fun _ hk => hk.2)), (kB BK136), (kB BK138), (kB BK140), bG⟩)
                       ·skip
                        refine Kd.R_lit_step (Kd.int .i64) _ 3 ?hg (N := 28) ?hd (xs := ([(rd_T45 l0 x15_1).f1, (rd_T45 l0 x15_1).f2] : List Int)) (inner := [.int .i64 ((rd_T45 l0 x15_1).f1), .int .i64 ((rd_T45 l0 x15_1).f2)]) (ok := fun _ => True) (okp := fun _ => True) ?hr ?hp (fun _ hk => hk) trivial (Below.refl _ _) (Nat.le_refl _) (by simp) ?_; (case hd => rfl); (case hg => rfl); (case hr => exact zB); (case hp => exact (Reps.one (show Kd.M (Kd.int .i64) _ _ _ ((rd_T45 l0 x15_1).f1) [.int .i64 ((rd_T45 l0 x15_1).f1)] from rfl) (Reps.one (show Kd.M (Kd.int .i64) _ _ _ ((rd_T45 l0 x15_1).f2) [.int .i64 ((rd_T45 l0 x15_1).f2)] from rfl) (Reps.none _ _))))
                        intro v148 w21 ho22 hb hg_ hnew_
                        clear hg_ hnew_
                        (first | rw [← Ny147.out] at ho22 | (simp only [Int.reduceToNat] at ho22; rw [← Ny147.out] at ho22))
                        have n0_ := xm (Kd.S_elder' (by (with_reducible repeat (first | apply Kd.S_alloc | apply Kd.S_drewN | apply Kd.S_drew)); exact HO_139001.out) (Kd.R_base ho22) hb)
                        have n1_ := xm (Kd.R_lower ho22 (xz bG))
                        have n2_ := xm (blk_below (kB BK136) hb)
                        have n3_ := xm (blk_below (kB BK138) hb)
                        have n4_ := xm (blk_below (kB BK140) hb)
                        have n5_ := xm (below_step bG hb)
                        revert n0_ n1_ n2_ n3_ n4_ n5_; clear HO_139001 BK136 BK138 BK140 HB; intro HO_139001 HO149 BK136 BK138 BK140 HB
                        clear hb ho22
                        refine hK.out _ _ ⟨(xc BK140.out 0).trans rfl, (xc BK140.out 1).trans rfl, (xc BK140.out 2).trans rfl⟩ (fun hHeld => nC ?_)
                        clear hK K
                        exact norm_ pB (hJ9 (v148) _ ⟨hHeld, (rB HO149), (by (with_reducible repeat (first | apply Kd.S_alloc | apply Kd.S_drewN | apply Kd.S_drew)); exact Kd.S_mono HO_139001.out (fun _ hk => hk.2)), (kB BK136), (kB BK138), (kB BK140), bG⟩)
                       ·skip
                        refine box_step ?hg (N := 7) ?hd (cs := #[.slice none 0 0]) (t := 43) ?hr ?_; (case hd => rfl); (case hg => rfl); (case hr => exact zB)
                        intro gb153 hg w21 hbox hb
                        have n0_ := xm (Kd.S_below (by (with_reducible repeat (first | apply Kd.S_alloc | apply Kd.S_drewN | apply Kd.S_drew)); exact HO_139001.out) hb)
                        have n1_ := xm (blk_below (kB BK136) hb)
                        have n2_ := xm (blk_below (kB BK138) hb)
                        have n3_ := xm (blk_below (kB BK140) hb)
                        have n4_ := xm (below_step bG hb)
                        have n5_ := xm (hbox)
                        have n6_ := xm ((by rw [hg]; exact (xz bG) : w.heap.size ≤ gb153))
                        have n7_ := xm ((by rw [hg]; exact (xz bG) : w.heap.size ≤ gb153))
                        have n8_ := xm ((by rw [hg]; exact Nat.ne_of_lt (blk_lt (kB BK136)) : gb136 ≠ gb153))
                        have n9_ := xm ((by rw [hg]; exact Nat.ne_of_gt (blk_lt (kB BK136)) : gb153 ≠ gb136))
                        have n10_ := xm ((by rw [hg]; exact Nat.ne_of_lt (blk_lt (kB BK138)) : gb138 ≠ gb153))
                        have n11_ := xm ((by rw [hg]; exact Nat.ne_of_gt (blk_lt (kB BK138)) : gb153 ≠ gb138))
                        have n12_ := xm ((by rw [hg]; exact Nat.ne_of_lt (blk_lt (kB BK140)) : gb140 ≠ gb153))
                        have n13_ := xm ((by rw [hg]; exact Nat.ne_of_gt (blk_lt (kB BK140)) : gb153 ≠ gb140))
                        revert n0_ n1_ n2_ n3_ n4_ n5_ n6_ n7_ n8_ n9_ n10_ n11_ n12_ n13_; clear HO_139001 BK136 BK138 BK140 HB; intro HO_139001 BK136 BK138 BK140 HB BK153 GW153 GE153 NB136_153 NB153_136 NB138_153 NB153_138 NB140_153 NB153_140
                        clear hb hbox hg
                        refine hK.out _ _ ⟨(xc BK140.out 0).trans rfl, (xc BK140.out 1).trans rfl, (xc BK140.out 2).trans rfl⟩ (fun hHeld => nC ?_)
                        clear hK K
                        exact norm_ pB (hJ12 (gb153) _ ⟨hHeld, (by (with_reducible repeat (first | apply Kd.S_alloc | apply Kd.S_drewN | apply Kd.S_drew)); exact HO_139001.out), (kB BK136), (kB BK138), (kB BK140), (kB BK153), GW153.out, GE153.out, NB136_153.out, NB153_136.out, NB138_153.out, NB153_138.out, NB140_153.out, NB153_140.out, bG⟩)
                      ·skip
                       rintro gb153 w22 ⟨hS_, h0_, h1_, h2_, h3_, h4_, h5_, h6_, h7_, h8_, h9_, h10_, h11_, h12_, h13_⟩
                       (try dsimp only at h0_ h1_ h2_ h3_ h4_ h5_ h6_ h7_ h8_ h9_ h10_ h11_ h12_ h13_)
                       have n0_ := xm h0_
                       have n1_ := xm h1_
                       have n2_ := xm h2_
                       have n3_ := xm h3_
                       have n4_ := xm h4_
                       have n5_ := xm h5_
                       have n6_ := xm h6_
                       have n7_ := xm h7_
                       have n8_ := xm h8_
                       have n9_ := xm h9_
                       have n10_ := xm h10_
                       have n11_ := xm h11_
                       have n12_ := xm h12_
                       have n13_ := xm h13_
                       clear HO_139001
                       clear BK136
                       clear BK138
                       clear BK140
                       clear HB
                       clear h0_ h1_ h2_ h3_ h4_ h5_ h6_ h7_ h8_ h9_ h10_ h11_ h12_ h13_
                       revert n0_ n1_ n2_ n3_ n4_ n5_ n6_ n7_ n8_ n9_ n10_ n11_ n12_ n13_; intro HO_139001 BK136 BK138 BK140 BK153 GW153 GE153 NB136_153 NB153_136 NB138_153 NB153_138 NB140_153 NB153_140 HB
                       have hHeld : w22.cell? ⟨gb140, 0, none⟩ = some (.slice A139_0 ((rd_T45 l0 x15_1).f0.f0).length c139_0) ∧ w22.cell? ⟨gb140, 1, none⟩ = some (.int .i64 ((rd_T45 l0 x15_1).f1)) ∧ w22.cell? ⟨gb140, 2, none⟩ = some (.int .i64 ((rd_T45 l0 x15_1).f2)) := hS_
                       refine norm_ (a' := ?_) ?_ ?_
                       rotate_left
                       ·simp only [putAll, Act.put, xi, xj, xk]
                        rfl
                       refine two_ (i := 0) (j := 9) (Ni := some 19) (Nj := some 28) #[Y,Y,Y,Y,Z,Y,Y,Y,Y,Z,Z,Z,Y,Z] #[Z,Y,Y,Y,Z,Y,Y,Y,Y,Y,Z,Z,Y,Z] rfl rfl rfl rfl (two_of HT_.out (by kernel_rfl)) (by decide) (by decide) (fun K hK => ?_) (fun K hK => ?_)
                       ·skip
                        refine Kd.R_lit_step (Kd.int .i64) _ 3 ?hg (N := 19) ?hd (xs := ([] : List Int)) (inner := []) (ok := fun _ => True) (okp := fun _ => True) ?hr ?hp (fun _ hk => hk) trivial (Below.refl _ _) (Nat.le_refl _) (by simp) ?_; (case hd => rfl); (case hg => rfl); (case hr => exact zB); (case hp => exact (Reps.none _ _))
                        intro v142 w23 ho24 hb hg_ hnew_
                        clear hg_ hnew_
                        (first | rw [← Ny141.out] at ho24 | (simp only [Int.reduceToNat] at ho24; rw [← Ny141.out] at ho24))
                        have n0_ := xm (Kd.S_elder' (by (with_reducible repeat (first | apply Kd.S_alloc | apply Kd.S_drewN | apply Kd.S_drew)); exact HO_139001.out) (Kd.R_base ho24) hb)
                        have n1_ := xm (Kd.R_lower ho24 (xz bG))
                        have n2_ := xm (blk_below (kB BK136) hb)
                        have n3_ := xm (blk_below (kB BK138) hb)
                        have n4_ := xm (blk_below (kB BK140) hb)
                        have n5_ := xm (blk_below (kB BK153) hb)
                        have n6_ := xm (below_step bG hb)
                        revert n0_ n1_ n2_ n3_ n4_ n5_ n6_; clear HO_139001 BK136 BK138 BK140 BK153 HB; intro HO_139001 HO143 BK136 BK138 BK140 BK153 HB
                        clear hb ho24
                        refine hK.out _ _ ⟨(xc BK140.out 0).trans rfl, (xc BK140.out 1).trans rfl, (xc BK140.out 2).trans rfl⟩ (fun hHeld => nC ?_)
                        clear hK K
                        exact norm_ pB (hJ0_12 (v142, gb153) _ ⟨hHeld, (rB HO143), (by (with_reducible repeat (first | apply Kd.S_alloc | apply Kd.S_drewN | apply Kd.S_drew)); exact Kd.S_mono HO_139001.out (fun _ hk => hk.2)), (kB BK136), (kB BK138), (kB BK140), (kB BK153), GW153.out, GE153.out, NB136_153.out, NB153_136.out, NB138_153.out, NB153_138.out, NB140_153.out, NB153_140.out, bG⟩)
                       ·skip
                        refine Kd.R_lit_step (Kd.int .i64) _ 3 ?hg (N := 28) ?hd (xs := ([(rd_T45 l0 x15_1).f1, (rd_T45 l0 x15_1).f2] : List Int)) (inner := [.int .i64 ((rd_T45 l0 x15_1).f1), .int .i64 ((rd_T45 l0 x15_1).f2)]) (ok := fun _ => True) (okp := fun _ => True) ?hr ?hp (fun _ hk => hk) trivial (Below.refl _ _) (Nat.le_refl _) (by simp) ?_; (case hd => rfl); (case hg => rfl); (case hr => exact zB); (case hp => exact (Reps.one (show Kd.M (Kd.int .i64) _ _ _ ((rd_T45 l0 x15_1).f1) [.int .i64 ((rd_T45 l0 x15_1).f1)] from rfl) (Reps.one (show Kd.M (Kd.int .i64) _ _ _ ((rd_T45 l0 x15_1).f2) [.int .i64 ((rd_T45 l0 x15_1).f2)] from rfl) (Reps.none _ _))))
                        intro v148 w23 ho24 hb hg_ hnew_
                        clear hg_ hnew_
                        (first | rw [← Ny147.out] at ho24 | (simp only [Int.reduceToNat] at ho24; rw [← Ny147.out] at ho24))
                        have n0_ := xm (Kd.S_elder' (by (with_reducible repeat (first | apply Kd.S_alloc | apply Kd.S_drewN | apply Kd.S_drew)); exact HO_139001.out) (Kd.R_base ho24) hb)
                        have n1_ := xm (Kd.R_lower ho24 (xz bG))
                        have n2_ := xm (blk_below (kB BK136) hb)
                        have n3_ := xm (blk_below (kB BK138) hb)
                        have n4_ := xm (blk_below (kB BK140) hb)
                        have n5_ := xm (blk_below (kB BK153) hb)
                        have n6_ := xm (below_step bG hb)
                        revert n0_ n1_ n2_ n3_ n4_ n5_ n6_; clear HO_139001 BK136 BK138 BK140 BK153 HB; intro HO_139001 HO149 BK136 BK138 BK140 BK153 HB
                        clear hb ho24
                        refine hK.out _ _ ⟨(xc BK140.out 0).trans rfl, (xc BK140.out 1).trans rfl, (xc BK140.out 2).trans rfl⟩ (fun hHeld => nC ?_)
                        clear hK K
                        exact norm_ pB (hJ9_12 (v148, gb153) _ ⟨hHeld, (rB HO149), (by (with_reducible repeat (first | apply Kd.S_alloc | apply Kd.S_drewN | apply Kd.S_drew)); exact Kd.S_mono HO_139001.out (fun _ hk => hk.2)), (kB BK136), (kB BK138), (kB BK140), (kB BK153), GW153.out, GE153.out, NB136_153.out, NB153_136.out, NB138_153.out, NB153_138.out, NB140_153.out, NB153_140.out, bG⟩)
                     ·skip
                      rintro v148 w23 ⟨hS_, h0_, h1_, h2_, h3_, h4_, h5_⟩
                      (try dsimp only at h0_ h1_ h2_ h3_ h4_ h5_)
                      have n0_ := xm h0_
                      have n1_ := xm h1_
                      have n2_ := xm h2_
                      have n3_ := xm h3_
                      have n4_ := xm h4_
                      have n5_ := xm h5_
                      clear HO_139001
                      clear BK136
                      clear BK138
                      clear BK140
                      clear HB
                      clear h0_ h1_ h2_ h3_ h4_ h5_
                      revert n0_ n1_ n2_ n3_ n4_ n5_; intro HO149 HO_139001 BK136 BK138 BK140 HB
                      have hHeld : w23.cell? ⟨gb140, 0, none⟩ = some (.slice A139_0 ((rd_T45 l0 x15_1).f0.f0).length c139_0) ∧ w23.cell? ⟨gb140, 1, none⟩ = some (.int .i64 ((rd_T45 l0 x15_1).f1)) ∧ w23.cell? ⟨gb140, 2, none⟩ = some (.int .i64 ((rd_T45 l0 x15_1).f2)) := hS_
                      refine norm_ (a' := ?_) ?_ ?_
                      rotate_left
                      ·simp only [putAll, Act.put, xi, xj, xk]
                       rfl
                      refine two_ (i := 0) (j := 12) (Ni := some 19) (Nj := some 7) #[Y,Y,Y,Y,Z,Y,Y,Y,Y,Y,Z,Z,Z,Z] #[Z,Y,Y,Y,Z,Y,Y,Y,Y,Y,Z,Z,Y,Z] rfl rfl rfl rfl (two_of HT_.out (by kernel_rfl)) (by decide) (by decide) (fun K hK => ?_) (fun K hK => ?_)
                      ·skip
                       refine Kd.R_lit_step (Kd.int .i64) _ 3 ?hg (N := 19) ?hd (xs := ([] : List Int)) (inner := []) (ok := fun _ => True) (okp := fun _ => True) ?hr ?hp (fun _ hk => hk) trivial (Below.refl _ _) (Nat.le_refl _) (by simp) ?_; (case hd => rfl); (case hg => rfl); (case hr => exact zB); (case hp => exact (Reps.none _ _))
                       intro v142 w24 ho25 hb hg_ hnew_
                       clear hg_ hnew_
                       (first | rw [← Ny141.out] at ho25 | (simp only [Int.reduceToNat] at ho25; rw [← Ny141.out] at ho25))
                       have n0_ := xm (Kd.S_elder' (by (with_reducible repeat (first | apply Kd.S_alloc | apply Kd.S_drewN | apply Kd.S_drew)); exact HO_139001.out) (Kd.R_base ho25) hb)
                       have n1_ := xm (Kd.R_elder' (rB HO149) (Kd.R_base ho25) hb)
                       have n2_ := xm (Kd.R_lower (Kd.R_new' ho25 (Kd.R_lt (rB HO149))) (xz bG))
                       have n3_ := xm (blk_below (kB BK136) hb)
                       have n4_ := xm (blk_below (kB BK138) hb)
                       have n5_ := xm (blk_below (kB BK140) hb)
                       have n6_ := xm (below_step bG hb)
                       revert n0_ n1_ n2_ n3_ n4_ n5_ n6_; clear HO_139001 HO149 BK136 BK138 BK140 HB; intro HO_139001 HO149 HO143 BK136 BK138 BK140 HB
                       clear hb ho25
                       refine hK.out _ _ ⟨(xc BK140.out 0).trans rfl, (xc BK140.out 1).trans rfl, (xc BK140.out 2).trans rfl⟩ (fun hHeld => nC ?_)
                       clear hK K
                       exact norm_ pB (hJ0_9 (v142, v148) _ ⟨hHeld, (by (with_reducible repeat (first | apply Kd.R_alloc | apply Kd.R_drewN | apply Kd.R_drew)); exact Kd.R_mono HO143.out (fun _ hk => hk.2)), (by (with_reducible repeat (first | apply Kd.R_alloc | apply Kd.R_drewN | apply Kd.R_drew)); exact Kd.R_mono HO149.out (fun _ hk => hk.2)), (by (with_reducible repeat (first | apply Kd.S_alloc | apply Kd.S_drewN | apply Kd.S_drew)); exact Kd.S_mono HO_139001.out (fun _ hk => ⟨hk.2, hk.1⟩)), (kB BK136), (kB BK138), (kB BK140), bG⟩)
                      ·skip
                       refine box_step ?hg (N := 7) ?hd (cs := #[.slice none 0 0]) (t := 43) ?hr ?_; (case hd => rfl); (case hg => rfl); (case hr => exact zB)
                       intro gb153 hg w24 hbox hb
                       have n0_ := xm (Kd.S_below (by (with_reducible repeat (first | apply Kd.S_alloc | apply Kd.S_drewN | apply Kd.S_drew)); exact HO_139001.out) hb)
                       have n1_ := xm (Kd.R_below (rB HO149) hb)
                       have n2_ := xm (blk_below (kB BK136) hb)
                       have n3_ := xm (blk_below (kB BK138) hb)
                       have n4_ := xm (blk_below (kB BK140) hb)
                       have n5_ := xm (below_step bG hb)
                       have n6_ := xm (hbox)
                       have n7_ := xm ((by rw [hg]; exact (xz bG) : w.heap.size ≤ gb153))
                       have n8_ := xm ((by rw [hg]; exact (xz bG) : w.heap.size ≤ gb153))
                       have n9_ := xm ((by rw [hg]; exact Nat.ne_of_lt (blk_lt (kB BK136)) : gb136 ≠ gb153))
                       have n10_ := xm ((by rw [hg]; exact Nat.ne_of_gt (blk_lt (kB BK136)) : gb153 ≠ gb136))
                       have n11_ := xm ((by rw [hg]; exact Nat.ne_of_lt (blk_lt (kB BK138)) : gb138 ≠ gb153))
                       have n12_ := xm ((by rw [hg]; exact Nat.ne_of_gt (blk_lt (kB BK138)) : gb153 ≠ gb138))
                       have n13_ := xm ((by rw [hg]; exact Nat.ne_of_lt (blk_lt (kB BK140)) : gb140 ≠ gb153))
                       have n14_ := xm ((by rw [hg]; exact Nat.ne_of_gt (blk_lt (kB BK140)) : gb153 ≠ gb140))
                       revert n0_ n1_ n2_ n3_ n4_ n5_ n6_ n7_ n8_ n9_ n10_ n11_ n12_ n13_ n14_; clear HO_139001 HO149 BK136 BK138 BK140 HB; intro HO_139001 HO149 BK136 BK138 BK140 HB BK153 GW153 GE153 NB136_153 NB153_136 NB138_153 NB153_138 NB140_153 NB153_140
                       clear hb hbox hg
                       refine hK.out _ _ ⟨(xc BK140.out 0).trans rfl, (xc BK140.out 1).trans rfl, (xc BK140.out 2).trans rfl⟩ (fun hHeld => nC ?_)
                       clear hK K
                       exact norm_ pB (hJ9_12 (v148, gb153) _ ⟨hHeld, (rB HO149), (by (with_reducible repeat (first | apply Kd.S_alloc | apply Kd.S_drewN | apply Kd.S_drew)); exact HO_139001.out), (kB BK136), (kB BK138), (kB BK140), (kB BK153), GW153.out, GE153.out, NB136_153.out, NB153_136.out, NB138_153.out, NB153_138.out, NB140_153.out, NB153_140.out, bG⟩)
                    ·skip
                     rintro v142 w23 ⟨hS_, h0_, h1_, h2_, h3_, h4_, h5_⟩
                     (try dsimp only at h0_ h1_ h2_ h3_ h4_ h5_)
                     have n0_ := xm h0_
                     have n1_ := xm h1_
                     have n2_ := xm h2_
                     have n3_ := xm h3_
                     have n4_ := xm h4_
                     have n5_ := xm h5_
                     clear HO_139001
                     clear BK136
                     clear BK138
                     clear BK140
                     clear HB
                     clear h0_ h1_ h2_ h3_ h4_ h5_
                     revert n0_ n1_ n2_ n3_ n4_ n5_; intro HO143 HO_139001 BK136 BK138 BK140 HB
                     have hHeld : w23.cell? ⟨gb140, 0, none⟩ = some (.slice A139_0 ((rd_T45 l0 x15_1).f0.f0).length c139_0) ∧ w23.cell? ⟨gb140, 1, none⟩ = some (.int .i64 ((rd_T45 l0 x15_1).f1)) ∧ w23.cell? ⟨gb140, 2, none⟩ = some (.int .i64 ((rd_T45 l0 x15_1).f2)) := hS_
                     refine norm_ (a' := ?_) ?_ ?_
                     rotate_left
                     ·simp only [putAll, Act.put, xi, xj, xk]
                      rfl
                     refine three_ (i := 4) (j := 9) (k := 12) (Ni := some 23) (Nj := some 28) (Nk := some 7) #[Y,Y,Y,Y,Y,Y,Y,Y,Y,Z,Z,Z,Z,Z] #[Y,Y,Y,Y,Z,Y,Y,Y,Y,Y,Z,Z,Z,Z] #[Y,Y,Y,Y,Z,Y,Y,Y,Y,Z,Z,Z,Y,Z] rfl rfl rfl rfl rfl rfl (three_of HT_.out (by kernel_rfl)) (by decide) (by decide) (by decide) (fun K hK => ?_) (fun K hK => ?_) (fun K hK => ?_)
                     ·skip
                      refine Kd.R_append_rows_step (Kd.int .i64) (w0 := w) w.heap.size (by rfl) (.tmp 19) (.tmp 22) 37 3 (.int .i64 0) 8 rfl Try.underlying37 info3 rfl (by decide) (by omega) v142 y141 ((rd_T45 l0 x15_1).f0.f0) _ _ _ (fun _ => True) (fun _ => False) rfl rfl ?aO ?aR (fun _ _ h => h) (fun _ h => h.elim) ?aF ?aB ?aS ?aL ?_
                      (case aR => exact cB (Kd.C_below HR139_0.out HB.out))
                      (case aB => exact bG)
                      (case aF => exact (fun _ _ => trivial))
                      (case aO => exact (rB HO143))
                      (case aS => exact (xz bG))
                      (case aL => have := LMc12.out; omega)
                      intro v145 w24 ho hb hg hat
                      rw [← Ny144.out] at ho
                      have n0_ := xm (Kd.S_after (ok := (fun _ => True)) (by (with_reducible repeat (first | apply Kd.S_alloc | apply Kd.S_drewN | apply Kd.S_drew)); exact Kd.S_mono HO_139001.out (fun _ hk => ⟨trivial, hk⟩)) hg hat)
                      have n1_ := xm (blk_grown (kB BK136) hg (Kd.R_ne HO143.out BK136.out (by decide)))
                      have n2_ := xm (blk_grown (kB BK138) hg (Kd.R_ne HO143.out BK138.out (by decide)))
                      have n3_ := xm (blk_grown (kB BK140) hg (Kd.R_ne HO143.out BK140.out (by decide)))
                      have n4_ := xm (hb)
                      have n5_ := xm (ho)
                      revert n0_ n1_ n2_ n3_ n4_ n5_; clear HO_139001 BK136 BK138 BK140 HB HO143; intro HO_139001 BK136 BK138 BK140 HB HO146
                      clear ho hb hg hat
                      refine hK.out _ _ ⟨(xc BK140.out 0).trans rfl, (xc BK140.out 1).trans rfl, (xc BK140.out 2).trans rfl⟩ (fun hHeld => nC ?_)
                      clear hK K
                      exact norm_ pB (hJ0_4 (v142, v145) _ ⟨hHeld, (rB HO146), (by (with_reducible repeat (first | apply Kd.S_alloc | apply Kd.S_drewN | apply Kd.S_drew)); exact Kd.S_mono HO_139001.out (fun _ hk => hk.2)), (kB BK136), (kB BK138), (kB BK140), bG⟩)
                     ·skip
                      refine Kd.R_lit_step (Kd.int .i64) _ 3 ?hg (N := 28) ?hd (xs := ([(rd_T45 l0 x15_1).f1, (rd_T45 l0 x15_1).f2] : List Int)) (inner := [.int .i64 ((rd_T45 l0 x15_1).f1), .int .i64 ((rd_T45 l0 x15_1).f2)]) (ok := fun _ => True) (okp := fun _ => True) ?hr ?hp (fun _ hk => hk) trivial (Below.refl _ _) (Nat.le_refl _) (by simp) ?_; (case hd => rfl); (case hg => rfl); (case hr => exact zB); (case hp => exact (Reps.one (show Kd.M (Kd.int .i64) _ _ _ ((rd_T45 l0 x15_1).f1) [.int .i64 ((rd_T45 l0 x15_1).f1)] from rfl) (Reps.one (show Kd.M (Kd.int .i64) _ _ _ ((rd_T45 l0 x15_1).f2) [.int .i64 ((rd_T45 l0 x15_1).f2)] from rfl) (Reps.none _ _))))
                      intro v148 w24 ho25 hb hg_ hnew_
                      clear hg_ hnew_
                      (first | rw [← Ny147.out] at ho25 | (simp only [Int.reduceToNat] at ho25; rw [← Ny147.out] at ho25))
                      have n0_ := xm (Kd.S_elder' (by (with_reducible repeat (first | apply Kd.S_alloc | apply Kd.S_drewN | apply Kd.S_drew)); exact HO_139001.out) (Kd.R_base ho25) hb)
                      have n1_ := xm (Kd.R_elder' (rB HO143) (Kd.R_base ho25) hb)
                      have n2_ := xm (Kd.R_lower (Kd.R_new' ho25 (Kd.R_lt (rB HO143))) (xz bG))
                      have n3_ := xm (blk_below (kB BK136) hb)
                      have n4_ := xm (blk_below (kB BK138) hb)
                      have n5_ := xm (blk_below (kB BK140) hb)
                      have n6_ := xm (below_step bG hb)
                      revert n0_ n1_ n2_ n3_ n4_ n5_ n6_; clear HO_139001 HO143 BK136 BK138 BK140 HB; intro HO_139001 HO143 HO149 BK136 BK138 BK140 HB
                      clear hb ho25
                      refine hK.out _ _ ⟨(xc BK140.out 0).trans rfl, (xc BK140.out 1).trans rfl, (xc BK140.out 2).trans rfl⟩ (fun hHeld => nC ?_)
                      clear hK K
                      exact norm_ pB (hJ0_9 (v142, v148) _ ⟨hHeld, (by (with_reducible repeat (first | apply Kd.R_alloc | apply Kd.R_drewN | apply Kd.R_drew)); exact Kd.R_mono HO143.out (fun _ hk => hk.2)), (by (with_reducible repeat (first | apply Kd.R_alloc | apply Kd.R_drewN | apply Kd.R_drew)); exact Kd.R_mono HO149.out (fun _ hk => hk.2)), (by (with_reducible repeat (first | apply Kd.S_alloc | apply Kd.S_drewN | apply Kd.S_drew)); exact HO_139001.out), (kB BK136), (kB BK138), (kB BK140), bG⟩)
                     ·skip
                      refine box_step ?hg (N := 7) ?hd (cs := #[.slice none 0 0]) (t := 43) ?hr ?_; (case hd => rfl); (case hg => rfl); (case hr => exact zB)
                      intro gb153 hg w24 hbox hb
                      have n0_ := xm (Kd.S_below (by (with_reducible repeat (first | apply Kd.S_alloc | apply Kd.S_drewN | apply Kd.S_drew)); exact HO_139001.out) hb)
                      have n1_ := xm (Kd.R_below (rB HO143) hb)
                      have n2_ := xm (blk_below (kB BK136) hb)
                      have n3_ := xm (blk_below (kB BK138) hb)
                      have n4_ := xm (blk_below (kB BK140) hb)
                      have n5_ := xm (below_step bG hb)
                      have n6_ := xm (hbox)
                      have n7_ := xm ((by rw [hg]; exact (xz bG) : w.heap.size ≤ gb153))
                      have n8_ := xm ((by rw [hg]; exact (xz bG) : w.heap.size ≤ gb153))
                      have n9_ := xm ((by rw [hg]; exact Nat.ne_of_lt (blk_lt (kB BK136)) : gb136 ≠ gb153))
                      have n10_ := xm ((by rw [hg]; exact Nat.ne_of_gt (blk_lt (kB BK136)) : gb153 ≠ gb136))
                      have n11_ := xm ((by rw [hg]; exact Nat.ne_of_lt (blk_lt (kB BK138)) : gb138 ≠ gb153))
                      have n12_ := xm ((by rw [hg]; exact Nat.ne_of_gt (blk_lt (kB BK138)) : gb153 ≠ gb138))
                      have n13_ := xm ((by rw [hg]; exact Nat.ne_of_lt (blk_lt (kB BK140)) : gb140 ≠ gb153))
                      have n14_ := xm ((by rw [hg]; exact Nat.ne_of_gt (blk_lt (kB BK140)) : gb153 ≠ gb140))
                      revert n0_ n1_ n2_ n3_ n4_ n5_ n6_ n7_ n8_ n9_ n10_ n11_ n12_ n13_ n14_; clear HO_139001 HO143 BK136 BK138 BK140 HB; intro HO_139001 HO143 BK136 BK138 BK140 HB BK153 GW153 GE153 NB136_153 NB153_136 NB138_153 NB153_138 NB140_153 NB153_140
                      clear hb hbox hg
                      refine hK.out _ _ ⟨(xc BK140.out 0).trans rfl, (xc BK140.out 1).trans rfl, (xc BK140.out 2).trans rfl⟩ (fun hHeld => nC ?_)
                      clear hK K
                      exact norm_ pB (hJ0_12 (v142, gb153) _ ⟨hHeld, (rB HO143), (by (with_reducible repeat (first | apply Kd.S_alloc | apply Kd.S_drewN | apply Kd.S_drew)); exact HO_139001.out), (kB BK136), (kB BK138), (kB BK140), (kB BK153), GW153.out, GE153.out, NB136_153.out, NB153_136.out, NB138_153.out, NB153_138.out, NB140_153.out, NB153_140.out, bG⟩)
                   ·skip
                    rintro ⟨v148, gb153⟩ w24 ⟨hS_, h0_, h1_, h2_, h3_, h4_, h5_, h6_, h7_, h8_, h9_, h10_, h11_, h12_, h13_, h14_⟩
                    (try dsimp only at h0_ h1_ h2_ h3_ h4_ h5_ h6_ h7_ h8_ h9_ h10_ h11_ h12_ h13_ h14_)
                    have n0_ := xm h0_
                    have n1_ := xm h1_
                    have n2_ := xm h2_
                    have n3_ := xm h3_
                    have n4_ := xm h4_
                    have n5_ := xm h5_
                    have n6_ := xm h6_
                    have n7_ := xm h7_
                    have n8_ := xm h8_
                    have n9_ := xm h9_
                    have n10_ := xm h10_
                    have n11_ := xm h11_
                    have n12_ := xm h12_
                    have n13_ := xm h13_
                    have n14_ := xm h14_
                    clear HO_139001
                    clear BK136
                    clear BK138
                    clear BK140
                    clear HB
                    clear h0_ h1_ h2_ h3_ h4_ h5_ h6_ h7_ h8_ h9_ h10_ h11_ h12_ h13_ h14_
                    revert n0_ n1_ n2_ n3_ n4_ n5_ n6_ n7_ n8_ n9_ n10_ n11_ n12_ n13_ n14_; intro HO149 HO_139001 BK136 BK138 BK140 BK153 GW153 GE153 NB136_153 NB153_136 NB138_153 NB153_138 NB140_153 NB153_140 HB
                    have hHeld : w24.cell? ⟨gb140, 0, none⟩ = some (.slice A139_0 ((rd_T45 l0 x15_1).f0.f0).length c139_0) ∧ w24.cell? ⟨gb140, 1, none⟩ = some (.int .i64 ((rd_T45 l0 x15_1).f1)) ∧ w24.cell? ⟨gb140, 2, none⟩ = some (.int .i64 ((rd_T45 l0 x15_1).f2)) := hS_
                    refine norm_ (a' := ?_) ?_ ?_
                    rotate_left
                    ·simp only [putAll, Act.put, xi, xj, xk]
                     rfl
                    refine one_ (i := 0) (N := some 19) #[Y,Y,Y,Y,Z,Y,Y,Y,Y,Y,Z,Z,Y,Z] rfl rfl (one_of HT_.out (by kernel_rfl)) (by decide) (fun K hK => ?_)
                    refine Kd.R_lit_step (Kd.int .i64) _ 3 ?hg (N := 19) ?hd (xs := ([] : List Int)) (inner := []) (ok := fun _ => True) (okp := fun _ => True) ?hr ?hp (fun _ hk => hk) trivial (Below.refl _ _) (Nat.le_refl _) (by simp) ?_; (case hd => rfl); (case hg => rfl); (case hr => exact zB); (case hp => exact (Reps.none _ _))
                    intro v142 w25 ho26 hb hg_ hnew_
                    clear hg_ hnew_
                    (first | rw [← Ny141.out] at ho26 | (simp only [Int.reduceToNat] at ho26; rw [← Ny141.out] at ho26))
                    have n0_ := xm (Kd.S_elder' (by (with_reducible repeat (first | apply Kd.S_alloc | apply Kd.S_drewN | apply Kd.S_drew)); exact HO_139001.out) (Kd.R_base ho26) hb)
                    have n1_ := xm (Kd.R_elder' (rB HO149) (Kd.R_base ho26) hb)
                    have n2_ := xm (Kd.R_lower (Kd.R_new' ho26 (Kd.R_lt (rB HO149))) (xz bG))
                    have n3_ := xm (blk_below (kB BK136) hb)
                    have n4_ := xm (blk_below (kB BK138) hb)
                    have n5_ := xm (blk_below (kB BK140) hb)
                    have n6_ := xm (blk_below (kB BK153) hb)
                    have n7_ := xm (below_step bG hb)
                    revert n0_ n1_ n2_ n3_ n4_ n5_ n6_ n7_; clear HO_139001 HO149 BK136 BK138 BK140 BK153 HB; intro HO_139001 HO149 HO143 BK136 BK138 BK140 BK153 HB
                    clear hb ho26
                    refine hK.out _ _ ⟨(xc BK140.out 0).trans rfl, (xc BK140.out 1).trans rfl, (xc BK140.out 2).trans rfl⟩ (fun hHeld => nC ?_)
                    clear hK K
                    exact norm_ pB (hJ0_9_12 (v142, v148, gb153) _ ⟨hHeld, (by (with_reducible repeat (first | apply Kd.R_alloc | apply Kd.R_drewN | apply Kd.R_drew)); exact Kd.R_mono HO143.out (fun _ hk => hk.2)), (by (with_reducible repeat (first | apply Kd.R_alloc | apply Kd.R_drewN | apply Kd.R_drew)); exact Kd.R_mono HO149.out (fun _ hk => hk.2)), (by (with_reducible repeat (first | apply Kd.S_alloc | apply Kd.S_drewN | apply Kd.S_drew)); exact Kd.S_mono HO_139001.out (fun _ hk => ⟨hk.2, hk.1⟩)), (kB BK136), (kB BK138), (kB BK140), (kB BK153), GW153.out, GE153.out, NB136_153.out, NB153_136.out, NB138_153.out, NB153_138.out, NB140_153.out, NB153_140.out, bG⟩)
                  ·skip
                   rintro ⟨v142, gb153⟩ w24 ⟨hS_, h0_, h1_, h2_, h3_, h4_, h5_, h6_, h7_, h8_, h9_, h10_, h11_, h12_, h13_, h14_⟩
                   (try dsimp only at h0_ h1_ h2_ h3_ h4_ h5_ h6_ h7_ h8_ h9_ h10_ h11_ h12_ h13_ h14_)
                   have n0_ := xm h0_
                   have n1_ := xm h1_
                   have n2_ := xm h2_
                   have n3_ := xm h3_
                   have n4_ := xm h4_
                   have n5_ := xm h5_
                   have n6_ := xm h6_
                   have n7_ := xm h7_
                   have n8_ := xm h8_
                   have n9_ := xm h9_
                   have n10_ := xm h10_
                   have n11_ := xm h11_
                   have n12_ := xm h12_
                   have n13_ := xm h13_
                   have n14_ := xm h14_
                   clear HO_139001
                   clear BK136
                   clear BK138
                   clear BK140
                   clear HB
                   clear h0_ h1_ h2_ h3_ h4_ h5_ h6_ h7_ h8_ h9_ h10_ h11_ h12_ h13_ h14_
                   revert n0_ n1_ n2_ n3_ n4_ n5_ n6_ n7_ n8_ n9_ n10_ n11_ n12_ n13_ n14_; intro HO143 HO_139001 BK136 BK138 BK140 BK153 GW153 GE153 NB136_153 NB153_136 NB138_153 NB153_138 NB140_153 NB153_140 HB
                   have hHeld : w24.cell? ⟨gb140, 0, none⟩ = some (.slice A139_0 ((rd_T45 l0 x15_1).f0.f0).length c139_0) ∧ w24.cell? ⟨gb140, 1, none⟩ = some (.int .i64 ((rd_T45 l0 x15_1).f1)) ∧ w24.cell? ⟨gb140, 2, none⟩ = some (.int .i64 ((rd_T45 l0 x15_1).f2)) := hS_
                   refine norm_ (a' := ?_) ?_ ?_
                   rotate_left
                   ·simp only [putAll, Act.put, xi, xj, xk]
                    rfl
                   refine two_ (i := 4) (j := 9) (Ni := some 23) (Nj := some 28) #[Y,Y,Y,Y,Y,Y,Y,Y,Y,Z,Z,Z,Y,Z] #[Y,Y,Y,Y,Z,Y,Y,Y,Y,Y,Z,Z,Y,Z] rfl rfl rfl rfl (two_of HT_.out (by kernel_rfl)) (by decide) (by decide) (fun K hK => ?_) (fun K hK => ?_)
                   ·skip
                    refine Kd.R_append_rows_step (Kd.int .i64) (w0 := w) w.heap.size (by rfl) (.tmp 19) (.tmp 22) 37 3 (.int .i64 0) 8 rfl Try.underlying37 info3 rfl (by decide) (by omega) v142 y141 ((rd_T45 l0 x15_1).f0.f0) _ _ _ (fun _ => True) (fun _ => False) rfl rfl ?aO ?aR (fun _ _ h => h) (fun _ h => h.elim) ?aF ?aB ?aS ?aL ?_
                    (case aR => exact cB (Kd.C_below HR139_0.out HB.out))
                    (case aB => exact bG)
                    (case aF => exact (fun _ _ => trivial))
                    (case aO => exact (rB HO143))
                    (case aS => exact (xz bG))
                    (case aL => have := LMc12.out; omega)
                    intro v145 w25 ho hb hg hat
                    rw [← Ny144.out] at ho
                    have n0_ := xm (Kd.S_after (ok := (fun _ => True)) (by (with_reducible repeat (first | apply Kd.S_alloc | apply Kd.S_drewN | apply Kd.S_drew)); exact Kd.S_mono HO_139001.out (fun _ hk => ⟨trivial, hk⟩)) hg hat)
                    have n1_ := xm (blk_grown (kB BK136) hg (Kd.R_ne HO143.out BK136.out (by decide)))
                    have n2_ := xm (blk_grown (kB BK138) hg (Kd.R_ne HO143.out BK138.out (by decide)))
                    have n3_ := xm (blk_grown (kB BK140) hg (Kd.R_ne HO143.out BK140.out (by decide)))
                    have n4_ := xm (blk_grown (kB BK153) hg (Kd.R_ne HO143.out BK153.out (by decide)))
                    have n5_ := xm (hb)
                    have n6_ := xm (ho)
                    revert n0_ n1_ n2_ n3_ n4_ n5_ n6_; clear HO_139001 BK136 BK138 BK140 BK153 HB HO143; intro HO_139001 BK136 BK138 BK140 BK153 HB HO146
                    clear ho hb hg hat
                    refine hK.out _ _ ⟨(xc BK140.out 0).trans rfl, (xc BK140.out 1).trans rfl, (xc BK140.out 2).trans rfl⟩ (fun hHeld => nC ?_)
                    clear hK K
                    exact norm_ pB (hJ0_4_12 (v142, v145, gb153) _ ⟨hHeld, (rB HO146), (by (with_reducible repeat (first | apply Kd.S_alloc | apply Kd.S_drewN | apply Kd.S_drew)); exact Kd.S_mono HO_139001.out (fun _ hk => hk.2)), (kB BK136), (kB BK138), (kB BK140), (kB BK153), GW153.out, GE153.out, NB136_153.out, NB153_136.out, NB138_153.out, NB153_138.out, NB140_153.out, NB153_140.out, bG⟩)
                   ·skip
                    refine Kd.R_lit_step (Kd.int .i64) _ 3 ?hg (N := 28) ?hd (xs := ([(rd_T45 l0 x15_1).f1, (rd_T45 l0 x15_1).f2] : List Int)) (inner := [.int .i64 ((rd_T45 l0 x15_1).f1), .int .i64 ((rd_T45 l0 x15_1).f2)]) (ok := fun _ => True) (okp := fun _ => True) ?hr ?hp (fun _ hk => hk) trivial (Below.refl _ _) (Nat.le_refl _) (by simp) ?_; (case hd => rfl); (case hg => rfl); (case hr => exact zB); (case hp => exact (Reps.one (show Kd.M (Kd.int .i64) _ _ _ ((rd_T45 l0 x15_1).f1) [.int .i64 ((rd_T45 l0 x15_1).f1)] from rfl) (Reps.one (show Kd.M (Kd.int .i64) _ _ _ ((rd_T45 l0 x15_1).f2) [.int .i64 ((rd_T45 l0 x15_1).f2)] from rfl) (Reps.none _ _))))
                    intro v148 w25 ho26 hb hg_ hnew_
                    clear hg_ hnew_
                    (first | rw [← Ny147.out] at ho26 | (simp only [Int.reduceToNat] at ho26; rw [← Ny147.out] at ho26))
                    have n0_ := xm (Kd.S_elder' (by (with_reducible repeat (first | apply Kd.S_alloc | apply Kd.S_drewN | apply Kd.S_drew)); exact HO_139001.out) (Kd.R_base ho26) hb)
                    have n1_ := xm (Kd.R_elder' (rB HO143) (Kd.R_base ho26) hb)
                    have n2_ := xm (Kd.R_lower (Kd.R_new' ho26 (Kd.R_lt (rB HO143))) (xz bG))
                    have n3_ := xm (blk_below (kB BK136) hb)
                    have n4_ := xm (blk_below (kB BK138) hb)
                    have n5_ := xm (blk_below (kB BK140) hb)
                    have n6_ := xm (blk_below (kB BK153) hb)
                    have n7_ := xm (below_step bG hb)
                    revert n0_ n1_ n2_ n3_ n4_ n5_ n6_ n7_; clear HO_139001 HO143 BK136 BK138 BK140 BK153 HB; intro HO_139001 HO143 HO149 BK136 BK138 BK140 BK153 HB
                    clear hb ho26
                    refine hK.out _ _ ⟨(xc BK140.out 0).trans rfl, (xc BK140.out 1).trans rfl, (xc BK140.out 2).trans rfl⟩ (fun hHeld => nC ?_)
                    clear hK K
                    exact norm_ pB (hJ0_9_12 (v142, v148, gb153) _ ⟨hHeld, (by (with_reducible repeat (first | apply Kd.R_alloc | apply Kd.R_drewN | apply Kd.R_drew)); exact Kd.R_mono HO143.out (fun _ hk => hk.2)), (by (with_reducible repeat (first | apply Kd.R_alloc | apply Kd.R_drewN | apply Kd.R_drew)); exact Kd.R_mono HO149.out (fun _ hk => hk.2)), (by (with_reducible repeat (first | apply Kd.S_alloc | apply Kd.S_drewN | apply Kd.S_drew)); exact HO_139001.out), (kB BK136), (kB BK138), (kB BK140), (kB BK153), GW153.out, GE153.out, NB136_153.out, NB153_136.out, NB138_153.out, NB153_138.out, NB140_153.out, NB153_140.out, bG⟩)
                 ·skip
                  rintro ⟨v142, v148⟩ w25 ⟨hS_, h0_, h1_, h2_, h3_, h4_, h5_, h6_⟩
                  (try dsimp only at h0_ h1_ h2_ h3_ h4_ h5_ h6_)
                  have n0_ := xm h0_
                  have n1_ := xm h1_
                  have n2_ := xm h2_
                  have n3_ := xm h3_
                  have n4_ := xm h4_
                  have n5_ := xm h5_
                  have n6_ := xm h6_
                  clear HO_139001
                  clear BK136
                  clear BK138
                  clear BK140
                  clear HB
                  clear h0_ h1_ h2_ h3_ h4_ h5_ h6_
                  revert n0_ n1_ n2_ n3_ n4_ n5_ n6_; intro HO143 HO149 HO_139001 BK136 BK138 BK140 HB
                  have hHeld : w25.cell? ⟨gb140, 0, none⟩ = some (.slice A139_0 ((rd_T45 l0 x15_1).f0.f0).length c139_0) ∧ w25.cell? ⟨gb140, 1, none⟩ = some (.int .i64 ((rd_T45 l0 x15_1).f1)) ∧ w25.cell? ⟨gb140, 2, none⟩ = some (.int .i64 ((rd_T45 l0 x15_1).f2)) := hS_
                  refine norm_ (a' := ?_) ?_ ?_
                  rotate_left
                  ·simp only [putAll, Act.put, xi, xj, xk]
                   rfl
                  refine two_ (i := 4) (j := 12) (Ni := some 23) (Nj := some 7) #[Y,Y,Y,Y,Y,Y,Y,Y,Y,Y,Z,Z,Z,Z] #[Y,Y,Y,Y,Z,Y,Y,Y,Y,Y,Z,Z,Y,Z] rfl rfl rfl rfl (two_of HT_.out (by kernel_rfl)) (by decide) (by decide) (fun K hK => ?_) (fun K hK => ?_)
                  ·skip
                   refine Kd.R_append_rows_step (Kd.int .i64) (w0 := w) w.heap.size (by rfl) (.tmp 19) (.tmp 22) 37 3 (.int .i64 0) 8 rfl Try.underlying37 info3 rfl (by decide) (by omega) v142 y141 ((rd_T45 l0 x15_1).f0.f0) _ _ _ (fun k_ => some k_ ≠ (v148 : Value).ownBlock) (fun _ => False) rfl rfl ?aO ?aR (fun _ _ h => h) (fun _ h => h.elim) ?aF ?aB ?aS ?aL ?_
                   (case aR => exact cB (Kd.C_below HR139_0.out HB.out))
                   (case aB => exact bG)
                   (case aF => exact (fun k_ hk => Kd.fresh' (Kd.R_lt (rB HO149)) k_ hk))
                   (case aO => exact (rB HO143))
                   (case aS => exact (xz bG))
                   (case aL => have := LMc12.out; omega)
                   intro v145 w26 ho hb hg hat
                   rw [← Ny144.out] at ho
                   have n0_ := xm (Kd.S_after (ok := (fun k_ => some k_ ≠ (v148 : Value).ownBlock)) (by (with_reducible repeat (first | apply Kd.S_alloc | apply Kd.S_drewN | apply Kd.S_drew)); exact Kd.S_mono HO_139001.out (fun _ hk => ⟨hk.2, hk.1⟩)) hg hat)
                   have n1_ := xm (blk_grown (kB BK136) hg (Kd.R_ne HO143.out BK136.out (by decide)))
                   have n2_ := xm (blk_grown (kB BK138) hg (Kd.R_ne HO143.out BK138.out (by decide)))
                   have n3_ := xm (blk_grown (kB BK140) hg (Kd.R_ne HO143.out BK140.out (by decide)))
                   have n4_ := xm (Kd.R_after (ok := (fun _ => True)) (by (with_reducible repeat (first | apply Kd.R_alloc | apply Kd.R_drewN | apply Kd.R_drew)); exact Kd.R_mono HO149.out (fun _ hk => ⟨trivial, hk⟩)) hg hat)
                   have n5_ := xm (hb)
                   have n6_ := xm (ho)
                   revert n0_ n1_ n2_ n3_ n4_ n5_ n6_; clear HO_139001 BK136 BK138 BK140 HO149 HB HO143; intro HO_139001 BK136 BK138 BK140 HO149 HB HO146
                   clear ho hb hg hat
                   refine hK.out _ _ ⟨(xc BK140.out 0).trans rfl, (xc BK140.out 1).trans rfl, (xc BK140.out 2).trans rfl⟩ (fun hHeld => nC ?_)
                   clear hK K
                   exact norm_ pB (hJ0_4_9 (v142, v145, v148) _ ⟨hHeld, (rB HO146), (by (with_reducible repeat (first | apply Kd.R_alloc | apply Kd.R_drewN | apply Kd.R_drew)); exact Kd.R_mono HO149.out (fun _ hk => hk.2)), (by (with_reducible repeat (first | apply Kd.S_alloc | apply Kd.S_drewN | apply Kd.S_drew)); exact Kd.S_mono HO_139001.out (fun _ hk => ⟨hk.2, hk.1⟩)), (kB BK136), (kB BK138), (kB BK140), bG⟩)
                  ·skip
                   refine box_step ?hg (N := 7) ?hd (cs := #[.slice none 0 0]) (t := 43) ?hr ?_; (case hd => rfl); (case hg => rfl); (case hr => exact zB)
                   intro gb153 hg w26 hbox hb
                   have n0_ := xm (Kd.S_below (by (with_reducible repeat (first | apply Kd.S_alloc | apply Kd.S_drewN | apply Kd.S_drew)); exact HO_139001.out) hb)
                   have n1_ := xm (Kd.R_below (rB HO143) hb)
                   have n2_ := xm (Kd.R_below (rB HO149) hb)
                   have n3_ := xm (blk_below (kB BK136) hb)
                   have n4_ := xm (blk_below (kB BK138) hb)
                   have n5_ := xm (blk_below (kB BK140) hb)
                   have n6_ := xm (below_step bG hb)
                   have n7_ := xm (hbox)
                   have n8_ := xm ((by rw [hg]; exact (xz bG) : w.heap.size ≤ gb153))
                   have n9_ := xm ((by rw [hg]; exact (xz bG) : w.heap.size ≤ gb153))
                   have n10_ := xm ((by rw [hg]; exact Nat.ne_of_lt (blk_lt (kB BK136)) : gb136 ≠ gb153))
                   have n11_ := xm ((by rw [hg]; exact Nat.ne_of_gt (blk_lt (kB BK136)) : gb153 ≠ gb136))
                   have n12_ := xm ((by rw [hg]; exact Nat.ne_of_lt (blk_lt (kB BK138)) : gb138 ≠ gb153))
                   have n13_ := xm ((by rw [hg]; exact Nat.ne_of_gt (blk_lt (kB BK138)) : gb153 ≠ gb138))
                   have n14_ := xm ((by rw [hg]; exact Nat.ne_of_lt (blk_lt (kB BK140)) : gb140 ≠ gb153))
                   have n15_ := xm ((by rw [hg]; exact Nat.ne_of_gt (blk_lt (kB BK140)) : gb153 ≠ gb140))
                   revert n0_ n1_ n2_ n3_ n4_ n5_ n6_ n7_ n8_ n9_ n10_ n11_ n12_ n13_ n14_ n15_; clear HO_139001 HO143 HO149 BK136 BK138 BK140 HB; intro HO_139001 HO143 HO149 BK136 BK138 BK140 HB BK153 GW153 GE153 NB136_153 NB153_136 NB138_153 NB153_138 NB140_153 NB153_140
                   clear hb hbox hg
                   refine hK.out _ _ ⟨(xc BK140.out 0).trans rfl, (xc BK140.out 1).trans rfl, (xc BK140.out 2).trans rfl⟩ (fun hHeld => nC ?_)
                   clear hK K
                   exact norm_ pB (hJ0_9_12 (v142, v148, gb153) _ ⟨hHeld, (rB HO143), (rB HO149), (by (with_reducible repeat (first | apply Kd.S_alloc | apply Kd.S_drewN | apply Kd.S_drew)); exact HO_139001.out), (kB BK136), (kB BK138), (kB BK140), (kB BK153), GW153.out, GE153.out, NB136_153.out, NB153_136.out, NB138_153.out, NB153_138.out, NB140_153.out, NB153_140.out, bG⟩)
                ·skip
                 rintro ⟨v142, v145⟩ w24 ⟨hS_, h0_, h1_, h2_, h3_, h4_, h5_⟩
                 (try dsimp only at h0_ h1_ h2_ h3_ h4_ h5_)
                 have n0_ := xm h0_
                 have n1_ := xm h1_
                 have n2_ := xm h2_
                 have n3_ := xm h3_
                 have n4_ := xm h4_
                 have n5_ := xm h5_
                 clear HO_139001
                 clear BK136
                 clear BK138
                 clear BK140
                 clear HB
                 clear h0_ h1_ h2_ h3_ h4_ h5_
                 revert n0_ n1_ n2_ n3_ n4_ n5_; intro HO146 HO_139001 BK136 BK138 BK140 HB
                 have hHeld : w24.cell? ⟨gb140, 0, none⟩ = some (.slice A139_0 ((rd_T45 l0 x15_1).f0.f0).length c139_0) ∧ w24.cell? ⟨gb140, 1, none⟩ = some (.int .i64 ((rd_T45 l0 x15_1).f1)) ∧ w24.cell? ⟨gb140, 2, none⟩ = some (.int .i64 ((rd_T45 l0 x15_1).f2)) := hS_
                 refine norm_ (a' := ?_) ?_ ?_
                 rotate_left
                 ·simp only [putAll, Act.put, xi, xj, xk]
                  rfl
                 refine two_ (i := 9) (j := 12) (Ni := some 28) (Nj := some 7) #[Y,Y,Y,Y,Y,Y,Y,Y,Y,Y,Z,Z,Z,Z] #[Y,Y,Y,Y,Y,Y,Y,Y,Y,Z,Z,Z,Y,Z] rfl rfl rfl rfl (two_of HT_.out (by kernel_rfl)) (by decide) (by decide) (fun K hK => ?_) (fun K hK => ?_)
                 ·skip
                  refine Kd.R_lit_step (Kd.int .i64) _ 3 ?hg (N := 28) ?hd (xs := ([(rd_T45 l0 x15_1).f1, (rd_T45 l0 x15_1).f2] : List Int)) (inner := [.int .i64 ((rd_T45 l0 x15_1).f1), .int .i64 ((rd_T45 l0 x15_1).f2)]) (ok := fun _ => True) (okp := fun _ => True) ?hr ?hp (fun _ hk => hk) trivial (Below.refl _ _) (Nat.le_refl _) (by simp) ?_; (case hd => rfl); (case hg => rfl); (case hr => exact zB); (case hp => exact (Reps.one (show Kd.M (Kd.int .i64) _ _ _ ((rd_T45 l0 x15_1).f1) [.int .i64 ((rd_T45 l0 x15_1).f1)] from rfl) (Reps.one (show Kd.M (Kd.int .i64) _ _ _ ((rd_T45 l0 x15_1).f2) [.int .i64 ((rd_T45 l0 x15_1).f2)] from rfl) (Reps.none _ _))))
                  intro v148 w25 ho26 hb hg_ hnew_
                  clear hg_ hnew_
                  (first | rw [← Ny147.out] at ho26 | (simp only [Int.reduceToNat] at ho26; rw [← Ny147.out] at ho26))
                  have n0_ := xm (Kd.S_elder' (by (with_reducible repeat (first | apply Kd.S_alloc | apply Kd.S_drewN | apply Kd.S_drew)); exact HO_139001.out) (Kd.R_base ho26) hb)
                  have n1_ := xm (Kd.R_elder' (rB HO146) (Kd.R_base ho26) hb)
                  have n2_ := xm (Kd.R_lower (Kd.R_new' ho26 (Kd.R_lt (rB HO146))) (xz bG))
                  have n3_ := xm (blk_below (kB BK136) hb)
                  have n4_ := xm (blk_below (kB BK138) hb)
                  have n5_ := xm (blk_below (kB BK140) hb)
                  have n6_ := xm (below_step bG hb)
                  revert n0_ n1_ n2_ n3_ n4_ n5_ n6_; clear HO_139001 HO146 BK136 BK138 BK140 HB; intro HO_139001 HO146 HO149 BK136 BK138 BK140 HB
                  clear hb ho26
                  refine hK.out _ _ ⟨(xc BK140.out 0).trans rfl, (xc BK140.out 1).trans rfl, (xc BK140.out 2).trans rfl⟩ (fun hHeld => nC ?_)
                  clear hK K
                  exact norm_ pB (hJ0_4_9 (v142, v145, v148) _ ⟨hHeld, (by (with_reducible repeat (first | apply Kd.R_alloc | apply Kd.R_drewN | apply Kd.R_drew)); exact Kd.R_mono HO146.out (fun _ hk => hk.2)), (by (with_reducible repeat (first | apply Kd.R_alloc | apply Kd.R_drewN | apply Kd.R_drew)); exact Kd.R_mono HO149.out (fun _ hk => hk.2)), (by (with_reducible repeat (first | apply Kd.S_alloc | apply Kd.S_drewN | apply Kd.S_drew)); exact HO_139001.out), (kB BK136), (kB BK138), (kB BK140), bG⟩)
                 ·skip
                  refine box_step ?hg (N := 7) ?hd (cs := #[.slice none 0 0]) (t := 43) ?hr ?_; (case hd => rfl); (case hg => rfl); (case hr => exact zB)
                  intro gb153 hg w25 hbox hb
                  have n0_ := xm (Kd.S_below (by (with_reducible repeat (first | apply Kd.S_alloc | apply Kd.S_drewN | apply Kd.S_drew)); exact HO_139001.out) hb)
                  have n1_ := xm (Kd.R_below (rB HO146) hb)
                  have n2_ := xm (blk_below (kB BK136) hb)
                  have n3_ := xm (blk_below (kB BK138) hb)
                  have n4_ := xm (blk_below (kB BK140) hb)
                  have n5_ := xm (below_step bG hb)
                  have n6_ := xm (hbox)
                  have n7_ := xm ((by rw [hg]; exact (xz bG) : w.heap.size ≤ gb153))
                  have n8_ := xm ((by rw [hg]; exact (xz bG) : w.heap.size ≤ gb153))
                  have n9_ := xm ((by rw [hg]; exact Nat.ne_of_lt (blk_lt (kB BK136)) : gb136 ≠ gb153))
                  have n10_ := xm ((by rw [hg]; exact Nat.ne_of_gt (blk_lt (kB BK136)) : gb153 ≠ gb136))
                  have n11_ := xm ((by rw [hg]; exact Nat.ne_of_lt (blk_lt (kB BK138)) : gb138 ≠ gb153))
                  have n12_ := xm ((by rw [hg]; exact Nat.ne_of_gt (blk_lt (kB BK138)) : gb153 ≠ gb138))
                  have n13_ := xm ((by rw [hg]; exact Nat.ne_of_lt (blk_lt (kB BK140)) : gb140 ≠ gb153))
                  have n14_ := xm ((by rw [hg]; exact Nat.ne_of_gt (blk_lt (kB BK140)) : gb153 ≠ gb140))
                  revert n0_ n1_ n2_ n3_ n4_ n5_ n6_ n7_ n8_ n9_ n10_ n11_ n12_ n13_ n14_; clear HO_139001 HO146 BK136 BK138 BK140 HB; intro HO_139001 HO146 BK136 BK138 BK140 HB BK153 GW153 GE153 NB136_153 NB153_136 NB138_153 NB153_138 NB140_153 NB153_140
                  clear hb hbox hg
                  refine hK.out _ _ ⟨(xc BK140.out 0).trans rfl, (xc BK140.out 1).trans rfl, (xc BK140.out 2).trans rfl⟩ (fun hHeld => nC ?_)
                  clear hK K
                  exact norm_ pB (hJ0_4_12 (v142, v145, gb153) _ ⟨hHeld, (rB HO146), (by (with_reducible repeat (first | apply Kd.S_alloc | apply Kd.S_drewN | apply Kd.S_drew)); exact HO_139001.out), (kB BK136), (kB BK138), (kB BK140), (kB BK153), GW153.out, GE153.out, NB136_153.out, NB153_136.out, NB138_153.out, NB153_138.out, NB140_153.out, NB153_140.out, bG⟩)
               ·skip
                rintro ⟨v142, v148, gb153⟩ w26 ⟨hS_, h0_, h1_, h2_, h3_, h4_, h5_, h6_, h7_, h8_, h9_, h10_, h11_, h12_, h13_, h14_, h15_⟩
                (try dsimp only at h0_ h1_ h2_ h3_ h4_ h5_ h6_ h7_ h8_ h9_ h10_ h11_ h12_ h13_ h14_ h15_)
                have n0_ := xm h0_
                have n1_ := xm h1_
                have n2_ := xm h2_
                have n3_ := xm h3_
                have n4_ := xm h4_
                have n5_ := xm h5_
                have n6_ := xm h6_
                have n7_ := xm h7_
                have n8_ := xm h8_
                have n9_ := xm h9_
                have n10_ := xm h10_
                have n11_ := xm h11_
                have n12_ := xm h12_
                have n13_ := xm h13_
                have n14_ := xm h14_
                have n15_ := xm h15_
                clear HO_139001
                clear BK136
                clear BK138
                clear BK140
                clear HB
                clear h0_ h1_ h2_ h3_ h4_ h5_ h6_ h7_ h8_ h9_ h10_ h11_ h12_ h13_ h14_ h15_
                revert n0_ n1_ n2_ n3_ n4_ n5_ n6_ n7_ n8_ n9_ n10_ n11_ n12_ n13_ n14_ n15_; intro HO143 HO149 HO_139001 BK136 BK138 BK140 BK153 GW153 GE153 NB136_153 NB153_136 NB138_153 NB153_138 NB140_153 NB153_140 HB
                have hHeld : w26.cell? ⟨gb140, 0, none⟩ = some (.slice A139_0 ((rd_T45 l0 x15_1).f0.f0).length c139_0) ∧ w26.cell? ⟨gb140, 1, none⟩ = some (.int .i64 ((rd_T45 l0 x15_1).f1)) ∧ w26.cell? ⟨gb140, 2, none⟩ = some (.int .i64 ((rd_T45 l0 x15_1).f2)) := hS_
                refine norm_ (a' := ?_) ?_ ?_
                rotate_left
                ·simp only [putAll, Act.put, xi, xj, xk]
                 rfl
                refine one_ (i := 4) (N := some 23) #[Y,Y,Y,Y,Y,Y,Y,Y,Y,Y,Z,Z,Y,Z] rfl rfl (one_of HT_.out (by kernel_rfl)) (by decide) (fun K hK => ?_)
                refine Kd.R_append_rows_step (Kd.int .i64) (w0 := w) w.heap.size (by rfl) (.tmp 19) (.tmp 22) 37 3 (.int .i64 0) 8 rfl Try.underlying37 info3 rfl (by decide) (by omega) v142 y141 ((rd_T45 l0 x15_1).f0.f0) _ _ _ (fun k_ => some k_ ≠ (v148 : Value).ownBlock) (fun _ => False) rfl rfl ?aO ?aR (fun _ _ h => h) (fun _ h => h.elim) ?aF ?aB ?aS ?aL ?_
                (case aR => exact cB (Kd.C_below HR139_0.out HB.out))
                (case aB => exact bG)
                (case aF => exact (fun k_ hk => Kd.fresh' (Kd.R_lt (rB HO149)) k_ hk))
                (case aO => exact (rB HO143))
                (case aS => exact (xz bG))
                (case aL => have := LMc12.out; omega)
                intro v145 w27 ho hb hg hat
                rw [← Ny144.out] at ho
                have n0_ := xm (Kd.S_after (ok := (fun k_ => some k_ ≠ (v148 : Value).ownBlock)) (by (with_reducible repeat (first | apply Kd.S_alloc | apply Kd.S_drewN | apply Kd.S_drew)); exact Kd.S_mono HO_139001.out (fun _ hk => ⟨hk.2, hk.1⟩)) hg hat)
                have n1_ := xm (blk_grown (kB BK136) hg (Kd.R_ne HO143.out BK136.out (by decide)))
                have n2_ := xm (blk_grown (kB BK138) hg (Kd.R_ne HO143.out BK138.out (by decide)))
                have n3_ := xm (blk_grown (kB BK140) hg (Kd.R_ne HO143.out BK140.out (by decide)))
                have n4_ := xm (Kd.R_after (ok := (fun _ => True)) (by (with_reducible repeat (first | apply Kd.R_alloc | apply Kd.R_drewN | apply Kd.R_drew)); exact Kd.R_mono HO149.out (fun _ hk => ⟨trivial, hk⟩)) hg hat)
                have n5_ := xm (blk_grown (kB BK153) hg (Kd.R_ne HO143.out BK153.out (by decide)))
                have n6_ := xm (hb)
                have n7_ := xm (ho)
                revert n0_ n1_ n2_ n3_ n4_ n5_ n6_ n7_; clear HO_139001 BK136 BK138 BK140 HO149 BK153 HB HO143; intro HO_139001 BK136 BK138 BK140 HO149 BK153 HB HO146
                clear ho hb hg hat
                refine hK.out _ _ ⟨(xc BK140.out 0).trans rfl, (xc BK140.out 1).trans rfl, (xc BK140.out 2).trans rfl⟩ (fun hHeld => nC ?_)
                clear hK K
                exact norm_ pB (hJ0_4_9_12 (v142, v145, v148, gb153) _ ⟨hHeld, (rB HO146), (by (with_reducible repeat (first | apply Kd.R_alloc | apply Kd.R_drewN | apply Kd.R_drew)); exact Kd.R_mono HO149.out (fun _ hk => hk.2)), (by (with_reducible repeat (first | apply Kd.S_alloc | apply Kd.S_drewN | apply Kd.S_drew)); exact Kd.S_mono HO_139001.out (fun _ hk => ⟨hk.2, hk.1⟩)), (kB BK136), (kB BK138), (kB BK140), (kB BK153), GW153.out, GE153.out, NB136_153.out, NB153_136.out, NB138_153.out, NB153_138.out, NB140_153.out, NB153_140.out, bG⟩)
              ·skip
               rintro ⟨v142, v145, gb153⟩ w25 ⟨hS_, h0_, h1_, h2_, h3_, h4_, h5_, h6_, h7_, h8_, h9_, h10_, h11_, h12_, h13_, h14_⟩
               (try dsimp only at h0_ h1_ h2_ h3_ h4_ h5_ h6_ h7_ h8_ h9_ h10_ h11_ h12_ h13_ h14_)
               have n0_ := xm h0_
               have n1_ := xm h1_
               have n2_ := xm h2_
               have n3_ := xm h3_
               have n4_ := xm h4_
               have n5_ := xm h5_
               have n6_ := xm h6_
               have n7_ := xm h7_
               have n8_ := xm h8_
               have n9_ := xm h9_
               have n10_ := xm h10_
               have n11_ := xm h11_
               have n12_ := xm h12_
               have n13_ := xm h13_
               have n14_ := xm h14_
               clear HO_139001
               clear BK136
               clear BK138
               clear BK140
               clear HB
               clear h0_ h1_ h2_ h3_ h4_ h5_ h6_ h7_ h8_ h9_ h10_ h11_ h12_ h13_ h14_
               revert n0_ n1_ n2_ n3_ n4_ n5_ n6_ n7_ n8_ n9_ n10_ n11_ n12_ n13_ n14_; intro HO146 HO_139001 BK136 BK138 BK140 BK153 GW153 GE153 NB136_153 NB153_136 NB138_153 NB153_138 NB140_153 NB153_140 HB
               have hHeld : w25.cell? ⟨gb140, 0, none⟩ = some (.slice A139_0 ((rd_T45 l0 x15_1).f0.f0).length c139_0) ∧ w25.cell? ⟨gb140, 1, none⟩ = some (.int .i64 ((rd_T45 l0 x15_1).f1)) ∧ w25.cell? ⟨gb140, 2, none⟩ = some (.int .i64 ((rd_T45 l0 x15_1).f2)) := hS_
               refine norm_ (a' := ?_) ?_ ?_
               rotate_left
               ·simp only [putAll, Act.put, xi, xj, xk]
                rfl
               refine one_ (i := 9) (N := some 28) #[Y,Y,Y,Y,Y,Y,Y,Y,Y,Y,Z,Z,Y,Z] rfl rfl (one_of HT_.out (by kernel_rfl)) (by decide) (fun K hK => ?_)
               refine Kd.R_lit_step (Kd.int .i64) _ 3 ?hg (N := 28) ?hd (xs := ([(rd_T45 l0 x15_1).f1, (rd_T45 l0 x15_1).f2] : List Int)) (inner := [.int .i64 ((rd_T45 l0 x15_1).f1), .int .i64 ((rd_T45 l0 x15_1).f2)]) (ok := fun _ => True) (okp := fun _ => True) ?hr ?hp (fun _ hk => hk) trivial (Below.refl _ _) (Nat.le_refl _) (by simp) ?_; (case hd => rfl); (case hg => rfl); (case hr => exact zB); (case hp => exact (Reps.one (show Kd.M (Kd.int .i64) _ _ _ ((rd_T45 l0 x15_1).f1) [.int .i64 ((rd_T45 l0 x15_1).f1)] from rfl) (Reps.one (show Kd.M (Kd.int .i64) _ _ _ ((rd_T45 l0 x15_1).f2) [.int .i64 ((rd_T45 l0 x15_1).f2)] from rfl) (Reps.none _ _))))
               intro v148 w26 ho27 hb hg_ hnew_
               clear hg_ hnew_
               (first | rw [← Ny147.out] at ho27 | (simp only [Int.reduceToNat] at ho27; rw [← Ny147.out] at ho27))
               have n0_ := xm (Kd.S_elder' (by (with_reducible repeat (first | apply Kd.S_alloc | apply Kd.S_drewN | apply Kd.S_drew)); exact HO_139001.out) (Kd.R_base ho27) hb)
               have n1_ := xm (Kd.R_elder' (rB HO146) (Kd.R_base ho27) hb)
               have n2_ := xm (Kd.R_lower (Kd.R_new' ho27 (Kd.R_lt (rB HO146))) (xz bG))
               have n3_ := xm (blk_below (kB BK136) hb)
               have n4_ := xm (blk_below (kB BK138) hb)
               have n5_ := xm (blk_below (kB BK140) hb)
               have n6_ := xm (blk_below (kB BK153) hb)
               have n7_ := xm (below_step bG hb)
               revert n0_ n1_ n2_ n3_ n4_ n5_ n6_ n7_; clear HO_139001 HO146 BK136 BK138 BK140 BK153 HB; intro HO_139001 HO146 HO149 BK136 BK138 BK140 BK153 HB
               clear hb ho27
               refine hK.out _ _ ⟨(xc BK140.out 0).trans rfl, (xc BK140.out 1).trans rfl, (xc BK140.out 2).trans rfl⟩ (fun hHeld => nC ?_)
               clear hK K
               exact norm_ pB (hJ0_4_9_12 (v142, v145, v148, gb153) _ ⟨hHeld, (by (with_reducible repeat (first | apply Kd.R_alloc | apply Kd.R_drewN | apply Kd.R_drew)); exact Kd.R_mono HO146.out (fun _ hk => hk.2)), (by (with_reducible repeat (first | apply Kd.R_alloc | apply Kd.R_drewN | apply Kd.R_drew)); exact Kd.R_mono HO149.out (fun _ hk => hk.2)), (by (with_reducible repeat (first | apply Kd.S_alloc | apply Kd.S_drewN | apply Kd.S_drew)); exact HO_139001.out), (kB BK136), (kB BK138), (kB BK140), (kB BK153), GW153.out, GE153.out, NB136_153.out, NB153_136.out, NB138_153.out, NB153_138.out, NB140_153.out, NB153_140.out, bG⟩)
             ·skip
              rintro ⟨v142, v145, v148⟩ w26 ⟨hS_, h0_, h1_, h2_, h3_, h4_, h5_, h6_⟩
              (try dsimp only at h0_ h1_ h2_ h3_ h4_ h5_ h6_)
              have n0_ := xm h0_
              have n1_ := xm h1_
              have n2_ := xm h2_
              have n3_ := xm h3_
              have n4_ := xm h4_
              have n5_ := xm h5_
              have n6_ := xm h6_
              clear HO_139001
              clear BK136
              clear BK138
              clear BK140
              clear HB
              clear h0_ h1_ h2_ h3_ h4_ h5_ h6_
              revert n0_ n1_ n2_ n3_ n4_ n5_ n6_; intro HO146 HO149 HO_139001 BK136 BK138 BK140 HB
              have hHeld : w26.cell? ⟨gb140, 0, none⟩ = some (.slice A139_0 ((rd_T45 l0 x15_1).f0.f0).length c139_0) ∧ w26.cell? ⟨gb140, 1, none⟩ = some (.int .i64 ((rd_T45 l0 x15_1).f1)) ∧ w26.cell? ⟨gb140, 2, none⟩ = some (.int .i64 ((rd_T45 l0 x15_1).f2)) := hS_
              obtain ⟨Ao28, co28, eo28⟩ := Kd.R_slice HO149.out
              (first | subst eo28 | (injection eo28 with f1_ f2_ f3_; have f4_ := f1_.symm; have f5_ := f3_.symm; clear f1_ f2_ f3_; subst f4_; subst f5_))
              refine norm_ (a' := ?_) ?_ ?_
              rotate_left
              ·simp only [putAll, Act.put, xi, xj, xk]
               rfl
              refine two_ (i := 10) (j := 12) (Ni := some 29) (Nj := some 7) #[Y,Y,Y,Y,Y,Y,Y,Y,Y,Y,Y,Z,Z,Z] #[Y,Y,Y,Y,Y,Y,Y,Y,Y,Y,Z,Z,Y,Z] rfl rfl rfl rfl (two_of HT_.out (by kernel_rfl)) (by decide) (by decide) (fun K hK => ?_) (fun K hK => ?_)
              ·skip
               refine Kd.R_append_rows_step (Kd.int .i64) (w0 := w) w.heap.size (by rfl) (.tmp 23) (.tmp 28) 37 3 (.int .i64 0) 8 rfl Try.underlying37 info3 rfl (by decide) (by omega) v145 y144 y147 _ _ _ (fun k_ => some k_ ≠ (.slice Ao28 y147.length co28 : Value).ownBlock) (fun _ => False) rfl rfl ?aO ?aR (fun _ _ h => h) (fun _ h => h.elim) ?aF ?aB ?aS ?aL ?_
               (case aR => repeat (first | exact (Kd.R_reads' HO149.out).2.2 | (with_reducible refine Kd.C_alloc ?_ _) | (with_reducible refine Kd.C_drewN ?_ _) | (with_reducible refine Kd.C_drew ?_)))
               (case aB => exact bG)
               (case aF => exact (fun k_ hk => Kd.fresh' (Kd.R_lt (rB HO149)) k_ hk))
               (case aO => exact (rB HO146))
               (case aS => exact (xz bG))
               (case aL => have := LMc13.out; omega)
               intro v151 w27 ho hb hg hat
               rw [← Ny150.out] at ho
               have n0_ := xm (Kd.S_after (ok := (fun k_ => some k_ ≠ (.slice Ao28 y147.length co28 : Value).ownBlock)) (by (with_reducible repeat (first | apply Kd.S_alloc | apply Kd.S_drewN | apply Kd.S_drew)); exact Kd.S_mono HO_139001.out (fun _ hk => ⟨hk.2, hk.1⟩)) hg hat)
               have n1_ := xm (blk_grown (kB BK136) hg (Kd.R_ne HO146.out BK136.out (by decide)))
               have n2_ := xm (blk_grown (kB BK138) hg (Kd.R_ne HO146.out BK138.out (by decide)))
               have n3_ := xm (blk_grown (kB BK140) hg (Kd.R_ne HO146.out BK140.out (by decide)))
               have n4_ := xm (Kd.R_after (ok := (fun _ => True)) (by (with_reducible repeat (first | apply Kd.R_alloc | apply Kd.R_drewN | apply Kd.R_drew)); exact Kd.R_mono HO149.out (fun _ hk => ⟨trivial, hk⟩)) hg hat)
               have n5_ := xm (hb)
               have n6_ := xm (ho)
               revert n0_ n1_ n2_ n3_ n4_ n5_ n6_; clear HO_139001 BK136 BK138 BK140 HO149 HB HO146; intro HO_139001 BK136 BK138 BK140 HO149 HB HO152
               clear ho hb hg hat
               obtain ⟨Ao29, co29, eo29⟩ := Kd.R_slice HO152.out
               (first | subst eo29 | (injection eo29 with f1_ f2_ f3_; have f4_ := f1_.symm; have f5_ := f3_.symm; clear f1_ f2_ f3_; subst f4_; subst f5_))
               refine hK.out _ _ ⟨(xc BK140.out 0).trans rfl, (xc BK140.out 1).trans rfl, (xc BK140.out 2).trans rfl⟩ (fun hHeld => nC ?_)
               clear hK K
               refine pu 11 14 4095 ?_
               exact norm_ pB (hJ0_4_9_10 (v142, v145, .slice Ao28 y147.length co28, .slice Ao29 y150.length co29) _ ⟨hHeld, (by (with_reducible repeat (first | apply Kd.R_alloc | apply Kd.R_drewN | apply Kd.R_drew)); exact Kd.R_mono HO149.out (fun _ hk => hk.2)), (rB HO152), (by (with_reducible repeat (first | apply Kd.S_alloc | apply Kd.S_drewN | apply Kd.S_drew)); exact HO_139001.out), (kB BK136), (kB BK138), (kB BK140), bG⟩)
              ·skip
               refine box_step ?hg (N := 7) ?hd (cs := #[.slice none 0 0]) (t := 43) ?hr ?_; (case hd => rfl); (case hg => rfl); (case hr => exact zB)
               intro gb153 hg w27 hbox hb
               have n0_ := xm (Kd.S_below (by (with_reducible repeat (first | apply Kd.S_alloc | apply Kd.S_drewN | apply Kd.S_drew)); exact HO_139001.out) hb)
               have n1_ := xm (Kd.R_below (rB HO146) hb)
               have n2_ := xm (Kd.R_below (rB HO149) hb)
               have n3_ := xm (blk_below (kB BK136) hb)
               have n4_ := xm (blk_below (kB BK138) hb)
               have n5_ := xm (blk_below (kB BK140) hb)
               have n6_ := xm (below_step bG hb)
               have n7_ := xm (hbox)
               have n8_ := xm ((by rw [hg]; exact (xz bG) : w.heap.size ≤ gb153))
               have n9_ := xm ((by rw [hg]; exact (xz bG) : w.heap.size ≤ gb153))
               have n10_ := xm ((by rw [hg]; exact Nat.ne_of_lt (blk_lt (kB BK136)) : gb136 ≠ gb153))
               have n11_ := xm ((by rw [hg]; exact Nat.ne_of_gt (blk_lt (kB BK136)) : gb153 ≠ gb136))
               have n12_ := xm ((by rw [hg]; exact Nat.ne_of_lt (blk_lt (kB BK138)) : gb138 ≠ gb153))
               have n13_ := xm ((by rw [hg]; exact Nat.ne_of_gt (blk_lt (kB BK138)) : gb153 ≠ gb138))
               have n14_ := xm ((by rw [hg]; exact Nat.ne_of_lt (blk_lt (kB BK140)) : gb140 ≠ gb153))
               have n15_ := xm ((by rw [hg]; exact Nat.ne_of_gt (blk_lt (kB BK140)) : gb153 ≠ gb140))
               revert n0_ n1_ n2_ n3_ n4_ n5_ n6_ n7_ n8_ n9_ n10_ n11_ n12_ n13_ n14_ n15_; clear HO_139001 HO146 HO149 BK136 BK138 BK140 HB; intro HO_139001 HO146 HO149 BK136 BK138 BK140 HB BK153 GW153 GE153 NB136_153 NB153_136 NB138_153 NB153_138 NB140_153 NB153_140
               clear hb hbox hg
               refine hK.out _ _ ⟨(xc BK140.out 0).trans rfl, (xc BK140.out 1).trans rfl, (xc BK140.out 2).trans rfl⟩ (fun hHeld => nC ?_)
               clear hK K
               exact norm_ pB (hJ0_4_9_12 (v142, v145, .slice Ao28 y147.length co28, gb153) _ ⟨hHeld, (rB HO146), (rB HO149), (by (with_reducible repeat (first | apply Kd.S_alloc | apply Kd.S_drewN | apply Kd.S_drew)); exact HO_139001.out), (kB BK136), (kB BK138), (kB BK140), (kB BK153), GW153.out, GE153.out, NB136_153.out, NB153_136.out, NB138_153.out, NB153_138.out, NB140_153.out, NB153_140.out, bG⟩)
            ·skip
             rintro ⟨v142, v145, v148, gb153⟩ w27 ⟨hS_, h0_, h1_, h2_, h3_, h4_, h5_, h6_, h7_, h8_, h9_, h10_, h11_, h12_, h13_, h14_, h15_⟩
             (try dsimp only at h0_ h1_ h2_ h3_ h4_ h5_ h6_ h7_ h8_ h9_ h10_ h11_ h12_ h13_ h14_ h15_)
             have n0_ := xm h0_
             have n1_ := xm h1_
             have n2_ := xm h2_
             have n3_ := xm h3_
             have n4_ := xm h4_
             have n5_ := xm h5_
             have n6_ := xm h6_
             have n7_ := xm h7_
             have n8_ := xm h8_
             have n9_ := xm h9_
             have n10_ := xm h10_
             have n11_ := xm h11_
             have n12_ := xm h12_
             have n13_ := xm h13_
             have n14_ := xm h14_
             have n15_ := xm h15_
             clear HO_139001
             clear BK136
             clear BK138
             clear BK140
             clear HB
             clear h0_ h1_ h2_ h3_ h4_ h5_ h6_ h7_ h8_ h9_ h10_ h11_ h12_ h13_ h14_ h15_
             revert n0_ n1_ n2_ n3_ n4_ n5_ n6_ n7_ n8_ n9_ n10_ n11_ n12_ n13_ n14_ n15_; intro HO146 HO149 HO_139001 BK136 BK138 BK140 BK153 GW153 GE153 NB136_153 NB153_136 NB138_153 NB153_138 NB140_153 NB153_140 HB
             have hHeld : w27.cell? ⟨gb140, 0, none⟩ = some (.slice A139_0 ((rd_T45 l0 x15_1).f0.f0).length c139_0) ∧ w27.cell? ⟨gb140, 1, none⟩ = some (.int .i64 ((rd_T45 l0 x15_1).f1)) ∧ w27.cell? ⟨gb140, 2, none⟩ = some (.int .i64 ((rd_T45 l0 x15_1).f2)) := hS_
             obtain ⟨Ao29, co29, eo29⟩ := Kd.R_slice HO149.out
             (first | subst eo29 | (injection eo29 with f1_ f2_ f3_; have f4_ := f1_.symm; have f5_ := f3_.symm; clear f1_ f2_ f3_; subst f4_; subst f5_))
             refine norm_ (a' := ?_) ?_ ?_
             rotate_left
             ·simp only [putAll, Act.put, xi, xj, xk]
              rfl
             refine one_ (i := 10) (N := some 29) #[Y,Y,Y,Y,Y,Y,Y,Y,Y,Y,Y,Z,Y,Z] rfl rfl (one_of HT_.out (by kernel_rfl)) (by decide) (fun K hK => ?_)
             refine Kd.R_append_rows_step (Kd.int .i64) (w0 := w) w.heap.size (by rfl) (.tmp 23) (.tmp 28) 37 3 (.int .i64 0) 8 rfl Try.underlying37 info3 rfl (by decide) (by omega) v145 y144 y147 _ _ _ (fun k_ => some k_ ≠ (.slice Ao29 y147.length co29 : Value).ownBlock) (fun _ => False) rfl rfl ?aO ?aR (fun _ _ h => h) (fun _ h => h.elim) ?aF ?aB ?aS ?aL ?_
             (case aR => repeat (first | exact (Kd.R_reads' HO149.out).2.2 | (with_reducible refine Kd.C_alloc ?_ _) | (with_reducible refine Kd.C_drewN ?_ _) | (with_reducible refine Kd.C_drew ?_)))
             (case aB => exact bG)
             (case aF => exact (fun k_ hk => Kd.fresh' (Kd.R_lt (rB HO149)) k_ hk))
             (case aO => exact (rB HO146))
             (case aS => exact (xz bG))
             (case aL => have := LMc13.out; omega)
             intro v151 w28 ho hb hg hat
             rw [← Ny150.out] at ho
             have n0_ := xm (Kd.S_after (ok := (fun k_ => some k_ ≠ (.slice Ao29 y147.length co29 : Value).ownBlock)) (by (with_reducible repeat (first | apply Kd.S_alloc | apply Kd.S_drewN | apply Kd.S_drew)); exact Kd.S_mono HO_139001.out (fun _ hk => ⟨hk.2, hk.1⟩)) hg hat)
             have n1_ := xm (blk_grown (kB BK136) hg (Kd.R_ne HO146.out BK136.out (by decide)))
             have n2_ := xm (blk_grown (kB BK138) hg (Kd.R_ne HO146.out BK138.out (by decide)))
             have n3_ := xm (blk_grown (kB BK140) hg (Kd.R_ne HO146.out BK140.out (by decide)))
             have n4_ := xm (Kd.R_after (ok := (fun _ => True)) (by (with_reducible repeat (first | apply Kd.R_alloc | apply Kd.R_drewN | apply Kd.R_drew)); exact Kd.R_mono HO149.out (fun _ hk => ⟨trivial, hk⟩)) hg hat)
             have n5_ := xm (blk_grown (kB BK153) hg (Kd.R_ne HO146.out BK153.out (by decide)))
             have n6_ := xm (hb)
             have n7_ := xm (ho)
             revert n0_ n1_ n2_ n3_ n4_ n5_ n6_ n7_; clear HO_139001 BK136 BK138 BK140 HO149 BK153 HB HO146; intro HO_139001 BK136 BK138 BK140 HO149 BK153 HB HO152
             clear ho hb hg hat
             obtain ⟨Ao30, co30, eo30⟩ := Kd.R_slice HO152.out
             (first | subst eo30 | (injection eo30 with f1_ f2_ f3_; have f4_ := f1_.symm; have f5_ := f3_.symm; clear f1_ f2_ f3_; subst f4_; subst f5_))
             refine hK.out _ _ ⟨(xc BK140.out 0).trans rfl, (xc BK140.out 1).trans rfl, (xc BK140.out 2).trans rfl⟩ (fun hHeld => nC ?_)
             clear hK K
             refine pu 11 14 8191 ?_
             exact norm_ pB (hJ0_4_9_10_12 (v142, v145, .slice Ao29 y147.length co29, .slice Ao30 y150.length co30, gb153) _ ⟨hHeld, (by (with_reducible repeat (first | apply Kd.R_alloc | apply Kd.R_drewN | apply Kd.R_drew)); exact Kd.R_mono HO149.out (fun _ hk => hk.2)), (rB HO152), (by (with_reducible repeat (first | apply Kd.S_alloc | apply Kd.S_drewN | apply Kd.S_drew)); exact HO_139001.out), (kB BK136), (kB BK138), (kB BK140), (kB BK153), GW153.out, GE153.out, NB136_153.out, NB153_136.out, NB138_153.out, NB153_138.out, NB140_153.out, NB153_140.out, bG⟩)
           ·skip
            rintro ⟨v142, v145, v148, v151⟩ w29 ⟨hS_, h0_, h1_, h2_, h3_, h4_, h5_, h6_⟩
            (try dsimp only at h0_ h1_ h2_ h3_ h4_ h5_ h6_)
            have n0_ := xm h0_
            have n1_ := xm h1_
            have n2_ := xm h2_
            have n3_ := xm h3_
            have n4_ := xm h4_
            have n5_ := xm h5_
            have n6_ := xm h6_
            clear HO_139001
            clear BK136
            clear BK138
            clear BK140
            clear HB
            clear h0_ h1_ h2_ h3_ h4_ h5_ h6_
            revert n0_ n1_ n2_ n3_ n4_ n5_ n6_; intro HO149 HO152 HO_139001 BK136 BK138 BK140 HB
            have hHeld : w29.cell? ⟨gb140, 0, none⟩ = some (.slice A139_0 ((rd_T45 l0 x15_1).f0.f0).length c139_0) ∧ w29.cell? ⟨gb140, 1, none⟩ = some (.int .i64 ((rd_T45 l0 x15_1).f1)) ∧ w29.cell? ⟨gb140, 2, none⟩ = some (.int .i64 ((rd_T45 l0 x15_1).f2)) := hS_
            obtain ⟨Ao30, co30, eo30⟩ := Kd.R_slice HO152.out
            (first | subst eo30 | (injection eo30 with f1_ f2_ f3_; have f4_ := f1_.symm; have f5_ := f3_.symm; clear f1_ f2_ f3_; subst f4_; subst f5_))
            refine norm_ (a' := ?_) ?_ ?_
            rotate_left
            ·simp only [putAll, Act.put, xi, xj, xk]
             rfl
            refine one_ (i := 12) (N := some 7) #[Y,Y,Y,Y,Y,Y,Y,Y,Y,Y,Y,Y,Y,Z] rfl rfl (one_of HT_.out (by kernel_rfl)) (by decide) (fun K hK => ?_)
            refine box_step ?hg (N := 7) ?hd (cs := #[.slice none 0 0]) (t := 43) ?hr ?_; (case hd => rfl); (case hg => rfl); (case hr => exact zB)
            intro gb153 hg w31 hbox hb
            have n0_ := xm (Kd.S_below (by (with_reducible repeat (first | apply Kd.S_alloc | apply Kd.S_drewN | apply Kd.S_drew)); exact HO_139001.out) hb)
            have n1_ := xm (Kd.R_below (rB HO149) hb)
            have n2_ := xm (Kd.R_below (rB HO152) hb)
            have n3_ := xm (blk_below (kB BK136) hb)
            have n4_ := xm (blk_below (kB BK138) hb)
            have n5_ := xm (blk_below (kB BK140) hb)
            have n6_ := xm (below_step bG hb)
            have n7_ := xm (hbox)
            have n8_ := xm ((by rw [hg]; exact (xz bG) : w.heap.size ≤ gb153))
            have n9_ := xm ((by rw [hg]; exact (xz bG) : w.heap.size ≤ gb153))
            have n10_ := xm ((by rw [hg]; exact Nat.ne_of_lt (blk_lt (kB BK136)) : gb136 ≠ gb153))
            have n11_ := xm ((by rw [hg]; exact Nat.ne_of_gt (blk_lt (kB BK136)) : gb153 ≠ gb136))
            have n12_ := xm ((by rw [hg]; exact Nat.ne_of_lt (blk_lt (kB BK138)) : gb138 ≠ gb153))
            have n13_ := xm ((by rw [hg]; exact Nat.ne_of_gt (blk_lt (kB BK138)) : gb153 ≠ gb138))
            have n14_ := xm ((by rw [hg]; exact Nat.ne_of_lt (blk_lt (kB BK140)) : gb140 ≠ gb153))
            have n15_ := xm ((by rw [hg]; exact Nat.ne_of_gt (blk_lt (kB BK140)) : gb153 ≠ gb140))
            revert n0_ n1_ n2_ n3_ n4_ n5_ n6_ n7_ n8_ n9_ n10_ n11_ n12_ n13_ n14_ n15_; clear HO_139001 HO149 HO152 BK136 BK138 BK140 HB; intro HO_139001 HO149 HO152 BK136 BK138 BK140 HB BK153 GW153 GE153 NB136_153 NB153_136 NB138_153 NB153_138 NB140_153 NB153_140
            clear hb hbox hg
            refine hK.out _ _ ⟨(xc BK140.out 0).trans rfl, (xc BK140.out 1).trans rfl, (xc BK140.out 2).trans rfl⟩ (fun hHeld => nC ?_)
            clear hK K
            exact norm_ pB (hJ0_4_9_10_12 (v142, v145, v148, .slice Ao30 y150.length co30, gb153) _ ⟨hHeld, (rB HO149), (rB HO152), (by (with_reducible repeat (first | apply Kd.S_alloc | apply Kd.S_drewN | apply Kd.S_drew)); exact HO_139001.out), (kB BK136), (kB BK138), (kB BK140), (kB BK153), GW153.out, GE153.out, NB136_153.out, NB153_136.out, NB138_153.out, NB153_138.out, NB140_153.out, NB153_140.out, bG⟩)
          rintro ⟨v142, v145, v148, v151, gb153⟩ w30 ⟨hS_, h0_, h1_, h2_, h3_, h4_, h5_, h6_, h7_, h8_, h9_, h10_, h11_, h12_, h13_, h14_, h15_⟩
          (try dsimp only at h0_ h1_ h2_ h3_ h4_ h5_ h6_ h7_ h8_ h9_ h10_ h11_ h12_ h13_ h14_ h15_)
          have n0_ := xm h0_
          have n1_ := xm h1_
          have n2_ := xm h2_
          have n3_ := xm h3_
          have n4_ := xm h4_
          have n5_ := xm h5_
          have n6_ := xm h6_
          have n7_ := xm h7_
          have n8_ := xm h8_
          have n9_ := xm h9_
          have n10_ := xm h10_
          have n11_ := xm h11_
          have n12_ := xm h12_
          have n13_ := xm h13_
          have n14_ := xm h14_
          have n15_ := xm h15_
          clear HO_139001
          clear BK136
          clear BK138
          clear BK140
          clear HB
          clear h0_ h1_ h2_ h3_ h4_ h5_ h6_ h7_ h8_ h9_ h10_ h11_ h12_ h13_ h14_ h15_
          revert n0_ n1_ n2_ n3_ n4_ n5_ n6_ n7_ n8_ n9_ n10_ n11_ n12_ n13_ n14_ n15_; intro HO149 HO152 HO_139001 BK136 BK138 BK140 BK153 GW153 GE153 NB136_153 NB153_136 NB138_153 NB153_138 NB140_153 NB153_140 HB
          have hHeld : w30.cell? ⟨gb140, 0, none⟩ = some (.slice A139_0 ((rd_T45 l0 x15_1).f0.f0).length c139_0) ∧ w30.cell? ⟨gb140, 1, none⟩ = some (.int .i64 ((rd_T45 l0 x15_1).f1)) ∧ w30.cell? ⟨gb140, 2, none⟩ = some (.int .i64 ((rd_T45 l0 x15_1).f2)) := hS_
          obtain ⟨Ao31, co31, eo31⟩ := Kd.R_slice HO152.out
          (first | subst eo31 | (injection eo31 with f1_ f2_ f3_; have f4_ := f1_.symm; have f5_ := f3_.symm; clear f1_ f2_ f3_; subst f4_; subst f5_))
          refine norm_ (a' := ?_) ?_ ?_
          rotate_left
          ·simp only [putAll, Act.put, xi, xj, xk]
           rfl
          refine one_ (i := 13) (N := none) #[Y,Y,Y,Y,Y,Y,Y,Y,Y,Y,Y,Y,Y,Y] rfl rfl (one_of HT_.out (by kernel_rfl)) (by decide) (fun K hK => ?_)
          have hs32 : w30.cell? ⟨gb153, 0, none⟩ = some (.slice none 0 0) := (xc BK153.out 0).trans rfl
          have hfs32 := xf BK153.out 0
          have hns32_0 := NB136_153.out
          have hns32_1 := NB138_153.out
          have hns32_2 := NB140_153.out
          have hms32_0 := NB153_136.out
          have hms32_1 := NB153_138.out
          have hms32_2 := NB153_140.out
          refine skip_ (w1 := ?_) (by rfl) rfl ?_ ?_
          rotate_left
          ·go_simp
           rfl
          refine hK.out _ _ ⟨((cell_far (p := ⟨gb153, _, none⟩) NB140_153.out _).trans (hHeld.1)), ((cell_far (p := ⟨gb153, _, none⟩) NB140_153.out _).trans (hHeld.2.1)), ((cell_far (p := ⟨gb153, _, none⟩) NB140_153.out _).trans (hHeld.2.2))⟩ (fun hHeld => ?_)
          clear hK K
          refine done_ (done_of HT_.out (by kernel_rfl)) ?_
          have n0_ : Aside0 (Kd.S k47 47 (w30.setCell ⟨gb153, 0, none⟩ (.slice Ao31 y150.length co31)) w.heap.size (fun k_ => some k_ ≠ (v148 : Value).ownBlock ∧ some k_ ≠ (.slice Ao31 y150.length co31 : Value).ownBlock) u139001 x139001_1) := ⟨by (with_reducible repeat (first | apply Kd.S_alloc | apply Kd.S_drewN | apply Kd.S_drew)); exact Kd.S_mono (Kd.S_far (p := ⟨gb153, 0, none⟩) (Kd.S_types HO_139001.out BK153.out (by decide)) (fun _ hk => hk.2) (.slice Ao31 y150.length co31)) (fun _ hk => ⟨hk.1.1, hk.1.2⟩)⟩
          have n1_ : Aside0 (Kd.R (Kd.int .i64) 3 (w30.setCell ⟨gb153, 0, none⟩ (.slice Ao31 y150.length co31)) w.heap.size (fun k_ => some k_ ≠ (.slice Ao31 y150.length co31 : Value).ownBlock) v148 y147) := ⟨by (with_reducible repeat (first | apply Kd.R_alloc | apply Kd.R_drewN | apply Kd.R_drew)); exact Kd.R_mono (Kd.R_far (p := ⟨gb153, 0, none⟩) (Kd.R_types HO149.out BK153.out (by decide)) (fun _ hk => hk.2) (.slice Ao31 y150.length co31)) (fun _ hk => hk.1)⟩
          have n2_ : Aside0 (Kd.R (Kd.int .i64) 3 (w30.setCell ⟨gb153, 0, none⟩ (.slice Ao31 y150.length co31)) w.heap.size (fun k_ => some k_ ≠ (v148 : Value).ownBlock) (.slice Ao31 y150.length co31) y150) := ⟨by (with_reducible repeat (first | apply Kd.R_alloc | apply Kd.R_drewN | apply Kd.R_drew)); exact Kd.R_mono (Kd.R_far (p := ⟨gb153, 0, none⟩) (Kd.R_types HO152.out BK153.out (by decide)) (fun _ hk => hk.2) (.slice Ao31 y150.length co31)) (fun _ hk => hk.1)⟩
          have n3_ : Aside0 ((w30.setCell ⟨gb153, 0, none⟩ (.slice Ao31 y150.length co31)).heap[gb136]? = some (.cells #[.int .i64 0, .slice none 0 0] 26 (0, 0))) := ⟨by (with_reducible repeat (first | refine xq ?_ _ | refine xr ?_ | refine xo ?_ _)); refine blk_far ?_ NB136_153.out _; (with_reducible repeat (first | refine xq ?_ _ | refine xr ?_ | refine xo ?_ _)); exact BK136.out⟩
          have n4_ : Aside0 ((w30.setCell ⟨gb153, 0, none⟩ (.slice Ao31 y150.length co31)).heap[gb138]? = some (.cells #[.int .i64 x139000_1, u139001] 26 (0, 0))) := ⟨by (with_reducible repeat (first | refine xq ?_ _ | refine xr ?_ | refine xo ?_ _)); refine blk_far ?_ NB138_153.out _; (with_reducible repeat (first | refine xq ?_ _ | refine xr ?_ | refine xo ?_ _)); exact BK138.out⟩
          have n5_ : Aside0 ((w30.setCell ⟨gb153, 0, none⟩ (.slice Ao31 y150.length co31)).heap[gb140]? = some (.cells #[.slice A139_0 ((rd_T45 l0 x15_1).f0.f0).length c139_0, .int .i64 ((rd_T45 l0 x15_1).f1), .int .i64 ((rd_T45 l0 x15_1).f2)] 45 (0, 0))) := ⟨by (with_reducible repeat (first | refine xq ?_ _ | refine xr ?_ | refine xo ?_ _)); refine blk_far ?_ NB140_153.out _; (with_reducible repeat (first | refine xq ?_ _ | refine xr ?_ | refine xo ?_ _)); exact BK140.out⟩
          have n6_ : Aside0 ((w30.setCell ⟨gb153, 0, none⟩ (.slice Ao31 y150.length co31)).heap[gb153]? = some (.cells #[.slice Ao31 y150.length co31] 43 (0, 0))) := ⟨by (with_reducible repeat (first | refine xq ?_ _ | refine xr ?_ | refine xo ?_ _)); refine blk_put (cs := #[.slice none 0 0]) ?_ 0 _ rfl; (with_reducible repeat (first | refine xq ?_ _ | refine xr ?_ | refine xo ?_ _)); exact BK153.out⟩
          have n7_ : Aside0 (Below w.heap.size w (w30.setCell ⟨gb153, 0, none⟩ (.slice Ao31 y150.length co31))) := ⟨by repeat (first | (with_reducible first | exact HB.out | apply xa | apply xn | apply xd | refine xt ?_ GE136.out | refine xt ?_ GE138.out | refine xt ?_ GE140.out | refine xt ?_ GE153.out) | exact HB.out)⟩
          (try clear HO_139001)
          (try clear HO149)
          (try clear HO152)
          (try clear BK136)
          (try clear BK138)
          (try clear BK140)
          (try clear BK153)
          (try clear HB)
          generalize (w30.setCell ⟨gb153, 0, none⟩ (.slice Ao31 y150.length co31)) = w33 at n0_ n1_ n2_ n3_ n4_ n5_ n6_ n7_ ⊢
          revert n0_ n1_ n2_ n3_ n4_ n5_ n6_ n7_; intro HO_139001 HO149 HO152 BK136 BK138 BK140 BK153 HB
          have hnb34 := NB153_136.out
          have hnc34 := NB136_153.out
          have hnb35 := NB153_138.out
          have hnc35 := NB138_153.out
          have hnb36 := NB153_140.out
          have hnc36 := NB140_153.out
          obtain ⟨hcz37_0, hfz37_0⟩ := cz1 BK153.out
          have hnb38 := NB138_136.out
          have hnc38 := NB136_138.out
          obtain ⟨hcz39_0, hcz39_1, hfz39_0, hfz39_1⟩ := cz2 BK138.out
          try go_wp2_with (first | ((with_reducible refine gate_store (t := 3) (p := 34) rfl ?_); refine store_event (t := 3) (p := 34) (v := ?vo_w40) (w1 := (w33.setCell ⟨gb138, 0, none⟩ (.int .i64 (y150.length : Int)))) ?hg ?ho ?hn ?hr ?_; (case ho => rfl); (case hg => rfl); (case hn => rfl); (case hr => exact zB); intro w40 hw; have n0_ : Aside0 (Kd.S k47 47 w40 w.heap.size (fun k_ => some k_ ≠ (v148 : Value).ownBlock ∧ some k_ ≠ (.slice Ao31 y150.length co31 : Value).ownBlock) u139001 x139001_1) := ⟨(by rw [hw]; exact (by (with_reducible repeat (first | apply Kd.S_alloc | apply Kd.S_drewN | apply Kd.S_drew)); exact Kd.S_mono (Kd.S_far (p := ⟨gb138, 0, none⟩) (Kd.S_types HO_139001.out BK138.out (by decide)) (fun _ hk => hk.2) (.int .i64 (y150.length : Int))) (fun _ hk => ⟨hk.1.1, hk.1.2⟩)))⟩; have n1_ : Aside0 (Kd.R (Kd.int .i64) 3 w40 w.heap.size (fun k_ => some k_ ≠ (.slice Ao31 y150.length co31 : Value).ownBlock) v148 y147) := ⟨(by rw [hw]; exact (by (with_reducible repeat (first | apply Kd.R_alloc | apply Kd.R_drewN | apply Kd.R_drew)); exact Kd.R_mono (Kd.R_far (p := ⟨gb138, 0, none⟩) (Kd.R_types HO149.out BK138.out (by decide)) (fun _ hk => hk.2) (.int .i64 (y150.length : Int))) (fun _ hk => hk.1)))⟩; have n2_ : Aside0 (Kd.R (Kd.int .i64) 3 w40 w.heap.size (fun k_ => some k_ ≠ (v148 : Value).ownBlock) (.slice Ao31 y150.length co31) y150) := ⟨(by rw [hw]; exact (by (with_reducible repeat (first | apply Kd.R_alloc | apply Kd.R_drewN | apply Kd.R_drew)); exact Kd.R_mono (Kd.R_far (p := ⟨gb138, 0, none⟩) (Kd.R_types HO152.out BK138.out (by decide)) (fun _ hk => hk.2) (.int .i64 (y150.length : Int))) (fun _ hk => hk.1)))⟩; have n3_ : Aside0 (w40.heap[gb136]? = some (.cells #[.int .i64 0, .slice none 0 0] 26 (0, 0))) := ⟨(by rw [hw]; exact (by (with_reducible repeat (first | refine xq ?_ _ | refine xr ?_ | refine xo ?_ _)); refine blk_far ?_ NB136_138.out _; (with_reducible repeat (first | refine xq ?_ _ | refine xr ?_ | refine xo ?_ _)); exact BK136.out))⟩; have n4_ : Aside0 (w40.heap[gb138]? = some (.cells #[.int .i64 (y150.length : Int), u139001] 26 (0, 0))) := ⟨(by rw [hw]; exact (by (with_reducible repeat (first | refine xq ?_ _ | refine xr ?_ | refine xo ?_ _)); refine blk_put (cs := #[.int .i64 x139000_1, u139001]) ?_ 0 _ rfl; (with_reducible repeat (first | refine xq ?_ _ | refine xr ?_ | refine xo ?_ _)); exact BK138.out))⟩; have n5_ : Aside0 (w40.heap[gb140]? = some (.cells #[.slice A139_0 ((rd_T45 l0 x15_1).f0.f0).length c139_0, .int .i64 ((rd_T45 l0 x15_1).f1), .int .i64 ((rd_T45 l0 x15_1).f2)] 45 (0, 0))) := ⟨(by rw [hw]; exact (by (with_reducible repeat (first | refine xq ?_ _ | refine xr ?_ | refine xo ?_ _)); refine blk_far ?_ NB140_138.out _; (with_reducible repeat (first | refine xq ?_ _ | refine xr ?_ | refine xo ?_ _)); exact BK140.out))⟩; have n6_ : Aside0 (w40.heap[gb153]? = some (.cells #[.slice Ao31 y150.length co31] 43 (0, 0))) := ⟨(by rw [hw]; exact (by (with_reducible repeat (first | refine xq ?_ _ | refine xr ?_ | refine xo ?_ _)); refine blk_far ?_ NB153_138.out _; (with_reducible repeat (first | refine xq ?_ _ | refine xr ?_ | refine xo ?_ _)); exact BK153.out))⟩; have n7_ : Aside0 (Below w.heap.size w w40) := ⟨(by rw [hw]; exact bG)⟩; revert n0_ n1_ n2_ n3_ n4_ n5_ n6_ n7_; clear hw HO_139001 HO149 HO152 BK136 BK138 BK140 BK153 HB; intro HO_139001 HO149 HO152 BK136 BK138 BK140 BK153 HB; obtain ⟨hcz41_0, hcz41_1, hfz41_0, hfz41_1⟩ := cz2 BK138.out; obtain ⟨hcz42_0, hfz42_0⟩ := cz1 BK153.out) | ((with_reducible refine gate_builtin (b := .append) (xs := #[.tmp 36, .tmp 39]) rfl ?_); at_builtin; refine Kd.S_append k47 (w0 := w) w.heap.size rfl (.tmp 36) (.tmp 39) 24 47 (.agg #[(.slice none 0 0), (.int .i64 0)]) 32 rfl Try.underlying24 info47 rfl (by decide) (by omega) u139001 x139001_1 (⟨(⟨y150⟩ : S43), 1⟩ : S47) [.slice Ao31 y150.length co31, .int .i64 1] (fun k_ => some k_ ≠ (v148 : Value).ownBlock) (fun k_ => some k_ = (.slice Ao31 y150.length co31 : Value).ownBlock) rfl rfl ?aP (fun k_ hk_ => ((Kd.R_mono (ok' := fun k_ => ((fun k_ => some k_ ≠ (v148 : Value).ownBlock)) k_ ∧ some k_ ≠ (u139001 : Value).ownBlock) (Kd.R_apart' (HO152.out) (Kd.S_typed HO_139001.out) (by decide)) (fun k_ hk => ⟨hk.1, hk.2⟩))).1 k_ hk_.symm) ?aF ?aO ?aB ?aS ?aL ?_; (case aP => exact k47_mkM _ _ _ (⟨(⟨y150⟩ : S43), 1⟩ : S47) (Kd.R_mono (Kd.R_tight rfl (Kd.R_mono (ok' := fun k_ => ((fun k_ => some k_ ≠ (v148 : Value).ownBlock)) k_ ∧ some k_ ≠ (u139001 : Value).ownBlock) (Kd.R_apart' (HO152.out) (Kd.S_typed HO_139001.out) (by decide)) (fun k_ hk => ⟨hk.1, hk.2⟩))) (fun _ h_ => h_))); (case aB => exact bG); (case aF => exact (fun k_ hk => Kd.fresh' (Kd.R_lt (rB HO149)) k_ hk)); (case aO => exact (by (with_reducible repeat (first | apply Kd.S_alloc | apply Kd.S_drewN | apply Kd.S_drew)); exact Kd.S_mono HO_139001.out (fun k_ hk => ⟨hk.1, fun e_ => hk.2 e_⟩))); (case aS => exact (xz bG)); (case aL => have := LMc14.out; omega); intro v155 w43 ho hb hg hat; rw [← Ny154.out] at ho; have n0_ := xm (blk_grown (kB BK136) hg (Kd.S_ne HO_139001.out BK136.out (by decide))); have n1_ := xm (blk_grown (kB BK138) hg (Kd.S_ne HO_139001.out BK138.out (by decide))); have n2_ := xm (blk_grown (kB BK140) hg (Kd.S_ne HO_139001.out BK140.out (by decide))); have n3_ := xm (Kd.R_over' (rB HO149) (Kd.S_typed (by (with_reducible repeat (first | apply Kd.S_alloc | apply Kd.S_drewN | apply Kd.S_drew)); exact HO_139001.out)) (by decide) hg); have n4_ := xm (blk_grown (kB BK153) hg (Kd.S_ne HO_139001.out BK153.out (by decide))); have n5_ := xm (hb); have n6_ := xm (ho); revert n0_ n1_ n2_ n3_ n4_ n5_ n6_; clear BK136 BK138 BK140 HO149 BK153 HB HO_139001 HO152; intro BK136 BK138 BK140 HO149 BK153 HB HO156; clear ho hb hg hat; obtain ⟨Ao44, co44, eo44⟩ := Kd.S_slice HO156.out; subst eo44; obtain ⟨hcz45_0, hcz45_1, hfz45_0, hfz45_1⟩ := cz2 BK138.out))
          go_roundg k1
          case measure => have := HK1.out; omega
          case rel => exact ⟨(wrap64 (x15_1 + 1)), ((y150.length : Int)), (y154), (.slice Ao44 y154.length co44), (by first | rfl | (simp; done) | (simp [*]; done)), H', ⟨by have := HK1.out; omega⟩, ⟨by (with_reducible repeat (first | apply Kd.S_alloc | apply Kd.S_drewN | apply Kd.S_drew)); exact Kd.S_mono (Kd.S_far (p := ⟨gb138, 1, none⟩) (Kd.S_types HO156.out BK138.out (by decide)) (fun _ hk => hk.2) (.slice Ao44 y154.length co44)) (fun _ hk => trivial)⟩, ⟨by (with_reducible repeat (first | refine xq ?_ _ | refine xr ?_ | refine xo ?_ _)); refine blk_far ?_ NB136_138.out _; (with_reducible repeat (first | refine xq ?_ _ | refine xr ?_ | refine xo ?_ _)); exact BK136.out⟩, ⟨by (with_reducible repeat (first | refine xq ?_ _ | refine xr ?_ | refine xo ?_ _)); refine blk_put (cs := #[.int .i64 (y150.length : Int), u139001]) ?_ 1 _ rfl; (with_reducible repeat (first | refine xq ?_ _ | refine xr ?_ | refine xo ?_ _)); exact BK138.out⟩, ⟨by repeat (first | (with_reducible first | exact HB.out | apply xa | apply xn | apply xd | refine xt ?_ GE136.out | refine xt ?_ GE138.out | refine xt ?_ GE140.out | refine xt ?_ GE153.out) | exact HB.out)⟩⟩
         ·rw [if_neg c14] at H
          exact absurd H (by simp)
        ·rw [if_neg c13] at H
         exact absurd H (by simp)
       ·rw [if_neg c12] at H
        exact absurd H (by simp)
      ·rw [if_neg c11] at H
       exact absurd H (by simp)
     ·rw [if_neg c10] at H
      exact absurd H (by simp)
    ·rw [if_neg c9] at H
     have c9b0 : decide (x15_1 < (l0.length : Int)) = false := decide_eq_false c9
     clear c9
     replace H := Option.bind_eq_some_iff.mp H
     obtain ⟨t157, A460, H⟩ := H
     replace H : (if t157 = true then (some (x139000_1, x139001_1, true)) else (some (0, ([] : List (S47)), false))) = some (r1, r2, r3) := H
     have A46 := xm A460
     clear A460
     by_cases c47 : t157 = true
     ·subst c47
      have H1 : (some (x139000_1, x139001_1, true)) = some (r1, r2, r3) := by first | (with_reducible rfl) | (rw [if_pos rfl] at H; exact H)
      clear H
      have H := H1
      clear H1
      simp only [Option.some.injEq, Prod.mk.injEq] at H
      obtain ⟨rfl, rfl, rfl⟩ := H
      have hnb48 := NB138_136.out
      have hnc48 := NB136_138.out
      obtain ⟨hcz49_0, hcz49_1, hfz49_0, hfz49_1⟩ := cz2 BK138.out
      obtain ⟨Ao50, co50, eo50⟩ := Kd.S_slice HO_139001.out
      subst eo50
      go_wp2_with (first | ((with_reducible refine gate_callee (f := 15) rfl ?_); refine goesL_ (some 44) rfl rfl Try.func15 (by kernel_rfl) rfl #[.agg #[.int .i64 x139000_1, .slice Ao50 x139001_1.length co50]] rfl mB ?_; (with_reducible refine (spec_GoodTable.calls k1 x139000_1 _ _ x139001_1 true _ ?side1 ?side2 A46.out).mono ?_); (case side1 => repeat (first | exact (Kd.S_reads' HO_139001.out).2.2 | (with_reducible refine Kd.C_alloc ?_ _) | (with_reducible refine Kd.C_drewN ?_ _) | (with_reducible refine Kd.C_drew ?_))); (case side2 => exact (Kd.S_reads' HO_139001.out).2.1); rintro e w51 ⟨rfl, hb⟩; refine ⟨_, rfl, ?_⟩; have n0_ := xm (Kd.S_below (by (with_reducible repeat (first | apply Kd.S_alloc | apply Kd.S_drewN | apply Kd.S_drew)); exact HO_139001.out) hb); have n1_ := xm (blk_below (kB BK136) hb); have n2_ := xm (blk_below (kB BK138) hb); have n3_ := xm (below_step bG hb); revert n0_ n1_ n2_ n3_; clear HO_139001 BK136 BK138 HB; intro HO_139001 BK136 BK138 HB; (try clear hb); (try clear hb2); (try clear hk); (try clear hi); obtain ⟨hcz52_0, hcz52_1, hfz52_0, hfz52_1⟩ := cz2 BK138.out; obtain ⟨hcz53_0, hcz53_1, hfz53_0, hfz53_1⟩ := cz2 BK136.out))
      refine bodyPost_ret (results_ct rfl _ _ gb136 26 #[.int .i64 x139000_1, .slice Ao50 x139001_1.length co50] (0, 0) _ rfl (by (with_reducible repeat (first | refine xq ?_ _ | refine xr ?_ | refine xo ?_ _)); refine blk_put (cs := #[.int .i64 x139000_1, .slice none 0 0]) ?_ 1 _ rfl; (with_reducible repeat (first | refine xq ?_ _ | refine xr ?_ | refine xo ?_ _)); refine blk_put (cs := #[.int .i64 0, .slice none 0 0]) ?_ 0 _ rfl; (with_reducible repeat (first | refine xq ?_ _ | refine xr ?_ | refine xo ?_ _)); exact BK136.out) Try.underlying26 rfl (by kernel_rfl)) rfl ?_
      exact ⟨_, by first | rfl | (simp [errW_none, errW_some] <;> rfl) | (simp [*, errW_none, errW_some] <;> rfl), by (with_reducible repeat (first | apply Kd.S_alloc | apply Kd.S_drewN | apply Kd.S_drew)); exact Kd.S_mono (Kd.S_far (p := ⟨gb136, 1, none⟩) (Kd.S_far (p := ⟨gb136, 0, none⟩) (Kd.S_types HO_139001.out BK136.out (by decide)) (fun _ hk => hk.2) (.int .i64 x139000_1)) (fun _ hk => hk.2) (.slice Ao50 x139001_1.length co50)) (fun _ hk => trivial), by repeat (first | (with_reducible first | exact HB.out | apply xa | apply xn | apply xd | refine xt ?_ GE136.out | refine xt ?_ GE138.out) | exact HB.out)⟩
     ·replace c47 := Bool.eq_false_iff.mpr c47
      subst c47
      have H1 : (some (0, ([] : List (S47)), false)) = some (r1, r2, r3) := by first | (with_reducible rfl) | (rw [if_neg (show ¬ (false = true) by decide)] at H; exact H)
      clear H
      have H := H1
      clear H1
      simp only [Option.some.injEq, Prod.mk.injEq] at H
      obtain ⟨rfl, rfl, rfl⟩ := H
      have hnb54 := NB138_136.out
      have hnc54 := NB136_138.out
      obtain ⟨hcz55_0, hcz55_1, hfz55_0, hfz55_1⟩ := cz2 BK138.out
      obtain ⟨Ao56, co56, eo56⟩ := Kd.S_slice HO_139001.out
      subst eo56
      go_wp2_with (first | ((with_reducible refine gate_callee (f := 15) rfl ?_); refine goesL_ (some 44) rfl rfl Try.func15 (by kernel_rfl) rfl #[.agg #[.int .i64 x139000_1, .slice Ao56 x139001_1.length co56]] rfl mB ?_; (with_reducible refine (spec_GoodTable.calls k1 x139000_1 _ _ x139001_1 false _ ?side1 ?side2 A46.out).mono ?_); (case side1 => repeat (first | exact (Kd.S_reads' HO_139001.out).2.2 | (with_reducible refine Kd.C_alloc ?_ _) | (with_reducible refine Kd.C_drewN ?_ _) | (with_reducible refine Kd.C_drew ?_))); (case side2 => exact (Kd.S_reads' HO_139001.out).2.1); rintro e w57 ⟨rfl, hb⟩; refine ⟨_, rfl, ?_⟩; have n0_ := xm (Kd.S_below (by (with_reducible repeat (first | apply Kd.S_alloc | apply Kd.S_drewN | apply Kd.S_drew)); exact HO_139001.out) hb); have n1_ := xm (blk_below (kB BK136) hb); have n2_ := xm (blk_below (kB BK138) hb); have n3_ := xm (below_step bG hb); revert n0_ n1_ n2_ n3_; clear HO_139001 BK136 BK138 HB; intro HO_139001 BK136 BK138 HB; (try clear hb); (try clear hb2); (try clear hk); (try clear hi); obtain ⟨hcz58_0, hcz58_1, hfz58_0, hfz58_1⟩ := cz2 BK136.out))
      refine bodyPost_ret (results_ct rfl _ _ gb136 26 #[.int .i64 0, .slice none 0 0] (0, 0) _ rfl (by (with_reducible repeat (first | refine xq ?_ _ | refine xr ?_ | refine xo ?_ _)); refine blk_put (cs := #[.int .i64 0, .slice none 0 0]) ?_ 1 _ rfl; (with_reducible repeat (first | refine xq ?_ _ | refine xr ?_ | refine xo ?_ _)); refine blk_put (cs := #[.int .i64 0, .slice none 0 0]) ?_ 0 _ rfl; (with_reducible repeat (first | refine xq ?_ _ | refine xr ?_ | refine xo ?_ _)); exact BK136.out) Try.underlying26 rfl (by kernel_rfl)) rfl ?_
      exact ⟨_, by first | rfl | (simp [errW_none, errW_some] <;> rfl) | (simp [*, errW_none, errW_some] <;> rfl), by first | exact Kd.S_nil _ _ _ _ _ | exact Kd.N_nil _ _ _ _ _ | exact Kd.V_nil _ _ _ _ _ | exact Kd.Q_nil _ _ _ _ _ | exact Kd.R_nil _ _ _ _ _, by repeat (first | (with_reducible first | exact HB.out | apply xa | apply xn | apply xd | refine xt ?_ GE136.out | refine xt ?_ GE138.out) | exact HB.out)⟩
 ·replace c3 := Bool.eq_false_iff.mpr c3
  subst c3
  have H1 : (some (0, ([] : List (S47)), false)) = some (r1, r2, r3) := by first | (with_reducible rfl) | (rw [if_neg (show ¬ (false = true) by decide)] at H; exact H)
  clear H
  have H := H1
  clear H1
  simp only [Option.some.injEq, Prod.mk.injEq] at H
  obtain ⟨rfl, rfl, rfl⟩ := H
  go_enter Try.func5, Try.ntmps5
  go_wp2_with (first | ((with_reducible refine gate_dst (N := 2) rfl ?_); refine box_event ?hg (N := 2) ?hd (cs := #[.int .i64 0, .slice none 0 0]) (t := 26) ?hr ?_; (case hd => rfl); (case hg => rfl); (case hr => exact zB); intro gb136 hg w59 hbox hb; have n0_ := xm (below_step bB hb); have n1_ := xm (hbox); have n2_ := xm ((by rw [hg]; exact (xz bB) : w.heap.size ≤ gb136)); have n3_ := xm ((by rw [hg]; exact (xz bB) : w.heap.size ≤ gb136)); revert n0_ n1_ n2_ n3_; clear HB; intro HB BK136 GW136 GE136; clear hb hbox hg) | ((with_reducible refine gate_callee (f := 14) rfl ?_); refine goesL_ (some 9) rfl rfl Try.func14 (by kernel_rfl) rfl #[.slice A0 l0.length c0] rfl mB ?_; (with_reducible refine (spec_GoodGroups.calls k _ _ l0 false _ ?side1 ?side2 A2.out).mono ?_); (case side1 => exact cB (Kd.C_below HR0.out HB.out)); (case side2 => exact HC0.out); rintro e w60 ⟨rfl, hb⟩; refine ⟨_, rfl, ?_⟩; have n0_ := xm (blk_below (kB BK136) hb); have n1_ := xm (below_step bG hb); revert n0_ n1_; clear BK136 HB; intro BK136 HB; (try clear hb); (try clear hb2); (try clear hk); (try clear hi); obtain ⟨hcz61_0, hcz61_1, hfz61_0, hfz61_1⟩ := cz2 BK136.out))
  refine bodyPost_ret (results_ct rfl _ _ gb136 26 #[.int .i64 0, .slice none 0 0] (0, 0) _ rfl (by (with_reducible repeat (first | refine xq ?_ _ | refine xr ?_ | refine xo ?_ _)); refine blk_put (cs := #[.int .i64 0, .slice none 0 0]) ?_ 1 _ rfl; (with_reducible repeat (first | refine xq ?_ _ | refine xr ?_ | refine xo ?_ _)); refine blk_put (cs := #[.int .i64 0, .slice none 0 0]) ?_ 0 _ rfl; (with_reducible repeat (first | refine xq ?_ _ | refine xr ?_ | refine xo ?_ _)); exact BK136.out) Try.underlying26 rfl (by kernel_rfl)) rfl ?_
  exact ⟨_, by first | rfl | (simp [errW_none, errW_some] <;> rfl) | (simp [*, errW_none, errW_some] <;> rfl), by first | exact Kd.S_nil _ _ _ _ _ | exact Kd.N_nil _ _ _ _ _ | exact Kd.V_nil _ _ _ _ _ | exact Kd.Q_nil _ _ _ _ _ | exact Kd.R_nil _ _ _ _ _, by repeat (first | (with_reducible first | exact HB.out | apply xa | apply xn | apply xd | refine xt ?_ GE136.out) | exact HB.out)⟩

end Go.Proofs.Ytaddemalepndfaa.G
