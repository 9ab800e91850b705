/- Written by a program of this claim's own, out of the translation: functions of the program as plain functions, and that the calls answer as these. No conditions. -/
import Derived.Test.YtaddemalepndfaaG0
namespace Go.Proofs.Ytaddemalepndfaa.G
open Go.RowKit Go.Proofs.Ytaddemalepndfaa.X Go.Proofs.YtaddemalepndfaaW.PrintWords Go.Proofs.YtaddemalepndfaaW.PrintLast Go.Proofs.YtaddemalepndfaaW.PrintMore
attribute [local go_sem] max2_int min2_int max_two min_two max_three min_three max_four min_four   -- for this text's walks alone
set_option linter.unusedVariables false
set_option linter.unusedSimpArgs false

/-! ### laws_toIntS: function 42 -/
def laws_toIntS.l0 : Nat → List Int → List Int → Int → Option (List Int)
 | 0, _, _, _ => none
 | k + 1, x0, x3, x4 => if x4 < (x0.length : Int) then (if 0 ≤ x4 then (if x4 < (x3.length : Int) then (laws_toIntS.l0 k x0 (x3.set (x4 : Int).toNat (rd x0 x4)) (wrap64 (x4 + 1))) else (none)) else (none)) else (some x3)
def laws_toIntS.f (k : Nat) (l0 : List Int) : Option (List Int) := if 0 ≤ (l0.length : Int) then (if ((l0.length : Int) : Int).toNat ≤ 35184372088832 then (laws_toIntS.l0 k l0 (List.replicate ((l0.length : Int) : Int).toNat 0) 0) else (none)) else (none)
theorem laws_toIntS.mono_l : ∀ k, (∀ y0 y1 y2, LeO (laws_toIntS.l0 k y0 y1 y2) (laws_toIntS.l0 (k + 1) y0 y1 y2))
 | 0 => fun _ _ _ r h => by simp [laws_toIntS.l0] at h
 | k + 1 => by
  have ih0 := laws_toIntS.mono_l k
  ·intro y0 y1 y2
   unfold laws_toIntS.l0
   repeat' first
   | (with_reducible exact ih0 _ _ _)
   | (with_reducible exact LeO.refl _)
   | (with_reducible exact LeO.none _)
   | (with_reducible refine LeO.ite ?_ ?_)
   | (with_reducible refine LeO.bind ?_ (fun _ => ?_))
   | exact ih0 _ _ _
   | exact LeO.none _
   | refine LeO.ite ?_ ?_
   | refine LeO.bind ?_ (fun _ => ?_)
theorem laws_toIntS.mono : ∀ a0 k, LeO (laws_toIntS.f k a0) (laws_toIntS.f (k + 1) a0) := by
 intro a0 k
 have ih0 := laws_toIntS.mono_l k
 unfold laws_toIntS.f
 repeat' first
   | (with_reducible exact ih0 _ _ _)
   | (with_reducible exact LeO.refl _)
   | (with_reducible exact LeO.none _)
   | (with_reducible refine LeO.ite ?_ ?_)
   | (with_reducible refine LeO.bind ?_ (fun _ => ?_))
   | exact ih0 _ _ _
   | exact LeO.none _
   | refine LeO.ite ?_ ?_
   | refine LeO.bind ?_ (fun _ => ?_)
set_option maxHeartbeats 8000000 in
set_option maxRecDepth 100000 in
theorem laws_toIntS.calls (k : Nat) (A0 : Option Addr) (c0 : Nat) (l0 : List Int) (r : List Int) (w : World) (hr0 : Kd.C (Kd.int .i64) w A0 l0.length l0) (hc0 : l0.length ≤ c0) (h : laws_toIntS.f k l0 = some r) :
  Calls Try.prog 42 #[.slice A0 l0.length c0] w fun e w' => ∃ v0_ : Value, e = .returned (v0_) ∧ Kd.R (Kd.int .i64) 3 w' w.heap.size (fun _ => True) v0_ r ∧ Below w.heap.size w w' := by
 have HR0 := xm hr0
 have HC0 := xm hc0
 clear hr0 hc0
 have HB := xm (Below.refl w.heap.size w)
 have H : (if 0 ≤ (l0.length : Int) then (if ((l0.length : Int) : Int).toNat ≤ 35184372088832 then (laws_toIntS.l0 k l0 (List.replicate ((l0.length : Int) : Int).toNat 0) 0) else (none)) else (none)) = some r := h
 clear h
 by_cases c2 : 0 ≤ (l0.length : Int)
 ·rw [if_pos c2] at H
  have c2b0 := eq_true c2
  have c2b1 : decide (0 ≤ (l0.length : Int)) = true := decide_eq_true c2
  clear c2
  by_cases c3 : ((l0.length : Int) : Int).toNat ≤ 35184372088832
  ·rw [if_pos c3] at H
   have c3b0 := eq_true c3
   have c3b1 : decide (((l0.length : Int) : Int).toNat ≤ 35184372088832) = true := decide_eq_true c3
   clear c3
   obtain ⟨y158, hy158⟩ : ∃ y_ : List Int, y_ = (List.replicate ((l0.length : Int) : Int).toNat 0) := ⟨_, rfl⟩
   replace H : (laws_toIntS.l0 k l0 y158 0) = some r := by first | (rw [hy158]; with_reducible exact H) | (have H2_ := (Option.bind_some _ _).symm.trans H; rw [hy158]; with_reducible exact H2_) | (have H2_ := (Option.bind_some _ _).symm.trans H; with_reducible exact H2_) | with_reducible exact H | (rw [hy158]; exact H) | exact H
   have Ny158 := xm hy158
   clear hy158
   have H' := xm H
   clear H
   go_enter Try.func42, Try.ntmps42
   go_wp2_with (first | ((with_reducible refine gate_dst (N := 7) rfl ?_); refine Kd.R_make (Kd.int .i64) _ 3 rfl (N := 7) rfl 37 _ _ rfl (l0.length : Int) rfl rfl Try.underlying37 (.int .i64 0) 8 info3 rfl (by decide) (by omega) 0 (ok := fun _ => True) (okp := fun _ => True) rfl (fun _ hk => hk) trivial (of_decide_eq_true aB) (Nat.le_trans (Nat.mul_le_mul_right _ (of_decide_eq_true aB : (l0.length : Int).toNat ≤ 35184372088832)) (by omega)) (Below.refl _ _) (Nat.le_refl _) ?_; intro v159 w4 ho5 hb hg_ hnew_; clear hg_ hnew_; (first | rw [← Ny158.out] at ho5 | (simp only [Int.reduceToNat] at ho5; rw [← Ny158.out] at ho5)); have n0_ := xm (Kd.R_lower ho5 (xz bB)); have n1_ := xm (below_step bB hb); revert n0_ n1_; clear HB; intro HO160 HB; clear hb ho5))
   go_loopg [4] k (fun kq v4 w' => ∃ (x3_1 : List Int) (x4_1 : Int), v4 = .int .i64 x4_1 ∧ Aside0 (laws_toIntS.l0 kq l0 x3_1 x4_1 = some r) ∧ Aside0 (kq ≤ k) ∧ Aside0 (Kd.R (Kd.int .i64) 3 w' w.heap.size (fun _ => True) v159 x3_1) ∧ Aside0 (Below w.heap.size w w'))
   case atStart => exact ⟨(y158), (0), (by first | rfl | (simp; done) | (simp [*]; done)), H', ⟨Nat.le_refl _⟩, ⟨by (with_reducible repeat (first | apply Kd.R_alloc | apply Kd.R_drewN | apply Kd.R_drew)); exact HO160.out⟩, ⟨by repeat (first | (with_reducible first | exact HB.out | apply xa | apply xn | apply xd) | exact HB.out)⟩⟩
   case round =>
    clear H'
    try clear c2
    try clear c2b0
    try clear c2b1
    try clear p2
    try clear c3
    try clear c3b0
    try clear c3b1
    try clear c4
    obtain ⟨x3_1, x4_1, rfl, HA, HK1, HO_3, HB⟩ := hrel
    cases gk with
    | zero => exact absurd HA.out (by simp [laws_toIntS.l0])
    | succ k1 =>
     have H := HA.out
     clear HA
     simp only [laws_toIntS.l0] at H
     by_cases c6 : x4_1 < (l0.length : Int)
     ·rw [if_pos c6] at H
      have c6b0 : decide (x4_1 < (l0.length : Int)) = true := decide_eq_true c6
      clear c6
      by_cases c7 : 0 ≤ x4_1
      ·rw [if_pos c7] at H
       have c7b0 : decide (0 ≤ x4_1) = true := decide_eq_true c7
       clear c7
       by_cases c8 : x4_1 < (x3_1.length : Int)
       ·rw [if_pos c8] at H
        have c8b0 : decide (x4_1 < (x3_1.length : Int)) = true := decide_eq_true c8
        clear c8
        obtain ⟨y162, hy162⟩ : ∃ y_ : List Int, y_ = (x3_1.set (x4_1 : Int).toNat (rd l0 x4_1)) := ⟨_, rfl⟩
        replace H : (laws_toIntS.l0 k1 l0 y162 (wrap64 (x4_1 + 1))) = some r := by first | (rw [hy162]; with_reducible exact H) | (have H2_ := (Option.bind_some _ _).symm.trans H; rw [hy162]; with_reducible exact H2_) | (have H2_ := (Option.bind_some _ _).symm.trans H; with_reducible exact H2_) | with_reducible exact H | (rw [hy162]; exact H) | exact H
        have Ny162 := xm hy162
        clear hy162
        have H' := xm H
        clear H
        have p161 : 0 ≤ (x4_1 : Int) := of_decide_eq_true aB
        have q161 : x4_1 < (l0.length : Int) := of_decide_eq_true aB
        obtain ⟨ad161, e161, hx161_0⟩ := Kd.at_int HR0.out x4_1 p161 q161
        cases e161
        replace hx161_0 := (HB.out.cell (World.block_lt_of_cell? w _ hx161_0)).trans hx161_0
        replace p161 := eq_true p161
        replace q161 := eq_true q161
        have p9 : 0 ≤ (x4_1 : Int) := of_decide_eq_true aB
        have q9 : (x4_1 : Int) < ((x3_1.length : Int) : Int) := of_decide_eq_true aB
        obtain ⟨go9, co9, eo9, gb9, gl9, cl9, HG9⟩ := Kd.R_form HO_3.out (by omega)
        (first | cases eo9 | (injection eo9 with ea_ en_ ec_; (first | subst ea_ | (injection ea_ with ea_; subst ea_)); subst ec_; clear en_))
        have GB9 := xm gb9
        have GG9 := xm HG9
        clear gb9 gl9 HG9
        obtain ⟨hx9_0, hf9_0⟩ := Kd.R_celln 0 HO_3.out (x4_1 : Int) p9 q9
        replace p9 := eq_true p9
        replace q9 := eq_true q9
        have HP10 := Kd.R_putg HO_3.out (x4_1 : Int) (rd l0 x4_1)
        go_wp2_with (first | ((with_reducible refine gate_store (t := 3) (p := 20) rfl ?_); refine store_event (t := 3) (p := 20) (v := ?vo_w11) (w1 := (wr.setCell ⟨go9, (x4_1 : Int).toNat, none⟩ (.int .i64 (rd l0 x4_1)))) ?hg ?ho ?hn ?hr ?_; (case ho => rfl); (case hg => rfl); (case hn => rfl); (case hr => exact zB); intro w11 hw; have hg : wr.grownBy w11 (some go9) := (by rw [hw]; exact HP10.2); have hp_ : Kd.R (Kd.int .i64) 3 w11 w.heap.size (fun _ => True) (.slice (some ⟨go9, 0, none⟩) x3_1.length co9) y162 := (by rw [hw, Ny162.out]; exact HP10.1); clear HP10; have n0_ := xm (hp_); have n1_ := xm ((by rw [hw]; exact xt (HB.out) GB9.out : Below w.heap.size w w11)); revert n0_ n1_; clear HO_3 HB; intro HO_3 HB; clear hg hw hp_))
        go_roundg k1
        case measure => have := HK1.out; omega
        case rel => exact ⟨(y162), (wrap64 (x4_1 + 1)), (by first | rfl | (simp; done) | (simp [*]; done)), H', ⟨by have := HK1.out; omega⟩, ⟨by (with_reducible repeat (first | apply Kd.R_alloc | apply Kd.R_drewN | apply Kd.R_drew)); exact HO_3.out⟩, ⟨by repeat (first | (with_reducible first | exact HB.out | apply xa | apply xn | apply xd) | exact HB.out)⟩⟩
       ·rw [if_neg c8] at H
        exact absurd H (by simp)
      ·rw [if_neg c7] at H
       exact absurd H (by simp)
     ·rw [if_neg c6] at H
      have c6b0 : decide (x4_1 < (l0.length : Int)) = false := decide_eq_false c6
      clear c6
      obtain rfl := Option.some.inj H
      go_wp2
      go_ret
      exact ⟨_, by first | rfl | (simp [errW_none, errW_some] <;> rfl) | (simp [*, errW_none, errW_some] <;> rfl), by (with_reducible repeat (first | apply Kd.R_alloc | apply Kd.R_drewN | apply Kd.R_drew)); exact HO_3.out, by repeat (first | (with_reducible first | exact HB.out | apply xa | apply xn | apply xd) | exact HB.out)⟩
  ·rw [if_neg c3] at H
   exact absurd H (by simp)
 ·rw [if_neg c2] at H
  exact absurd H (by simp)

/-! ### laws_toRow: function 32 -/
def laws_toRow.f (k : Nat) (l0_0 : List Int) : Option (List Int) := (laws_toIntS.f k l0_0).bind fun t166 => (some t166)
theorem laws_toRow.mono : ∀ a0 k, LeO (laws_toRow.f k a0) (laws_toRow.f (k + 1) a0) := by
 intro a0 k
 unfold laws_toRow.f
 repeat' first
   | (with_reducible exact laws_toIntS.mono _ _)
   | (with_reducible exact LeO.refl _)
   | (with_reducible exact LeO.none _)
   | (with_reducible refine LeO.ite ?_ ?_)
   | (with_reducible refine LeO.bind ?_ (fun _ => ?_))
   | exact laws_toIntS.mono _ _
   | exact LeO.none _
   | refine LeO.ite ?_ ?_
   | refine LeO.bind ?_ (fun _ => ?_)
set_option maxHeartbeats 8000000 in
set_option maxRecDepth 100000 in
theorem laws_toRow.calls (k : Nat) (A0_0 : Option Addr) (c0_0 : Nat) (l0_0 : List Int) (r : List Int) (w : World) (hr0_0 : Kd.C (Kd.int .i64) w A0_0 l0_0.length l0_0) (hc0_0 : l0_0.length ≤ c0_0) (h : laws_toRow.f k l0_0 = some r) :
  Calls Try.prog 32 #[.agg #[.slice A0_0 l0_0.length c0_0]] w fun e w' => ∃ v0_ : Value, e = .returned (.agg #[v0_]) ∧ Kd.R (Kd.int .i64) 3 w' w.heap.size (fun _ => True) v0_ r ∧ Below w.heap.size w w' := by
 have hu39 := Try.underlying39
 have hu43 := Try.underlying43
 have HR0_0 := xm hr0_0
 have HC0_0 := xm hc0_0
 clear hr0_0 hc0_0
 have HB := xm (Below.refl w.heap.size w)
 have H : ((laws_toIntS.f k l0_0).bind fun t166 => (some t166)) = some r := h
 clear h
 replace H := Option.bind_eq_some_iff.mp H
 obtain ⟨t166, A20, H⟩ := H
 replace H : (some t166) = some r := H
 have A2 := xm A20
 clear A20
 obtain rfl := Option.some.inj H
 go_enter Try.func32, Try.ntmps32
 go_wp2_with (first | ((with_reducible refine gate_dst (N := 1) rfl ?_); refine box_event ?hg (N := 1) ?hd (cs := #[.slice A0_0 l0_0.length c0_0]) (t := 39) ?hr ?_; (case hd => rfl); (case hg => rfl); (case hr => exact zB); intro gb163 hg w3 hbox hb; have n0_ := xm (below_step bB hb); have n1_ := xm (hbox); have n2_ := xm ((by rw [hg]; exact (xz bB) : w.heap.size ≤ gb163)); have n3_ := xm ((by rw [hg]; exact (xz bB) : w.heap.size ≤ gb163)); revert n0_ n1_ n2_ n3_; clear HB; intro HB BK163 GW163 GE163; clear hb hbox hg) | ((with_reducible refine gate_dst (N := 2) rfl ?_); refine box_event ?hg (N := 2) ?hd (cs := #[.slice none 0 0]) (t := 43) ?hr ?_; (case hd => rfl); (case hg => rfl); (case hr => exact zB); intro gb164 hg w4 hbox hb; have n0_ := xm (blk_below (kB BK163) hb); have n1_ := xm (below_step bG hb); have n2_ := xm (hbox); have n3_ := xm ((by rw [hg]; exact (xz bG) : w.heap.size ≤ gb164)); have n4_ := xm ((by rw [hg]; exact (xz bG) : w.heap.size ≤ gb164)); have n5_ := xm ((by rw [hg]; exact Nat.ne_of_lt (blk_lt (kB BK163)) : gb163 ≠ gb164)); have n6_ := xm ((by rw [hg]; exact Nat.ne_of_gt (blk_lt (kB BK163)) : gb164 ≠ gb163)); revert n0_ n1_ n2_ n3_ n4_ n5_ n6_; clear BK163 HB; intro BK163 HB BK164 GW164 GE164 NB163_164 NB164_163; clear hb hbox hg) | ((with_reducible refine gate_dst (N := 3) rfl ?_); refine box_event ?hg (N := 3) ?hd (cs := #[.slice none 0 0]) (t := 43) ?hr ?_; (case hd => rfl); (case hg => rfl); (case hr => exact zB); intro gb165 hg w5 hbox hb; have n0_ := xm (blk_below (kB BK163) hb); have n1_ := xm (blk_below (kB BK164) hb); have n2_ := xm (below_step bG hb); have n3_ := xm (hbox); have n4_ := xm ((by rw [hg]; exact (xz bG) : w.heap.size ≤ gb165)); have n5_ := xm ((by rw [hg]; exact (xz bG) : w.heap.size ≤ gb165)); have n6_ := xm ((by rw [hg]; exact Nat.ne_of_lt (blk_lt (kB BK163)) : gb163 ≠ gb165)); have n7_ := xm ((by rw [hg]; exact Nat.ne_of_gt (blk_lt (kB BK163)) : gb165 ≠ gb163)); have n8_ := xm ((by rw [hg]; exact Nat.ne_of_lt (blk_lt (kB BK164)) : gb164 ≠ gb165)); have n9_ := xm ((by rw [hg]; exact Nat.ne_of_gt (blk_lt (kB BK164)) : gb165 ≠ gb164)); revert n0_ n1_ n2_ n3_ n4_ n5_ n6_ n7_ n8_ n9_; clear BK163 BK164 HB; intro BK163 BK164 HB BK165 GW165 GE165 NB163_165 NB165_163 NB164_165 NB165_164; clear hb hbox hg; have hnb6 := NB163_164.out; have hnc6 := NB164_163.out; have hnb7 := NB163_165.out; have hnc7 := NB165_163.out; obtain ⟨hcz8_0, hfz8_0⟩ := cz1 BK163.out) | ((with_reducible refine gate_callee (f := 42) rfl ?_); refine goesL_ (some 6) rfl rfl Try.func42 (by kernel_rfl) rfl #[.slice A0_0 l0_0.length c0_0] rfl mB ?_; (with_reducible refine (laws_toIntS.calls k _ _ l0_0 t166 _ ?side1 ?side2 A2.out).mono ?_); (case side1 => exact cB (Kd.C_below HR0_0.out HB.out)); (case side2 => exact HC0_0.out); rintro e w9 ⟨v167, rfl, ho0, hb⟩; refine ⟨_, rfl, ?_⟩; have n0_ := xm (Kd.R_lower ho0 (xz bG)); have n1_ := xm (blk_below (kB BK163) hb); have n2_ := xm (blk_below (kB BK164) hb); have n3_ := xm (blk_below (kB BK165) hb); have n4_ := xm (below_step bG hb); revert n0_ n1_ n2_ n3_ n4_; clear BK163 BK164 BK165 HB; intro HO168 BK163 BK164 BK165 HB; (try clear hb); (try clear hb2); (try clear hk); (try clear hi); (try clear ho0); obtain ⟨Ao10, co10, eo10⟩ := Kd.R_slice HO168.out; subst eo10; have hnb11 := NB165_164.out; have hnc11 := NB164_165.out; obtain ⟨hcz12_0, hfz12_0⟩ := cz1 BK165.out; obtain ⟨hcz13_0, hfz13_0⟩ := cz1 BK164.out))
 refine bodyPost_ret (results_cell_row rfl _ _ gb164 43 #[.slice Ao10 t166.length co10] (0, 0) _ rfl (by (with_reducible repeat (first | refine xq ?_ _ | refine xr ?_ | refine xo ?_ _)); refine blk_put (cs := #[.slice none 0 0]) ?_ 0 _ rfl; (with_reducible repeat (first | refine xq ?_ _ | refine xr ?_ | refine xo ?_ _)); refine blk_far ?_ NB164_165.out _; (with_reducible repeat (first | refine xq ?_ _ | refine xr ?_ | refine xo ?_ _)); exact BK164.out) Try.underlying43 rfl (by kernel_rfl)) rfl ?_
 exact ⟨_, by first | rfl | (simp [errW_none, errW_some] <;> rfl) | (simp [*, errW_none, errW_some] <;> rfl), by (with_reducible repeat (first | apply Kd.R_alloc | apply Kd.R_drewN | apply Kd.R_drew)); exact Kd.R_mono (Kd.R_far (p := ⟨gb164, 0, none⟩) (Kd.R_far (p := ⟨gb165, 0, none⟩) (Kd.R_types (Kd.R_types HO168.out BK165.out (by decide)) BK164.out (by decide)) (fun _ hk => hk.1.2) (.slice Ao10 t166.length co10)) (fun _ hk => hk.2) (.slice Ao10 t166.length co10)) (fun _ hk => trivial), by repeat (first | (with_reducible first | exact HB.out | apply xa | apply xn | apply xd | refine xt ?_ GE163.out | refine xt ?_ GE164.out | refine xt ?_ GE165.out) | exact HB.out)⟩

/-! ### laws_toGroup: function 16 -/
def laws_toGroup.f (k : Nat) (l0_0 : List Int) (a0_1 : Int) (a0_2 : Int) : Option (List Int × Int × Int) := (laws_toRow.f k l0_0).bind fun t172 => (some (t172, a0_1, a0_2))
theorem laws_toGroup.mono : ∀ a0 a1 a2 k, LeO (laws_toGroup.f k a0 a1 a2) (laws_toGroup.f (k + 1) a0 a1 a2) := by
 intro a0 a1 a2 k
 unfold laws_toGroup.f
 repeat' first
   | (with_reducible exact laws_toRow.mono _ _)
   | (with_reducible exact LeO.refl _)
   | (with_reducible exact LeO.none _)
   | (with_reducible refine LeO.ite ?_ ?_)
   | (with_reducible refine LeO.bind ?_ (fun _ => ?_))
   | exact laws_toRow.mono _ _
   | exact LeO.none _
   | refine LeO.ite ?_ ?_
   | refine LeO.bind ?_ (fun _ => ?_)
set_option maxHeartbeats 8000000 in
set_option maxRecDepth 100000 in
theorem laws_toGroup.calls (k : Nat) (A0_0 : Option Addr) (c0_0 : Nat) (l0_0 : List Int) (a0_1 : Int) (a0_2 : Int) (r1 : List Int) (r2 : Int) (r3 : Int) (w : World) (hr0_0 : Kd.C (Kd.int .i64) w A0_0 l0_0.length l0_0) (hc0_0 : l0_0.length ≤ c0_0) (h : laws_toGroup.f k l0_0 a0_1 a0_2 = some (r1, r2, r3)) :
  Calls Try.prog 16 #[.agg #[.slice A0_0 l0_0.length c0_0, .int .i64 a0_1, .int .i64 a0_2]] w fun e w' => ∃ v0_ : Value, e = .returned (.agg #[v0_, .int .i64 r2, .int .i64 r3]) ∧ Kd.R (Kd.int .i64) 3 w' w.heap.size (fun _ => True) v0_ r1 ∧ Below w.heap.size w w' := by
 have hu41 := Try.underlying41
 have hu45 := Try.underlying45
 have hu39 := Try.underlying39
 have hu43 := Try.underlying43
 have HR0_0 := xm hr0_0
 have HC0_0 := xm hc0_0
 clear hr0_0 hc0_0
 have HB := xm (Below.refl w.heap.size w)
 have H : ((laws_toRow.f k l0_0).bind fun t172 => (some (t172, a0_1, a0_2))) = some (r1, r2, r3) := h
 clear h
 replace H := Option.bind_eq_some_iff.mp H
 obtain ⟨t172, A20, H⟩ := H
 replace H : (some (t172, a0_1, a0_2)) = some (r1, r2, r3) := H
 have A2 := xm A20
 clear A20
 simp only [Option.some.injEq, Prod.mk.injEq] at H
 obtain ⟨rfl, rfl, rfl⟩ := H
 go_enter Try.func16, Try.ntmps16
 go_wp2_with (first | ((with_reducible refine gate_dst (N := 1) rfl ?_); refine box_event ?hg (N := 1) ?hd (cs := #[.slice A0_0 l0_0.length c0_0, .int .i64 a0_1, .int .i64 a0_2]) (t := 41) ?hr ?_; (case hd => rfl); (case hg => rfl); (case hr => exact zB); intro gb169 hg w3 hbox hb; have n0_ := xm (below_step bB hb); have n1_ := xm (hbox); have n2_ := xm ((by rw [hg]; exact (xz bB) : w.heap.size ≤ gb169)); have n3_ := xm ((by rw [hg]; exact (xz bB) : w.heap.size ≤ gb169)); revert n0_ n1_ n2_ n3_; clear HB; intro HB BK169 GW169 GE169; clear hb hbox hg) | ((with_reducible refine gate_dst (N := 2) rfl ?_); refine box_event ?hg (N := 2) ?hd (cs := #[.slice none 0 0, .int .i64 0, .int .i64 0]) (t := 45) ?hr ?_; (case hd => rfl); (case hg => rfl); (case hr => exact zB); intro gb170 hg w4 hbox hb; have n0_ := xm (blk_below (kB BK169) hb); have n1_ := xm (below_step bG hb); have n2_ := xm (hbox); have n3_ := xm ((by rw [hg]; exact (xz bG) : w.heap.size ≤ gb170)); have n4_ := xm ((by rw [hg]; exact (xz bG) : w.heap.size ≤ gb170)); have n5_ := xm ((by rw [hg]; exact Nat.ne_of_lt (blk_lt (kB BK169)) : gb169 ≠ gb170)); have n6_ := xm ((by rw [hg]; exact Nat.ne_of_gt (blk_lt (kB BK169)) : gb170 ≠ gb169)); revert n0_ n1_ n2_ n3_ n4_ n5_ n6_; clear BK169 HB; intro BK169 HB BK170 GW170 GE170 NB169_170 NB170_169; clear hb hbox hg) | ((with_reducible refine gate_dst (N := 3) rfl ?_); refine box_event ?hg (N := 3) ?hd (cs := #[.slice none 0 0, .int .i64 0, .int .i64 0]) (t := 45) ?hr ?_; (case hd => rfl); (case hg => rfl); (case hr => exact zB); intro gb171 hg w5 hbox hb; have n0_ := xm (blk_below (kB BK169) hb); have n1_ := xm (blk_below (kB BK170) hb); have n2_ := xm (below_step bG hb); have n3_ := xm (hbox); have n4_ := xm ((by rw [hg]; exact (xz bG) : w.heap.size ≤ gb171)); have n5_ := xm ((by rw [hg]; exact (xz bG) : w.heap.size ≤ gb171)); have n6_ := xm ((by rw [hg]; exact Nat.ne_of_lt (blk_lt (kB BK169)) : gb169 ≠ gb171)); have n7_ := xm ((by rw [hg]; exact Nat.ne_of_gt (blk_lt (kB BK169)) : gb171 ≠ gb169)); have n8_ := xm ((by rw [hg]; exact Nat.ne_of_lt (blk_lt (kB BK170)) : gb170 ≠ gb171)); have n9_ := xm ((by rw [hg]; exact Nat.ne_of_gt (blk_lt (kB BK170)) : gb171 ≠ gb170)); revert n0_ n1_ n2_ n3_ n4_ n5_ n6_ n7_ n8_ n9_; clear BK169 BK170 HB; intro BK169 BK170 HB BK171 GW171 GE171 NB169_171 NB171_169 NB170_171 NB171_170; clear hb hbox hg; have hnb6 := NB169_170.out; have hnc6 := NB170_169.out; have hnb7 := NB169_171.out; have hnc7 := NB171_169.out; obtain ⟨hcz8_0, hcz8_1, hcz8_2, hfz8_0, hfz8_1, hfz8_2⟩ := cz3 BK169.out) | ((with_reducible refine gate_callee (f := 32) rfl ?_); refine goesL_ (some 6) rfl rfl Try.func32 (by kernel_rfl) rfl #[.agg #[.slice A0_0 l0_0.length c0_0]] rfl mB ?_; (with_reducible refine (laws_toRow.calls k _ _ l0_0 t172 _ ?side1 ?side2 A2.out).mono ?_); (case side1 => exact cB (Kd.C_below HR0_0.out HB.out)); (case side2 => exact HC0_0.out); rintro e w9 ⟨v173, rfl, ho0, hb⟩; refine ⟨_, rfl, ?_⟩; have n0_ := xm (Kd.R_lower ho0 (xz bG)); have n1_ := xm (blk_below (kB BK169) hb); have n2_ := xm (blk_below (kB BK170) hb); have n3_ := xm (blk_below (kB BK171) hb); have n4_ := xm (below_step bG hb); revert n0_ n1_ n2_ n3_ n4_; clear BK169 BK170 BK171 HB; intro HO174 BK169 BK170 BK171 HB; (try clear hb); (try clear hb2); (try clear hk); (try clear hi); (try clear ho0); obtain ⟨Ao10, co10, eo10⟩ := Kd.R_slice HO174.out; subst eo10; have hnb11 := NB171_170.out; have hnc11 := NB170_171.out; obtain ⟨hcz12_0, hcz12_1, hcz12_2, hfz12_0, hfz12_1, hfz12_2⟩ := cz3 BK171.out; obtain ⟨hcz13_0, hcz13_1, hcz13_2, hfz13_0, hfz13_1, hfz13_2⟩ := cz3 BK169.out; obtain ⟨hcz14_0, hcz14_1, hcz14_2, hfz14_0, hfz14_1, hfz14_2⟩ := cz3 BK170.out))
 refine bodyPost_ret (results_cell_row rfl _ _ gb170 45 #[.slice Ao10 t172.length co10, .int .i64 a0_1, .int .i64 a0_2] (0, 0) _ rfl (by (with_reducible repeat (first | refine xq ?_ _ | refine xr ?_ | refine xo ?_ _)); refine blk_put (cs := #[.slice Ao10 t172.length co10, .int .i64 a0_1, .int .i64 0]) ?_ 2 _ rfl; (with_reducible repeat (first | refine xq ?_ _ | refine xr ?_ | refine xo ?_ _)); refine blk_put (cs := #[.slice Ao10 t172.length co10, .int .i64 0, .int .i64 0]) ?_ 1 _ rfl; (with_reducible repeat (first | refine xq ?_ _ | refine xr ?_ | refine xo ?_ _)); refine blk_put (cs := #[.slice none 0 0, .int .i64 0, .int .i64 0]) ?_ 0 _ rfl; (with_reducible repeat (first | refine xq ?_ _ | refine xr ?_ | refine xo ?_ _)); refine blk_far ?_ NB170_171.out _; (with_reducible repeat (first | refine xq ?_ _ | refine xr ?_ | refine xo ?_ _)); refine blk_far ?_ NB170_171.out _; (with_reducible repeat (first | refine xq ?_ _ | refine xr ?_ | refine xo ?_ _)); refine blk_far ?_ NB170_171.out _; (with_reducible repeat (first | refine xq ?_ _ | refine xr ?_ | refine xo ?_ _)); exact BK170.out) Try.underlying45 rfl (by kernel_rfl)) rfl ?_
 exact ⟨_, by first | rfl | (simp [errW_none, errW_some] <;> rfl) | (simp [*, errW_none, errW_some] <;> rfl), by (with_reducible repeat (first | apply Kd.R_alloc | apply Kd.R_drewN | apply Kd.R_drew)); exact Kd.R_mono (Kd.R_far (p := ⟨gb170, 2, none⟩) (Kd.R_far (p := ⟨gb170, 1, none⟩) (Kd.R_far (p := ⟨gb170, 0, none⟩) (Kd.R_far (p := ⟨gb171, 2, none⟩) (Kd.R_far (p := ⟨gb171, 1, none⟩) (Kd.R_far (p := ⟨gb171, 0, none⟩) (Kd.R_types (Kd.R_types HO174.out BK171.out (by decide)) BK170.out (by decide)) (fun _ hk => hk.1.2) (.slice Ao10 t172.length co10)) (fun _ hk => hk.1.2) (.int .i64 a0_1)) (fun _ hk => hk.1.2) (.int .i64 a0_2)) (fun _ hk => hk.2) (.slice Ao10 t172.length co10)) (fun _ hk => hk.2) (.int .i64 a0_1)) (fun _ hk => hk.2) (.int .i64 a0_2)) (fun _ hk => trivial), by repeat (first | (with_reducible first | exact HB.out | apply xa | apply xn | apply xd | refine xt ?_ GE169.out | refine xt ?_ GE170.out | refine xt ?_ GE171.out) | exact HB.out)⟩

/-! ### laws_toGroupS: function 6 -/
def laws_toGroupS.l0 : Nat → List (S41) → List (S45) → Int → Option ((List (S45)))
 | 0, _, _, _ => none
 | k + 1, x0, x3, x4 => if x4 < (x0.length : Int) then (if 0 ≤ x4 then ((laws_toGroup.f k ((rd_T41 x0 x4).f0.f0) ((rd_T41 x0 x4).f1) ((rd_T41 x0 x4).f2)).bind fun bt179 => (if x4 < (x3.length : Int) then (laws_toGroupS.l0 k x0 (x3.set (x4 : Int).toNat (⟨(⟨bt179.1⟩ : S43), bt179.2.1, bt179.2.2⟩ : S45)) (wrap64 (x4 + 1))) else (none))) else (none)) else (some x3)
def laws_toGroupS.f (k : Nat) (l0 : List (S41)) : Option ((List (S45))) := if 0 ≤ (l0.length : Int) then (if ((l0.length : Int) : Int).toNat ≤ 7036874417766 then (laws_toGroupS.l0 k l0 (List.replicate ((l0.length : Int) : Int).toNat z45) 0) else (none)) else (none)
theorem laws_toGroupS.mono_l : ∀ k, (∀ y0 y1 y2, LeO (laws_toGroupS.l0 k y0 y1 y2) (laws_toGroupS.l0 (k + 1) y0 y1 y2))
 | 0 => fun _ _ _ r h => by simp [laws_toGroupS.l0] at h
 | k + 1 => by
  have ih0 := laws_toGroupS.mono_l k
  ·intro y0 y1 y2
   unfold laws_toGroupS.l0
   repeat' first
   | (with_reducible exact ih0 _ _ _)
   | (with_reducible exact laws_toGroup.mono _ _ _ _)
   | (with_reducible exact LeO.refl _)
   | (with_reducible exact LeO.none _)
   | (with_reducible refine LeO.ite ?_ ?_)
   | (with_reducible refine LeO.bind ?_ (fun _ => ?_))
   | exact ih0 _ _ _
   | exact laws_toGroup.mono _ _ _ _
   | exact LeO.none _
   | refine LeO.ite ?_ ?_
   | refine LeO.bind ?_ (fun _ => ?_)
theorem laws_toGroupS.mono : ∀ a0 k, LeO (laws_toGroupS.f k a0) (laws_toGroupS.f (k + 1) a0) := by
 intro a0 k
 have ih0 := laws_toGroupS.mono_l k
 unfold laws_toGroupS.f
 repeat' first
   | (with_reducible exact ih0 _ _ _)
   | (with_reducible exact laws_toGroup.mono _ _ _ _)
   | (with_reducible exact LeO.refl _)
   | (with_reducible exact LeO.none _)
   | (with_reducible refine LeO.ite ?_ ?_)
   | (with_reducible refine LeO.bind ?_ (fun _ => ?_))
   | exact ih0 _ _ _
   | exact laws_toGroup.mono _ _ _ _
   | exact LeO.none _
   | refine LeO.ite ?_ ?_
   | refine LeO.bind ?_ (fun _ => ?_)
set_option maxHeartbeats 8000000 in
set_option maxRecDepth 100000 in
theorem laws_toGroupS.calls (k : Nat) (A0 : Option Addr) (c0 : Nat) (l0 : List (S41)) (r : List (S45)) (w : World) (hr0 : Kd.C k41 w A0 l0.length l0) (hc0 : l0.length ≤ c0) (h : laws_toGroupS.f k l0 = some r) :
  Calls Try.prog 6 #[.slice A0 l0.length c0] w fun e w' => ∃ v0_ : Value, e = .returned (v0_) ∧ Kd.S k45 45 w' w.heap.size (fun _ => True) v0_ r ∧ Below w.heap.size w w' := by
 have hu41 := Try.underlying41
 have hu45 := Try.underlying45
 have HR0 := xm hr0
 have HC0 := xm hc0
 clear hr0 hc0
 have HB := xm (Below.refl w.heap.size w)
 have H : (if 0 ≤ (l0.length : Int) then (if ((l0.length : Int) : Int).toNat ≤ 7036874417766 then (laws_toGroupS.l0 k l0 (List.replicate ((l0.length : Int) : Int).toNat z45) 0) else (none)) else (none)) = some r := h
 clear h
 by_cases c2 : 0 ≤ (l0.length : Int)
 ·rw [if_pos c2] at H
  have c2b0 := eq_true c2
  have c2b1 : decide (0 ≤ (l0.length : Int)) = true := decide_eq_true c2
  clear c2
  by_cases c3 : ((l0.length : Int) : Int).toNat ≤ 7036874417766
  ·rw [if_pos c3] at H
   have c3b0 := eq_true c3
   have c3b1 : decide (((l0.length : Int) : Int).toNat ≤ 7036874417766) = true := decide_eq_true c3
   clear c3
   obtain ⟨y175, hy175⟩ : ∃ y_ : List (S45), y_ = (List.replicate ((l0.length : Int) : Int).toNat z45) := ⟨_, rfl⟩
   replace H : (laws_toGroupS.l0 k l0 y175 0) = some r := by first | (rw [hy175]; with_reducible exact H) | (have H2_ := (Option.bind_some _ _).symm.trans H; rw [hy175]; with_reducible exact H2_) | (have H2_ := (Option.bind_some _ _).symm.trans H; with_reducible exact H2_) | with_reducible exact H | (rw [hy175]; exact H) | exact H
   have Ny175 := xm hy175
   clear hy175
   have H' := xm H
   clear H
   go_enter Try.func6, Try.ntmps6
   go_wp2_with (first | ((with_reducible refine gate_dst (N := 7) rfl ?_); refine Kd.S_make k45 _ 45 rfl (N := 7) rfl 29 _ _ rfl (l0.length : Int) rfl rfl Try.underlying29 (.agg #[(.slice none 0 0), (.int .i64 0), (.int .i64 0)]) 40 info45 rfl (by decide) (by omega) z45 (ok := fun _ => True) (okp := fun _ => True) (k45_mkM _ _ _ z45 (Kd.R_nil _ _ _ _ _)) (fun _ hk => hk) trivial (of_decide_eq_true aB) (Nat.le_trans (Nat.mul_le_mul_right _ (of_decide_eq_true aB : (l0.length : Int).toNat ≤ 7036874417766)) (by omega)) (Below.refl _ _) (Nat.le_refl _) ?_; intro v176 w4 ho5 hb hg_ hnew_; clear hg_ hnew_; (first | rw [← Ny175.out] at ho5 | (simp only [Int.reduceToNat] at ho5; rw [← Ny175.out] at ho5)); have n0_ := xm (Kd.S_lower ho5 (xz bB)); have n1_ := xm (below_step bB hb); revert n0_ n1_; clear HB; intro HO177 HB; clear hb ho5))
   go_loopg [4] k (fun kq v4 w' => ∃ (x3_1 : List (S45)) (x4_1 : Int), v4 = .int .i64 x4_1 ∧ Aside0 (laws_toGroupS.l0 kq l0 x3_1 x4_1 = some r) ∧ Aside0 (kq ≤ k) ∧ Aside0 (Kd.S k45 45 w' w.heap.size (fun _ => True) v176 x3_1) ∧ Aside0 (Below w.heap.size w w'))
   case atStart => exact ⟨(y175), (0), (by first | rfl | (simp; done) | (simp [*]; done)), H', ⟨Nat.le_refl _⟩, ⟨by (with_reducible repeat (first | apply Kd.S_alloc | apply Kd.S_drewN | apply Kd.S_drew)); exact HO177.out⟩, ⟨by repeat (first | (with_reducible first | exact HB.out | apply xa | apply xn | apply xd) | exact HB.out)⟩⟩
   case round =>
    clear H'
    try clear c2
    try clear c2b0
    try clear c2b1
    try clear p2
    try clear c3
    try clear c3b0
    try clear c3b1
    obtain ⟨x3_1, x4_1, rfl, HA, HK1, HO_3, HB⟩ := hrel
    cases gk with
    | zero => exact absurd HA.out (by simp [laws_toGroupS.l0])
    | succ k1 =>
     have H := HA.out
     clear HA
     simp only [laws_toGroupS.l0] at H
     by_cases c6 : x4_1 < (l0.length : Int)
     ·rw [if_pos c6] at H
      have c6b0 : decide (x4_1 < (l0.length : Int)) = true := decide_eq_true c6
      clear c6
      by_cases c7 : 0 ≤ x4_1
      ·rw [if_pos c7] at H
       have c7b0 : decide (0 ≤ x4_1) = true := decide_eq_true c7
       clear c7
       replace H := Option.bind_eq_some_iff.mp H
       obtain ⟨⟨t179, t182, t183⟩, A80, H⟩ := H
       replace H : (if x4_1 < (x3_1.length : Int) then (laws_toGroupS.l0 k1 l0 (x3_1.set (x4_1 : Int).toNat (⟨(⟨t179⟩ : S43), t182, t183⟩ : S45)) (wrap64 (x4_1 + 1))) else (none)) = some r := H
       have A8 := xm A80
       clear A80
       by_cases c9 : x4_1 < (x3_1.length : Int)
       ·rw [if_pos c9] at H
        have c9b0 : decide (x4_1 < (x3_1.length : Int)) = true := decide_eq_true c9
        clear c9
        obtain ⟨y184, hy184⟩ : ∃ y_ : List (S45), y_ = (x3_1.set (x4_1 : Int).toNat (⟨(⟨t179⟩ : S43), t182, t183⟩ : S45)) := ⟨_, rfl⟩
        replace H : (laws_toGroupS.l0 k1 l0 y184 (wrap64 (x4_1 + 1))) = some r := by first | (rw [hy184]; with_reducible exact H) | (have H2_ := (Option.bind_some _ _).symm.trans H; rw [hy184]; with_reducible exact H2_) | (have H2_ := (Option.bind_some _ _).symm.trans H; with_reducible exact H2_) | with_reducible exact H | (rw [hy184]; exact H) | exact H
        have Ny184 := xm hy184
        clear hy184
        have H' := xm H
        clear H
        have p178 : 0 ≤ (x4_1 : Int) := of_decide_eq_true aB
        have q178 : x4_1 < (l0.length : Int) := of_decide_eq_true aB
        obtain ⟨ad178, A178_0, c178_0, e178, hx178_0, hx178_1, hx178_2, hl178_0, hi178_0⟩ := at_T41 HR0.out x4_1 p178 q178
        cases e178
        replace hx178_0 := (HB.out.cell (World.block_lt_of_cell? w _ hx178_0)).trans hx178_0
        replace hx178_1 := (HB.out.cell (World.block_lt_of_cell? w _ hx178_1)).trans hx178_1
        replace hx178_2 := (HB.out.cell (World.block_lt_of_cell? w _ hx178_2)).trans hx178_2
        have HR178_0 := xm hi178_0
        have HC178_0 := xm hl178_0
        clear hi178_0 hl178_0
        replace p178 := eq_true p178
        replace q178 := eq_true q178
        go_wp2_with (first | ((with_reducible refine gate_callee (f := 16) rfl ?_); refine goesL_ (some 20) rfl rfl Try.func16 (by kernel_rfl) rfl #[.agg #[.slice A178_0 ((rd_T41 l0 x4_1).f0.f0).length c178_0, .int .i64 ((rd_T41 l0 x4_1).f1), .int .i64 ((rd_T41 l0 x4_1).f2)]] rfl mB ?_; (with_reducible refine (laws_toGroup.calls k1 _ _ ((rd_T41 l0 x4_1).f0.f0) ((rd_T41 l0 x4_1).f1) ((rd_T41 l0 x4_1).f2) t179 t182 t183 _ ?side1 ?side2 A8.out).mono ?_); (case side1 => exact cB (Kd.C_below HR178_0.out HB.out)); (case side2 => exact HC178_0.out); rintro e w11 ⟨v180, rfl, ho0, hb⟩; refine ⟨_, rfl, ?_⟩; have n0_ := xm (Kd.S_elder' (by (with_reducible repeat (first | apply Kd.S_alloc | apply Kd.S_drewN | apply Kd.S_drew)); exact HO_3.out) (Kd.R_base ho0) hb); have n1_ := xm (Kd.R_lower ho0 (xz bB)); have n2_ := xm (below_step bB hb); revert n0_ n1_ n2_; clear HO_3 HB; intro HO_3 HO181 HB; (try clear hb); (try clear hb2); (try clear hk); (try clear hi); (try clear ho0); have p10 : 0 ≤ (x4_1 : Int) := of_decide_eq_true aB; have q10 : (x4_1 : Int) < ((x3_1.length : Int) : Int) := of_decide_eq_true aB; obtain ⟨go10, co10, eo10, gb10, gl10, cl10, HG10⟩ := Kd.S_form HO_3.out (by omega); (first | cases eo10 | (injection eo10 with ea_ en_ ec_; (first | subst ea_ | (injection ea_ with ea_; subst ea_)); subst ec_; clear en_)); have GB10 := xm gb10; have GG10 := xm HG10; clear gb10 gl10 HG10; obtain ⟨_, ce10, hcl10, hM10, hcc10, hfr10, _, _⟩ := Kd.S_elem HO_3.out z45 (x4_1 : Int) p10 q10; obtain ⟨ve10_0, rfl, ge10_0⟩ := k45_openM hM10; have hx10_0 : w11.cell? ⟨go10, (x4_1 : Int).toNat * 3, none⟩ = some (ve10_0) := hcc10 0 _ rfl; have hx10_1 : w11.cell? ⟨go10, (x4_1 : Int).toNat * 3 + 1, none⟩ = some (.int .i64 ((rd_T45 x3_1 x4_1).f1)) := hcc10 1 _ rfl; have hx10_2 : w11.cell? ⟨go10, (x4_1 : Int).toNat * 3 + 2, none⟩ = some (.int .i64 ((rd_T45 x3_1 x4_1).f2)) := hcc10 2 _ rfl; have hf10_0 : w11.frozen? ⟨go10, (x4_1 : Int).toNat * 3, none⟩ = false := hfr10 0; have hf10_1 : w11.frozen? ⟨go10, (x4_1 : Int).toNat * 3 + 1, none⟩ = false := hfr10 1; have hf10_2 : w11.frozen? ⟨go10, (x4_1 : Int).toNat * 3 + 2, none⟩ = false := hfr10 2; (try clear hM10); clear hcl10 hcc10 hfr10; replace p10 := eq_true p10; replace q10 := eq_true q10; obtain ⟨Ao14, co14, eo14⟩ := Kd.R_slice HO181.out; subst eo14; have n_ := xm (Kd.S_mono (ok' := (fun k_ => some k_ ≠ (.slice Ao14 t179.length co14 : Value).ownBlock)) HO_3.out (fun k_ hk => hk.2)); clear HO_3; have HO_3 := n_; clear n_; have HX12 := xm (show Kd.S k45 45 w11 w.heap.size (fun k_ => ((fun _ => True)) k_ ∧ ¬ ((fun k_ => some k_ = (.slice Ao14 t179.length co14 : Value).ownBlock)) k_) (.slice (some ⟨go10, 0, none⟩) x3_1.length co10) x3_1 from (by (with_reducible repeat (first | apply Kd.S_alloc | apply Kd.S_drewN | apply Kd.S_drew)); exact Kd.S_mono HO_3.out (fun k_ hk => ⟨trivial, fun e_ => hk e_⟩))); obtain ⟨oki12, ce12, hcl12, hM12, hcc12, hfr12, hoki12, hH12⟩ := Kd.S_elem HX12.out z45 (x4_1 : Int) (of_decide_eq_true aB) (by have h_ : (x4_1 : Int) < ((x3_1.length : Int) : Int) := of_decide_eq_true aB; first | exact h_ | (have e_ := (Kd.S_reads' HO_3.out).1; omega) | simpa using h_); obtain ⟨ve12_0, rfl, ge12_0⟩ := k45_openM hM12; have HP12 := Kd.S_seg hH12 (of_decide_eq_true aB) (by have h_ : (x4_1 : Int) < ((x3_1.length : Int) : Int) := of_decide_eq_true aB; first | exact h_ | (have e_ := (Kd.S_reads' HO_3.out).1; omega) | simpa using h_) (seg := [.slice Ao14 t179.length co14, .int .i64 t182, .int .i64 t183]) (j := 0) (show 3 ≤ 3 from by decide) (x' := (⟨(⟨t179⟩ : S43), t182, t183⟩ : S45)) (k45_mkM _ _ _ (⟨(⟨t179⟩ : S43), t182, t183⟩ : S45) (Kd.R_mono (Kd.R_tight rfl (Kd.R_mono (ok' := fun k_ => ((fun _ => True)) k_ ∧ k_ ≠ go10) (Kd.R_apart' (HO181.out) (Kd.S_typed HO_3.out) (by decide)) (fun k_ hk => ⟨trivial, fun e_ => (hk.2) (by rw [e_]; rfl)⟩))) (fun _ h_ => Or.inr (h_)))) (fun _ hk => hk) (fun k_ hk_ => ((Kd.R_mono (ok' := fun k_ => ((fun _ => True)) k_ ∧ k_ ≠ go10) (Kd.R_apart' (HO181.out) (Kd.S_typed HO_3.out) (by decide)) (fun k_ hk => ⟨trivial, fun e_ => (hk.2) (by rw [e_]; rfl)⟩))).1 k_ hk_.symm); have hx12_0 := hcc12 0 _ rfl; (try simp only [show (k45).sz = 3 from rfl, Nat.mul_one, Nat.add_zero] at hx12_0); have hf12_0 := hfr12 0; (try simp only [show (k45).sz = 3 from rfl, Nat.mul_one, Nat.add_zero] at hf12_0); have hx12_1 := hcc12 1 _ rfl; (try simp only [show (k45).sz = 3 from rfl, Nat.mul_one, Nat.add_zero] at hx12_1); have hf12_1 := hfr12 1; (try simp only [show (k45).sz = 3 from rfl, Nat.mul_one, Nat.add_zero] at hf12_1); have hx12_2 := hcc12 2 _ rfl; (try simp only [show (k45).sz = 3 from rfl, Nat.mul_one, Nat.add_zero] at hx12_2); have hf12_2 := hfr12 2; (try simp only [show (k45).sz = 3 from rfl, Nat.mul_one, Nat.add_zero] at hf12_2); (try clear hM12); clear hcl12 hcc12 hfr12 hoki12 hH12) | ((with_reducible refine gate_store (t := 45) (p := 21) rfl ?_); refine store_event (t := 45) (p := 21) (v := ?vo_w13) (w1 := (((w11.setCell ⟨go10, (x4_1 : Int).toNat * 3, none⟩ (.slice Ao14 t179.length co14)).setCell ⟨go10, (x4_1 : Int).toNat * 3 + 1, none⟩ (.int .i64 t182)).setCell ⟨go10, (x4_1 : Int).toNat * 3 + 2, none⟩ (.int .i64 t183))) ?hg ?ho ?hn ?hr ?_; (case ho => rfl); (case hg => rfl); (case hn => rfl); (case hr => exact zB); intro w13 hw; have hg : w11.grownBy w13 (some go10) := (by rw [hw]; exact HP12.2); have hp_ : Kd.S k45 45 w13 w.heap.size (fun _ => True) (.slice (some ⟨go10, 0, none⟩) x3_1.length co10) y184 := (by rw [hw, Ny184.out]; exact HP12.1); clear HP12; have n0_ := xm (hp_); have n1_ := xm ((by rw [hw]; exact xt (xt (xt (HB.out) GB10.out) GB10.out) GB10.out : Below w.heap.size w w13)); revert n0_ n1_; clear HO_3 HB HO181; intro HO_3 HB; clear hg hw hp_))
        go_roundg k1
        case measure => have := HK1.out; omega
        case rel => exact ⟨(y184), (wrap64 (x4_1 + 1)), (by first | rfl | (simp; done) | (simp [*]; done)), H', ⟨by have := HK1.out; omega⟩, ⟨by (with_reducible repeat (first | apply Kd.S_alloc | apply Kd.S_drewN | apply Kd.S_drew)); exact HO_3.out⟩, ⟨by repeat (first | (with_reducible first | exact HB.out | apply xa | apply xn | apply xd) | exact HB.out)⟩⟩
       ·rw [if_neg c9] at H
        exact absurd H (by simp)
      ·rw [if_neg c7] at H
       exact absurd H (by simp)
     ·rw [if_neg c6] at H
      have c6b0 : decide (x4_1 < (l0.length : Int)) = false := decide_eq_false c6
      clear c6
      obtain rfl := Option.some.inj H
      go_wp2
      go_ret
      exact ⟨_, by first | rfl | (simp [errW_none, errW_some] <;> rfl) | (simp [*, errW_none, errW_some] <;> rfl), by (with_reducible repeat (first | apply Kd.S_alloc | apply Kd.S_drewN | apply Kd.S_drew)); exact HO_3.out, by repeat (first | (with_reducible first | exact HB.out | apply xa | apply xn | apply xd) | exact HB.out)⟩
  ·rw [if_neg c3] at H
   exact absurd H (by simp)
 ·rw [if_neg c2] at H
  exact absurd H (by simp)

/-! ### impl_keyLength: function 18 -/
def impl_keyLength.f (l0 : List (S45)) : Option (Int) := if (l0.length : Int) = 0 then (some 0) else (if 0 < (l0.length : Int) then (some (((rd_T45 l0 0).f0.f0).length : Int)) else (none))
set_option maxHeartbeats 8000000 in
set_option maxRecDepth 100000 in
theorem impl_keyLength.calls (A0 : Option Addr) (c0 : Nat) (l0 : List (S45)) (r : Int) (w : World) (hr0 : Kd.C k45 w A0 l0.length l0) (hc0 : l0.length ≤ c0) (h : impl_keyLength.f l0 = some r) :
  Calls Try.prog 18 #[.slice A0 l0.length c0] w fun e w' => e = .returned (.int .i64 r) ∧ Drawn0 w w' := by
 have HR0 := xm hr0
 have HC0 := xm hc0
 clear hr0 hc0
 have H : (if (l0.length : Int) = 0 then (some 0) else (if 0 < (l0.length : Int) then (some (((rd_T45 l0 0).f0.f0).length : Int)) else (none))) = some r := h
 clear h
 by_cases c2 : (l0.length : Int) = 0
 ·rw [if_pos c2] at H
  have c2b0 : ((l0.length : Int) == 0) = true := beq_iff_eq.mpr c2
  have c2b1 : ((l0.length : Int) != 0) = false := bne_eq_false_iff_eq.mpr c2
  clear c2
  obtain rfl := Option.some.inj H
  go_enter Try.func18, Try.ntmps18
  go_wp2
  go_ret
  exact ⟨by first | rfl | (simp; done) | (simp [*]; done), by repeat (first | exact Drawn0.refl _ | apply Drawn0.step)⟩
 ·rw [if_neg c2] at H
  have c2b0 : ((l0.length : Int) == 0) = false := beq_eq_false_iff_ne.mpr c2
  have c2b1 : ((l0.length : Int) != 0) = true := bne_iff_ne.mpr c2
  have c2b2 : ¬ (l0 = []) := fun h_ => c2 (by rw [h_]; rfl)
  by_cases c3 : 0 < (l0.length : Int)
  ·rw [if_pos c3] at H
   have c3b0 : decide (0 < (l0.length : Int)) = true := decide_eq_true c3
   have c3b1 : decide (0 < l0.length) = true := decide_eq_true (by omega)
   clear c3
   obtain rfl := Option.some.inj H
   have p185 : 0 ≤ (0 : Int) := (by omega)
   have q185 : 0 < (l0.length : Int) := of_decide_eq_true aB
   obtain ⟨ad185, A185_0, c185_0, e185, hx185_0, hx185_1, hx185_2, hl185_0, hi185_0⟩ := at_T45 HR0.out 0 p185 q185
   cases e185
   have qi185 : (0 < l0.length) = True := eq_true (by omega)
   (try rw [show ((0 : Int)).toNat = 0 from rfl] at hx185_0)
   (try rw [show 0 * 3 = 0 from rfl] at hx185_0)
   (try rw [Addr.add_zero'] at hx185_0)
   (try rw [show ((0 : Int)).toNat = 0 from rfl] at hx185_1)
   (try rw [show 0 * 3 = 0 from rfl] at hx185_1)
   (try rw [Addr.add_zero'] at hx185_1)
   (try rw [show ((0 : Int)).toNat = 0 from rfl] at hx185_2)
   (try rw [show 0 * 3 = 0 from rfl] at hx185_2)
   (try rw [Addr.add_zero'] at hx185_2)
   have HR185_0 := xm hi185_0
   have HC185_0 := xm hl185_0
   clear hi185_0 hl185_0
   replace p185 := eq_true p185
   replace q185 := eq_true q185
   go_enter Try.func18, Try.ntmps18
   go_wp2
   go_ret
   exact ⟨by first | rfl | (simp; done) | (simp [*]; done), by repeat (first | exact Drawn0.refl _ | apply Drawn0.step)⟩
  ·rw [if_neg c3] at H
   exact absurd H (by simp)

/-! ### impl_within: function 36 -/
def impl_within.f (a0 : Int) (a1 : Int) (a2 : Int) : Option (Bool) := if a1 ≤ a0 then (some (decide (a0 ≤ a2))) else (some false)
set_option maxHeartbeats 8000000 in
set_option maxRecDepth 100000 in
theorem impl_within.calls (a0 : Int) (a1 : Int) (a2 : Int) (r : Bool) (w : World) (h : impl_within.f a0 a1 a2 = some r) :
  Calls Try.prog 36 #[.int .i64 a0, .int .i64 a1, .int .i64 a2] w fun e w' => e = .returned (.bool r) ∧ Drawn0 w w' := by
 have H : (if a1 ≤ a0 then (some (decide (a0 ≤ a2))) else (some false)) = some r := h
 clear h
 by_cases c4 : a1 ≤ a0
 ·rw [if_pos c4] at H
  have c4b0 : decide (a1 ≤ a0) = true := decide_eq_true c4
  clear c4
  obtain rfl := Option.some.inj H
  go_enter Try.func36, Try.ntmps36
  go_wp2
  go_ret
  exact ⟨by first | rfl | (simp; done) | (simp [*]; done), by repeat (first | exact Drawn0.refl _ | apply Drawn0.step)⟩
 ·rw [if_neg c4] at H
  have c4b0 : decide (a1 ≤ a0) = false := decide_eq_false c4
  clear c4
  obtain rfl := Option.some.inj H
  go_enter Try.func36, Try.ntmps36
  go_wp2
  go_ret
  exact ⟨by first | rfl | (simp; done) | (simp [*]; done), by repeat (first | exact Drawn0.refl _ | apply Drawn0.step)⟩

/-! ### impl_isCell: function 19 -/
def impl_isCell.f (a0 : Int) : Option (Bool) := (impl_within.f a0 (-100000) 100000).bind fun t186 => (some t186)
set_option maxHeartbeats 8000000 in
set_option maxRecDepth 100000 in
theorem impl_isCell.calls (a0 : Int) (r : Bool) (w : World) (h : impl_isCell.f a0 = some r) :
  Calls Try.prog 19 #[.int .i64 a0] w fun e w' => e = .returned (.bool r) ∧ Drawn0 w w' := by
 have H : ((impl_within.f a0 (-100000) 100000).bind fun t186 => (some t186)) = some r := h
 clear h
 replace H := Option.bind_eq_some_iff.mp H
 obtain ⟨t186, A20, H⟩ := H
 replace H : (some t186) = some r := H
 have A2 := xm A20
 clear A20
 obtain rfl := Option.some.inj H
 go_enter Try.func19, Try.ntmps19
 go_wp2_with (first | ((with_reducible refine gate_callee (f := 36) rfl ?_); refine goesL_ (some 4) rfl rfl Try.func36 (by kernel_rfl) rfl #[.int .i64 a0, .int .i64 (-100000), .int .i64 100000] rfl mB ?_; (with_reducible refine (impl_within.calls a0 (-100000) 100000 t186 _ A2.out).mono ?_); rintro e w' ⟨rfl, ⟨nd, rfl⟩⟩; refine ⟨_, rfl, ?_⟩))
 go_ret
 exact ⟨by first | rfl | (simp; done) | (simp [*]; done), by repeat (first | exact Drawn0.refl _ | apply Drawn0.step)⟩

/-! ### slices_IndexFunc_Lint_int: function 51 -/
set_option maxHeartbeats 8000000 in
set_option maxRecDepth 100000 in
theorem slices_IndexFunc_Lint_int.any (g : Nat) (lb : Array Value) (eg : ∀ args w, (callFunc g args).run Try.prog w = .ok (.enter g args) w) (pf : Int → Option Bool)
  (A0 : Option Addr) (c0 : Nat) (l0 : List Int) (r : Int) (w : World) (hr0 : Kd.C (Kd.int .i64) w A0 l0.length l0) (hc0 : l0.length ≤ c0) (hp : PB Try.prog g lb (Kd.int .i64) encOne pf w) (h : idxO pf l0 0 = some r) :
  Calls Try.prog 51 #[.slice A0 l0.length c0, .func (.func g) #[] lb] w fun e w' => e = .returned (.int .i64 r) ∧ Below w.heap.size w w' := by
 have HR0 := xm hr0
 have HP := xm hp
 have H' := xm h
 have HB := xm (Below.refl w.heap.size w)
 have hn : (l0.length : Int) ≤ 9223372036854775807 := by have := hr0.2.1; omega
 clear hr0 hp h hc0
 go_enter Try.func51, Try.ntmps51
 go_wp2
 go_loopg [5, 8] l0.length (fun kq v5 v8 w' => ∃ kk : Nat, v8 = .int .i64 kk ∧ kk ≤ l0.length ∧ l0.length - kk ≤ kq ∧ Aside0 (idxO pf (l0.drop kk) kk = some r) ∧ Aside0 (Below w.heap.size w w'))
 case atStart => exact ⟨0, rfl, Nat.zero_le _, by omega, H', HB⟩
 case round =>
  clear H' HB
  obtain ⟨kk, rfl, hkk, hg, HA, HB⟩ := hrel
  by_cases hlt : kk < l0.length
  ·have hlti : (kk : Int) < (l0.length : Int) := by omega
   obtain ⟨ad, e0, hx0⟩ := Kd.at_int HR0.out (kk : Int) (by omega) hlti
   cases e0
   replace hx0 := (HB.out.cell (World.block_lt_of_cell? w _ hx0)).trans hx0
   simp only [Int.toNat_natCast] at hx0
   have H := HA.out
   rw [List.drop_eq_getElem_cons hlt] at H
   unfold idxO at H
   have hrd : l0[kk] = rd l0 (kk : Int) := by simp [rd, hlt]
   rw [hrd] at H
   obtain ⟨b, hb, H⟩ := Option.bind_eq_some_iff.mp H
   have hcall := HP.out _ (rd l0 (kk : Int)) [.int .i64 (rd l0 (kk : Int))] b HB.out rfl hb
   have HL := xm hcall
   clear hcall hb HA
   clear hrd
   simp only [encOne, encAgg, List.headD_cons] at HL
   cases b with
   | true =>
    obtain rfl := Option.some.inj H
    go_wp2_with (go_at_fn g; refine HL.out.mono ?_; rintro e w' ⟨rfl, hb'⟩)
    go_ret
    exact ⟨rfl, below_step HB.out hb'⟩
   | false =>
    have H1 := xm H
    clear H
    go_wp2_with (go_at_fn g; refine HL.out.mono ?_; rintro e w' ⟨rfl, hb'⟩)
    go_roundg (l0.length - (kk + 1))
    case measure => omega
    case rel => exact ⟨kk + 1, by go_num, by omega, by omega, ⟨by have := H1.out; simpa using this⟩, ⟨below_step HB.out hb'⟩⟩
  ·have : kk = l0.length := by omega
   subst this
   have H := HA.out
   rw [List.drop_length] at H
   unfold idxO at H
   obtain rfl := Option.some.inj H
   clear H HA
   go_wp2
   go_ret
   exact ⟨rfl, HB.out⟩

/-! ### slices_ContainsFunc_Lint_int: function 48 -/
set_option maxHeartbeats 8000000 in
set_option maxRecDepth 100000 in
theorem slices_ContainsFunc_Lint_int.any (g : Nat) (lb : Array Value) (eg : ∀ args w, (callFunc g args).run Try.prog w = .ok (.enter g args) w) (pf : Int → Option Bool)
  (A0 : Option Addr) (c0 : Nat) (l0 : List Int) (r : Bool) (w : World) (hr0 : Kd.C (Kd.int .i64) w A0 l0.length l0) (hc0 : l0.length ≤ c0) (hp : PB Try.prog g lb (Kd.int .i64) encOne pf w) (h : anyO pf l0 = some r) :
  Calls Try.prog 48 #[.slice A0 l0.length c0, .func (.func g) #[] lb] w fun e w' => e = .returned (.bool r) ∧ Below w.heap.size w w' := by
 rw [← idxO_any pf l0 0 (Int.le_refl 0)] at h
 obtain ⟨i, hi, hri⟩ := Option.map_eq_some_iff.mp h
 have HC := xm (slices_IndexFunc_Lint_int.any g lb eg pf A0 c0 l0 i w hr0 hc0 hp hi)
 have HR := xm hri
 clear hr0 hc0 hp h hi hri eg
 go_enter Try.func48, Try.ntmps48
 go_wp2_with (go_at_call 51; refine HC.out.mono ?_; rintro e w' ⟨rfl, hb⟩)
 go_ret
 exact ⟨by first | rfl | (rw [HR.out]; rfl) | rw [HR.out], hb⟩

/-! ### impl_areAll_int_1: function 49 -/
set_option maxHeartbeats 8000000 in
set_option maxRecDepth 100000 in
theorem impl_areAll_int_1.pb (g : Nat) (lb : Array Value) (eg : ∀ args w, (callFunc g args).run Try.prog w = .ok (.enter g args) w) (pf : Int → Option Bool) (w w1 : World) (b0 : Nat) (hw : Below w.heap.size w w1)
  (hbk : w1.heap[b0]? = some (.cells #[.func (.func g) #[] lb] 51 (0, 0))) (hp : PB Try.prog g lb (Kd.int .i64) encOne pf w) :
  PB Try.prog 49 #[.pointer (some ⟨b0, 0, none⟩)] (Kd.int .i64) encOne (fun x => (pf x).map (!·)) w1 := by
 intro W x cs b hW hK hb
 obtain ⟨b1, hb1, rfl⟩ := Option.map_eq_some_iff.mp hb
 have hWw := below_step hw hW
 have hbW := blk_below hW hbk
 have HL := xm (hp W x cs b1 hWw hK hb1)
 obtain rfl : cs = [.int .i64 x] := hK
 have hcz : W.cell? ⟨b0, 0, none⟩ = some (.func (.func g) #[] lb) := (xc hbW 0).trans rfl
 clear hp hb hb1 hWw hbW hW hbk hw
 simp only [encOne, encAgg, List.headD_cons] at HL ⊢
 go_enter Try.func49, Try.ntmps49
 go_wp2_with (go_at_fn g; refine HL.out.mono ?_; rintro e w' ⟨rfl, hb'⟩)
 go_ret
 exact ⟨rfl, hb'⟩

/-! ### impl_areAll_int: function 46 -/
theorem enters49 : ∀ args w, (callFunc 49 args).run Try.prog w = .ok (.enter 49 args) w := enters_of Try.func49 (by kernel_rfl) rfl
set_option maxHeartbeats 8000000 in
set_option maxRecDepth 100000 in
theorem impl_areAll_int.any (g : Nat) (lb : Array Value) (eg : ∀ args w, (callFunc g args).run Try.prog w = .ok (.enter g args) w) (pf : Int → Option Bool)
  (A0 : Option Addr) (c0 : Nat) (l0 : List Int) (r : Bool) (w : World) (hr0 : Kd.C (Kd.int .i64) w A0 l0.length l0) (hc0 : l0.length ≤ c0) (hp : PB Try.prog g lb (Kd.int .i64) encOne pf w) (h : allO pf l0 = some r) :
  Calls Try.prog 46 #[.slice A0 l0.length c0, .func (.func g) #[] lb] w fun e w' => e = .returned (.bool r) ∧ Below w.heap.size w w' := by
 rw [← any_all pf l0] at h
 obtain ⟨b, hb, rfl⟩ := Option.map_eq_some_iff.mp h
 have hB1 : Below w.heap.size w (w.alloc (.cells #[.func (.func g) #[] lb] 51)) := xa (Below.refl _ _) _
 have HC := xm (slices_ContainsFunc_Lint_int.any 49 #[.pointer (some ⟨w.heap.size, 0, none⟩)] enters49 _ A0 c0 l0 b _ (Kd.C_below hr0 hB1) hc0 (impl_areAll_int_1.pb g lb eg pf w _ w.heap.size hB1 (heap_new w _ _) hp) hb)
 have HB1 := xm hB1
 clear hr0 hc0 hp h hb eg hB1
 go_enter Try.func46, Try.ntmps46
 go_wp2_with (go_at_call 48; refine HC.out.mono ?_; rintro e w' ⟨rfl, hb⟩)
 go_ret
 exact ⟨rfl, below_step HB1.out hb⟩

/-! ### impl_areAll_int__impl_isCell: function 100000 -/
theorem enters19 : ∀ args w, (callFunc 19 args).run Try.prog w = .ok (.enter 19 args) w := enters_of Try.func19 (by kernel_rfl) rfl
def impl_areAll_int__impl_isCell.f (l0 : List Int)  : Option Bool := allO (fun x => impl_isCell.f x) l0
set_option maxHeartbeats 8000000 in
set_option maxRecDepth 100000 in
theorem impl_areAll_int__impl_isCell.calls (A0 : Option Addr) (c0 : Nat) (l0 : List Int)  (r : Bool) (w : World) (hr0 : Kd.C (Kd.int .i64) w A0 l0.length l0) (hc0 : l0.length ≤ c0) (h : impl_areAll_int__impl_isCell.f l0  = some r) :
  Calls Try.prog 46 #[.slice A0 l0.length c0, .func (.func 19) #[] #[]] w fun e w' => e = .returned (.bool r) ∧ Below w.heap.size w w' := by
 refine impl_areAll_int.any 19 #[] enters19 (fun x => impl_isCell.f x) A0 c0 l0 r w hr0 hc0 ?_ h
 intro W x cs b hW hK hb
 obtain rfl : cs = [.int .i64 x] := hK
 simp only [encOne, encAgg, List.headD_cons, app0, app1, app2, app3]
 refine (impl_isCell.calls x b W hb).mono ?_
 rintro e w' ⟨he, hd⟩
 exact ⟨he, hd.below⟩

/-! ### impl_GoodRow: function 43 -/
def impl_GoodRow.f (l0_0 : List Int) : Option (Bool) := if (l0_0.length : Int) ≤ 6 then ((impl_areAll_int__impl_isCell.f l0_0).bind fun t188 => (some t188)) else (some false)
set_option maxHeartbeats 8000000 in
set_option maxRecDepth 100000 in
theorem impl_GoodRow.calls (A0_0 : Option Addr) (c0_0 : Nat) (l0_0 : List Int) (r : Bool) (w : World) (hr0_0 : Kd.C (Kd.int .i64) w A0_0 l0_0.length l0_0) (hc0_0 : l0_0.length ≤ c0_0) (h : impl_GoodRow.f l0_0 = some r) :
  Calls Try.prog 43 #[.agg #[.slice A0_0 l0_0.length c0_0]] w fun e w' => e = .returned (.bool r) ∧ Below w.heap.size w w' := by
 have hu43 := Try.underlying43
 have HR0_0 := xm hr0_0
 have HC0_0 := xm hc0_0
 clear hr0_0 hc0_0
 have HB := xm (Below.refl w.heap.size w)
 have H : (if (l0_0.length : Int) ≤ 6 then ((impl_areAll_int__impl_isCell.f l0_0).bind fun t188 => (some t188)) else (some false)) = some r := h
 clear h
 by_cases c2 : (l0_0.length : Int) ≤ 6
 ·rw [if_pos c2] at H
  have c2b0 : decide ((l0_0.length : Int) ≤ 6) = true := decide_eq_true c2
  have c2b1 : decide (l0_0.length ≤ 6) = true := decide_eq_true (by omega)
  clear c2
  replace H := Option.bind_eq_some_iff.mp H
  obtain ⟨t188, A30, H⟩ := H
  replace H : (some t188) = some r := H
  have A3 := xm A30
  clear A30
  obtain rfl := Option.some.inj H
  go_enter Try.func43, Try.ntmps43
  go_wp2_with (first | ((with_reducible refine gate_dst (N := 1) rfl ?_); refine box_event ?hg (N := 1) ?hd (cs := #[.slice A0_0 l0_0.length c0_0]) (t := 43) ?hr ?_; (case hd => rfl); (case hg => rfl); (case hr => exact zB); intro gb187 hg w4 hbox hb; have n0_ := xm (below_step bB hb); have n1_ := xm (hbox); have n2_ := xm ((by rw [hg]; exact (xz bB) : w.heap.size ≤ gb187)); have n3_ := xm ((by rw [hg]; exact (xz bB) : w.heap.size ≤ gb187)); revert n0_ n1_ n2_ n3_; clear HB; intro HB BK187 GW187 GE187; clear hb hbox hg; obtain ⟨hcz5_0, hfz5_0⟩ := cz1 BK187.out) | (go_at_call 46; (with_reducible refine (impl_areAll_int__impl_isCell.calls _ _ l0_0 t188 _ ?side1 ?side2 A3.out).mono ?_); (case side1 => exact cB (Kd.C_below HR0_0.out HB.out)); (case side2 => exact HC0_0.out); rintro e w6 ⟨rfl, hb⟩; have n0_ := xm (blk_below (kB BK187) hb); have n1_ := xm (below_step bG hb); revert n0_ n1_; clear BK187 HB; intro BK187 HB; (try clear hb); (try clear hb2); (try clear hk); (try clear hi)))
  go_ret
  exact ⟨by first | rfl | (simp [errW_none, errW_some] <;> rfl) | (simp [*, errW_none, errW_some] <;> rfl), by repeat (first | (with_reducible first | exact HB.out | apply xa | apply xn | apply xd | refine xt ?_ GE187.out) | exact HB.out)⟩
 ·rw [if_neg c2] at H
  have c2b0 : decide ((l0_0.length : Int) ≤ 6) = false := decide_eq_false c2
  have c2b1 : decide (l0_0.length ≤ 6) = false := decide_eq_false (by omega)
  clear c2
  obtain rfl := Option.some.inj H
  go_enter Try.func43, Try.ntmps43
  go_wp2_with (first | ((with_reducible refine gate_dst (N := 1) rfl ?_); refine box_event ?hg (N := 1) ?hd (cs := #[.slice A0_0 l0_0.length c0_0]) (t := 43) ?hr ?_; (case hd => rfl); (case hg => rfl); (case hr => exact zB); intro gb187 hg w7 hbox hb; have n0_ := xm (below_step bB hb); have n1_ := xm (hbox); have n2_ := xm ((by rw [hg]; exact (xz bB) : w.heap.size ≤ gb187)); have n3_ := xm ((by rw [hg]; exact (xz bB) : w.heap.size ≤ gb187)); revert n0_ n1_ n2_ n3_; clear HB; intro HB BK187 GW187 GE187; clear hb hbox hg; obtain ⟨hcz8_0, hfz8_0⟩ := cz1 BK187.out))
  go_ret
  exact ⟨by first | rfl | (simp [errW_none, errW_some] <;> rfl) | (simp [*, errW_none, errW_some] <;> rfl), by repeat (first | (with_reducible first | exact HB.out | apply xa | apply xn | apply xd | refine xt ?_ GE187.out) | exact HB.out)⟩

/-! ### impl_isRowOf: function 33 -/
def impl_isRowOf.f (l0_0 : List Int) (a1 : Int) : Option (Bool) := (impl_GoodRow.f l0_0).bind fun t190 => (if t190 = true then (some ((l0_0.length : Int) == a1)) else (some false))
set_option maxHeartbeats 8000000 in
set_option maxRecDepth 100000 in
theorem impl_isRowOf.calls (A0_0 : Option Addr) (c0_0 : Nat) (l0_0 : List Int) (a1 : Int) (r : Bool) (w : World) (hr0_0 : Kd.C (Kd.int .i64) w A0_0 l0_0.length l0_0) (hc0_0 : l0_0.length ≤ c0_0) (h : impl_isRowOf.f l0_0 a1 = some r) :
  Calls Try.prog 33 #[.agg #[.slice A0_0 l0_0.length c0_0], .int .i64 a1] w fun e w' => e = .returned (.bool r) ∧ Below w.heap.size w w' := by
 have hu43 := Try.underlying43
 have HR0_0 := xm hr0_0
 have HC0_0 := xm hc0_0
 clear hr0_0 hc0_0
 have HB := xm (Below.refl w.heap.size w)
 have H : ((impl_GoodRow.f l0_0).bind fun t190 => (if t190 = true then (some ((l0_0.length : Int) == a1)) else (some false))) = some r := h
 clear h
 replace H := Option.bind_eq_some_iff.mp H
 obtain ⟨t190, A30, H⟩ := H
 replace H : (if t190 = true then (some ((l0_0.length : Int) == a1)) else (some false)) = some r := H
 have A3 := xm A30
 clear A30
 by_cases c4 : t190 = true
 ·subst c4
  have H1 : (some ((l0_0.length : Int) == a1)) = some r := by first | (with_reducible rfl) | (rw [if_pos rfl] at H; exact H)
  clear H
  have H := H1
  clear H1
  obtain rfl := Option.some.inj H
  go_enter Try.func33, Try.ntmps33
  go_wp2_with (first | ((with_reducible refine gate_dst (N := 2) rfl ?_); (try (refine gate_guard (by rfl) ?_; dsimp only)); refine box_event ?hg (N := 2) ?hd (cs := #[.slice A0_0 l0_0.length c0_0]) (t := 43) ?hr ?_; (case hd => rfl); (case hg => rfl); (case hr => exact zB); intro gb189 hg w5 hbox hb; have n0_ := xm (below_step bB hb); have n1_ := xm (hbox); have n2_ := xm ((by rw [hg]; exact (xz bB) : w.heap.size ≤ gb189)); have n3_ := xm ((by rw [hg]; exact (xz bB) : w.heap.size ≤ gb189)); revert n0_ n1_ n2_ n3_; clear HB; intro HB BK189 GW189 GE189; clear hb hbox hg; obtain ⟨hcz6_0, hfz6_0⟩ := cz1 BK189.out) | ((with_reducible refine gate_callee (f := 43) rfl ?_); refine goesL_ (some 6) rfl rfl Try.func43 (by kernel_rfl) rfl #[.agg #[.slice A0_0 l0_0.length c0_0]] rfl mB ?_; (with_reducible refine (impl_GoodRow.calls _ _ l0_0 true _ ?side1 ?side2 A3.out).mono ?_); (case side1 => exact cB (Kd.C_below HR0_0.out HB.out)); (case side2 => exact HC0_0.out); rintro e w7 ⟨rfl, hb⟩; refine ⟨_, rfl, ?_⟩; have n0_ := xm (blk_below (kB BK189) hb); have n1_ := xm (below_step bG hb); revert n0_ n1_; clear BK189 HB; intro BK189 HB; (try clear hb); (try clear hb2); (try clear hk); (try clear hi); obtain ⟨hcz8_0, hfz8_0⟩ := cz1 BK189.out))
  go_ret
  exact ⟨by first | rfl | (simp [errW_none, errW_some] <;> rfl) | (simp [*, errW_none, errW_some] <;> rfl), by repeat (first | (with_reducible first | exact HB.out | apply xa | apply xn | apply xd | refine xt ?_ GE189.out) | exact HB.out)⟩
 ·replace c4 := Bool.eq_false_iff.mpr c4
  subst c4
  have H1 : (some false) = some r := by first | (with_reducible rfl) | (rw [if_neg (show ¬ (false = true) by decide)] at H; exact H)
  clear H
  have H := H1
  clear H1
  obtain rfl := Option.some.inj H
  go_enter Try.func33, Try.ntmps33
  go_wp2_with (first | ((with_reducible refine gate_dst (N := 2) rfl ?_); (try (refine gate_guard (by rfl) ?_; dsimp only)); refine box_event ?hg (N := 2) ?hd (cs := #[.slice A0_0 l0_0.length c0_0]) (t := 43) ?hr ?_; (case hd => rfl); (case hg => rfl); (case hr => exact zB); intro gb189 hg w9 hbox hb; have n0_ := xm (below_step bB hb); have n1_ := xm (hbox); have n2_ := xm ((by rw [hg]; exact (xz bB) : w.heap.size ≤ gb189)); have n3_ := xm ((by rw [hg]; exact (xz bB) : w.heap.size ≤ gb189)); revert n0_ n1_ n2_ n3_; clear HB; intro HB BK189 GW189 GE189; clear hb hbox hg; obtain ⟨hcz10_0, hfz10_0⟩ := cz1 BK189.out) | ((with_reducible refine gate_callee (f := 43) rfl ?_); refine goesL_ (some 6) rfl rfl Try.func43 (by kernel_rfl) rfl #[.agg #[.slice A0_0 l0_0.length c0_0]] rfl mB ?_; (with_reducible refine (impl_GoodRow.calls _ _ l0_0 false _ ?side1 ?side2 A3.out).mono ?_); (case side1 => exact cB (Kd.C_below HR0_0.out HB.out)); (case side2 => exact HC0_0.out); rintro e w11 ⟨rfl, hb⟩; refine ⟨_, rfl, ?_⟩; have n0_ := xm (blk_below (kB BK189) hb); have n1_ := xm (below_step bG hb); revert n0_ n1_; clear BK189 HB; intro BK189 HB; (try clear hb); (try clear hb2); (try clear hk); (try clear hi)))
  go_ret
  exact ⟨by first | rfl | (simp [errW_none, errW_some] <;> rfl) | (simp [*, errW_none, errW_some] <;> rfl), by repeat (first | (with_reducible first | exact HB.out | apply xa | apply xn | apply xd | refine xt ?_ GE189.out) | exact HB.out)⟩

/-! ### impl_isSum: function 34 -/
def impl_isSum.f (a0 : Int) : Option (Bool) := (impl_within.f a0 (-100000000000000) 100000000000000).bind fun t191 => (some t191)
set_option maxHeartbeats 8000000 in
set_option maxRecDepth 100000 in
theorem impl_isSum.calls (a0 : Int) (r : Bool) (w : World) (h : impl_isSum.f a0 = some r) :
  Calls Try.prog 34 #[.int .i64 a0] w fun e w' => e = .returned (.bool r) ∧ Drawn0 w w' := by
 have H : ((impl_within.f a0 (-100000000000000) 100000000000000).bind fun t191 => (some t191)) = some r := h
 clear h
 replace H := Option.bind_eq_some_iff.mp H
 obtain ⟨t191, A20, H⟩ := H
 replace H : (some t191) = some r := H
 have A2 := xm A20
 clear A20
 obtain rfl := Option.some.inj H
 go_enter Try.func34, Try.ntmps34
 go_wp2_with (first | ((with_reducible refine gate_callee (f := 36) rfl ?_); refine goesL_ (some 4) rfl rfl Try.func36 (by kernel_rfl) rfl #[.int .i64 a0, .int .i64 (-100000000000000), .int .i64 100000000000000] rfl mB ?_; (with_reducible refine (impl_within.calls a0 (-100000000000000) 100000000000000 t191 _ A2.out).mono ?_); rintro e w' ⟨rfl, ⟨nd, rfl⟩⟩; refine ⟨_, rfl, ?_⟩))
 go_ret
 exact ⟨by first | rfl | (simp; done) | (simp [*]; done), by repeat (first | exact Drawn0.refl _ | apply Drawn0.step)⟩

/-! ### cmp_isNaN_int: function 50 -/
def cmp_isNaN_int.f (a0 : Int) : Option (Bool) := some (a0 != a0)
set_option maxHeartbeats 8000000 in
set_option maxRecDepth 100000 in
theorem cmp_isNaN_int.calls (a0 : Int) (r : Bool) (w : World) (h : cmp_isNaN_int.f a0 = some r) :
  Calls Try.prog 50 #[.int .i64 a0] w fun e w' => e = .returned (.bool r) ∧ Drawn0 w w' := by
 have H : (some (a0 != a0)) = some r := h
 clear h
 obtain rfl := Option.some.inj H
 go_enter Try.func50, Try.ntmps50
 go_wp2
 go_ret
 exact ⟨by first | rfl | (simp; done) | (simp [*]; done), by repeat (first | exact Drawn0.refl _ | apply Drawn0.step)⟩

end Go.Proofs.Ytaddemalepndfaa.G
