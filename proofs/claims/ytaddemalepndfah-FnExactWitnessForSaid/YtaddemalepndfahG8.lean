/- Written by a program of this claim's own, out of the translation: functions of the program as plain functions, and that the calls answer as these. No conditions. -/
import Derived.Test.YtaddemalepndfahG0
namespace Go.Proofs.Ytaddemalepndfah.G
open Go.RowKit Go.Proofs.Ytaddemalepndfah.X Go.Proofs.YtaddemalepndfahW.PrintWords Go.Proofs.YtaddemalepndfahW.PrintLast Go.Proofs.YtaddemalepndfahW.PrintMore
attribute [local go_sem] max2_int min2_int max_two min_two max_three min_three max_four min_four   -- for this text's walks alone
set_option linter.unusedVariables false
set_option linter.unusedSimpArgs false

/-! ### laws_toIntS: function 22 -/
def laws_toIntS.l0 : Nat → List Int → List Int → Int → Option (List Int)
 | 0, _, _, _ => none
 | k + 1, x0, x3, x4 => if x4 < (x0.length : Int) then (if 0 ≤ x4 then (if x4 < (x3.length : Int) then (laws_toIntS.l0 k x0 (x3.set (x4 : Int).toNat (rd x0 x4)) (wrap64 (x4 + 1))) else (none)) else (none)) else (some x3)
def laws_toIntS.f (k : Nat) (l0 : List Int) : Option (List Int) := if 0 ≤ (l0.length : Int) then (if ((l0.length : Int) : Int).toNat ≤ 35184372088832 then (laws_toIntS.l0 k l0 (List.replicate ((l0.length : Int) : Int).toNat 0) 0) else (none)) else (none)
theorem laws_toIntS.mono_l : ∀ k, (∀ y0 y1 y2, LeO (laws_toIntS.l0 k y0 y1 y2) (laws_toIntS.l0 (k + 1) y0 y1 y2))
 | 0 => fun _ _ _ r h => by simp [laws_toIntS.l0] at h
 | k + 1 => by
  have ih0 := laws_toIntS.mono_l k
  ·intro y0 y1 y2
   unfold laws_toIntS.l0
   repeat' first
   | (with_reducible exact ih0 _ _ _)
   | (with_reducible exact LeO.refl _)
   | (with_reducible exact LeO.none _)
   | (with_reducible refine LeO.ite ?_ ?_)
   | (with_reducible refine LeO.bind ?_ (fun _ => ?_))
   | exact ih0 _ _ _
   | exact LeO.none _
   | refine LeO.ite ?_ ?_
   | refine LeO.bind ?_ (fun _ => ?_)
theorem laws_toIntS.mono : ∀ a0 k, LeO (laws_toIntS.f k a0) (laws_toIntS.f (k + 1) a0) := by
 intro a0 k
 have ih0 := laws_toIntS.mono_l k
 unfold laws_toIntS.f
 repeat' first
   | (with_reducible exact ih0 _ _ _)
   | (with_reducible exact LeO.refl _)
   | (with_reducible exact LeO.none _)
   | (with_reducible refine LeO.ite ?_ ?_)
   | (with_reducible refine LeO.bind ?_ (fun _ => ?_))
   | exact ih0 _ _ _
   | exact LeO.none _
   | refine LeO.ite ?_ ?_
   | refine LeO.bind ?_ (fun _ => ?_)
set_option maxHeartbeats 8000000 in
set_option maxRecDepth 100000 in
theorem laws_toIntS.calls (k : Nat) (A0 : Option Addr) (c0 : Nat) (l0 : List Int) (r : List Int) (w : World) (hr0 : Kd.C (Kd.int .i64) w A0 l0.length l0) (hc0 : l0.length ≤ c0) (h : laws_toIntS.f k l0 = some r) :
  Calls Try.prog 22 #[.slice A0 l0.length c0] w fun e w' => ∃ v0_ : Value, e = .returned (v0_) ∧ Kd.R (Kd.int .i64) 3 w' w.heap.size (fun _ => True) v0_ r ∧ Below w.heap.size w w' := by
 have HR0 := xm hr0
 have HC0 := xm hc0
 clear hr0 hc0
 have HB := xm (Below.refl w.heap.size w)
 have H : (if 0 ≤ (l0.length : Int) then (if ((l0.length : Int) : Int).toNat ≤ 35184372088832 then (laws_toIntS.l0 k l0 (List.replicate ((l0.length : Int) : Int).toNat 0) 0) else (none)) else (none)) = some r := h
 clear h
 by_cases c2 : 0 ≤ (l0.length : Int)
 ·rw [if_pos c2] at H
  have c2b0 := eq_true c2
  have c2b1 : decide (0 ≤ (l0.length : Int)) = true := decide_eq_true c2
  clear c2
  by_cases c3 : ((l0.length : Int) : Int).toNat ≤ 35184372088832
  ·rw [if_pos c3] at H
   have c3b0 := eq_true c3
   have c3b1 : decide (((l0.length : Int) : Int).toNat ≤ 35184372088832) = true := decide_eq_true c3
   clear c3
   obtain ⟨y240, hy240⟩ : ∃ y_ : List Int, y_ = (List.replicate ((l0.length : Int) : Int).toNat 0) := ⟨_, rfl⟩
   replace H : (laws_toIntS.l0 k l0 y240 0) = some r := by first | (rw [hy240]; with_reducible exact H) | (have H2_ := (Option.bind_some _ _).symm.trans H; rw [hy240]; with_reducible exact H2_) | (have H2_ := (Option.bind_some _ _).symm.trans H; with_reducible exact H2_) | with_reducible exact H | (rw [hy240]; exact H) | exact H
   have Ny240 := xm hy240
   clear hy240
   have H' := xm H
   clear H
   go_enter Try.func22, Try.ntmps22
   go_wp2_with (first | ((with_reducible refine gate_dst (N := 7) rfl ?_); refine Kd.R_make (Kd.int .i64) _ 3 rfl (N := 7) rfl 23 _ _ rfl (l0.length : Int) rfl rfl Try.underlying23 (.int .i64 0) 8 info3 rfl (by decide) (by omega) 0 (ok := fun _ => True) (okp := fun _ => True) rfl (fun _ hk => hk) trivial (of_decide_eq_true aB) (Nat.le_trans (Nat.mul_le_mul_right _ (of_decide_eq_true aB : (l0.length : Int).toNat ≤ 35184372088832)) (by omega)) (Below.refl _ _) (Nat.le_refl _) ?_; intro v241 w4 ho5 hb hg_ hnew_; clear hg_ hnew_; (first | rw [← Ny240.out] at ho5 | (simp only [Int.reduceToNat] at ho5; rw [← Ny240.out] at ho5)); have n0_ := xm (Kd.R_lower ho5 (xz bB)); have n1_ := xm (below_step bB hb); revert n0_ n1_; clear HB; intro HO242 HB; clear hb ho5))
   go_loopg [4] k (fun kq v4 w' => ∃ (x3_1 : List Int) (x4_1 : Int), v4 = .int .i64 x4_1 ∧ Aside0 (laws_toIntS.l0 kq l0 x3_1 x4_1 = some r) ∧ Aside0 (kq ≤ k) ∧ Aside0 (Kd.R (Kd.int .i64) 3 w' w.heap.size (fun _ => True) v241 x3_1) ∧ Aside0 (Below w.heap.size w w'))
   case atStart => exact ⟨(y240), (0), sB, H', ⟨Nat.le_refl _⟩, ⟨rB HO242⟩, ⟨bG⟩⟩
   case round =>
    clear H'
    try clear c2
    try clear c2b0 c2b1
    try clear p2
    try clear c3
    try clear c3b0 c3b1
    obtain ⟨x3_1, x4_1, rfl, HA, HK1, HO_3, HB⟩ := hrel
    cases gk with
    | zero => exact absurd HA.out (by simp [laws_toIntS.l0])
    | succ k1 =>
     have H := HA.out
     clear HA
     simp only [laws_toIntS.l0] at H
     by_cases c6 : x4_1 < (l0.length : Int)
     ·rw [if_pos c6] at H
      have c6b0 : decide (x4_1 < (l0.length : Int)) = true := decide_eq_true c6
      clear c6
      by_cases c7 : 0 ≤ x4_1
      ·rw [if_pos c7] at H
       have c7b0 : decide (0 ≤ x4_1) = true := decide_eq_true c7
       clear c7
       by_cases c8 : x4_1 < (x3_1.length : Int)
       ·rw [if_pos c8] at H
        have c8b0 : decide (x4_1 < (x3_1.length : Int)) = true := decide_eq_true c8
        clear c8
        obtain ⟨y244, hy244⟩ : ∃ y_ : List Int, y_ = (x3_1.set (x4_1 : Int).toNat (rd l0 x4_1)) := ⟨_, rfl⟩
        replace H : (laws_toIntS.l0 k1 l0 y244 (wrap64 (x4_1 + 1))) = some r := by first | (rw [hy244]; with_reducible exact H) | (have H2_ := (Option.bind_some _ _).symm.trans H; rw [hy244]; with_reducible exact H2_) | (have H2_ := (Option.bind_some _ _).symm.trans H; with_reducible exact H2_) | with_reducible exact H | (rw [hy244]; exact H) | exact H
        have Ny244 := xm hy244
        clear hy244
        have H' := xm H
        clear H
        have p243 : 0 ≤ (x4_1 : Int) := of_decide_eq_true aB
        have q243 : x4_1 < (l0.length : Int) := of_decide_eq_true aB
        obtain ⟨ad243, e243, hx243_0⟩ := Kd.at_int HR0.out x4_1 p243 q243
        cases e243
        replace hx243_0 := hU hx243_0
        replace p243 := eq_true p243
        replace q243 := eq_true q243
        have p9 : 0 ≤ (x4_1 : Int) := of_decide_eq_true aB
        have q9 : (x4_1 : Int) < ((x3_1.length : Int) : Int) := of_decide_eq_true aB
        obtain ⟨go9, co9, eo9, gb9, gl9, cl9, HG9⟩ := Kd.R_form HO_3.out (by omega)
        (first | cases eo9 | (injection eo9 with ea_ en_ ec_; (first | subst ea_ | (injection ea_ with ea_; subst ea_)); subst ec_; clear en_))
        have GB9 := xm gb9
        have GG9 := xm HG9
        clear gb9 gl9 HG9
        obtain ⟨hx9_0, hf9_0⟩ := Kd.R_celln 0 HO_3.out (x4_1 : Int) p9 q9
        replace p9 := eq_true p9
        replace q9 := eq_true q9
        have HP10 := Kd.R_putg HO_3.out (x4_1 : Int) (rd l0 x4_1)
        go_wp2_with (first | ((with_reducible refine gate_store (t := 3) (p := 20) rfl ?_); refine store_event (t := 3) (p := 20) (v := ?vo_w11) (w1 := (wr.setCell ⟨go9, (x4_1 : Int).toNat, none⟩ (.int .i64 (rd l0 x4_1)))) ?hg ?ho ?hn ?hr ?_; (case ho => rfl); (case hg => rfl); (case hn => rfl); (case hr => exact zB); intro w11 hw; have hg : wr.grownBy w11 (some go9) := (by rw [hw]; exact HP10.2); have hp_ : Kd.R (Kd.int .i64) 3 w11 w.heap.size (fun _ => True) (.slice (some ⟨go9, 0, none⟩) x3_1.length co9) y244 := (by rw [hw, Ny244.out]; exact HP10.1); clear HP10; have n0_ := xm (hp_); have n1_ := xm ((by rw [hw]; exact xt (HB.out) GB9.out : Below w.heap.size w w11)); revert n0_ n1_; clear HO_3 HB; intro HO_3 HB; clear hg hw hp_))
        go_roundg k1
        case measure => have := HK1.out; omega
        case rel => exact ⟨(y244), (wrap64 (x4_1 + 1)), sB, H', ⟨by have := HK1.out; omega⟩, ⟨rB HO_3⟩, ⟨bG⟩⟩
       ·rw [if_neg c8] at H
        exact absurd H (by simp)
      ·rw [if_neg c7] at H
       exact absurd H (by simp)
     ·rw [if_neg c6] at H
      have c6b0 : decide (x4_1 < (l0.length : Int)) = false := decide_eq_false c6
      clear c6
      obtain rfl := Option.some.inj H
      go_wp2
      go_ret
      exact ⟨_, eB, rB HO_3, bG⟩
  ·rw [if_neg c3] at H
   exact absurd H (by simp)
 ·rw [if_neg c2] at H
  exact absurd H (by simp)

/-! ### laws_toDepend: function 8 -/
def laws_toDepend.f (k : Nat) (l0_0 : List Int) (l0_1 : List Int) : Option (List Int × List Int) := (laws_toIntS.f k l0_0).bind fun t248 => ((laws_toIntS.f k l0_1).bind fun t251 => (some (t248, t251)))
theorem laws_toDepend.mono : ∀ a0 a1 k, LeO (laws_toDepend.f k a0 a1) (laws_toDepend.f (k + 1) a0 a1) := by
 intro a0 a1 k
 unfold laws_toDepend.f
 repeat' first
   | (with_reducible exact laws_toIntS.mono _ _)
   | (with_reducible exact LeO.refl _)
   | (with_reducible exact LeO.none _)
   | (with_reducible refine LeO.ite ?_ ?_)
   | (with_reducible refine LeO.bind ?_ (fun _ => ?_))
   | exact laws_toIntS.mono _ _
   | exact LeO.none _
   | refine LeO.ite ?_ ?_
   | refine LeO.bind ?_ (fun _ => ?_)
set_option maxHeartbeats 8000000 in
set_option maxRecDepth 100000 in
theorem laws_toDepend.calls (k : Nat) (A0_0 : Option Addr) (c0_0 : Nat) (l0_0 : List Int) (A0_1 : Option Addr) (c0_1 : Nat) (l0_1 : List Int) (r1 : List Int) (r2 : List Int) (w : World) (hr0_0 : Kd.C (Kd.int .i64) w A0_0 l0_0.length l0_0) (hc0_0 : l0_0.length ≤ c0_0) (hr0_1 : Kd.C (Kd.int .i64) w A0_1 l0_1.length l0_1) (hc0_1 : l0_1.length ≤ c0_1) (h : laws_toDepend.f k l0_0 l0_1 = some (r1, r2)) :
  Calls Try.prog 8 #[.agg #[.slice A0_0 l0_0.length c0_0, .slice A0_1 l0_1.length c0_1]] w fun e w' => ∃ v0_ v1_ : Value, e = .returned (.agg #[v0_, v1_]) ∧ Kd.R (Kd.int .i64) 3 w' w.heap.size (fun k_ => some k_ ≠ (v1_ : Value).ownBlock) v0_ r1 ∧ Kd.R (Kd.int .i64) 3 w' w.heap.size (fun k_ => some k_ ≠ (v0_ : Value).ownBlock) v1_ r2 ∧ Below w.heap.size w w' := by
 have hu25 := Try.underlying25
 have hu35 := Try.underlying35
 have HR0_0 := xm hr0_0
 have HC0_0 := xm hc0_0
 clear hr0_0 hc0_0
 have HR0_1 := xm hr0_1
 have HC0_1 := xm hc0_1
 clear hr0_1 hc0_1
 have HB := xm (Below.refl w.heap.size w)
 have H : ((laws_toIntS.f k l0_0).bind fun t248 => ((laws_toIntS.f k l0_1).bind fun t251 => (some (t248, t251)))) = some (r1, r2) := h
 clear h
 replace H := Option.bind_eq_some_iff.mp H
 obtain ⟨t248, A20, H⟩ := H
 replace H : ((laws_toIntS.f k l0_1).bind fun t251 => (some (t248, t251))) = some (r1, r2) := H
 have A2 := xm A20
 clear A20
 replace H := Option.bind_eq_some_iff.mp H
 obtain ⟨t251, A30, H⟩ := H
 replace H : (some (t248, t251)) = some (r1, r2) := H
 have A3 := xm A30
 clear A30
 simp only [Option.some.injEq, Prod.mk.injEq] at H
 obtain ⟨rfl, rfl⟩ := H
 go_enter Try.func8, Try.ntmps8
 go_wp2_with (first | ((with_reducible refine gate_dst (N := 1) rfl ?_); refine box_event ?hg (N := 1) ?hd (cs := #[.slice A0_0 l0_0.length c0_0, .slice A0_1 l0_1.length c0_1]) (t := 25) ?hr ?_; (case hd => rfl); (case hg => rfl); (case hr => exact zB); intro gb245 hg w4 hbox hb; have n0_ := xm (below_step bB hb); have n1_ := xm (hbox); have n2_ := xm ((by rw [hg]; exact (xz bB) : w.heap.size ≤ gb245)); have n3_ := xm ((by rw [hg]; exact (xz bB) : w.heap.size ≤ gb245)); revert n0_ n1_ n2_ n3_; clear HB; intro HB BK245 GW245 GE245; clear hb hbox hg) | ((with_reducible refine gate_dst (N := 2) rfl ?_); refine box_event ?hg (N := 2) ?hd (cs := #[.slice none 0 0, .slice none 0 0]) (t := 35) ?hr ?_; (case hd => rfl); (case hg => rfl); (case hr => exact zB); intro gb246 hg w5 hbox hb; have n0_ := xm (blk_below (kB BK245) hb); have n1_ := xm (below_step bG hb); have n2_ := xm (hbox); have n3_ := xm ((by rw [hg]; exact (xz bG) : w.heap.size ≤ gb246)); have n4_ := xm ((by rw [hg]; exact (xz bG) : w.heap.size ≤ gb246)); have n5_ := xm ((by rw [hg]; exact Nat.ne_of_lt (blk_lt (kB BK245)) : gb245 ≠ gb246)); have n6_ := xm ((by rw [hg]; exact Nat.ne_of_gt (blk_lt (kB BK245)) : gb246 ≠ gb245)); revert n0_ n1_ n2_ n3_ n4_ n5_ n6_; clear BK245 HB; intro BK245 HB BK246 GW246 GE246 NB245_246 NB246_245; clear hb hbox hg) | ((with_reducible refine gate_dst (N := 3) rfl ?_); refine box_event ?hg (N := 3) ?hd (cs := #[.slice none 0 0, .slice none 0 0]) (t := 35) ?hr ?_; (case hd => rfl); (case hg => rfl); (case hr => exact zB); intro gb247 hg w6 hbox hb; have n0_ := xm (blk_below (kB BK245) hb); have n1_ := xm (blk_below (kB BK246) hb); have n2_ := xm (below_step bG hb); have n3_ := xm (hbox); have n4_ := xm ((by rw [hg]; exact (xz bG) : w.heap.size ≤ gb247)); have n5_ := xm ((by rw [hg]; exact (xz bG) : w.heap.size ≤ gb247)); have n6_ := xm ((by rw [hg]; exact Nat.ne_of_lt (blk_lt (kB BK245)) : gb245 ≠ gb247)); have n7_ := xm ((by rw [hg]; exact Nat.ne_of_gt (blk_lt (kB BK245)) : gb247 ≠ gb245)); have n8_ := xm ((by rw [hg]; exact Nat.ne_of_lt (blk_lt (kB BK246)) : gb246 ≠ gb247)); have n9_ := xm ((by rw [hg]; exact Nat.ne_of_gt (blk_lt (kB BK246)) : gb247 ≠ gb246)); revert n0_ n1_ n2_ n3_ n4_ n5_ n6_ n7_ n8_ n9_; clear BK245 BK246 HB; intro BK245 BK246 HB BK247 GW247 GE247 NB245_247 NB247_245 NB246_247 NB247_246; clear hb hbox hg; have hnb7 := NB245_246.out; have hnc7 := NB246_245.out; have hnb8 := NB245_247.out; have hnc8 := NB247_245.out; obtain ⟨hcz9_0, hcz9_1, hfz9_0, hfz9_1⟩ := cz2 BK245.out) | ((with_reducible refine gate_callee (f := 22) rfl ?_); refine goesL_ (some 6) rfl rfl Try.func22 (by kernel_rfl) rfl #[.slice A0_0 l0_0.length c0_0] rfl mB ?_; (with_reducible refine (laws_toIntS.calls k _ _ l0_0 t248 _ ?side1 ?side2 A2.out).mono ?_); (case side1 => exact cB (Kd.C_below HR0_0.out HB.out)); (case side2 => exact HC0_0.out); rintro e w10 ⟨v249, rfl, ho0, hb⟩; refine ⟨_, rfl, ?_⟩; have n0_ := xm (Kd.R_lower ho0 (xz bG)); have n1_ := xm (blk_below (kB BK245) hb); have n2_ := xm (blk_below (kB BK246) hb); have n3_ := xm (blk_below (kB BK247) hb); have n4_ := xm (below_step bG hb); revert n0_ n1_ n2_ n3_ n4_; clear BK245 BK246 BK247 HB; intro HO250 BK245 BK246 BK247 HB; (try clear hb); (try clear ho0); obtain ⟨Ao11, co11, eo11⟩ := Kd.R_slice HO250.out; subst eo11; have hnb12 := NB247_246.out; have hnc12 := NB246_247.out; obtain ⟨hcz13_0, hcz13_1, hfz13_0, hfz13_1⟩ := cz2 BK247.out; obtain ⟨hcz14_0, hcz14_1, hfz14_0, hfz14_1⟩ := cz2 BK245.out) | ((with_reducible refine gate_callee (f := 22) rfl ?_); refine goesL_ (some 10) rfl rfl Try.func22 (by kernel_rfl) rfl #[.slice A0_1 l0_1.length c0_1] rfl mB ?_; (with_reducible refine (laws_toIntS.calls k _ _ l0_1 t251 _ ?side1 ?side2 A3.out).mono ?_); (case side1 => exact Kd.C_below HR0_1.out bG); (case side2 => exact HC0_1.out); rintro e w15 ⟨v252, rfl, ho0, hb⟩; refine ⟨_, rfl, ?_⟩; have n0_ := xm (Kd.R_elder' (by (with_reducible repeat (first | apply Kd.R_alloc | apply Kd.R_drewN | apply Kd.R_drew)); exact (Kd.R_mono (Kd.R_far (p := ⟨gb247, 0, none⟩) (Kd.R_types HO250.out BK247.out (by decide)) (fun _ hk => hk.2) (.slice Ao11 t248.length co11)) (fun _ h_ => h_.1))) (Kd.R_base ho0) hb); have n1_ := xm (Kd.R_lower (Kd.R_new' ho0 (Kd.R_lt (by (with_reducible repeat (first | apply Kd.R_alloc | apply Kd.R_drewN | apply Kd.R_drew)); exact (Kd.R_mono (Kd.R_far (p := ⟨gb247, 0, none⟩) (Kd.R_types HO250.out BK247.out (by decide)) (fun _ hk => hk.2) (.slice Ao11 t248.length co11)) (fun _ h_ => h_.1))))) (xz bG)); have n2_ := xm (blk_below (g := gb245) (o := .cells #[.slice A0_0 l0_0.length c0_0, .slice A0_1 l0_1.length c0_1] 25 (0, 0)) (by (with_reducible repeat (first | refine xq ?_ _ | refine xr ?_ | refine xo ?_ _)); refine blk_far ?_ NB245_247.out _; (with_reducible repeat (first | refine xq ?_ _ | refine xr ?_ | refine xo ?_ _)); exact BK245.out) hb); have n3_ := xm (blk_below (g := gb246) (o := .cells #[.slice none 0 0, .slice none 0 0] 35 (0, 0)) (by (with_reducible repeat (first | refine xq ?_ _ | refine xr ?_ | refine xo ?_ _)); refine blk_far ?_ NB246_247.out _; (with_reducible repeat (first | refine xq ?_ _ | refine xr ?_ | refine xo ?_ _)); exact BK246.out) hb); have n4_ := xm (blk_below (g := gb247) (o := .cells #[.slice Ao11 t248.length co11, .slice none 0 0] 35 (0, 0)) (by (with_reducible repeat (first | refine xq ?_ _ | refine xr ?_ | refine xo ?_ _)); refine blk_put (cs := #[.slice none 0 0, .slice none 0 0]) ?_ 0 _ rfl; (with_reducible repeat (first | refine xq ?_ _ | refine xr ?_ | refine xo ?_ _)); exact BK247.out) hb); have n5_ := xm (below_step bG hb); revert n0_ n1_ n2_ n3_ n4_ n5_; clear HO250 BK245 BK246 BK247 HB; intro HO250 HO253 BK245 BK246 BK247 HB; (try clear hb); (try clear hk); (try clear ho0); obtain ⟨Ao16, co16, eo16⟩ := Kd.R_slice HO253.out; subst eo16; obtain ⟨hcz17_0, hcz17_1, hfz17_0, hfz17_1⟩ := cz2 BK247.out; obtain ⟨hcz18_0, hcz18_1, hfz18_0, hfz18_1⟩ := cz2 BK246.out))
 refine bodyPost_ret (results_cell_row rfl _ _ gb246 35 #[.slice Ao11 t248.length co11, .slice Ao16 t251.length co16] (0, 0) _ rfl (by (with_reducible repeat (first | refine xq ?_ _ | refine xr ?_ | refine xo ?_ _)); refine blk_put (cs := #[.slice Ao11 t248.length co11, .slice none 0 0]) ?_ 1 _ rfl; (with_reducible repeat (first | refine xq ?_ _ | refine xr ?_ | refine xo ?_ _)); refine blk_put (cs := #[.slice none 0 0, .slice none 0 0]) ?_ 0 _ rfl; (with_reducible repeat (first | refine xq ?_ _ | refine xr ?_ | refine xo ?_ _)); refine blk_far ?_ NB246_247.out _; (with_reducible repeat (first | refine xq ?_ _ | refine xr ?_ | refine xo ?_ _)); exact BK246.out) Try.underlying35 rfl (by kernel_rfl)) rfl ?_
 exact ⟨_, _, eB, by (with_reducible repeat (first | apply Kd.R_alloc | apply Kd.R_drewN | apply Kd.R_drew)); exact Kd.R_mono (Kd.R_far (p := ⟨gb246, 1, none⟩) (Kd.R_far (p := ⟨gb246, 0, none⟩) (Kd.R_far (p := ⟨gb247, 1, none⟩) (Kd.R_types (Kd.R_types HO250.out BK247.out (by decide)) BK246.out (by decide)) (fun _ hk => hk.1.2) (.slice Ao16 t251.length co16)) (fun _ hk => hk.2) (.slice Ao11 t248.length co11)) (fun _ hk => hk.2) (.slice Ao16 t251.length co16)) (fun _ hk => hk.1.1.2), by (with_reducible repeat (first | apply Kd.R_alloc | apply Kd.R_drewN | apply Kd.R_drew)); exact Kd.R_mono (Kd.R_far (p := ⟨gb246, 1, none⟩) (Kd.R_far (p := ⟨gb246, 0, none⟩) (Kd.R_far (p := ⟨gb247, 1, none⟩) (Kd.R_types (Kd.R_types HO253.out BK247.out (by decide)) BK246.out (by decide)) (fun _ hk => hk.1.2) (.slice Ao16 t251.length co16)) (fun _ hk => hk.2) (.slice Ao11 t248.length co11)) (fun _ hk => hk.2) (.slice Ao16 t251.length co16)) (fun _ hk => hk.1.1.2), bG⟩

/-! ### laws_toDependS: function 7 -/
def laws_toDependS.l0 : Nat → List (S25) → List (S35) → Int → Option ((List (S35)))
 | 0, _, _, _ => none
 | k + 1, x0, x3, x4 => if x4 < (x0.length : Int) then (if 0 ≤ x4 then ((laws_toDepend.f k ((rd_T25 x0 x4).f0) ((rd_T25 x0 x4).f1)).bind fun bt258 => (if x4 < (x3.length : Int) then (laws_toDependS.l0 k x0 (x3.set (x4 : Int).toNat (⟨bt258.1, bt258.2⟩ : S35)) (wrap64 (x4 + 1))) else (none))) else (none)) else (some x3)
def laws_toDependS.f (k : Nat) (l0 : List (S25)) : Option ((List (S35))) := if 0 ≤ (l0.length : Int) then (if ((l0.length : Int) : Int).toNat ≤ 5864062014805 then (laws_toDependS.l0 k l0 (List.replicate ((l0.length : Int) : Int).toNat z35) 0) else (none)) else (none)
theorem laws_toDependS.mono_l : ∀ k, (∀ y0 y1 y2, LeO (laws_toDependS.l0 k y0 y1 y2) (laws_toDependS.l0 (k + 1) y0 y1 y2))
 | 0 => fun _ _ _ r h => by simp [laws_toDependS.l0] at h
 | k + 1 => by
  have ih0 := laws_toDependS.mono_l k
  ·intro y0 y1 y2
   unfold laws_toDependS.l0
   repeat' first
   | (with_reducible exact ih0 _ _ _)
   | (with_reducible exact laws_toDepend.mono _ _ _)
   | (with_reducible exact LeO.refl _)
   | (with_reducible exact LeO.none _)
   | (with_reducible refine LeO.ite ?_ ?_)
   | (with_reducible refine LeO.bind ?_ (fun _ => ?_))
   | exact ih0 _ _ _
   | exact laws_toDepend.mono _ _ _
   | exact LeO.none _
   | refine LeO.ite ?_ ?_
   | refine LeO.bind ?_ (fun _ => ?_)
theorem laws_toDependS.mono : ∀ a0 k, LeO (laws_toDependS.f k a0) (laws_toDependS.f (k + 1) a0) := by
 intro a0 k
 have ih0 := laws_toDependS.mono_l k
 unfold laws_toDependS.f
 repeat' first
   | (with_reducible exact ih0 _ _ _)
   | (with_reducible exact laws_toDepend.mono _ _ _)
   | (with_reducible exact LeO.refl _)
   | (with_reducible exact LeO.none _)
   | (with_reducible refine LeO.ite ?_ ?_)
   | (with_reducible refine LeO.bind ?_ (fun _ => ?_))
   | exact ih0 _ _ _
   | exact laws_toDepend.mono _ _ _
   | exact LeO.none _
   | refine LeO.ite ?_ ?_
   | refine LeO.bind ?_ (fun _ => ?_)
set_option maxHeartbeats 8000000 in
set_option maxRecDepth 100000 in
theorem laws_toDependS.calls (k : Nat) (A0 : Option Addr) (c0 : Nat) (l0 : List (S25)) (r : List (S35)) (w : World) (hr0 : Kd.C k25 w A0 l0.length l0) (hc0 : l0.length ≤ c0) (h : laws_toDependS.f k l0 = some r) :
  Calls Try.prog 7 #[.slice A0 l0.length c0] w fun e w' => ∃ v0_ : Value, e = .returned (v0_) ∧ Kd.S kP35 35 w' w.heap.size (fun _ => True) v0_ r ∧ Below w.heap.size w w' := by
 have hu25 := Try.underlying25
 have hu35 := Try.underlying35
 have HR0 := xm hr0
 have HC0 := xm hc0
 clear hr0 hc0
 have HB := xm (Below.refl w.heap.size w)
 have H : (if 0 ≤ (l0.length : Int) then (if ((l0.length : Int) : Int).toNat ≤ 5864062014805 then (laws_toDependS.l0 k l0 (List.replicate ((l0.length : Int) : Int).toNat z35) 0) else (none)) else (none)) = some r := h
 clear h
 by_cases c2 : 0 ≤ (l0.length : Int)
 ·rw [if_pos c2] at H
  have c2b0 := eq_true c2
  have c2b1 : decide (0 ≤ (l0.length : Int)) = true := decide_eq_true c2
  clear c2
  by_cases c3 : ((l0.length : Int) : Int).toNat ≤ 5864062014805
  ·rw [if_pos c3] at H
   have c3b0 := eq_true c3
   have c3b1 : decide (((l0.length : Int) : Int).toNat ≤ 5864062014805) = true := decide_eq_true c3
   clear c3
   obtain ⟨y254, hy254⟩ : ∃ y_ : List (S35), y_ = (List.replicate ((l0.length : Int) : Int).toNat z35) := ⟨_, rfl⟩
   replace H : (laws_toDependS.l0 k l0 y254 0) = some r := by first | (rw [hy254]; with_reducible exact H) | (have H2_ := (Option.bind_some _ _).symm.trans H; rw [hy254]; with_reducible exact H2_) | (have H2_ := (Option.bind_some _ _).symm.trans H; with_reducible exact H2_) | with_reducible exact H | (rw [hy254]; exact H) | exact H
   have Ny254 := xm hy254
   clear hy254
   have H' := xm H
   clear H
   go_enter Try.func7, Try.ntmps7
   go_wp2_with (first | ((with_reducible refine gate_dst (N := 7) rfl ?_); refine Kd.S_make kP35 _ 35 rfl (N := 7) rfl 33 _ _ rfl (l0.length : Int) rfl rfl Try.underlying33 (.agg #[(.slice none 0 0), (.slice none 0 0)]) 48 info35 rfl (by decide) (by omega) z35 (ok := fun _ => True) (okp := fun _ => True) ⟨.slice none 0 0, .slice none 0 0, fun _ => False, fun _ => False, rfl, ⟨fun _ h => h.elim, fun _ h => h.elim⟩, fun _ h => h.elim, Kd.R_nil _ _ _ _ _, Kd.R_nil _ _ _ _ _⟩ (fun _ hk => hk) trivial (of_decide_eq_true aB) (Nat.le_trans (Nat.mul_le_mul_right _ (of_decide_eq_true aB : (l0.length : Int).toNat ≤ 5864062014805)) (by omega)) (Below.refl _ _) (Nat.le_refl _) ?_; intro v255 w4 ho5 hb hg_ hnew_; clear hg_ hnew_; (first | rw [← Ny254.out] at ho5 | (simp only [Int.reduceToNat] at ho5; rw [← Ny254.out] at ho5)); have n0_ := xm (Kd.S_lower ho5 (xz bB)); have n1_ := xm (below_step bB hb); revert n0_ n1_; clear HB; intro HO256 HB; clear hb ho5))
   go_loopg [4] k (fun kq v4 w' => ∃ (x3_1 : List (S35)) (x4_1 : Int), v4 = .int .i64 x4_1 ∧ Aside0 (laws_toDependS.l0 kq l0 x3_1 x4_1 = some r) ∧ Aside0 (kq ≤ k) ∧ Aside0 (Kd.S kP35 35 w' w.heap.size (fun _ => True) v255 x3_1) ∧ Aside0 (Below w.heap.size w w'))
   case atStart => exact ⟨(y254), (0), sB, H', ⟨Nat.le_refl _⟩, ⟨tB HO256⟩, ⟨bG⟩⟩
   case round =>
    clear H'
    try clear c2
    try clear c2b0 c2b1
    try clear p2
    try clear c3
    try clear c3b0 c3b1
    obtain ⟨x3_1, x4_1, rfl, HA, HK1, HO_3, HB⟩ := hrel
    cases gk with
    | zero => exact absurd HA.out (by simp [laws_toDependS.l0])
    | succ k1 =>
     have H := HA.out
     clear HA
     simp only [laws_toDependS.l0] at H
     by_cases c6 : x4_1 < (l0.length : Int)
     ·rw [if_pos c6] at H
      have c6b0 : decide (x4_1 < (l0.length : Int)) = true := decide_eq_true c6
      clear c6
      by_cases c7 : 0 ≤ x4_1
      ·rw [if_pos c7] at H
       have c7b0 : decide (0 ≤ x4_1) = true := decide_eq_true c7
       clear c7
       replace H := Option.bind_eq_some_iff.mp H
       obtain ⟨⟨t258, t261⟩, A80, H⟩ := H
       replace H : (if x4_1 < (x3_1.length : Int) then (laws_toDependS.l0 k1 l0 (x3_1.set (x4_1 : Int).toNat (⟨t258, t261⟩ : S35)) (wrap64 (x4_1 + 1))) else (none)) = some r := H
       have A8 := xm A80
       clear A80
       by_cases c9 : x4_1 < (x3_1.length : Int)
       ·rw [if_pos c9] at H
        have c9b0 : decide (x4_1 < (x3_1.length : Int)) = true := decide_eq_true c9
        clear c9
        obtain ⟨y264, hy264⟩ : ∃ y_ : List (S35), y_ = (x3_1.set (x4_1 : Int).toNat (⟨t258, t261⟩ : S35)) := ⟨_, rfl⟩
        replace H : (laws_toDependS.l0 k1 l0 y264 (wrap64 (x4_1 + 1))) = some r := by first | (rw [hy264]; with_reducible exact H) | (have H2_ := (Option.bind_some _ _).symm.trans H; rw [hy264]; with_reducible exact H2_) | (have H2_ := (Option.bind_some _ _).symm.trans H; with_reducible exact H2_) | with_reducible exact H | (rw [hy264]; exact H) | exact H
        have Ny264 := xm hy264
        clear hy264
        have H' := xm H
        clear H
        have p257 : 0 ≤ (x4_1 : Int) := of_decide_eq_true aB
        have q257 : x4_1 < (l0.length : Int) := of_decide_eq_true aB
        obtain ⟨ad257, A257_0, c257_0, A257_1, c257_1, e257, hx257_0, hx257_1, hl257_0, hi257_0, hl257_1, hi257_1⟩ := at_T25 HR0.out x4_1 p257 q257
        cases e257
        replace hx257_0 := hU hx257_0
        replace hx257_1 := hU hx257_1
        have HR257_0 := xm hi257_0
        have HC257_0 := xm hl257_0
        clear hi257_0 hl257_0
        have HR257_1 := xm hi257_1
        have HC257_1 := xm hl257_1
        clear hi257_1 hl257_1
        replace p257 := eq_true p257
        replace q257 := eq_true q257
        go_wp2_with (first
         | ((with_reducible refine gate_callee (f := 8) rfl ?_); refine goesL_ (some 20) rfl rfl Try.func8 (by kernel_rfl) rfl #[.agg #[.slice A257_0 ((rd_T25 l0 x4_1).f0).length c257_0, .slice A257_1 ((rd_T25 l0 x4_1).f1).length c257_1]] rfl mB ?_; (with_reducible refine (laws_toDepend.calls k1 _ _ ((rd_T25 l0 x4_1).f0) _ _ ((rd_T25 l0 x4_1).f1) t258 t261 _ ?side1 ?side2 ?side3 ?side4 A8.out).mono ?_); (case side1 => exact cB (Kd.C_below HR257_0.out HB.out)); (case side2 => exact HC257_0.out); (case side3 => exact cB (Kd.C_below HR257_1.out HB.out)); (case side4 => exact HC257_1.out); rintro e w11 ⟨v259, v262, rfl, ho0, ho1, hb⟩; refine ⟨_, rfl, ?_⟩; have p10 : 0 ≤ (x4_1 : Int) := of_decide_eq_true aB; have q10 : (x4_1 : Int) < ((x3_1.length : Int) : Int) := of_decide_eq_true aB; obtain ⟨go10, co10, eo10, gb10, _, _⟩ := Kd.S_form HO_3.out (by omega); (first | cases eo10 | (injection eo10 with ea_ en_ ec_; (first | subst ea_ | (injection ea_ with ea_; subst ea_)); subst ec_; clear en_)); have GB10 := xm gb10; clear gb10; obtain ⟨Ao0, co0, eo0⟩ := Kd.R_slice ho0; subst eo0; obtain ⟨Ao1, co1, eo1⟩ := Kd.R_slice ho1; subst eo1; obtain ⟨HP, _, _, hx0, hx1, hz0, hz1⟩ := kP35_set (x := (⟨t258, t261⟩ : S35)) (tB HO_3) hb (xz bB) ho0 ho1 p10 q10; have HP12 := xm HP; have n2_ := xm (below_step bB hb); clear HO_3 HB HP hb ho0 ho1; revert n2_; intro HB; replace p10 := eq_true p10; replace q10 := eq_true q10)
         | ((with_reducible refine gate_store (t := 35) (p := 21) rfl ?_); refine store_event (t := 35) (p := 21) (v := ?vo_w13) (w1 := ((w11.setCell ⟨go10, (x4_1 : Int).toNat * 2, none⟩ (.slice Ao0 t258.length co0)).setCell ⟨go10, (x4_1 : Int).toNat * 2 + 1, none⟩ (.slice Ao1 t261.length co1))) ?hg ?ho ?hn ?hr ?_; (case ho => rfl); (case hg => rfl); (case hn => rfl); (case hr => exact zB); intro w13 hw; have hp_ : Kd.S kP35 35 w13 w.heap.size (fun _ => True) (.slice (some ⟨go10, 0, none⟩) x3_1.length co10) y264 := (by rw [hw, Ny264.out]; exact HP12.out.1); have n1_ := xm ((by rw [hw]; exact xt (xt (HB.out) GB10.out) GB10.out : Below w.heap.size w w13)); clear HB HP12 hw p10 q10 hx0 hz0 hx1 hz1; have HO_3 := xm hp_; have HB := n1_; clear hp_ n1_))
        go_roundg k1
        case measure => have := HK1.out; omega
        case rel => exact ⟨(y264), (wrap64 (x4_1 + 1)), sB, H', ⟨by have := HK1.out; omega⟩, ⟨tB HO_3⟩, ⟨bG⟩⟩
       ·rw [if_neg c9] at H
        exact absurd H (by simp)
      ·rw [if_neg c7] at H
       exact absurd H (by simp)
     ·rw [if_neg c6] at H
      have c6b0 : decide (x4_1 < (l0.length : Int)) = false := decide_eq_false c6
      clear c6
      obtain rfl := Option.some.inj H
      go_wp2
      go_ret
      exact ⟨_, eB, tB HO_3, bG⟩
  ·rw [if_neg c3] at H
   exact absurd H (by simp)
 ·rw [if_neg c2] at H
  exact absurd H (by simp)

/-! ### impl_setOf: function 26 -/
def impl_setOf.l0 : Nat → Int → List Int → Int → Int → Option (Int)
 | 0, _, _, _, _ => none
 | k + 1, x3, x6, x7, x8 => if x8 < x7 then (if 0 ≤ x8 then (if x8 < (x6.length : Int) then (if 0 ≤ (rd x6 x8) then (impl_setOf.l0 k (Go.bits .or .i64 x3 (shl .i64 1 (rd x6 x8))) x6 x7 (wrap64 (x8 + 1))) else (none)) else (none)) else (none)) else (some x3)
def impl_setOf.f (k : Nat) (l0 : List Int) : Option (Int) := impl_setOf.l0 k 0 l0 (l0.length : Int) 0
theorem impl_setOf.mono_l : ∀ k, (∀ y0 y1 y2 y3, LeO (impl_setOf.l0 k y0 y1 y2 y3) (impl_setOf.l0 (k + 1) y0 y1 y2 y3))
 | 0 => fun _ _ _ _ r h => by simp [impl_setOf.l0] at h
 | k + 1 => by
  have ih0 := impl_setOf.mono_l k
  ·intro y0 y1 y2 y3
   unfold impl_setOf.l0
   repeat' first
   | (with_reducible exact ih0 _ _ _ _)
   | (with_reducible exact LeO.refl _)
   | (with_reducible exact LeO.none _)
   | (with_reducible refine LeO.ite ?_ ?_)
   | (with_reducible refine LeO.bind ?_ (fun _ => ?_))
   | exact ih0 _ _ _ _
   | exact LeO.none _
   | refine LeO.ite ?_ ?_
   | refine LeO.bind ?_ (fun _ => ?_)
theorem impl_setOf.mono : ∀ a0 k, LeO (impl_setOf.f k a0) (impl_setOf.f (k + 1) a0) := by
 intro a0 k
 have ih0 := impl_setOf.mono_l k
 unfold impl_setOf.f
 repeat' first
   | (with_reducible exact ih0 _ _ _ _)
   | (with_reducible exact LeO.refl _)
   | (with_reducible exact LeO.none _)
   | (with_reducible refine LeO.ite ?_ ?_)
   | (with_reducible refine LeO.bind ?_ (fun _ => ?_))
   | exact ih0 _ _ _ _
   | exact LeO.none _
   | refine LeO.ite ?_ ?_
   | refine LeO.bind ?_ (fun _ => ?_)
set_option maxHeartbeats 8000000 in
set_option maxRecDepth 100000 in
theorem impl_setOf.calls (k : Nat) (A0 : Option Addr) (c0 : Nat) (l0 : List Int) (r : Int) (w : World) (hr0 : Kd.C (Kd.int .i64) w A0 l0.length l0) (hc0 : l0.length ≤ c0) (h : impl_setOf.f k l0 = some r) :
  Calls Try.prog 26 #[.slice A0 l0.length c0] w fun e w' => e = .returned (.int .i64 r) ∧ Drawn0 w w' := by
 have HR0 := xm hr0
 have HC0 := xm hc0
 clear hr0 hc0
 have H : (impl_setOf.l0 k 0 l0 (l0.length : Int) 0) = some r := h
 clear h
 have H' := xm H
 clear H
 go_enter Try.func26, Try.ntmps26
 go_wp2
 go_loopg [3, 8] k (fun kq v3 v8 w' => ∃ (x3_1 : Int) (x8_1 : Int), v3 = .int .i64 x3_1 ∧ v8 = .int .i64 x8_1 ∧ Aside0 (impl_setOf.l0 kq x3_1 l0 (l0.length : Int) x8_1 = some r) ∧ Aside0 (kq ≤ k) ∧ Drawn0 w w')
 case atStart => exact ⟨(0), (0), sB, sB, H', ⟨Nat.le_refl _⟩, by repeat (first | exact Drawn0.refl _ | apply Drawn0.step)⟩
 case round =>
  clear H'
  obtain ⟨x3_1, x8_1, rfl, rfl, HA, HK1, ⟨m1, rfl⟩⟩ := hrel
  cases gk with
  | zero => exact absurd HA.out (by simp [impl_setOf.l0])
  | succ k1 =>
   have H := HA.out
   clear HA
   simp only [impl_setOf.l0] at H
   by_cases c2 : x8_1 < (l0.length : Int)
   ·rw [if_pos c2] at H
    have c2b0 : decide (x8_1 < (l0.length : Int)) = true := decide_eq_true c2
    clear c2
    by_cases c3 : 0 ≤ x8_1
    ·rw [if_pos c3] at H
     have c3b0 : decide (0 ≤ x8_1) = true := decide_eq_true c3
     clear c3
     by_cases c4 : x8_1 < (l0.length : Int)
     ·rw [if_pos c4] at H
      have c4b0 : decide (x8_1 < (l0.length : Int)) = true := decide_eq_true c4
      clear c4
      by_cases c5 : 0 ≤ (rd l0 x8_1)
      ·rw [if_pos c5] at H
       have c5b0 := eq_true c5
       have c5b1 : decide (0 ≤ (rd l0 x8_1)) = true := decide_eq_true c5
       clear c5
       obtain ⟨ji6, hji6⟩ : ∃ j_ : Int, (shl .i64 1 (rd l0 x8_1)) = j_ := ⟨_, rfl⟩
       replace H : (impl_setOf.l0 k1 (Go.bits .or .i64 x3_1 (ji6)) l0 (l0.length : Int) (wrap64 (x8_1 + 1))) = some r := by first | (rw [hji6] at H; exact H) | (simp only [hji6] at H ⊢; exact H)
       have hji6_ : (IntKind.i64.wrap (1 * 2 ^ min (rd l0 x8_1).toNat 64)) = ji6 := hji6
       have hji6z : (rd l0 x8_1) ≤ 64 → (IntKind.i64.wrap (1 * 2 ^ (rd l0 x8_1).toNat)) = ji6 := shl_small hji6
       have hji6u : (IntKind.i64.wrap (2 ^ min (rd l0 x8_1).toNat 64)) = ji6 := by have h_ := hji6_; rw [Int.one_mul] at h_; exact h_
       have hji6v : (rd l0 x8_1) ≤ 64 → (IntKind.i64.wrap (2 ^ (rd l0 x8_1).toNat)) = ji6 := fun hle_ => by have h_ := hji6z hle_; rw [Int.one_mul] at h_; exact h_
       have hji6y : (wrap64 (1 * 2 ^ min (rd l0 x8_1).toNat 64)) = ji6 := (i64_w _).symm.trans hji6_
       have hji6x : (rd l0 x8_1) ≤ 64 → (wrap64 (1 * 2 ^ (rd l0 x8_1).toNat)) = ji6 := fun h_ => (i64_w _).symm.trans (hji6z h_)
       have H' := xm H
       clear H
       have p265 : 0 ≤ (x8_1 : Int) := of_decide_eq_true aB
       have q265 : x8_1 < (l0.length : Int) := of_decide_eq_true aB
       obtain ⟨ad265, e265, hx265_0⟩ := Kd.at_int HR0.out x8_1 p265 q265
       cases e265
       replace p265 := eq_true p265
       replace q265 := eq_true q265
       go_wp2
       go_roundg k1
       case measure => have := HK1.out; omega
       case rel => exact ⟨(Go.bits .or .i64 x3_1 (ji6)), (wrap64 (x8_1 + 1)), (by first | rfl | (simp; done) | (simp only [← hji6] <;> (first | rfl | simp)) | (simp [*]; done)), sB, H', ⟨by have := HK1.out; omega⟩, by repeat (first | exact Drawn0.refl _ | apply Drawn0.step)⟩
      ·rw [if_neg c5] at H
       exact absurd H (by simp)
     ·rw [if_neg c4] at H
      exact absurd H (by simp)
    ·rw [if_neg c3] at H
     exact absurd H (by simp)
   ·rw [if_neg c2] at H
    have c2b0 : decide (x8_1 < (l0.length : Int)) = false := decide_eq_false c2
    clear c2
    obtain rfl := Option.some.inj H
    go_wp2
    go_ret
    exact ⟨sB, dB⟩

end Go.Proofs.Ytaddemalepndfah.G
