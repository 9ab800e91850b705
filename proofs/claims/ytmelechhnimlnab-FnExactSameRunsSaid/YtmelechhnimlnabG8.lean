/- Written by a program of this claim's own, out of the translation: functions of the program as plain functions, and that the calls answer as these. No conditions. -/
import Derived.Test.YtmelechhnimlnabG0
import Derived.Test.YtmelechhnimlnabXP
import Derived.Test.YtmelechhnimlnabG7
namespace Go.Proofs.Ytmelechhnimlnab.G
open Go.RowKit Go.Proofs.Ytmelechhnimlnab.X Go.Proofs.YtmelechhnimlnabW.PrintWords Go.Proofs.YtmelechhnimlnabW.PrintLast Go.Proofs.YtmelechhnimlnabW.PrintMore
attribute [local go_sem] max2_int min2_int max_two min_two max_three min_three max_four min_four   -- for this text's walks alone
set_option linter.unusedVariables false
set_option linter.unusedSimpArgs false

/-! ### impl_sources: function 28 -/
def impl_sources.l0 : Nat → List Int → List (S58) → List (S32) → Int → Int → Option ((List (S58)) × List Int)
 | 0, _, _, _, _, _ => none
 | k + 1, x4, x5, x10, x11, x12 => if x12 < x11 then (if 0 ≤ x12 then (if x12 < (x10.length : Int) then (if ((rd_T32 x10 x12).f1) = 1 then (if 0 ≤ ((rd_T32 x10 x12).f2) then (if ((rd_T32 x10 x12).f2) < (x4.length : Int) then (if x5.length < 8796093022208 then (impl_sources.l0 k x4 (x5 ++ [(⟨x12, rd x4 ((rd_T32 x10 x12).f2)⟩ : S58)]) x10 x11 (wrap64 (x12 + 1))) else (none)) else (none)) else (none)) else (if 0 ≤ ((rd_T32 x10 x12).f2) then (if ((rd_T32 x10 x12).f2) < (x4.length : Int) then (impl_sources.l0 k (x4.set (((rd_T32 x10 x12).f2) : Int).toNat x12) x5 x10 x11 (wrap64 (x12 + 1))) else (none)) else (none))) else (none)) else (none)) else (some (x5, x4))
def impl_sources.f (k : Nat) (l0 : List (S32)) : Option ((List (S58)) × List Int) := (slices_Repeat_Lint_int.f (([(-1)] : List Int)) 4).bind fun t157 => (impl_sources.l0 k t157 ([] : List (S58)) l0 (l0.length : Int) 0)
theorem impl_sources.mono_l : ∀ k, (∀ y0 y1 y2 y3 y4, LeO (impl_sources.l0 k y0 y1 y2 y3 y4) (impl_sources.l0 (k + 1) y0 y1 y2 y3 y4))
 | 0 => fun _ _ _ _ _ r h => by simp [impl_sources.l0] at h
 | k + 1 => by
  have ih0 := impl_sources.mono_l k
  ·intro y0 y1 y2 y3 y4
   unfold impl_sources.l0
   repeat' first
   | (with_reducible exact ih0 _ _ _ _ _)
   | (with_reducible exact LeO.refl _)
   | (with_reducible exact LeO.none _)
   | (with_reducible refine LeO.ite ?_ ?_)
   | (with_reducible refine LeO.bind ?_ (fun _ => ?_))
   | exact ih0 _ _ _ _ _
   | exact LeO.none _
   | refine LeO.ite ?_ ?_
   | refine LeO.bind ?_ (fun _ => ?_)
theorem impl_sources.mono : ∀ a0 k, LeO (impl_sources.f k a0) (impl_sources.f (k + 1) a0) := by
 intro a0 k
 have ih0 := impl_sources.mono_l k
 unfold impl_sources.f
 repeat' first
   | (with_reducible exact ih0 _ _ _ _ _)
   | (with_reducible exact LeO.refl _)
   | (with_reducible exact LeO.none _)
   | (with_reducible refine LeO.ite ?_ ?_)
   | (with_reducible refine LeO.bind ?_ (fun _ => ?_))
   | exact ih0 _ _ _ _ _
   | exact LeO.none _
   | refine LeO.ite ?_ ?_
   | refine LeO.bind ?_ (fun _ => ?_)
set_option maxHeartbeats 8000000 in
set_option maxRecDepth 100000 in
theorem impl_sources.calls (k : Nat) (A0 : Option Addr) (c0 : Nat) (l0 : List (S32)) (r1 : List (S58)) (r2 : List Int) (w : World) (hr0 : Kd.C k32 w A0 l0.length l0) (hc0 : l0.length ≤ c0) (h : impl_sources.f k l0 = some (r1, r2)) :
  Calls Try.prog 28 #[.slice A0 l0.length c0] w fun e w' => ∃ v0_ v1_ : Value, e = .returned (.tuple #[v0_, v1_]) ∧ Kd.R k58 58 w' w.heap.size (fun _ => True) v0_ r1 ∧ Kd.R (Kd.int .i64) 3 w' w.heap.size (fun _ => True) v1_ r2 ∧ Below w.heap.size w w' := by
 have hu32 := Try.underlying32
 have hu58 := Try.underlying58
 have HR0 := xm hr0
 have HC0 := xm hc0
 clear hr0 hc0
 have HB := xm (Below.refl w.heap.size w)
 have H : ((slices_Repeat_Lint_int.f (([(-1)] : List Int)) 4).bind fun t157 => (impl_sources.l0 k t157 ([] : List (S58)) l0 (l0.length : Int) 0)) = some (r1, r2) := h
 clear h
 obtain ⟨y154, hy154⟩ : ∃ y_ : List Int, y_ = (([(-1)] : List Int)) := ⟨_, rfl⟩
 replace H : ((slices_Repeat_Lint_int.f y154 4).bind fun t157 => (impl_sources.l0 k t157 ([] : List (S58)) l0 (l0.length : Int) 0)) = some (r1, r2) := by first | (rw [hy154]; with_reducible exact H) | (have H2_ := (Option.bind_some _ _).symm.trans H; rw [hy154]; with_reducible exact H2_) | (have H2_ := (Option.bind_some _ _).symm.trans H; with_reducible exact H2_) | with_reducible exact H | (rw [hy154]; exact H) | exact H
 have Ny154 := xm hy154
 clear hy154
 replace H := Option.bind_eq_some_iff.mp H
 obtain ⟨t157, A20, H⟩ := H
 replace H : (impl_sources.l0 k t157 ([] : List (S58)) l0 (l0.length : Int) 0) = some (r1, r2) := H
 have A2 := xm A20
 clear A20
 have H' := xm H
 clear H
 go_enter Try.func28, Try.ntmps28
 go_wp2_with (first | ((with_reducible refine gate_dst (N := 8) rfl ?_); refine Kd.R_lit (Kd.int .i64) _ 3 ?hg (N := 8) ?hd (xs := ([(-1)] : List Int)) (inner := [.int .i64 (-1)]) (ok := fun _ => True) (okp := fun _ => True) ?hr ?hp (fun _ hk => hk) trivial (Below.refl _ _) (Nat.le_refl _) (by simp) ?_; (case hd => rfl); (case hg => rfl); (case hr => exact zB); (case hp => exact (Reps.one (show Kd.M (Kd.int .i64) _ _ _ (-1) [.int .i64 (-1)] from rfl) (Reps.none _ _))); intro v155 w3 ho4 hb hg_ hnew_; clear hg_ hnew_; (first | rw [← Ny154.out] at ho4 | (simp only [Int.reduceToNat] at ho4; rw [← Ny154.out] at ho4)); have n0_ := xm (Kd.R_lower ho4 (xz bB)); have n1_ := xm (below_step bB hb); revert n0_ n1_; clear HB; intro HO156 HB; clear hb ho4; obtain ⟨Ao5, co5, eo5⟩ := Kd.R_slice HO156.out; subst eo5) | ((with_reducible refine gate_callee (f := 35) rfl ?_); refine goesL_ (some 9) rfl rfl Try.func35 (by kernel_rfl) rfl #[.slice Ao5 y154.length co5, .int .i64 4] rfl mB ?_; (with_reducible refine (slices_Repeat_Lint_int.calls _ _ y154 4 t157 _ ?side1 ?side2 A2.out).mono ?_); (case side1 => repeat (first | exact (Kd.R_reads' HO156.out).2.2 | (with_reducible refine Kd.C_alloc ?_ _) | (with_reducible refine Kd.C_drewN ?_ _) | (with_reducible refine Kd.C_drew ?_))); (case side2 => exact (Kd.R_reads' HO156.out).2.1); rintro e w6 ⟨v158, rfl, ho0, hb⟩; refine ⟨_, rfl, ?_⟩; have n0_ := xm (Kd.R_elder' (rB HO156) (Kd.R_base ho0) hb); have n1_ := xm (Kd.R_lower (Kd.R_new' ho0 (Kd.R_lt (rB HO156))) (xz bB)); have n2_ := xm (below_step bB hb); revert n0_ n1_ n2_; clear HO156 HB; intro HO156 HO159 HB; (try clear hb); (try clear ho0)))
 go_loopg [5, 12] k (fun kq v5 v12 w' => ∃ (x4_1 : List Int) (x5_1 : List (S58)) (x12_1 : Int), v12 = .int .i64 x12_1 ∧ Aside0 (impl_sources.l0 kq x4_1 x5_1 l0 (l0.length : Int) x12_1 = some (r1, r2)) ∧ Aside0 (kq ≤ k) ∧ Aside0 (Kd.R (Kd.int .i64) 3 w' w.heap.size (fun _ => True) v158 x4_1) ∧ Aside0 (Kd.R k58 58 w' w.heap.size (fun _ => True) v5 x5_1) ∧ Aside0 (Below w.heap.size w w'))
 case atStart => exact ⟨(t157), (([] : List (S58))), (0), sB, H', ⟨Nat.le_refl _⟩, ⟨by (with_reducible repeat (first | apply Kd.R_alloc | apply Kd.R_drewN | apply Kd.R_drew)); exact Kd.R_mono HO159.out (fun _ hk => trivial)⟩, ⟨by first | exact Kd.R_nil _ _ _ _ _ | exact Kd.N_nil _ _ _ _ _ | exact Kd.V_nil _ _ _ _ _ | exact Kd.Q_nil _ _ _ _ _ | exact Kd.S_nil _ _ _ _ _⟩, ⟨bG⟩⟩
 case round =>
  clear H'
  try clear c2
  try clear p2
  try clear c3
  obtain ⟨x4_1, x5_1, x12_1, rfl, HA, HK1, HO_4, HO_5, HB⟩ := hrel
  cases gk with
  | zero => exact absurd HA.out (by simp [impl_sources.l0])
  | succ k1 =>
   have H := HA.out
   clear HA
   simp only [impl_sources.l0] at H
   by_cases c7 : x12_1 < (l0.length : Int)
   ·rw [if_pos c7] at H
    have c7b0 : decide (x12_1 < (l0.length : Int)) = true := decide_eq_true c7
    clear c7
    by_cases c8 : 0 ≤ x12_1
    ·rw [if_pos c8] at H
     have c8b0 : decide (0 ≤ x12_1) = true := decide_eq_true c8
     clear c8
     by_cases c9 : x12_1 < (l0.length : Int)
     ·rw [if_pos c9] at H
      have c9b0 : decide (x12_1 < (l0.length : Int)) = true := decide_eq_true c9
      clear c9
      by_cases c10 : ((rd_T32 l0 x12_1).f1) = 1
      ·rw [if_pos c10] at H
       have c10b0 : (((rd_T32 l0 x12_1).f1) == 1) = true := beq_iff_eq.mpr c10
       have c10b1 : (((rd_T32 l0 x12_1).f1) != 1) = false := bne_eq_false_iff_eq.mpr c10
       clear c10
       by_cases c11 : 0 ≤ ((rd_T32 l0 x12_1).f2)
       ·rw [if_pos c11] at H
        have c11b0 : decide (0 ≤ ((rd_T32 l0 x12_1).f2)) = true := decide_eq_true c11
        clear c11
        by_cases c12 : ((rd_T32 l0 x12_1).f2) < (x4_1.length : Int)
        ·rw [if_pos c12] at H
         have c12b0 : decide (((rd_T32 l0 x12_1).f2) < (x4_1.length : Int)) = true := decide_eq_true c12
         clear c12
         by_cases c13 : x5_1.length < 8796093022208
         ·rw [if_pos c13] at H
          have LMc13 := xm c13
          clear c13
          obtain ⟨y163, hy163⟩ : ∃ y_ : List (S58), y_ = (x5_1 ++ [(⟨x12_1, rd x4_1 ((rd_T32 l0 x12_1).f2)⟩ : S58)]) := ⟨_, rfl⟩
          replace H : (impl_sources.l0 k1 x4_1 y163 l0 (l0.length : Int) (wrap64 (x12_1 + 1))) = some (r1, r2) := by first | (rw [hy163]; with_reducible exact H) | (have H2_ := (Option.bind_some _ _).symm.trans H; rw [hy163]; with_reducible exact H2_) | (have H2_ := (Option.bind_some _ _).symm.trans H; with_reducible exact H2_) | with_reducible exact H | (rw [hy163]; exact H) | exact H
          have Ny163 := xm hy163
          clear hy163
          have H' := xm H
          clear H
          have p160 : 0 ≤ (x12_1 : Int) := of_decide_eq_true aB
          have q160 : x12_1 < (l0.length : Int) := of_decide_eq_true aB
          obtain ⟨ad160, e160, hx160_0, hx160_1, hx160_2⟩ := at_T32 HR0.out x12_1 p160 q160
          cases e160
          replace hx160_0 := hU hx160_0
          replace hx160_1 := hU hx160_1
          replace hx160_2 := hU hx160_2
          replace p160 := eq_true p160
          replace q160 := eq_true q160
          go_wp2_with (first | ((with_reducible refine gate_dst (N := 7) rfl ?_); refine box_event ?hg (N := 7) ?hd (cs := #[.int .i64 0, .int .i64 0, .int .i64 0]) (t := 32) ?hr ?_; (case hd => rfl); (case hg => rfl); (case hr => exact zB); intro gb161 hg w14 hbox hb; have n0_ := xm (Kd.R_below (rB HO_4) hb); have n1_ := xm (Kd.R_below (rB HO_5) hb); have n2_ := xm (below_step bB hb); have n3_ := xm (hbox); have n4_ := xm ((by rw [hg]; exact (xz bB) : w.heap.size ≤ gb161)); have n5_ := xm ((by rw [hg]; exact (xz bB) : w.heap.size ≤ gb161)); revert n0_ n1_ n2_ n3_ n4_ n5_; clear HO_4 HO_5 HB; intro HO_4 HO_5 HB BK161 GW161 GE161; clear hb hbox hg; obtain ⟨hcz15_0, hcz15_1, hcz15_2, hfz15_0, hfz15_1, hfz15_2⟩ := cz3 BK161.out; obtain ⟨Ao16, co16, eo16⟩ := Kd.R_slice HO_4.out; subst eo16; have p162 : 0 ≤ (((rd_T32 l0 x12_1).f2) : Int) := of_decide_eq_true aB; have q162 : ((rd_T32 l0 x12_1).f2) < (x4_1.length : Int) := of_decide_eq_true aB; obtain ⟨ad162, e162, hx162_0⟩ := Kd.at_int (Kd.R_reads' HO_4.out).2.2 ((rd_T32 l0 x12_1).f2) p162 q162; cases e162; have hn162_0 : ad162.block ≠ gb161 := Kd.own_blk (Kd.R_ne HO_4.out BK161.out (by decide)); have hn162_1 : ad162.block ≠ gb161 := Kd.own_blk (Kd.R_ne HO_4.out BK161.out (by decide)); have hn162_2 : ad162.block ≠ gb161 := Kd.own_blk (Kd.R_ne HO_4.out BK161.out (by decide)); replace hx162_0 := (cell_far (p := ⟨gb161, 0, none⟩) (by first | (rw [add_block]; exact hn162_0) | (show (Addr.add _ _).block ≠ _; rw [add_block]; exact hn162_0) | exact hn162_0) (.int .i64 ((rd_T32 l0 x12_1).f0))).trans hx162_0; replace hx162_0 := (cell_far (p := ⟨gb161, 1, none⟩) (by first | (rw [add_block]; exact hn162_1) | (show (Addr.add _ _).block ≠ _; rw [add_block]; exact hn162_1) | exact hn162_1) (.int .i64 ((rd_T32 l0 x12_1).f1))).trans hx162_0; replace hx162_0 := (cell_far (p := ⟨gb161, 2, none⟩) (by first | (rw [add_block]; exact hn162_2) | (show (Addr.add _ _).block ≠ _; rw [add_block]; exact hn162_2) | exact hn162_2) (.int .i64 ((rd_T32 l0 x12_1).f2))).trans hx162_0; clear hn162_0; clear hn162_1; clear hn162_2; replace p162 := eq_true p162; replace q162 := eq_true q162) | ((with_reducible refine gate_builtin (b := .append) (xs := #[.tmp 20, .tmp 28]) rfl ?_); at_builtin; refine Kd.R_append k58 (w0 := w) w.heap.size rfl (.tmp 20) (.tmp 28) 53 58 (.agg #[(.int .i64 0), (.int .i64 0)]) 16 rfl Try.underlying53 info58 rfl (by decide) (by omega) u5 x5_1 (⟨x12_1, rd x4_1 ((rd_T32 l0 x12_1).f2)⟩ : S58) [.int .i64 x12_1, .int .i64 (rd x4_1 ((rd_T32 l0 x12_1).f2))] (fun _ => True) (fun _ => False) rfl zB ?aP (fun _ hk => hk.elim) ?aF ?aO ?aB ?aS ?aL ?_; (case aP => exact k58_mkM _ _ _ (⟨x12_1, rd x4_1 ((rd_T32 l0 x12_1).f2)⟩ : S58)); (case aB => exact bG); (case aF => exact (fun _ _ => trivial)); (case aO => exact (by (with_reducible repeat (first | apply Kd.R_alloc | apply Kd.R_drewN | apply Kd.R_drew)); exact Kd.R_mono (Kd.R_far (p := ⟨gb161, 2, none⟩) (Kd.R_far (p := ⟨gb161, 1, none⟩) (Kd.R_far (p := ⟨gb161, 0, none⟩) (Kd.R_types HO_5.out BK161.out (by decide)) (fun _ hk => hk.2) (.int .i64 ((rd_T32 l0 x12_1).f0))) (fun _ hk => hk.2) (.int .i64 ((rd_T32 l0 x12_1).f1))) (fun _ hk => hk.2) (.int .i64 ((rd_T32 l0 x12_1).f2))) (fun _ hk => trivial))); (case aS => exact (xz bG)); (case aL => have := LMc13.out; omega); intro v164 w17 ho hb hg hat; rw [← Ny163.out] at ho; have n0_ := xm (Kd.R_over' (by (with_reducible repeat (first | apply Kd.R_alloc | apply Kd.R_drewN | apply Kd.R_drew)); exact (Kd.R_mono (Kd.R_far (p := ⟨gb161, 2, none⟩) (Kd.R_far (p := ⟨gb161, 1, none⟩) (Kd.R_far (p := ⟨gb161, 0, none⟩) (Kd.R_types HO_4.out BK161.out (by decide)) (fun _ hk => hk.2) (.int .i64 ((rd_T32 l0 x12_1).f0))) (fun _ hk => hk.2) (.int .i64 ((rd_T32 l0 x12_1).f1))) (fun _ hk => hk.2) (.int .i64 ((rd_T32 l0 x12_1).f2))) (fun _ h_ => h_.1))) (Kd.R_typed (by (with_reducible repeat (first | apply Kd.R_alloc | apply Kd.R_drewN | apply Kd.R_drew)); exact (Kd.R_mono (Kd.R_far (p := ⟨gb161, 2, none⟩) (Kd.R_far (p := ⟨gb161, 1, none⟩) (Kd.R_far (p := ⟨gb161, 0, none⟩) (Kd.R_types HO_5.out BK161.out (by decide)) (fun _ hk => hk.2) (.int .i64 ((rd_T32 l0 x12_1).f0))) (fun _ hk => hk.2) (.int .i64 ((rd_T32 l0 x12_1).f1))) (fun _ hk => hk.2) (.int .i64 ((rd_T32 l0 x12_1).f2))) (fun _ h_ => h_.1)))) (by decide) hg); have n1_ := xm (blk_grown (g := gb161) (o := .cells #[.int .i64 ((rd_T32 l0 x12_1).f0), .int .i64 ((rd_T32 l0 x12_1).f1), .int .i64 ((rd_T32 l0 x12_1).f2)] 32 (0, 0)) (by (with_reducible repeat (first | refine xq ?_ _ | refine xr ?_ | refine xo ?_ _)); refine blk_put (cs := #[.int .i64 ((rd_T32 l0 x12_1).f0), .int .i64 ((rd_T32 l0 x12_1).f1), .int .i64 0]) ?_ 2 _ rfl; (with_reducible repeat (first | refine xq ?_ _ | refine xr ?_ | refine xo ?_ _)); refine blk_put (cs := #[.int .i64 ((rd_T32 l0 x12_1).f0), .int .i64 0, .int .i64 0]) ?_ 1 _ rfl; (with_reducible repeat (first | refine xq ?_ _ | refine xr ?_ | refine xo ?_ _)); refine blk_put (cs := #[.int .i64 0, .int .i64 0, .int .i64 0]) ?_ 0 _ rfl; (with_reducible repeat (first | refine xq ?_ _ | refine xr ?_ | refine xo ?_ _)); exact BK161.out) hg (Kd.R_ne HO_5.out BK161.out (by decide))); have n2_ := xm (hb); have n3_ := xm (ho); revert n0_ n1_ n2_ n3_; clear HO_4 BK161 HB HO_5; intro HO_4 BK161 HB HO165; clear ho hb hg hat))
          go_roundg k1
          case measure => have := HK1.out; omega
          case rel => exact ⟨(x4_1), (y163), (wrap64 (x12_1 + 1)), sB, H', ⟨by have := HK1.out; omega⟩, ⟨rB HO_4⟩, ⟨rB HO165⟩, ⟨bG⟩⟩
         ·rw [if_neg c13] at H
          exact absurd H (by simp)
        ·rw [if_neg c12] at H
         exact absurd H (by simp)
       ·rw [if_neg c11] at H
        exact absurd H (by simp)
      ·rw [if_neg c10] at H
       have c10b0 : (((rd_T32 l0 x12_1).f1) == 1) = false := beq_eq_false_iff_ne.mpr c10
       have c10b1 : (((rd_T32 l0 x12_1).f1) != 1) = true := bne_iff_ne.mpr c10
       by_cases c18 : 0 ≤ ((rd_T32 l0 x12_1).f2)
       ·rw [if_pos c18] at H
        have c18b0 : decide (0 ≤ ((rd_T32 l0 x12_1).f2)) = true := decide_eq_true c18
        clear c18
        by_cases c19 : ((rd_T32 l0 x12_1).f2) < (x4_1.length : Int)
        ·rw [if_pos c19] at H
         have c19b0 : decide (((rd_T32 l0 x12_1).f2) < (x4_1.length : Int)) = true := decide_eq_true c19
         clear c19
         obtain ⟨y166, hy166⟩ : ∃ y_ : List Int, y_ = (x4_1.set (((rd_T32 l0 x12_1).f2) : Int).toNat x12_1) := ⟨_, rfl⟩
         replace H : (impl_sources.l0 k1 y166 x5_1 l0 (l0.length : Int) (wrap64 (x12_1 + 1))) = some (r1, r2) := by first | (rw [hy166]; with_reducible exact H) | (have H2_ := (Option.bind_some _ _).symm.trans H; rw [hy166]; with_reducible exact H2_) | (have H2_ := (Option.bind_some _ _).symm.trans H; with_reducible exact H2_) | with_reducible exact H | (rw [hy166]; exact H) | exact H
         have Ny166 := xm hy166
         clear hy166
         have H' := xm H
         clear H
         have p160 : 0 ≤ (x12_1 : Int) := of_decide_eq_true aB
         have q160 : x12_1 < (l0.length : Int) := of_decide_eq_true aB
         obtain ⟨ad160, e160, hx160_0, hx160_1, hx160_2⟩ := at_T32 HR0.out x12_1 p160 q160
         cases e160
         replace hx160_0 := hU hx160_0
         replace hx160_1 := hU hx160_1
         replace hx160_2 := hU hx160_2
         replace p160 := eq_true p160
         replace q160 := eq_true q160
         go_wp2_with (first | ((with_reducible refine gate_dst (N := 7) rfl ?_); refine box_event ?hg (N := 7) ?hd (cs := #[.int .i64 0, .int .i64 0, .int .i64 0]) (t := 32) ?hr ?_; (case hd => rfl); (case hg => rfl); (case hr => exact zB); intro gb161 hg w21 hbox hb; have n0_ := xm (Kd.R_below (rB HO_4) hb); have n1_ := xm (Kd.R_below (rB HO_5) hb); have n2_ := xm (below_step bB hb); have n3_ := xm (hbox); have n4_ := xm ((by rw [hg]; exact (xz bB) : w.heap.size ≤ gb161)); have n5_ := xm ((by rw [hg]; exact (xz bB) : w.heap.size ≤ gb161)); revert n0_ n1_ n2_ n3_ n4_ n5_; clear HO_4 HO_5 HB; intro HO_4 HO_5 HB BK161 GW161 GE161; clear hb hbox hg; obtain ⟨hcz22_0, hcz22_1, hcz22_2, hfz22_0, hfz22_1, hfz22_2⟩ := cz3 BK161.out) | ((with_reducible refine gate_store (t := 32) (p := 7) rfl ?_); refine store_event (t := 32) (p := 7) (v := ?vo_w23) (w1 := (((w21.setCell ⟨gb161, 0, none⟩ (.int .i64 ((rd_T32 l0 x12_1).f0))).setCell ⟨gb161, 1, none⟩ (.int .i64 ((rd_T32 l0 x12_1).f1))).setCell ⟨gb161, 2, none⟩ (.int .i64 ((rd_T32 l0 x12_1).f2)))) ?hg ?ho ?hn ?hr ?_; (case ho => rfl); (case hg => rfl); (case hn => rfl); (case hr => exact zB); intro w23 hw; have n0_ : Aside0 (Kd.R (Kd.int .i64) 3 w23 w.heap.size (fun _ => True) v158 x4_1) := ⟨(by rw [hw]; exact (by (with_reducible repeat (first | apply Kd.R_alloc | apply Kd.R_drewN | apply Kd.R_drew)); exact Kd.R_mono (Kd.R_far (p := ⟨gb161, 2, none⟩) (Kd.R_far (p := ⟨gb161, 1, none⟩) (Kd.R_far (p := ⟨gb161, 0, none⟩) (Kd.R_types HO_4.out BK161.out (by decide)) (fun _ hk => hk.2) (.int .i64 ((rd_T32 l0 x12_1).f0))) (fun _ hk => hk.2) (.int .i64 ((rd_T32 l0 x12_1).f1))) (fun _ hk => hk.2) (.int .i64 ((rd_T32 l0 x12_1).f2))) (fun _ hk => trivial)))⟩; have n1_ : Aside0 (Kd.R k58 58 w23 w.heap.size (fun _ => True) u5 x5_1) := ⟨(by rw [hw]; exact (by (with_reducible repeat (first | apply Kd.R_alloc | apply Kd.R_drewN | apply Kd.R_drew)); exact Kd.R_mono (Kd.R_far (p := ⟨gb161, 2, none⟩) (Kd.R_far (p := ⟨gb161, 1, none⟩) (Kd.R_far (p := ⟨gb161, 0, none⟩) (Kd.R_types HO_5.out BK161.out (by decide)) (fun _ hk => hk.2) (.int .i64 ((rd_T32 l0 x12_1).f0))) (fun _ hk => hk.2) (.int .i64 ((rd_T32 l0 x12_1).f1))) (fun _ hk => hk.2) (.int .i64 ((rd_T32 l0 x12_1).f2))) (fun _ hk => trivial)))⟩; have n2_ : Aside0 (w23.heap[gb161]? = some (.cells #[.int .i64 ((rd_T32 l0 x12_1).f0), .int .i64 ((rd_T32 l0 x12_1).f1), .int .i64 ((rd_T32 l0 x12_1).f2)] 32 (0, 0))) := ⟨(by rw [hw]; exact (by (with_reducible repeat (first | refine xq ?_ _ | refine xr ?_ | refine xo ?_ _)); refine blk_put (cs := #[.int .i64 ((rd_T32 l0 x12_1).f0), .int .i64 ((rd_T32 l0 x12_1).f1), .int .i64 0]) ?_ 2 _ rfl; (with_reducible repeat (first | refine xq ?_ _ | refine xr ?_ | refine xo ?_ _)); refine blk_put (cs := #[.int .i64 ((rd_T32 l0 x12_1).f0), .int .i64 0, .int .i64 0]) ?_ 1 _ rfl; (with_reducible repeat (first | refine xq ?_ _ | refine xr ?_ | refine xo ?_ _)); refine blk_put (cs := #[.int .i64 0, .int .i64 0, .int .i64 0]) ?_ 0 _ rfl; (with_reducible repeat (first | refine xq ?_ _ | refine xr ?_ | refine xo ?_ _)); exact BK161.out))⟩; have n3_ : Aside0 (Below w.heap.size w w23) := ⟨(by rw [hw]; exact bG)⟩; revert n0_ n1_ n2_ n3_; clear hw HO_4 HO_5 BK161 HB; intro HO_4 HO_5 BK161 HB; obtain ⟨hcz24_0, hcz24_1, hcz24_2, hfz24_0, hfz24_1, hfz24_2⟩ := cz3 BK161.out; have p20 : 0 ≤ (((rd_T32 l0 x12_1).f2) : Int) := of_decide_eq_true aB; have q20 : (((rd_T32 l0 x12_1).f2) : Int) < ((x4_1.length : Int) : Int) := of_decide_eq_true aB; obtain ⟨go20, co20, eo20, gb20, gl20, cl20, HG20⟩ := Kd.R_form HO_4.out (by omega); (first | cases eo20 | (injection eo20 with ea_ en_ ec_; (first | subst ea_ | (injection ea_ with ea_; subst ea_)); subst ec_; clear en_)); have GB20 := xm gb20; have GG20 := xm HG20; clear gb20 gl20 HG20; obtain ⟨hx20_0, hf20_0⟩ := Kd.R_celln 0 HO_4.out (((rd_T32 l0 x12_1).f2) : Int) p20 q20; replace p20 := eq_true p20; replace q20 := eq_true q20; obtain ⟨hy25_, hz25_⟩ := Kd.R_celln 0 HO_4.out (((rd_T32 l0 x12_1).f2) : Int) (of_decide_eq_true aB) (of_decide_eq_true aB); have HP25 := Kd.R_putg HO_4.out (((rd_T32 l0 x12_1).f2) : Int) x12_1) | ((with_reducible refine gate_store (t := 3) (p := 34) rfl ?_); refine store_event (t := 3) (p := 34) (v := ?vo_w26) (w1 := (w23.setCell ⟨go20, (((rd_T32 l0 x12_1).f2) : Int).toNat, none⟩ (.int .i64 x12_1))) ?hg ?ho ?hn ?hr ?_; (case ho => rfl); (case hg => rfl); (case hn => rfl); (case hr => exact zB); intro w26 hw; have hg : w23.grownBy w26 (some go20) := (by rw [hw]; exact HP25.2); have hp_ : Kd.R (Kd.int .i64) 3 w26 w.heap.size (fun _ => True) (.slice (some ⟨go20, 0, none⟩) x4_1.length co20) y166 := (by rw [hw, Ny166.out]; exact HP25.1); clear HP25; have n0_ := xm (hp_); have n1_ := xm (Kd.R_over' (v := (.slice (some ⟨go20, 0, none⟩) x4_1.length co20)) (rB HO_5) (Kd.R_typed HO_4.out) (by decide) hg); have n2_ := xm (blk_grown (kB BK161) hg (Kd.R_ne HO_4.out BK161.out (by decide))); have n3_ := xm ((by rw [hw]; exact xt (HB.out) GB20.out : Below w.heap.size w w26)); revert n0_ n1_ n2_ n3_; clear HO_4 HO_5 BK161 HB; intro HO_4 HO_5 BK161 HB; clear hg hw hp_))
         go_roundg k1
         case measure => have := HK1.out; omega
         case rel => exact ⟨(y166), (x5_1), (wrap64 (x12_1 + 1)), sB, H', ⟨by have := HK1.out; omega⟩, ⟨rB HO_4⟩, ⟨rB HO_5⟩, ⟨bG⟩⟩
        ·rw [if_neg c19] at H
         exact absurd H (by simp)
       ·rw [if_neg c18] at H
        exact absurd H (by simp)
     ·rw [if_neg c9] at H
      exact absurd H (by simp)
    ·rw [if_neg c8] at H
     exact absurd H (by simp)
   ·rw [if_neg c7] at H
    have c7b0 : decide (x12_1 < (l0.length : Int)) = false := decide_eq_false c7
    clear c7
    simp only [Option.some.injEq, Prod.mk.injEq] at H
    obtain ⟨rfl, rfl⟩ := H
    go_wp2
    go_ret2
    exact ⟨_, _, eB, rB HO_5, rB HO_4, bG⟩

/-! ### impl_placeOf: function 29 -/
def impl_placeOf.f (l0 : List (S32)) (a1 : Int) : Option (Int × Int) := if a1 < 0 then (some ((-1), 0)) else (if 0 ≤ a1 then (if a1 < (l0.length : Int) then (if a1 ≤ (l0.length : Int) then ((impl_stepsOf.f (l0.take (a1 : Int).toNat) ((rd_T32 l0 a1).f0)).bind fun t174 => (some ((rd_T32 l0 a1).f0, (t174.length : Int)))) else (none)) else (none)) else (none))
def impl_placeOf.T3 : Bool × List (List Nat × List Nat) := (true, [([], []), ([], []), ([0, 1], [0, 1]), ([2], [2]), ([3], [3]), ([], []), ([], []), ([5, 6], [5, 6]), ([], []), ([], []), ([8, 9], [8, 9]), ([10], [10]), ([11], [11]), ([7, 12], [7, 12]), ([13], [13]), ([4, 14], [4, 14]), ([15, 13, 0, 1, 2, 3, 4, 5, 6, 7, 8, 9, 10, 11, 12, 13, 14, 15], [15])])
def impl_placeOf.B3 : List Nat := [0, 0, 3, 7, 15, 0, 0, 96, 0, 0, 768, 1792, 3840, 8160, 16352, 32767, 65535]
theorem impl_placeOf.tab3 : rtab .any (opsOf Try.f29 3) = impl_placeOf.T3 := by kernel_rfl
theorem impl_placeOf.bits3 : waitsOk impl_placeOf.T3.2 impl_placeOf.B3 = true := by kernel_rfl
set_option maxHeartbeats 8000000 in
set_option maxRecDepth 100000 in
theorem impl_placeOf.calls (A0 : Option Addr) (c0 : Nat) (l0 : List (S32)) (a1 : Int) (r1 : Int) (r2 : Int) (w : World) (hr0 : Kd.C k32 w A0 l0.length l0) (hc0 : l0.length ≤ c0) (h : impl_placeOf.f l0 a1 = some (r1, r2)) :
  Calls Try.prog 29 #[.slice A0 l0.length c0, .int .i64 a1] w fun e w' => e = .returned (.agg #[.int .i64 r1, .int .i64 r2]) ∧ Below w.heap.size w w' := by
 have hu44 := Try.underlying44
 have HR0 := xm hr0
 have HC0 := xm hc0
 clear hr0 hc0
 have HB := xm (Below.refl w.heap.size w)
 have H : (if a1 < 0 then (some ((-1), 0)) else (if 0 ≤ a1 then (if a1 < (l0.length : Int) then (if a1 ≤ (l0.length : Int) then ((impl_stepsOf.f (l0.take (a1 : Int).toNat) ((rd_T32 l0 a1).f0)).bind fun t174 => (some ((rd_T32 l0 a1).f0, (t174.length : Int)))) else (none)) else (none)) else (none))) = some (r1, r2) := h
 clear h
 by_cases c3 : a1 < 0
 ·rw [if_pos c3] at H
  have c3b0 : decide (a1 < 0) = true := decide_eq_true c3
  clear c3
  simp only [Option.some.injEq, Prod.mk.injEq] at H
  obtain ⟨rfl, rfl⟩ := H
  go_enter Try.func29, Try.ntmps29
  go_wp2_with (first | ((with_reducible refine gate_dst (N := 4) rfl ?_); refine box_event ?hg (N := 4) ?hd (cs := #[.int .i64 0, .int .i64 0]) (t := 44) ?hr ?_; (case hd => rfl); (case hg => rfl); (case hr => exact zB); intro gb167 hg w4 hbox hb; have n0_ := xm (below_step bB hb); have n1_ := xm (hbox); have n2_ := xm ((by rw [hg]; exact (xz bB) : w.heap.size ≤ gb167)); have n3_ := xm ((by rw [hg]; exact (xz bB) : w.heap.size ≤ gb167)); revert n0_ n1_ n2_ n3_; clear HB; intro HB BK167 GW167 GE167; clear hb hbox hg; obtain ⟨hcz5_0, hcz5_1, hfz5_0, hfz5_1⟩ := cz2 BK167.out))
  refine bodyPost_ret (results_cell_row rfl _ _ gb167 44 #[.int .i64 (-1), .int .i64 0] (0, 0) _ rfl (by (with_reducible repeat (first | refine xq ?_ _ | refine xr ?_ | refine xo ?_ _)); refine blk_put (cs := #[.int .i64 (-1), .int .i64 0]) ?_ 1 _ rfl; (with_reducible repeat (first | refine xq ?_ _ | refine xr ?_ | refine xo ?_ _)); refine blk_put (cs := #[.int .i64 0, .int .i64 0]) ?_ 0 _ rfl; (with_reducible repeat (first | refine xq ?_ _ | refine xr ?_ | refine xo ?_ _)); exact BK167.out) Try.underlying44 rfl (by kernel_rfl)) rfl ?_
  exact ⟨eB, bG⟩
 ·rw [if_neg c3] at H
  have c3b0 : decide (a1 < 0) = false := decide_eq_false c3
  clear c3
  by_cases c6 : 0 ≤ a1
  ·rw [if_pos c6] at H
   have c6b0 : decide (0 ≤ a1) = true := decide_eq_true c6
   clear c6
   by_cases c7 : a1 < (l0.length : Int)
   ·rw [if_pos c7] at H
    have c7b0 : decide (a1 < (l0.length : Int)) = true := decide_eq_true c7
    clear c7
    have c8b0 := eq_true (of_decide_eq_true aB : 0 ≤ a1)
    by_cases c9 : a1 ≤ (l0.length : Int)
    ·rw [if_pos c9] at H
     have c9b0 := eq_true c9
     have c9b1 : decide (a1 ≤ (l0.length : Int)) = true := decide_eq_true c9
     clear c9
     obtain ⟨y169, hy169⟩ : ∃ y_ : List (S32), y_ = (l0.take (a1 : Int).toNat) := ⟨_, rfl⟩
     replace H : ((impl_stepsOf.f y169 ((rd_T32 l0 a1).f0)).bind fun t174 => (some ((rd_T32 l0 a1).f0, (t174.length : Int)))) = some (r1, r2) := by first | (rw [hy169]; with_reducible exact H) | (have H2_ := (Option.bind_some _ _).symm.trans H; rw [hy169]; with_reducible exact H2_) | (have H2_ := (Option.bind_some _ _).symm.trans H; with_reducible exact H2_) | with_reducible exact H | (rw [hy169]; exact H) | exact H
     have Ny169 := xm hy169
     clear hy169
     replace H := Option.bind_eq_some_iff.mp H
     obtain ⟨t174, A100, H⟩ := H
     replace H : (some ((rd_T32 l0 a1).f0, (t174.length : Int))) = some (r1, r2) := H
     have A10 := xm A100
     clear A100
     simp only [Option.some.injEq, Prod.mk.injEq] at H
     obtain ⟨rfl, rfl⟩ := H
     go_enter Try.func29, Try.ntmps29
     try go_wp2_with (first | ((with_reducible refine gate_dst (N := 4) rfl ?_); refine box_event ?hg (N := 4) ?hd (cs := #[.int .i64 0, .int .i64 0]) (t := 44) ?hr ?_; (case hd => rfl); (case hg => rfl); (case hr => exact zB); intro gb167 hg w11 hbox hb; have n0_ := xm (below_step bB hb); have n1_ := xm (hbox); have n2_ := xm ((by rw [hg]; exact (xz bB) : w.heap.size ≤ gb167)); have n3_ := xm ((by rw [hg]; exact (xz bB) : w.heap.size ≤ gb167)); revert n0_ n1_ n2_ n3_; clear HB; intro HB BK167 GW167 GE167; clear hb hbox hg))
     have n0_ := xm (xr BK167.out)
     have n1_ := xm (xd HB.out)
     revert n0_ n1_; clear BK167 HB; intro BK167 HB
     have p168 : 0 ≤ (a1 : Int) := of_decide_eq_true aB
     have q168 : a1 < (l0.length : Int) := of_decide_eq_true aB
     obtain ⟨ad168, e168, hx168_0, hx168_1, hx168_2⟩ := at_T32 HR0.out a1 p168 q168
     have hw168_2 := hx168_2
     have hw168_1 := hx168_1
     have hw168_0 := hx168_0
     cases e168
     replace hx168_0 := hU hx168_0
     replace hx168_1 := hU hx168_1
     replace hx168_2 := hU hx168_2
     replace p168 := eq_true p168
     replace q168 := eq_true q168
     have q13 : (a1 : Int) ≤ ((l0.length : Int) : Int) := of_decide_eq_true aB
     obtain ⟨i013, hi013, _, hsz13, _⟩ := info_parts info32
     have hroom13 : l0.length ≤ c0 := HC0.out
     have hC13 : Kd.C k32 _ (some ad168) l0.length l0 := HR0.out
     have hcut13 := cut_to (P := Try.prog) 26 32 .i64 Try.underlying26 hi013 (some ad168) l0.length c0 a1 (of_decide_eq_true aB) q13 hroom13
     have hr13 := Kd.C_take (m := (a1 : Int).toNat) hC13 (by omega)
     have hy13 : y169.length = (a1 : Int).toNat := (by rw [Ny169.out, List.length_take]; omega)
     rw [← Ny169.out] at hr13
     rw [← hy13] at hcut13
     have HR172 := xm hr13
     have HC172 := xm (show y169.length ≤ c0 from by omega)
     clear hr13 hC13 hroom13 hi013 hsz13
     have KY13 := xm hy13
     clear hy13
     replace q13 := eq_true q13
     have p173 : 0 ≤ (a1 : Int) := of_decide_eq_true aB
     have q173 : a1 < (l0.length : Int) := of_decide_eq_true aB
     obtain ⟨ad173, e173, hx173_0, hx173_1, hx173_2⟩ := at_T32 HR0.out a1 p173 q173
     have hw173_2 := hx173_2
     have hw173_1 := hx173_1
     have hw173_0 := hx173_0
     obtain rfl : ad168 = ad173 := (by injection e173)
     replace hx173_0 := hU hx173_0
     replace hx173_1 := hU hx173_1
     replace hx173_2 := hU hx173_2
     replace p173 := eq_true p173
     replace q173 := eq_true q173
     refine start_ (n := 17) (S := fun w' => w'.cell? (ad168.add ((a1).toNat * 3)) = some (.int .i64 ((rd_T32 l0 a1).f0)) ∧ w'.cell? ⟨(ad168.add ((a1).toNat * 3)).block, (ad168.add ((a1).toNat * 3)).off + 1, none⟩ = some (.int .i64 ((rd_T32 l0 a1).f1)) ∧ w'.cell? ⟨(ad168.add ((a1).toNat * 3)).block, (ad168.add ((a1).toNat * 3)).off + 2, none⟩ = some (.int .i64 ((rd_T32 l0 a1).f2)) ∧ w'.cell? (ad168.add ((a1).toNat * 3)) = some (.int .i64 ((rd_T32 l0 a1).f0)) ∧ w'.cell? ⟨(ad168.add ((a1).toNat * 3)).block, (ad168.add ((a1).toNat * 3)).off + 1, none⟩ = some (.int .i64 ((rd_T32 l0 a1).f1)) ∧ w'.cell? ⟨(ad168.add ((a1).toNat * 3)).block, (ad168.add ((a1).toNat * 3)).off + 2, none⟩ = some (.int .i64 ((rd_T32 l0 a1).f2))) (ds := []) #[Z,Z,Z,Z,Z,Z,Z,Z,Z,Z,Z,Z,Z,Z,Z,Z,Z] (by kernel_rfl) rfl rfl ⟨((HB.out.cell (World.block_lt_of_cell? w _ hw168_0)).trans hw168_0), ((HB.out.cell (World.block_lt_of_cell? w _ hw168_1)).trans hw168_1), ((HB.out.cell (World.block_lt_of_cell? w _ hw168_2)).trans hw168_2), ((HB.out.cell (World.block_lt_of_cell? w _ hw173_0)).trans hw173_0), ((HB.out.cell (World.block_lt_of_cell? w _ hw173_1)).trans hw173_1), ((HB.out.cell (World.block_lt_of_cell? w _ hw173_2)).trans hw173_2)⟩ (fun hHeld => ?_); refine with_tabW impl_placeOf.tab3 impl_placeOf.bits3 (fun HT_ HW_ => ?_)
     generalize w11.drew = w12 at BK167 HB HR172 hx168_0 hx168_1 hx168_2 hx173_0 hx173_1 hx173_2 hHeld ⊢
     refine pu 0 17 1 ?_
     refine pu 1 17 3 ?_
     refine pu 2 17 7 ?_
     refine pu 3 17 15 ?_
     refine pu 5 17 47 ?_
     refine pu 6 17 111 ?_
     refine pu 7 17 239 ?_
     refine pu 8 17 495 ?_
     refine pu 9 17 1007 ?_
     refine pu 10 17 2031 ?_
     refine pu 11 17 4079 ?_
     refine tx 4 17 4095 rfl rfl (take_ofW HT_.out HW_.out (by kernel_rfl)) hHeld (by rintro w' ⟨s0, s1, s2, s3, s4, s5⟩; go_simp; with_reducible rfl) ?_
     refine tx 12 17 8191 rfl rfl (take_ofW HT_.out HW_.out (by kernel_rfl)) hHeld (by rintro w' ⟨s0, s1, s2, s3, s4, s5⟩; go_simp; with_reducible rfl) ?_
     refine one_ (i := 13) (N := some 21) #[Y,Y,Y,Y,Y,Y,Y,Y,Y,Y,Y,Y,Y,Y,Z,Z,Z] rfl rfl (one_of HT_.out (by kernel_rfl)) (by decide) (fun K hK => ?_)
     refine goes_ Try.func15 (by kernel_rfl) rfl #[.slice (some ad168) y169.length c0, .int .i64 ((rd_T32 l0 a1).f0)] (by rfl) rfl rfl mB ?_
     with_reducible refine (impl_stepsOf.calls _ _ y169 ((rd_T32 l0 a1).f0) t174 _ ?side1 ?side2 A10.out).mono ?_
     (case side1 => exact cB (Kd.C_below HR172.out HB.out))
     (case side2 => exact HC172.out)
     rintro e w14 ⟨v175, rfl, ho0, hb⟩
     refine ⟨_, rfl, ?_⟩
     have n0_ := xm (Kd.R_lower ho0 (xz bG))
     have n1_ := xm (blk_below (kB BK167) hb)
     have n2_ := xm (below_step bG hb)
     revert n0_ n1_ n2_; clear BK167 HB; intro HO176 BK167 HB
     (try clear hb)
     (try clear hb2)
     (try clear hk)
     (try clear hi)
     (try clear ho0)
     obtain ⟨Ao15, co15, eo15⟩ := Kd.R_slice HO176.out
     (first | subst eo15 | (injection eo15 with f1_ f2_ f3_; have f4_ := f1_.symm; have f5_ := f3_.symm; clear f1_ f2_ f3_; subst f4_; subst f5_))
     refine hK.out _ _ ⟨((HB.out.cell (World.block_lt_of_cell? w _ hw168_0)).trans hw168_0), ((HB.out.cell (World.block_lt_of_cell? w _ hw168_1)).trans hw168_1), ((HB.out.cell (World.block_lt_of_cell? w _ hw168_2)).trans hw168_2), ((HB.out.cell (World.block_lt_of_cell? w _ hw173_0)).trans hw173_0), ((HB.out.cell (World.block_lt_of_cell? w _ hw173_1)).trans hw173_1), ((HB.out.cell (World.block_lt_of_cell? w _ hw173_2)).trans hw173_2)⟩ (fun hHeld => nC ?_)
     clear hK K
     refine pu 14 17 32767 ?_
     refine pu 15 17 65535 ?_
     refine one_ (i := 16) (N := none) #[Y,Y,Y,Y,Y,Y,Y,Y,Y,Y,Y,Y,Y,Y,Y,Y,Y] rfl rfl (one_of HT_.out (by kernel_rfl)) (by decide) (fun K hK => ?_)
     have hs16 : w14.cell? ⟨gb167, 0, none⟩ = some (.int .i64 0) := (xc BK167.out 0).trans rfl
     have hfs16 := xf BK167.out 0
     have hs17 : w14.cell? ⟨gb167, 1, none⟩ = some (.int .i64 0) := (xc BK167.out 1).trans rfl
     have hfs17 := xf BK167.out 1
     refine skip_ (w1 := ?_) (by rfl) rfl ?_ ?_
     rotate_left
     ·go_simp
      rfl
     refine hK.out _ _ ⟨((cell_far (p := ⟨gb167, _, none⟩) (by first | exact Nat.ne_of_lt (Nat.lt_of_lt_of_le (by have := World.block_lt_of_cell? _ _ hw168_0; first | rwa [add_block] at this | exact this) GW167.out) | (rw [add_block]; exact Nat.ne_of_lt (Nat.lt_of_lt_of_le (by have := World.block_lt_of_cell? _ _ hw168_0; first | rwa [add_block] at this | exact this) GW167.out)) | (show (Addr.add _ _).block ≠ _; rw [add_block]; exact Nat.ne_of_lt (Nat.lt_of_lt_of_le (by have := World.block_lt_of_cell? _ _ hw168_0; first | rwa [add_block] at this | exact this) GW167.out)) | (dsimp only; exact Nat.ne_of_lt (Nat.lt_of_lt_of_le (by have := World.block_lt_of_cell? _ _ hw168_0; first | rwa [add_block] at this | exact this) GW167.out))) _).trans (((cell_far (p := ⟨gb167, _, none⟩) (by first | exact Nat.ne_of_lt (Nat.lt_of_lt_of_le (by have := World.block_lt_of_cell? _ _ hw168_0; first | rwa [add_block] at this | exact this) GW167.out) | (rw [add_block]; exact Nat.ne_of_lt (Nat.lt_of_lt_of_le (by have := World.block_lt_of_cell? _ _ hw168_0; first | rwa [add_block] at this | exact this) GW167.out)) | (show (Addr.add _ _).block ≠ _; rw [add_block]; exact Nat.ne_of_lt (Nat.lt_of_lt_of_le (by have := World.block_lt_of_cell? _ _ hw168_0; first | rwa [add_block] at this | exact this) GW167.out)) | (dsimp only; exact Nat.ne_of_lt (Nat.lt_of_lt_of_le (by have := World.block_lt_of_cell? _ _ hw168_0; first | rwa [add_block] at this | exact this) GW167.out))) _).trans (hHeld.1)))), ((cell_far (p := ⟨gb167, _, none⟩) (by first | exact Nat.ne_of_lt (Nat.lt_of_lt_of_le (by have := World.block_lt_of_cell? _ _ hw168_1; first | rwa [add_block] at this | exact this) GW167.out) | (rw [add_block]; exact Nat.ne_of_lt (Nat.lt_of_lt_of_le (by have := World.block_lt_of_cell? _ _ hw168_1; first | rwa [add_block] at this | exact this) GW167.out)) | (show (Addr.add _ _).block ≠ _; rw [add_block]; exact Nat.ne_of_lt (Nat.lt_of_lt_of_le (by have := World.block_lt_of_cell? _ _ hw168_1; first | rwa [add_block] at this | exact this) GW167.out)) | (dsimp only; exact Nat.ne_of_lt (Nat.lt_of_lt_of_le (by have := World.block_lt_of_cell? _ _ hw168_1; first | rwa [add_block] at this | exact this) GW167.out))) _).trans (((cell_far (p := ⟨gb167, _, none⟩) (by first | exact Nat.ne_of_lt (Nat.lt_of_lt_of_le (by have := World.block_lt_of_cell? _ _ hw168_1; first | rwa [add_block] at this | exact this) GW167.out) | (rw [add_block]; exact Nat.ne_of_lt (Nat.lt_of_lt_of_le (by have := World.block_lt_of_cell? _ _ hw168_1; first | rwa [add_block] at this | exact this) GW167.out)) | (show (Addr.add _ _).block ≠ _; rw [add_block]; exact Nat.ne_of_lt (Nat.lt_of_lt_of_le (by have := World.block_lt_of_cell? _ _ hw168_1; first | rwa [add_block] at this | exact this) GW167.out)) | (dsimp only; exact Nat.ne_of_lt (Nat.lt_of_lt_of_le (by have := World.block_lt_of_cell? _ _ hw168_1; first | rwa [add_block] at this | exact this) GW167.out))) _).trans (hHeld.2.1)))), ((cell_far (p := ⟨gb167, _, none⟩) (by first | exact Nat.ne_of_lt (Nat.lt_of_lt_of_le (by have := World.block_lt_of_cell? _ _ hw168_2; first | rwa [add_block] at this | exact this) GW167.out) | (rw [add_block]; exact Nat.ne_of_lt (Nat.lt_of_lt_of_le (by have := World.block_lt_of_cell? _ _ hw168_2; first | rwa [add_block] at this | exact this) GW167.out)) | (show (Addr.add _ _).block ≠ _; rw [add_block]; exact Nat.ne_of_lt (Nat.lt_of_lt_of_le (by have := World.block_lt_of_cell? _ _ hw168_2; first | rwa [add_block] at this | exact this) GW167.out)) | (dsimp only; exact Nat.ne_of_lt (Nat.lt_of_lt_of_le (by have := World.block_lt_of_cell? _ _ hw168_2; first | rwa [add_block] at this | exact this) GW167.out))) _).trans (((cell_far (p := ⟨gb167, _, none⟩) (by first | exact Nat.ne_of_lt (Nat.lt_of_lt_of_le (by have := World.block_lt_of_cell? _ _ hw168_2; first | rwa [add_block] at this | exact this) GW167.out) | (rw [add_block]; exact Nat.ne_of_lt (Nat.lt_of_lt_of_le (by have := World.block_lt_of_cell? _ _ hw168_2; first | rwa [add_block] at this | exact this) GW167.out)) | (show (Addr.add _ _).block ≠ _; rw [add_block]; exact Nat.ne_of_lt (Nat.lt_of_lt_of_le (by have := World.block_lt_of_cell? _ _ hw168_2; first | rwa [add_block] at this | exact this) GW167.out)) | (dsimp only; exact Nat.ne_of_lt (Nat.lt_of_lt_of_le (by have := World.block_lt_of_cell? _ _ hw168_2; first | rwa [add_block] at this | exact this) GW167.out))) _).trans (hHeld.2.2.1)))), ((cell_far (p := ⟨gb167, _, none⟩) (by first | exact Nat.ne_of_lt (Nat.lt_of_lt_of_le (by have := World.block_lt_of_cell? _ _ hw173_0; first | rwa [add_block] at this | exact this) GW167.out) | (rw [add_block]; exact Nat.ne_of_lt (Nat.lt_of_lt_of_le (by have := World.block_lt_of_cell? _ _ hw173_0; first | rwa [add_block] at this | exact this) GW167.out)) | (show (Addr.add _ _).block ≠ _; rw [add_block]; exact Nat.ne_of_lt (Nat.lt_of_lt_of_le (by have := World.block_lt_of_cell? _ _ hw173_0; first | rwa [add_block] at this | exact this) GW167.out)) | (dsimp only; exact Nat.ne_of_lt (Nat.lt_of_lt_of_le (by have := World.block_lt_of_cell? _ _ hw173_0; first | rwa [add_block] at this | exact this) GW167.out))) _).trans (((cell_far (p := ⟨gb167, _, none⟩) (by first | exact Nat.ne_of_lt (Nat.lt_of_lt_of_le (by have := World.block_lt_of_cell? _ _ hw173_0; first | rwa [add_block] at this | exact this) GW167.out) | (rw [add_block]; exact Nat.ne_of_lt (Nat.lt_of_lt_of_le (by have := World.block_lt_of_cell? _ _ hw173_0; first | rwa [add_block] at this | exact this) GW167.out)) | (show (Addr.add _ _).block ≠ _; rw [add_block]; exact Nat.ne_of_lt (Nat.lt_of_lt_of_le (by have := World.block_lt_of_cell? _ _ hw173_0; first | rwa [add_block] at this | exact this) GW167.out)) | (dsimp only; exact Nat.ne_of_lt (Nat.lt_of_lt_of_le (by have := World.block_lt_of_cell? _ _ hw173_0; first | rwa [add_block] at this | exact this) GW167.out))) _).trans (hHeld.2.2.2.1)))), ((cell_far (p := ⟨gb167, _, none⟩) (by first | exact Nat.ne_of_lt (Nat.lt_of_lt_of_le (by have := World.block_lt_of_cell? _ _ hw173_1; first | rwa [add_block] at this | exact this) GW167.out) | (rw [add_block]; exact Nat.ne_of_lt (Nat.lt_of_lt_of_le (by have := World.block_lt_of_cell? _ _ hw173_1; first | rwa [add_block] at this | exact this) GW167.out)) | (show (Addr.add _ _).block ≠ _; rw [add_block]; exact Nat.ne_of_lt (Nat.lt_of_lt_of_le (by have := World.block_lt_of_cell? _ _ hw173_1; first | rwa [add_block] at this | exact this) GW167.out)) | (dsimp only; exact Nat.ne_of_lt (Nat.lt_of_lt_of_le (by have := World.block_lt_of_cell? _ _ hw173_1; first | rwa [add_block] at this | exact this) GW167.out))) _).trans (((cell_far (p := ⟨gb167, _, none⟩) (by first | exact Nat.ne_of_lt (Nat.lt_of_lt_of_le (by have := World.block_lt_of_cell? _ _ hw173_1; first | rwa [add_block] at this | exact this) GW167.out) | (rw [add_block]; exact Nat.ne_of_lt (Nat.lt_of_lt_of_le (by have := World.block_lt_of_cell? _ _ hw173_1; first | rwa [add_block] at this | exact this) GW167.out)) | (show (Addr.add _ _).block ≠ _; rw [add_block]; exact Nat.ne_of_lt (Nat.lt_of_lt_of_le (by have := World.block_lt_of_cell? _ _ hw173_1; first | rwa [add_block] at this | exact this) GW167.out)) | (dsimp only; exact Nat.ne_of_lt (Nat.lt_of_lt_of_le (by have := World.block_lt_of_cell? _ _ hw173_1; first | rwa [add_block] at this | exact this) GW167.out))) _).trans (hHeld.2.2.2.2.1)))), ((cell_far (p := ⟨gb167, _, none⟩) (by first | exact Nat.ne_of_lt (Nat.lt_of_lt_of_le (by have := World.block_lt_of_cell? _ _ hw173_2; first | rwa [add_block] at this | exact this) GW167.out) | (rw [add_block]; exact Nat.ne_of_lt (Nat.lt_of_lt_of_le (by have := World.block_lt_of_cell? _ _ hw173_2; first | rwa [add_block] at this | exact this) GW167.out)) | (show (Addr.add _ _).block ≠ _; rw [add_block]; exact Nat.ne_of_lt (Nat.lt_of_lt_of_le (by have := World.block_lt_of_cell? _ _ hw173_2; first | rwa [add_block] at this | exact this) GW167.out)) | (dsimp only; exact Nat.ne_of_lt (Nat.lt_of_lt_of_le (by have := World.block_lt_of_cell? _ _ hw173_2; first | rwa [add_block] at this | exact this) GW167.out))) _).trans (((cell_far (p := ⟨gb167, _, none⟩) (by first | exact Nat.ne_of_lt (Nat.lt_of_lt_of_le (by have := World.block_lt_of_cell? _ _ hw173_2; first | rwa [add_block] at this | exact this) GW167.out) | (rw [add_block]; exact Nat.ne_of_lt (Nat.lt_of_lt_of_le (by have := World.block_lt_of_cell? _ _ hw173_2; first | rwa [add_block] at this | exact this) GW167.out)) | (show (Addr.add _ _).block ≠ _; rw [add_block]; exact Nat.ne_of_lt (Nat.lt_of_lt_of_le (by have := World.block_lt_of_cell? _ _ hw173_2; first | rwa [add_block] at this | exact this) GW167.out)) | (dsimp only; exact Nat.ne_of_lt (Nat.lt_of_lt_of_le (by have := World.block_lt_of_cell? _ _ hw173_2; first | rwa [add_block] at this | exact this) GW167.out))) _).trans (hHeld.2.2.2.2.2))))⟩ (fun hHeld => ?_)
     clear hK K
     refine done_ (done_of HT_.out (by kernel_rfl)) ?_
     try go_wp2
     refine bodyPost_ret (results_cell_row rfl _ _ gb167 44 #[.int .i64 ((rd_T32 l0 a1).f0), .int .i64 (t174.length : Int)] (0, 0) _ rfl (by (with_reducible repeat (first | refine xq ?_ _ | refine xr ?_ | refine xo ?_ _)); refine blk_put (cs := #[.int .i64 ((rd_T32 l0 a1).f0), .int .i64 0]) ?_ 1 _ rfl; (with_reducible repeat (first | refine xq ?_ _ | refine xr ?_ | refine xo ?_ _)); refine blk_put (cs := #[.int .i64 0, .int .i64 0]) ?_ 0 _ rfl; (with_reducible repeat (first | refine xq ?_ _ | refine xr ?_ | refine xo ?_ _)); exact BK167.out) Try.underlying44 rfl (by kernel_rfl)) rfl ?_
     exact ⟨eB, bG⟩
    ·rw [if_neg c9] at H
     exact absurd H (by simp)
   ·rw [if_neg c7] at H
    exact absurd H (by simp)
  ·rw [if_neg c6] at H
   exact absurd H (by simp)

/-! ### impl_meaning: function 16 -/
def impl_meaning.reads (l0 : List S32) : List S58 → List (Pl × Pl) → Option (List (Pl × Pl))
 | [], ms => some ms
 | s :: ss, ms => (impl_placeOf.f l0 s.f0).bind fun p => (impl_placeOf.f l0 s.f1).bind fun q => if wfP p = true then impl_meaning.reads l0 ss ((p, q) :: ms) else none
def impl_meaning.lasts (l0 : List S32) : List Int → List S44 → Option (List S44)
 | [], acc => some acc
 | i :: is, acc => (impl_placeOf.f l0 i).bind fun p => if acc.length < 8796093022207 then impl_meaning.lasts l0 is (acc ++ [⟨p.1, p.2⟩]) else none
def impl_meaning.f (k : Nat) (l0 : List S32) : Option (List (Pl × Pl) × List S44) := (impl_sources.f k l0).bind fun t => (impl_meaning.reads l0 t.1 []).bind fun ms => (impl_meaning.lasts l0 t.2 []).bind fun ps => some (ms, ps)
theorem impl_meaning.mono : ∀ a0 k, LeO (impl_meaning.f k a0) (impl_meaning.f (k + 1) a0) := fun a0 k => LeO.bind (impl_sources.mono a0 k) (fun _ => LeO.refl _)
theorem impl_meaning.ne {α : Type} {d : Kd α} {e base g n k : Nat} {ok : Nat → Prop} {w : World} {v : Value} {xs : List α} {P : Program} {R : Value → Option (DataW Unit × List MemPlace)} {D : DataW Unit} (h : d.R e w base ok v xs) (hm : w.ownsMap P k R g n D) : ∀ j, some g = some j → some j ≠ v.ownBlock := fun j hj e => by
 injection hj with hj
 subst hj
 obtain ⟨cells, hc⟩ := Kd.R_typed h _ e.symm
 obtain ⟨es, ck, hb, _⟩ := hm
 rw [hb] at hc
 cases hc
theorem impl_meaning.grown {w w' : World} (h : Below w.heap.size w w') : w.grownBy w' none := ⟨h.os, h.tape, h.output, h.size, fun i hi _ => h.block i hi⟩
def impl_meaning.T6 : Bool × List (List Nat × List Nat) := (true, [([], []), ([], []), ([], []), ([2], [2]), ([1, 3], [1, 3]), ([], []), ([], []), ([6], [6]), ([5, 7, 4], [5, 7]), ([0, 4, 8, 8, 0, 1, 2, 3, 4, 5, 6, 7, 8], [0, 4, 8])])
def impl_meaning.B6 : List Nat := [0, 0, 0, 4, 14, 0, 0, 64, 254, 511]
theorem impl_meaning.tab6 : rtab .any (opsOf Try.f16 6) = impl_meaning.T6 := by kernel_rfl
theorem impl_meaning.bits6 : waitsOk impl_meaning.T6.2 impl_meaning.B6 = true := by kernel_rfl
set_option maxHeartbeats 8000000 in
set_option maxRecDepth 100000 in
theorem impl_meaning.calls (k : Nat) (A0 : Option Addr) (c0 : Nat) (l0 : List S32) (r1 : List (Pl × Pl)) (r2 : List S44) (w : World) (hr0 : Kd.C k32 w A0 l0.length l0) (hc0 : l0.length ≤ c0) (h : impl_meaning.f k l0 = some (r1, r2)) :
  Calls Try.prog 16 #[.slice A0 l0.length c0] w fun e w' => ∃ (b n : Nat) (v1_ : Value), e = .returned (.tuple #[.map (some b), v1_]) ∧ w'.ownsMap Try.prog 44 elP b n (mapP r1) ∧ w.heap.size ≤ b ∧ Kd.R k44 44 w' w.heap.size (fun _ => True) v1_ r2 ∧ Below w.heap.size w w' := by
 have hu44 := Try.underlying44
 have hu58 := Try.underlying58
 have hu53 := Try.underlying53
 have hu38 := Try.underlying38
 have HR0 := xm hr0
 have HC0 := xm hc0
 have HB := xm (Below.refl w.heap.size w)
 unfold impl_meaning.f at h
 obtain ⟨⟨t1, t2⟩, h1, h⟩ := Option.bind_eq_some_iff.mp h
 obtain ⟨ms0, h2, h⟩ := Option.bind_eq_some_iff.mp h
 obtain ⟨ps, h3, h⟩ := Option.bind_eq_some_iff.mp h
 obtain ⟨rfl, rfl⟩ := Prod.mk.inj (Option.some.inj h)
 have H1 := xm h1
 have H2 := xm h2
 have H3 := xm h3
 clear hr0 hc0 h h1 h2 h3
 go_enter Try.func16, Try.ntmps16
 go_wp2_with (first
  | (go_at_call 28; (with_reducible refine (impl_sources.calls k _ _ l0 t1 t2 _ HR0.out HC0.out H1.out).mono ?_); rintro e w1 ⟨v1, v2, rfl, ho1, ho2, hb⟩; obtain ⟨A1_, c1_, ev1⟩ := Kd.R_slice ho1; obtain ⟨A2_, c2_, ev2⟩ := Kd.R_slice ho2; subst ev1; subst ev2; have HO1 := xm ho1; have HO2 := xm ho2; have n0_ := xm (below_step HB.out hb); clear HB ho1 ho2 hb; revert n0_; intro HB)
  | ((with_reducible refine gate_dst (N := 17) rfl ?_); refine pl_event ?hg (N := 17) ?hd ?hr ?_; (case hd => rfl); (case hg => rfl); (case hr => first | rfl | exact zB); intro gm hgm w2 hmap hb; have GM := xm (show w.heap.size ≤ gm by rw [hgm]; exact xz HB.out); have HM := xm (show w2.ownsMap Try.prog 44 elP gm 0 (mapP []) from pl_made 44 hmap); have n0_ := xm (Kd.R_below HO1.out hb); have n1_ := xm (Kd.R_below HO2.out hb); have n2_ := xm (below_step HB.out hb); clear HO1 HO2 HB hgm hmap hb; revert n0_ n1_ n2_; intro HO1 HO2 HB))
 have HS1 := xm (Kd.R_reads' HO1.out).2.2.2.1
 go_loopg [20] t1.length (fun kq v20 w' => ∃ (ys zs : List S58) (ms : List (Pl × Pl)) (x20 : Int), v20 = .int .i64 x20 ∧ Aside0 (x20 = ys.length ∧ ys ++ zs = t1) ∧ Aside0 (zs.length ≤ kq) ∧ Aside0 (impl_meaning.reads l0 zs ms = some ms0) ∧ Aside0 (ms.length ≤ ys.length) ∧ Aside0 (w'.ownsMap Try.prog 44 elP gm ms.length (mapP ms)) ∧ Aside0 (Kd.R k58 58 w' w.heap.size (fun _ => True) (.slice A1_ t1.length c1_) t1) ∧ Aside0 (Kd.R (Kd.int .i64) 3 w' w.heap.size (fun _ => True) (.slice A2_ t2.length c2_) t2) ∧ Aside0 (Below w.heap.size w w'))
 case atStart => exact ⟨[], t1, [], 0, rfl, ⟨rfl, rfl⟩, ⟨Nat.le_refl _⟩, ⟨H2.out⟩, ⟨Nat.le_refl _⟩, ⟨HM.out⟩, ⟨HO1.out⟩, ⟨HO2.out⟩, ⟨HB.out⟩⟩
 case round =>
  clear H2 HM HO1 HO2 HB
  obtain ⟨ys, zs, ms, x20, rfl, HX, HK, H2, HL, HM, HO1, HO2, HB⟩ := hrel
  have hxy := HX.out.1
  have hyz := HX.out.2
  have hlen : ys.length + zs.length = t1.length := by rw [← hyz, List.length_append]
  cases zs with
  | nil =>
   have hlt : decide (x20 < (t1.length : Int)) = false := decide_eq_false (by simp at hlen; omega)
   have hf := H2.out
   unfold impl_meaning.reads at hf
   obtain rfl := Option.some.inj hf
   clear hf H2 HX HK hxy hyz hlen
   go_wp2
   have HS2 := xm (Kd.R_reads' HO2.out).2.2.2.1
   go_loopg [9, 36] t2.length (fun kq v9 v36 w' => ∃ (is js : List Int) (acc : List S44) (x36 : Int), v36 = .int .i64 x36 ∧ Aside0 (x36 = is.length ∧ is ++ js = t2) ∧ Aside0 (js.length ≤ kq) ∧ Aside0 (impl_meaning.lasts l0 js acc = some ps) ∧ Aside0 (Kd.R k44 44 w' w.heap.size (fun _ => True) v9 acc) ∧ Aside0 (w'.ownsMap Try.prog 44 elP gm ms.length (mapP ms)) ∧ Aside0 (Kd.R (Kd.int .i64) 3 w' w.heap.size (fun _ => True) (.slice A2_ t2.length c2_) t2) ∧ Aside0 (Below w.heap.size w w'))
   case atStart => exact ⟨[], t2, [], 0, rfl, ⟨rfl, rfl⟩, ⟨Nat.le_refl _⟩, ⟨H3.out⟩, ⟨Kd.R_nil _ _ _ _ _⟩, ⟨HM.out⟩, ⟨HO2.out⟩, ⟨HB.out⟩⟩
   case round =>
    clear H3 HM HO1 HO2 HB
    obtain ⟨is, js, acc, x36, rfl, HX, HK, H3, HA, HM, HO2, HB⟩ := hrel
    have hxy := HX.out.1
    have hyz := HX.out.2
    have hlen : is.length + js.length = t2.length := by rw [← hyz, List.length_append]
    cases js with
    | nil =>
     have hlt : decide (x36 < (t2.length : Int)) = false := decide_eq_false (by simp at hlen; omega)
     have hf := H3.out
     unfold impl_meaning.lasts at hf
     obtain rfl := Option.some.inj hf
     clear hf H3 HX HK hxy hyz hlen
     obtain ⟨A9_, c9_, ev9⟩ := Kd.R_slice HA.out
     subst ev9
     go_wp2
     go_ret2
     exact ⟨gm, _, _, rfl, HM.out, GM.out, HA.out, HB.out⟩
    | cons j js =>
     have hlt : decide (x36 < (t2.length : Int)) = true := decide_eq_true (by simp at hlen; omega)
     have hf := H3.out
     unfold impl_meaning.lasts at hf
     obtain ⟨⟨p0, p1⟩, hp, hf⟩ := Option.bind_eq_some_iff.mp hf
     by_cases hlm : acc.length < 8796093022207
     case neg => rw [if_neg hlm] at hf; cases hf
     rw [if_pos hlm] at hf
     have HP := xm hp
     have HLM := xm hlm
     have HF := xm hf
     clear hp hlm hf H3
     have hx0 : (0 : Int) ≤ x36 := by omega
     have hx1 : x36 < (t2.length : Int) := by simp at hlen; omega
     have HI := xm (And.intro hx0 hx1)
     have hget : rd t2 x36 = j := by rw [← hyz, hxy]; simp [rd]
     obtain ⟨ad, e1, hy0⟩ := Kd.at_int (Kd.R_reads' HO2.out).2.2 x36 hx0 hx1
     rw [hget] at hy0
     cases e1
     clear hget hxy hyz hlen
     replace hx0 := eq_true hx0
     replace hx1 := eq_true hx1
     go_wp2_with (first
      | (go_at_call 29; refine (impl_placeOf.calls _ _ l0 j p0 p1 _ (Kd.C_below HR0.out HB.out) HC0.out HP.out).mono ?_; rintro e w5 ⟨rfl, hb⟩; have n0_ := xm (Kd.R_below HA.out hb); have n1_ := xm (Kd.R_below HO2.out hb); have n2_ := xm (HM.out.kept (impl_meaning.grown hb) (by simp)); have n3_ := xm (below_step HB.out hb); clear HA HO2 HM HB hb hy0; revert n0_ n1_ n2_ n3_; intro HA HO2 HM HB)
      | ((with_reducible refine gate_builtin (b := .append) (xs := #[.tmp 40, .tmp 44]) rfl ?_); at_builtin; refine Kd.R_append k44 (w0 := w) w.heap.size rfl (.tmp 40) (.tmp 44) 39 44 (.agg #[(.int .i64 0), (.int .i64 0)]) 16 rfl Try.underlying39 info44 rfl (by decide) (by omega) u9 acc (⟨p0, p1⟩ : S44) [.int .i64 p0, .int .i64 p1] (fun _ => True) (fun _ => False) rfl zB ?aP (fun _ hk => hk.elim) ?aF ?aO ?aB ?aS ?aL ?_; (case aP => exact k44_mkM _ _ _ (⟨p0, p1⟩ : S44)); (case aB => exact HB.out); (case aF => exact (fun _ _ => trivial)); (case aO => exact HA.out); (case aS => exact xz HB.out); (case aL => have := HLM.out; omega); intro v7 w7 ho hb hg hat; have n0_ := xm ho; have n1_ := xm (Kd.R_over' HO2.out (Kd.R_typed HA.out) (by decide) hg); have n2_ := xm (HM.out.kept hg (fun e_ => impl_meaning.ne HA.out HM.out gm rfl e_)); have n3_ := xm hb; clear HA HO2 HM HB ho hb hg hat; revert n0_ n1_ n2_ n3_; intro HA HO2 HM HB))
     go_roundg js.length
     case measure => have := HK.out; simp at this; omega
     case rel =>
      have hx := HX.out
      exact ⟨is ++ [j], js, acc ++ [⟨p0, p1⟩], wrap64 (x36 + 1), rfl, ⟨by have := HI.out; have := HS2.out; rw [List.length_append]; simp; unfold wrap64; omega, by rw [← hx.2]; simp⟩, ⟨Nat.le_refl _⟩, HF, HA, HM, HO2, HB⟩
  | cons s zs =>
   have hlt : decide (x20 < (t1.length : Int)) = true := decide_eq_true (by simp at hlen; omega)
   have hf := H2.out
   unfold impl_meaning.reads at hf
   obtain ⟨⟨p0, p1⟩, hp, hf⟩ := Option.bind_eq_some_iff.mp hf
   obtain ⟨⟨q0, q1⟩, hq, hf⟩ := Option.bind_eq_some_iff.mp hf
   by_cases hwf : wfP (p0, p1) = true
   case neg => rw [if_neg hwf] at hf; cases hf
   rw [if_pos hwf] at hf
   have HP := xm hp
   have HQ := xm hq
   have HWF := xm hwf
   have HF := xm hf
   clear hp hq hwf hf H2
   obtain ⟨s0, s1⟩ := s
   have hx0 : (0 : Int) ≤ x20 := by omega
   have hx1 : x20 < (t1.length : Int) := by simp at hlen; omega
   have HI := xm (And.intro hx0 hx1)
   obtain ⟨go, co, eo, gb0, _, _⟩ := Kd.R_form HO1.out (by omega)
   (injection eo with ea_ en_ ec_; subst ea_; subst ec_; clear en_)
   obtain ⟨ce, hcl, hMe, hcc, _⟩ := Kd.R_elem HO1.out z58 x20 hx0 hx1
   have hget : t1.getD x20.toNat z58 = ⟨s0, s1⟩ := by rw [← hyz, hxy]; simp
   rw [hget] at hMe
   obtain rfl := k58_openM hMe
   have hy0 := hcc 0 _ rfl
   have hy1 := hcc 1 _ rfl
   simp only [show (k58).sz = 2 from rfl, Nat.add_zero] at hy0 hy1
   clear hcl hMe hcc hget hxy hyz hlen
   replace hx0 := eq_true hx0
   replace hx1 := eq_true hx1
   go_wp2_with (first
    | ((with_reducible refine gate_dst (N := 8) rfl ?_); refine box_event ?hg (N := 8) ?hd (cs := #[.int .i64 0, .int .i64 0]) (t := 58) ?hr ?_; (case hd => rfl); (case hg => rfl); (case hr => exact zB); intro gb hg w2 hbox hb; obtain ⟨hc0, hc1, hf0, hf1⟩ := cz2 hbox; have HBX := xm hbox; have HBB := xm hb; have HG9 := xm hg; clear hbox hb hg)
    | ((with_reducible refine gate_store (t := 58) (p := 8) rfl ?_); refine store_event (t := 58) (p := 8) (v := ?vo) (w1 := ((w2.setCell ⟨gb, 0, none⟩ (.int .i64 s0)).setCell ⟨gb, 1, none⟩ (.int .i64 s1))) ?hg ?ho ?hn ?hr ?_; (case ho => rfl); (case hg => rfl); (case hn => rfl); (case hr => exact zB); intro w3 hw; clear hc0 hc1 hf0 hf1; have hb3 : Below wr.heap.size wr w3 := (by rw [hw]; exact xt (xt HBB.out (Nat.le_of_eq HG9.out.symm)) (Nat.le_of_eq HG9.out.symm)); have HBK : Aside0 (w3.heap[gb]? = some (.cells #[.int .i64 s0, .int .i64 s1] 58 (0, 0))) := ⟨(by rw [hw]; refine blk_put (cs := #[.int .i64 s0, .int .i64 0]) ?_ 1 _ rfl; refine blk_put (cs := #[.int .i64 0, .int .i64 0]) ?_ 0 _ rfl; exact HBX.out)⟩; have NGB : Aside0 (gb ≠ gm) := ⟨by have := HM.out.lt; rw [HG9.out]; omega⟩; have n0_ := xm (Kd.R_below HO1.out hb3); have n1_ := xm (Kd.R_below HO2.out hb3); have n2_ := xm (HM.out.kept (impl_meaning.grown hb3) (by simp)); have n3_ := xm (below_step HB.out hb3); clear HO1 HO2 HM HB HBX HBB HG9 hw hy0 hy1 hb3; revert n0_ n1_ n2_ n3_; intro HO1 HO2 HM HB))
   have HRD := xm (show Kd.C k32 w A0 l0.length l0 from HR0.out)
   have n0_ := xm (Kd.R_drew HO1.out)
   have n1_ := xm (Kd.R_drew HO2.out)
   have n2_ := xm (HM.out.drew)
   have n3_ := xm (xd HB.out)
   have n4_ := xm (xr HBK.out)
   clear HO1 HO2 HM HB HBK
   revert n0_ n1_ n2_ n3_ n4_; intro HO1 HO2 HM HB HBK
   refine start_ (n := 10) (S := fun w' => w'.cell? ⟨gb, 0, none⟩ = some (.int .i64 s0) ∧ w'.cell? ⟨gb, 1, none⟩ = some (.int .i64 s1)) (ds := []) #[Z,Z,Z,Z,Z,Z,Z,Z,Z,Z] (by kernel_rfl) rfl rfl ⟨(xc HBK.out 0).trans rfl, (xc HBK.out 1).trans rfl⟩ (fun hHeld => ?_)
   refine with_tabW impl_meaning.tab6 impl_meaning.bits6 (fun HT_ HW_ => ?_)
   generalize w3.drew = w4 at HO1 HO2 HM HB HBK hHeld ⊢
   refine pu 0 10 1 ?_
   refine pu 1 10 3 ?_
   refine pu 2 10 7 ?_
   refine pu 5 10 39 ?_
   refine pu 6 10 103 ?_
   refine tx 3 10 111 rfl rfl (take_ofW HT_.out HW_.out (by kernel_rfl)) hHeld (by rintro w' ⟨z0, z1⟩; go_simp; with_reducible rfl) ?_
   refine tx 7 10 239 rfl rfl (take_ofW HT_.out HW_.out (by kernel_rfl)) hHeld (by rintro w' ⟨z0, z1⟩; go_simp; with_reducible rfl) ?_
   refine one_ (i := 4) (N := some 28) #[Y,Y,Y,Y,Y,Y,Y,Y,Z,Z] rfl rfl (one_of HT_.out (by kernel_rfl)) (by decide) (fun K hK => ?_)
   refine goes_ Try.func29 (by kernel_rfl) rfl #[.slice A0 l0.length c0, .int .i64 s0] (by rfl) rfl rfl mB ?_
   refine (impl_placeOf.calls _ _ l0 s0 p0 p1 _ (Kd.C_below HR0.out HB.out) HC0.out HP.out).mono ?_
   rintro e w5 ⟨rfl, hb⟩
   refine ⟨_, rfl, ?_⟩
   have n0_ := xm (Kd.R_below HO1.out hb)
   have n1_ := xm (Kd.R_below HO2.out hb)
   have n2_ := xm (HM.out.kept (impl_meaning.grown hb) (by simp))
   have n3_ := xm (below_step HB.out hb)
   have n4_ := xm (blk_below HBK.out hb)
   clear HO1 HO2 HM HB HBK hb
   revert n0_ n1_ n2_ n3_ n4_; intro HO1 HO2 HM HB HBK
   refine hK.out _ _ ⟨(xc HBK.out 0).trans rfl, (xc HBK.out 1).trans rfl⟩ (fun hHeld => nC ?_)
   clear hK K
   refine one_ (i := 8) (N := some 32) #[Y,Y,Y,Y,Y,Y,Y,Y,Y,Z] rfl rfl (one_of HT_.out (by kernel_rfl)) (by decide) (fun K hK => ?_)
   refine goes_ Try.func29 (by kernel_rfl) rfl #[.slice A0 l0.length c0, .int .i64 s1] (by rfl) rfl rfl mB ?_
   refine (impl_placeOf.calls _ _ l0 s1 q0 q1 _ (Kd.C_below HR0.out HB.out) HC0.out HQ.out).mono ?_
   rintro e w6 ⟨rfl, hb⟩
   refine ⟨_, rfl, ?_⟩
   have n0_ := xm (Kd.R_below HO1.out hb)
   have n1_ := xm (Kd.R_below HO2.out hb)
   have n2_ := xm (HM.out.kept (impl_meaning.grown hb) (by simp))
   have n3_ := xm (below_step HB.out hb)
   have n4_ := xm (blk_below HBK.out hb)
   clear HO1 HO2 HM HB HBK hb
   revert n0_ n1_ n2_ n3_ n4_; intro HO1 HO2 HM HB HBK
   refine hK.out _ _ ⟨(xc HBK.out 0).trans rfl, (xc HBK.out 1).trans rfl⟩ (fun hHeld => nC ?_)
   clear hK K
   refine one_ (i := 9) (N := none) #[Y,Y,Y,Y,Y,Y,Y,Y,Y,Y] rfl rfl (one_of HT_.out (by kernel_rfl)) (by decide) (fun K hK => ?_)
   obtain ⟨wu, hru, hou, hgu⟩ := HM.out.update placeKeyed Try.underlying38 (by have := HL.out; have := HS1.out; have := congrArg List.length HX.out.2; rw [List.length_append, List.length_cons] at this; unfold maxLen; omega) (keyP HWF.out) (elP_mk (q0, q1))
   simp only [plV] at hru
   refine skip_ (w1 := wu) (by rfl) rfl ?_ ?_
   ·go_simp
   have hbu : Below w.heap.size w wu := HB.out.grown hgu HB.out.size (fun j hj => by cases hj; exact GM.out)
   have n0_ := xm (Kd.R_grown2 HO1.out rfl hgu (impl_meaning.ne HO1.out HM.out))
   have n1_ := xm (Kd.R_grown2 HO2.out rfl hgu (impl_meaning.ne HO2.out HM.out))
   have n2_ := xm hou
   have n3_ := xm hbu
   have n4_ := xm ((hgu.block gb (blk_lt HBK.out) (by intro e_; injection e_ with e_; exact NGB.out e_)).trans HBK.out)
   clear HO1 HO2 HM HB HBK hru hou hgu hbu
   revert n0_ n1_ n2_ n3_ n4_; intro HO1 HO2 HM HB HBK
   refine hK.out _ _ ⟨(xc HBK.out 0).trans rfl, (xc HBK.out 1).trans rfl⟩ (fun hHeld => ?_)
   clear hK K
   refine done_ (done_of HT_.out (by kernel_rfl)) ?_
   clear HBK
   go_wp2
   go_roundg zs.length
   case measure => have := HK.out; simp at this; omega
   case rel =>
    have hx := HX.out
    exact ⟨ys ++ [⟨s0, s1⟩], zs, ((p0, p1), (q0, q1)) :: ms, wrap64 (x20 + 1), rfl, ⟨by have := HI.out; have := HS1.out; rw [List.length_append]; simp; unfold wrap64; omega, by rw [← hx.2]; simp⟩, ⟨Nat.le_refl _⟩, HF, ⟨by have := HL.out; simp; omega⟩, HM, HO1, HO2, HB⟩

-- NOT PRINTED: function 17 (maps_Equal_map_impl_place_impl_place_map_impl_place_impl_place_impl_place_impl_place)

end Go.Proofs.Ytmelechhnimlnab.G
