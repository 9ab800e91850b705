/- Written by a program of this claim's own, out of the translation: functions of the program as plain functions, and that the calls answer as these. No conditions. -/
import Derived.Test.YtpbpglbldgpckaaG0
import Derived.Test.YtpbpglbldgpckaaG5
import Derived.Test.YtpbpglbldgpckaaG6
namespace Go.Proofs.Ytpbpglbldgpckaa.G
open Go.RowKit Go.Proofs.Ytpbpglbldgpckaa.X Go.Proofs.YtpbpglbldgpckaaW.PrintWords Go.Proofs.YtpbpglbldgpckaaW.PrintLast Go.Proofs.YtpbpglbldgpckaaW.PrintMore
attribute [local go_sem] max2_int min2_int max_two min_two max_three min_three max_four min_four   -- for this text's walks alone
set_option linter.unusedVariables false
set_option linter.unusedSimpArgs false

/-! ### impl_newSnap: function 137 -/
def impl_newSnap.l0 : Nat → List Int → List Int → Int → Int → List (S138) → Option ((List (S138)) × (List (S140)))
 | 0, _, _, _, _, _ => none
 | k + 1, x0, x6, x7, x8, x173000 => if x8 < x7 then (if 0 ≤ x8 then (if x8 < (x6.length : Int) then (if x173000.length < 5864062014805 then (impl_newSnap.l0 k x0 x6 x7 (wrap64 (x8 + 1)) (x173000 ++ [(⟨rd x6 x8, 0, false⟩ : S138)])) else (none)) else (none)) else (none)) else (if 0 ≤ (wrap64 ((x0.length : Int) * (x0.length : Int))) then (if (wrap64 ((x0.length : Int) * (x0.length : Int)) : Int).toNat ≤ 5026338869833 then (some (x173000, (List.replicate (wrap64 ((x0.length : Int) * (x0.length : Int)) : Int).toNat z140))) else (none)) else (none))
def impl_newSnap.f (k : Nat) (l0 : List Int) : Option ((List (S138)) × (List (S140))) := impl_newSnap.l0 k l0 l0 (l0.length : Int) 0 ([] : List (S138))
theorem impl_newSnap.mono_l : ∀ k, (∀ y0 y1 y2 y3 y4, LeO (impl_newSnap.l0 k y0 y1 y2 y3 y4) (impl_newSnap.l0 (k + 1) y0 y1 y2 y3 y4))
 | 0 => fun _ _ _ _ _ r h => by simp [impl_newSnap.l0] at h
 | k + 1 => by
  have ih0 := impl_newSnap.mono_l k
  ·intro y0 y1 y2 y3 y4
   unfold impl_newSnap.l0
   repeat' first
   | (with_reducible exact ih0 _ _ _ _ _)
   | (with_reducible exact LeO.refl _)
   | (with_reducible exact LeO.none _)
   | (with_reducible refine LeO.ite ?_ ?_)
   | (with_reducible refine LeO.bind ?_ (fun _ => ?_))
   | exact ih0 _ _ _ _ _
   | exact LeO.none _
   | refine LeO.ite ?_ ?_
   | refine LeO.bind ?_ (fun _ => ?_)
theorem impl_newSnap.mono : ∀ a0 k, LeO (impl_newSnap.f k a0) (impl_newSnap.f (k + 1) a0) := by
 intro a0 k
 have ih0 := impl_newSnap.mono_l k
 unfold impl_newSnap.f
 repeat' first
   | (with_reducible exact ih0 _ _ _ _ _)
   | (with_reducible exact LeO.refl _)
   | (with_reducible exact LeO.none _)
   | (with_reducible refine LeO.ite ?_ ?_)
   | (with_reducible refine LeO.bind ?_ (fun _ => ?_))
   | exact ih0 _ _ _ _ _
   | exact LeO.none _
   | refine LeO.ite ?_ ?_
   | refine LeO.bind ?_ (fun _ => ?_)
set_option maxHeartbeats 8000000 in
set_option maxRecDepth 100000 in
theorem impl_newSnap.calls (k : Nat) (A0 : Option Addr) (c0 : Nat) (l0 : List Int) (r1 : List (S138)) (r2 : List (S140)) (w : World) (hr0 : Kd.C (Kd.int .i64) w A0 l0.length l0) (hc0 : l0.length ≤ c0) (h : impl_newSnap.f k l0 = some (r1, r2)) :
  Calls Try.prog 137 #[.slice A0 l0.length c0] w fun e w' => ∃ v0_ v1_ : Value, e = .returned (.agg #[v0_, v1_]) ∧ Kd.R k138 138 w' w.heap.size (fun _ => True) v0_ r1 ∧ Kd.S k140 140 w' w.heap.size (fun _ => True) v1_ r2 ∧ Below w.heap.size w w' := by
 have hu85 := Try.underlying85
 have hu138 := Try.underlying138
 have HR0 := xm hr0
 have HC0 := xm hc0
 clear hr0 hc0
 have HB := xm (Below.refl w.heap.size w)
 have H : (impl_newSnap.l0 k l0 l0 (l0.length : Int) 0 ([] : List (S138))) = some (r1, r2) := h
 clear h
 have H' := xm H
 clear H
 go_enter Try.func137, Try.ntmps137
 go_wp2_with (first | ((with_reducible refine gate_dst (N := 2) rfl ?_); refine box_event ?hg (N := 2) ?hd (cs := #[.slice none 0 0, .slice none 0 0]) (t := 85) ?hr ?_; (case hd => rfl); (case hg => rfl); (case hr => exact zB); intro gb171 hg w2 hbox hb; have n0_ := xm (below_step bB hb); have n1_ := xm (hbox); have n2_ := xm ((by rw [hg]; exact (xz bB) : w.heap.size ≤ gb171)); have n3_ := xm ((by rw [hg]; exact (xz bB) : w.heap.size ≤ gb171)); clear HB; have HB := n0_; have BK171 := n1_; have GW171 := n2_; have GE171 := n3_; clear n0_ n1_ n2_ n3_; clear hb hbox hg) | ((with_reducible refine gate_dst (N := 3) rfl ?_); refine box_event ?hg (N := 3) ?hd (cs := #[.slice none 0 0, .slice none 0 0]) (t := 85) ?hr ?_; (case hd => rfl); (case hg => rfl); (case hr => exact zB); intro gb172 hg w3 hbox hb; have n0_ := xm (blk_below (kB BK171) hb); have n1_ := xm (below_step bG hb); have n2_ := xm (hbox); have n3_ := xm ((by rw [hg]; exact (xz bG) : w.heap.size ≤ gb172)); have n4_ := xm ((by rw [hg]; exact (xz bG) : w.heap.size ≤ gb172)); have n5_ := xm ((by rw [hg]; exact Nat.ne_of_lt (blk_lt (kB BK171)) : gb171 ≠ gb172)); have n6_ := xm ((by rw [hg]; exact Nat.ne_of_gt (blk_lt (kB BK171)) : gb172 ≠ gb171)); clear BK171; clear HB; have BK171 := n0_; have HB := n1_; have BK172 := n2_; have GW172 := n3_; have GE172 := n4_; have NB171_172 := n5_; have NB172_171 := n6_; clear n0_ n1_ n2_ n3_ n4_ n5_ n6_; clear hb hbox hg))
 go_loopg [8] k (fun kq v8 w' => ∃ (x8_1 : Int) (x173000_1 : List (S138)) (u173000 : Value), v8 = .int .i64 x8_1 ∧ Aside0 (impl_newSnap.l0 kq l0 l0 (l0.length : Int) x8_1 x173000_1 = some (r1, r2)) ∧ Aside0 (kq ≤ k) ∧ Aside0 (Kd.R k138 138 w' w.heap.size (fun _ => True) u173000 x173000_1) ∧ Aside0 (w'.heap[gb171]? = some (.cells #[(.slice none 0 0), (.slice none 0 0)] 85 (0, 0))) ∧ Aside0 (w'.heap[gb172]? = some (.cells #[u173000, (.slice none 0 0)] 85 (0, 0))) ∧ Aside0 (Below w.heap.size w w'))
 case atStart => exact ⟨(0), (([] : List (S138))), (.slice none 0 0), (by first | rfl | (simp; done) | (simp [*]; done)), H', ⟨Nat.le_refl _⟩, ⟨by first | exact Kd.R_nil _ _ _ _ _ | exact Kd.N_nil _ _ _ _ _ | exact Kd.V_nil _ _ _ _ _ | exact Kd.Q_nil _ _ _ _ _ | exact Kd.S_nil _ _ _ _ _⟩, ⟨by (with_reducible repeat (first | refine xq ?_ _ | refine xr ?_ | refine xo ?_ _)); exact BK171.out⟩, ⟨by (with_reducible repeat (first | refine xq ?_ _ | refine xr ?_ | refine xo ?_ _)); exact BK172.out⟩, ⟨by repeat (first | (with_reducible first | exact HB.out | apply xa | apply xn | apply xd | refine xt ?_ GE171.out | refine xt ?_ GE172.out) | exact HB.out)⟩⟩
 case round =>
  clear H'
  try clear c1
  try clear p2
  obtain ⟨x8_1, x173000_1, u173000, rfl, HA, HK1, HO_173000, BK171, BK172, HB⟩ := hrel
  cases gk with
  | zero => exact absurd HA.out (by simp [impl_newSnap.l0])
  | succ k1 =>
   have H := HA.out
   clear HA
   simp only [impl_newSnap.l0] at H
   by_cases c4 : x8_1 < (l0.length : Int)
   ·rw [if_pos c4] at H
    have c4b0 : decide (x8_1 < (l0.length : Int)) = true := decide_eq_true c4
    clear c4
    by_cases c5 : 0 ≤ x8_1
    ·rw [if_pos c5] at H
     have c5b0 : decide (0 ≤ x8_1) = true := decide_eq_true c5
     clear c5
     by_cases c6 : x8_1 < (l0.length : Int)
     ·rw [if_pos c6] at H
      have c6b0 : decide (x8_1 < (l0.length : Int)) = true := decide_eq_true c6
      clear c6
      by_cases c7 : x173000_1.length < 5864062014805
      ·rw [if_pos c7] at H
       have LMc7 := xm c7
       clear c7
       obtain ⟨y174, hy174⟩ : ∃ y_ : List (S138), y_ = (x173000_1 ++ [(⟨rd l0 x8_1, 0, false⟩ : S138)]) := ⟨_, rfl⟩
       replace H : (impl_newSnap.l0 k1 l0 l0 (l0.length : Int) (wrap64 (x8_1 + 1)) y174) = some (r1, r2) := by first | (rw [hy174]; with_reducible exact H) | (have H2_ := (Option.bind_some _ _).symm.trans H; rw [hy174]; with_reducible exact H2_) | (have H2_ := (Option.bind_some _ _).symm.trans H; with_reducible exact H2_) | with_reducible exact H | (rw [hy174]; exact H) | exact H
       have Ny174 := xm hy174
       clear hy174
       have H' := xm H
       clear H
       have p173 : 0 ≤ (x8_1 : Int) := of_decide_eq_true aB
       have q173 : x8_1 < (l0.length : Int) := of_decide_eq_true aB
       obtain ⟨ad173, e173, hx173_0⟩ := Kd.at_int HR0.out x8_1 p173 q173
       cases e173
       replace hx173_0 := (HB.out.cell (World.block_lt_of_cell? w _ hx173_0)).trans hx173_0
       replace p173 := eq_true p173
       replace q173 := eq_true q173
       have hnb8 := NB172_171.out
       have hnc8 := NB171_172.out
       obtain ⟨hcz9_0, hcz9_1, hfz9_0, hfz9_1⟩ := cz2 BK172.out
       go_wp2_with (first | ((with_reducible refine gate_builtin (b := .append) (xs := #[.tmp 13, .tmp 16]) rfl ?_); at_builtin; refine Kd.R_append k138 (w0 := w) w.heap.size rfl (.tmp 13) (.tmp 16) 82 138 (.agg #[(.int .i64 0), (.int .i64 0), (.bool false)]) 24 rfl Try.underlying82 info138 rfl (by decide) (by omega) u173000 x173000_1 (⟨rd l0 x8_1, 0, false⟩ : S138) [.int .i64 (rd l0 x8_1), .int .i64 0, .bool false] (fun _ => True) (fun _ => False) rfl rfl ?aP (fun _ hk => hk.elim) ?aF ?aO ?aB ?aS ?aL ?_; (case aP => exact k138_mkM _ _ _ (⟨rd l0 x8_1, 0, false⟩ : S138)); (case aB => exact bG); (case aF => exact (fun _ _ => trivial)); (case aO => exact (rB HO_173000)); (case aS => exact (xz bG)); (case aL => have := LMc7.out; omega); intro v175 w10 ho hb hg hat; rw [← Ny174.out] at ho; have n0_ := xm (blk_grown (kB BK171) hg (Kd.R_ne HO_173000.out BK171.out (by decide))); have n1_ := xm (blk_grown (kB BK172) hg (Kd.R_ne HO_173000.out BK172.out (by decide))); have n2_ := xm (hb); have n3_ := xm (ho); clear BK171; clear BK172; clear HB; clear HO_173000; have BK171 := n0_; have BK172 := n1_; have HB := n2_; have HO176 := n3_; clear n0_ n1_ n2_ n3_; clear ho hb hg hat; obtain ⟨Ao11, co11, eo11⟩ := Kd.R_slice HO176.out; subst eo11; obtain ⟨hcz12_0, hcz12_1, hfz12_0, hfz12_1⟩ := cz2 BK172.out))
       go_roundg k1
       case measure => have := HK1.out; omega
       case rel => exact ⟨(wrap64 (x8_1 + 1)), (y174), (.slice Ao11 y174.length co11), (by first | rfl | (simp; done) | (simp [*]; done)), H', ⟨by have := HK1.out; omega⟩, ⟨by (with_reducible repeat (first | apply Kd.R_alloc | apply Kd.R_drewN | apply Kd.R_drew)); exact Kd.R_mono (Kd.R_far (p := ⟨gb172, 0, none⟩) (Kd.R_types HO176.out BK172.out (by decide)) (fun _ hk => hk.2) (.slice Ao11 y174.length co11)) (fun _ hk => trivial)⟩, ⟨by (with_reducible repeat (first | refine xq ?_ _ | refine xr ?_ | refine xo ?_ _)); refine blk_far ?_ NB171_172.out _; (with_reducible repeat (first | refine xq ?_ _ | refine xr ?_ | refine xo ?_ _)); exact BK171.out⟩, ⟨by (with_reducible repeat (first | refine xq ?_ _ | refine xr ?_ | refine xo ?_ _)); refine blk_put (cs := #[u173000, .slice none 0 0]) ?_ 0 _ rfl; (with_reducible repeat (first | refine xq ?_ _ | refine xr ?_ | refine xo ?_ _)); exact BK172.out⟩, ⟨by repeat (first | (with_reducible first | exact HB.out | apply xa | apply xn | apply xd | refine xt ?_ GE171.out | refine xt ?_ GE172.out) | exact HB.out)⟩⟩
      ·rw [if_neg c7] at H
       exact absurd H (by simp)
     ·rw [if_neg c6] at H
      exact absurd H (by simp)
    ·rw [if_neg c5] at H
     exact absurd H (by simp)
   ·rw [if_neg c4] at H
    have c4b0 : decide (x8_1 < (l0.length : Int)) = false := decide_eq_false c4
    clear c4
    obtain ⟨ji13, hji13⟩ : ∃ j_ : Int, (wrap64 ((l0.length : Int) * (l0.length : Int))) = j_ := ⟨_, rfl⟩
    replace H : (if 0 ≤ (ji13) then (if (ji13 : Int).toNat ≤ 5026338869833 then (some (x173000_1, (List.replicate (ji13 : Int).toNat z140))) else (none)) else (none)) = some (r1, r2) := by first | (rw [hji13] at H; exact H) | (simp only [hji13] at H ⊢; exact H)
    have hji13w : (IntKind.i64.wrap ((l0.length : Int) * (l0.length : Int))) = ji13 := (i64_w _).trans hji13
    by_cases c14 : 0 ≤ (ji13)
    ·rw [if_pos c14] at H
     have c14b0 := eq_true c14
     have c14b1 : decide (0 ≤ (ji13)) = true := decide_eq_true c14
     clear c14
     by_cases c15 : (ji13 : Int).toNat ≤ 5026338869833
     ·rw [if_pos c15] at H
      have c15b0 := eq_true c15
      have c15b1 : decide ((ji13 : Int).toNat ≤ 5026338869833) = true := decide_eq_true c15
      clear c15
      obtain ⟨y177, hy177⟩ : ∃ y_ : List (S140), y_ = (List.replicate (ji13 : Int).toNat z140) := ⟨_, rfl⟩
      replace H : (some (x173000_1, y177)) = some (r1, r2) := by first | (rw [hy177]; with_reducible exact H) | (have H2_ := (Option.bind_some _ _).symm.trans H; rw [hy177]; with_reducible exact H2_) | (have H2_ := (Option.bind_some _ _).symm.trans H; with_reducible exact H2_) | with_reducible exact H | (rw [hy177]; exact H) | exact H
      have Ny177 := xm hy177
      clear hy177
      simp only [Option.some.injEq, Prod.mk.injEq] at H
      obtain ⟨rfl, rfl⟩ := H
      go_wp2_with (first | ((with_reducible refine gate_dst (N := 25) rfl ?_); refine Kd.S_make k140 _ 140 rfl (N := 25) rfl 83 _ _ rfl ji13 rfl rfl Try.underlying83 (.agg #[(.slice none 0 0), (.slice none 0 0), (.bool false)]) 56 info140 rfl (by decide) (by omega) z140 (ok := fun _ => True) (okp := fun _ => True) (k140_mkM _ _ _ z140 (Kd.R_nil _ _ _ _ _) (Kd.R_nil _ _ _ _ _)) (fun _ hk => hk) trivial (of_decide_eq_true aB) (Nat.le_trans (Nat.mul_le_mul_right _ (of_decide_eq_true aB : ji13.toNat ≤ 5026338869833)) (by omega)) (Below.refl _ _) (Nat.le_refl _) ?_; intro v178 w16 ho17 hb hg_ hnew_; clear hg_ hnew_; (first | rw [← Ny177.out] at ho17 | (simp only [Int.reduceToNat] at ho17; rw [← Ny177.out] at ho17)); have n0_ := xm (Kd.R_below (rB HO_173000) hb); have n1_ := xm (Kd.S_lower ho17 (xz bG)); have n2_ := xm (blk_below (kB BK171) hb); have n3_ := xm (blk_below (kB BK172) hb); have n4_ := xm (below_step bG hb); clear HO_173000; clear BK171; clear BK172; clear HB; have HO_173000 := n0_; have HO179 := n1_; have BK171 := n2_; have BK172 := n3_; have HB := n4_; clear n0_ n1_ n2_ n3_ n4_; clear hb ho17; obtain ⟨Ao18, co18, eo18⟩ := Kd.S_slice HO179.out; subst eo18; have hnb19 := NB172_171.out; have hnc19 := NB171_172.out; obtain ⟨hcz20_0, hcz20_1, hfz20_0, hfz20_1⟩ := cz2 BK172.out; obtain ⟨Ao21, co21, eo21⟩ := Kd.R_slice HO_173000.out; subst eo21; obtain ⟨hcz22_0, hcz22_1, hfz22_0, hfz22_1⟩ := cz2 BK171.out))
      refine bodyPost_ret (results_cell_row rfl _ _ gb171 85 #[.slice Ao21 x173000_1.length co21, .slice Ao18 y177.length co18] (0, 0) _ rfl (by (with_reducible repeat (first | refine xq ?_ _ | refine xr ?_ | refine xo ?_ _)); refine blk_put (cs := #[.slice Ao21 x173000_1.length co21, .slice none 0 0]) ?_ 1 _ rfl; (with_reducible repeat (first | refine xq ?_ _ | refine xr ?_ | refine xo ?_ _)); refine blk_put (cs := #[.slice none 0 0, .slice none 0 0]) ?_ 0 _ rfl; (with_reducible repeat (first | refine xq ?_ _ | refine xr ?_ | refine xo ?_ _)); refine blk_far ?_ NB171_172.out _; (with_reducible repeat (first | refine xq ?_ _ | refine xr ?_ | refine xo ?_ _)); exact BK171.out) Try.underlying85 rfl (by kernel_rfl)) rfl ?_
      exact ⟨_, _, by first | rfl | (simp [errW_none, errW_some] <;> rfl) | (simp only [← hji13]; first | rfl | (simp [errW_none, errW_some] <;> rfl)) | (simp [*, errW_none, errW_some] <;> rfl), by (with_reducible repeat (first | apply Kd.R_alloc | apply Kd.R_drewN | apply Kd.R_drew)); exact Kd.R_mono (Kd.R_far (p := ⟨gb171, 1, none⟩) (Kd.R_far (p := ⟨gb171, 0, none⟩) (Kd.R_far (p := ⟨gb172, 1, none⟩) (Kd.R_types (Kd.R_types HO_173000.out BK172.out (by decide)) BK171.out (by decide)) (fun _ hk => hk.1.2) (.slice Ao18 y177.length co18)) (fun _ hk => hk.2) (.slice Ao21 x173000_1.length co21)) (fun _ hk => hk.2) (.slice Ao18 y177.length co18)) (fun _ hk => trivial), by (with_reducible repeat (first | apply Kd.S_alloc | apply Kd.S_drewN | apply Kd.S_drew)); exact Kd.S_mono (Kd.S_far (p := ⟨gb171, 1, none⟩) (Kd.S_far (p := ⟨gb171, 0, none⟩) (Kd.S_far (p := ⟨gb172, 1, none⟩) (Kd.S_types (Kd.S_types HO179.out BK172.out (by decide)) BK171.out (by decide)) (fun _ hk => hk.1.2) (.slice Ao18 y177.length co18)) (fun _ hk => hk.2) (.slice Ao21 x173000_1.length co21)) (fun _ hk => hk.2) (.slice Ao18 y177.length co18)) (fun _ hk => trivial), by repeat (first | (with_reducible first | exact HB.out | apply xa | apply xn | apply xd | refine xt ?_ GE171.out | refine xt ?_ GE172.out) | exact HB.out)⟩
     ·rw [if_neg c15] at H
      exact absurd H (by simp)
    ·rw [if_neg c14] at H
     exact absurd H (by simp)

/-! ### impl_NewSnap: function 77 -/
def impl_NewSnap.f (k : Nat) (l0 : List Int) : Option ((List (S138)) × (List (S140)) × Bool) := (impl_within.f (l0.length : Int) 2 4).bind fun t181 => (if t181 = true then ((impl_newSnap.f k l0).bind fun bt182 => ((impl_GoodSnap.f k bt182.1 bt182.2).bind fun t189 => (if t189 = true then (some (bt182.1, bt182.2, true)) else (some (([] : List (S138)), ([] : List (S140)), false))))) else (some (([] : List (S138)), ([] : List (S140)), false)))
theorem impl_NewSnap.mono : ∀ a0 k, LeO (impl_NewSnap.f k a0) (impl_NewSnap.f (k + 1) a0) := by
 intro a0 k
 unfold impl_NewSnap.f
 repeat' first
   | (with_reducible exact impl_GoodSnap.mono _ _ _)
   | (with_reducible exact impl_newSnap.mono _ _)
   | (with_reducible exact LeO.refl _)
   | (with_reducible exact LeO.none _)
   | (with_reducible refine LeO.ite ?_ ?_)
   | (with_reducible refine LeO.bind ?_ (fun _ => ?_))
   | exact impl_GoodSnap.mono _ _ _
   | exact impl_newSnap.mono _ _
   | exact LeO.none _
   | refine LeO.ite ?_ ?_
   | refine LeO.bind ?_ (fun _ => ?_)
set_option maxHeartbeats 8000000 in
set_option maxRecDepth 100000 in
theorem impl_NewSnap.calls (k : Nat) (A0 : Option Addr) (c0 : Nat) (l0 : List Int) (r1 : List (S138)) (r2 : List (S140)) (r3 : Bool) (w : World) (hr0 : Kd.C (Kd.int .i64) w A0 l0.length l0) (hc0 : l0.length ≤ c0) (h : impl_NewSnap.f k l0 = some (r1, r2, r3)) :
  Calls Try.prog 77 #[.slice A0 l0.length c0] w fun e w' => ∃ v0_ v1_ : Value, e = .returned (.tuple #[.agg #[v0_, v1_], .bool r3]) ∧ Kd.R k138 138 w' w.heap.size (fun _ => True) v0_ r1 ∧ Kd.S k140 140 w' w.heap.size (fun _ => True) v1_ r2 ∧ Below w.heap.size w w' := by
 have hu85 := Try.underlying85
 have HR0 := xm hr0
 have HC0 := xm hc0
 clear hr0 hc0
 have HB := xm (Below.refl w.heap.size w)
 have H : ((impl_within.f (l0.length : Int) 2 4).bind fun t181 => (if t181 = true then ((impl_newSnap.f k l0).bind fun bt182 => ((impl_GoodSnap.f k bt182.1 bt182.2).bind fun t189 => (if t189 = true then (some (bt182.1, bt182.2, true)) else (some (([] : List (S138)), ([] : List (S140)), false))))) else (some (([] : List (S138)), ([] : List (S140)), false)))) = some (r1, r2, r3) := h
 clear h
 replace H := Option.bind_eq_some_iff.mp H
 obtain ⟨t181, A20, H⟩ := H
 replace H : (if t181 = true then ((impl_newSnap.f k l0).bind fun bt182 => ((impl_GoodSnap.f k bt182.1 bt182.2).bind fun t189 => (if t189 = true then (some (bt182.1, bt182.2, true)) else (some (([] : List (S138)), ([] : List (S140)), false))))) else (some (([] : List (S138)), ([] : List (S140)), false))) = some (r1, r2, r3) := H
 have A2 := xm A20
 clear A20
 by_cases c3 : t181 = true
 ·subst c3
  have H1 : ((impl_newSnap.f k l0).bind fun bt182 => ((impl_GoodSnap.f k bt182.1 bt182.2).bind fun t189 => (if t189 = true then (some (bt182.1, bt182.2, true)) else (some (([] : List (S138)), ([] : List (S140)), false))))) = some (r1, r2, r3) := by first | (with_reducible rfl) | (rw [if_pos rfl] at H; exact H)
  clear H
  have H := H1
  clear H1
  replace H := Option.bind_eq_some_iff.mp H
  obtain ⟨⟨t182, t185⟩, A40, H⟩ := H
  replace H : ((impl_GoodSnap.f k t182 t185).bind fun t189 => (if t189 = true then (some (t182, t185, true)) else (some (([] : List (S138)), ([] : List (S140)), false)))) = some (r1, r2, r3) := H
  have A4 := xm A40
  clear A40
  replace H := Option.bind_eq_some_iff.mp H
  obtain ⟨t189, A50, H⟩ := H
  replace H : (if t189 = true then (some (t182, t185, true)) else (some (([] : List (S138)), ([] : List (S140)), false))) = some (r1, r2, r3) := H
  have A5 := xm A50
  clear A50
  by_cases c6 : t189 = true
  ·subst c6
   have H1 : (some (t182, t185, true)) = some (r1, r2, r3) := by first | (with_reducible rfl) | (rw [if_pos rfl] at H; exact H)
   clear H
   have H := H1
   clear H1
   simp only [Option.some.injEq, Prod.mk.injEq] at H
   obtain ⟨rfl, rfl, rfl⟩ := H
   go_enter Try.func77, Try.ntmps77
   go_wp2_with (first | ((with_reducible refine gate_dst (N := 2) rfl ?_); refine box_event ?hg (N := 2) ?hd (cs := #[.slice none 0 0, .slice none 0 0]) (t := 85) ?hr ?_; (case hd => rfl); (case hg => rfl); (case hr => exact zB); intro gb180 hg w7 hbox hb; have n0_ := xm (below_step bB hb); have n1_ := xm (hbox); have n2_ := xm ((by rw [hg]; exact (xz bB) : w.heap.size ≤ gb180)); have n3_ := xm ((by rw [hg]; exact (xz bB) : w.heap.size ≤ gb180)); clear HB; have HB := n0_; have BK180 := n1_; have GW180 := n2_; have GE180 := n3_; clear n0_ n1_ n2_ n3_; clear hb hbox hg) | ((with_reducible refine gate_callee (f := 86) rfl ?_); refine goesL_ (some 7) rfl rfl Try.func86 (by kernel_rfl) rfl #[.int .i64 (l0.length : Int), .int .i64 2, .int .i64 4] rfl mB ?_; (with_reducible refine (impl_within.calls (l0.length : Int) 2 4 true _ A2.out).mono ?_); rintro e w' ⟨rfl, ⟨nd, rfl⟩⟩; refine ⟨_, rfl, ?_⟩; (first | (rw [drewN_self w7]; generalize hq_ : World.drewN w7 _ = w7; have n0_ : Aside0 (w7.heap[gb180]? = some (.cells #[.slice none 0 0, .slice none 0 0] 85 (0, 0))) := ⟨by rw [← hq_]; exact (kB BK180)⟩; have n1_ : Aside0 (Below w.heap.size w w7) := ⟨by rw [← hq_]; exact bG⟩; clear BK180 HB hq_; have BK180 := n0_; have HB := n1_; clear n0_ n1_) | (have n0_ : Aside0 (w7.heap[gb180]? = some (.cells #[.slice none 0 0, .slice none 0 0] 85 (0, 0))) := ⟨(kB BK180)⟩; have n1_ : Aside0 (Below w.heap.size w w7) := ⟨bG⟩; clear BK180 HB; have BK180 := n0_; have HB := n1_; clear n0_ n1_))) | ((with_reducible refine gate_callee (f := 137) rfl ?_); refine goesL_ (some 11) rfl rfl Try.func137 (by kernel_rfl) rfl #[.slice A0 l0.length c0] rfl mB ?_; (with_reducible refine (impl_newSnap.calls k _ _ l0 t182 t185 _ ?side1 ?side2 A4.out).mono ?_); (case side1 => exact cB (Kd.C_below HR0.out HB.out)); (case side2 => exact HC0.out); rintro e w8 ⟨v183, v186, rfl, ho0, ho1, hb⟩; refine ⟨_, rfl, ?_⟩; have n0_ := xm (Kd.R_lower ho0 (xz bG)); have n1_ := xm (Kd.S_lower ho1 (xz bG)); have n2_ := xm (blk_below (kB BK180) hb); have n3_ := xm (below_step bG hb); clear BK180; clear HB; have HO184 := n0_; have HO187 := n1_; have BK180 := n2_; have HB := n3_; clear n0_ n1_ n2_ n3_; (try clear hb); (try clear hb2); (try clear hk); (try clear hi); (try clear ho0); (try clear ho1)) | ((with_reducible refine gate_dst (N := 4) rfl ?_); refine box_event ?hg (N := 4) ?hd (cs := #[.slice none 0 0, .slice none 0 0]) (t := 85) ?hr ?_; (case hd => rfl); (case hg => rfl); (case hr => exact zB); intro gb188 hg w9 hbox hb; have n0_ := xm (Kd.R_below (rB HO184) hb); have n1_ := xm (Kd.S_below (by (with_reducible repeat (first | apply Kd.S_alloc | apply Kd.S_drewN | apply Kd.S_drew)); exact HO187.out) hb); have n2_ := xm (blk_below (kB BK180) hb); have n3_ := xm (below_step bG hb); have n4_ := xm (hbox); have n5_ := xm ((by rw [hg]; exact (xz bG) : w.heap.size ≤ gb188)); have n6_ := xm ((by rw [hg]; exact (xz bG) : w.heap.size ≤ gb188)); have n7_ := xm ((by rw [hg]; exact Nat.ne_of_lt (blk_lt (kB BK180)) : gb180 ≠ gb188)); have n8_ := xm ((by rw [hg]; exact Nat.ne_of_gt (blk_lt (kB BK180)) : gb188 ≠ gb180)); clear HO184; clear HO187; clear BK180; clear HB; have HO184 := n0_; have HO187 := n1_; have BK180 := n2_; have HB := n3_; have BK188 := n4_; have GW188 := n5_; have GE188 := n6_; have NB180_188 := n7_; have NB188_180 := n8_; clear n0_ n1_ n2_ n3_ n4_ n5_ n6_ n7_ n8_; clear hb hbox hg; obtain ⟨Ao10, co10, eo10⟩ := Kd.R_slice HO184.out; subst eo10; have hnb11 := NB188_180.out; have hnc11 := NB180_188.out; obtain ⟨hcz12_0, hcz12_1, hfz12_0, hfz12_1⟩ := cz2 BK188.out; obtain ⟨Ao13, co13, eo13⟩ := Kd.S_slice HO187.out; subst eo13) | ((with_reducible refine gate_callee (f := 58) rfl ?_); refine goesL_ (some 13) rfl rfl Try.func58 (by kernel_rfl) rfl #[.agg #[.slice Ao10 t182.length co10, .slice Ao13 t185.length co13]] rfl mB ?_; (with_reducible refine (impl_GoodSnap.calls k _ _ t182 _ _ t185 true _ ?side1 ?side2 ?side3 ?side4 A5.out).mono ?_); (case side1 => refine (Kd.R_reads' (e := 138) (base := w.heap.size) (ok := fun k_ => True) (n := t182.length) (c := co10) ?_).2.2; exact (by (with_reducible repeat (first | apply Kd.R_alloc | apply Kd.R_drewN | apply Kd.R_drew)); exact (Kd.R_mono (Kd.R_far (p := ⟨gb188, 1, none⟩) (Kd.R_far (p := ⟨gb188, 0, none⟩) (Kd.R_types HO184.out BK188.out (by decide)) (fun _ hk => hk.2) (.slice Ao10 t182.length co10)) (fun _ hk => hk.2) (.slice Ao13 t185.length co13)) (fun _ h_ => h_.1)))); (case side2 => exact (Kd.R_reads' HO184.out).2.1); (case side3 => refine (Kd.S_reads' (e := 140) (base := w.heap.size) (ok := fun k_ => True) (n := t185.length) (c := co13) ?_).2.2; exact (by (with_reducible repeat (first | apply Kd.S_alloc | apply Kd.S_drewN | apply Kd.S_drew)); exact (Kd.S_mono (Kd.S_far (p := ⟨gb188, 1, none⟩) (Kd.S_far (p := ⟨gb188, 0, none⟩) (Kd.S_types HO187.out BK188.out (by decide)) (fun _ hk => hk.2) (.slice Ao10 t182.length co10)) (fun _ hk => hk.2) (.slice Ao13 t185.length co13)) (fun _ h_ => h_.1)))); (case side4 => exact (Kd.S_reads' HO187.out).2.1); rintro e w14 ⟨rfl, hb⟩; refine ⟨_, rfl, ?_⟩; have n0_ := xm (Kd.R_below (by (with_reducible repeat (first | apply Kd.R_alloc | apply Kd.R_drewN | apply Kd.R_drew)); exact (Kd.R_mono (Kd.R_far (p := ⟨gb188, 1, none⟩) (Kd.R_far (p := ⟨gb188, 0, none⟩) (Kd.R_types HO184.out BK188.out (by decide)) (fun _ hk => hk.2) (.slice Ao10 t182.length co10)) (fun _ hk => hk.2) (.slice Ao13 t185.length co13)) (fun _ h_ => h_.1))) hb); have n1_ := xm (Kd.S_below (by (with_reducible repeat (first | apply Kd.S_alloc | apply Kd.S_drewN | apply Kd.S_drew)); exact (Kd.S_mono (Kd.S_far (p := ⟨gb188, 1, none⟩) (Kd.S_far (p := ⟨gb188, 0, none⟩) (Kd.S_types HO187.out BK188.out (by decide)) (fun _ hk => hk.2) (.slice Ao10 t182.length co10)) (fun _ hk => hk.2) (.slice Ao13 t185.length co13)) (fun _ h_ => h_.1))) hb); have n2_ := xm (blk_below (g := gb180) (o := .cells #[.slice none 0 0, .slice none 0 0] 85 (0, 0)) (by (with_reducible repeat (first | refine xq ?_ _ | refine xr ?_ | refine xo ?_ _)); refine blk_far ?_ NB180_188.out _; (with_reducible repeat (first | refine xq ?_ _ | refine xr ?_ | refine xo ?_ _)); refine blk_far ?_ NB180_188.out _; (with_reducible repeat (first | refine xq ?_ _ | refine xr ?_ | refine xo ?_ _)); exact BK180.out) hb); have n3_ := xm (blk_below (g := gb188) (o := .cells #[.slice Ao10 t182.length co10, .slice Ao13 t185.length co13] 85 (0, 0)) (by (with_reducible repeat (first | refine xq ?_ _ | refine xr ?_ | refine xo ?_ _)); refine blk_put (cs := #[.slice Ao10 t182.length co10, .slice none 0 0]) ?_ 1 _ rfl; (with_reducible repeat (first | refine xq ?_ _ | refine xr ?_ | refine xo ?_ _)); refine blk_put (cs := #[.slice none 0 0, .slice none 0 0]) ?_ 0 _ rfl; (with_reducible repeat (first | refine xq ?_ _ | refine xr ?_ | refine xo ?_ _)); exact BK188.out) hb); have n4_ := xm (below_step bG hb); clear HO184; clear HO187; clear BK180; clear BK188; clear HB; have HO184 := n0_; have HO187 := n1_; have BK180 := n2_; have BK188 := n3_; have HB := n4_; clear n0_ n1_ n2_ n3_ n4_; (try clear hb); (try clear hb2); (try clear hk); (try clear hi); obtain ⟨hcz15_0, hcz15_1, hfz15_0, hfz15_1⟩ := cz2 BK188.out; obtain ⟨hcz16_0, hcz16_1, hfz16_0, hfz16_1⟩ := cz2 BK180.out))
   refine bodyPost_ret (results_ct rfl _ _ gb180 85 #[.slice Ao10 t182.length co10, .slice Ao13 t185.length co13] (0, 0) _ rfl (by (with_reducible repeat (first | refine xq ?_ _ | refine xr ?_ | refine xo ?_ _)); refine blk_put (cs := #[.slice Ao10 t182.length co10, .slice none 0 0]) ?_ 1 _ rfl; (with_reducible repeat (first | refine xq ?_ _ | refine xr ?_ | refine xo ?_ _)); refine blk_put (cs := #[.slice none 0 0, .slice none 0 0]) ?_ 0 _ rfl; (with_reducible repeat (first | refine xq ?_ _ | refine xr ?_ | refine xo ?_ _)); exact BK180.out) Try.underlying85 rfl (by kernel_rfl)) rfl ?_
   exact ⟨_, _, by first | rfl | (simp [errW_none, errW_some] <;> rfl) | (simp [*, errW_none, errW_some] <;> rfl), by (with_reducible repeat (first | apply Kd.R_alloc | apply Kd.R_drewN | apply Kd.R_drew)); exact Kd.R_mono (Kd.R_far (p := ⟨gb180, 1, none⟩) (Kd.R_far (p := ⟨gb180, 0, none⟩) (Kd.R_types HO184.out BK180.out (by decide)) (fun _ hk => hk.2) (.slice Ao10 t182.length co10)) (fun _ hk => hk.2) (.slice Ao13 t185.length co13)) (fun _ hk => trivial), by (with_reducible repeat (first | apply Kd.S_alloc | apply Kd.S_drewN | apply Kd.S_drew)); exact Kd.S_mono (Kd.S_far (p := ⟨gb180, 1, none⟩) (Kd.S_far (p := ⟨gb180, 0, none⟩) (Kd.S_types HO187.out BK180.out (by decide)) (fun _ hk => hk.2) (.slice Ao10 t182.length co10)) (fun _ hk => hk.2) (.slice Ao13 t185.length co13)) (fun _ hk => trivial), by repeat (first | (with_reducible first | exact HB.out | apply xa | apply xn | apply xd | refine xt ?_ GE180.out | refine xt ?_ GE188.out) | exact HB.out)⟩
  ·replace c6 := Bool.eq_false_iff.mpr c6
   subst c6
   have H1 : (some (([] : List (S138)), ([] : List (S140)), false)) = some (r1, r2, r3) := by first | (with_reducible rfl) | (rw [if_neg (show ¬ (false = true) by decide)] at H; exact H)
   clear H
   have H := H1
   clear H1
   simp only [Option.some.injEq, Prod.mk.injEq] at H
   obtain ⟨rfl, rfl, rfl⟩ := H
   go_enter Try.func77, Try.ntmps77
   go_wp2_with (first | ((with_reducible refine gate_dst (N := 2) rfl ?_); refine box_event ?hg (N := 2) ?hd (cs := #[.slice none 0 0, .slice none 0 0]) (t := 85) ?hr ?_; (case hd => rfl); (case hg => rfl); (case hr => exact zB); intro gb180 hg w17 hbox hb; have n0_ := xm (below_step bB hb); have n1_ := xm (hbox); have n2_ := xm ((by rw [hg]; exact (xz bB) : w.heap.size ≤ gb180)); have n3_ := xm ((by rw [hg]; exact (xz bB) : w.heap.size ≤ gb180)); clear HB; have HB := n0_; have BK180 := n1_; have GW180 := n2_; have GE180 := n3_; clear n0_ n1_ n2_ n3_; clear hb hbox hg) | ((with_reducible refine gate_callee (f := 86) rfl ?_); refine goesL_ (some 7) rfl rfl Try.func86 (by kernel_rfl) rfl #[.int .i64 (l0.length : Int), .int .i64 2, .int .i64 4] rfl mB ?_; (with_reducible refine (impl_within.calls (l0.length : Int) 2 4 true _ A2.out).mono ?_); rintro e w' ⟨rfl, ⟨nd, rfl⟩⟩; refine ⟨_, rfl, ?_⟩; (first | (rw [drewN_self w17]; generalize hq_ : World.drewN w17 _ = w17; have n0_ : Aside0 (w17.heap[gb180]? = some (.cells #[.slice none 0 0, .slice none 0 0] 85 (0, 0))) := ⟨by rw [← hq_]; exact (kB BK180)⟩; have n1_ : Aside0 (Below w.heap.size w w17) := ⟨by rw [← hq_]; exact bG⟩; clear BK180 HB hq_; have BK180 := n0_; have HB := n1_; clear n0_ n1_) | (have n0_ : Aside0 (w17.heap[gb180]? = some (.cells #[.slice none 0 0, .slice none 0 0] 85 (0, 0))) := ⟨(kB BK180)⟩; have n1_ : Aside0 (Below w.heap.size w w17) := ⟨bG⟩; clear BK180 HB; have BK180 := n0_; have HB := n1_; clear n0_ n1_))) | ((with_reducible refine gate_callee (f := 137) rfl ?_); refine goesL_ (some 11) rfl rfl Try.func137 (by kernel_rfl) rfl #[.slice A0 l0.length c0] rfl mB ?_; (with_reducible refine (impl_newSnap.calls k _ _ l0 t182 t185 _ ?side1 ?side2 A4.out).mono ?_); (case side1 => exact cB (Kd.C_below HR0.out HB.out)); (case side2 => exact HC0.out); rintro e w18 ⟨v183, v186, rfl, ho0, ho1, hb⟩; refine ⟨_, rfl, ?_⟩; have n0_ := xm (Kd.R_lower ho0 (xz bG)); have n1_ := xm (Kd.S_lower ho1 (xz bG)); have n2_ := xm (blk_below (kB BK180) hb); have n3_ := xm (below_step bG hb); clear BK180; clear HB; have HO184 := n0_; have HO187 := n1_; have BK180 := n2_; have HB := n3_; clear n0_ n1_ n2_ n3_; (try clear hb); (try clear hb2); (try clear hk); (try clear hi); (try clear ho0); (try clear ho1)) | ((with_reducible refine gate_dst (N := 4) rfl ?_); refine box_event ?hg (N := 4) ?hd (cs := #[.slice none 0 0, .slice none 0 0]) (t := 85) ?hr ?_; (case hd => rfl); (case hg => rfl); (case hr => exact zB); intro gb188 hg w19 hbox hb; have n0_ := xm (Kd.R_below (rB HO184) hb); have n1_ := xm (Kd.S_below (by (with_reducible repeat (first | apply Kd.S_alloc | apply Kd.S_drewN | apply Kd.S_drew)); exact HO187.out) hb); have n2_ := xm (blk_below (kB BK180) hb); have n3_ := xm (below_step bG hb); have n4_ := xm (hbox); have n5_ := xm ((by rw [hg]; exact (xz bG) : w.heap.size ≤ gb188)); have n6_ := xm ((by rw [hg]; exact (xz bG) : w.heap.size ≤ gb188)); have n7_ := xm ((by rw [hg]; exact Nat.ne_of_lt (blk_lt (kB BK180)) : gb180 ≠ gb188)); have n8_ := xm ((by rw [hg]; exact Nat.ne_of_gt (blk_lt (kB BK180)) : gb188 ≠ gb180)); clear HO184; clear HO187; clear BK180; clear HB; have HO184 := n0_; have HO187 := n1_; have BK180 := n2_; have HB := n3_; have BK188 := n4_; have GW188 := n5_; have GE188 := n6_; have NB180_188 := n7_; have NB188_180 := n8_; clear n0_ n1_ n2_ n3_ n4_ n5_ n6_ n7_ n8_; clear hb hbox hg; obtain ⟨Ao20, co20, eo20⟩ := Kd.R_slice HO184.out; subst eo20; have hnb21 := NB188_180.out; have hnc21 := NB180_188.out; obtain ⟨hcz22_0, hcz22_1, hfz22_0, hfz22_1⟩ := cz2 BK188.out; obtain ⟨Ao23, co23, eo23⟩ := Kd.S_slice HO187.out; subst eo23) | ((with_reducible refine gate_callee (f := 58) rfl ?_); refine goesL_ (some 13) rfl rfl Try.func58 (by kernel_rfl) rfl #[.agg #[.slice Ao20 t182.length co20, .slice Ao23 t185.length co23]] rfl mB ?_; (with_reducible refine (impl_GoodSnap.calls k _ _ t182 _ _ t185 false _ ?side1 ?side2 ?side3 ?side4 A5.out).mono ?_); (case side1 => refine (Kd.R_reads' (e := 138) (base := w.heap.size) (ok := fun k_ => True) (n := t182.length) (c := co20) ?_).2.2; exact (by (with_reducible repeat (first | apply Kd.R_alloc | apply Kd.R_drewN | apply Kd.R_drew)); exact (Kd.R_mono (Kd.R_far (p := ⟨gb188, 1, none⟩) (Kd.R_far (p := ⟨gb188, 0, none⟩) (Kd.R_types HO184.out BK188.out (by decide)) (fun _ hk => hk.2) (.slice Ao20 t182.length co20)) (fun _ hk => hk.2) (.slice Ao23 t185.length co23)) (fun _ h_ => h_.1)))); (case side2 => exact (Kd.R_reads' HO184.out).2.1); (case side3 => refine (Kd.S_reads' (e := 140) (base := w.heap.size) (ok := fun k_ => True) (n := t185.length) (c := co23) ?_).2.2; exact (by (with_reducible repeat (first | apply Kd.S_alloc | apply Kd.S_drewN | apply Kd.S_drew)); exact (Kd.S_mono (Kd.S_far (p := ⟨gb188, 1, none⟩) (Kd.S_far (p := ⟨gb188, 0, none⟩) (Kd.S_types HO187.out BK188.out (by decide)) (fun _ hk => hk.2) (.slice Ao20 t182.length co20)) (fun _ hk => hk.2) (.slice Ao23 t185.length co23)) (fun _ h_ => h_.1)))); (case side4 => exact (Kd.S_reads' HO187.out).2.1); rintro e w24 ⟨rfl, hb⟩; refine ⟨_, rfl, ?_⟩; have n0_ := xm (Kd.R_below (by (with_reducible repeat (first | apply Kd.R_alloc | apply Kd.R_drewN | apply Kd.R_drew)); exact (Kd.R_mono (Kd.R_far (p := ⟨gb188, 1, none⟩) (Kd.R_far (p := ⟨gb188, 0, none⟩) (Kd.R_types HO184.out BK188.out (by decide)) (fun _ hk => hk.2) (.slice Ao20 t182.length co20)) (fun _ hk => hk.2) (.slice Ao23 t185.length co23)) (fun _ h_ => h_.1))) hb); have n1_ := xm (Kd.S_below (by (with_reducible repeat (first | apply Kd.S_alloc | apply Kd.S_drewN | apply Kd.S_drew)); exact (Kd.S_mono (Kd.S_far (p := ⟨gb188, 1, none⟩) (Kd.S_far (p := ⟨gb188, 0, none⟩) (Kd.S_types HO187.out BK188.out (by decide)) (fun _ hk => hk.2) (.slice Ao20 t182.length co20)) (fun _ hk => hk.2) (.slice Ao23 t185.length co23)) (fun _ h_ => h_.1))) hb); have n2_ := xm (blk_below (g := gb180) (o := .cells #[.slice none 0 0, .slice none 0 0] 85 (0, 0)) (by (with_reducible repeat (first | refine xq ?_ _ | refine xr ?_ | refine xo ?_ _)); refine blk_far ?_ NB180_188.out _; (with_reducible repeat (first | refine xq ?_ _ | refine xr ?_ | refine xo ?_ _)); refine blk_far ?_ NB180_188.out _; (with_reducible repeat (first | refine xq ?_ _ | refine xr ?_ | refine xo ?_ _)); exact BK180.out) hb); have n3_ := xm (blk_below (g := gb188) (o := .cells #[.slice Ao20 t182.length co20, .slice Ao23 t185.length co23] 85 (0, 0)) (by (with_reducible repeat (first | refine xq ?_ _ | refine xr ?_ | refine xo ?_ _)); refine blk_put (cs := #[.slice Ao20 t182.length co20, .slice none 0 0]) ?_ 1 _ rfl; (with_reducible repeat (first | refine xq ?_ _ | refine xr ?_ | refine xo ?_ _)); refine blk_put (cs := #[.slice none 0 0, .slice none 0 0]) ?_ 0 _ rfl; (with_reducible repeat (first | refine xq ?_ _ | refine xr ?_ | refine xo ?_ _)); exact BK188.out) hb); have n4_ := xm (below_step bG hb); clear HO184; clear HO187; clear BK180; clear BK188; clear HB; have HO184 := n0_; have HO187 := n1_; have BK180 := n2_; have BK188 := n3_; have HB := n4_; clear n0_ n1_ n2_ n3_ n4_; (try clear hb); (try clear hb2); (try clear hk); (try clear hi); obtain ⟨hcz25_0, hcz25_1, hfz25_0, hfz25_1⟩ := cz2 BK180.out))
   refine bodyPost_ret (results_ct rfl _ _ gb180 85 #[.slice none 0 0, .slice none 0 0] (0, 0) _ rfl (by (with_reducible repeat (first | refine xq ?_ _ | refine xr ?_ | refine xo ?_ _)); refine blk_put (cs := #[.slice none 0 0, .slice none 0 0]) ?_ 1 _ rfl; (with_reducible repeat (first | refine xq ?_ _ | refine xr ?_ | refine xo ?_ _)); refine blk_put (cs := #[.slice none 0 0, .slice none 0 0]) ?_ 0 _ rfl; (with_reducible repeat (first | refine xq ?_ _ | refine xr ?_ | refine xo ?_ _)); exact BK180.out) Try.underlying85 rfl (by kernel_rfl)) rfl ?_
   exact ⟨_, _, by first | rfl | (simp [errW_none, errW_some] <;> rfl) | (simp [*, errW_none, errW_some] <;> rfl), by first | exact Kd.R_nil _ _ _ _ _ | exact Kd.N_nil _ _ _ _ _ | exact Kd.V_nil _ _ _ _ _ | exact Kd.Q_nil _ _ _ _ _ | exact Kd.S_nil _ _ _ _ _, by first | exact Kd.S_nil _ _ _ _ _ | exact Kd.N_nil _ _ _ _ _ | exact Kd.V_nil _ _ _ _ _ | exact Kd.Q_nil _ _ _ _ _ | exact Kd.R_nil _ _ _ _ _, by repeat (first | (with_reducible first | exact HB.out | apply xa | apply xn | apply xd | refine xt ?_ GE180.out | refine xt ?_ GE188.out) | exact HB.out)⟩
 ·replace c3 := Bool.eq_false_iff.mpr c3
  subst c3
  have H1 : (some (([] : List (S138)), ([] : List (S140)), false)) = some (r1, r2, r3) := by first | (with_reducible rfl) | (rw [if_neg (show ¬ (false = true) by decide)] at H; exact H)
  clear H
  have H := H1
  clear H1
  simp only [Option.some.injEq, Prod.mk.injEq] at H
  obtain ⟨rfl, rfl, rfl⟩ := H
  go_enter Try.func77, Try.ntmps77
  go_wp2_with (first | ((with_reducible refine gate_dst (N := 2) rfl ?_); refine box_event ?hg (N := 2) ?hd (cs := #[.slice none 0 0, .slice none 0 0]) (t := 85) ?hr ?_; (case hd => rfl); (case hg => rfl); (case hr => exact zB); intro gb180 hg w26 hbox hb; have n0_ := xm (below_step bB hb); have n1_ := xm (hbox); have n2_ := xm ((by rw [hg]; exact (xz bB) : w.heap.size ≤ gb180)); have n3_ := xm ((by rw [hg]; exact (xz bB) : w.heap.size ≤ gb180)); clear HB; have HB := n0_; have BK180 := n1_; have GW180 := n2_; have GE180 := n3_; clear n0_ n1_ n2_ n3_; clear hb hbox hg) | ((with_reducible refine gate_callee (f := 86) rfl ?_); refine goesL_ (some 7) rfl rfl Try.func86 (by kernel_rfl) rfl #[.int .i64 (l0.length : Int), .int .i64 2, .int .i64 4] rfl mB ?_; (with_reducible refine (impl_within.calls (l0.length : Int) 2 4 false _ A2.out).mono ?_); rintro e w' ⟨rfl, ⟨nd, rfl⟩⟩; refine ⟨_, rfl, ?_⟩; (first | (rw [drewN_self w26]; generalize hq_ : World.drewN w26 _ = w26; have n0_ : Aside0 (w26.heap[gb180]? = some (.cells #[.slice none 0 0, .slice none 0 0] 85 (0, 0))) := ⟨by rw [← hq_]; exact (kB BK180)⟩; have n1_ : Aside0 (Below w.heap.size w w26) := ⟨by rw [← hq_]; exact bG⟩; clear BK180 HB hq_; have BK180 := n0_; have HB := n1_; clear n0_ n1_) | (have n0_ : Aside0 (w26.heap[gb180]? = some (.cells #[.slice none 0 0, .slice none 0 0] 85 (0, 0))) := ⟨(kB BK180)⟩; have n1_ : Aside0 (Below w.heap.size w w26) := ⟨bG⟩; clear BK180 HB; have BK180 := n0_; have HB := n1_; clear n0_ n1_)); obtain ⟨hcz27_0, hcz27_1, hfz27_0, hfz27_1⟩ := cz2 BK180.out))
  refine bodyPost_ret (results_ct rfl _ _ gb180 85 #[.slice none 0 0, .slice none 0 0] (0, 0) _ rfl (by (with_reducible repeat (first | refine xq ?_ _ | refine xr ?_ | refine xo ?_ _)); refine blk_put (cs := #[.slice none 0 0, .slice none 0 0]) ?_ 1 _ rfl; (with_reducible repeat (first | refine xq ?_ _ | refine xr ?_ | refine xo ?_ _)); refine blk_put (cs := #[.slice none 0 0, .slice none 0 0]) ?_ 0 _ rfl; (with_reducible repeat (first | refine xq ?_ _ | refine xr ?_ | refine xo ?_ _)); exact BK180.out) Try.underlying85 rfl (by kernel_rfl)) rfl ?_
  exact ⟨_, _, by first | rfl | (simp [errW_none, errW_some] <;> rfl) | (simp [*, errW_none, errW_some] <;> rfl), by first | exact Kd.R_nil _ _ _ _ _ | exact Kd.N_nil _ _ _ _ _ | exact Kd.V_nil _ _ _ _ _ | exact Kd.Q_nil _ _ _ _ _ | exact Kd.S_nil _ _ _ _ _, by first | exact Kd.S_nil _ _ _ _ _ | exact Kd.N_nil _ _ _ _ _ | exact Kd.V_nil _ _ _ _ _ | exact Kd.Q_nil _ _ _ _ _ | exact Kd.R_nil _ _ _ _ _, by repeat (first | (with_reducible first | exact HB.out | apply xa | apply xn | apply xd | refine xt ?_ GE180.out) | exact HB.out)⟩

/-! ### laws_markProcS: function 138 -/
def laws_markProcS.l0 : Nat → List (S138) → Int → Int → Option (Int × (List (S138)))
 | 0, _, _, _ => none
 | k + 1, x0, x1, x5 => if x5 < (x0.length : Int) then (if 0 ≤ x5 then ((some (x0.set (x5 : Int).toNat (⟨x1, (rd_T138 x0 x5).f1, (rd_T138 x0 x5).f2⟩ : S138) : List (S138))).bind fun y190 => ((some (y190.set (x5 : Int).toNat (⟨(rd_T138 y190 x5).f0, wrap64 (x1 + 1), (rd_T138 y190 x5).f2⟩ : S138) : List (S138))).bind fun y191 => (laws_markProcS.l0 k (y191.set (x5 : Int).toNat (⟨(rd_T138 y191 x5).f0, (rd_T138 y191 x5).f1, ((Int.tmod (wrap64 ((wrap64 (x1 + 1)) + 1)) 3) == 0)⟩ : S138)) (wrap64 ((wrap64 ((wrap64 (x1 + 1)) + 1)) + 1)) (wrap64 (x5 + 1))))) else (none)) else (some (x1, x0))
def laws_markProcS.f (k : Nat) (l0 : List (S138)) (a1 : Int) : Option (Int × (List (S138))) := laws_markProcS.l0 k l0 a1 0
theorem laws_markProcS.mono_l : ∀ k, (∀ y0 y1 y2, LeO (laws_markProcS.l0 k y0 y1 y2) (laws_markProcS.l0 (k + 1) y0 y1 y2))
 | 0 => fun _ _ _ r h => by simp [laws_markProcS.l0] at h
 | k + 1 => by
  have ih0 := laws_markProcS.mono_l k
  ·intro y0 y1 y2
   unfold laws_markProcS.l0
   repeat' first
   | (with_reducible exact ih0 _ _ _)
   | (with_reducible exact LeO.refl _)
   | (with_reducible exact LeO.none _)
   | (with_reducible refine LeO.ite ?_ ?_)
   | (with_reducible refine LeO.bind ?_ (fun _ => ?_))
   | exact ih0 _ _ _
   | exact LeO.none _
   | refine LeO.ite ?_ ?_
   | refine LeO.bind ?_ (fun _ => ?_)
theorem laws_markProcS.mono : ∀ a0 a1 k, LeO (laws_markProcS.f k a0 a1) (laws_markProcS.f (k + 1) a0 a1) := by
 intro a0 a1 k
 have ih0 := laws_markProcS.mono_l k
 unfold laws_markProcS.f
 repeat' first
   | (with_reducible exact ih0 _ _ _)
   | (with_reducible exact LeO.refl _)
   | (with_reducible exact LeO.none _)
   | (with_reducible refine LeO.ite ?_ ?_)
   | (with_reducible refine LeO.bind ?_ (fun _ => ?_))
   | exact ih0 _ _ _
   | exact LeO.none _
   | refine LeO.ite ?_ ?_
   | refine LeO.bind ?_ (fun _ => ?_)
set_option maxHeartbeats 8000000 in
set_option maxRecDepth 100000 in
theorem laws_markProcS.calls (k : Nat) (P0_ : Nat → Prop) (u9000_ : Value) (l0 : List (S138)) (a1 : Int) (r1 : Int) (r2 : List (S138)) (w0 w : World) (hB : Below w0.heap.size w0 w) (ho0 : Kd.R k138 138 w w0.heap.size P0_ u9000_ l0) (h : laws_markProcS.f k l0 a1 = some (r1, r2)) :
  Calls Try.prog 138 #[u9000_, .int .i64 a1] w fun e w' => e = .returned (.int .i64 r1) ∧ Kd.R k138 138 w' w0.heap.size (fun k_ => (P0_ k_ ∨ w.heap.size ≤ k_)) u9000_ r2 ∧ Below w0.heap.size w0 w' ∧ Kept w w' (fun k_ => P0_ k_) := by
 have HO0 := xm (show Kd.R k138 138 w w0.heap.size (fun k_ => (P0_ k_ ∨ w.heap.size ≤ k_)) u9000_ l0 from Kd.R_mono ho0 (fun k_ hk => (.inl hk)))
 have HK := xm (Kept.refl w (fun k_ => P0_ k_))
 have HW0 := xm hB.size
 have HB := xm hB
 clear hB
 have H : (laws_markProcS.l0 k l0 a1 0) = some (r1, r2) := h
 clear h
 have H' := xm H
 clear H
 go_enter Try.func138, Try.ntmps138
 go_wp2
 go_loopg [1, 5] k (fun kq v1 v5 w' => ∃ (x0_1 : List (S138)) (x1_1 : Int) (x5_1 : Int), v1 = .int .i64 x1_1 ∧ v5 = .int .i64 x5_1 ∧ Aside0 (laws_markProcS.l0 kq x0_1 x1_1 x5_1 = some (r1, r2)) ∧ Aside0 (kq ≤ k) ∧ Aside0 (Kd.R k138 138 w' w0.heap.size (fun k_ => (P0_ k_ ∨ w.heap.size ≤ k_)) u9000_ x0_1) ∧ Aside0 (Kept w w' (fun k_ => P0_ k_)) ∧ Aside0 (Below w0.heap.size w0 w'))
 case atStart => exact ⟨(l0), (a1), (0), (by first | rfl | (simp; done) | (simp [*]; done)), (by first | rfl | (simp; done) | (simp [*]; done)), H', ⟨Nat.le_refl _⟩, ⟨by (with_reducible repeat (first | apply Kd.R_alloc | apply Kd.R_drewN | apply Kd.R_drew)); exact HO0.out⟩, ⟨by repeat (first | (with_reducible first | exact HK.out | apply Kept.alloc | apply Kept.drewN | apply Kept.drew) | exact HK.out)⟩, ⟨by repeat (first | (with_reducible first | exact HB.out | apply xa | apply xn | apply xd) | exact HB.out)⟩⟩
 case round =>
  clear H'
  try clear c1
  try clear p2
  obtain ⟨x0_1, x1_1, x5_1, rfl, rfl, HA, HK1, HO_0, HK, HB⟩ := hrel
  cases gk with
  | zero => exact absurd HA.out (by simp [laws_markProcS.l0])
  | succ k1 =>
   have H := HA.out
   clear HA
   simp only [laws_markProcS.l0] at H
   by_cases c3 : x5_1 < (x0_1.length : Int)
   ·rw [if_pos c3] at H
    have c3b0 : decide (x5_1 < (x0_1.length : Int)) = true := decide_eq_true c3
    clear c3
    by_cases c4 : 0 ≤ x5_1
    ·rw [if_pos c4] at H
     have c4b0 : decide (0 ≤ x5_1) = true := decide_eq_true c4
     clear c4
     obtain ⟨y190, hy190⟩ : ∃ y_ : List (S138), y_ = (x0_1.set (x5_1 : Int).toNat (⟨x1_1, (rd_T138 x0_1 x5_1).f1, (rd_T138 x0_1 x5_1).f2⟩ : S138)) := ⟨_, rfl⟩
     replace H : ((some (y190.set (x5_1 : Int).toNat (⟨(rd_T138 y190 x5_1).f0, wrap64 (x1_1 + 1), (rd_T138 y190 x5_1).f2⟩ : S138) : List (S138))).bind fun y191 => (laws_markProcS.l0 k1 (y191.set (x5_1 : Int).toNat (⟨(rd_T138 y191 x5_1).f0, (rd_T138 y191 x5_1).f1, ((Int.tmod (wrap64 ((wrap64 (x1_1 + 1)) + 1)) 3) == 0)⟩ : S138)) (wrap64 ((wrap64 ((wrap64 (x1_1 + 1)) + 1)) + 1)) (wrap64 (x5_1 + 1)))) = some (r1, r2) := by first | (rw [hy190]; with_reducible exact H) | (have H2_ := (Option.bind_some _ _).symm.trans H; rw [hy190]; with_reducible exact H2_) | (have H2_ := (Option.bind_some _ _).symm.trans H; with_reducible exact H2_) | with_reducible exact H | (rw [hy190]; exact H) | exact H
     have Ny190 := xm hy190
     clear hy190
     obtain ⟨y191, hy191⟩ : ∃ y_ : List (S138), y_ = (y190.set (x5_1 : Int).toNat (⟨(rd_T138 y190 x5_1).f0, wrap64 (x1_1 + 1), (rd_T138 y190 x5_1).f2⟩ : S138)) := ⟨_, rfl⟩
     replace H : (laws_markProcS.l0 k1 (y191.set (x5_1 : Int).toNat (⟨(rd_T138 y191 x5_1).f0, (rd_T138 y191 x5_1).f1, ((Int.tmod (wrap64 ((wrap64 (x1_1 + 1)) + 1)) 3) == 0)⟩ : S138)) (wrap64 ((wrap64 ((wrap64 (x1_1 + 1)) + 1)) + 1)) (wrap64 (x5_1 + 1))) = some (r1, r2) := by first | (rw [hy191]; with_reducible exact H) | (have H2_ := (Option.bind_some _ _).symm.trans H; rw [hy191]; with_reducible exact H2_) | (have H2_ := (Option.bind_some _ _).symm.trans H; with_reducible exact H2_) | with_reducible exact H | (rw [hy191]; exact H) | exact H
     have Ny191 := xm hy191
     clear hy191
     obtain ⟨y192, hy192⟩ : ∃ y_ : List (S138), y_ = (y191.set (x5_1 : Int).toNat (⟨(rd_T138 y191 x5_1).f0, (rd_T138 y191 x5_1).f1, ((Int.tmod (wrap64 ((wrap64 (x1_1 + 1)) + 1)) 3) == 0)⟩ : S138)) := ⟨_, rfl⟩
     replace H : (laws_markProcS.l0 k1 y192 (wrap64 ((wrap64 ((wrap64 (x1_1 + 1)) + 1)) + 1)) (wrap64 (x5_1 + 1))) = some (r1, r2) := by first | (rw [hy192]; with_reducible exact H) | (have H2_ := (Option.bind_some _ _).symm.trans H; rw [hy192]; with_reducible exact H2_) | (have H2_ := (Option.bind_some _ _).symm.trans H; with_reducible exact H2_) | with_reducible exact H | (rw [hy192]; exact H) | exact H
     have Ny192 := xm hy192
     clear hy192
     have H' := xm H
     clear H
     obtain ⟨Ao8, co8, eo8⟩ := Kd.R_slice HO_0.out
     subst eo8
     have p5 : 0 ≤ (x5_1 : Int) := of_decide_eq_true aB
     have q5 : (x5_1 : Int) < ((x0_1.length : Int) : Int) := of_decide_eq_true aB
     obtain ⟨go5, co5, eo5, gb5, gl5, cl5, HG5⟩ := Kd.R_form HO_0.out (by omega)
     (first | cases eo5 | (injection eo5 with ea_ en_ ec_; (first | subst ea_ | (injection ea_ with ea_; subst ea_)); subst ec_; clear en_))
     have GB5 := xm gb5
     have GG5 := xm HG5
     clear gb5 gl5 HG5
     have HMgo5 := xm (show (P0_ go5 ∨ w.heap.size ≤ go5) from (HO_0.out.1 _ rfl))
     obtain ⟨ce5, hcl5, hM5, hcc5, hfr5⟩ := Kd.R_elem HO_0.out z138 (x5_1 : Int) p5 q5
     obtain rfl := k138_openM hM5
     have hx5_0 : wr.cell? ⟨go5, (x5_1 : Int).toNat * 3, none⟩ = some (.int .i64 ((rd_T138 x0_1 x5_1).f0)) := hcc5 0 _ rfl
     have hx5_1 : wr.cell? ⟨go5, (x5_1 : Int).toNat * 3 + 1, none⟩ = some (.int .i64 ((rd_T138 x0_1 x5_1).f1)) := hcc5 1 _ rfl
     have hx5_2 : wr.cell? ⟨go5, (x5_1 : Int).toNat * 3 + 2, none⟩ = some (.bool ((rd_T138 x0_1 x5_1).f2)) := hcc5 2 _ rfl
     have hf5_0 : wr.frozen? ⟨go5, (x5_1 : Int).toNat * 3, none⟩ = false := hfr5 0
     have hf5_1 : wr.frozen? ⟨go5, (x5_1 : Int).toNat * 3 + 1, none⟩ = false := hfr5 1
     have hf5_2 : wr.frozen? ⟨go5, (x5_1 : Int).toNat * 3 + 2, none⟩ = false := hfr5 2
     (try clear hM5); clear hcl5 hcc5 hfr5
     replace p5 := eq_true p5
     replace q5 := eq_true q5
     have HX9 := xm (show Kd.R k138 138 wr w0.heap.size (fun k_ => (P0_ k_ ∨ w.heap.size ≤ k_)) (.slice (some ⟨go5, 0, none⟩) x0_1.length co8) x0_1 from (rB HO_0))
     obtain ⟨ce9, hcl9, hM9, hcc9, hfr9⟩ := Kd.R_elem HX9.out z138 (x5_1 : Int) (of_decide_eq_true aB) (by have h_ : (x5_1 : Int) < ((x0_1.length : Int) : Int) := of_decide_eq_true aB; first | exact h_ | (have e_ := (Kd.R_reads' HO_0.out).1; omega) | simpa using h_)
     obtain rfl := k138_openM hM9
     have HP9 := Kd.R_seg HX9.out (x5_1 : Int) (of_decide_eq_true aB) (by have h_ : (x5_1 : Int) < ((x0_1.length : Int) : Int) := of_decide_eq_true aB; first | exact h_ | (have e_ := (Kd.R_reads' HO_0.out).1; omega) | simpa using h_) (seg := [.int .i64 x1_1]) (j := 0) hcl9 hcc9 (show 1 ≤ 3 from by decide) (x' := (⟨x1_1, (rd_T138 x0_1 x5_1).f1, (rd_T138 x0_1 x5_1).f2⟩ : S138)) (k138_mkM _ _ _ (⟨x1_1, (rd_T138 x0_1 x5_1).f1, (rd_T138 x0_1 x5_1).f2⟩ : S138) ) (fun _ hk => hk)
     have hx9_0 := hcc9 0 _ rfl
     (try simp only [show (k138).sz = 3 from rfl, Nat.mul_one, Nat.add_zero] at hx9_0)
     have hf9_0 := hfr9 0
     (try simp only [show (k138).sz = 3 from rfl, Nat.mul_one, Nat.add_zero] at hf9_0)
     (try clear hM9); clear hcl9 hcc9 hfr9
     go_wp2_with (first | ((with_reducible refine gate_store (t := 3) (p := 16) rfl ?_); refine store_event (t := 3) (p := 16) (v := ?vo_w10) (w1 := (wr.setCell ⟨go5, (x5_1 : Int).toNat * 3, none⟩ (.int .i64 x1_1))) ?hg ?ho ?hn ?hr ?_; (case ho => rfl); (case hg => rfl); (case hn => rfl); (case hr => exact zB); intro w10 hw; have hg : wr.grownBy w10 (some go5) := (by rw [hw]; exact HP9.2); have hp_ : Kd.R k138 138 w10 w0.heap.size (fun k_ => (P0_ k_ ∨ w.heap.size ≤ k_)) (.slice (some ⟨go5, 0, none⟩) x0_1.length co8) y190 := (by rw [hw, Ny190.out]; exact HP9.1); clear HP9; have n0_ := xm (hp_); have n1_ := xm ((by rw [hw]; exact xt (HB.out) GB5.out : Below w0.heap.size w0 w10)); have n2_ := xm (Kept.of_grown (S := (fun k_ => P0_ k_)) hg (by repeat (first | (with_reducible first | exact HK.out | apply Kept.alloc | apply Kept.drewN | apply Kept.drew) | exact HK.out)) (fun k_ e_ => (HO_0.out.1 k_ e_))); clear HO_0; clear HB; clear HK; have HO_0 := n0_; have HB := n1_; have HK := n2_; clear n0_ n1_ n2_; clear hg hw hp_; have p6 : 0 ≤ (x5_1 : Int) := of_decide_eq_true aB; have q6 : (x5_1 : Int) < ((x0_1.length : Int) : Int) := of_decide_eq_true aB; obtain ⟨ce6, hcl6, hM6, hcc6, hfr6⟩ := Kd.R_elem HO_0.out z138 (x5_1 : Int) p6 q6; obtain rfl := k138_openM hM6; have hx6_0 : w10.cell? ⟨go5, (x5_1 : Int).toNat * 3, none⟩ = some (.int .i64 ((rd_T138 y190 x5_1).f0)) := hcc6 0 _ rfl; have hx6_1 : w10.cell? ⟨go5, (x5_1 : Int).toNat * 3 + 1, none⟩ = some (.int .i64 ((rd_T138 y190 x5_1).f1)) := hcc6 1 _ rfl; have hx6_2 : w10.cell? ⟨go5, (x5_1 : Int).toNat * 3 + 2, none⟩ = some (.bool ((rd_T138 y190 x5_1).f2)) := hcc6 2 _ rfl; have hf6_0 : w10.frozen? ⟨go5, (x5_1 : Int).toNat * 3, none⟩ = false := hfr6 0; have hf6_1 : w10.frozen? ⟨go5, (x5_1 : Int).toNat * 3 + 1, none⟩ = false := hfr6 1; have hf6_2 : w10.frozen? ⟨go5, (x5_1 : Int).toNat * 3 + 2, none⟩ = false := hfr6 2; (try clear hM6); clear hcl6 hcc6 hfr6; replace p6 := eq_true p6; replace q6 := eq_true q6; have HX11 := xm (show Kd.R k138 138 w10 w0.heap.size (fun k_ => (P0_ k_ ∨ w.heap.size ≤ k_)) (.slice (some ⟨go5, 0, none⟩) x0_1.length co8) y190 from (rB HO_0)); obtain ⟨ce11, hcl11, hM11, hcc11, hfr11⟩ := Kd.R_elem HX11.out z138 (x5_1 : Int) (of_decide_eq_true aB) (by have h_ : (x5_1 : Int) < ((x0_1.length : Int) : Int) := of_decide_eq_true aB; first | exact h_ | (have e_ := (Kd.R_reads' HO_0.out).1; omega) | simpa using h_); obtain rfl := k138_openM hM11; have HP11 := Kd.R_seg HX11.out (x5_1 : Int) (of_decide_eq_true aB) (by have h_ : (x5_1 : Int) < ((x0_1.length : Int) : Int) := of_decide_eq_true aB; first | exact h_ | (have e_ := (Kd.R_reads' HO_0.out).1; omega) | simpa using h_) (seg := [.int .i64 (wrap64 (x1_1 + 1))]) (j := 1) hcl11 hcc11 (show 2 ≤ 3 from by decide) (x' := (⟨(rd_T138 y190 x5_1).f0, wrap64 (x1_1 + 1), (rd_T138 y190 x5_1).f2⟩ : S138)) (k138_mkM _ _ _ (⟨(rd_T138 y190 x5_1).f0, wrap64 (x1_1 + 1), (rd_T138 y190 x5_1).f2⟩ : S138) ) (fun _ hk => hk); have hx11_1 := hcc11 1 _ rfl; (try simp only [show (k138).sz = 3 from rfl, Nat.mul_one, Nat.add_zero] at hx11_1); have hf11_1 := hfr11 1; (try simp only [show (k138).sz = 3 from rfl, Nat.mul_one, Nat.add_zero] at hf11_1); (try clear hM11); clear hcl11 hcc11 hfr11) | ((with_reducible refine gate_store (t := 3) (p := 23) rfl ?_); refine store_event (t := 3) (p := 23) (v := ?vo_w12) (w1 := (w10.setCell ⟨go5, (x5_1 : Int).toNat * 3 + 1, none⟩ (.int .i64 (wrap64 (x1_1 + 1))))) ?hg ?ho ?hn ?hr ?_; (case ho => rfl); (case hg => rfl); (case hn => rfl); (case hr => exact zB); intro w12 hw; have hg : w10.grownBy w12 (some go5) := (by rw [hw]; exact HP11.2); have hp_ : Kd.R k138 138 w12 w0.heap.size (fun k_ => (P0_ k_ ∨ w.heap.size ≤ k_)) (.slice (some ⟨go5, 0, none⟩) x0_1.length co8) y191 := (by rw [hw, Ny191.out]; exact HP11.1); clear HP11; have n0_ := xm (hp_); have n1_ := xm ((by rw [hw]; exact xt (HB.out) GB5.out : Below w0.heap.size w0 w12)); have n2_ := xm (Kept.of_grown (S := (fun k_ => P0_ k_)) hg (by repeat (first | (with_reducible first | exact HK.out | apply Kept.alloc | apply Kept.drewN | apply Kept.drew) | exact HK.out)) (fun k_ e_ => (HO_0.out.1 k_ e_))); clear HO_0; clear HB; clear HK; have HO_0 := n0_; have HB := n1_; have HK := n2_; clear n0_ n1_ n2_; clear hg hw hp_; have p7 : 0 ≤ (x5_1 : Int) := of_decide_eq_true aB; have q7 : (x5_1 : Int) < ((x0_1.length : Int) : Int) := of_decide_eq_true aB; obtain ⟨ce7, hcl7, hM7, hcc7, hfr7⟩ := Kd.R_elem HO_0.out z138 (x5_1 : Int) p7 q7; obtain rfl := k138_openM hM7; have hx7_0 : w12.cell? ⟨go5, (x5_1 : Int).toNat * 3, none⟩ = some (.int .i64 ((rd_T138 y191 x5_1).f0)) := hcc7 0 _ rfl; have hx7_1 : w12.cell? ⟨go5, (x5_1 : Int).toNat * 3 + 1, none⟩ = some (.int .i64 ((rd_T138 y191 x5_1).f1)) := hcc7 1 _ rfl; have hx7_2 : w12.cell? ⟨go5, (x5_1 : Int).toNat * 3 + 2, none⟩ = some (.bool ((rd_T138 y191 x5_1).f2)) := hcc7 2 _ rfl; have hf7_0 : w12.frozen? ⟨go5, (x5_1 : Int).toNat * 3, none⟩ = false := hfr7 0; have hf7_1 : w12.frozen? ⟨go5, (x5_1 : Int).toNat * 3 + 1, none⟩ = false := hfr7 1; have hf7_2 : w12.frozen? ⟨go5, (x5_1 : Int).toNat * 3 + 2, none⟩ = false := hfr7 2; (try clear hM7); clear hcl7 hcc7 hfr7; replace p7 := eq_true p7; replace q7 := eq_true q7; have HX13 := xm (show Kd.R k138 138 w12 w0.heap.size (fun k_ => (P0_ k_ ∨ w.heap.size ≤ k_)) (.slice (some ⟨go5, 0, none⟩) x0_1.length co8) y191 from (rB HO_0)); obtain ⟨ce13, hcl13, hM13, hcc13, hfr13⟩ := Kd.R_elem HX13.out z138 (x5_1 : Int) (of_decide_eq_true aB) (by have h_ : (x5_1 : Int) < ((x0_1.length : Int) : Int) := of_decide_eq_true aB; first | exact h_ | (have e_ := (Kd.R_reads' HO_0.out).1; omega) | simpa using h_); obtain rfl := k138_openM hM13; have HP13 := Kd.R_seg HX13.out (x5_1 : Int) (of_decide_eq_true aB) (by have h_ : (x5_1 : Int) < ((x0_1.length : Int) : Int) := of_decide_eq_true aB; first | exact h_ | (have e_ := (Kd.R_reads' HO_0.out).1; omega) | simpa using h_) (seg := [.bool ((Int.tmod (wrap64 ((wrap64 (x1_1 + 1)) + 1)) 3) == 0)]) (j := 2) hcl13 hcc13 (show 3 ≤ 3 from by decide) (x' := (⟨(rd_T138 y191 x5_1).f0, (rd_T138 y191 x5_1).f1, ((Int.tmod (wrap64 ((wrap64 (x1_1 + 1)) + 1)) 3) == 0)⟩ : S138)) (k138_mkM _ _ _ (⟨(rd_T138 y191 x5_1).f0, (rd_T138 y191 x5_1).f1, ((Int.tmod (wrap64 ((wrap64 (x1_1 + 1)) + 1)) 3) == 0)⟩ : S138) ) (fun _ hk => hk); have hx13_2 := hcc13 2 _ rfl; (try simp only [show (k138).sz = 3 from rfl, Nat.mul_one, Nat.add_zero] at hx13_2); have hf13_2 := hfr13 2; (try simp only [show (k138).sz = 3 from rfl, Nat.mul_one, Nat.add_zero] at hf13_2); (try clear hM13); clear hcl13 hcc13 hfr13) | ((with_reducible refine gate_store (t := 4) (p := 32) rfl ?_); refine store_event (t := 4) (p := 32) (v := ?vo_w14) (w1 := (w12.setCell ⟨go5, (x5_1 : Int).toNat * 3 + 2, none⟩ (.bool ((Int.tmod (wrap64 ((wrap64 (x1_1 + 1)) + 1)) 3) == 0)))) ?hg ?ho ?hn ?hr ?_; (case ho => rfl); (case hg => rfl); (case hn => rfl); (case hr => exact zB); intro w14 hw; have hg : w12.grownBy w14 (some go5) := (by rw [hw]; exact HP13.2); have hp_ : Kd.R k138 138 w14 w0.heap.size (fun k_ => (P0_ k_ ∨ w.heap.size ≤ k_)) (.slice (some ⟨go5, 0, none⟩) x0_1.length co8) y192 := (by rw [hw, Ny192.out]; exact HP13.1); clear HP13; have n0_ := xm (hp_); have n1_ := xm ((by rw [hw]; exact xt (HB.out) GB5.out : Below w0.heap.size w0 w14)); have n2_ := xm (Kept.of_grown (S := (fun k_ => P0_ k_)) hg (by repeat (first | (with_reducible first | exact HK.out | apply Kept.alloc | apply Kept.drewN | apply Kept.drew) | exact HK.out)) (fun k_ e_ => (HO_0.out.1 k_ e_))); clear HO_0; clear HB; clear HK; have HO_0 := n0_; have HB := n1_; have HK := n2_; clear n0_ n1_ n2_; clear hg hw hp_))
     go_roundg k1
     case measure => have := HK1.out; omega
     case rel => exact ⟨(y192), (wrap64 ((wrap64 ((wrap64 (x1_1 + 1)) + 1)) + 1)), (wrap64 (x5_1 + 1)), (by first | rfl | (simp; done) | (simp [*]; done)), (by first | rfl | (simp; done) | (simp [*]; done)), H', ⟨by have := HK1.out; omega⟩, ⟨by (with_reducible repeat (first | apply Kd.R_alloc | apply Kd.R_drewN | apply Kd.R_drew)); exact HO_0.out⟩, ⟨by repeat (first | (with_reducible first | exact HK.out | apply Kept.alloc | apply Kept.drewN | apply Kept.drew) | exact HK.out)⟩, ⟨by repeat (first | (with_reducible first | exact HB.out | apply xa | apply xn | apply xd) | exact HB.out)⟩⟩
    ·rw [if_neg c4] at H
     exact absurd H (by simp)
   ·rw [if_neg c3] at H
    have c3b0 : decide (x5_1 < (x0_1.length : Int)) = false := decide_eq_false c3
    clear c3
    simp only [Option.some.injEq, Prod.mk.injEq] at H
    obtain ⟨rfl, rfl⟩ := H
    obtain ⟨Ao15, co15, eo15⟩ := Kd.R_slice HO_0.out
    subst eo15
    go_wp2
    go_ret
    exact ⟨by first | rfl | (simp [errW_none, errW_some] <;> rfl) | (simp [*, errW_none, errW_some] <;> rfl), by (with_reducible repeat (first | apply Kd.R_alloc | apply Kd.R_drewN | apply Kd.R_drew)); exact HO_0.out, by repeat (first | (with_reducible first | exact HB.out | apply xa | apply xn | apply xd) | exact HB.out), by repeat (first | (with_reducible first | exact HK.out | apply Kept.alloc | apply Kept.drewN | apply Kept.drew) | exact HK.out)⟩

/-! ### laws_markWireS: function 139 -/
theorem laws_markIntS.none_ (A0 : Option Addr) (c0 n : Nat) (hn : n = 0) (a1 : Int) (w : World) : Calls Try.prog 30 #[.slice A0 n c0, .int .i64 a1] w fun e w' => e = .returned (.int .i64 a1) ∧ Below w.heap.size w w' := by
 subst hn
 have HB := xm (Below.refl w.heap.size w)
 go_enter Try.func30, Try.ntmps30
 go_wp2
 go_loopg [1, 5] 1 (fun kq v1 v5 w' => v1 = .int .i64 a1 ∧ v5 = .int .i64 0 ∧ Aside0 (Below w.heap.size w w'))
 case atStart => exact ⟨rfl, rfl, ⟨by repeat (first | (with_reducible first | exact HB.out | apply xa | apply xn | apply xd) | exact HB.out)⟩⟩
 case round =>
  clear HB
  obtain ⟨rfl, rfl, HB⟩ := hrel
  have hc : decide ((0 : Int) < ((0 : Nat) : Int)) = false := rfl
  go_wp2
  go_ret
  exact ⟨rfl, by repeat (first | (with_reducible first | exact HB.out | apply xa | apply xn | apply xd) | exact HB.out)⟩
def laws_markWireS.f : List S140 → Int → Option (Int × List S140)
 | [], a => some (a, [])
 | x :: xs, a => if x.f0.length = 0 ∧ x.f1.length = 0 then (laws_markWireS.f xs (wrap64 (a + 1))).bind fun s => some (s.1, (⟨x.f0, x.f1, (Int.tmod a 3 == 0)⟩ : S140) :: s.2) else none
set_option maxHeartbeats 8000000 in
set_option maxRecDepth 100000 in
theorem laws_markWireS.calls (P0_ : Nat → Prop) (u9000_ : Value) (l0 : List S140) (a1 : Int) (r1 : Int) (r2 : List S140) (w0 w : World) (hB : Below w0.heap.size w0 w) (ho0 : Kd.S k140 140 w w0.heap.size P0_ u9000_ l0) (h : laws_markWireS.f l0 a1 = some (r1, r2)) :
  Calls Try.prog 139 #[u9000_, .int .i64 a1] w fun e w' => e = .returned (.int .i64 r1) ∧ Kd.S k140 140 w' w0.heap.size P0_ u9000_ r2 ∧ Below w0.heap.size w0 w' ∧ Kept w w' P0_ := by
 obtain ⟨A0, c0, rfl⟩ := Kd.S_slice ho0
 have HS0 := xm ho0
 have HB0 := xm hB
 have HK0 := xm (Kept.refl w P0_)
 have H0 := xm h
 have hlen := (Kd.S_reads' ho0).2.2.2.1
 clear ho0 hB h
 go_enter Try.func139, Try.ntmps139
 go_wp2
 go_loopg [1, 5] l0.length (fun kq v1 v5 w' => ∃ (ys zs ws : List S140) (b x5 : Int), v1 = .int .i64 b ∧ v5 = .int .i64 x5 ∧ Aside0 (x5 = ys.length) ∧ Aside0 (ys.length + zs.length = l0.length) ∧ Aside0 (zs.length ≤ kq) ∧ Aside0 (laws_markWireS.f zs b = some (r1, ws)) ∧ Aside0 (r2 = ys ++ ws) ∧ Aside0 (Kd.S k140 140 w' w0.heap.size P0_ (.slice A0 l0.length c0) (ys ++ zs)) ∧ Aside0 (Kept w w' P0_) ∧ Aside0 (Below w0.heap.size w0 w'))
 case atStart => exact ⟨[], l0, r2, a1, 0, rfl, rfl, ⟨rfl⟩, ⟨by simp⟩, ⟨Nat.le_refl _⟩, H0, ⟨rfl⟩, HS0, HK0, HB0⟩
 case round =>
  clear HS0 HK0 HB0 H0
  obtain ⟨ys, zs, ws, b, x5, rfl, rfl, hx5, hyz, hzk, HF, HR, HS, HK, HB⟩ := hrel
  have h50 := hx5.out
  have h51 := hyz.out
  cases zs with
  | nil =>
   have hc : decide (x5 < (l0.length : Int)) = false := decide_eq_false (by simp at h51; omega)
   have hf := HF.out
   unfold laws_markWireS.f at hf
   simp only [Option.some.injEq, Prod.mk.injEq] at hf
   obtain ⟨rfl, rfl⟩ := hf
   have HR2 := HR.out
   rw [List.append_nil] at HR2
   subst HR2
   have HS2 := HS.out
   rw [List.append_nil] at HS2
   have HS3 := xm HS2
   clear HS2 HS HF HR h50 h51 hx5 hyz hzk
   go_wp2
   go_ret
   exact ⟨rfl, HS3.out, HB.out, HK.out⟩
  | cons x zs =>
   have hzc : (x :: zs).length = zs.length + 1 := rfl
   have hc : decide (x5 < (l0.length : Int)) = true := decide_eq_true (by omega)
   have hf := HF.out
   unfold laws_markWireS.f at hf
   by_cases he : x.f0.length = 0 ∧ x.f1.length = 0
   case neg => rw [if_neg he] at hf; cases hf
   rw [if_pos he] at hf
   have HE := xm he
   clear he
   obtain ⟨⟨s_1, s_2⟩, hN, hf⟩ := Option.bind_eq_some_iff.mp hf
   simp only [Option.some.injEq, Prod.mk.injEq] at hf
   obtain ⟨rfl, hws⟩ := hf
   have HN := xm hN
   have HW := xm hws
   clear hN hws HF
   obtain ⟨go, co, eo, gb, _, _⟩ := Kd.S_form HS.out (by rw [List.length_append]; omega)
   (injection eo with ea_ en_ ec_; subst ea_; subst ec_; clear en_)
   have hi0 : 0 ≤ x5 := by omega
   have hi1 : x5 < (l0.length : Int) := by omega
   have hit : x5.toNat = ys.length := by omega
   have hset : ∀ y z : S140, (ys ++ y :: zs).set x5.toNat z = ys ++ z :: zs := fun y z => by rw [hit]; simp
   have hget : ∀ (y z : S140), (ys ++ y :: zs).getD x5.toNat z = y := fun y z => by rw [hit]; simp
   have HI := xm (And.intro hi0 (And.intro hi1 (And.intro gb (And.intro hset hget))))
   have HL5 := xm (And.intro h50 (And.intro h51 (And.intro hzc hlen)))
   clear hit hset hget gb h50 h51 hzc
   obtain ⟨oki, ce, hcl, hM, hcc, hfr, hoki, hH⟩ := Kd.S_elem HS.out z140 x5 HI.out.1 HI.out.2.1
   rw [HI.out.2.2.2.2] at hM
   obtain ⟨v0, v1, rfl, g0, g1⟩ := k140_openM hM
   obtain ⟨Ai1_0, ci1_0, ei⟩ := Kd.R_slice g0
   subst ei
   obtain ⟨Ai1_1, ci1_1, ei⟩ := Kd.R_slice g1
   subst ei
   have hx0 : wr.cell? ⟨go, x5.toNat * 3, none⟩ = some (.slice Ai1_0 x.f0.length ci1_0) := (by have z_ := hcc 0 _ rfl; (try simp only [show (k140).sz = 3 from rfl, Nat.mul_one, Nat.add_zero] at z_); exact z_)
   have hx1 : wr.cell? ⟨go, x5.toNat * 3 + 1, none⟩ = some (.slice Ai1_1 x.f1.length ci1_1) := (by have z_ := hcc 1 _ rfl; (try simp only [show (k140).sz = 3 from rfl, Nat.mul_one, Nat.add_zero] at z_); exact z_)
   have hx2 : wr.cell? ⟨go, x5.toNat * 3 + 2, none⟩ = some (.bool (x.f2)) := (by have z_ := hcc 2 _ rfl; (try simp only [show (k140).sz = 3 from rfl, Nat.mul_one, Nat.add_zero] at z_); exact z_)
   have hz0 : wr.frozen? ⟨go, x5.toNat * 3, none⟩ = false := (by have z_ := hfr 0; (try simp only [show (k140).sz = 3 from rfl, Nat.mul_one, Nat.add_zero] at z_); exact z_)
   have hz1 : wr.frozen? ⟨go, x5.toNat * 3 + 1, none⟩ = false := (by have z_ := hfr 1; (try simp only [show (k140).sz = 3 from rfl, Nat.mul_one, Nat.add_zero] at z_); exact z_)
   have hz2 : wr.frozen? ⟨go, x5.toNat * 3 + 2, none⟩ = false := (by have z_ := hfr 2; (try simp only [show (k140).sz = 3 from rfl, Nat.mul_one, Nat.add_zero] at z_); exact z_)
   have HH := xm hH
   have HG0 := xm g0
   have HG1 := xm g1
   have HO := xm hoki
   have HC := xm hcl
   (try clear hM)
   clear hcl hcc hfr hoki hH g0 g1
   go_wp2_with (first
    | (go_at_call 30; (with_reducible refine (laws_markIntS.none_ Ai1_0 ci1_0 x.f0.length HE.out.1 b _).mono ?_); rintro e w1_ ⟨rfl, hb⟩; have hkp := Kept.of_below hb (fun _ => False); have n0_ := xm (Kd.S_kept HS.out hkp (fun _ _ h_ => h_)); have n1_ := xm (Kept.then_ HK.out hkp (fun _ h_ => h_.elim)); have n2_ := xm (below_step HB.out hb); clear HS HK HB hb hkp HH HG0 HG1 HO HC hx0 hz0 hx1 hz1 hx2 hz2; have HS := n0_; have HK := n1_; have HB := n2_; clear n0_ n1_ n2_; obtain ⟨oki, ce, hcl, hM, hcc, hfr, hoki, hH⟩ := Kd.S_elem HS.out z140 x5 HI.out.1 HI.out.2.1; rw [HI.out.2.2.2.2] at hM; obtain ⟨v0, v1, rfl, g0, g1⟩ := k140_openM hM; obtain ⟨Ai2_0, ci2_0, ei⟩ := Kd.R_slice g0; subst ei; obtain ⟨Ai2_1, ci2_1, ei⟩ := Kd.R_slice g1; subst ei; have hx0 : w1_.cell? ⟨go, x5.toNat * 3, none⟩ = some (.slice Ai2_0 x.f0.length ci2_0) := (by have z_ := hcc 0 _ rfl; (try simp only [show (k140).sz = 3 from rfl, Nat.mul_one, Nat.add_zero] at z_); exact z_); have hx1 : w1_.cell? ⟨go, x5.toNat * 3 + 1, none⟩ = some (.slice Ai2_1 x.f1.length ci2_1) := (by have z_ := hcc 1 _ rfl; (try simp only [show (k140).sz = 3 from rfl, Nat.mul_one, Nat.add_zero] at z_); exact z_); have hx2 : w1_.cell? ⟨go, x5.toNat * 3 + 2, none⟩ = some (.bool (x.f2)) := (by have z_ := hcc 2 _ rfl; (try simp only [show (k140).sz = 3 from rfl, Nat.mul_one, Nat.add_zero] at z_); exact z_); have hz0 : w1_.frozen? ⟨go, x5.toNat * 3, none⟩ = false := (by have z_ := hfr 0; (try simp only [show (k140).sz = 3 from rfl, Nat.mul_one, Nat.add_zero] at z_); exact z_); have hz1 : w1_.frozen? ⟨go, x5.toNat * 3 + 1, none⟩ = false := (by have z_ := hfr 1; (try simp only [show (k140).sz = 3 from rfl, Nat.mul_one, Nat.add_zero] at z_); exact z_); have hz2 : w1_.frozen? ⟨go, x5.toNat * 3 + 2, none⟩ = false := (by have z_ := hfr 2; (try simp only [show (k140).sz = 3 from rfl, Nat.mul_one, Nat.add_zero] at z_); exact z_); have HH := xm hH; have HG0 := xm g0; have HG1 := xm g1; have HO := xm hoki; have HC := xm hcl; (try clear hM); clear hcl hcc hfr hoki hH g0 g1)
    | (go_at_call 30; (with_reducible refine (laws_markIntS.none_ Ai2_1 ci2_1 x.f1.length HE.out.2 b _).mono ?_); rintro e w2_ ⟨rfl, hb⟩; have hkp := Kept.of_below hb (fun _ => False); have n0_ := xm (Kd.S_kept HS.out hkp (fun _ _ h_ => h_)); have n1_ := xm (Kept.then_ HK.out hkp (fun _ h_ => h_.elim)); have n2_ := xm (below_step HB.out hb); clear HS HK HB hb hkp HH HG0 HG1 HO HC hx0 hz0 hx1 hz1 hx2 hz2; have HS := n0_; have HK := n1_; have HB := n2_; clear n0_ n1_ n2_; obtain ⟨oki, ce, hcl, hM, hcc, hfr, hoki, hH⟩ := Kd.S_elem HS.out z140 x5 HI.out.1 HI.out.2.1; rw [HI.out.2.2.2.2] at hM; obtain ⟨v0, v1, rfl, g0, g1⟩ := k140_openM hM; obtain ⟨Ai3_0, ci3_0, ei⟩ := Kd.R_slice g0; subst ei; obtain ⟨Ai3_1, ci3_1, ei⟩ := Kd.R_slice g1; subst ei; have hx0 : w2_.cell? ⟨go, x5.toNat * 3, none⟩ = some (.slice Ai3_0 x.f0.length ci3_0) := (by have z_ := hcc 0 _ rfl; (try simp only [show (k140).sz = 3 from rfl, Nat.mul_one, Nat.add_zero] at z_); exact z_); have hx1 : w2_.cell? ⟨go, x5.toNat * 3 + 1, none⟩ = some (.slice Ai3_1 x.f1.length ci3_1) := (by have z_ := hcc 1 _ rfl; (try simp only [show (k140).sz = 3 from rfl, Nat.mul_one, Nat.add_zero] at z_); exact z_); have hx2 : w2_.cell? ⟨go, x5.toNat * 3 + 2, none⟩ = some (.bool (x.f2)) := (by have z_ := hcc 2 _ rfl; (try simp only [show (k140).sz = 3 from rfl, Nat.mul_one, Nat.add_zero] at z_); exact z_); have hz0 : w2_.frozen? ⟨go, x5.toNat * 3, none⟩ = false := (by have z_ := hfr 0; (try simp only [show (k140).sz = 3 from rfl, Nat.mul_one, Nat.add_zero] at z_); exact z_); have hz1 : w2_.frozen? ⟨go, x5.toNat * 3 + 1, none⟩ = false := (by have z_ := hfr 1; (try simp only [show (k140).sz = 3 from rfl, Nat.mul_one, Nat.add_zero] at z_); exact z_); have hz2 : w2_.frozen? ⟨go, x5.toNat * 3 + 2, none⟩ = false := (by have z_ := hfr 2; (try simp only [show (k140).sz = 3 from rfl, Nat.mul_one, Nat.add_zero] at z_); exact z_); have HH := xm hH; have HG0 := xm g0; have HG1 := xm g1; have HO := xm hoki; have HC := xm hcl; (try clear hM); clear hcl hcc hfr hoki hH g0 g1)
    | ((with_reducible refine gate_store (t := 4) (p := 32) rfl ?_); refine store_event (t := 4) (p := 32) (v := ?vo3) (w1 := (w2_.setCell ⟨go, x5.toNat * 3 + 2, none⟩ (.bool ((Int.tmod b 3 == 0))))) ?hg ?ho ?hn ?hr ?_; (case ho => rfl); (case hg => rfl); (case hn => rfl); (case hr => exact zB); intro w3_ hw; have hs2 := Kd.H_seg HH.out HI.out.1 HI.out.2.1 (seg := [.bool ((Int.tmod b 3 == 0))]) (j := 2) (by show 2 + 1 ≤ 3; decide) (fun q_ hq_ => by rw [List.mem_singleton.1 hq_]; rfl); have hg : w2_.grownBy w3_ (some go) := (by rw [hw]; exact hs2.2); have hH2 : Kd.H k140 140 w3_ w0.heap.size P0_ (.slice (some ⟨go, 0, none⟩) l0.length c0) (ys ++ (⟨x.f0, x.f1, x.f2⟩ : S140) :: zs) x5 oki [.slice Ai3_0 x.f0.length ci3_0, .slice Ai3_1 x.f1.length ci3_1, .bool ((Int.tmod b 3 == 0))] := (by rw [hw]; exact hs2.1); have n0_ := xm (by rw [← HI.out.2.2.2.1 (⟨x.f0, x.f1, x.f2⟩ : S140) (⟨x.f0, x.f1, (Int.tmod b 3 == 0)⟩ : S140)]; exact Kd.H_back (x' := (⟨x.f0, x.f1, (Int.tmod b 3 == 0)⟩ : S140)) hH2 (k140_mkM w3_ w0.heap.size oki (⟨x.f0, x.f1, (Int.tmod b 3 == 0)⟩ : S140) (Kd.R_grown HG0.out hg (fun k_ hk_ e_ => (HO.out k_ hk_).2 (by injection e_))) (Kd.R_grown HG1.out hg (fun k_ hk_ e_ => (HO.out k_ hk_).2 (by injection e_)))) (fun _ h_ => h_) : Kd.S k140 140 w3_ w0.heap.size P0_ (.slice (some ⟨go, 0, none⟩) l0.length c0) (ys ++ (⟨x.f0, x.f1, (Int.tmod b 3 == 0)⟩ : S140) :: zs)); have n1_ := xm (Kept.of_grown hg HK.out (fun k_ e_ => .inl (by have z_ := (Kd.S_R HS.out).1 go rfl; injection e_ with e_; rw [← e_]; exact z_))); have n2_ := xm ((by rw [hw]; exact xt HB.out HI.out.2.2.1) : Below w0.heap.size w0 w3_); clear HS HK HB hs2 hg hH2 hw HH HG0 HG1 HO HC hx0 hz0 hx1 hz1 hx2 hz2; have HS := n0_; have HK := n1_; have HB := n2_; clear n0_ n1_ n2_))
   go_wp2
   go_roundg zs.length
   case measure => have z_ := hzk.out; simp at z_; omega
   case rel =>
    have hw5 : wrap64 (x5 + 1) = x5 + 1 := by have := HL5.out; unfold wrap64; omega
    refine ⟨ys ++ [(⟨x.f0, x.f1, (Int.tmod b 3 == 0)⟩ : S140)], zs, s_2, wrap64 (b + 1), wrap64 (x5 + 1), (by first | rfl | (simp; done) | (simp [*]; done)), (by first | rfl | (simp; done) | (simp [*]; done)), ⟨?_⟩, ⟨?_⟩, ⟨Nat.le_refl _⟩, HN, ⟨?_⟩, ⟨?_⟩, HK, HB⟩
    ·rw [hw5, HL5.out.1]; simp
    ·have := HL5.out; simp; omega
    ·rw [HR.out, ← HW.out]; simp
    ·have z_ := HS.out; simpa using z_

/-! ### laws_markSnap: function 78 -/
def laws_markSnap.f (k : Nat) (l0_0 : List (S138)) (l0_1 : List (S140)) (a1 : Int) : Option (Int × (List (S138)) × (List (S140))) := (laws_markProcS.f k l0_0 a1).bind fun t3b => ((laws_markWireS.f l0_1 t3b.1).bind fun t4b => some (t4b.1, t3b.2, t4b.2))
theorem laws_markSnap.mono : ∀ a0_ a1_ a2_ k, LeO (laws_markSnap.f k a0_ a1_ a2_) (laws_markSnap.f (k + 1) a0_ a1_ a2_) := by
 intro a0_ a1_ a2_ k
 unfold laws_markSnap.f
 repeat' first
  | (with_reducible exact laws_markProcS.mono _ _ _)
  | (with_reducible exact LeO.refl _)
  | (with_reducible exact LeO.none _)
  | (with_reducible refine LeO.ite ?_ ?_)
  | (with_reducible refine LeO.bind ?_ (fun _ => ?_))
  | exact laws_markProcS.mono _ _ _
theorem laws_markSnap.cs2 {w : World} {g t : Nat} {a0 a1 : Value} (h : w.heap[g]? = some (.cells #[a0, a1] t (0, 0))) : w.cell? ⟨g, 0, none⟩ = some a0 ∧ w.frozen? ⟨g, 0, none⟩ = false ∧ w.cell? ⟨g, 1, none⟩ = some a1 ∧ w.frozen? ⟨g, 1, none⟩ = false := ⟨(xc h 0).trans rfl, xf h 0, (xc h 1).trans rfl, xf h 1⟩
set_option maxHeartbeats 8000000 in
set_option maxRecDepth 100000 in
theorem laws_markSnap.calls (k : Nat) (P0_0_ : Nat → Prop) (u9000_ : Value) (l0_0 : List (S138)) (P0_1_ : Nat → Prop) (u9001_ : Value) (l0_1 : List (S140)) (a1 : Int) (r1 : Int) (r2 : List (S138)) (r3 : List (S140)) (w0 w : World) (hB : Below w0.heap.size w0 w) (ho0_0 : Kd.R k138 138 w w0.heap.size P0_0_ u9000_ l0_0) (ho0_1 : Kd.S k140 140 w w0.heap.size P0_1_ u9001_ l0_1) (hp0_0_0_1 : ∀ k_, P0_0_ k_ → ¬ P0_1_ k_) (h : laws_markSnap.f k l0_0 l0_1 a1 = some (r1, r2, r3)) :
  Calls Try.prog 78 #[.agg #[u9000_, u9001_], .int .i64 a1] w fun e w' => e = .returned (.int .i64 r1) ∧ Kd.R k138 138 w' w0.heap.size P0_0_ u9000_ r2 ∧ Kd.S k140 140 w' w0.heap.size P0_1_ u9001_ r3 ∧ Below w0.heap.size w0 w' ∧ Kept w w' (fun k_ => P0_0_ k_ ∨ P0_1_ k_) := by
 obtain ⟨A0_0, c0_0, rfl⟩ := Kd.R_slice ho0_0
 obtain ⟨A0_1, c0_1, rfl⟩ := Kd.S_slice ho0_1
 have F0_0 := xm (Kd.R_mono (ok' := fun k_ => P0_0_ k_ ∧ k_ < w.heap.size) (Kd.R_bound ho0_0) (fun k_ h_ => ⟨h_.1, h_.2.2.1⟩))
 have F0_1 := xm (Kd.S_mono (ok' := fun k_ => P0_1_ k_ ∧ k_ < w.heap.size) (Kd.S_bound ho0_1) (fun k_ h_ => ⟨h_.1, h_.2.2.1⟩))
 have hu85 := Try.underlying85
 have HB := xm hB
 have HK := xm (Kept.refl w (fun k_ => P0_0_ k_ ∨ P0_1_ k_))
 have Z0 := xm hB.size
 clear hB ho0_0 ho0_1
 unfold laws_markSnap.f at h
 replace h := Option.bind_eq_some_iff.mp h
 obtain ⟨⟨t3_0, t3_1⟩, t3A0, h⟩ := h
 (try dsimp only at h)
 have t3A := xm t3A0
 clear t3A0
 replace h := Option.bind_eq_some_iff.mp h
 obtain ⟨⟨t4_0, t4_1⟩, t4A0, h⟩ := h
 (try dsimp only at h)
 have t4A := xm t4A0
 clear t4A0
 simp only [Option.some.injEq, Prod.mk.injEq] at h
 obtain ⟨rfl, rfl, rfl⟩ := h
 go_enter Try.func78, Try.ntmps78
 go_wp2_with (first
  | ((with_reducible refine gate_dst (N := 2) rfl ?_); refine box_event ?hgq2 (N := 2) ?hdq2 (cs := #[.slice A0_0 l0_0.length c0_0, .slice A0_1 l0_1.length c0_1]) (t := 85) ?hrq2 ?_; (case hdq2 => rfl); (case hgq2 => rfl); (case hrq2 => exact zB); intro g1 hg_ w1_ hbox_ hb_; have Z1 := xm (hb_.size : w.heap.size ≤ w1_.heap.size); have hk_ := Kept.of_below hb_ (fun _ => False); have m0_ := xm (Kd.R_kept F0_0.out hk_ (fun _ _ h_ => h_)); have m1_ := xm (Kd.S_kept F0_1.out hk_ (fun _ _ h_ => h_)); clear F0_0 F0_1; have F0_0 := m0_; have F0_1 := m1_; clear m0_ m1_; have m0_ := xm (below_step (w := w0) HB.out hb_); clear HB; have HB := m0_; have m1_ := xm (HK.out.then_ hk_ (fun _ h_ => h_.elim)); clear HK; have HK := m1_; clear m1_; have BKg1 := xm hbox_; have GBg1 : Aside0 (w.heap.size ≤ g1 ∧ g1 < w1_.heap.size) := xm ⟨by rw [hg_]; exact Nat.le_refl _, blk_lt hbox_⟩; clear m0_ hb_ hbox_ hg_ hk_; obtain ⟨hcg1_0, hfg1_0, hcg1_1, hfg1_1⟩ := laws_markSnap.cs2 BKg1.out)
  | ((with_reducible refine gate_callee (f := 138) rfl ?_); refine goesL_ (some 8) rfl rfl Try.func138 (by kernel_rfl) rfl #[.slice A0_0 l0_0.length c0_0, .int .i64 a1] rfl mB ?_; refine (laws_markProcS.calls k (fun k_ => P0_0_ k_ ∧ k_ < w.heap.size) (.slice A0_0 l0_0.length c0_0) l0_0 a1 t3_0 t3_1 w0 _ HB.out F0_0.out t3A.out).mono ?_; rintro e w2_ ⟨rfl, h0_, hb_, hkp_⟩; refine ⟨_, rfl, ?_⟩; have Z2 := xm (hkp_.1 : w1_.heap.size ≤ w2_.heap.size); have yF0_0 := xm (Kd.R_reok rfl h0_ (fun k_ e_ => F0_0.out.1 k_ e_)); have m0_ := xm (Kd.S_kept F0_1.out hkp_ (fun k_ h_ h2_ => by exact (fun k_ h_ h2_ => hp0_0_0_1 k_ h2_ h_) k_ h_.1 h2_.1)); have m1_ := xm (blk_kept BKg1.out hkp_ (fun h2_ => by have u_ := GBg1.out; have u2_ := h2_.2; omega)); clear F0_1 BKg1; have F0_1 := m0_; have BKg1 := m1_; clear m0_ m1_; clear F0_0; have F0_0 := yF0_0; clear yF0_0; clear HB; have HB := xm hb_; have m1_ := xm (HK.out.then_ hkp_ (fun _ h_ => .inl (.inl h_.1))); clear HK; have HK := m1_; clear m1_; clear hb_ hkp_ h0_; (try clear LEF0_0); have LEF0_0 := xm (Kd.R_reads' F0_0.out).1; clear hcg1_0 hfg1_0 hcg1_1 hfg1_1; obtain ⟨hcg1_0, hfg1_0, hcg1_1, hfg1_1⟩ := laws_markSnap.cs2 BKg1.out)
  | ((with_reducible refine gate_callee (f := 139) rfl ?_); refine goesL_ (some 12) rfl rfl Try.func139 (by kernel_rfl) rfl #[.slice A0_1 l0_1.length c0_1, .int .i64 t3_0] rfl mB ?_; refine (laws_markWireS.calls (fun k_ => P0_1_ k_ ∧ k_ < w.heap.size) (.slice A0_1 l0_1.length c0_1) l0_1 t3_0 t4_0 t4_1 w0 _ HB.out F0_1.out t4A.out).mono ?_; rintro e w3_ ⟨rfl, h0_, hb_, hkp_⟩; refine ⟨_, rfl, ?_⟩; have Z3 := xm (hkp_.1 : w2_.heap.size ≤ w3_.heap.size); have yF0_1 := xm h0_; have m0_ := xm (Kd.R_kept F0_0.out hkp_ (fun k_ h_ h2_ => by exact hp0_0_0_1 k_ h_.1 h2_.1)); have m1_ := xm (blk_kept BKg1.out hkp_ (fun h2_ => by have u_ := GBg1.out; have u2_ := h2_.2; omega)); clear F0_0 BKg1; have F0_0 := m0_; have BKg1 := m1_; clear m0_ m1_; clear F0_1; have F0_1 := yF0_1; clear yF0_1; clear HB; have HB := xm hb_; have m1_ := xm (HK.out.then_ hkp_ (fun _ h_ => .inl (.inr h_.1))); clear HK; have HK := m1_; clear m1_; clear hb_ hkp_ h0_; (try clear LEF0_1); have LEF0_1 := xm (Kd.S_reads' F0_1.out).1; clear hcg1_0 hfg1_0 hcg1_1 hfg1_1; obtain ⟨hcg1_0, hfg1_0, hcg1_1, hfg1_1⟩ := laws_markSnap.cs2 BKg1.out))
 go_wp2
 go_ret
 exact ⟨rfl, Kd.R_mono F0_0.out (fun _ h_ => h_.1), Kd.S_mono F0_1.out (fun _ h_ => h_.1), HB.out, HK.out⟩

/-! ### laws_heldProcS: function 140 -/
def laws_heldProcS.l0 : Nat → List (S138) → Int → Int → Option (Int)
 | 0, _, _, _ => none
 | k + 1, x0, x1, x5 => if x5 < (x0.length : Int) then (if 0 ≤ x5 then (if ((rd_T138 x0 x5).f0) = x1 then (if ((rd_T138 x0 x5).f1) = (wrap64 (x1 + 1)) then (if (((rd_T138 x0 x5).f2) != ((Int.tmod (wrap64 ((wrap64 (x1 + 1)) + 1)) 3) == 0)) = true then (some (-1)) else (laws_heldProcS.l0 k x0 (wrap64 ((wrap64 ((wrap64 (x1 + 1)) + 1)) + 1)) (wrap64 (x5 + 1)))) else (some (-1))) else (some (-1))) else (none)) else (some x1)
def laws_heldProcS.f (k : Nat) (l0 : List (S138)) (a1 : Int) : Option (Int) := laws_heldProcS.l0 k l0 a1 0
theorem laws_heldProcS.mono_l : ∀ k, (∀ y0 y1 y2, LeO (laws_heldProcS.l0 k y0 y1 y2) (laws_heldProcS.l0 (k + 1) y0 y1 y2))
 | 0 => fun _ _ _ r h => by simp [laws_heldProcS.l0] at h
 | k + 1 => by
  have ih0 := laws_heldProcS.mono_l k
  ·intro y0 y1 y2
   unfold laws_heldProcS.l0
   repeat' first
   | (with_reducible exact ih0 _ _ _)
   | (with_reducible exact LeO.refl _)
   | (with_reducible exact LeO.none _)
   | (with_reducible refine LeO.ite ?_ ?_)
   | (with_reducible refine LeO.bind ?_ (fun _ => ?_))
   | exact ih0 _ _ _
   | exact LeO.none _
   | refine LeO.ite ?_ ?_
   | refine LeO.bind ?_ (fun _ => ?_)
theorem laws_heldProcS.mono : ∀ a0 a1 k, LeO (laws_heldProcS.f k a0 a1) (laws_heldProcS.f (k + 1) a0 a1) := by
 intro a0 a1 k
 have ih0 := laws_heldProcS.mono_l k
 unfold laws_heldProcS.f
 repeat' first
   | (with_reducible exact ih0 _ _ _)
   | (with_reducible exact LeO.refl _)
   | (with_reducible exact LeO.none _)
   | (with_reducible refine LeO.ite ?_ ?_)
   | (with_reducible refine LeO.bind ?_ (fun _ => ?_))
   | exact ih0 _ _ _
   | exact LeO.none _
   | refine LeO.ite ?_ ?_
   | refine LeO.bind ?_ (fun _ => ?_)
set_option maxHeartbeats 8000000 in
set_option maxRecDepth 100000 in
theorem laws_heldProcS.calls (k : Nat) (A0 : Option Addr) (c0 : Nat) (l0 : List (S138)) (a1 : Int) (r : Int) (w : World) (hr0 : Kd.C k138 w A0 l0.length l0) (hc0 : l0.length ≤ c0) (h : laws_heldProcS.f k l0 a1 = some r) :
  Calls Try.prog 140 #[.slice A0 l0.length c0, .int .i64 a1] w fun e w' => e = .returned (.int .i64 r) ∧ Drawn0 w w' := by
 have HR0 := xm hr0
 have HC0 := xm hc0
 clear hr0 hc0
 have H : (laws_heldProcS.l0 k l0 a1 0) = some r := h
 clear h
 have H' := xm H
 clear H
 go_enter Try.func140, Try.ntmps140
 go_wp2
 go_loopg [1, 5] k (fun kq v1 v5 w' => ∃ (x1_1 : Int) (x5_1 : Int), v1 = .int .i64 x1_1 ∧ v5 = .int .i64 x5_1 ∧ Aside0 (laws_heldProcS.l0 kq l0 x1_1 x5_1 = some r) ∧ Aside0 (kq ≤ k) ∧ Drawn0 w w')
 case atStart => exact ⟨(a1), (0), (by first | rfl | (simp; done) | (simp [*]; done)), (by first | rfl | (simp; done) | (simp [*]; done)), H', ⟨Nat.le_refl _⟩, by repeat (first | exact Drawn0.refl _ | apply Drawn0.step)⟩
 case round =>
  clear H'
  try clear c1
  try clear p2
  obtain ⟨x1_1, x5_1, rfl, rfl, HA, HK1, ⟨m1, rfl⟩⟩ := hrel
  cases gk with
  | zero => exact absurd HA.out (by simp [laws_heldProcS.l0])
  | succ k1 =>
   have H := HA.out
   clear HA
   simp only [laws_heldProcS.l0] at H
   by_cases c3 : x5_1 < (l0.length : Int)
   ·rw [if_pos c3] at H
    have c3b0 : decide (x5_1 < (l0.length : Int)) = true := decide_eq_true c3
    clear c3
    by_cases c4 : 0 ≤ x5_1
    ·rw [if_pos c4] at H
     have c4b0 : decide (0 ≤ x5_1) = true := decide_eq_true c4
     clear c4
     by_cases c5 : ((rd_T138 l0 x5_1).f0) = x1_1
     ·rw [if_pos c5] at H
      have c5b0 : (((rd_T138 l0 x5_1).f0) == x1_1) = true := beq_iff_eq.mpr c5
      have c5b1 : (((rd_T138 l0 x5_1).f0) != x1_1) = false := bne_eq_false_iff_eq.mpr c5
      clear c5
      by_cases c6 : ((rd_T138 l0 x5_1).f1) = (wrap64 (x1_1 + 1))
      ·rw [if_pos c6] at H
       have c6b0 : (((rd_T138 l0 x5_1).f1) == (wrap64 (x1_1 + 1))) = true := beq_iff_eq.mpr c6
       have c6b1 : (((rd_T138 l0 x5_1).f1) != (wrap64 (x1_1 + 1))) = false := bne_eq_false_iff_eq.mpr c6
       clear c6
       by_cases c7 : (((rd_T138 l0 x5_1).f2) != ((Int.tmod (wrap64 ((wrap64 (x1_1 + 1)) + 1)) 3) == 0)) = true
       ·rw [if_pos c7] at H
        have c7b0 : (((rd_T138 l0 x5_1).f2) != ((Int.tmod (wrap64 ((wrap64 (x1_1 + 1)) + 1)) 3) == 0)) = true := c7
        (try (have c7b1 : decide (((rd_T138 l0 x5_1).f2) = ((Int.tmod (wrap64 ((wrap64 (x1_1 + 1)) + 1)) 3) == 0)) = false := by simpa using c7))
        (try (have c7b2 : (((rd_T138 l0 x5_1).f2) == ((Int.tmod (wrap64 ((wrap64 (x1_1 + 1)) + 1)) 3) == 0)) = false := by simpa using c7))
        (try (have c7b3 : ¬ (((rd_T138 l0 x5_1).f2) = ((Int.tmod (wrap64 ((wrap64 (x1_1 + 1)) + 1)) 3) == 0)) := by simpa using c7))
        clear c7
        obtain rfl := Option.some.inj H
        have p193 : 0 ≤ (x5_1 : Int) := of_decide_eq_true aB
        have q193 : x5_1 < (l0.length : Int) := of_decide_eq_true aB
        obtain ⟨ad193, e193, hx193_0, hx193_1, hx193_2⟩ := at_T138 HR0.out x5_1 p193 q193
        cases e193
        replace p193 := eq_true p193
        replace q193 := eq_true q193
        have p194 : 0 ≤ (x5_1 : Int) := of_decide_eq_true aB
        have q194 : x5_1 < (l0.length : Int) := of_decide_eq_true aB
        obtain ⟨ad194, e194, hx194_0, hx194_1, hx194_2⟩ := at_T138 HR0.out x5_1 p194 q194
        obtain rfl : ad193 = ad194 := (by injection e194)
        replace p194 := eq_true p194
        replace q194 := eq_true q194
        have p195 : 0 ≤ (x5_1 : Int) := of_decide_eq_true aB
        have q195 : x5_1 < (l0.length : Int) := of_decide_eq_true aB
        obtain ⟨ad195, e195, hx195_0, hx195_1, hx195_2⟩ := at_T138 HR0.out x5_1 p195 q195
        obtain rfl : ad193 = ad195 := (by injection e195)
        replace p195 := eq_true p195
        replace q195 := eq_true q195
        go_wp2
        go_ret
        exact ⟨by first | rfl | (simp; done) | (simp [*]; done), by repeat (first | exact Drawn0.refl _ | apply Drawn0.step)⟩
       ·rw [if_neg c7] at H
        have c7b0 : (((rd_T138 l0 x5_1).f2) != ((Int.tmod (wrap64 ((wrap64 (x1_1 + 1)) + 1)) 3) == 0)) = false := by simpa using c7
        (try (have c7b1 : decide (((rd_T138 l0 x5_1).f2) = ((Int.tmod (wrap64 ((wrap64 (x1_1 + 1)) + 1)) 3) == 0)) = true := by simpa using c7))
        (try (have c7b2 : (((rd_T138 l0 x5_1).f2) == ((Int.tmod (wrap64 ((wrap64 (x1_1 + 1)) + 1)) 3) == 0)) = true := by simpa using c7))
        clear c7
        have H' := xm H
        clear H
        have p193 : 0 ≤ (x5_1 : Int) := of_decide_eq_true aB
        have q193 : x5_1 < (l0.length : Int) := of_decide_eq_true aB
        obtain ⟨ad193, e193, hx193_0, hx193_1, hx193_2⟩ := at_T138 HR0.out x5_1 p193 q193
        cases e193
        replace p193 := eq_true p193
        replace q193 := eq_true q193
        have p194 : 0 ≤ (x5_1 : Int) := of_decide_eq_true aB
        have q194 : x5_1 < (l0.length : Int) := of_decide_eq_true aB
        obtain ⟨ad194, e194, hx194_0, hx194_1, hx194_2⟩ := at_T138 HR0.out x5_1 p194 q194
        obtain rfl : ad193 = ad194 := (by injection e194)
        replace p194 := eq_true p194
        replace q194 := eq_true q194
        have p195 : 0 ≤ (x5_1 : Int) := of_decide_eq_true aB
        have q195 : x5_1 < (l0.length : Int) := of_decide_eq_true aB
        obtain ⟨ad195, e195, hx195_0, hx195_1, hx195_2⟩ := at_T138 HR0.out x5_1 p195 q195
        obtain rfl : ad193 = ad195 := (by injection e195)
        replace p195 := eq_true p195
        replace q195 := eq_true q195
        go_wp2
        go_roundg k1
        case measure => have := HK1.out; omega
        case rel => exact ⟨(wrap64 ((wrap64 ((wrap64 (x1_1 + 1)) + 1)) + 1)), (wrap64 (x5_1 + 1)), (by first | rfl | (simp; done) | (simp [*]; done)), (by first | rfl | (simp; done) | (simp [*]; done)), H', ⟨by have := HK1.out; omega⟩, by repeat (first | exact Drawn0.refl _ | apply Drawn0.step)⟩
      ·rw [if_neg c6] at H
       have c6b0 : (((rd_T138 l0 x5_1).f1) == (wrap64 (x1_1 + 1))) = false := beq_eq_false_iff_ne.mpr c6
       have c6b1 : (((rd_T138 l0 x5_1).f1) != (wrap64 (x1_1 + 1))) = true := bne_iff_ne.mpr c6
       obtain rfl := Option.some.inj H
       have p193 : 0 ≤ (x5_1 : Int) := of_decide_eq_true aB
       have q193 : x5_1 < (l0.length : Int) := of_decide_eq_true aB
       obtain ⟨ad193, e193, hx193_0, hx193_1, hx193_2⟩ := at_T138 HR0.out x5_1 p193 q193
       cases e193
       replace p193 := eq_true p193
       replace q193 := eq_true q193
       have p194 : 0 ≤ (x5_1 : Int) := of_decide_eq_true aB
       have q194 : x5_1 < (l0.length : Int) := of_decide_eq_true aB
       obtain ⟨ad194, e194, hx194_0, hx194_1, hx194_2⟩ := at_T138 HR0.out x5_1 p194 q194
       obtain rfl : ad193 = ad194 := (by injection e194)
       replace p194 := eq_true p194
       replace q194 := eq_true q194
       go_wp2
       go_ret
       exact ⟨by first | rfl | (simp; done) | (simp [*]; done), by repeat (first | exact Drawn0.refl _ | apply Drawn0.step)⟩
     ·rw [if_neg c5] at H
      have c5b0 : (((rd_T138 l0 x5_1).f0) == x1_1) = false := beq_eq_false_iff_ne.mpr c5
      have c5b1 : (((rd_T138 l0 x5_1).f0) != x1_1) = true := bne_iff_ne.mpr c5
      obtain rfl := Option.some.inj H
      have p193 : 0 ≤ (x5_1 : Int) := of_decide_eq_true aB
      have q193 : x5_1 < (l0.length : Int) := of_decide_eq_true aB
      obtain ⟨ad193, e193, hx193_0, hx193_1, hx193_2⟩ := at_T138 HR0.out x5_1 p193 q193
      cases e193
      replace p193 := eq_true p193
      replace q193 := eq_true q193
      go_wp2
      go_ret
      exact ⟨by first | rfl | (simp; done) | (simp [*]; done), by repeat (first | exact Drawn0.refl _ | apply Drawn0.step)⟩
    ·rw [if_neg c4] at H
     exact absurd H (by simp)
   ·rw [if_neg c3] at H
    have c3b0 : decide (x5_1 < (l0.length : Int)) = false := decide_eq_false c3
    clear c3
    obtain rfl := Option.some.inj H
    go_wp2
    go_ret
    exact ⟨by first | rfl | (simp; done) | (simp [*]; done), by repeat (first | exact Drawn0.refl _ | apply Drawn0.step)⟩

end Go.Proofs.Ytpbpglbldgpckaa.G
