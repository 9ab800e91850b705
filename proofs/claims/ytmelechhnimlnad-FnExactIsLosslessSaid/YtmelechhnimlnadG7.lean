/- Written by a program of this claim's own, out of the translation: functions of the program as plain functions, and that the calls answer as these. No conditions. -/
import Derived.Test.YtmelechhnimlnadG0
import Derived.Test.YtmelechhnimlnadG1
import Derived.Test.YtmelechhnimlnadG6
namespace Go.Proofs.Ytmelechhnimlnad.G
open Go.RowKit Go.Proofs.Ytmelechhnimlnad.X Go.Proofs.YtmelechhnimlnadW.PrintWords Go.Proofs.YtmelechhnimlnadW.PrintLast Go.Proofs.YtmelechhnimlnadW.PrintMore
attribute [local go_sem] max2_int min2_int max_two min_two max_three min_three max_four min_four   -- for this text's walks alone
set_option linter.unusedVariables false
set_option linter.unusedSimpArgs false

/-! ### spec_l9Chase: function 16 -/
def spec_l9Chase.l0 : Nat → List (S49) → Int → Int → List (S48) → Option (Int × (List (S48)) × Int)
 | 0, _, _, _, _ => none
 | k + 1, x1, x6, x230000, x230001 => (spec_l9Step.f k x230000 x230001 x1).bind fun bt231 => (if bt231.2.2 = true then (spec_l9Chase.l0 k x1 (wrap64 (x6 + 1)) bt231.1 bt231.2.1) else (some (x230000, x230001, x6)))
def spec_l9Chase.f (k : Nat) (a0_0 : Int) (l0_1 : List (S48)) (l1 : List (S49)) : Option (Int × (List (S48)) × Int) := spec_l9Chase.l0 k l1 0 a0_0 l0_1
theorem spec_l9Chase.mono_l : ∀ k, (∀ y0 y1 y2 y3, LeO (spec_l9Chase.l0 k y0 y1 y2 y3) (spec_l9Chase.l0 (k + 1) y0 y1 y2 y3))
 | 0 => fun _ _ _ _ r h => by simp [spec_l9Chase.l0] at h
 | k + 1 => by
  have ih0 := spec_l9Chase.mono_l k
  ·intro y0 y1 y2 y3
   unfold spec_l9Chase.l0
   repeat' first
   | (with_reducible exact ih0 _ _ _ _)
   | (with_reducible exact spec_l9Step.mono _ _ _ _)
   | (with_reducible exact LeO.refl _)
   | (with_reducible exact LeO.none _)
   | (with_reducible refine LeO.ite ?_ ?_)
   | (with_reducible refine LeO.bind ?_ (fun _ => ?_))
   | exact ih0 _ _ _ _
   | exact spec_l9Step.mono _ _ _ _
   | exact LeO.none _
   | refine LeO.ite ?_ ?_
   | refine LeO.bind ?_ (fun _ => ?_)
theorem spec_l9Chase.mono : ∀ a0 a1 a2 k, LeO (spec_l9Chase.f k a0 a1 a2) (spec_l9Chase.f (k + 1) a0 a1 a2) := by
 intro a0 a1 a2 k
 have ih0 := spec_l9Chase.mono_l k
 unfold spec_l9Chase.f
 repeat' first
   | (with_reducible exact ih0 _ _ _ _)
   | (with_reducible exact spec_l9Step.mono _ _ _ _)
   | (with_reducible exact LeO.refl _)
   | (with_reducible exact LeO.none _)
   | (with_reducible refine LeO.ite ?_ ?_)
   | (with_reducible refine LeO.bind ?_ (fun _ => ?_))
   | exact ih0 _ _ _ _
   | exact spec_l9Step.mono _ _ _ _
   | exact LeO.none _
   | refine LeO.ite ?_ ?_
   | refine LeO.bind ?_ (fun _ => ?_)
set_option maxHeartbeats 8000000 in
set_option maxRecDepth 100000 in
theorem spec_l9Chase.calls (k : Nat) (a0_0 : Int) (P0_1_ : Nat → Prop) (A0_1 : Option Addr) (c0_1 : Nat) (l0_1 : List (S48)) (A1 : Option Addr) (c1 : Nat) (l1 : List (S49)) (r1 : Int) (r2 : List (S48)) (r3 : Int) (w : World) (hs0_1 : Kd.V k48 48 w w.heap.size (fun k_ => P0_1_ k_) (.slice A0_1 l0_1.length c0_1) l0_1) (hr1 : Kd.C k49 w A1 l1.length l1) (hc1 : l1.length ≤ c1) (h : spec_l9Chase.f k a0_0 l0_1 l1 = some (r1, r2, r3)) :
  Calls Try.prog 16 #[.agg #[.int .i64 a0_0, .slice A0_1 l0_1.length c0_1], .slice A1 l1.length c1] w fun e w' => ∃ v1_ : Value, e = .returned (.tuple #[.agg #[.int .i64 r1, v1_], .int .i64 r3]) ∧ Kd.V k48 48 w' w.heap.size (fun k_ => (P0_1_ k_ ∨ w.heap.size ≤ k_)) v1_ r2 ∧ Below w.heap.size w w' := by
 have hu43 := Try.underlying43
 have HO0_1 := xm (show Kd.V k48 48 w w.heap.size (fun k_ => (P0_1_ k_ ∨ w.heap.size ≤ k_)) (.slice A0_1 l0_1.length c0_1) l0_1 from Kd.V_mono hs0_1 (fun k_ hk => .inl hk))
 have HR1 := xm hr1
 have HC1 := xm hc1
 clear hr1 hc1
 have HB := xm (Below.refl w.heap.size w)
 have H : (spec_l9Chase.l0 k l1 0 a0_0 l0_1) = some (r1, r2, r3) := h
 clear h
 have H' := xm H
 clear H
 go_enter Try.func16, Try.ntmps16
 go_wp2_with (first | ((with_reducible refine gate_dst (N := 2) rfl ?_); refine box_event ?hg (N := 2) ?hd (cs := #[.int .i64 a0_0, .slice A0_1 l0_1.length c0_1]) (t := 43) ?hr ?_; (case hd => rfl); (case hg => rfl); (case hr => exact zB); intro gb229 hg w3 hbox hb; have n0_ := xm (Kd.V_below (Kd.V_elderB (by (with_reducible repeat (first | apply Kd.V_alloc | apply Kd.V_drewN | apply Kd.V_drew)); exact HO0_1.out) gb229 (Nat.le_of_eq hg.symm)) hb); have n1_ := xm (below_step bB hb); have n2_ := xm (hbox); have n3_ := xm ((by rw [hg]; exact (xz bB) : w.heap.size ≤ gb229)); have n4_ := xm ((by rw [hg]; exact (xz bB) : w.heap.size ≤ gb229)); revert n0_ n1_ n2_ n3_ n4_; clear HO0_1 HB; intro HO0_1 HB BK229 GW229 GE229; clear hb hbox hg) | ((with_reducible refine gate_dst (N := 4) rfl ?_); refine box_event ?hg (N := 4) ?hd (cs := #[.int .i64 0, .slice none 0 0]) (t := 43) ?hr ?_; (case hd => rfl); (case hg => rfl); (case hr => exact zB); intro gb230 hg w4 hbox hb; have n0_ := xm (Kd.V_below (Kd.V_elderB (by (with_reducible repeat (first | apply Kd.V_alloc | apply Kd.V_drewN | apply Kd.V_drew)); exact HO0_1.out) gb230 (Nat.le_of_eq hg.symm)) hb); have n1_ := xm (blk_below (kB BK229) hb); have n2_ := xm (below_step bG hb); have n3_ := xm (hbox); have n4_ := xm ((by rw [hg]; exact (xz bG) : w.heap.size ≤ gb230)); have n5_ := xm ((by rw [hg]; exact (xz bG) : w.heap.size ≤ gb230)); have n6_ := xm ((by rw [hg]; exact Nat.ne_of_lt (blk_lt (kB BK229)) : gb229 ≠ gb230)); have n7_ := xm ((by rw [hg]; exact Nat.ne_of_gt (blk_lt (kB BK229)) : gb230 ≠ gb229)); revert n0_ n1_ n2_ n3_ n4_ n5_ n6_ n7_; clear HO0_1 BK229 HB; intro HO0_1 BK229 HB BK230 GW230 GE230 NB229_230 NB230_229; clear hb hbox hg))
 go_loopg [6] k (fun kq v6 w' => ∃ (x6_1 : Int) (x230000_1 : Int) (x230001_1 : List (S48)) (x231000_1 : Int) (u230001 : Value), v6 = .int .i64 x6_1 ∧ Aside0 (spec_l9Chase.l0 kq l1 x6_1 x230000_1 x230001_1 = some (r1, r2, r3)) ∧ Aside0 (kq ≤ k) ∧ Aside0 (Kd.V k48 48 w' w.heap.size (fun k_ => (P0_1_ k_ ∨ w.heap.size ≤ k_) ∧ k_ ≠ gb229 ∧ k_ ≠ gb230) u230001 x230001_1) ∧ Aside0 (w'.heap[gb229]? = some (.cells #[.int .i64 x230000_1, u230001] 43 (0, 0))) ∧ Aside0 (w'.heap[gb230]? = some (.cells #[.int .i64 x231000_1, (.slice none 0 0)] 43 (0, 0))) ∧ Aside0 (Below w.heap.size w w'))
 case atStart => exact ⟨(0), (a0_0), (l0_1), (0), (.slice A0_1 l0_1.length c0_1), sB, H', ⟨Nat.le_refl _⟩, ⟨by (with_reducible repeat (first | apply Kd.V_alloc | apply Kd.V_drewN | apply Kd.V_drew)); exact Kd.V_mono HO0_1.out (fun _ hk => ⟨hk.1.1, ⟨hk.1.2, hk.2⟩⟩)⟩, ⟨kB BK229⟩, ⟨kB BK230⟩, ⟨bG⟩⟩
 case round =>
  clear H'
  try clear c1
  try clear p2
  obtain ⟨x6_1, x230000_1, x230001_1, x231000_1, u230001, rfl, HA, HK1, HO_230001, BK229, BK230, HB⟩ := hrel
  cases gk with
  | zero => exact absurd HA.out (by simp [spec_l9Chase.l0])
  | succ k1 =>
   have H := HA.out
   clear HA
   simp only [spec_l9Chase.l0] at H
   replace H := Option.bind_eq_some_iff.mp H
   obtain ⟨⟨t231, t232, t235⟩, A50, H⟩ := H
   replace H : (if t235 = true then (spec_l9Chase.l0 k1 l1 (wrap64 (x6_1 + 1)) t231 t232) else (some (x230000_1, x230001_1, x6_1))) = some (r1, r2, r3) := H
   have A5 := xm A50
   clear A50
   by_cases c6 : t235 = true
   ·subst c6
    have H1 : (spec_l9Chase.l0 k1 l1 (wrap64 (x6_1 + 1)) t231 t232) = some (r1, r2, r3) := by first | (with_reducible rfl) | (rw [if_pos rfl] at H; exact H)
    clear H
    have H := H1
    clear H1
    have H' := xm H
    clear H
    have hnb7 := NB229_230.out
    have hnc7 := NB230_229.out
    obtain ⟨hcz8_0, hcz8_1, hfz8_0, hfz8_1⟩ := cz2 BK229.out
    obtain ⟨Ao9, co9, eo9⟩ := Kd.V_slice HO_230001.out
    subst eo9
    go_wp2_with (first | ((with_reducible refine gate_callee (f := 34) rfl ?_); refine goesL_ (some 12) rfl rfl Try.func34 (by kernel_rfl) rfl #[.agg #[.int .i64 x230000_1, .slice Ao9 x230001_1.length co9], .slice A1 l1.length c1] rfl mB ?_; (with_reducible refine (spec_l9Step.calls k1 x230000_1 _ _ x230001_1 _ _ l1 t231 t232 true _ ?side1 ?side2 ?side3 ?side4 A5.out).mono ?_); (case side1 => repeat (first | exact (Kd.V_reads' HO_230001.out).2.2 | (with_reducible refine Kd.C_alloc ?_ _) | (with_reducible refine Kd.C_drewN ?_ _) | (with_reducible refine Kd.C_drew ?_))); (case side2 => exact (Kd.V_reads' HO_230001.out).2.1); (case side3 => exact cB (Kd.C_below HR1.out HB.out)); (case side4 => exact HC1.out); rintro e w10 ⟨v233, rfl, ho0, hb⟩; refine ⟨_, rfl, ?_⟩; have n0_ := xm (Kd.V_elder' (by (with_reducible repeat (first | apply Kd.V_alloc | apply Kd.V_drewN | apply Kd.V_drew)); exact HO_230001.out) (Kd.S_base ho0) hb); have n1_ := xm (Kd.S_lower (Kd.S_newM (M := fun k_ => (w.heap.size ≤ k_)) ho0 (xz bG) (fun k_ h_ => h_)) (xz bG)); have n2_ := xm (blk_below (kB BK229) hb); have n3_ := xm (blk_below (kB BK230) hb); have n4_ := xm (below_step bG hb); revert n0_ n1_ n2_ n3_ n4_; clear HO_230001 BK229 BK230 HB; intro HO_230001 HO234 BK229 BK230 HB; (try clear hb); (try clear ho0)) | ((with_reducible refine gate_dst (N := 7) rfl ?_); refine box_event ?hg (N := 7) ?hd (cs := #[.int .i64 0, .slice none 0 0]) (t := 43) ?hr ?_; (case hd => rfl); (case hg => rfl); (case hr => exact zB); intro gb236 hg w11 hbox hb; have n0_ := xm (Kd.V_below (Kd.V_elderB (by (with_reducible repeat (first | apply Kd.V_alloc | apply Kd.V_drewN | apply Kd.V_drew)); exact HO_230001.out) gb236 (Nat.le_of_eq hg.symm)) hb); have n1_ := xm (Kd.S_below (tB HO234) hb); have n2_ := xm (blk_below (kB BK229) hb); have n3_ := xm (blk_below (kB BK230) hb); have n4_ := xm (below_step bG hb); have n5_ := xm (hbox); have n6_ := xm ((by rw [hg]; exact (xz bG) : w.heap.size ≤ gb236)); have n7_ := xm ((by rw [hg]; exact (xz bG) : w.heap.size ≤ gb236)); have n8_ := xm ((by rw [hg]; exact Nat.ne_of_lt (blk_lt (kB BK229)) : gb229 ≠ gb236)); have n9_ := xm ((by rw [hg]; exact Nat.ne_of_gt (blk_lt (kB BK229)) : gb236 ≠ gb229)); have n10_ := xm ((by rw [hg]; exact Nat.ne_of_lt (blk_lt (kB BK230)) : gb230 ≠ gb236)); have n11_ := xm ((by rw [hg]; exact Nat.ne_of_gt (blk_lt (kB BK230)) : gb236 ≠ gb230)); revert n0_ n1_ n2_ n3_ n4_ n5_ n6_ n7_ n8_ n9_ n10_ n11_; clear HO_230001 HO234 BK229 BK230 HB; intro HO_230001 HO234 BK229 BK230 HB BK236 GW236 GE236 NB229_236 NB236_229 NB230_236 NB236_230; clear hb hbox hg; have hnb12 := NB236_229.out; have hnc12 := NB229_236.out; have hnb13 := NB236_230.out; have hnc13 := NB230_236.out; obtain ⟨hcz14_0, hcz14_1, hfz14_0, hfz14_1⟩ := cz2 BK236.out; obtain ⟨Ao15, co15, eo15⟩ := Kd.S_slice HO234.out; subst eo15; obtain ⟨hcz16_0, hcz16_1, hfz16_0, hfz16_1⟩ := cz2 BK229.out))
    go_roundg k1
    case measure => have := HK1.out; omega
    case rel => exact ⟨(wrap64 (x6_1 + 1)), (t231), (t232), (x231000_1), (.slice Ao15 t232.length co15), sB, H', ⟨by have := HK1.out; omega⟩, ⟨Kd.V_mono (Kd.S_V (by (with_reducible repeat (first | apply Kd.S_alloc | apply Kd.S_drewN | apply Kd.S_drew)); exact (Kd.S_far (p := ⟨gb229, 1, none⟩) (Kd.S_far (p := ⟨gb229, 0, none⟩) (Kd.S_far (p := ⟨gb236, 1, none⟩) (Kd.S_far (p := ⟨gb236, 0, none⟩) (Kd.S_types (Kd.S_types (Kd.S_types (Kd.S_types HO234.out BK229.out (by decide)) BK230.out (by decide)) BK236.out (by decide)) BK229.out (by decide)) (fun _ hk => hk.1.2) (.int .i64 t231)) (fun _ hk => hk.1.2) (.slice Ao15 t232.length co15)) (fun _ hk => hk.2) (.int .i64 t231)) (fun _ hk => hk.2) (.slice Ao15 t232.length co15)))) (fun k_ hk => by have hk := (And.intro hk.1.1.1.1.1 (And.intro hk.1.1.1.2 hk.1.1.2)); first | exact ⟨(.inr (hk.1)), hk.2⟩ | exact (.inr (hk)))⟩, ⟨by (with_reducible repeat (first | refine xq ?_ _ | refine xr ?_ | refine xo ?_ _)); refine blk_put (cs := #[.int .i64 t231, .slice Ao9 x230001_1.length co9]) ?_ 1 _ rfl; (with_reducible repeat (first | refine xq ?_ _ | refine xr ?_ | refine xo ?_ _)); refine blk_put (cs := #[.int .i64 x230000_1, .slice Ao9 x230001_1.length co9]) ?_ 0 _ rfl; (with_reducible repeat (first | refine xq ?_ _ | refine xr ?_ | refine xo ?_ _)); refine blk_far ?_ NB229_236.out _; (with_reducible repeat (first | refine xq ?_ _ | refine xr ?_ | refine xo ?_ _)); refine blk_far ?_ NB229_236.out _; (with_reducible repeat (first | refine xq ?_ _ | refine xr ?_ | refine xo ?_ _)); exact BK229.out⟩, ⟨by (with_reducible repeat (first | refine xq ?_ _ | refine xr ?_ | refine xo ?_ _)); refine blk_far ?_ NB230_229.out _; (with_reducible repeat (first | refine xq ?_ _ | refine xr ?_ | refine xo ?_ _)); refine blk_far ?_ NB230_229.out _; (with_reducible repeat (first | refine xq ?_ _ | refine xr ?_ | refine xo ?_ _)); refine blk_far ?_ NB230_236.out _; (with_reducible repeat (first | refine xq ?_ _ | refine xr ?_ | refine xo ?_ _)); refine blk_far ?_ NB230_236.out _; (with_reducible repeat (first | refine xq ?_ _ | refine xr ?_ | refine xo ?_ _)); exact BK230.out⟩, ⟨bG⟩⟩
   ·replace c6 := Bool.eq_false_iff.mpr c6
    subst c6
    have H1 : (some (x230000_1, x230001_1, x6_1)) = some (r1, r2, r3) := by first | (with_reducible rfl) | (rw [if_neg (show ¬ (false = true) by decide)] at H; exact H)
    clear H
    have H := H1
    clear H1
    simp only [Option.some.injEq, Prod.mk.injEq] at H
    obtain ⟨rfl, rfl, rfl⟩ := H
    have hnb17 := NB229_230.out
    have hnc17 := NB230_229.out
    obtain ⟨hcz18_0, hcz18_1, hfz18_0, hfz18_1⟩ := cz2 BK229.out
    obtain ⟨Ao19, co19, eo19⟩ := Kd.V_slice HO_230001.out
    subst eo19
    go_wp2_with (first | ((with_reducible refine gate_callee (f := 34) rfl ?_); refine goesL_ (some 12) rfl rfl Try.func34 (by kernel_rfl) rfl #[.agg #[.int .i64 x230000_1, .slice Ao19 x230001_1.length co19], .slice A1 l1.length c1] rfl mB ?_; (with_reducible refine (spec_l9Step.calls k1 x230000_1 _ _ x230001_1 _ _ l1 t231 t232 false _ ?side1 ?side2 ?side3 ?side4 A5.out).mono ?_); (case side1 => repeat (first | exact (Kd.V_reads' HO_230001.out).2.2 | (with_reducible refine Kd.C_alloc ?_ _) | (with_reducible refine Kd.C_drewN ?_ _) | (with_reducible refine Kd.C_drew ?_))); (case side2 => exact (Kd.V_reads' HO_230001.out).2.1); (case side3 => exact cB (Kd.C_below HR1.out HB.out)); (case side4 => exact HC1.out); rintro e w20 ⟨v233, rfl, ho0, hb⟩; refine ⟨_, rfl, ?_⟩; have n0_ := xm (Kd.V_elder' (by (with_reducible repeat (first | apply Kd.V_alloc | apply Kd.V_drewN | apply Kd.V_drew)); exact HO_230001.out) (Kd.S_base ho0) hb); have n1_ := xm (Kd.S_lower (Kd.S_newM (M := fun k_ => (w.heap.size ≤ k_)) ho0 (xz bG) (fun k_ h_ => h_)) (xz bG)); have n2_ := xm (blk_below (kB BK229) hb); have n3_ := xm (blk_below (kB BK230) hb); have n4_ := xm (below_step bG hb); revert n0_ n1_ n2_ n3_ n4_; clear HO_230001 BK229 BK230 HB; intro HO_230001 HO234 BK229 BK230 HB; (try clear hb); (try clear ho0)) | ((with_reducible refine gate_dst (N := 7) rfl ?_); refine box_event ?hg (N := 7) ?hd (cs := #[.int .i64 0, .slice none 0 0]) (t := 43) ?hr ?_; (case hd => rfl); (case hg => rfl); (case hr => exact zB); intro gb236 hg w21 hbox hb; have n0_ := xm (Kd.V_below (Kd.V_elderB (by (with_reducible repeat (first | apply Kd.V_alloc | apply Kd.V_drewN | apply Kd.V_drew)); exact HO_230001.out) gb236 (Nat.le_of_eq hg.symm)) hb); have n1_ := xm (Kd.S_below (tB HO234) hb); have n2_ := xm (blk_below (kB BK229) hb); have n3_ := xm (blk_below (kB BK230) hb); have n4_ := xm (below_step bG hb); have n5_ := xm (hbox); have n6_ := xm ((by rw [hg]; exact (xz bG) : w.heap.size ≤ gb236)); have n7_ := xm ((by rw [hg]; exact (xz bG) : w.heap.size ≤ gb236)); have n8_ := xm ((by rw [hg]; exact Nat.ne_of_lt (blk_lt (kB BK229)) : gb229 ≠ gb236)); have n9_ := xm ((by rw [hg]; exact Nat.ne_of_gt (blk_lt (kB BK229)) : gb236 ≠ gb229)); have n10_ := xm ((by rw [hg]; exact Nat.ne_of_lt (blk_lt (kB BK230)) : gb230 ≠ gb236)); have n11_ := xm ((by rw [hg]; exact Nat.ne_of_gt (blk_lt (kB BK230)) : gb236 ≠ gb230)); revert n0_ n1_ n2_ n3_ n4_ n5_ n6_ n7_ n8_ n9_ n10_ n11_; clear HO_230001 HO234 BK229 BK230 HB; intro HO_230001 HO234 BK229 BK230 HB BK236 GW236 GE236 NB229_236 NB236_229 NB230_236 NB236_230; clear hb hbox hg; have hnb22 := NB236_229.out; have hnc22 := NB229_236.out; have hnb23 := NB236_230.out; have hnc23 := NB230_236.out; obtain ⟨hcz24_0, hcz24_1, hfz24_0, hfz24_1⟩ := cz2 BK236.out; obtain ⟨Ao25, co25, eo25⟩ := Kd.S_slice HO234.out; subst eo25; obtain ⟨hcz26_0, hcz26_1, hfz26_0, hfz26_1⟩ := cz2 BK229.out; obtain ⟨hcz27_0, hcz27_1, hfz27_0, hfz27_1⟩ := cz2 BK230.out))
    refine bodyPost_ret (results_ct rfl _ _ gb230 43 #[.int .i64 x230000_1, .slice Ao19 x230001_1.length co19] (0, 0) _ rfl (by (with_reducible repeat (first | refine xq ?_ _ | refine xr ?_ | refine xo ?_ _)); refine blk_put (cs := #[.int .i64 x230000_1, .slice none 0 0]) ?_ 1 _ rfl; (with_reducible repeat (first | refine xq ?_ _ | refine xr ?_ | refine xo ?_ _)); refine blk_put (cs := #[.int .i64 x231000_1, .slice none 0 0]) ?_ 0 _ rfl; (with_reducible repeat (first | refine xq ?_ _ | refine xr ?_ | refine xo ?_ _)); refine blk_far ?_ NB230_236.out _; (with_reducible repeat (first | refine xq ?_ _ | refine xr ?_ | refine xo ?_ _)); refine blk_far ?_ NB230_236.out _; (with_reducible repeat (first | refine xq ?_ _ | refine xr ?_ | refine xo ?_ _)); exact BK230.out) Try.underlying43 rfl (by kernel_rfl)) rfl ?_
    exact ⟨_, eB, by (with_reducible repeat (first | apply Kd.V_alloc | apply Kd.V_drewN | apply Kd.V_drew)); exact Kd.V_mono (Kd.V_far (p := ⟨gb230, 1, none⟩) (Kd.V_far (p := ⟨gb230, 0, none⟩) (Kd.V_far (p := ⟨gb236, 1, none⟩) (Kd.V_far (p := ⟨gb236, 0, none⟩) (Kd.V_mono (Kd.V_mono HO_230001.out (fun k_ hk => (⟨hk, hk.2⟩ : _ ∧ k_ ≠ gb236))) (fun k_ hk => (⟨hk, hk.1.1.1.2.2⟩ : _ ∧ k_ ≠ gb230))) (fun _ hk => hk.1.2) (.int .i64 t231)) (fun _ hk => hk.1.2) (.slice Ao25 t232.length co25)) (fun _ hk => hk.2) (.int .i64 x230000_1)) (fun _ hk => hk.2) (.slice Ao19 x230001_1.length co19)) (fun _ hk => hk.1.1.1.1.1), bG⟩

/-! ### spec_l9Start: function 17 -/
mutual
def spec_l9Start.l0 : Nat → Int → List (List Int) → Int → Int → Int → List (S48) → Option (Int × (List (S48)))
 | 0, _, _, _, _, _, _ => none
 | k + 1, x1, x12, x13, x14, x239000, x239001 => if x14 < x13 then (if 0 ≤ x14 then (if x14 < (x12.length : Int) then (spec_l9Start.l1 k x1 x14 (rd_L1 x12 x14) 0 x12 x13 x14 x239000 x239001 ([] : List Int)) else (none)) else (none)) else (some (x239000, x239001))
def spec_l9Start.l1 : Nat → Int → Int → List Int → Int → List (List Int) → Int → Int → Int → List (S48) → List Int → Option (Int × (List (S48)))
 | 0, _, _, _, _, _, _, _, _, _, _ => none
 | k + 1, x1, x6, x7, x9, x12, x13, x14, x239000, x239001, x241000 => if x9 < x1 then ((spec_l1Has.f k x7 x9).bind fun t241 => (if t241 = true then (if x241000.length < 17592186044416 then (spec_l9Start.l1 k x1 x6 x7 (wrap64 (x9 + 1)) x12 x13 x14 x239000 x239001 (x241000 ++ [0])) else (none)) else (if x241000.length < 17592186044416 then (spec_l9Start.l1 k x1 x6 x7 (wrap64 (x9 + 1)) x12 x13 x14 x239000 x239001 (x241000 ++ [wrap64 ((wrap64 ((wrap64 (x6 * 6)) + x9)) + 1)])) else (none)))) else (if x239001.length < 5864062014805 then (spec_l9Start.l0 k x1 x12 x13 (wrap64 (x14 + 1)) x239000 (x239001 ++ [(⟨x241000⟩ : S48)])) else (none))
end
def spec_l9Start.f (k : Nat) (l0 : List (List Int)) (a1 : Int) : Option (Int × (List (S48))) := spec_l9Start.l0 k a1 l0 (l0.length : Int) 0 a1 ([] : List (S48))
theorem spec_l9Start.mono_l : ∀ k, (∀ y0 y1 y2 y3 y4 y5, LeO (spec_l9Start.l0 k y0 y1 y2 y3 y4 y5) (spec_l9Start.l0 (k + 1) y0 y1 y2 y3 y4 y5)) ∧ (∀ y0 y1 y2 y3 y4 y5 y6 y7 y8 y9, LeO (spec_l9Start.l1 k y0 y1 y2 y3 y4 y5 y6 y7 y8 y9) (spec_l9Start.l1 (k + 1) y0 y1 y2 y3 y4 y5 y6 y7 y8 y9))
 | 0 => ⟨fun _ _ _ _ _ _ r h => by simp [spec_l9Start.l0] at h, fun _ _ _ _ _ _ _ _ _ _ r h => by simp [spec_l9Start.l1] at h⟩
 | k + 1 => by
  obtain ⟨ih0, ih1⟩ := spec_l9Start.mono_l k
  refine ⟨?_, ?_⟩
  ·intro y0 y1 y2 y3 y4 y5
   unfold spec_l9Start.l0
   repeat' first
   | (with_reducible exact ih0 _ _ _ _ _ _)
   | (with_reducible exact ih1 _ _ _ _ _ _ _ _ _ _)
   | (with_reducible exact spec_l1Has.mono _ _ _)
   | (with_reducible exact LeO.refl _)
   | (with_reducible exact LeO.none _)
   | (with_reducible refine LeO.ite ?_ ?_)
   | (with_reducible refine LeO.bind ?_ (fun _ => ?_))
   | exact ih0 _ _ _ _ _ _
   | exact ih1 _ _ _ _ _ _ _ _ _ _
   | exact spec_l1Has.mono _ _ _
   | exact LeO.none _
   | refine LeO.ite ?_ ?_
   | refine LeO.bind ?_ (fun _ => ?_)
  ·intro y0 y1 y2 y3 y4 y5 y6 y7 y8 y9
   unfold spec_l9Start.l1
   repeat' first
   | (with_reducible exact ih0 _ _ _ _ _ _)
   | (with_reducible exact ih1 _ _ _ _ _ _ _ _ _ _)
   | (with_reducible exact spec_l1Has.mono _ _ _)
   | (with_reducible exact LeO.refl _)
   | (with_reducible exact LeO.none _)
   | (with_reducible refine LeO.ite ?_ ?_)
   | (with_reducible refine LeO.bind ?_ (fun _ => ?_))
   | exact ih0 _ _ _ _ _ _
   | exact ih1 _ _ _ _ _ _ _ _ _ _
   | exact spec_l1Has.mono _ _ _
   | exact LeO.none _
   | refine LeO.ite ?_ ?_
   | refine LeO.bind ?_ (fun _ => ?_)
theorem spec_l9Start.mono : ∀ a0 a1 k, LeO (spec_l9Start.f k a0 a1) (spec_l9Start.f (k + 1) a0 a1) := by
 intro a0 a1 k
 obtain ⟨ih0, ih1⟩ := spec_l9Start.mono_l k
 unfold spec_l9Start.f
 repeat' first
   | (with_reducible exact ih0 _ _ _ _ _ _)
   | (with_reducible exact ih1 _ _ _ _ _ _ _ _ _ _)
   | (with_reducible exact spec_l1Has.mono _ _ _)
   | (with_reducible exact LeO.refl _)
   | (with_reducible exact LeO.none _)
   | (with_reducible refine LeO.ite ?_ ?_)
   | (with_reducible refine LeO.bind ?_ (fun _ => ?_))
   | exact ih0 _ _ _ _ _ _
   | exact ih1 _ _ _ _ _ _ _ _ _ _
   | exact spec_l1Has.mono _ _ _
   | exact LeO.none _
   | refine LeO.ite ?_ ?_
   | refine LeO.bind ?_ (fun _ => ?_)
set_option maxHeartbeats 8000000 in
set_option maxRecDepth 100000 in
theorem spec_l9Start.calls (k : Nat) (A0 : Option Addr) (c0 : Nat) (l0 : List (List Int)) (a1 : Int) (r1 : Int) (r2 : List (S48)) (w : World) (hr0 : Kd.C (Kd.slice 3 (Kd.int .i64)) w A0 l0.length l0) (hc0 : l0.length ≤ c0) (h : spec_l9Start.f k l0 a1 = some (r1, r2)) :
  Calls Try.prog 17 #[.slice A0 l0.length c0, .int .i64 a1] w fun e w' => ∃ v1_ : Value, e = .returned (.agg #[.int .i64 r1, v1_]) ∧ Kd.S k48 48 w' w.heap.size (fun _ => True) v1_ r2 ∧ Below w.heap.size w w' := by
 have hu43 := Try.underlying43
 have hu48 := Try.underlying48
 have HR0 := xm hr0
 have HC0 := xm hc0
 clear hr0 hc0
 have HB := xm (Below.refl w.heap.size w)
 have H : (spec_l9Start.l0 k a1 l0 (l0.length : Int) 0 a1 ([] : List (S48))) = some (r1, r2) := h
 clear h
 have H' := xm H
 clear H
 go_enter Try.func17, Try.ntmps17
 go_wp2_with (first | ((with_reducible refine gate_dst (N := 4) rfl ?_); refine box_event ?hg (N := 4) ?hd (cs := #[.int .i64 0, .slice none 0 0]) (t := 43) ?hr ?_; (case hd => rfl); (case hg => rfl); (case hr => exact zB); intro gb237 hg w3 hbox hb; have n0_ := xm (below_step bB hb); have n1_ := xm (hbox); have n2_ := xm ((by rw [hg]; exact (xz bB) : w.heap.size ≤ gb237)); have n3_ := xm ((by rw [hg]; exact (xz bB) : w.heap.size ≤ gb237)); revert n0_ n1_ n2_ n3_; clear HB; intro HB BK237 GW237 GE237; clear hb hbox hg) | ((with_reducible refine gate_dst (N := 5) rfl ?_); refine box_event ?hg (N := 5) ?hd (cs := #[.int .i64 0, .slice none 0 0]) (t := 43) ?hr ?_; (case hd => rfl); (case hg => rfl); (case hr => exact zB); intro gb238 hg w4 hbox hb; have n0_ := xm (blk_below (kB BK237) hb); have n1_ := xm (below_step bG hb); have n2_ := xm (hbox); have n3_ := xm ((by rw [hg]; exact (xz bG) : w.heap.size ≤ gb238)); have n4_ := xm ((by rw [hg]; exact (xz bG) : w.heap.size ≤ gb238)); have n5_ := xm ((by rw [hg]; exact Nat.ne_of_lt (blk_lt (kB BK237)) : gb237 ≠ gb238)); have n6_ := xm ((by rw [hg]; exact Nat.ne_of_gt (blk_lt (kB BK237)) : gb238 ≠ gb237)); revert n0_ n1_ n2_ n3_ n4_ n5_ n6_; clear BK237 HB; intro BK237 HB BK238 GW238 GE238 NB237_238 NB238_237; clear hb hbox hg; have hnb5 := NB238_237.out; have hnc5 := NB237_238.out; obtain ⟨hcz6_0, hcz6_1, hfz6_0, hfz6_1⟩ := cz2 BK238.out))
 go_loopg [14] k (fun kq v14 w' => ∃ (x14_1 : Int) (x239001_1 : List (S48)) (u239001 : Value), v14 = .int .i64 x14_1 ∧ Aside0 (spec_l9Start.l0 kq a1 l0 (l0.length : Int) x14_1 a1 x239001_1 = some (r1, r2)) ∧ Aside0 (kq ≤ k) ∧ Aside0 (Kd.S k48 48 w' w.heap.size (fun _ => True) u239001 x239001_1) ∧ Aside0 (w'.heap[gb237]? = some (.cells #[.int .i64 0, (.slice none 0 0)] 43 (0, 0))) ∧ Aside0 (w'.heap[gb238]? = some (.cells #[.int .i64 a1, u239001] 43 (0, 0))) ∧ Aside0 (Below w.heap.size w w'))
 case atStart => exact ⟨(0), (([] : List (S48))), (.slice none 0 0), sB, H', ⟨Nat.le_refl _⟩, ⟨by first | exact Kd.S_nil _ _ _ _ _ | exact Kd.N_nil _ _ _ _ _ | exact Kd.V_nil _ _ _ _ _ | exact Kd.Q_nil _ _ _ _ _ | exact Kd.R_nil _ _ _ _ _⟩, ⟨by (with_reducible repeat (first | refine xq ?_ _ | refine xr ?_ | refine xo ?_ _)); refine blk_far ?_ NB237_238.out _; (with_reducible repeat (first | refine xq ?_ _ | refine xr ?_ | refine xo ?_ _)); refine blk_far ?_ NB237_238.out _; (with_reducible repeat (first | refine xq ?_ _ | refine xr ?_ | refine xo ?_ _)); exact BK237.out⟩, ⟨by (with_reducible repeat (first | refine xq ?_ _ | refine xr ?_ | refine xo ?_ _)); refine blk_put (cs := #[.int .i64 a1, .slice none 0 0]) ?_ 1 _ rfl; (with_reducible repeat (first | refine xq ?_ _ | refine xr ?_ | refine xo ?_ _)); refine blk_put (cs := #[.int .i64 0, .slice none 0 0]) ?_ 0 _ rfl; (with_reducible repeat (first | refine xq ?_ _ | refine xr ?_ | refine xo ?_ _)); exact BK238.out⟩, ⟨bG⟩⟩
 case round =>
  clear H'
  try clear c1
  try clear p2
  try clear c5
  try clear hcz6_0 hcz6_1 hfz6_0 hfz6_1
  obtain ⟨x14_1, x239001_1, u239001, rfl, HA, HK1, HO_239001, BK237, BK238, HB⟩ := hrel
  cases gk with
  | zero => exact absurd HA.out (by simp [spec_l9Start.l0])
  | succ k1 =>
   have H := HA.out
   clear HA
   simp only [spec_l9Start.l0] at H
   by_cases c7 : x14_1 < (l0.length : Int)
   ·rw [if_pos c7] at H
    have c7b0 : decide (x14_1 < (l0.length : Int)) = true := decide_eq_true c7
    clear c7
    by_cases c8 : 0 ≤ x14_1
    ·rw [if_pos c8] at H
     have c8b0 : decide (0 ≤ x14_1) = true := decide_eq_true c8
     clear c8
     by_cases c9 : x14_1 < (l0.length : Int)
     ·rw [if_pos c9] at H
      have c9b0 : decide (x14_1 < (l0.length : Int)) = true := decide_eq_true c9
      clear c9
      have H' := xm H
      clear H
      have p239 : 0 ≤ (x14_1 : Int) := of_decide_eq_true aB
      have q239 : x14_1 < (l0.length : Int) := of_decide_eq_true aB
      obtain ⟨ad239, A239_0, c239_0, e239, hx239_0, hl239_0, hi239_0⟩ := at_L1 HR0.out x14_1 p239 q239
      cases e239
      replace hx239_0 := hU hx239_0
      have HR239_0 := xm hi239_0
      have HC239_0 := xm hl239_0
      clear hi239_0 hl239_0
      replace p239 := eq_true p239
      replace q239 := eq_true q239
      go_wp2_with (first | ((with_reducible refine gate_dst (N := 8) rfl ?_); refine box_event ?hg (N := 8) ?hd (cs := #[.slice none 0 0]) (t := 48) ?hr ?_; (case hd => rfl); (case hg => rfl); (case hr => exact zB); intro gb240 hg w10 hbox hb; have n0_ := xm (Kd.S_below (Kd.S_elderB (tB HO_239001) gb240 (Nat.le_of_eq hg.symm)) hb); have n1_ := xm (blk_below (kB BK237) hb); have n2_ := xm (blk_below (kB BK238) hb); have n3_ := xm (below_step bG hb); have n4_ := xm (hbox); have n5_ := xm ((by rw [hg]; exact (xz bG) : w.heap.size ≤ gb240)); have n6_ := xm ((by rw [hg]; exact (xz bG) : w.heap.size ≤ gb240)); have n7_ := xm ((by rw [hg]; exact Nat.ne_of_lt (blk_lt (kB BK237)) : gb237 ≠ gb240)); have n8_ := xm ((by rw [hg]; exact Nat.ne_of_gt (blk_lt (kB BK237)) : gb240 ≠ gb237)); have n9_ := xm ((by rw [hg]; exact Nat.ne_of_lt (blk_lt (kB BK238)) : gb238 ≠ gb240)); have n10_ := xm ((by rw [hg]; exact Nat.ne_of_gt (blk_lt (kB BK238)) : gb240 ≠ gb238)); revert n0_ n1_ n2_ n3_ n4_ n5_ n6_ n7_ n8_ n9_ n10_; clear HO_239001 BK237 BK238 HB; intro HO_239001 BK237 BK238 HB BK240 GW240 GE240 NB237_240 NB240_237 NB238_240 NB240_238; clear hb hbox hg; have hnb11 := NB240_237.out; have hnc11 := NB237_240.out; have hnb12 := NB240_238.out; have hnc12 := NB238_240.out; obtain ⟨hcz13_0, hfz13_0⟩ := cz1 BK240.out))
      go_loopg [9] k1 (fun kq v9 w' => ∃ (x9_2 : Int) (x241000_2 : List Int) (u241000 : Value), v9 = .int .i64 x9_2 ∧ Aside0 (spec_l9Start.l1 kq a1 x14_1 (rd_L1 l0 x14_1) x9_2 l0 (l0.length : Int) x14_1 a1 x239001_1 x241000_2 = some (r1, r2)) ∧ Aside0 (kq ≤ k1) ∧ Aside0 (Kd.S k48 48 w' w.heap.size (fun k_ => some k_ ≠ (u241000 : Value).ownBlock ∧ k_ ≠ gb240) u239001 x239001_1) ∧ Aside0 (Kd.R (Kd.int .i64) 3 w' w.heap.size (fun _ => True) u241000 x241000_2) ∧ Aside0 (w'.heap[gb237]? = some (.cells #[.int .i64 0, (.slice none 0 0)] 43 (0, 0))) ∧ Aside0 (w'.heap[gb238]? = some (.cells #[.int .i64 a1, u239001] 43 (0, 0))) ∧ Aside0 (w'.heap[gb240]? = some (.cells #[u241000] 48 (0, 0))) ∧ Aside0 (Below w.heap.size w w'))
      case atStart => exact ⟨(0), (([] : List Int)), (.slice none 0 0), sB, H', ⟨Nat.le_refl _⟩, ⟨by (with_reducible repeat (first | apply Kd.S_alloc | apply Kd.S_drewN | apply Kd.S_drew)); exact Kd.S_mono (Kd.S_far (p := ⟨gb240, 0, none⟩) (Kd.S_mono HO_239001.out (fun k_ hk => (⟨hk, hk.2⟩ : _ ∧ k_ ≠ gb240))) (fun _ hk => hk.2) (.slice none 0 0)) (fun _ hk => ⟨(by simp [Value.ownBlock]), hk.1.2⟩)⟩, ⟨by first | exact Kd.R_nil _ _ _ _ _ | exact Kd.N_nil _ _ _ _ _ | exact Kd.V_nil _ _ _ _ _ | exact Kd.Q_nil _ _ _ _ _ | exact Kd.S_nil _ _ _ _ _⟩, ⟨by (with_reducible repeat (first | refine xq ?_ _ | refine xr ?_ | refine xo ?_ _)); refine blk_far ?_ NB237_240.out _; (with_reducible repeat (first | refine xq ?_ _ | refine xr ?_ | refine xo ?_ _)); exact BK237.out⟩, ⟨by (with_reducible repeat (first | refine xq ?_ _ | refine xr ?_ | refine xo ?_ _)); refine blk_far ?_ NB238_240.out _; (with_reducible repeat (first | refine xq ?_ _ | refine xr ?_ | refine xo ?_ _)); exact BK238.out⟩, ⟨by (with_reducible repeat (first | refine xq ?_ _ | refine xr ?_ | refine xo ?_ _)); refine blk_put (cs := #[.slice none 0 0]) ?_ 0 _ rfl; (with_reducible repeat (first | refine xq ?_ _ | refine xr ?_ | refine xo ?_ _)); exact BK240.out⟩, ⟨bG⟩⟩
      case round =>
       clear H'
       try clear c1
       try clear c2
       try clear p2
       try clear q2
       try clear hx2
       try clear c5
       try clear c7
       try clear c7b0
       try clear c8
       try clear c8b0
       try clear c9
       try clear c9b0
       try clear c11
       try clear c12
       try clear hcz13_0
       try clear hcz6_0 hcz6_1
       try clear hfz13_0
       try clear hfz6_0 hfz6_1
       try clear hx239_0
       try clear p2
       try clear p239
       try clear q239
       obtain ⟨x9_2, x241000_2, u241000, rfl, HA, HK2, HO_239001, HO_241000, BK237, BK238, BK240, HB⟩ := hrel
       cases gk with
       | zero => exact absurd HA.out (by simp [spec_l9Start.l1])
       | succ k2 =>
        have H := HA.out
        clear HA
        simp only [spec_l9Start.l1] at H
        by_cases c14 : x9_2 < a1
        ·rw [if_pos c14] at H
         have c14b0 : decide (x9_2 < a1) = true := decide_eq_true c14
         clear c14
         replace H := Option.bind_eq_some_iff.mp H
         obtain ⟨t241, A150, H⟩ := H
         replace H : (if t241 = true then (if x241000_2.length < 17592186044416 then (spec_l9Start.l1 k2 a1 x14_1 (rd_L1 l0 x14_1) (wrap64 (x9_2 + 1)) l0 (l0.length : Int) x14_1 a1 x239001_1 (x241000_2 ++ [0])) else (none)) else (if x241000_2.length < 17592186044416 then (spec_l9Start.l1 k2 a1 x14_1 (rd_L1 l0 x14_1) (wrap64 (x9_2 + 1)) l0 (l0.length : Int) x14_1 a1 x239001_1 (x241000_2 ++ [wrap64 ((wrap64 ((wrap64 (x14_1 * 6)) + x9_2)) + 1)])) else (none))) = some (r1, r2) := H
         have A15 := xm A150
         clear A150
         by_cases c16 : t241 = true
         ·subst c16
          have H1 : (if x241000_2.length < 17592186044416 then (spec_l9Start.l1 k2 a1 x14_1 (rd_L1 l0 x14_1) (wrap64 (x9_2 + 1)) l0 (l0.length : Int) x14_1 a1 x239001_1 (x241000_2 ++ [0])) else (none)) = some (r1, r2) := by first | (with_reducible rfl) | (rw [if_pos rfl] at H; exact H)
          clear H
          have H := H1
          clear H1
          by_cases c17 : x241000_2.length < 17592186044416
          ·rw [if_pos c17] at H
           have LMc17 := xm c17
           clear c17
           obtain ⟨y242, hy242⟩ : ∃ y_ : List Int, y_ = (x241000_2 ++ [0]) := ⟨_, rfl⟩
           replace H : (spec_l9Start.l1 k2 a1 x14_1 (rd_L1 l0 x14_1) (wrap64 (x9_2 + 1)) l0 (l0.length : Int) x14_1 a1 x239001_1 y242) = some (r1, r2) := by first | (rw [hy242]; with_reducible exact H) | (have H2_ := (Option.bind_some _ _).symm.trans H; rw [hy242]; with_reducible exact H2_) | (have H2_ := (Option.bind_some _ _).symm.trans H; with_reducible exact H2_) | with_reducible exact H | (rw [hy242]; exact H) | exact H
           have Ny242 := xm hy242
           clear hy242
           have H' := xm H
           clear H
           go_wp2_with (first | ((with_reducible refine gate_callee (f := 35) rfl ?_); refine goesL_ (some 27) rfl rfl Try.func35 (by kernel_rfl) rfl #[.slice A239_0 (rd_L1 l0 x14_1).length c239_0, .int .i64 x9_2] rfl mB ?_; (with_reducible refine (spec_l1Has.calls k2 _ _ (rd_L1 l0 x14_1) x9_2 true _ ?side1 ?side2 A15.out).mono ?_); (case side1 => exact cB (Kd.C_below HR239_0.out HB.out)); (case side2 => exact HC239_0.out); rintro e w' ⟨rfl, ⟨nd, rfl⟩⟩; refine ⟨_, rfl, ?_⟩; (first | (rw [drewN_self wr]; generalize hq_ : World.drewN wr _ = wr; have n0_ : Aside0 (Kd.S k48 48 wr w.heap.size (fun k_ => some k_ ≠ (u241000 : Value).ownBlock ∧ k_ ≠ gb240) u239001 x239001_1) := ⟨by rw [← hq_]; exact (tB HO_239001)⟩; have n1_ : Aside0 (Kd.R (Kd.int .i64) 3 wr w.heap.size (fun _ => True) u241000 x241000_2) := ⟨by rw [← hq_]; exact (rB HO_241000)⟩; have n2_ : Aside0 (wr.heap[gb237]? = some (.cells #[.int .i64 0, .slice none 0 0] 43 (0, 0))) := ⟨by rw [← hq_]; exact (kB BK237)⟩; have n3_ : Aside0 (wr.heap[gb238]? = some (.cells #[.int .i64 a1, u239001] 43 (0, 0))) := ⟨by rw [← hq_]; exact (kB BK238)⟩; have n4_ : Aside0 (wr.heap[gb240]? = some (.cells #[u241000] 48 (0, 0))) := ⟨by rw [← hq_]; exact (kB BK240)⟩; have n5_ : Aside0 (Below w.heap.size w wr) := ⟨by rw [← hq_]; exact bG⟩; clear HO_239001 HO_241000 BK237 BK238 BK240 HB hq_; revert n0_ n1_ n2_ n3_ n4_ n5_; intro HO_239001 HO_241000 BK237 BK238 BK240 HB) | (have n0_ : Aside0 (Kd.S k48 48 wr w.heap.size (fun k_ => some k_ ≠ (u241000 : Value).ownBlock ∧ k_ ≠ gb240) u239001 x239001_1) := ⟨(tB HO_239001)⟩; have n1_ : Aside0 (Kd.R (Kd.int .i64) 3 wr w.heap.size (fun _ => True) u241000 x241000_2) := ⟨(rB HO_241000)⟩; have n2_ : Aside0 (wr.heap[gb237]? = some (.cells #[.int .i64 0, .slice none 0 0] 43 (0, 0))) := ⟨(kB BK237)⟩; have n3_ : Aside0 (wr.heap[gb238]? = some (.cells #[.int .i64 a1, u239001] 43 (0, 0))) := ⟨(kB BK238)⟩; have n4_ : Aside0 (wr.heap[gb240]? = some (.cells #[u241000] 48 (0, 0))) := ⟨(kB BK240)⟩; have n5_ : Aside0 (Below w.heap.size w wr) := ⟨bG⟩; clear HO_239001 HO_241000 BK237 BK238 BK240 HB; revert n0_ n1_ n2_ n3_ n4_ n5_; intro HO_239001 HO_241000 BK237 BK238 BK240 HB)); have hnb18 := NB240_237.out; have hnc18 := NB237_240.out; have hnb19 := NB240_238.out; have hnc19 := NB238_240.out; obtain ⟨hcz20_0, hfz20_0⟩ := cz1 BK240.out) | ((with_reducible refine gate_builtin (b := .append) (xs := #[.tmp 29, .tmp 30]) rfl ?_); at_builtin; refine Kd.R_append (Kd.int .i64) (w0 := w) w.heap.size rfl (.tmp 29) (.tmp 30) 35 3 (.int .i64 0) 8 rfl Try.underlying35 info3 rfl (by decide) (by omega) u241000 x241000_2 0 [.int .i64 0] (fun _ => True) (fun _ => False) rfl rfl ?aP (fun _ hk => hk.elim) ?aF ?aO ?aB ?aS ?aL ?_; (case aP => exact rfl); (case aB => exact bG); (case aF => exact (fun _ _ => trivial)); (case aO => exact (rB HO_241000)); (case aS => exact (xz bG)); (case aL => have := LMc17.out; omega); intro v243 w21 ho hb hg hat; rw [← Ny242.out] at ho; have n0_ := xm (Kd.S_after (ok := (fun k_ => k_ ≠ gb240)) (by (with_reducible repeat (first | apply Kd.S_alloc | apply Kd.S_drewN | apply Kd.S_drew)); exact Kd.S_mono HO_239001.out (fun _ hk => ⟨hk.2, hk.1⟩)) hg hat); have n1_ := xm (blk_grown (kB BK237) hg (Kd.R_ne HO_241000.out BK237.out (by decide))); have n2_ := xm (blk_grown (kB BK238) hg (Kd.R_ne HO_241000.out BK238.out (by decide))); have n3_ := xm (blk_grown (kB BK240) hg (Kd.R_ne HO_241000.out BK240.out (by decide))); have n4_ := xm (hb); have n5_ := xm (ho); revert n0_ n1_ n2_ n3_ n4_ n5_; clear HO_239001 BK237 BK238 BK240 HB HO_241000; intro HO_239001 BK237 BK238 BK240 HB HO244; clear ho hb hg hat; obtain ⟨Ao22, co22, eo22⟩ := Kd.R_slice HO244.out; subst eo22; obtain ⟨hcz23_0, hfz23_0⟩ := cz1 BK240.out))
           go_roundg k2
           case measure => have := HK1.out; have := HK2.out; omega
           case rel => exact ⟨(wrap64 (x9_2 + 1)), (y242), (.slice Ao22 y242.length co22), sB, H', ⟨by have := HK1.out; have := HK2.out; omega⟩, ⟨by (with_reducible repeat (first | apply Kd.S_alloc | apply Kd.S_drewN | apply Kd.S_drew)); exact Kd.S_mono (Kd.S_far (p := ⟨gb240, 0, none⟩) (Kd.S_mono HO_239001.out (fun k_ hk => (⟨hk, hk.1⟩ : _ ∧ k_ ≠ gb240))) (fun _ hk => hk.2) (.slice Ao22 y242.length co22)) (fun _ hk => ⟨hk.1.2, hk.1.1⟩)⟩, ⟨by (with_reducible repeat (first | apply Kd.R_alloc | apply Kd.R_drewN | apply Kd.R_drew)); exact Kd.R_mono (Kd.R_far (p := ⟨gb240, 0, none⟩) (Kd.R_types HO244.out BK240.out (by decide)) (fun _ hk => hk.2) (.slice Ao22 y242.length co22)) (fun _ hk => trivial)⟩, ⟨by (with_reducible repeat (first | refine xq ?_ _ | refine xr ?_ | refine xo ?_ _)); refine blk_far ?_ NB237_240.out _; (with_reducible repeat (first | refine xq ?_ _ | refine xr ?_ | refine xo ?_ _)); exact BK237.out⟩, ⟨by (with_reducible repeat (first | refine xq ?_ _ | refine xr ?_ | refine xo ?_ _)); refine blk_far ?_ NB238_240.out _; (with_reducible repeat (first | refine xq ?_ _ | refine xr ?_ | refine xo ?_ _)); exact BK238.out⟩, ⟨by (with_reducible repeat (first | refine xq ?_ _ | refine xr ?_ | refine xo ?_ _)); refine blk_put (cs := #[u241000]) ?_ 0 _ rfl; (with_reducible repeat (first | refine xq ?_ _ | refine xr ?_ | refine xo ?_ _)); exact BK240.out⟩, ⟨bG⟩⟩
          ·rw [if_neg c17] at H
           exact absurd H (by simp)
         ·replace c16 := Bool.eq_false_iff.mpr c16
          subst c16
          have H1 : (if x241000_2.length < 17592186044416 then (spec_l9Start.l1 k2 a1 x14_1 (rd_L1 l0 x14_1) (wrap64 (x9_2 + 1)) l0 (l0.length : Int) x14_1 a1 x239001_1 (x241000_2 ++ [wrap64 ((wrap64 ((wrap64 (x14_1 * 6)) + x9_2)) + 1)])) else (none)) = some (r1, r2) := by first | (with_reducible rfl) | (rw [if_neg (show ¬ (false = true) by decide)] at H; exact H)
          clear H
          have H := H1
          clear H1
          by_cases c24 : x241000_2.length < 17592186044416
          ·rw [if_pos c24] at H
           have LMc24 := xm c24
           clear c24
           obtain ⟨y245, hy245⟩ : ∃ y_ : List Int, y_ = (x241000_2 ++ [wrap64 ((wrap64 ((wrap64 (x14_1 * 6)) + x9_2)) + 1)]) := ⟨_, rfl⟩
           replace H : (spec_l9Start.l1 k2 a1 x14_1 (rd_L1 l0 x14_1) (wrap64 (x9_2 + 1)) l0 (l0.length : Int) x14_1 a1 x239001_1 y245) = some (r1, r2) := by first | (rw [hy245]; with_reducible exact H) | (have H2_ := (Option.bind_some _ _).symm.trans H; rw [hy245]; with_reducible exact H2_) | (have H2_ := (Option.bind_some _ _).symm.trans H; with_reducible exact H2_) | with_reducible exact H | (rw [hy245]; exact H) | exact H
           have Ny245 := xm hy245
           clear hy245
           have H' := xm H
           clear H
           go_wp2_with (first | ((with_reducible refine gate_callee (f := 35) rfl ?_); refine goesL_ (some 27) rfl rfl Try.func35 (by kernel_rfl) rfl #[.slice A239_0 (rd_L1 l0 x14_1).length c239_0, .int .i64 x9_2] rfl mB ?_; (with_reducible refine (spec_l1Has.calls k2 _ _ (rd_L1 l0 x14_1) x9_2 false _ ?side1 ?side2 A15.out).mono ?_); (case side1 => exact cB (Kd.C_below HR239_0.out HB.out)); (case side2 => exact HC239_0.out); rintro e w' ⟨rfl, ⟨nd, rfl⟩⟩; refine ⟨_, rfl, ?_⟩; (first | (rw [drewN_self wr]; generalize hq_ : World.drewN wr _ = wr; have n0_ : Aside0 (Kd.S k48 48 wr w.heap.size (fun k_ => some k_ ≠ (u241000 : Value).ownBlock ∧ k_ ≠ gb240) u239001 x239001_1) := ⟨by rw [← hq_]; exact (tB HO_239001)⟩; have n1_ : Aside0 (Kd.R (Kd.int .i64) 3 wr w.heap.size (fun _ => True) u241000 x241000_2) := ⟨by rw [← hq_]; exact (rB HO_241000)⟩; have n2_ : Aside0 (wr.heap[gb237]? = some (.cells #[.int .i64 0, .slice none 0 0] 43 (0, 0))) := ⟨by rw [← hq_]; exact (kB BK237)⟩; have n3_ : Aside0 (wr.heap[gb238]? = some (.cells #[.int .i64 a1, u239001] 43 (0, 0))) := ⟨by rw [← hq_]; exact (kB BK238)⟩; have n4_ : Aside0 (wr.heap[gb240]? = some (.cells #[u241000] 48 (0, 0))) := ⟨by rw [← hq_]; exact (kB BK240)⟩; have n5_ : Aside0 (Below w.heap.size w wr) := ⟨by rw [← hq_]; exact bG⟩; clear HO_239001 HO_241000 BK237 BK238 BK240 HB hq_; revert n0_ n1_ n2_ n3_ n4_ n5_; intro HO_239001 HO_241000 BK237 BK238 BK240 HB) | (have n0_ : Aside0 (Kd.S k48 48 wr w.heap.size (fun k_ => some k_ ≠ (u241000 : Value).ownBlock ∧ k_ ≠ gb240) u239001 x239001_1) := ⟨(tB HO_239001)⟩; have n1_ : Aside0 (Kd.R (Kd.int .i64) 3 wr w.heap.size (fun _ => True) u241000 x241000_2) := ⟨(rB HO_241000)⟩; have n2_ : Aside0 (wr.heap[gb237]? = some (.cells #[.int .i64 0, .slice none 0 0] 43 (0, 0))) := ⟨(kB BK237)⟩; have n3_ : Aside0 (wr.heap[gb238]? = some (.cells #[.int .i64 a1, u239001] 43 (0, 0))) := ⟨(kB BK238)⟩; have n4_ : Aside0 (wr.heap[gb240]? = some (.cells #[u241000] 48 (0, 0))) := ⟨(kB BK240)⟩; have n5_ : Aside0 (Below w.heap.size w wr) := ⟨bG⟩; clear HO_239001 HO_241000 BK237 BK238 BK240 HB; revert n0_ n1_ n2_ n3_ n4_ n5_; intro HO_239001 HO_241000 BK237 BK238 BK240 HB)); have hnb25 := NB240_237.out; have hnc25 := NB237_240.out; have hnb26 := NB240_238.out; have hnc26 := NB238_240.out; obtain ⟨hcz27_0, hfz27_0⟩ := cz1 BK240.out) | ((with_reducible refine gate_builtin (b := .append) (xs := #[.tmp 34, .tmp 40]) rfl ?_); at_builtin; refine Kd.R_append (Kd.int .i64) (w0 := w) w.heap.size rfl (.tmp 34) (.tmp 40) 35 3 (.int .i64 0) 8 rfl Try.underlying35 info3 rfl (by decide) (by omega) u241000 x241000_2 (wrap64 ((wrap64 ((wrap64 (x14_1 * 6)) + x9_2)) + 1)) [.int .i64 (wrap64 ((wrap64 ((wrap64 (x14_1 * 6)) + x9_2)) + 1))] (fun _ => True) (fun _ => False) rfl rfl ?aP (fun _ hk => hk.elim) ?aF ?aO ?aB ?aS ?aL ?_; (case aP => exact rfl); (case aB => exact bG); (case aF => exact (fun _ _ => trivial)); (case aO => exact (rB HO_241000)); (case aS => exact (xz bG)); (case aL => have := LMc24.out; omega); intro v246 w28 ho hb hg hat; rw [← Ny245.out] at ho; have n0_ := xm (Kd.S_after (ok := (fun k_ => k_ ≠ gb240)) (by (with_reducible repeat (first | apply Kd.S_alloc | apply Kd.S_drewN | apply Kd.S_drew)); exact Kd.S_mono HO_239001.out (fun _ hk => ⟨hk.2, hk.1⟩)) hg hat); have n1_ := xm (blk_grown (kB BK237) hg (Kd.R_ne HO_241000.out BK237.out (by decide))); have n2_ := xm (blk_grown (kB BK238) hg (Kd.R_ne HO_241000.out BK238.out (by decide))); have n3_ := xm (blk_grown (kB BK240) hg (Kd.R_ne HO_241000.out BK240.out (by decide))); have n4_ := xm (hb); have n5_ := xm (ho); revert n0_ n1_ n2_ n3_ n4_ n5_; clear HO_239001 BK237 BK238 BK240 HB HO_241000; intro HO_239001 BK237 BK238 BK240 HB HO247; clear ho hb hg hat; obtain ⟨Ao29, co29, eo29⟩ := Kd.R_slice HO247.out; subst eo29; obtain ⟨hcz30_0, hfz30_0⟩ := cz1 BK240.out))
           go_roundg k2
           case measure => have := HK1.out; have := HK2.out; omega
           case rel => exact ⟨(wrap64 (x9_2 + 1)), (y245), (.slice Ao29 y245.length co29), sB, H', ⟨by have := HK1.out; have := HK2.out; omega⟩, ⟨by (with_reducible repeat (first | apply Kd.S_alloc | apply Kd.S_drewN | apply Kd.S_drew)); exact Kd.S_mono (Kd.S_far (p := ⟨gb240, 0, none⟩) (Kd.S_mono HO_239001.out (fun k_ hk => (⟨hk, hk.1⟩ : _ ∧ k_ ≠ gb240))) (fun _ hk => hk.2) (.slice Ao29 y245.length co29)) (fun _ hk => ⟨hk.1.2, hk.1.1⟩)⟩, ⟨by (with_reducible repeat (first | apply Kd.R_alloc | apply Kd.R_drewN | apply Kd.R_drew)); exact Kd.R_mono (Kd.R_far (p := ⟨gb240, 0, none⟩) (Kd.R_types HO247.out BK240.out (by decide)) (fun _ hk => hk.2) (.slice Ao29 y245.length co29)) (fun _ hk => trivial)⟩, ⟨by (with_reducible repeat (first | refine xq ?_ _ | refine xr ?_ | refine xo ?_ _)); refine blk_far ?_ NB237_240.out _; (with_reducible repeat (first | refine xq ?_ _ | refine xr ?_ | refine xo ?_ _)); exact BK237.out⟩, ⟨by (with_reducible repeat (first | refine xq ?_ _ | refine xr ?_ | refine xo ?_ _)); refine blk_far ?_ NB238_240.out _; (with_reducible repeat (first | refine xq ?_ _ | refine xr ?_ | refine xo ?_ _)); exact BK238.out⟩, ⟨by (with_reducible repeat (first | refine xq ?_ _ | refine xr ?_ | refine xo ?_ _)); refine blk_put (cs := #[u241000]) ?_ 0 _ rfl; (with_reducible repeat (first | refine xq ?_ _ | refine xr ?_ | refine xo ?_ _)); exact BK240.out⟩, ⟨bG⟩⟩
          ·rw [if_neg c24] at H
           exact absurd H (by simp)
        ·rw [if_neg c14] at H
         have c14b0 : decide (x9_2 < a1) = false := decide_eq_false c14
         clear c14
         by_cases c31 : x239001_1.length < 5864062014805
         ·rw [if_pos c31] at H
          have LMc31 := xm c31
          clear c31
          obtain ⟨y248, hy248⟩ : ∃ y_ : List (S48), y_ = (x239001_1 ++ [(⟨x241000_2⟩ : S48)]) := ⟨_, rfl⟩
          replace H : (spec_l9Start.l0 k2 a1 l0 (l0.length : Int) (wrap64 (x14_1 + 1)) a1 y248) = some (r1, r2) := by first | (rw [hy248]; with_reducible exact H) | (have H2_ := (Option.bind_some _ _).symm.trans H; rw [hy248]; with_reducible exact H2_) | (have H2_ := (Option.bind_some _ _).symm.trans H; with_reducible exact H2_) | with_reducible exact H | (rw [hy248]; exact H) | exact H
          have Ny248 := xm hy248
          clear hy248
          have H' := xm H
          clear H
          have hnb32 := NB238_237.out
          have hnc32 := NB237_238.out
          have hnb33 := NB238_240.out
          have hnc33 := NB240_238.out
          obtain ⟨hcz34_0, hcz34_1, hfz34_0, hfz34_1⟩ := cz2 BK238.out
          have hnb35 := NB240_237.out
          have hnc35 := NB237_240.out
          obtain ⟨hcz36_0, hfz36_0⟩ := cz1 BK240.out
          obtain ⟨Ao38, co38, eo38⟩ := Kd.R_slice HO_241000.out
          subst eo38
          go_wp2_with (first | ((with_reducible refine gate_builtin (b := .append) (xs := #[.tmp 44, .tmp 46]) rfl ?_); at_builtin; refine Kd.S_append k48 (w0 := w) w.heap.size rfl (.tmp 44) (.tmp 46) 41 48 (.agg #[(.slice none 0 0)]) 24 rfl Try.underlying41 info48 rfl (by decide) (by omega) u239001 x239001_1 (⟨x241000_2⟩ : S48) [.slice Ao38 x241000_2.length co38] (fun k_ => k_ ≠ gb240) (fun k_ => some k_ = (.slice Ao38 x241000_2.length co38 : Value).ownBlock) rfl rfl ?aP (fun k_ hk_ => ((Kd.R_mono (ok' := fun k_ => ((fun k_ => k_ ≠ gb240)) k_ ∧ some k_ ≠ (u239001 : Value).ownBlock) (Kd.R_types (Kd.R_apart' (HO_241000.out) (Kd.S_typed HO_239001.out) (by decide)) BK240.out (by decide)) (fun k_ hk => ⟨hk.2, hk.1.2⟩))).1 k_ hk_.symm) ?aF ?aO ?aB ?aS ?aL ?_; (case aP => exact k48_mkM _ _ _ (⟨x241000_2⟩ : S48) (Kd.R_mono (Kd.R_tight rfl (Kd.R_mono (ok' := fun k_ => ((fun k_ => k_ ≠ gb240)) k_ ∧ some k_ ≠ (u239001 : Value).ownBlock) (Kd.R_types (Kd.R_apart' (HO_241000.out) (Kd.S_typed HO_239001.out) (by decide)) BK240.out (by decide)) (fun k_ hk => ⟨hk.2, hk.1.2⟩))) (fun _ h_ => h_))); (case aB => exact bG); (case aF => exact (fun k_ hk => Kd.freshB (kB BK240) k_ hk)); (case aO => exact (by (with_reducible repeat (first | apply Kd.S_alloc | apply Kd.S_drewN | apply Kd.S_drew)); exact Kd.S_mono HO_239001.out (fun k_ hk => ⟨hk.2, fun e_ => hk.1 e_⟩))); (case aS => exact (xz bG)); (case aL => have := LMc31.out; omega); intro v249 w37 ho hb hg hat; rw [← Ny248.out] at ho; have n0_ := xm (blk_grown (kB BK237) hg (Kd.S_ne HO_239001.out BK237.out (by decide))); have n1_ := xm (blk_grown (kB BK238) hg (Kd.S_ne HO_239001.out BK238.out (by decide))); have n2_ := xm (blk_grown (kB BK240) hg (Kd.S_away HO_239001.out (fun _ hk => hk.2))); have n3_ := xm (hb); have n4_ := xm (ho); revert n0_ n1_ n2_ n3_ n4_; clear BK237 BK238 BK240 HB HO_239001 HO_241000; intro BK237 BK238 BK240 HB HO250; clear ho hb hg hat; obtain ⟨Ao39, co39, eo39⟩ := Kd.S_slice HO250.out; subst eo39; obtain ⟨hcz40_0, hcz40_1, hfz40_0, hfz40_1⟩ := cz2 BK238.out))
          go_roundg k2
          case measure => have := HK1.out; have := HK2.out; omega
          case rel => exact ⟨(wrap64 (x14_1 + 1)), (y248), (.slice Ao39 y248.length co39), sB, H', ⟨by have := HK1.out; have := HK2.out; omega⟩, ⟨by (with_reducible repeat (first | apply Kd.S_alloc | apply Kd.S_drewN | apply Kd.S_drew)); exact Kd.S_mono (Kd.S_far (p := ⟨gb238, 1, none⟩) (Kd.S_types HO250.out BK238.out (by decide)) (fun _ hk => hk.2) (.slice Ao39 y248.length co39)) (fun _ hk => trivial)⟩, ⟨by (with_reducible repeat (first | refine xq ?_ _ | refine xr ?_ | refine xo ?_ _)); refine blk_far ?_ NB237_238.out _; (with_reducible repeat (first | refine xq ?_ _ | refine xr ?_ | refine xo ?_ _)); exact BK237.out⟩, ⟨by (with_reducible repeat (first | refine xq ?_ _ | refine xr ?_ | refine xo ?_ _)); refine blk_put (cs := #[.int .i64 a1, u239001]) ?_ 1 _ rfl; (with_reducible repeat (first | refine xq ?_ _ | refine xr ?_ | refine xo ?_ _)); exact BK238.out⟩, ⟨bG⟩⟩
         ·rw [if_neg c31] at H
          exact absurd H (by simp)
     ·rw [if_neg c9] at H
      exact absurd H (by simp)
    ·rw [if_neg c8] at H
     exact absurd H (by simp)
   ·rw [if_neg c7] at H
    have c7b0 : decide (x14_1 < (l0.length : Int)) = false := decide_eq_false c7
    clear c7
    simp only [Option.some.injEq, Prod.mk.injEq] at H
    obtain ⟨rfl, rfl⟩ := H
    have hnb41 := NB238_237.out
    have hnc41 := NB237_238.out
    obtain ⟨hcz42_0, hcz42_1, hfz42_0, hfz42_1⟩ := cz2 BK238.out
    obtain ⟨hcz43_0, hcz43_1, hfz43_0, hfz43_1⟩ := cz2 BK237.out
    obtain ⟨Ao44, co44, eo44⟩ := Kd.S_slice HO_239001.out
    subst eo44
    go_wp2
    refine bodyPost_ret (results_cell_row rfl _ _ gb237 43 #[.int .i64 a1, .slice Ao44 x239001_1.length co44] (0, 0) _ rfl (by (with_reducible repeat (first | refine xq ?_ _ | refine xr ?_ | refine xo ?_ _)); refine blk_put (cs := #[.int .i64 a1, .slice none 0 0]) ?_ 1 _ rfl; (with_reducible repeat (first | refine xq ?_ _ | refine xr ?_ | refine xo ?_ _)); refine blk_put (cs := #[.int .i64 0, .slice none 0 0]) ?_ 0 _ rfl; (with_reducible repeat (first | refine xq ?_ _ | refine xr ?_ | refine xo ?_ _)); exact BK237.out) Try.underlying43 rfl (by kernel_rfl)) rfl ?_
    exact ⟨_, eB, by (with_reducible repeat (first | apply Kd.S_alloc | apply Kd.S_drewN | apply Kd.S_drew)); exact Kd.S_mono (Kd.S_far (p := ⟨gb237, 1, none⟩) (Kd.S_far (p := ⟨gb237, 0, none⟩) (Kd.S_types HO_239001.out BK237.out (by decide)) (fun _ hk => hk.2) (.int .i64 a1)) (fun _ hk => hk.2) (.slice Ao44 x239001_1.length co44)) (fun _ hk => trivial), bG⟩

end Go.Proofs.Ytmelechhnimlnad.G
