/- Written by a program of this claim's own, out of the translation: functions of the program as plain functions, and that the calls answer as these. No conditions. -/
import Derived.Test.YtmelechhnimlnadG0
import Derived.Test.YtmelechhnimlnadG10
namespace Go.Proofs.Ytmelechhnimlnad.G
open Go.RowKit Go.Proofs.Ytmelechhnimlnad.X Go.Proofs.YtmelechhnimlnadW.PrintWords Go.Proofs.YtmelechhnimlnadW.PrintLast Go.Proofs.YtmelechhnimlnadW.PrintMore
attribute [local go_sem] max2_int min2_int max_two min_two max_three min_three max_four min_four   -- for this text's walks alone
set_option linter.unusedVariables false
set_option linter.unusedSimpArgs false

/-! ### slices_Contains_Lint_int: function 43 -/
def slices_Contains_Lint_int.f (k : Nat) (l0 : List Int) (a1 : Int) : Option (Bool) := (slices_Index_Lint_int.f k l0 a1).bind fun t320 => (some (decide (t320 ≥ 0)))
theorem slices_Contains_Lint_int.mono : ∀ a0 a1 k, LeO (slices_Contains_Lint_int.f k a0 a1) (slices_Contains_Lint_int.f (k + 1) a0 a1) := by
 intro a0 a1 k
 unfold slices_Contains_Lint_int.f
 repeat' first
   | (with_reducible exact slices_Index_Lint_int.mono _ _ _)
   | (with_reducible exact LeO.refl _)
   | (with_reducible exact LeO.none _)
   | (with_reducible refine LeO.ite ?_ ?_)
   | (with_reducible refine LeO.bind ?_ (fun _ => ?_))
   | exact slices_Index_Lint_int.mono _ _ _
   | exact LeO.none _
   | refine LeO.ite ?_ ?_
   | refine LeO.bind ?_ (fun _ => ?_)
set_option maxHeartbeats 8000000 in
set_option maxRecDepth 100000 in
theorem slices_Contains_Lint_int.calls (k : Nat) (A0 : Option Addr) (c0 : Nat) (l0 : List Int) (a1 : Int) (r : Bool) (w : World) (hr0 : Kd.C (Kd.int .i64) w A0 l0.length l0) (hc0 : l0.length ≤ c0) (h : slices_Contains_Lint_int.f k l0 a1 = some r) :
  Calls Try.prog 43 #[.slice A0 l0.length c0, .int .i64 a1] w fun e w' => e = .returned (.bool r) ∧ Drawn0 w w' := by
 have HR0 := xm hr0
 have HC0 := xm hc0
 clear hr0 hc0
 have H : ((slices_Index_Lint_int.f k l0 a1).bind fun t320 => (some (decide (t320 ≥ 0)))) = some r := h
 clear h
 replace H := Option.bind_eq_some_iff.mp H
 obtain ⟨t320, A30, H⟩ := H
 replace H : (some (decide (t320 ≥ 0))) = some r := H
 have A3 := xm A30
 clear A30
 obtain rfl := Option.some.inj H
 go_enter Try.func43, Try.ntmps43
 go_wp2_with (first | ((with_reducible refine gate_callee (f := 54) rfl ?_); refine goesL_ (some 7) rfl rfl Try.func54 (by kernel_rfl) rfl #[.slice A0 l0.length c0, .int .i64 a1] rfl mB ?_; (with_reducible refine (slices_Index_Lint_int.calls k _ _ l0 a1 t320 _ ?side1 ?side2 A3.out).mono ?_); (case side1 => repeat (first | exact HR0.out | (with_reducible refine Kd.C_alloc ?_ _) | (with_reducible refine Kd.C_drewN ?_ _) | (with_reducible refine Kd.C_drew ?_))); (case side2 => exact HC0.out); rintro e w' ⟨rfl, ⟨nd, rfl⟩⟩; refine ⟨_, rfl, ?_⟩))
 go_ret
 exact ⟨sB, dB⟩

/-! ### impl_start: function 22 -/
mutual
def impl_start.l0 : Nat → Int → List (List Int) → Int → Int → Int → List (S48) → Option (Int × (List (S48)))
 | 0, _, _, _, _, _, _ => none
 | k + 1, x1, x13, x14, x15, x323000, x323001 => if x15 < x14 then (if 0 ≤ x15 then (if x15 < (x13.length : Int) then (impl_start.l1 k x1 x15 (rd_L1 x13 x15) x13 x14 x15 x1 0 x323000 x323001 ([] : List Int)) else (none)) else (none)) else (some (x323000, x323001))
def impl_start.l1 : Nat → Int → Int → List Int → List (List Int) → Int → Int → Int → Int → Int → List (S48) → List Int → Option (Int × (List (S48)))
 | 0, _, _, _, _, _, _, _, _, _, _, _ => none
 | k + 1, x1, x6, x7, x13, x14, x15, x20, x21, x323000, x323001, x325000 => if x21 < x20 then ((slices_Contains_Lint_int.f k x7 x21).bind fun t325 => (if t325 = true then (if x325000.length < 17592186044416 then (impl_start.l1 k x1 x6 x7 x13 x14 x15 x20 (wrap64 (x21 + 1)) x323000 x323001 (x325000 ++ [0])) else (none)) else (if x325000.length < 17592186044416 then (impl_start.l1 k x1 x6 x7 x13 x14 x15 x20 (wrap64 (x21 + 1)) x323000 x323001 (x325000 ++ [wrap64 ((wrap64 ((wrap64 (x6 * 6)) + x21)) + 1)])) else (none)))) else (if x323001.length < 5864062014805 then (impl_start.l0 k x1 x13 x14 (wrap64 (x15 + 1)) x323000 (x323001 ++ [(⟨x325000⟩ : S48)])) else (none))
end
def impl_start.f (k : Nat) (l0 : List (List Int)) (a1 : Int) : Option (Int × (List (S48))) := impl_start.l0 k a1 l0 (l0.length : Int) 0 a1 ([] : List (S48))
theorem impl_start.mono_l : ∀ k, (∀ y0 y1 y2 y3 y4 y5, LeO (impl_start.l0 k y0 y1 y2 y3 y4 y5) (impl_start.l0 (k + 1) y0 y1 y2 y3 y4 y5)) ∧ (∀ y0 y1 y2 y3 y4 y5 y6 y7 y8 y9 y10, LeO (impl_start.l1 k y0 y1 y2 y3 y4 y5 y6 y7 y8 y9 y10) (impl_start.l1 (k + 1) y0 y1 y2 y3 y4 y5 y6 y7 y8 y9 y10))
 | 0 => ⟨fun _ _ _ _ _ _ r h => by simp [impl_start.l0] at h, fun _ _ _ _ _ _ _ _ _ _ _ r h => by simp [impl_start.l1] at h⟩
 | k + 1 => by
  obtain ⟨ih0, ih1⟩ := impl_start.mono_l k
  refine ⟨?_, ?_⟩
  ·intro y0 y1 y2 y3 y4 y5
   unfold impl_start.l0
   repeat' first
   | (with_reducible exact ih0 _ _ _ _ _ _)
   | (with_reducible exact ih1 _ _ _ _ _ _ _ _ _ _ _)
   | (with_reducible exact slices_Contains_Lint_int.mono _ _ _)
   | (with_reducible exact LeO.refl _)
   | (with_reducible exact LeO.none _)
   | (with_reducible refine LeO.ite ?_ ?_)
   | (with_reducible refine LeO.bind ?_ (fun _ => ?_))
   | exact ih0 _ _ _ _ _ _
   | exact ih1 _ _ _ _ _ _ _ _ _ _ _
   | exact slices_Contains_Lint_int.mono _ _ _
   | exact LeO.none _
   | refine LeO.ite ?_ ?_
   | refine LeO.bind ?_ (fun _ => ?_)
  ·intro y0 y1 y2 y3 y4 y5 y6 y7 y8 y9 y10
   unfold impl_start.l1
   repeat' first
   | (with_reducible exact ih0 _ _ _ _ _ _)
   | (with_reducible exact ih1 _ _ _ _ _ _ _ _ _ _ _)
   | (with_reducible exact slices_Contains_Lint_int.mono _ _ _)
   | (with_reducible exact LeO.refl _)
   | (with_reducible exact LeO.none _)
   | (with_reducible refine LeO.ite ?_ ?_)
   | (with_reducible refine LeO.bind ?_ (fun _ => ?_))
   | exact ih0 _ _ _ _ _ _
   | exact ih1 _ _ _ _ _ _ _ _ _ _ _
   | exact slices_Contains_Lint_int.mono _ _ _
   | exact LeO.none _
   | refine LeO.ite ?_ ?_
   | refine LeO.bind ?_ (fun _ => ?_)
theorem impl_start.mono : ∀ a0 a1 k, LeO (impl_start.f k a0 a1) (impl_start.f (k + 1) a0 a1) := by
 intro a0 a1 k
 obtain ⟨ih0, ih1⟩ := impl_start.mono_l k
 unfold impl_start.f
 repeat' first
   | (with_reducible exact ih0 _ _ _ _ _ _)
   | (with_reducible exact ih1 _ _ _ _ _ _ _ _ _ _ _)
   | (with_reducible exact slices_Contains_Lint_int.mono _ _ _)
   | (with_reducible exact LeO.refl _)
   | (with_reducible exact LeO.none _)
   | (with_reducible refine LeO.ite ?_ ?_)
   | (with_reducible refine LeO.bind ?_ (fun _ => ?_))
   | exact ih0 _ _ _ _ _ _
   | exact ih1 _ _ _ _ _ _ _ _ _ _ _
   | exact slices_Contains_Lint_int.mono _ _ _
   | exact LeO.none _
   | refine LeO.ite ?_ ?_
   | refine LeO.bind ?_ (fun _ => ?_)
set_option maxHeartbeats 8000000 in
set_option maxRecDepth 100000 in
theorem impl_start.calls (k : Nat) (A0 : Option Addr) (c0 : Nat) (l0 : List (List Int)) (a1 : Int) (r1 : Int) (r2 : List (S48)) (w : World) (hr0 : Kd.C (Kd.slice 3 (Kd.int .i64)) w A0 l0.length l0) (hc0 : l0.length ≤ c0) (h : impl_start.f k l0 a1 = some (r1, r2)) :
  Calls Try.prog 22 #[.slice A0 l0.length c0, .int .i64 a1] w fun e w' => ∃ v1_ : Value, e = .returned (.agg #[.int .i64 r1, v1_]) ∧ Kd.S k48 48 w' w.heap.size (fun _ => True) v1_ r2 ∧ Below w.heap.size w w' := by
 have hu43 := Try.underlying43
 have hu48 := Try.underlying48
 have HR0 := xm hr0
 have HC0 := xm hc0
 clear hr0 hc0
 have HB := xm (Below.refl w.heap.size w)
 have H : (impl_start.l0 k a1 l0 (l0.length : Int) 0 a1 ([] : List (S48))) = some (r1, r2) := h
 clear h
 have H' := xm H
 clear H
 go_enter Try.func22, Try.ntmps22
 go_wp2_with (first | ((with_reducible refine gate_dst (N := 4) rfl ?_); refine box_event ?hg (N := 4) ?hd (cs := #[.int .i64 0, .slice none 0 0]) (t := 43) ?hr ?_; (case hd => rfl); (case hg => rfl); (case hr => exact zB); intro gb321 hg w3 hbox hb; have n0_ := xm (below_step bB hb); have n1_ := xm (hbox); have n2_ := xm ((by rw [hg]; exact (xz bB) : w.heap.size ≤ gb321)); have n3_ := xm ((by rw [hg]; exact (xz bB) : w.heap.size ≤ gb321)); revert n0_ n1_ n2_ n3_; clear HB; intro HB BK321 GW321 GE321; clear hb hbox hg) | ((with_reducible refine gate_dst (N := 5) rfl ?_); refine box_event ?hg (N := 5) ?hd (cs := #[.int .i64 0, .slice none 0 0]) (t := 43) ?hr ?_; (case hd => rfl); (case hg => rfl); (case hr => exact zB); intro gb322 hg w4 hbox hb; have n0_ := xm (blk_below (kB BK321) hb); have n1_ := xm (below_step bG hb); have n2_ := xm (hbox); have n3_ := xm ((by rw [hg]; exact (xz bG) : w.heap.size ≤ gb322)); have n4_ := xm ((by rw [hg]; exact (xz bG) : w.heap.size ≤ gb322)); have n5_ := xm ((by rw [hg]; exact Nat.ne_of_lt (blk_lt (kB BK321)) : gb321 ≠ gb322)); have n6_ := xm ((by rw [hg]; exact Nat.ne_of_gt (blk_lt (kB BK321)) : gb322 ≠ gb321)); revert n0_ n1_ n2_ n3_ n4_ n5_ n6_; clear BK321 HB; intro BK321 HB BK322 GW322 GE322 NB321_322 NB322_321; clear hb hbox hg; have hnb5 := NB322_321.out; have hnc5 := NB321_322.out; obtain ⟨hcz6_0, hcz6_1, hfz6_0, hfz6_1⟩ := cz2 BK322.out))
 go_loopg [15] k (fun kq v15 w' => ∃ (x15_1 : Int) (x323001_1 : List (S48)) (u323001 : Value), v15 = .int .i64 x15_1 ∧ Aside0 (impl_start.l0 kq a1 l0 (l0.length : Int) x15_1 a1 x323001_1 = some (r1, r2)) ∧ Aside0 (kq ≤ k) ∧ Aside0 (Kd.S k48 48 w' w.heap.size (fun _ => True) u323001 x323001_1) ∧ Aside0 (w'.heap[gb321]? = some (.cells #[.int .i64 0, (.slice none 0 0)] 43 (0, 0))) ∧ Aside0 (w'.heap[gb322]? = some (.cells #[.int .i64 a1, u323001] 43 (0, 0))) ∧ Aside0 (Below w.heap.size w w'))
 case atStart => exact ⟨(0), (([] : List (S48))), (.slice none 0 0), sB, H', ⟨Nat.le_refl _⟩, ⟨by first | exact Kd.S_nil _ _ _ _ _ | exact Kd.N_nil _ _ _ _ _ | exact Kd.V_nil _ _ _ _ _ | exact Kd.Q_nil _ _ _ _ _ | exact Kd.R_nil _ _ _ _ _⟩, ⟨by (with_reducible repeat (first | refine xq ?_ _ | refine xr ?_ | refine xo ?_ _)); refine blk_far ?_ NB321_322.out _; (with_reducible repeat (first | refine xq ?_ _ | refine xr ?_ | refine xo ?_ _)); refine blk_far ?_ NB321_322.out _; (with_reducible repeat (first | refine xq ?_ _ | refine xr ?_ | refine xo ?_ _)); exact BK321.out⟩, ⟨by (with_reducible repeat (first | refine xq ?_ _ | refine xr ?_ | refine xo ?_ _)); refine blk_put (cs := #[.int .i64 a1, .slice none 0 0]) ?_ 1 _ rfl; (with_reducible repeat (first | refine xq ?_ _ | refine xr ?_ | refine xo ?_ _)); refine blk_put (cs := #[.int .i64 0, .slice none 0 0]) ?_ 0 _ rfl; (with_reducible repeat (first | refine xq ?_ _ | refine xr ?_ | refine xo ?_ _)); exact BK322.out⟩, ⟨bG⟩⟩
 case round =>
  clear H'
  try clear c2
  try clear p2
  try clear c5
  try clear hcz6_0 hcz6_1 hfz6_0 hfz6_1
  obtain ⟨x15_1, x323001_1, u323001, rfl, HA, HK1, HO_323001, BK321, BK322, HB⟩ := hrel
  cases gk with
  | zero => exact absurd HA.out (by simp [impl_start.l0])
  | succ k1 =>
   have H := HA.out
   clear HA
   simp only [impl_start.l0] at H
   by_cases c7 : x15_1 < (l0.length : Int)
   ·rw [if_pos c7] at H
    have c7b0 : decide (x15_1 < (l0.length : Int)) = true := decide_eq_true c7
    clear c7
    by_cases c8 : 0 ≤ x15_1
    ·rw [if_pos c8] at H
     have c8b0 : decide (0 ≤ x15_1) = true := decide_eq_true c8
     clear c8
     by_cases c9 : x15_1 < (l0.length : Int)
     ·rw [if_pos c9] at H
      have c9b0 : decide (x15_1 < (l0.length : Int)) = true := decide_eq_true c9
      clear c9
      have H' := xm H
      clear H
      have p323 : 0 ≤ (x15_1 : Int) := of_decide_eq_true aB
      have q323 : x15_1 < (l0.length : Int) := of_decide_eq_true aB
      obtain ⟨ad323, A323_0, c323_0, e323, hx323_0, hl323_0, hi323_0⟩ := at_L1 HR0.out x15_1 p323 q323
      cases e323
      replace hx323_0 := hU hx323_0
      have HR323_0 := xm hi323_0
      have HC323_0 := xm hl323_0
      clear hi323_0 hl323_0
      replace p323 := eq_true p323
      replace q323 := eq_true q323
      go_wp2_with (first | ((with_reducible refine gate_dst (N := 8) rfl ?_); refine box_event ?hg (N := 8) ?hd (cs := #[.slice none 0 0]) (t := 48) ?hr ?_; (case hd => rfl); (case hg => rfl); (case hr => exact zB); intro gb324 hg w10 hbox hb; have n0_ := xm (Kd.S_below (Kd.S_elderB (tB HO_323001) gb324 (Nat.le_of_eq hg.symm)) hb); have n1_ := xm (blk_below (kB BK321) hb); have n2_ := xm (blk_below (kB BK322) hb); have n3_ := xm (below_step bG hb); have n4_ := xm (hbox); have n5_ := xm ((by rw [hg]; exact (xz bG) : w.heap.size ≤ gb324)); have n6_ := xm ((by rw [hg]; exact (xz bG) : w.heap.size ≤ gb324)); have n7_ := xm ((by rw [hg]; exact Nat.ne_of_lt (blk_lt (kB BK321)) : gb321 ≠ gb324)); have n8_ := xm ((by rw [hg]; exact Nat.ne_of_gt (blk_lt (kB BK321)) : gb324 ≠ gb321)); have n9_ := xm ((by rw [hg]; exact Nat.ne_of_lt (blk_lt (kB BK322)) : gb322 ≠ gb324)); have n10_ := xm ((by rw [hg]; exact Nat.ne_of_gt (blk_lt (kB BK322)) : gb324 ≠ gb322)); revert n0_ n1_ n2_ n3_ n4_ n5_ n6_ n7_ n8_ n9_ n10_; clear HO_323001 BK321 BK322 HB; intro HO_323001 BK321 BK322 HB BK324 GW324 GE324 NB321_324 NB324_321 NB322_324 NB324_322; clear hb hbox hg))
      go_loopg [21] k1 (fun kq v21 w' => ∃ (x21_2 : Int) (x325000_2 : List Int) (u325000 : Value), v21 = .int .i64 x21_2 ∧ Aside0 (impl_start.l1 kq a1 x15_1 (rd_L1 l0 x15_1) l0 (l0.length : Int) x15_1 a1 x21_2 a1 x323001_1 x325000_2 = some (r1, r2)) ∧ Aside0 (kq ≤ k1) ∧ Aside0 (Kd.S k48 48 w' w.heap.size (fun k_ => some k_ ≠ (u325000 : Value).ownBlock ∧ k_ ≠ gb324) u323001 x323001_1) ∧ Aside0 (Kd.R (Kd.int .i64) 3 w' w.heap.size (fun _ => True) u325000 x325000_2) ∧ Aside0 (w'.heap[gb321]? = some (.cells #[.int .i64 0, (.slice none 0 0)] 43 (0, 0))) ∧ Aside0 (w'.heap[gb322]? = some (.cells #[.int .i64 a1, u323001] 43 (0, 0))) ∧ Aside0 (w'.heap[gb324]? = some (.cells #[u325000] 48 (0, 0))) ∧ Aside0 (Below w.heap.size w w'))
      case atStart => exact ⟨(0), (([] : List Int)), (.slice none 0 0), sB, H', ⟨Nat.le_refl _⟩, ⟨by (with_reducible repeat (first | apply Kd.S_alloc | apply Kd.S_drewN | apply Kd.S_drew)); exact Kd.S_mono HO_323001.out (fun _ hk => ⟨(by simp [Value.ownBlock]), hk.2⟩)⟩, ⟨by first | exact Kd.R_nil _ _ _ _ _ | exact Kd.N_nil _ _ _ _ _ | exact Kd.V_nil _ _ _ _ _ | exact Kd.Q_nil _ _ _ _ _ | exact Kd.S_nil _ _ _ _ _⟩, ⟨kB BK321⟩, ⟨kB BK322⟩, ⟨kB BK324⟩, ⟨bG⟩⟩
      case round =>
       clear H'
       try clear c2
       try clear p2
       try clear c3
       try clear p3
       try clear q3
       try clear hx3
       try clear c5
       try clear c7
       try clear c7b0
       try clear c8
       try clear c8b0
       try clear c9
       try clear c9b0
       try clear hcz6_0 hcz6_1 hfz6_0 hfz6_1
       try clear hx323_0
       try clear p2
       try clear p323
       try clear q323
       obtain ⟨x21_2, x325000_2, u325000, rfl, HA, HK2, HO_323001, HO_325000, BK321, BK322, BK324, HB⟩ := hrel
       cases gk with
       | zero => exact absurd HA.out (by simp [impl_start.l1])
       | succ k2 =>
        have H := HA.out
        clear HA
        simp only [impl_start.l1] at H
        by_cases c11 : x21_2 < a1
        ·rw [if_pos c11] at H
         have c11b0 : decide (x21_2 < a1) = true := decide_eq_true c11
         clear c11
         replace H := Option.bind_eq_some_iff.mp H
         obtain ⟨t325, A120, H⟩ := H
         replace H : (if t325 = true then (if x325000_2.length < 17592186044416 then (impl_start.l1 k2 a1 x15_1 (rd_L1 l0 x15_1) l0 (l0.length : Int) x15_1 a1 (wrap64 (x21_2 + 1)) a1 x323001_1 (x325000_2 ++ [0])) else (none)) else (if x325000_2.length < 17592186044416 then (impl_start.l1 k2 a1 x15_1 (rd_L1 l0 x15_1) l0 (l0.length : Int) x15_1 a1 (wrap64 (x21_2 + 1)) a1 x323001_1 (x325000_2 ++ [wrap64 ((wrap64 ((wrap64 (x15_1 * 6)) + x21_2)) + 1)])) else (none))) = some (r1, r2) := H
         have A12 := xm A120
         clear A120
         by_cases c13 : t325 = true
         ·subst c13
          have H1 : (if x325000_2.length < 17592186044416 then (impl_start.l1 k2 a1 x15_1 (rd_L1 l0 x15_1) l0 (l0.length : Int) x15_1 a1 (wrap64 (x21_2 + 1)) a1 x323001_1 (x325000_2 ++ [0])) else (none)) = some (r1, r2) := by first | (with_reducible rfl) | (rw [if_pos rfl] at H; exact H)
          clear H
          have H := H1
          clear H1
          by_cases c14 : x325000_2.length < 17592186044416
          ·rw [if_pos c14] at H
           have LMc14 := xm c14
           clear c14
           obtain ⟨y326, hy326⟩ : ∃ y_ : List Int, y_ = (x325000_2 ++ [0]) := ⟨_, rfl⟩
           replace H : (impl_start.l1 k2 a1 x15_1 (rd_L1 l0 x15_1) l0 (l0.length : Int) x15_1 a1 (wrap64 (x21_2 + 1)) a1 x323001_1 y326) = some (r1, r2) := by first | (rw [hy326]; with_reducible exact H) | (have H2_ := (Option.bind_some _ _).symm.trans H; rw [hy326]; with_reducible exact H2_) | (have H2_ := (Option.bind_some _ _).symm.trans H; with_reducible exact H2_) | with_reducible exact H | (rw [hy326]; exact H) | exact H
           have Ny326 := xm hy326
           clear hy326
           have H' := xm H
           clear H
           go_wp2_with (first | ((with_reducible refine gate_callee (f := 43) rfl ?_); refine goesL_ (some 26) rfl rfl Try.func43 (by kernel_rfl) rfl #[.slice A323_0 (rd_L1 l0 x15_1).length c323_0, .int .i64 x21_2] rfl mB ?_; (with_reducible refine (slices_Contains_Lint_int.calls k2 _ _ (rd_L1 l0 x15_1) x21_2 true _ ?side1 ?side2 A12.out).mono ?_); (case side1 => exact cB (Kd.C_below HR323_0.out HB.out)); (case side2 => exact HC323_0.out); rintro e w' ⟨rfl, ⟨nd, rfl⟩⟩; refine ⟨_, rfl, ?_⟩; (first | (rw [drewN_self wr]; generalize hq_ : World.drewN wr _ = wr; have n0_ : Aside0 (Kd.S k48 48 wr w.heap.size (fun k_ => some k_ ≠ (u325000 : Value).ownBlock ∧ k_ ≠ gb324) u323001 x323001_1) := ⟨by rw [← hq_]; exact (tB HO_323001)⟩; have n1_ : Aside0 (Kd.R (Kd.int .i64) 3 wr w.heap.size (fun _ => True) u325000 x325000_2) := ⟨by rw [← hq_]; exact (rB HO_325000)⟩; have n2_ : Aside0 (wr.heap[gb321]? = some (.cells #[.int .i64 0, .slice none 0 0] 43 (0, 0))) := ⟨by rw [← hq_]; exact (kB BK321)⟩; have n3_ : Aside0 (wr.heap[gb322]? = some (.cells #[.int .i64 a1, u323001] 43 (0, 0))) := ⟨by rw [← hq_]; exact (kB BK322)⟩; have n4_ : Aside0 (wr.heap[gb324]? = some (.cells #[u325000] 48 (0, 0))) := ⟨by rw [← hq_]; exact (kB BK324)⟩; have n5_ : Aside0 (Below w.heap.size w wr) := ⟨by rw [← hq_]; exact bG⟩; clear HO_323001 HO_325000 BK321 BK322 BK324 HB hq_; revert n0_ n1_ n2_ n3_ n4_ n5_; intro HO_323001 HO_325000 BK321 BK322 BK324 HB) | (have n0_ : Aside0 (Kd.S k48 48 wr w.heap.size (fun k_ => some k_ ≠ (u325000 : Value).ownBlock ∧ k_ ≠ gb324) u323001 x323001_1) := ⟨(tB HO_323001)⟩; have n1_ : Aside0 (Kd.R (Kd.int .i64) 3 wr w.heap.size (fun _ => True) u325000 x325000_2) := ⟨(rB HO_325000)⟩; have n2_ : Aside0 (wr.heap[gb321]? = some (.cells #[.int .i64 0, .slice none 0 0] 43 (0, 0))) := ⟨(kB BK321)⟩; have n3_ : Aside0 (wr.heap[gb322]? = some (.cells #[.int .i64 a1, u323001] 43 (0, 0))) := ⟨(kB BK322)⟩; have n4_ : Aside0 (wr.heap[gb324]? = some (.cells #[u325000] 48 (0, 0))) := ⟨(kB BK324)⟩; have n5_ : Aside0 (Below w.heap.size w wr) := ⟨bG⟩; clear HO_323001 HO_325000 BK321 BK322 BK324 HB; revert n0_ n1_ n2_ n3_ n4_ n5_; intro HO_323001 HO_325000 BK321 BK322 BK324 HB)); have hnb15 := NB324_321.out; have hnc15 := NB321_324.out; have hnb16 := NB324_322.out; have hnc16 := NB322_324.out; obtain ⟨hcz17_0, hfz17_0⟩ := cz1 BK324.out) | ((with_reducible refine gate_builtin (b := .append) (xs := #[.tmp 34, .tmp 36]) rfl ?_); at_builtin; refine Kd.R_append (Kd.int .i64) (w0 := w) w.heap.size rfl (.tmp 34) (.tmp 36) 35 3 (.int .i64 0) 8 rfl Try.underlying35 info3 rfl (by decide) (by omega) u325000 x325000_2 0 [.int .i64 0] (fun _ => True) (fun _ => False) rfl rfl ?aP (fun _ hk => hk.elim) ?aF ?aO ?aB ?aS ?aL ?_; (case aP => exact rfl); (case aB => exact bG); (case aF => exact (fun _ _ => trivial)); (case aO => exact (rB HO_325000)); (case aS => exact (xz bG)); (case aL => have := LMc14.out; omega); intro v327 w18 ho hb hg hat; rw [← Ny326.out] at ho; have n0_ := xm (Kd.S_after (ok := (fun k_ => k_ ≠ gb324)) (by (with_reducible repeat (first | apply Kd.S_alloc | apply Kd.S_drewN | apply Kd.S_drew)); exact Kd.S_mono HO_323001.out (fun _ hk => ⟨hk.2, hk.1⟩)) hg hat); have n1_ := xm (blk_grown (kB BK321) hg (Kd.R_ne HO_325000.out BK321.out (by decide))); have n2_ := xm (blk_grown (kB BK322) hg (Kd.R_ne HO_325000.out BK322.out (by decide))); have n3_ := xm (blk_grown (kB BK324) hg (Kd.R_ne HO_325000.out BK324.out (by decide))); have n4_ := xm (hb); have n5_ := xm (ho); revert n0_ n1_ n2_ n3_ n4_ n5_; clear HO_323001 BK321 BK322 BK324 HB HO_325000; intro HO_323001 BK321 BK322 BK324 HB HO328; clear ho hb hg hat; obtain ⟨Ao19, co19, eo19⟩ := Kd.R_slice HO328.out; subst eo19; obtain ⟨hcz20_0, hfz20_0⟩ := cz1 BK324.out))
           go_roundg k2
           case measure => have := HK1.out; have := HK2.out; omega
           case rel => exact ⟨(wrap64 (x21_2 + 1)), (y326), (.slice Ao19 y326.length co19), sB, H', ⟨by have := HK1.out; have := HK2.out; omega⟩, ⟨by (with_reducible repeat (first | apply Kd.S_alloc | apply Kd.S_drewN | apply Kd.S_drew)); exact Kd.S_mono (Kd.S_far (p := ⟨gb324, 0, none⟩) (Kd.S_mono HO_323001.out (fun k_ hk => (⟨hk, hk.1⟩ : _ ∧ k_ ≠ gb324))) (fun _ hk => hk.2) (.slice Ao19 y326.length co19)) (fun _ hk => ⟨hk.1.2, hk.1.1⟩)⟩, ⟨by (with_reducible repeat (first | apply Kd.R_alloc | apply Kd.R_drewN | apply Kd.R_drew)); exact Kd.R_mono (Kd.R_far (p := ⟨gb324, 0, none⟩) (Kd.R_types HO328.out BK324.out (by decide)) (fun _ hk => hk.2) (.slice Ao19 y326.length co19)) (fun _ hk => trivial)⟩, ⟨by (with_reducible repeat (first | refine xq ?_ _ | refine xr ?_ | refine xo ?_ _)); refine blk_far ?_ NB321_324.out _; (with_reducible repeat (first | refine xq ?_ _ | refine xr ?_ | refine xo ?_ _)); exact BK321.out⟩, ⟨by (with_reducible repeat (first | refine xq ?_ _ | refine xr ?_ | refine xo ?_ _)); refine blk_far ?_ NB322_324.out _; (with_reducible repeat (first | refine xq ?_ _ | refine xr ?_ | refine xo ?_ _)); exact BK322.out⟩, ⟨by (with_reducible repeat (first | refine xq ?_ _ | refine xr ?_ | refine xo ?_ _)); refine blk_put (cs := #[u325000]) ?_ 0 _ rfl; (with_reducible repeat (first | refine xq ?_ _ | refine xr ?_ | refine xo ?_ _)); exact BK324.out⟩, ⟨bG⟩⟩
          ·rw [if_neg c14] at H
           exact absurd H (by simp)
         ·replace c13 := Bool.eq_false_iff.mpr c13
          subst c13
          have H1 : (if x325000_2.length < 17592186044416 then (impl_start.l1 k2 a1 x15_1 (rd_L1 l0 x15_1) l0 (l0.length : Int) x15_1 a1 (wrap64 (x21_2 + 1)) a1 x323001_1 (x325000_2 ++ [wrap64 ((wrap64 ((wrap64 (x15_1 * 6)) + x21_2)) + 1)])) else (none)) = some (r1, r2) := by first | (with_reducible rfl) | (rw [if_neg (show ¬ (false = true) by decide)] at H; exact H)
          clear H
          have H := H1
          clear H1
          by_cases c21 : x325000_2.length < 17592186044416
          ·rw [if_pos c21] at H
           have LMc21 := xm c21
           clear c21
           obtain ⟨y329, hy329⟩ : ∃ y_ : List Int, y_ = (x325000_2 ++ [wrap64 ((wrap64 ((wrap64 (x15_1 * 6)) + x21_2)) + 1)]) := ⟨_, rfl⟩
           replace H : (impl_start.l1 k2 a1 x15_1 (rd_L1 l0 x15_1) l0 (l0.length : Int) x15_1 a1 (wrap64 (x21_2 + 1)) a1 x323001_1 y329) = some (r1, r2) := by first | (rw [hy329]; with_reducible exact H) | (have H2_ := (Option.bind_some _ _).symm.trans H; rw [hy329]; with_reducible exact H2_) | (have H2_ := (Option.bind_some _ _).symm.trans H; with_reducible exact H2_) | with_reducible exact H | (rw [hy329]; exact H) | exact H
           have Ny329 := xm hy329
           clear hy329
           have H' := xm H
           clear H
           go_wp2_with (first | ((with_reducible refine gate_callee (f := 43) rfl ?_); refine goesL_ (some 26) rfl rfl Try.func43 (by kernel_rfl) rfl #[.slice A323_0 (rd_L1 l0 x15_1).length c323_0, .int .i64 x21_2] rfl mB ?_; (with_reducible refine (slices_Contains_Lint_int.calls k2 _ _ (rd_L1 l0 x15_1) x21_2 false _ ?side1 ?side2 A12.out).mono ?_); (case side1 => exact cB (Kd.C_below HR323_0.out HB.out)); (case side2 => exact HC323_0.out); rintro e w' ⟨rfl, ⟨nd, rfl⟩⟩; refine ⟨_, rfl, ?_⟩; (first | (rw [drewN_self wr]; generalize hq_ : World.drewN wr _ = wr; have n0_ : Aside0 (Kd.S k48 48 wr w.heap.size (fun k_ => some k_ ≠ (u325000 : Value).ownBlock ∧ k_ ≠ gb324) u323001 x323001_1) := ⟨by rw [← hq_]; exact (tB HO_323001)⟩; have n1_ : Aside0 (Kd.R (Kd.int .i64) 3 wr w.heap.size (fun _ => True) u325000 x325000_2) := ⟨by rw [← hq_]; exact (rB HO_325000)⟩; have n2_ : Aside0 (wr.heap[gb321]? = some (.cells #[.int .i64 0, .slice none 0 0] 43 (0, 0))) := ⟨by rw [← hq_]; exact (kB BK321)⟩; have n3_ : Aside0 (wr.heap[gb322]? = some (.cells #[.int .i64 a1, u323001] 43 (0, 0))) := ⟨by rw [← hq_]; exact (kB BK322)⟩; have n4_ : Aside0 (wr.heap[gb324]? = some (.cells #[u325000] 48 (0, 0))) := ⟨by rw [← hq_]; exact (kB BK324)⟩; have n5_ : Aside0 (Below w.heap.size w wr) := ⟨by rw [← hq_]; exact bG⟩; clear HO_323001 HO_325000 BK321 BK322 BK324 HB hq_; revert n0_ n1_ n2_ n3_ n4_ n5_; intro HO_323001 HO_325000 BK321 BK322 BK324 HB) | (have n0_ : Aside0 (Kd.S k48 48 wr w.heap.size (fun k_ => some k_ ≠ (u325000 : Value).ownBlock ∧ k_ ≠ gb324) u323001 x323001_1) := ⟨(tB HO_323001)⟩; have n1_ : Aside0 (Kd.R (Kd.int .i64) 3 wr w.heap.size (fun _ => True) u325000 x325000_2) := ⟨(rB HO_325000)⟩; have n2_ : Aside0 (wr.heap[gb321]? = some (.cells #[.int .i64 0, .slice none 0 0] 43 (0, 0))) := ⟨(kB BK321)⟩; have n3_ : Aside0 (wr.heap[gb322]? = some (.cells #[.int .i64 a1, u323001] 43 (0, 0))) := ⟨(kB BK322)⟩; have n4_ : Aside0 (wr.heap[gb324]? = some (.cells #[u325000] 48 (0, 0))) := ⟨(kB BK324)⟩; have n5_ : Aside0 (Below w.heap.size w wr) := ⟨bG⟩; clear HO_323001 HO_325000 BK321 BK322 BK324 HB; revert n0_ n1_ n2_ n3_ n4_ n5_; intro HO_323001 HO_325000 BK321 BK322 BK324 HB)); have hnb22 := NB324_321.out; have hnc22 := NB321_324.out; have hnb23 := NB324_322.out; have hnc23 := NB322_324.out; obtain ⟨hcz24_0, hfz24_0⟩ := cz1 BK324.out) | ((with_reducible refine gate_builtin (b := .append) (xs := #[.tmp 34, .tmp 36]) rfl ?_); at_builtin; refine Kd.R_append (Kd.int .i64) (w0 := w) w.heap.size rfl (.tmp 34) (.tmp 36) 35 3 (.int .i64 0) 8 rfl Try.underlying35 info3 rfl (by decide) (by omega) u325000 x325000_2 (wrap64 ((wrap64 ((wrap64 (x15_1 * 6)) + x21_2)) + 1)) [.int .i64 (wrap64 ((wrap64 ((wrap64 (x15_1 * 6)) + x21_2)) + 1))] (fun _ => True) (fun _ => False) rfl rfl ?aP (fun _ hk => hk.elim) ?aF ?aO ?aB ?aS ?aL ?_; (case aP => exact rfl); (case aB => exact bG); (case aF => exact (fun _ _ => trivial)); (case aO => exact (rB HO_325000)); (case aS => exact (xz bG)); (case aL => have := LMc21.out; omega); intro v330 w25 ho hb hg hat; rw [← Ny329.out] at ho; have n0_ := xm (Kd.S_after (ok := (fun k_ => k_ ≠ gb324)) (by (with_reducible repeat (first | apply Kd.S_alloc | apply Kd.S_drewN | apply Kd.S_drew)); exact Kd.S_mono HO_323001.out (fun _ hk => ⟨hk.2, hk.1⟩)) hg hat); have n1_ := xm (blk_grown (kB BK321) hg (Kd.R_ne HO_325000.out BK321.out (by decide))); have n2_ := xm (blk_grown (kB BK322) hg (Kd.R_ne HO_325000.out BK322.out (by decide))); have n3_ := xm (blk_grown (kB BK324) hg (Kd.R_ne HO_325000.out BK324.out (by decide))); have n4_ := xm (hb); have n5_ := xm (ho); revert n0_ n1_ n2_ n3_ n4_ n5_; clear HO_323001 BK321 BK322 BK324 HB HO_325000; intro HO_323001 BK321 BK322 BK324 HB HO331; clear ho hb hg hat; obtain ⟨Ao26, co26, eo26⟩ := Kd.R_slice HO331.out; subst eo26; obtain ⟨hcz27_0, hfz27_0⟩ := cz1 BK324.out))
           go_roundg k2
           case measure => have := HK1.out; have := HK2.out; omega
           case rel => exact ⟨(wrap64 (x21_2 + 1)), (y329), (.slice Ao26 y329.length co26), sB, H', ⟨by have := HK1.out; have := HK2.out; omega⟩, ⟨by (with_reducible repeat (first | apply Kd.S_alloc | apply Kd.S_drewN | apply Kd.S_drew)); exact Kd.S_mono (Kd.S_far (p := ⟨gb324, 0, none⟩) (Kd.S_mono HO_323001.out (fun k_ hk => (⟨hk, hk.1⟩ : _ ∧ k_ ≠ gb324))) (fun _ hk => hk.2) (.slice Ao26 y329.length co26)) (fun _ hk => ⟨hk.1.2, hk.1.1⟩)⟩, ⟨by (with_reducible repeat (first | apply Kd.R_alloc | apply Kd.R_drewN | apply Kd.R_drew)); exact Kd.R_mono (Kd.R_far (p := ⟨gb324, 0, none⟩) (Kd.R_types HO331.out BK324.out (by decide)) (fun _ hk => hk.2) (.slice Ao26 y329.length co26)) (fun _ hk => trivial)⟩, ⟨by (with_reducible repeat (first | refine xq ?_ _ | refine xr ?_ | refine xo ?_ _)); refine blk_far ?_ NB321_324.out _; (with_reducible repeat (first | refine xq ?_ _ | refine xr ?_ | refine xo ?_ _)); exact BK321.out⟩, ⟨by (with_reducible repeat (first | refine xq ?_ _ | refine xr ?_ | refine xo ?_ _)); refine blk_far ?_ NB322_324.out _; (with_reducible repeat (first | refine xq ?_ _ | refine xr ?_ | refine xo ?_ _)); exact BK322.out⟩, ⟨by (with_reducible repeat (first | refine xq ?_ _ | refine xr ?_ | refine xo ?_ _)); refine blk_put (cs := #[u325000]) ?_ 0 _ rfl; (with_reducible repeat (first | refine xq ?_ _ | refine xr ?_ | refine xo ?_ _)); exact BK324.out⟩, ⟨bG⟩⟩
          ·rw [if_neg c21] at H
           exact absurd H (by simp)
        ·rw [if_neg c11] at H
         have c11b0 : decide (x21_2 < a1) = false := decide_eq_false c11
         clear c11
         by_cases c28 : x323001_1.length < 5864062014805
         ·rw [if_pos c28] at H
          have LMc28 := xm c28
          clear c28
          obtain ⟨y332, hy332⟩ : ∃ y_ : List (S48), y_ = (x323001_1 ++ [(⟨x325000_2⟩ : S48)]) := ⟨_, rfl⟩
          replace H : (impl_start.l0 k2 a1 l0 (l0.length : Int) (wrap64 (x15_1 + 1)) a1 y332) = some (r1, r2) := by first | (rw [hy332]; with_reducible exact H) | (have H2_ := (Option.bind_some _ _).symm.trans H; rw [hy332]; with_reducible exact H2_) | (have H2_ := (Option.bind_some _ _).symm.trans H; with_reducible exact H2_) | with_reducible exact H | (rw [hy332]; exact H) | exact H
          have Ny332 := xm hy332
          clear hy332
          have H' := xm H
          clear H
          have hnb29 := NB322_321.out
          have hnc29 := NB321_322.out
          have hnb30 := NB322_324.out
          have hnc30 := NB324_322.out
          obtain ⟨hcz31_0, hcz31_1, hfz31_0, hfz31_1⟩ := cz2 BK322.out
          have hnb32 := NB324_321.out
          have hnc32 := NB321_324.out
          obtain ⟨hcz33_0, hfz33_0⟩ := cz1 BK324.out
          obtain ⟨Ao35, co35, eo35⟩ := Kd.R_slice HO_325000.out
          subst eo35
          go_wp2_with (first | ((with_reducible refine gate_builtin (b := .append) (xs := #[.tmp 41, .tmp 43]) rfl ?_); at_builtin; refine Kd.S_append k48 (w0 := w) w.heap.size rfl (.tmp 41) (.tmp 43) 41 48 (.agg #[(.slice none 0 0)]) 24 rfl Try.underlying41 info48 rfl (by decide) (by omega) u323001 x323001_1 (⟨x325000_2⟩ : S48) [.slice Ao35 x325000_2.length co35] (fun k_ => k_ ≠ gb324) (fun k_ => some k_ = (.slice Ao35 x325000_2.length co35 : Value).ownBlock) rfl rfl ?aP (fun k_ hk_ => ((Kd.R_mono (ok' := fun k_ => ((fun k_ => k_ ≠ gb324)) k_ ∧ some k_ ≠ (u323001 : Value).ownBlock) (Kd.R_types (Kd.R_apart' (HO_325000.out) (Kd.S_typed HO_323001.out) (by decide)) BK324.out (by decide)) (fun k_ hk => ⟨hk.2, hk.1.2⟩))).1 k_ hk_.symm) ?aF ?aO ?aB ?aS ?aL ?_; (case aP => exact k48_mkM _ _ _ (⟨x325000_2⟩ : S48) (Kd.R_mono (Kd.R_tight rfl (Kd.R_mono (ok' := fun k_ => ((fun k_ => k_ ≠ gb324)) k_ ∧ some k_ ≠ (u323001 : Value).ownBlock) (Kd.R_types (Kd.R_apart' (HO_325000.out) (Kd.S_typed HO_323001.out) (by decide)) BK324.out (by decide)) (fun k_ hk => ⟨hk.2, hk.1.2⟩))) (fun _ h_ => h_))); (case aB => exact bG); (case aF => exact (fun k_ hk => Kd.freshB (kB BK324) k_ hk)); (case aO => exact (by (with_reducible repeat (first | apply Kd.S_alloc | apply Kd.S_drewN | apply Kd.S_drew)); exact Kd.S_mono HO_323001.out (fun k_ hk => ⟨hk.2, fun e_ => hk.1 e_⟩))); (case aS => exact (xz bG)); (case aL => have := LMc28.out; omega); intro v333 w34 ho hb hg hat; rw [← Ny332.out] at ho; have n0_ := xm (blk_grown (kB BK321) hg (Kd.S_ne HO_323001.out BK321.out (by decide))); have n1_ := xm (blk_grown (kB BK322) hg (Kd.S_ne HO_323001.out BK322.out (by decide))); have n2_ := xm (blk_grown (kB BK324) hg (Kd.S_away HO_323001.out (fun _ hk => hk.2))); have n3_ := xm (hb); have n4_ := xm (ho); revert n0_ n1_ n2_ n3_ n4_; clear BK321 BK322 BK324 HB HO_323001 HO_325000; intro BK321 BK322 BK324 HB HO334; clear ho hb hg hat; obtain ⟨Ao36, co36, eo36⟩ := Kd.S_slice HO334.out; subst eo36; obtain ⟨hcz37_0, hcz37_1, hfz37_0, hfz37_1⟩ := cz2 BK322.out))
          go_roundg k2
          case measure => have := HK1.out; have := HK2.out; omega
          case rel => exact ⟨(wrap64 (x15_1 + 1)), (y332), (.slice Ao36 y332.length co36), sB, H', ⟨by have := HK1.out; have := HK2.out; omega⟩, ⟨by (with_reducible repeat (first | apply Kd.S_alloc | apply Kd.S_drewN | apply Kd.S_drew)); exact Kd.S_mono (Kd.S_far (p := ⟨gb322, 1, none⟩) (Kd.S_types HO334.out BK322.out (by decide)) (fun _ hk => hk.2) (.slice Ao36 y332.length co36)) (fun _ hk => trivial)⟩, ⟨by (with_reducible repeat (first | refine xq ?_ _ | refine xr ?_ | refine xo ?_ _)); refine blk_far ?_ NB321_322.out _; (with_reducible repeat (first | refine xq ?_ _ | refine xr ?_ | refine xo ?_ _)); exact BK321.out⟩, ⟨by (with_reducible repeat (first | refine xq ?_ _ | refine xr ?_ | refine xo ?_ _)); refine blk_put (cs := #[.int .i64 a1, u323001]) ?_ 1 _ rfl; (with_reducible repeat (first | refine xq ?_ _ | refine xr ?_ | refine xo ?_ _)); exact BK322.out⟩, ⟨bG⟩⟩
         ·rw [if_neg c28] at H
          exact absurd H (by simp)
     ·rw [if_neg c9] at H
      exact absurd H (by simp)
    ·rw [if_neg c8] at H
     exact absurd H (by simp)
   ·rw [if_neg c7] at H
    have c7b0 : decide (x15_1 < (l0.length : Int)) = false := decide_eq_false c7
    clear c7
    simp only [Option.some.injEq, Prod.mk.injEq] at H
    obtain ⟨rfl, rfl⟩ := H
    have hnb38 := NB322_321.out
    have hnc38 := NB321_322.out
    obtain ⟨hcz39_0, hcz39_1, hfz39_0, hfz39_1⟩ := cz2 BK322.out
    obtain ⟨hcz40_0, hcz40_1, hfz40_0, hfz40_1⟩ := cz2 BK321.out
    obtain ⟨Ao41, co41, eo41⟩ := Kd.S_slice HO_323001.out
    subst eo41
    go_wp2
    refine bodyPost_ret (results_cell_row rfl _ _ gb321 43 #[.int .i64 a1, .slice Ao41 x323001_1.length co41] (0, 0) _ rfl (by (with_reducible repeat (first | refine xq ?_ _ | refine xr ?_ | refine xo ?_ _)); refine blk_put (cs := #[.int .i64 a1, .slice none 0 0]) ?_ 1 _ rfl; (with_reducible repeat (first | refine xq ?_ _ | refine xr ?_ | refine xo ?_ _)); refine blk_put (cs := #[.int .i64 0, .slice none 0 0]) ?_ 0 _ rfl; (with_reducible repeat (first | refine xq ?_ _ | refine xr ?_ | refine xo ?_ _)); exact BK321.out) Try.underlying43 rfl (by kernel_rfl)) rfl ?_
    exact ⟨_, eB, by (with_reducible repeat (first | apply Kd.S_alloc | apply Kd.S_drewN | apply Kd.S_drew)); exact Kd.S_mono (Kd.S_far (p := ⟨gb321, 1, none⟩) (Kd.S_far (p := ⟨gb321, 0, none⟩) (Kd.S_types HO_323001.out BK321.out (by decide)) (fun _ hk => hk.2) (.int .i64 a1)) (fun _ hk => hk.2) (.slice Ao41 x323001_1.length co41)) (fun _ hk => trivial), bG⟩

/-! ### cmp_isNaN_int: function 64 -/
def cmp_isNaN_int.f (a0 : Int) : Option (Bool) := some (a0 != a0)
set_option maxHeartbeats 8000000 in
set_option maxRecDepth 100000 in
theorem cmp_isNaN_int.calls (a0 : Int) (r : Bool) (w : World) (h : cmp_isNaN_int.f a0 = some r) :
  Calls Try.prog 64 #[.int .i64 a0] w fun e w' => e = .returned (.bool r) ∧ Drawn0 w w' := by
 have H : (some (a0 != a0)) = some r := h
 clear h
 obtain rfl := Option.some.inj H
 go_enter Try.func64, Try.ntmps64
 go_wp2
 go_ret
 exact ⟨sB, dB⟩

/-! ### cmp_Compare_int: function 63 -/
def cmp_Compare_int.f (a0 : Int) (a1 : Int) : Option (Int) := (cmp_isNaN_int.f a0).bind fun t335 => ((cmp_isNaN_int.f a1).bind fun t336 => (if t335 = true then (if t336 = true then (some 0) else (some (-1))) else (if t336 = true then (some 1) else (if a0 < a1 then (some (-1)) else (if a0 > a1 then (some 1) else (some 0))))))
set_option maxHeartbeats 8000000 in
set_option maxRecDepth 100000 in
theorem cmp_Compare_int.calls (a0 : Int) (a1 : Int) (r : Int) (w : World) (h : cmp_Compare_int.f a0 a1 = some r) :
  Calls Try.prog 63 #[.int .i64 a0, .int .i64 a1] w fun e w' => e = .returned (.int .i64 r) ∧ Drawn0 w w' := by
 have H : ((cmp_isNaN_int.f a0).bind fun t335 => ((cmp_isNaN_int.f a1).bind fun t336 => (if t335 = true then (if t336 = true then (some 0) else (some (-1))) else (if t336 = true then (some 1) else (if a0 < a1 then (some (-1)) else (if a0 > a1 then (some 1) else (some 0))))))) = some r := h
 clear h
 replace H := Option.bind_eq_some_iff.mp H
 obtain ⟨t335, A30, H⟩ := H
 replace H : ((cmp_isNaN_int.f a1).bind fun t336 => (if t335 = true then (if t336 = true then (some 0) else (some (-1))) else (if t336 = true then (some 1) else (if a0 < a1 then (some (-1)) else (if a0 > a1 then (some 1) else (some 0)))))) = some r := H
 have A3 := xm A30
 clear A30
 replace H := Option.bind_eq_some_iff.mp H
 obtain ⟨t336, A40, H⟩ := H
 replace H : (if t335 = true then (if t336 = true then (some 0) else (some (-1))) else (if t336 = true then (some 1) else (if a0 < a1 then (some (-1)) else (if a0 > a1 then (some 1) else (some 0))))) = some r := H
 have A4 := xm A40
 clear A40
 by_cases c5 : t335 = true
 ·subst c5
  have H1 : (if t336 = true then (some 0) else (some (-1))) = some r := by first | (with_reducible rfl) | (rw [if_pos rfl] at H; exact H)
  clear H
  have H := H1
  clear H1
  by_cases c6 : t336 = true
  ·subst c6
   have H1 : (some 0) = some r := by first | (with_reducible rfl) | (rw [if_pos rfl] at H; exact H)
   clear H
   have H := H1
   clear H1
   obtain rfl := Option.some.inj H
   go_enter Try.func63, Try.ntmps63
   go_wp2_with (first | ((with_reducible refine gate_callee (f := 64) rfl ?_); refine goesL_ (some 8) rfl rfl Try.func64 (by kernel_rfl) rfl #[.int .i64 a0] rfl mB ?_; (with_reducible refine (cmp_isNaN_int.calls a0 true _ A3.out).mono ?_); rintro e w' ⟨rfl, ⟨nd, rfl⟩⟩; refine ⟨_, rfl, ?_⟩) | ((with_reducible refine gate_callee (f := 64) rfl ?_); refine goesL_ (some 10) rfl rfl Try.func64 (by kernel_rfl) rfl #[.int .i64 a1] rfl mB ?_; (with_reducible refine (cmp_isNaN_int.calls a1 true _ A4.out).mono ?_); rintro e w' ⟨rfl, ⟨nd, rfl⟩⟩; refine ⟨_, rfl, ?_⟩))
   go_ret
   exact ⟨sB, dB⟩
  ·replace c6 := Bool.eq_false_iff.mpr c6
   subst c6
   have H1 : (some (-1)) = some r := by first | (with_reducible rfl) | (rw [if_neg (show ¬ (false = true) by decide)] at H; exact H)
   clear H
   have H := H1
   clear H1
   obtain rfl := Option.some.inj H
   go_enter Try.func63, Try.ntmps63
   go_wp2_with (first | ((with_reducible refine gate_callee (f := 64) rfl ?_); refine goesL_ (some 8) rfl rfl Try.func64 (by kernel_rfl) rfl #[.int .i64 a0] rfl mB ?_; (with_reducible refine (cmp_isNaN_int.calls a0 true _ A3.out).mono ?_); rintro e w' ⟨rfl, ⟨nd, rfl⟩⟩; refine ⟨_, rfl, ?_⟩) | ((with_reducible refine gate_callee (f := 64) rfl ?_); refine goesL_ (some 10) rfl rfl Try.func64 (by kernel_rfl) rfl #[.int .i64 a1] rfl mB ?_; (with_reducible refine (cmp_isNaN_int.calls a1 false _ A4.out).mono ?_); rintro e w' ⟨rfl, ⟨nd, rfl⟩⟩; refine ⟨_, rfl, ?_⟩))
   go_ret
   exact ⟨sB, dB⟩
 ·replace c5 := Bool.eq_false_iff.mpr c5
  subst c5
  have H1 : (if t336 = true then (some 1) else (if a0 < a1 then (some (-1)) else (if a0 > a1 then (some 1) else (some 0)))) = some r := by first | (with_reducible rfl) | (rw [if_neg (show ¬ (false = true) by decide)] at H; exact H)
  clear H
  have H := H1
  clear H1
  by_cases c7 : t336 = true
  ·subst c7
   have H1 : (some 1) = some r := by first | (with_reducible rfl) | (rw [if_pos rfl] at H; exact H)
   clear H
   have H := H1
   clear H1
   obtain rfl := Option.some.inj H
   go_enter Try.func63, Try.ntmps63
   go_wp2_with (first | ((with_reducible refine gate_callee (f := 64) rfl ?_); refine goesL_ (some 8) rfl rfl Try.func64 (by kernel_rfl) rfl #[.int .i64 a0] rfl mB ?_; (with_reducible refine (cmp_isNaN_int.calls a0 false _ A3.out).mono ?_); rintro e w' ⟨rfl, ⟨nd, rfl⟩⟩; refine ⟨_, rfl, ?_⟩) | ((with_reducible refine gate_callee (f := 64) rfl ?_); refine goesL_ (some 10) rfl rfl Try.func64 (by kernel_rfl) rfl #[.int .i64 a1] rfl mB ?_; (with_reducible refine (cmp_isNaN_int.calls a1 true _ A4.out).mono ?_); rintro e w' ⟨rfl, ⟨nd, rfl⟩⟩; refine ⟨_, rfl, ?_⟩))
   go_ret
   exact ⟨sB, dB⟩
  ·replace c7 := Bool.eq_false_iff.mpr c7
   subst c7
   have H1 : (if a0 < a1 then (some (-1)) else (if a0 > a1 then (some 1) else (some 0))) = some r := by first | (with_reducible rfl) | (rw [if_neg (show ¬ (false = true) by decide)] at H; exact H)
   clear H
   have H := H1
   clear H1
   by_cases c8 : a0 < a1
   ·rw [if_pos c8] at H
    have c8b0 : decide (a0 < a1) = true := decide_eq_true c8
    clear c8
    obtain rfl := Option.some.inj H
    go_enter Try.func63, Try.ntmps63
    go_wp2_with (first | ((with_reducible refine gate_callee (f := 64) rfl ?_); refine goesL_ (some 8) rfl rfl Try.func64 (by kernel_rfl) rfl #[.int .i64 a0] rfl mB ?_; (with_reducible refine (cmp_isNaN_int.calls a0 false _ A3.out).mono ?_); rintro e w' ⟨rfl, ⟨nd, rfl⟩⟩; refine ⟨_, rfl, ?_⟩) | ((with_reducible refine gate_callee (f := 64) rfl ?_); refine goesL_ (some 10) rfl rfl Try.func64 (by kernel_rfl) rfl #[.int .i64 a1] rfl mB ?_; (with_reducible refine (cmp_isNaN_int.calls a1 false _ A4.out).mono ?_); rintro e w' ⟨rfl, ⟨nd, rfl⟩⟩; refine ⟨_, rfl, ?_⟩))
    go_ret
    exact ⟨sB, dB⟩
   ·rw [if_neg c8] at H
    have c8b0 : decide (a0 < a1) = false := decide_eq_false c8
    clear c8
    by_cases c9 : a0 > a1
    ·rw [if_pos c9] at H
     have c9b0 : decide (a1 < a0) = true := decide_eq_true c9
     clear c9
     obtain rfl := Option.some.inj H
     go_enter Try.func63, Try.ntmps63
     go_wp2_with (first | ((with_reducible refine gate_callee (f := 64) rfl ?_); refine goesL_ (some 8) rfl rfl Try.func64 (by kernel_rfl) rfl #[.int .i64 a0] rfl mB ?_; (with_reducible refine (cmp_isNaN_int.calls a0 false _ A3.out).mono ?_); rintro e w' ⟨rfl, ⟨nd, rfl⟩⟩; refine ⟨_, rfl, ?_⟩) | ((with_reducible refine gate_callee (f := 64) rfl ?_); refine goesL_ (some 10) rfl rfl Try.func64 (by kernel_rfl) rfl #[.int .i64 a1] rfl mB ?_; (with_reducible refine (cmp_isNaN_int.calls a1 false _ A4.out).mono ?_); rintro e w' ⟨rfl, ⟨nd, rfl⟩⟩; refine ⟨_, rfl, ?_⟩))
     go_ret
     exact ⟨sB, dB⟩
    ·rw [if_neg c9] at H
     have c9b0 : decide (a1 < a0) = false := decide_eq_false c9
     clear c9
     obtain rfl := Option.some.inj H
     go_enter Try.func63, Try.ntmps63
     go_wp2_with (first | ((with_reducible refine gate_callee (f := 64) rfl ?_); refine goesL_ (some 8) rfl rfl Try.func64 (by kernel_rfl) rfl #[.int .i64 a0] rfl mB ?_; (with_reducible refine (cmp_isNaN_int.calls a0 false _ A3.out).mono ?_); rintro e w' ⟨rfl, ⟨nd, rfl⟩⟩; refine ⟨_, rfl, ?_⟩) | ((with_reducible refine gate_callee (f := 64) rfl ?_); refine goesL_ (some 10) rfl rfl Try.func64 (by kernel_rfl) rfl #[.int .i64 a1] rfl mB ?_; (with_reducible refine (cmp_isNaN_int.calls a1 false _ A4.out).mono ?_); rintro e w' ⟨rfl, ⟨nd, rfl⟩⟩; refine ⟨_, rfl, ?_⟩))
     go_ret
     exact ⟨sB, dB⟩

/-! ### slices_Compare_Lint_int: function 62 -/
def slices_Compare_Lint_int.l0 : Nat → List Int → List Int → List Int → Int → Int → Option (Int)
 | 0, _, _, _, _, _ => none
 | k + 1, x0, x1, x9, x10, x11 => if x11 < x10 then (if 0 ≤ x11 then (if x11 < (x9.length : Int) then (if x11 ≥ (x1.length : Int) then (some 1) else (if x11 < (x1.length : Int) then ((cmp_Compare_int.f (rd x9 x11) (rd x1 x11)).bind fun t339 => (if t339 = 0 then (slices_Compare_Lint_int.l0 k x0 x1 x9 x10 (wrap64 (x11 + 1))) else (some t339))) else (none))) else (none)) else (none)) else (if (x0.length : Int) < (x1.length : Int) then (some (-1)) else (some 0))
def slices_Compare_Lint_int.f (k : Nat) (l0 : List Int) (l1 : List Int) : Option (Int) := slices_Compare_Lint_int.l0 k l0 l1 l0 (l0.length : Int) 0
theorem slices_Compare_Lint_int.mono_l : ∀ k, (∀ y0 y1 y2 y3 y4, LeO (slices_Compare_Lint_int.l0 k y0 y1 y2 y3 y4) (slices_Compare_Lint_int.l0 (k + 1) y0 y1 y2 y3 y4))
 | 0 => fun _ _ _ _ _ r h => by simp [slices_Compare_Lint_int.l0] at h
 | k + 1 => by
  have ih0 := slices_Compare_Lint_int.mono_l k
  ·intro y0 y1 y2 y3 y4
   unfold slices_Compare_Lint_int.l0
   repeat' first
   | (with_reducible exact ih0 _ _ _ _ _)
   | (with_reducible exact LeO.refl _)
   | (with_reducible exact LeO.none _)
   | (with_reducible refine LeO.ite ?_ ?_)
   | (with_reducible refine LeO.bind ?_ (fun _ => ?_))
   | exact ih0 _ _ _ _ _
   | exact LeO.none _
   | refine LeO.ite ?_ ?_
   | refine LeO.bind ?_ (fun _ => ?_)
theorem slices_Compare_Lint_int.mono : ∀ a0 a1 k, LeO (slices_Compare_Lint_int.f k a0 a1) (slices_Compare_Lint_int.f (k + 1) a0 a1) := by
 intro a0 a1 k
 have ih0 := slices_Compare_Lint_int.mono_l k
 unfold slices_Compare_Lint_int.f
 repeat' first
   | (with_reducible exact ih0 _ _ _ _ _)
   | (with_reducible exact LeO.refl _)
   | (with_reducible exact LeO.none _)
   | (with_reducible refine LeO.ite ?_ ?_)
   | (with_reducible refine LeO.bind ?_ (fun _ => ?_))
   | exact ih0 _ _ _ _ _
   | exact LeO.none _
   | refine LeO.ite ?_ ?_
   | refine LeO.bind ?_ (fun _ => ?_)
set_option maxHeartbeats 8000000 in
set_option maxRecDepth 100000 in
theorem slices_Compare_Lint_int.calls (k : Nat) (A0 : Option Addr) (c0 : Nat) (l0 : List Int) (A1 : Option Addr) (c1 : Nat) (l1 : List Int) (r : Int) (w : World) (hr0 : Kd.C (Kd.int .i64) w A0 l0.length l0) (hc0 : l0.length ≤ c0) (hr1 : Kd.C (Kd.int .i64) w A1 l1.length l1) (hc1 : l1.length ≤ c1) (h : slices_Compare_Lint_int.f k l0 l1 = some r) :
  Calls Try.prog 62 #[.slice A0 l0.length c0, .slice A1 l1.length c1] w fun e w' => e = .returned (.int .i64 r) ∧ Drawn0 w w' := by
 have HR0 := xm hr0
 have HC0 := xm hc0
 clear hr0 hc0
 have HR1 := xm hr1
 have HC1 := xm hc1
 clear hr1 hc1
 have H : (slices_Compare_Lint_int.l0 k l0 l1 l0 (l0.length : Int) 0) = some r := h
 clear h
 have H' := xm H
 clear H
 go_enter Try.func62, Try.ntmps62
 go_wp2
 go_loopg [11] k (fun kq v11 w' => ∃ (x11_1 : Int), v11 = .int .i64 x11_1 ∧ Aside0 (slices_Compare_Lint_int.l0 kq l0 l1 l0 (l0.length : Int) x11_1 = some r) ∧ Aside0 (kq ≤ k) ∧ Drawn0 w w')
 case atStart => exact ⟨(0), sB, H', ⟨Nat.le_refl _⟩, by repeat (first | exact Drawn0.refl _ | apply Drawn0.step)⟩
 case round =>
  clear H'
  try clear c1
  try clear p2
  obtain ⟨x11_1, rfl, HA, HK1, ⟨m1, rfl⟩⟩ := hrel
  cases gk with
  | zero => exact absurd HA.out (by simp [slices_Compare_Lint_int.l0])
  | succ k1 =>
   have H := HA.out
   clear HA
   simp only [slices_Compare_Lint_int.l0] at H
   by_cases c3 : x11_1 < (l0.length : Int)
   ·rw [if_pos c3] at H
    have c3b0 : decide (x11_1 < (l0.length : Int)) = true := decide_eq_true c3
    clear c3
    by_cases c4 : 0 ≤ x11_1
    ·rw [if_pos c4] at H
     have c4b0 : decide (0 ≤ x11_1) = true := decide_eq_true c4
     clear c4
     by_cases c5 : x11_1 < (l0.length : Int)
     ·rw [if_pos c5] at H
      have c5b0 : decide (x11_1 < (l0.length : Int)) = true := decide_eq_true c5
      clear c5
      by_cases c6 : x11_1 ≥ (l1.length : Int)
      ·rw [if_pos c6] at H
       have c6b0 : decide ((l1.length : Int) ≤ x11_1) = true := decide_eq_true c6
       clear c6
       obtain rfl := Option.some.inj H
       have p337 : 0 ≤ (x11_1 : Int) := of_decide_eq_true aB
       have q337 : x11_1 < (l0.length : Int) := of_decide_eq_true aB
       obtain ⟨ad337, e337, hx337_0⟩ := Kd.at_int HR0.out x11_1 p337 q337
       cases e337
       replace p337 := eq_true p337
       replace q337 := eq_true q337
       go_wp2
       go_ret
       exact ⟨sB, dB⟩
      ·rw [if_neg c6] at H
       have c6b0 : decide ((l1.length : Int) ≤ x11_1) = false := decide_eq_false c6
       clear c6
       by_cases c7 : x11_1 < (l1.length : Int)
       ·rw [if_pos c7] at H
        have c7b0 : decide (x11_1 < (l1.length : Int)) = true := decide_eq_true c7
        clear c7
        replace H := Option.bind_eq_some_iff.mp H
        obtain ⟨t339, A80, H⟩ := H
        replace H : (if t339 = 0 then (slices_Compare_Lint_int.l0 k1 l0 l1 l0 (l0.length : Int) (wrap64 (x11_1 + 1))) else (some t339)) = some r := H
        have A8 := xm A80
        clear A80
        by_cases c9 : t339 = 0
        ·rw [if_pos c9] at H
         have c9b0 : (t339 == 0) = true := beq_iff_eq.mpr c9
         have c9b1 : (t339 != 0) = false := bne_eq_false_iff_eq.mpr c9
         clear c9
         have H' := xm H
         clear H
         have p337 : 0 ≤ (x11_1 : Int) := of_decide_eq_true aB
         have q337 : x11_1 < (l0.length : Int) := of_decide_eq_true aB
         obtain ⟨ad337, e337, hx337_0⟩ := Kd.at_int HR0.out x11_1 p337 q337
         cases e337
         replace p337 := eq_true p337
         replace q337 := eq_true q337
         have p338 : 0 ≤ (x11_1 : Int) := of_decide_eq_true aB
         have q338 : x11_1 < (l1.length : Int) := of_decide_eq_true aB
         obtain ⟨ad338, e338, hx338_0⟩ := Kd.at_int HR1.out x11_1 p338 q338
         cases e338
         replace p338 := eq_true p338
         replace q338 := eq_true q338
         go_wp2_with (first | ((with_reducible refine gate_callee (f := 63) rfl ?_); refine goesL_ (some 26) rfl rfl Try.func63 (by kernel_rfl) rfl #[.int .i64 (rd l0 x11_1), .int .i64 (rd l1 x11_1)] rfl mB ?_; (with_reducible refine (cmp_Compare_int.calls (rd l0 x11_1) (rd l1 x11_1) t339 _ A8.out).mono ?_); rintro e w' ⟨rfl, ⟨nd, rfl⟩⟩; refine ⟨_, rfl, ?_⟩))
         go_roundg k1
         case measure => have := HK1.out; omega
         case rel => exact ⟨(wrap64 (x11_1 + 1)), sB, H', ⟨by have := HK1.out; omega⟩, by repeat (first | exact Drawn0.refl _ | apply Drawn0.step)⟩
        ·rw [if_neg c9] at H
         have c9b0 : (t339 == 0) = false := beq_eq_false_iff_ne.mpr c9
         have c9b1 : (t339 != 0) = true := bne_iff_ne.mpr c9
         obtain rfl := Option.some.inj H
         have p337 : 0 ≤ (x11_1 : Int) := of_decide_eq_true aB
         have q337 : x11_1 < (l0.length : Int) := of_decide_eq_true aB
         obtain ⟨ad337, e337, hx337_0⟩ := Kd.at_int HR0.out x11_1 p337 q337
         cases e337
         replace p337 := eq_true p337
         replace q337 := eq_true q337
         have p338 : 0 ≤ (x11_1 : Int) := of_decide_eq_true aB
         have q338 : x11_1 < (l1.length : Int) := of_decide_eq_true aB
         obtain ⟨ad338, e338, hx338_0⟩ := Kd.at_int HR1.out x11_1 p338 q338
         cases e338
         replace p338 := eq_true p338
         replace q338 := eq_true q338
         go_wp2_with (first | ((with_reducible refine gate_callee (f := 63) rfl ?_); refine goesL_ (some 26) rfl rfl Try.func63 (by kernel_rfl) rfl #[.int .i64 (rd l0 x11_1), .int .i64 (rd l1 x11_1)] rfl mB ?_; (with_reducible refine (cmp_Compare_int.calls (rd l0 x11_1) (rd l1 x11_1) t339 _ A8.out).mono ?_); rintro e w' ⟨rfl, ⟨nd, rfl⟩⟩; refine ⟨_, rfl, ?_⟩))
         go_ret
         exact ⟨sB, dB⟩
       ·rw [if_neg c7] at H
        exact absurd H (by simp)
     ·rw [if_neg c5] at H
      exact absurd H (by simp)
    ·rw [if_neg c4] at H
     exact absurd H (by simp)
   ·rw [if_neg c3] at H
    have c3b0 : decide (x11_1 < (l0.length : Int)) = false := decide_eq_false c3
    clear c3
    by_cases c10 : (l0.length : Int) < (l1.length : Int)
    ·rw [if_pos c10] at H
     have c10b0 : decide ((l0.length : Int) < (l1.length : Int)) = true := decide_eq_true c10
     have c10b1 : decide (l0.length < l1.length) = true := decide_eq_true (Int.ofNat_lt.mp c10)
     clear c10
     obtain rfl := Option.some.inj H
     go_wp2
     go_ret
     exact ⟨sB, dB⟩
    ·rw [if_neg c10] at H
     have c10b0 : decide ((l0.length : Int) < (l1.length : Int)) = false := decide_eq_false c10
     have c10b1 : decide (l0.length < l1.length) = false := decide_eq_false (fun h => c10 (Int.ofNat_lt.mpr h))
     clear c10
     obtain rfl := Option.some.inj H
     go_wp2
     go_ret
     exact ⟨sB, dB⟩

/-! ### impl_compareRows: function 56 -/
def impl_compareRows.f (k : Nat) (l0_0 : List Int) (l1_0 : List Int) : Option (Int) := (slices_Compare_Lint_int.f k l0_0 l1_0).bind fun t342 => (some t342)
theorem impl_compareRows.mono : ∀ a0 a1 k, LeO (impl_compareRows.f k a0 a1) (impl_compareRows.f (k + 1) a0 a1) := by
 intro a0 a1 k
 unfold impl_compareRows.f
 repeat' first
   | (with_reducible exact slices_Compare_Lint_int.mono _ _ _)
   | (with_reducible exact LeO.refl _)
   | (with_reducible exact LeO.none _)
   | (with_reducible refine LeO.ite ?_ ?_)
   | (with_reducible refine LeO.bind ?_ (fun _ => ?_))
   | exact slices_Compare_Lint_int.mono _ _ _
   | exact LeO.none _
   | refine LeO.ite ?_ ?_
   | refine LeO.bind ?_ (fun _ => ?_)
set_option maxHeartbeats 8000000 in
set_option maxRecDepth 100000 in
theorem impl_compareRows.calls (k : Nat) (A0_0 : Option Addr) (c0_0 : Nat) (l0_0 : List Int) (A1_0 : Option Addr) (c1_0 : Nat) (l1_0 : List Int) (r : Int) (w : World) (hr0_0 : Kd.C (Kd.int .i64) w A0_0 l0_0.length l0_0) (hc0_0 : l0_0.length ≤ c0_0) (hr1_0 : Kd.C (Kd.int .i64) w A1_0 l1_0.length l1_0) (hc1_0 : l1_0.length ≤ c1_0) (h : impl_compareRows.f k l0_0 l1_0 = some r) :
  Calls Try.prog 56 #[.agg #[.slice A0_0 l0_0.length c0_0], .agg #[.slice A1_0 l1_0.length c1_0]] w fun e w' => e = .returned (.int .i64 r) ∧ Below w.heap.size w w' := by
 have hu48 := Try.underlying48
 have HR0_0 := xm hr0_0
 have HC0_0 := xm hc0_0
 clear hr0_0 hc0_0
 have HR1_0 := xm hr1_0
 have HC1_0 := xm hc1_0
 clear hr1_0 hc1_0
 have HB := xm (Below.refl w.heap.size w)
 have H : ((slices_Compare_Lint_int.f k l0_0 l1_0).bind fun t342 => (some t342)) = some r := h
 clear h
 replace H := Option.bind_eq_some_iff.mp H
 obtain ⟨t342, A30, H⟩ := H
 replace H : (some t342) = some r := H
 have A3 := xm A30
 clear A30
 obtain rfl := Option.some.inj H
 go_enter Try.func56, Try.ntmps56
 go_wp2_with (first | ((with_reducible refine gate_dst (N := 2) rfl ?_); refine box_event ?hg (N := 2) ?hd (cs := #[.slice A0_0 l0_0.length c0_0]) (t := 48) ?hr ?_; (case hd => rfl); (case hg => rfl); (case hr => exact zB); intro gb340 hg w4 hbox hb; have n0_ := xm (below_step bB hb); have n1_ := xm (hbox); have n2_ := xm ((by rw [hg]; exact (xz bB) : w.heap.size ≤ gb340)); have n3_ := xm ((by rw [hg]; exact (xz bB) : w.heap.size ≤ gb340)); revert n0_ n1_ n2_ n3_; clear HB; intro HB BK340 GW340 GE340; clear hb hbox hg) | ((with_reducible refine gate_dst (N := 3) rfl ?_); refine box_event ?hg (N := 3) ?hd (cs := #[.slice A1_0 l1_0.length c1_0]) (t := 48) ?hr ?_; (case hd => rfl); (case hg => rfl); (case hr => exact zB); intro gb341 hg w5 hbox hb; have n0_ := xm (blk_below (kB BK340) hb); have n1_ := xm (below_step bG hb); have n2_ := xm (hbox); have n3_ := xm ((by rw [hg]; exact (xz bG) : w.heap.size ≤ gb341)); have n4_ := xm ((by rw [hg]; exact (xz bG) : w.heap.size ≤ gb341)); have n5_ := xm ((by rw [hg]; exact Nat.ne_of_lt (blk_lt (kB BK340)) : gb340 ≠ gb341)); have n6_ := xm ((by rw [hg]; exact Nat.ne_of_gt (blk_lt (kB BK340)) : gb341 ≠ gb340)); revert n0_ n1_ n2_ n3_ n4_ n5_ n6_; clear BK340 HB; intro BK340 HB BK341 GW341 GE341 NB340_341 NB341_340; clear hb hbox hg; have hnb6 := NB340_341.out; have hnc6 := NB341_340.out; obtain ⟨hcz7_0, hfz7_0⟩ := cz1 BK340.out; obtain ⟨hcz8_0, hfz8_0⟩ := cz1 BK341.out) | ((with_reducible refine gate_callee (f := 62) rfl ?_); refine goesL_ (some 9) rfl rfl Try.func62 (by kernel_rfl) rfl #[.slice A0_0 l0_0.length c0_0, .slice A1_0 l1_0.length c1_0] rfl mB ?_; (with_reducible refine (slices_Compare_Lint_int.calls k _ _ l0_0 _ _ l1_0 t342 _ ?side1 ?side2 ?side3 ?side4 A3.out).mono ?_); (case side1 => exact cB (Kd.C_below HR0_0.out HB.out)); (case side2 => exact HC0_0.out); (case side3 => exact cB (Kd.C_below HR1_0.out HB.out)); (case side4 => exact HC1_0.out); rintro e w' ⟨rfl, ⟨nd, rfl⟩⟩; refine ⟨_, rfl, ?_⟩))
 go_ret
 exact ⟨eB, bG⟩

end Go.Proofs.Ytmelechhnimlnad.G
