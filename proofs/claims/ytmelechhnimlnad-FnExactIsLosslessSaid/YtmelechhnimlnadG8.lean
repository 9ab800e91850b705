/- Written by a program of this claim's own, out of the translation: functions of the program as plain functions, and that the calls answer as these. No conditions. -/
import Derived.Test.YtmelechhnimlnadG0
import Derived.Test.YtmelechhnimlnadG2
import Derived.Test.YtmelechhnimlnadG3
import Derived.Test.YtmelechhnimlnadG7
namespace Go.Proofs.Ytmelechhnimlnad.G
open Go.RowKit Go.Proofs.Ytmelechhnimlnad.X Go.Proofs.YtmelechhnimlnadW.PrintWords Go.Proofs.YtmelechhnimlnadW.PrintLast Go.Proofs.YtmelechhnimlnadW.PrintMore
attribute [local go_sem] max2_int min2_int max_two min_two max_three min_three max_four min_four   -- for this text's walks alone
set_option linter.unusedVariables false
set_option linter.unusedSimpArgs false

/-! ### spec_IsLossless: function 6 -/
mutual
def spec_IsLossless.j0 : Nat → List (S49) → List (List Int) → Int → Bool → Option (Bool × Bool)
 | 0, _, _, _, _ => none
 | k + 1, x0, x1, x2, x24 => if x24 = true then (some (false, false)) else ((spec_l9Start.f k x1 x2).bind fun bt253 => ((spec_l9Chase.f k bt253.1 bt253.2 x0).bind fun bt257 => (spec_IsLossless.l0 k bt257.2.1 (bt257.2.1.length : Int) 0)))
def spec_IsLossless.l0 : Nat → List (S48) → Int → Int → Option (Bool × Bool)
 | 0, _, _, _ => none
 | k + 1, x34, x35, x36 => if x36 < x35 then (if 0 ≤ x36 then (if x36 < (x34.length : Int) then (spec_IsLossless.l1 k true x34 x35 x36 ((rd_T48 x34 x36).f0) (((rd_T48 x34 x36).f0).length : Int) 0) else (none)) else (none)) else (some (false, true))
def spec_IsLossless.l1 : Nat → Bool → List (S48) → Int → Int → List Int → Int → Int → Option (Bool × Bool)
 | 0, _, _, _, _, _, _, _ => none
 | k + 1, x12, x34, x35, x36, x41, x42, x43 => if x43 < x42 then (if 0 ≤ x43 then (if x43 < (x41.length : Int) then (if x12 = true then (spec_IsLossless.l1 k ((rd x41 x43) == 0) x34 x35 x36 x41 x42 (wrap64 (x43 + 1))) else (spec_IsLossless.l1 k false x34 x35 x36 x41 x42 (wrap64 (x43 + 1)))) else (none)) else (none)) else (if x12 = true then (some (true, true)) else (spec_IsLossless.l0 k x34 x35 (wrap64 (x36 + 1))))
end
def spec_IsLossless.f (k : Nat) (l0 : List (S49)) (l1 : List (List Int)) (a2 : Int) : Option (Bool × Bool) := (spec_GoodParts.f k l1 a2).bind fun t251 => (if t251 = true then ((spec_GoodDepends.f k l0 a2).bind fun t252 => (spec_IsLossless.j0 k l0 l1 a2 (!t252))) else (spec_IsLossless.j0 k l0 l1 a2 true))
theorem spec_IsLossless.mono_l : ∀ k, (∀ y0 y1 y2 y3, LeO (spec_IsLossless.j0 k y0 y1 y2 y3) (spec_IsLossless.j0 (k + 1) y0 y1 y2 y3)) ∧ (∀ y0 y1 y2, LeO (spec_IsLossless.l0 k y0 y1 y2) (spec_IsLossless.l0 (k + 1) y0 y1 y2)) ∧ (∀ y0 y1 y2 y3 y4 y5 y6, LeO (spec_IsLossless.l1 k y0 y1 y2 y3 y4 y5 y6) (spec_IsLossless.l1 (k + 1) y0 y1 y2 y3 y4 y5 y6))
 | 0 => ⟨fun _ _ _ _ r h => by simp [spec_IsLossless.j0] at h, fun _ _ _ r h => by simp [spec_IsLossless.l0] at h, fun _ _ _ _ _ _ _ r h => by simp [spec_IsLossless.l1] at h⟩
 | k + 1 => by
  obtain ⟨ih0, ih1, ih2⟩ := spec_IsLossless.mono_l k
  refine ⟨?_, ?_, ?_⟩
  ·intro y0 y1 y2 y3
   unfold spec_IsLossless.j0
   repeat' first
   | (with_reducible exact ih0 _ _ _ _)
   | (with_reducible exact ih1 _ _ _)
   | (with_reducible exact ih2 _ _ _ _ _ _ _)
   | (with_reducible exact spec_GoodDepends.mono _ _ _)
   | (with_reducible exact spec_GoodParts.mono _ _ _)
   | (with_reducible exact spec_l9Chase.mono _ _ _ _)
   | (with_reducible exact spec_l9Start.mono _ _ _)
   | (with_reducible exact LeO.refl _)
   | (with_reducible exact LeO.none _)
   | (with_reducible refine LeO.ite ?_ ?_)
   | (with_reducible refine LeO.bind ?_ (fun _ => ?_))
   | exact ih0 _ _ _ _
   | exact ih1 _ _ _
   | exact ih2 _ _ _ _ _ _ _
   | exact spec_GoodDepends.mono _ _ _
   | exact spec_GoodParts.mono _ _ _
   | exact spec_l9Chase.mono _ _ _ _
   | exact spec_l9Start.mono _ _ _
   | exact LeO.none _
   | refine LeO.ite ?_ ?_
   | refine LeO.bind ?_ (fun _ => ?_)
  ·intro y0 y1 y2
   unfold spec_IsLossless.l0
   repeat' first
   | (with_reducible exact ih0 _ _ _ _)
   | (with_reducible exact ih1 _ _ _)
   | (with_reducible exact ih2 _ _ _ _ _ _ _)
   | (with_reducible exact spec_GoodDepends.mono _ _ _)
   | (with_reducible exact spec_GoodParts.mono _ _ _)
   | (with_reducible exact spec_l9Chase.mono _ _ _ _)
   | (with_reducible exact spec_l9Start.mono _ _ _)
   | (with_reducible exact LeO.refl _)
   | (with_reducible exact LeO.none _)
   | (with_reducible refine LeO.ite ?_ ?_)
   | (with_reducible refine LeO.bind ?_ (fun _ => ?_))
   | exact ih0 _ _ _ _
   | exact ih1 _ _ _
   | exact ih2 _ _ _ _ _ _ _
   | exact spec_GoodDepends.mono _ _ _
   | exact spec_GoodParts.mono _ _ _
   | exact spec_l9Chase.mono _ _ _ _
   | exact spec_l9Start.mono _ _ _
   | exact LeO.none _
   | refine LeO.ite ?_ ?_
   | refine LeO.bind ?_ (fun _ => ?_)
  ·intro y0 y1 y2 y3 y4 y5 y6
   unfold spec_IsLossless.l1
   repeat' first
   | (with_reducible exact ih0 _ _ _ _)
   | (with_reducible exact ih1 _ _ _)
   | (with_reducible exact ih2 _ _ _ _ _ _ _)
   | (with_reducible exact spec_GoodDepends.mono _ _ _)
   | (with_reducible exact spec_GoodParts.mono _ _ _)
   | (with_reducible exact spec_l9Chase.mono _ _ _ _)
   | (with_reducible exact spec_l9Start.mono _ _ _)
   | (with_reducible exact LeO.refl _)
   | (with_reducible exact LeO.none _)
   | (with_reducible refine LeO.ite ?_ ?_)
   | (with_reducible refine LeO.bind ?_ (fun _ => ?_))
   | exact ih0 _ _ _ _
   | exact ih1 _ _ _
   | exact ih2 _ _ _ _ _ _ _
   | exact spec_GoodDepends.mono _ _ _
   | exact spec_GoodParts.mono _ _ _
   | exact spec_l9Chase.mono _ _ _ _
   | exact spec_l9Start.mono _ _ _
   | exact LeO.none _
   | refine LeO.ite ?_ ?_
   | refine LeO.bind ?_ (fun _ => ?_)
theorem spec_IsLossless.mono : ∀ a0 a1 a2 k, LeO (spec_IsLossless.f k a0 a1 a2) (spec_IsLossless.f (k + 1) a0 a1 a2) := by
 intro a0 a1 a2 k
 obtain ⟨ih0, ih1, ih2⟩ := spec_IsLossless.mono_l k
 unfold spec_IsLossless.f
 repeat' first
   | (with_reducible exact ih0 _ _ _ _)
   | (with_reducible exact ih1 _ _ _)
   | (with_reducible exact ih2 _ _ _ _ _ _ _)
   | (with_reducible exact spec_GoodDepends.mono _ _ _)
   | (with_reducible exact spec_GoodParts.mono _ _ _)
   | (with_reducible exact spec_l9Chase.mono _ _ _ _)
   | (with_reducible exact spec_l9Start.mono _ _ _)
   | (with_reducible exact LeO.refl _)
   | (with_reducible exact LeO.none _)
   | (with_reducible refine LeO.ite ?_ ?_)
   | (with_reducible refine LeO.bind ?_ (fun _ => ?_))
   | exact ih0 _ _ _ _
   | exact ih1 _ _ _
   | exact ih2 _ _ _ _ _ _ _
   | exact spec_GoodDepends.mono _ _ _
   | exact spec_GoodParts.mono _ _ _
   | exact spec_l9Chase.mono _ _ _ _
   | exact spec_l9Start.mono _ _ _
   | exact LeO.none _
   | refine LeO.ite ?_ ?_
   | refine LeO.bind ?_ (fun _ => ?_)
set_option maxHeartbeats 8000000 in
set_option maxRecDepth 100000 in
theorem spec_IsLossless.calls (k : Nat) (A0 : Option Addr) (c0 : Nat) (l0 : List (S49)) (A1 : Option Addr) (c1 : Nat) (l1 : List (List Int)) (a2 : Int) (r1 : Bool) (r2 : Bool) (w : World) (hr0 : Kd.C k49 w A0 l0.length l0) (hc0 : l0.length ≤ c0) (hr1 : Kd.C (Kd.slice 3 (Kd.int .i64)) w A1 l1.length l1) (hc1 : l1.length ≤ c1) (h : spec_IsLossless.f k l0 l1 a2 = some (r1, r2)) :
  Calls Try.prog 6 #[.slice A0 l0.length c0, .slice A1 l1.length c1, .int .i64 a2] w fun e w' => e = .returned (.tuple #[.bool r1, .bool r2]) ∧ Below w.heap.size w w' := by
 have hu43 := Try.underlying43
 have hu48 := Try.underlying48
 have HR0 := xm hr0
 have HC0 := xm hc0
 clear hr0 hc0
 have HR1 := xm hr1
 have HC1 := xm hc1
 clear hr1 hc1
 have HB := xm (Below.refl w.heap.size w)
 have H : ((spec_GoodParts.f k l1 a2).bind fun t251 => (if t251 = true then ((spec_GoodDepends.f k l0 a2).bind fun t252 => (spec_IsLossless.j0 k l0 l1 a2 (!t252))) else (spec_IsLossless.j0 k l0 l1 a2 true))) = some (r1, r2) := h
 clear h
 have HC4 := xm H
 clear H
 go_enter Try.func6, Try.ntmps6
 go_upto_region 1 with (fail)
 go_cut [24] (fun v24 wc => ∃ (kq : Nat) (x24_3 : Bool), v24 = .bool x24_3 ∧ Aside0 (spec_IsLossless.j0 kq l0 l1 a2 x24_3 = some (r1, r2)) ∧ Aside0 (kq ≤ k) ∧ Aside0 (Below w.heap.size w wc))
 case first =>
  have H := HC4.out
  clear HC4
  replace H := Option.bind_eq_some_iff.mp H
  obtain ⟨t251, A50, H⟩ := H
  replace H : (if t251 = true then ((spec_GoodDepends.f k l0 a2).bind fun t252 => (spec_IsLossless.j0 k l0 l1 a2 (!t252))) else (spec_IsLossless.j0 k l0 l1 a2 true)) = some (r1, r2) := H
  have A5 := xm A50
  clear A50
  by_cases c6 : t251 = true
  ·subst c6
   have H1 : ((spec_GoodDepends.f k l0 a2).bind fun t252 => (spec_IsLossless.j0 k l0 l1 a2 (!t252))) = some (r1, r2) := by first | (with_reducible rfl) | (rw [if_pos rfl] at H; exact H)
   clear H
   have H := H1
   clear H1
   replace H := Option.bind_eq_some_iff.mp H
   obtain ⟨t252, A70, H⟩ := H
   replace H : (spec_IsLossless.j0 k l0 l1 a2 (!t252)) = some (r1, r2) := H
   have A7 := xm A70
   clear A70
   have H' := xm H
   clear H
   go_wp2_with (first | ((with_reducible refine gate_callee (f := 14) rfl ?_); refine goesL_ (some 17) rfl rfl Try.func14 (by kernel_rfl) rfl #[.slice A1 l1.length c1, .int .i64 a2] rfl mB ?_; (with_reducible refine (spec_GoodParts.calls k _ _ l1 a2 true _ ?side1 ?side2 A5.out).mono ?_); (case side1 => exact cB (Kd.C_below HR1.out HB.out)); (case side2 => exact HC1.out); rintro e w8 ⟨rfl, hb⟩; refine ⟨_, rfl, ?_⟩; have n0_ := xm (below_step bB hb); revert n0_; clear HB; intro HB; (try clear hb)) | (go_at_call 15; (with_reducible refine (spec_GoodDepends.calls k _ _ l0 a2 t252 _ ?side1 ?side2 A7.out).mono ?_); (case side1 => exact cB (Kd.C_below HR0.out HB.out)); (case side2 => exact HC0.out); rintro e w9 ⟨rfl, hb⟩; have n0_ := xm (below_step bB hb); revert n0_; clear HB; intro HB; (try clear hb)))
   go_meet
   case rel => exact ⟨_, (!t252), sB, H', ⟨by first | omega | exact Nat.le_refl _⟩, ⟨bG⟩⟩
  ·replace c6 := Bool.eq_false_iff.mpr c6
   subst c6
   have H1 : (spec_IsLossless.j0 k l0 l1 a2 true) = some (r1, r2) := by first | (with_reducible rfl) | (rw [if_neg (show ¬ (false = true) by decide)] at H; exact H)
   clear H
   have H := H1
   clear H1
   have H' := xm H
   clear H
   go_wp2_with (first | ((with_reducible refine gate_callee (f := 14) rfl ?_); refine goesL_ (some 17) rfl rfl Try.func14 (by kernel_rfl) rfl #[.slice A1 l1.length c1, .int .i64 a2] rfl mB ?_; (with_reducible refine (spec_GoodParts.calls k _ _ l1 a2 false _ ?side1 ?side2 A5.out).mono ?_); (case side1 => exact cB (Kd.C_below HR1.out HB.out)); (case side2 => exact HC1.out); rintro e w10 ⟨rfl, hb⟩; refine ⟨_, rfl, ?_⟩; have n0_ := xm (below_step bB hb); revert n0_; clear HB; intro HB; (try clear hb)))
   go_meet
   case rel => exact ⟨_, (true), sB, H', ⟨by first | omega | exact Nat.le_refl _⟩, ⟨bG⟩⟩
 case rest =>
  clear HC4
  try clear c1
  try clear p2
  try clear c6
  obtain ⟨kq, x24_3, rfl, HA, HJ3, HB⟩ := hcut
  cases kq with
  | zero => exact absurd HA.out (by simp [spec_IsLossless.j0])
  | succ kj3 =>
   have H := HA.out
   clear HA
   simp only [spec_IsLossless.j0] at H
   by_cases c11 : x24_3 = true
   ·subst c11
    have H1 : (some (false, false)) = some (r1, r2) := by first | (with_reducible rfl) | (rw [if_pos rfl] at H; exact H)
    clear H
    have H := H1
    clear H1
    simp only [Option.some.injEq, Prod.mk.injEq] at H
    obtain ⟨rfl, rfl⟩ := H
    go_wp2
    go_ret2
    exact ⟨eB, bG⟩
   ·replace c11 := Bool.eq_false_iff.mpr c11
    subst c11
    have H1 : ((spec_l9Start.f kj3 l1 a2).bind fun bt253 => ((spec_l9Chase.f kj3 bt253.1 bt253.2 l0).bind fun bt257 => (spec_IsLossless.l0 kj3 bt257.2.1 (bt257.2.1.length : Int) 0))) = some (r1, r2) := by first | (with_reducible rfl) | (rw [if_neg (show ¬ (false = true) by decide)] at H; exact H)
    clear H
    have H := H1
    clear H1
    replace H := Option.bind_eq_some_iff.mp H
    obtain ⟨⟨t253, t254⟩, A120, H⟩ := H
    replace H : ((spec_l9Chase.f kj3 t253 t254 l0).bind fun bt257 => (spec_IsLossless.l0 kj3 bt257.2.1 (bt257.2.1.length : Int) 0)) = some (r1, r2) := H
    have A12 := xm A120
    clear A120
    replace H := Option.bind_eq_some_iff.mp H
    obtain ⟨⟨t257, t258, t261⟩, A130, H⟩ := H
    replace H : (spec_IsLossless.l0 kj3 t258 (t258.length : Int) 0) = some (r1, r2) := H
    have A13 := xm A130
    clear A130
    have H' := xm H
    clear H
    go_wp2_with (first | ((with_reducible refine gate_callee (f := 17) rfl ?_); refine goesL_ (some 28) rfl rfl Try.func17 (by kernel_rfl) rfl #[.slice A1 l1.length c1, .int .i64 a2] rfl mB ?_; (with_reducible refine (spec_l9Start.calls kj3 _ _ l1 a2 t253 t254 _ ?side1 ?side2 A12.out).mono ?_); (case side1 => exact cB (Kd.C_below HR1.out HB.out)); (case side2 => exact HC1.out); rintro e w14 ⟨v255, rfl, ho0, hb⟩; refine ⟨_, rfl, ?_⟩; have n0_ := xm (Kd.S_lower ho0 (xz bB)); have n1_ := xm (below_step bB hb); revert n0_ n1_; clear HB; intro HO256 HB; (try clear hb); (try clear ho0); obtain ⟨Ao15, co15, eo15⟩ := Kd.S_slice HO256.out; subst eo15) | ((with_reducible refine gate_callee (f := 16) rfl ?_); refine goesL_ (some 30) rfl rfl Try.func16 (by kernel_rfl) rfl #[.agg #[.int .i64 t253, .slice Ao15 t254.length co15], .slice A0 l0.length c0] rfl mB ?_; (with_reducible refine (spec_l9Chase.calls kj3 t253 (fun k_ => True) _ _ t254 _ _ l0 t257 t258 t261 _ ?side1 ?side2 ?side3 A13.out).mono ?_); (case side1 => exact Kd.S_V (HO256.out)); (case side2 => exact cB (Kd.C_below HR0.out HB.out)); (case side3 => exact HC0.out); rintro e w16 ⟨v259, rfl, ho0, hb⟩; refine ⟨_, rfl, ?_⟩; have n0_ := xm (Kd.S_below (tB HO256) hb); have n1_ := xm (Kd.V_lower (Kd.V_mono (ok' := fun k_ => True) ho0 (fun k_ hk_ => trivial)) (xz bB)); have n2_ := xm (below_step bB hb); revert n0_ n1_ n2_; clear HO256 HB; intro HO256 HO260 HB; (try clear hb); (try clear ho0)) | ((with_reducible refine gate_dst (N := 8) rfl ?_); refine box_event ?hg (N := 8) ?hd (cs := #[.int .i64 0, .slice none 0 0]) (t := 43) ?hr ?_; (case hd => rfl); (case hg => rfl); (case hr => exact zB); intro gb262 hg w17 hbox hb; have n0_ := xm (Kd.S_below (tB HO256) hb); have n1_ := xm (Kd.V_below (Kd.V_elderB (by (with_reducible repeat (first | apply Kd.V_alloc | apply Kd.V_drewN | apply Kd.V_drew)); exact HO260.out) gb262 (Nat.le_of_eq hg.symm)) hb); have n2_ := xm (below_step bB hb); have n3_ := xm (hbox); have n4_ := xm ((by rw [hg]; exact (xz bB) : w.heap.size ≤ gb262)); have n5_ := xm ((by rw [hg]; exact (xz bB) : w.heap.size ≤ gb262)); revert n0_ n1_ n2_ n3_ n4_ n5_; clear HO256 HO260 HB; intro HO256 HO260 HB BK262 GW262 GE262; clear hb hbox hg; obtain ⟨hcz18_0, hcz18_1, hfz18_0, hfz18_1⟩ := cz2 BK262.out; obtain ⟨Ao19, co19, eo19⟩ := Kd.V_slice HO260.out; subst eo19))
    go_loopg [36] kj3 (fun kq v36 w' => ∃ (x36_2 : Int), v36 = .int .i64 x36_2 ∧ Aside0 (spec_IsLossless.l0 kq t258 (t258.length : Int) x36_2 = some (r1, r2)) ∧ Aside0 (kq ≤ kj3) ∧ Aside0 (Kd.V k48 48 w' w.heap.size (fun k_ => k_ ≠ gb262) (.slice Ao19 t258.length co19) t258) ∧ Aside0 (Kd.V k48 48 w' w.heap.size (fun k_ => k_ ≠ gb262) (.slice Ao19 t258.length co19) t258) ∧ Aside0 (w'.heap[gb262]? = some (.cells #[.int .i64 t257, (.slice Ao19 t258.length co19)] 43 (0, 0))) ∧ Aside0 (Below w.heap.size w w'))
    case atStart => exact ⟨(0), sB, H', ⟨Nat.le_refl _⟩, ⟨by (with_reducible repeat (first | apply Kd.V_alloc | apply Kd.V_drewN | apply Kd.V_drew)); exact Kd.V_mono (Kd.V_far (p := ⟨gb262, 1, none⟩) (Kd.V_far (p := ⟨gb262, 0, none⟩) (Kd.V_mono HO260.out (fun k_ hk => (⟨hk, hk.2⟩ : _ ∧ k_ ≠ gb262))) (fun _ hk => hk.2) (.int .i64 t257)) (fun _ hk => hk.2) (.slice Ao19 t258.length co19)) (fun _ hk => hk.1.2)⟩, ⟨by (with_reducible repeat (first | apply Kd.V_alloc | apply Kd.V_drewN | apply Kd.V_drew)); exact Kd.V_mono (Kd.V_far (p := ⟨gb262, 1, none⟩) (Kd.V_far (p := ⟨gb262, 0, none⟩) (Kd.V_mono HO260.out (fun k_ hk => (⟨hk, hk.2⟩ : _ ∧ k_ ≠ gb262))) (fun _ hk => hk.2) (.int .i64 t257)) (fun _ hk => hk.2) (.slice Ao19 t258.length co19)) (fun _ hk => hk.1.2)⟩, ⟨by (with_reducible repeat (first | refine xq ?_ _ | refine xr ?_ | refine xo ?_ _)); refine blk_put (cs := #[.int .i64 t257, .slice none 0 0]) ?_ 1 _ rfl; (with_reducible repeat (first | refine xq ?_ _ | refine xr ?_ | refine xo ?_ _)); refine blk_put (cs := #[.int .i64 0, .slice none 0 0]) ?_ 0 _ rfl; (with_reducible repeat (first | refine xq ?_ _ | refine xr ?_ | refine xo ?_ _)); exact BK262.out⟩, ⟨bG⟩⟩
    case round =>
     clear H'
     try clear c1
     try clear p2
     try clear c6
     try clear c11
     try clear c14
     try clear c16
     try clear c17
     try clear hcz18_0 hcz18_1 hfz18_0 hfz18_1
     try clear p2
     obtain ⟨x36_2, rfl, HA, HK2, HO_34, HO_263001, BK262, HB⟩ := hrel
     cases gk with
     | zero => exact absurd HA.out (by simp [spec_IsLossless.l0])
     | succ k2 =>
      have H := HA.out
      clear HA
      simp only [spec_IsLossless.l0] at H
      by_cases c20 : x36_2 < (t258.length : Int)
      ·rw [if_pos c20] at H
       have c20b0 : decide (x36_2 < (t258.length : Int)) = true := decide_eq_true c20
       clear c20
       by_cases c21 : 0 ≤ x36_2
       ·rw [if_pos c21] at H
        have c21b0 : decide (0 ≤ x36_2) = true := decide_eq_true c21
        clear c21
        by_cases c22 : x36_2 < (t258.length : Int)
        ·rw [if_pos c22] at H
         have c22b0 : decide (x36_2 < (t258.length : Int)) = true := decide_eq_true c22
         clear c22
         have H' := xm H
         clear H
         have p263 : 0 ≤ (x36_2 : Int) := of_decide_eq_true aB
         have q263 : x36_2 < (t258.length : Int) := of_decide_eq_true aB
         obtain ⟨ad263, A263_0, c263_0, e263, hx263_0, hl263_0, hi263_0⟩ := at_T48 (Kd.V_reads' HO_34.out).2.2 x36_2 p263 q263
         cases e263
         obtain ⟨ce263, hce263, hMe263, hcc263⟩ := Kd.V_get HO_34.out z48 x36_2 p263 (by first | exact q263 | exact of_decide_eq_true aB | (have e_ := (Kd.V_reads' HO_34.out).1; omega))
         obtain ⟨ua263_0, uc263_0, rfl, ul263_0, ge263_0⟩ := k48_openF hMe263
         have hv263_0 := hcc263 0 _ rfl
         rw [Nat.add_zero, show (k48).sz = 1 from rfl, Nat.mul_one] at hv263_0
         replace hv263_0 := Option.some.inj (hv263_0.symm.trans hx263_0)
         injection hv263_0 with hva_ hvn_ hvc_
         rw [hva_] at ge263_0
         rw [hvc_] at ul263_0
         have HL263_0 := xm (show Kd.V (Kd.int .i64) 3 _ w.heap.size _ _ ((rd_T48 t258 x36_2).f0) from Kd.V_mk ul263_0 ge263_0)
         clear hva_ hvn_ hvc_ ge263_0 ul263_0
         clear hcc263 hce263
         have HR263_0 := xm hi263_0
         have HC263_0 := xm hl263_0
         clear hi263_0 hl263_0
         replace p263 := eq_true p263
         replace q263 := eq_true q263
         go_wp2_with (first | ((with_reducible refine gate_dst (N := 11) rfl ?_); refine box_event ?hg (N := 11) ?hd (cs := #[.slice none 0 0]) (t := 48) ?hr ?_; (case hd => rfl); (case hg => rfl); (case hr => exact zB); intro gb264 hg w23 hbox hb; have n0_ := xm (Kd.V_below (Kd.V_elderB (by (with_reducible repeat (first | apply Kd.V_alloc | apply Kd.V_drewN | apply Kd.V_drew)); exact HO_34.out) gb264 (Nat.le_of_eq hg.symm)) hb); have n1_ := xm (Kd.V_below (Kd.V_elderB (by (with_reducible repeat (first | apply Kd.V_alloc | apply Kd.V_drewN | apply Kd.V_drew)); exact HO_263001.out) gb264 (Nat.le_of_eq hg.symm)) hb); have n2_ := xm (Kd.V_below (Kd.V_elderB (by (with_reducible repeat (first | apply Kd.V_alloc | apply Kd.V_drewN | apply Kd.V_drew)); exact HL263_0.out) gb264 (Nat.le_of_eq hg.symm)) hb); have n3_ := xm (blk_below (kB BK262) hb); have n4_ := xm (Kd.C_below (by repeat (first | (with_reducible exact HR263_0.out) | (with_reducible refine Kd.C_alloc ?_ _) | (with_reducible refine Kd.C_drewN ?_ _) | (with_reducible refine Kd.C_drew ?_) | exact HR263_0.out)) hb); have n5_ := xm (below_step bG hb); have n6_ := xm (hbox); have n7_ := xm ((by rw [hg]; exact (xz bG) : w.heap.size ≤ gb264)); have n8_ := xm ((by rw [hg]; exact (xz bG) : w.heap.size ≤ gb264)); have n9_ := xm ((by rw [hg]; exact Nat.ne_of_lt (blk_lt (kB BK262)) : gb262 ≠ gb264)); have n10_ := xm ((by rw [hg]; exact Nat.ne_of_gt (blk_lt (kB BK262)) : gb264 ≠ gb262)); revert n0_ n1_ n2_ n3_ n4_ n5_ n6_ n7_ n8_ n9_ n10_; clear HO_34 HO_263001 HL263_0 BK262 HR263_0 HB; intro HO_34 HO_263001 HL263_0 BK262 HR263_0 HB BK264 GW264 GE264 NB262_264 NB264_262; clear hb hbox hg; have hnb24 := NB264_262.out; have hnc24 := NB262_264.out; obtain ⟨hcz25_0, hfz25_0⟩ := cz1 BK264.out))
         go_loopg [12, 43] k2 (fun kq v12 v43 w' => ∃ (x12_3 : Bool) (x43_3 : Int), v12 = .bool x12_3 ∧ v43 = .int .i64 x43_3 ∧ Aside0 (spec_IsLossless.l1 kq x12_3 t258 (t258.length : Int) x36_2 ((rd_T48 t258 x36_2).f0) (((rd_T48 t258 x36_2).f0).length : Int) x43_3 = some (r1, r2)) ∧ Aside0 (kq ≤ k2) ∧ Aside0 (Kd.V k48 48 w' w.heap.size (fun k_ => k_ ≠ gb262 ∧ k_ ≠ gb264) (.slice (some ad263) t258.length co19) t258) ∧ Aside0 (Kd.V k48 48 w' w.heap.size (fun k_ => k_ ≠ gb262 ∧ k_ ≠ gb264) (.slice (some ad263) t258.length co19) t258) ∧ Aside0 (w'.heap[gb262]? = some (.cells #[.int .i64 t257, (.slice (some ad263) t258.length co19)] 43 (0, 0))) ∧ Aside0 (w'.heap[gb264]? = some (.cells #[(.slice A263_0 ((rd_T48 t258 x36_2).f0).length c263_0)] 48 (0, 0))) ∧ Aside0 (Kd.C (Kd.int .i64) w' A263_0 ((rd_T48 t258 x36_2).f0).length ((rd_T48 t258 x36_2).f0)) ∧ Aside0 (Below w.heap.size w w'))
         case atStart => exact ⟨(true), (0), sB, sB, H', ⟨Nat.le_refl _⟩, ⟨by (with_reducible repeat (first | apply Kd.V_alloc | apply Kd.V_drewN | apply Kd.V_drew)); exact Kd.V_mono (Kd.V_far (p := ⟨gb264, 0, none⟩) (Kd.V_mono HO_34.out (fun k_ hk => (⟨hk, hk.2⟩ : _ ∧ k_ ≠ gb264))) (fun _ hk => hk.2) (.slice A263_0 ((rd_T48 t258 x36_2).f0).length c263_0)) (fun _ hk => ⟨hk.1.1, hk.1.2⟩)⟩, ⟨by (with_reducible repeat (first | apply Kd.V_alloc | apply Kd.V_drewN | apply Kd.V_drew)); exact Kd.V_mono (Kd.V_far (p := ⟨gb264, 0, none⟩) (Kd.V_mono HO_263001.out (fun k_ hk => (⟨hk, hk.2⟩ : _ ∧ k_ ≠ gb264))) (fun _ hk => hk.2) (.slice A263_0 ((rd_T48 t258 x36_2).f0).length c263_0)) (fun _ hk => ⟨hk.1.1, hk.1.2⟩)⟩, ⟨by (with_reducible repeat (first | refine xq ?_ _ | refine xr ?_ | refine xo ?_ _)); refine blk_far ?_ NB262_264.out _; (with_reducible repeat (first | refine xq ?_ _ | refine xr ?_ | refine xo ?_ _)); exact BK262.out⟩, ⟨by (with_reducible repeat (first | refine xq ?_ _ | refine xr ?_ | refine xo ?_ _)); refine blk_put (cs := #[.slice none 0 0]) ?_ 0 _ rfl; (with_reducible repeat (first | refine xq ?_ _ | refine xr ?_ | refine xo ?_ _)); exact BK264.out⟩, ⟨(Kd.V_reads' (by (with_reducible repeat (first | apply Kd.V_alloc | apply Kd.V_drewN | apply Kd.V_drew)); exact (Kd.V_mono (Kd.V_far (p := ⟨gb264, 0, none⟩) (Kd.V_mono HL263_0.out (fun k_ hk => (⟨hk, hk.2⟩ : _ ∧ k_ ≠ gb264))) (fun _ hk => hk.2) (.slice A263_0 ((rd_T48 t258 x36_2).f0).length c263_0)) (fun _ h_ => h_.1)))).2.2⟩, ⟨bG⟩⟩
         case round =>
          clear H'
          try clear c1
          try clear c2
          try clear p2
          try clear q2
          try clear hx2
          try clear c6
          try clear c11
          try clear c14
          try clear c16
          try clear c17
          try clear c20
          try clear c20b0
          try clear c21
          try clear c21b0
          try clear c22
          try clear c22b0
          try clear c24
          try clear hcz18_0 hcz18_1
          try clear hcz25_0
          try clear hfz18_0 hfz18_1
          try clear hfz25_0
          try clear hx263_0
          try clear p2
          try clear p263
          try clear q263
          obtain ⟨x12_3, x43_3, rfl, rfl, HA, HK3, HO_34, HO_263001, BK262, BK264, HR263_0, HB⟩ := hrel
          cases gk with
          | zero => exact absurd HA.out (by simp [spec_IsLossless.l1])
          | succ k3 =>
           have H := HA.out
           clear HA
           simp only [spec_IsLossless.l1] at H
           by_cases c26 : x43_3 < (((rd_T48 t258 x36_2).f0).length : Int)
           ·rw [if_pos c26] at H
            have c26b0 : decide (x43_3 < (((rd_T48 t258 x36_2).f0).length : Int)) = true := decide_eq_true c26
            clear c26
            by_cases c27 : 0 ≤ x43_3
            ·rw [if_pos c27] at H
             have c27b0 : decide (0 ≤ x43_3) = true := decide_eq_true c27
             clear c27
             by_cases c28 : x43_3 < (((rd_T48 t258 x36_2).f0).length : Int)
             ·rw [if_pos c28] at H
              have c28b0 : decide (x43_3 < (((rd_T48 t258 x36_2).f0).length : Int)) = true := decide_eq_true c28
              clear c28
              by_cases c29 : x12_3 = true
              ·subst c29
               have H1 : (spec_IsLossless.l1 k3 ((rd ((rd_T48 t258 x36_2).f0) x43_3) == 0) t258 (t258.length : Int) x36_2 ((rd_T48 t258 x36_2).f0) (((rd_T48 t258 x36_2).f0).length : Int) (wrap64 (x43_3 + 1))) = some (r1, r2) := by first | (with_reducible rfl) | (rw [if_pos rfl] at H; exact H)
               clear H
               have H := H1
               clear H1
               have H' := xm H
               clear H
               have p265 : 0 ≤ (x43_3 : Int) := of_decide_eq_true aB
               have q265 : x43_3 < (((rd_T48 t258 x36_2).f0).length : Int) := of_decide_eq_true aB
               obtain ⟨ad265, e265, hx265_0⟩ := Kd.at_int HR263_0.out x43_3 p265 q265
               cases e265
               replace p265 := eq_true p265
               replace q265 := eq_true q265
               go_wp2
               go_roundg k3
               case measure => have := HJ3.out; have := HK2.out; have := HK3.out; omega
               case rel => exact ⟨(((rd ((rd_T48 t258 x36_2).f0) x43_3) == 0)), (wrap64 (x43_3 + 1)), sB, sB, H', ⟨by have := HJ3.out; have := HK2.out; have := HK3.out; omega⟩, ⟨by (with_reducible repeat (first | apply Kd.V_alloc | apply Kd.V_drewN | apply Kd.V_drew)); exact HO_34.out⟩, ⟨by (with_reducible repeat (first | apply Kd.V_alloc | apply Kd.V_drewN | apply Kd.V_drew)); exact HO_263001.out⟩, ⟨kB BK262⟩, ⟨kB BK264⟩, ⟨by repeat (first | (with_reducible exact HR263_0.out) | (with_reducible refine Kd.C_alloc ?_ _) | (with_reducible refine Kd.C_drewN ?_ _) | (with_reducible refine Kd.C_drew ?_) | exact HR263_0.out)⟩, ⟨bG⟩⟩
              ·replace c29 := Bool.eq_false_iff.mpr c29
               subst c29
               have H1 : (spec_IsLossless.l1 k3 false t258 (t258.length : Int) x36_2 ((rd_T48 t258 x36_2).f0) (((rd_T48 t258 x36_2).f0).length : Int) (wrap64 (x43_3 + 1))) = some (r1, r2) := by first | (with_reducible rfl) | (rw [if_neg (show ¬ (false = true) by decide)] at H; exact H)
               clear H
               have H := H1
               clear H1
               have H' := xm H
               clear H
               have p265 : 0 ≤ (x43_3 : Int) := of_decide_eq_true aB
               have q265 : x43_3 < (((rd_T48 t258 x36_2).f0).length : Int) := of_decide_eq_true aB
               obtain ⟨ad265, e265, hx265_0⟩ := Kd.at_int HR263_0.out x43_3 p265 q265
               cases e265
               replace p265 := eq_true p265
               replace q265 := eq_true q265
               go_wp2
               go_roundg k3
               case measure => have := HJ3.out; have := HK2.out; have := HK3.out; omega
               case rel => exact ⟨(false), (wrap64 (x43_3 + 1)), sB, sB, H', ⟨by have := HJ3.out; have := HK2.out; have := HK3.out; omega⟩, ⟨by (with_reducible repeat (first | apply Kd.V_alloc | apply Kd.V_drewN | apply Kd.V_drew)); exact HO_34.out⟩, ⟨by (with_reducible repeat (first | apply Kd.V_alloc | apply Kd.V_drewN | apply Kd.V_drew)); exact HO_263001.out⟩, ⟨kB BK262⟩, ⟨kB BK264⟩, ⟨by repeat (first | (with_reducible exact HR263_0.out) | (with_reducible refine Kd.C_alloc ?_ _) | (with_reducible refine Kd.C_drewN ?_ _) | (with_reducible refine Kd.C_drew ?_) | exact HR263_0.out)⟩, ⟨bG⟩⟩
             ·rw [if_neg c28] at H
              exact absurd H (by simp)
            ·rw [if_neg c27] at H
             exact absurd H (by simp)
           ·rw [if_neg c26] at H
            have c26b0 : decide (x43_3 < (((rd_T48 t258 x36_2).f0).length : Int)) = false := decide_eq_false c26
            clear c26
            by_cases c30 : x12_3 = true
            ·subst c30
             have H1 : (some (true, true)) = some (r1, r2) := by first | (with_reducible rfl) | (rw [if_pos rfl] at H; exact H)
             clear H
             have H := H1
             clear H1
             simp only [Option.some.injEq, Prod.mk.injEq] at H
             obtain ⟨rfl, rfl⟩ := H
             go_wp2
             go_ret2
             exact ⟨eB, bG⟩
            ·replace c30 := Bool.eq_false_iff.mpr c30
             subst c30
             have H1 : (spec_IsLossless.l0 k3 t258 (t258.length : Int) (wrap64 (x36_2 + 1))) = some (r1, r2) := by first | (with_reducible rfl) | (rw [if_neg (show ¬ (false = true) by decide)] at H; exact H)
             clear H
             have H := H1
             clear H1
             have H' := xm H
             clear H
             go_wp2
             go_roundg k3
             case measure => have := HJ3.out; have := HK2.out; have := HK3.out; omega
             case rel => exact ⟨(wrap64 (x36_2 + 1)), sB, H', ⟨by have := HJ3.out; have := HK2.out; have := HK3.out; omega⟩, ⟨by (with_reducible repeat (first | apply Kd.V_alloc | apply Kd.V_drewN | apply Kd.V_drew)); exact Kd.V_mono HO_34.out (fun _ hk => hk.1)⟩, ⟨by (with_reducible repeat (first | apply Kd.V_alloc | apply Kd.V_drewN | apply Kd.V_drew)); exact Kd.V_mono HO_263001.out (fun _ hk => hk.1)⟩, ⟨kB BK262⟩, ⟨bG⟩⟩
        ·rw [if_neg c22] at H
         exact absurd H (by simp)
       ·rw [if_neg c21] at H
        exact absurd H (by simp)
      ·rw [if_neg c20] at H
       have c20b0 : decide (x36_2 < (t258.length : Int)) = false := decide_eq_false c20
       clear c20
       simp only [Option.some.injEq, Prod.mk.injEq] at H
       obtain ⟨rfl, rfl⟩ := H
       go_wp2
       go_ret2
       exact ⟨eB, bG⟩

/-! ### laws_toIntS: function 19 -/
def laws_toIntS.l0 : Nat → List Int → List Int → Int → Option (List Int)
 | 0, _, _, _ => none
 | k + 1, x0, x3, x4 => if x4 < (x0.length : Int) then (if 0 ≤ x4 then (if x4 < (x3.length : Int) then (laws_toIntS.l0 k x0 (x3.set (x4 : Int).toNat (rd x0 x4)) (wrap64 (x4 + 1))) else (none)) else (none)) else (some x3)
def laws_toIntS.f (k : Nat) (l0 : List Int) : Option (List Int) := if 0 ≤ (l0.length : Int) then (if ((l0.length : Int) : Int).toNat ≤ 35184372088832 then (laws_toIntS.l0 k l0 (List.replicate ((l0.length : Int) : Int).toNat 0) 0) else (none)) else (none)
theorem laws_toIntS.mono_l : ∀ k, (∀ y0 y1 y2, LeO (laws_toIntS.l0 k y0 y1 y2) (laws_toIntS.l0 (k + 1) y0 y1 y2))
 | 0 => fun _ _ _ r h => by simp [laws_toIntS.l0] at h
 | k + 1 => by
  have ih0 := laws_toIntS.mono_l k
  ·intro y0 y1 y2
   unfold laws_toIntS.l0
   repeat' first
   | (with_reducible exact ih0 _ _ _)
   | (with_reducible exact LeO.refl _)
   | (with_reducible exact LeO.none _)
   | (with_reducible refine LeO.ite ?_ ?_)
   | (with_reducible refine LeO.bind ?_ (fun _ => ?_))
   | exact ih0 _ _ _
   | exact LeO.none _
   | refine LeO.ite ?_ ?_
   | refine LeO.bind ?_ (fun _ => ?_)
theorem laws_toIntS.mono : ∀ a0 k, LeO (laws_toIntS.f k a0) (laws_toIntS.f (k + 1) a0) := by
 intro a0 k
 have ih0 := laws_toIntS.mono_l k
 unfold laws_toIntS.f
 repeat' first
   | (with_reducible exact ih0 _ _ _)
   | (with_reducible exact LeO.refl _)
   | (with_reducible exact LeO.none _)
   | (with_reducible refine LeO.ite ?_ ?_)
   | (with_reducible refine LeO.bind ?_ (fun _ => ?_))
   | exact ih0 _ _ _
   | exact LeO.none _
   | refine LeO.ite ?_ ?_
   | refine LeO.bind ?_ (fun _ => ?_)
set_option maxHeartbeats 8000000 in
set_option maxRecDepth 100000 in
theorem laws_toIntS.calls (k : Nat) (A0 : Option Addr) (c0 : Nat) (l0 : List Int) (r : List Int) (w : World) (hr0 : Kd.C (Kd.int .i64) w A0 l0.length l0) (hc0 : l0.length ≤ c0) (h : laws_toIntS.f k l0 = some r) :
  Calls Try.prog 19 #[.slice A0 l0.length c0] w fun e w' => ∃ v0_ : Value, e = .returned (v0_) ∧ Kd.R (Kd.int .i64) 3 w' w.heap.size (fun _ => True) v0_ r ∧ Below w.heap.size w w' := by
 have HR0 := xm hr0
 have HC0 := xm hc0
 clear hr0 hc0
 have HB := xm (Below.refl w.heap.size w)
 have H : (if 0 ≤ (l0.length : Int) then (if ((l0.length : Int) : Int).toNat ≤ 35184372088832 then (laws_toIntS.l0 k l0 (List.replicate ((l0.length : Int) : Int).toNat 0) 0) else (none)) else (none)) = some r := h
 clear h
 by_cases c2 : 0 ≤ (l0.length : Int)
 ·rw [if_pos c2] at H
  have c2b0 := eq_true c2
  have c2b1 : decide (0 ≤ (l0.length : Int)) = true := decide_eq_true c2
  clear c2
  by_cases c3 : ((l0.length : Int) : Int).toNat ≤ 35184372088832
  ·rw [if_pos c3] at H
   have c3b0 := eq_true c3
   have c3b1 : decide (((l0.length : Int) : Int).toNat ≤ 35184372088832) = true := decide_eq_true c3
   clear c3
   obtain ⟨y266, hy266⟩ : ∃ y_ : List Int, y_ = (List.replicate ((l0.length : Int) : Int).toNat 0) := ⟨_, rfl⟩
   replace H : (laws_toIntS.l0 k l0 y266 0) = some r := by first | (rw [hy266]; with_reducible exact H) | (have H2_ := (Option.bind_some _ _).symm.trans H; rw [hy266]; with_reducible exact H2_) | (have H2_ := (Option.bind_some _ _).symm.trans H; with_reducible exact H2_) | with_reducible exact H | (rw [hy266]; exact H) | exact H
   have Ny266 := xm hy266
   clear hy266
   have H' := xm H
   clear H
   go_enter Try.func19, Try.ntmps19
   go_wp2_with (first | ((with_reducible refine gate_dst (N := 7) rfl ?_); refine Kd.R_make (Kd.int .i64) _ 3 rfl (N := 7) rfl 35 _ _ rfl (l0.length : Int) rfl rfl Try.underlying35 (.int .i64 0) 8 info3 rfl (by decide) (by omega) 0 (ok := fun _ => True) (okp := fun _ => True) rfl (fun _ hk => hk) trivial (of_decide_eq_true aB) (Nat.le_trans (Nat.mul_le_mul_right _ (of_decide_eq_true aB : (l0.length : Int).toNat ≤ 35184372088832)) (by omega)) (Below.refl _ _) (Nat.le_refl _) ?_; intro v267 w4 ho5 hb hg_ hnew_; clear hg_ hnew_; (first | rw [← Ny266.out] at ho5 | (simp only [Int.reduceToNat] at ho5; rw [← Ny266.out] at ho5)); have n0_ := xm (Kd.R_lower ho5 (xz bB)); have n1_ := xm (below_step bB hb); revert n0_ n1_; clear HB; intro HO268 HB; clear hb ho5))
   go_loopg [4] k (fun kq v4 w' => ∃ (x3_1 : List Int) (x4_1 : Int), v4 = .int .i64 x4_1 ∧ Aside0 (laws_toIntS.l0 kq l0 x3_1 x4_1 = some r) ∧ Aside0 (kq ≤ k) ∧ Aside0 (Kd.R (Kd.int .i64) 3 w' w.heap.size (fun _ => True) v267 x3_1) ∧ Aside0 (Below w.heap.size w w'))
   case atStart => exact ⟨(y266), (0), sB, H', ⟨Nat.le_refl _⟩, ⟨rB HO268⟩, ⟨bG⟩⟩
   case round =>
    clear H'
    try clear c1
    try clear c2
    try clear c2b0 c2b1
    try clear p2
    try clear c3
    try clear c3b0 c3b1
    obtain ⟨x3_1, x4_1, rfl, HA, HK1, HO_3, HB⟩ := hrel
    cases gk with
    | zero => exact absurd HA.out (by simp [laws_toIntS.l0])
    | succ k1 =>
     have H := HA.out
     clear HA
     simp only [laws_toIntS.l0] at H
     by_cases c6 : x4_1 < (l0.length : Int)
     ·rw [if_pos c6] at H
      have c6b0 : decide (x4_1 < (l0.length : Int)) = true := decide_eq_true c6
      clear c6
      by_cases c7 : 0 ≤ x4_1
      ·rw [if_pos c7] at H
       have c7b0 : decide (0 ≤ x4_1) = true := decide_eq_true c7
       clear c7
       by_cases c8 : x4_1 < (x3_1.length : Int)
       ·rw [if_pos c8] at H
        have c8b0 : decide (x4_1 < (x3_1.length : Int)) = true := decide_eq_true c8
        clear c8
        obtain ⟨y270, hy270⟩ : ∃ y_ : List Int, y_ = (x3_1.set (x4_1 : Int).toNat (rd l0 x4_1)) := ⟨_, rfl⟩
        replace H : (laws_toIntS.l0 k1 l0 y270 (wrap64 (x4_1 + 1))) = some r := by first | (rw [hy270]; with_reducible exact H) | (have H2_ := (Option.bind_some _ _).symm.trans H; rw [hy270]; with_reducible exact H2_) | (have H2_ := (Option.bind_some _ _).symm.trans H; with_reducible exact H2_) | with_reducible exact H | (rw [hy270]; exact H) | exact H
        have Ny270 := xm hy270
        clear hy270
        have H' := xm H
        clear H
        have p269 : 0 ≤ (x4_1 : Int) := of_decide_eq_true aB
        have q269 : x4_1 < (l0.length : Int) := of_decide_eq_true aB
        obtain ⟨ad269, e269, hx269_0⟩ := Kd.at_int HR0.out x4_1 p269 q269
        cases e269
        replace hx269_0 := hU hx269_0
        replace p269 := eq_true p269
        replace q269 := eq_true q269
        have p9 : 0 ≤ (x4_1 : Int) := of_decide_eq_true aB
        have q9 : (x4_1 : Int) < ((x3_1.length : Int) : Int) := of_decide_eq_true aB
        obtain ⟨go9, co9, eo9, gb9, gl9, cl9, HG9⟩ := Kd.R_form HO_3.out (by omega)
        (first | cases eo9 | (injection eo9 with ea_ en_ ec_; (first | subst ea_ | (injection ea_ with ea_; subst ea_)); subst ec_; clear en_))
        have GB9 := xm gb9
        have GG9 := xm HG9
        clear gb9 gl9 HG9
        obtain ⟨hx9_0, hf9_0⟩ := Kd.R_celln 0 HO_3.out (x4_1 : Int) p9 q9
        replace p9 := eq_true p9
        replace q9 := eq_true q9
        have HP10 := Kd.R_putg HO_3.out (x4_1 : Int) (rd l0 x4_1)
        go_wp2_with (first | ((with_reducible refine gate_store (t := 3) (p := 20) rfl ?_); refine store_event (t := 3) (p := 20) (v := ?vo_w11) (w1 := (wr.setCell ⟨go9, (x4_1 : Int).toNat, none⟩ (.int .i64 (rd l0 x4_1)))) ?hg ?ho ?hn ?hr ?_; (case ho => rfl); (case hg => rfl); (case hn => rfl); (case hr => exact zB); intro w11 hw; have hg : wr.grownBy w11 (some go9) := (by rw [hw]; exact HP10.2); have hp_ : Kd.R (Kd.int .i64) 3 w11 w.heap.size (fun _ => True) (.slice (some ⟨go9, 0, none⟩) x3_1.length co9) y270 := (by rw [hw, Ny270.out]; exact HP10.1); clear HP10; have n0_ := xm (hp_); have n1_ := xm ((by rw [hw]; exact xt (HB.out) GB9.out : Below w.heap.size w w11)); revert n0_ n1_; clear HO_3 HB; intro HO_3 HB; clear hg hw hp_))
        go_roundg k1
        case measure => have := HK1.out; omega
        case rel => exact ⟨(y270), (wrap64 (x4_1 + 1)), sB, H', ⟨by have := HK1.out; omega⟩, ⟨rB HO_3⟩, ⟨bG⟩⟩
       ·rw [if_neg c8] at H
        exact absurd H (by simp)
      ·rw [if_neg c7] at H
       exact absurd H (by simp)
     ·rw [if_neg c6] at H
      have c6b0 : decide (x4_1 < (l0.length : Int)) = false := decide_eq_false c6
      clear c6
      obtain rfl := Option.some.inj H
      go_wp2
      go_ret
      exact ⟨_, eB, rB HO_3, bG⟩
  ·rw [if_neg c3] at H
   exact absurd H (by simp)
 ·rw [if_neg c2] at H
  exact absurd H (by simp)

/-! ### laws_toDepend: function 18 -/
def laws_toDepend.f (k : Nat) (l0_0 : List Int) (l0_1 : List Int) : Option (List Int × List Int) := (laws_toIntS.f k l0_0).bind fun t274 => ((laws_toIntS.f k l0_1).bind fun t277 => (some (t274, t277)))
theorem laws_toDepend.mono : ∀ a0 a1 k, LeO (laws_toDepend.f k a0 a1) (laws_toDepend.f (k + 1) a0 a1) := by
 intro a0 a1 k
 unfold laws_toDepend.f
 repeat' first
   | (with_reducible exact laws_toIntS.mono _ _)
   | (with_reducible exact LeO.refl _)
   | (with_reducible exact LeO.none _)
   | (with_reducible refine LeO.ite ?_ ?_)
   | (with_reducible refine LeO.bind ?_ (fun _ => ?_))
   | exact laws_toIntS.mono _ _
   | exact LeO.none _
   | refine LeO.ite ?_ ?_
   | refine LeO.bind ?_ (fun _ => ?_)
set_option maxHeartbeats 8000000 in
set_option maxRecDepth 100000 in
theorem laws_toDepend.calls (k : Nat) (A0_0 : Option Addr) (c0_0 : Nat) (l0_0 : List Int) (A0_1 : Option Addr) (c0_1 : Nat) (l0_1 : List Int) (r1 : List Int) (r2 : List Int) (w : World) (hr0_0 : Kd.C (Kd.int .i64) w A0_0 l0_0.length l0_0) (hc0_0 : l0_0.length ≤ c0_0) (hr0_1 : Kd.C (Kd.int .i64) w A0_1 l0_1.length l0_1) (hc0_1 : l0_1.length ≤ c0_1) (h : laws_toDepend.f k l0_0 l0_1 = some (r1, r2)) :
  Calls Try.prog 18 #[.agg #[.slice A0_0 l0_0.length c0_0, .slice A0_1 l0_1.length c0_1]] w fun e w' => ∃ v0_ v1_ : Value, e = .returned (.agg #[v0_, v1_]) ∧ Kd.R (Kd.int .i64) 3 w' w.heap.size (fun k_ => some k_ ≠ (v1_ : Value).ownBlock) v0_ r1 ∧ Kd.R (Kd.int .i64) 3 w' w.heap.size (fun k_ => some k_ ≠ (v0_ : Value).ownBlock) v1_ r2 ∧ Below w.heap.size w w' := by
 have hu37 := Try.underlying37
 have hu49 := Try.underlying49
 have HR0_0 := xm hr0_0
 have HC0_0 := xm hc0_0
 clear hr0_0 hc0_0
 have HR0_1 := xm hr0_1
 have HC0_1 := xm hc0_1
 clear hr0_1 hc0_1
 have HB := xm (Below.refl w.heap.size w)
 have H : ((laws_toIntS.f k l0_0).bind fun t274 => ((laws_toIntS.f k l0_1).bind fun t277 => (some (t274, t277)))) = some (r1, r2) := h
 clear h
 replace H := Option.bind_eq_some_iff.mp H
 obtain ⟨t274, A20, H⟩ := H
 replace H : ((laws_toIntS.f k l0_1).bind fun t277 => (some (t274, t277))) = some (r1, r2) := H
 have A2 := xm A20
 clear A20
 replace H := Option.bind_eq_some_iff.mp H
 obtain ⟨t277, A30, H⟩ := H
 replace H : (some (t274, t277)) = some (r1, r2) := H
 have A3 := xm A30
 clear A30
 simp only [Option.some.injEq, Prod.mk.injEq] at H
 obtain ⟨rfl, rfl⟩ := H
 go_enter Try.func18, Try.ntmps18
 go_wp2_with (first | ((with_reducible refine gate_dst (N := 1) rfl ?_); refine box_event ?hg (N := 1) ?hd (cs := #[.slice A0_0 l0_0.length c0_0, .slice A0_1 l0_1.length c0_1]) (t := 37) ?hr ?_; (case hd => rfl); (case hg => rfl); (case hr => exact zB); intro gb271 hg w4 hbox hb; have n0_ := xm (below_step bB hb); have n1_ := xm (hbox); have n2_ := xm ((by rw [hg]; exact (xz bB) : w.heap.size ≤ gb271)); have n3_ := xm ((by rw [hg]; exact (xz bB) : w.heap.size ≤ gb271)); revert n0_ n1_ n2_ n3_; clear HB; intro HB BK271 GW271 GE271; clear hb hbox hg) | ((with_reducible refine gate_dst (N := 2) rfl ?_); refine box_event ?hg (N := 2) ?hd (cs := #[.slice none 0 0, .slice none 0 0]) (t := 49) ?hr ?_; (case hd => rfl); (case hg => rfl); (case hr => exact zB); intro gb272 hg w5 hbox hb; have n0_ := xm (blk_below (kB BK271) hb); have n1_ := xm (below_step bG hb); have n2_ := xm (hbox); have n3_ := xm ((by rw [hg]; exact (xz bG) : w.heap.size ≤ gb272)); have n4_ := xm ((by rw [hg]; exact (xz bG) : w.heap.size ≤ gb272)); have n5_ := xm ((by rw [hg]; exact Nat.ne_of_lt (blk_lt (kB BK271)) : gb271 ≠ gb272)); have n6_ := xm ((by rw [hg]; exact Nat.ne_of_gt (blk_lt (kB BK271)) : gb272 ≠ gb271)); revert n0_ n1_ n2_ n3_ n4_ n5_ n6_; clear BK271 HB; intro BK271 HB BK272 GW272 GE272 NB271_272 NB272_271; clear hb hbox hg) | ((with_reducible refine gate_dst (N := 3) rfl ?_); refine box_event ?hg (N := 3) ?hd (cs := #[.slice none 0 0, .slice none 0 0]) (t := 49) ?hr ?_; (case hd => rfl); (case hg => rfl); (case hr => exact zB); intro gb273 hg w6 hbox hb; have n0_ := xm (blk_below (kB BK271) hb); have n1_ := xm (blk_below (kB BK272) hb); have n2_ := xm (below_step bG hb); have n3_ := xm (hbox); have n4_ := xm ((by rw [hg]; exact (xz bG) : w.heap.size ≤ gb273)); have n5_ := xm ((by rw [hg]; exact (xz bG) : w.heap.size ≤ gb273)); have n6_ := xm ((by rw [hg]; exact Nat.ne_of_lt (blk_lt (kB BK271)) : gb271 ≠ gb273)); have n7_ := xm ((by rw [hg]; exact Nat.ne_of_gt (blk_lt (kB BK271)) : gb273 ≠ gb271)); have n8_ := xm ((by rw [hg]; exact Nat.ne_of_lt (blk_lt (kB BK272)) : gb272 ≠ gb273)); have n9_ := xm ((by rw [hg]; exact Nat.ne_of_gt (blk_lt (kB BK272)) : gb273 ≠ gb272)); revert n0_ n1_ n2_ n3_ n4_ n5_ n6_ n7_ n8_ n9_; clear BK271 BK272 HB; intro BK271 BK272 HB BK273 GW273 GE273 NB271_273 NB273_271 NB272_273 NB273_272; clear hb hbox hg; have hnb7 := NB271_272.out; have hnc7 := NB272_271.out; have hnb8 := NB271_273.out; have hnc8 := NB273_271.out; obtain ⟨hcz9_0, hcz9_1, hfz9_0, hfz9_1⟩ := cz2 BK271.out) | ((with_reducible refine gate_callee (f := 19) rfl ?_); refine goesL_ (some 6) rfl rfl Try.func19 (by kernel_rfl) rfl #[.slice A0_0 l0_0.length c0_0] rfl mB ?_; (with_reducible refine (laws_toIntS.calls k _ _ l0_0 t274 _ ?side1 ?side2 A2.out).mono ?_); (case side1 => exact cB (Kd.C_below HR0_0.out HB.out)); (case side2 => exact HC0_0.out); rintro e w10 ⟨v275, rfl, ho0, hb⟩; refine ⟨_, rfl, ?_⟩; have n0_ := xm (Kd.R_lower ho0 (xz bG)); have n1_ := xm (blk_below (kB BK271) hb); have n2_ := xm (blk_below (kB BK272) hb); have n3_ := xm (blk_below (kB BK273) hb); have n4_ := xm (below_step bG hb); revert n0_ n1_ n2_ n3_ n4_; clear BK271 BK272 BK273 HB; intro HO276 BK271 BK272 BK273 HB; (try clear hb); (try clear ho0); obtain ⟨Ao11, co11, eo11⟩ := Kd.R_slice HO276.out; subst eo11; have hnb12 := NB273_272.out; have hnc12 := NB272_273.out; obtain ⟨hcz13_0, hcz13_1, hfz13_0, hfz13_1⟩ := cz2 BK273.out; obtain ⟨hcz14_0, hcz14_1, hfz14_0, hfz14_1⟩ := cz2 BK271.out) | ((with_reducible refine gate_callee (f := 19) rfl ?_); refine goesL_ (some 10) rfl rfl Try.func19 (by kernel_rfl) rfl #[.slice A0_1 l0_1.length c0_1] rfl mB ?_; (with_reducible refine (laws_toIntS.calls k _ _ l0_1 t277 _ ?side1 ?side2 A3.out).mono ?_); (case side1 => exact Kd.C_below HR0_1.out bG); (case side2 => exact HC0_1.out); rintro e w15 ⟨v278, rfl, ho0, hb⟩; refine ⟨_, rfl, ?_⟩; have n0_ := xm (Kd.R_elder' (rF HO276 BK273 (.slice Ao11 t274.length co11)) (Kd.R_base ho0) hb); have n1_ := xm (Kd.R_lower (Kd.R_new' ho0 (Kd.R_lt (rF HO276 BK273 (.slice Ao11 t274.length co11)))) (xz bG)); have n2_ := xm (blk_below (kF BK271 NB271_273) hb); have n3_ := xm (blk_below (kF BK272 NB272_273) hb); have n4_ := xm (blk_below (g := gb273) (o := .cells #[.slice Ao11 t274.length co11, .slice none 0 0] 49 (0, 0)) (by (with_reducible repeat (first | refine xq ?_ _ | refine xr ?_ | refine xo ?_ _)); refine blk_put (cs := #[.slice none 0 0, .slice none 0 0]) ?_ 0 _ rfl; (with_reducible repeat (first | refine xq ?_ _ | refine xr ?_ | refine xo ?_ _)); exact BK273.out) hb); have n5_ := xm (below_step bG hb); revert n0_ n1_ n2_ n3_ n4_ n5_; clear HO276 BK271 BK272 BK273 HB; intro HO276 HO279 BK271 BK272 BK273 HB; (try clear hb); (try clear ho0); obtain ⟨Ao16, co16, eo16⟩ := Kd.R_slice HO279.out; subst eo16; obtain ⟨hcz17_0, hcz17_1, hfz17_0, hfz17_1⟩ := cz2 BK273.out; obtain ⟨hcz18_0, hcz18_1, hfz18_0, hfz18_1⟩ := cz2 BK272.out))
 refine bodyPost_ret (results_cell_row rfl _ _ gb272 49 #[.slice Ao11 t274.length co11, .slice Ao16 t277.length co16] (0, 0) _ rfl (by (with_reducible repeat (first | refine xq ?_ _ | refine xr ?_ | refine xo ?_ _)); refine blk_put (cs := #[.slice Ao11 t274.length co11, .slice none 0 0]) ?_ 1 _ rfl; (with_reducible repeat (first | refine xq ?_ _ | refine xr ?_ | refine xo ?_ _)); refine blk_put (cs := #[.slice none 0 0, .slice none 0 0]) ?_ 0 _ rfl; (with_reducible repeat (first | refine xq ?_ _ | refine xr ?_ | refine xo ?_ _)); refine blk_far ?_ NB272_273.out _; (with_reducible repeat (first | refine xq ?_ _ | refine xr ?_ | refine xo ?_ _)); exact BK272.out) Try.underlying49 rfl (by kernel_rfl)) rfl ?_
 exact ⟨_, _, eB, by (with_reducible repeat (first | apply Kd.R_alloc | apply Kd.R_drewN | apply Kd.R_drew)); exact Kd.R_mono (Kd.R_far (p := ⟨gb272, 1, none⟩) (Kd.R_far (p := ⟨gb272, 0, none⟩) (Kd.R_far (p := ⟨gb273, 1, none⟩) (Kd.R_types (Kd.R_types HO276.out BK273.out (by decide)) BK272.out (by decide)) (fun _ hk => hk.1.2) (.slice Ao16 t277.length co16)) (fun _ hk => hk.2) (.slice Ao11 t274.length co11)) (fun _ hk => hk.2) (.slice Ao16 t277.length co16)) (fun _ hk => hk.1.1.2), by (with_reducible repeat (first | apply Kd.R_alloc | apply Kd.R_drewN | apply Kd.R_drew)); exact Kd.R_mono (Kd.R_far (p := ⟨gb272, 1, none⟩) (Kd.R_far (p := ⟨gb272, 0, none⟩) (Kd.R_far (p := ⟨gb273, 1, none⟩) (Kd.R_types (Kd.R_types HO279.out BK273.out (by decide)) BK272.out (by decide)) (fun _ hk => hk.1.2) (.slice Ao16 t277.length co16)) (fun _ hk => hk.2) (.slice Ao11 t274.length co11)) (fun _ hk => hk.2) (.slice Ao16 t277.length co16)) (fun _ hk => hk.1.1.2), bG⟩

end Go.Proofs.Ytmelechhnimlnad.G
