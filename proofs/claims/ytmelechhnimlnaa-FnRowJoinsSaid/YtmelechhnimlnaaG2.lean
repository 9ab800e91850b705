/- Written by a program of this claim's own, out of the translation: functions of the program as plain functions, and that the calls answer as these. No conditions. -/
import Derived.Test.YtmelechhnimlnaaG0
import Derived.Test.YtmelechhnimlnaaG1
namespace Go.Proofs.Ytmelechhnimlnaa.G
open Go.RowKit Go.Proofs.Ytmelechhnimlnaa.X Go.Proofs.YtmelechhnimlnaaW.PrintWords Go.Proofs.YtmelechhnimlnaaW.PrintLast Go.Proofs.YtmelechhnimlnaaW.PrintMore
attribute [local go_sem] max2_int min2_int max_two min_two max_three min_three max_four min_four   -- for this text's walks alone
set_option linter.unusedVariables false
set_option linter.unusedSimpArgs false

/-! ### spec_l1Cur_width: function 13 -/
def spec_l1Cur_width.f (s0_0 : List Int) (s0_1 : Int) (s0_2 : Int) : Option (Int × Int × Int) := (spec_l1Cur_one.f s0_0 s0_1 s0_2 20).bind fun bt135 => (if bt135.1 = true then ((spec_l1Cur_among.f s0_0 bt135.2.1 bt135.2.2 (([0, 6, 7] : List Int))).bind fun bt141 => (some (bt141.1, bt141.2.1, bt141.2.2))) else ((spec_l1Cur_pick.f s0_0 bt135.2.1 bt135.2.2 3).bind fun bt144 => (some (wrap64 (1 + bt144.1), bt144.2.1, bt144.2.2))))
set_option maxHeartbeats 8000000 in
set_option maxRecDepth 100000 in
theorem spec_l1Cur_width.calls (g : Nat) (s0_0 : List Int) (s0_1 : Int) (s0_2 : Int) (r1 : Int) (r2 : Int) (r3 : Int) (w0 w : World) (hI : IsS40 w0 w g s0_0 s0_1 s0_2) (hB : Below w0.heap.size w0 w) (h : spec_l1Cur_width.f s0_0 s0_1 s0_2 = some (r1, r2, r3)) :
  Calls Try.prog 13 #[.pointer (some ⟨g, 0, none⟩)] w fun e w' => e = .returned (.int .i64 r1) ∧ IsS40 w0 w' g s0_0 r2 r3 ∧ Below w0.heap.size w0 w' ∧ KeepBut w w' g none := by
 have HI0 := xm hI
 have HK := xm (KeepBut.refl w g none)
 have HL := xm hB.size
 clear hI
 have HW0 := xm hB.size
 have HB := xm hB
 clear hB
 have H : ((spec_l1Cur_one.f s0_0 s0_1 s0_2 20).bind fun bt135 => (if bt135.1 = true then ((spec_l1Cur_among.f s0_0 bt135.2.1 bt135.2.2 (([0, 6, 7] : List Int))).bind fun bt141 => (some (bt141.1, bt141.2.1, bt141.2.2))) else ((spec_l1Cur_pick.f s0_0 bt135.2.1 bt135.2.2 3).bind fun bt144 => (some (wrap64 (1 + bt144.1), bt144.2.1, bt144.2.2))))) = some (r1, r2, r3) := h
 clear h
 replace H := Option.bind_eq_some_iff.mp H
 obtain ⟨⟨t135, t136, t137⟩, A20, H⟩ := H
 replace H : (if t135 = true then ((spec_l1Cur_among.f s0_0 t136 t137 (([0, 6, 7] : List Int))).bind fun bt141 => (some (bt141.1, bt141.2.1, bt141.2.2))) else ((spec_l1Cur_pick.f s0_0 t136 t137 3).bind fun bt144 => (some (wrap64 (1 + bt144.1), bt144.2.1, bt144.2.2)))) = some (r1, r2, r3) := H
 have A2 := xm A20
 clear A20
 by_cases c3 : t135 = true
 ·subst c3
  have H1 : ((spec_l1Cur_among.f s0_0 t136 t137 (([0, 6, 7] : List Int))).bind fun bt141 => (some (bt141.1, bt141.2.1, bt141.2.2))) = some (r1, r2, r3) := by first | (with_reducible rfl) | (rw [if_pos rfl] at H; exact H)
  clear H
  have H := H1
  clear H1
  obtain ⟨y138, hy138⟩ : ∃ y_ : List Int, y_ = (([0, 6, 7] : List Int)) := ⟨_, rfl⟩
  replace H : ((spec_l1Cur_among.f s0_0 t136 t137 y138).bind fun bt141 => (some (bt141.1, bt141.2.1, bt141.2.2))) = some (r1, r2, r3) := by first | (rw [hy138]; with_reducible exact H) | (have H2_ := (Option.bind_some _ _).symm.trans H; rw [hy138]; with_reducible exact H2_) | (have H2_ := (Option.bind_some _ _).symm.trans H; with_reducible exact H2_) | with_reducible exact H | (rw [hy138]; exact H) | exact H
  have Ny138 := xm hy138
  clear hy138
  replace H := Option.bind_eq_some_iff.mp H
  obtain ⟨⟨t141, t142, t143⟩, A40, H⟩ := H
  replace H : (some (t141, t142, t143)) = some (r1, r2, r3) := H
  have A4 := xm A40
  clear A40
  simp only [Option.some.injEq, Prod.mk.injEq] at H
  obtain ⟨rfl, rfl, rfl⟩ := H
  go_enter Try.func13, Try.ntmps13
  go_wp2_with (first | ((with_reducible refine gate_callee (f := 29) rfl ?_); refine goesL_ (some 4) rfl rfl Try.func29 (by kernel_rfl) rfl #[.pointer (some ⟨g, 0, none⟩), .int .i64 20] rfl mB ?_; (with_reducible refine (spec_l1Cur_one.calls g s0_0 s0_1 s0_2 20 true t136 t137 w0 _ ?side1 ?side2 A2.out).mono ?_); (case side1 => repeat (first | (with_reducible first | exact HI0.out | apply IsS40.alloc | apply IsS40.drewN | apply IsS40.drew | apply IsS40.set_1 | apply IsS40.set_2) | exact HI0.out)); (case side2 => repeat (first | (with_reducible first | exact HB.out | apply xa | apply xn | apply xd | refine xt ?_ (IsS40.ge HI0.out)) | exact HB.out)); rintro e w5 ⟨rfl, hi, hb, hk⟩; refine ⟨_, rfl, ?_⟩; have n0_ := xm (KeepBut.trans (by repeat (first | (with_reducible first | exact HK.out | apply KeepBut.set_ | apply keep_drewN | apply keep_drew | apply keep_alloc) | exact HK.out)) hk (.inl rfl)); have n1_ := xm (hb); have n2_ := xm (hi); revert n0_ n1_ n2_; clear HK HB HI0; intro HK HB HI0; (try clear hb); (try clear hk); (try clear hi)) | ((with_reducible refine gate_dst (N := 6) rfl ?_); refine Kd.R_lit (Kd.int .i64) _ 3 ?hg (N := 6) ?hd (xs := ([0, 6, 7] : List Int)) (inner := [.int .i64 0, .int .i64 6, .int .i64 7]) (ok := fun _ => True) (okp := fun _ => True) ?hr ?hp (fun _ hk => hk) trivial (Below.refl _ _) (Nat.le_refl _) (by simp) ?_; (case hd => rfl); (case hg => rfl); (case hr => exact zB); (case hp => exact (Reps.one (show Kd.M (Kd.int .i64) _ _ _ 0 [.int .i64 0] from rfl) (Reps.one (show Kd.M (Kd.int .i64) _ _ _ 6 [.int .i64 6] from rfl) (Reps.one (show Kd.M (Kd.int .i64) _ _ _ 7 [.int .i64 7] from rfl) (Reps.none _ _))))); intro v139 w6 ho7 hb hg_ hnew_; clear hg_ hnew_; (first | rw [← Ny138.out] at ho7 | (simp only [Int.reduceToNat] at ho7; rw [← Ny138.out] at ho7)); have n0_ := xm (Kd.R_lower ho7 (keep_size (w := w) (g := g) (row := none) (by repeat (first | (with_reducible first | exact HK.out | apply KeepBut.set_ | apply keep_drewN | apply keep_drew | apply keep_alloc) | exact HK.out)))); have n1_ := xm (IsS40.below (by repeat (first | (with_reducible first | exact HI0.out | apply IsS40.alloc | apply IsS40.drewN | apply IsS40.drew | apply IsS40.set_1 | apply IsS40.set_2) | exact HI0.out)) hb); have n2_ := xm (KeepBut.trans (by repeat (first | (with_reducible first | exact HK.out | apply KeepBut.set_ | apply keep_drewN | apply keep_drew | apply keep_alloc) | exact HK.out)) (KeepBut.of_below hb g none) (.inl rfl)); have n3_ := xm (below_step (by repeat (first | (with_reducible first | exact HB.out | apply xa | apply xn | apply xd | refine xt ?_ (IsS40.ge HI0.out)) | exact HB.out)) hb); revert n0_ n1_ n2_ n3_; clear HI0 HK HB; intro HO140 HI0 HK HB; clear hb ho7; obtain ⟨Ao8, co8, eo8⟩ := Kd.R_slice HO140.out; subst eo8) | ((with_reducible refine gate_callee (f := 30) rfl ?_); refine goesL_ (some 7) rfl rfl Try.func30 (by kernel_rfl) rfl #[.pointer (some ⟨g, 0, none⟩), .slice Ao8 y138.length co8] rfl mB ?_; (with_reducible refine (spec_l1Cur_among.calls g s0_0 t136 t137 _ _ y138 t141 t142 t143 w0 _ ?side1 ?side2 ?side3 ?side4 ?side5 A4.out).mono ?_); (case side1 => repeat (first | (with_reducible first | exact HI0.out | apply IsS40.alloc | apply IsS40.drewN | apply IsS40.drew | apply IsS40.set_1 | apply IsS40.set_2) | exact HI0.out)); (case side2 => repeat (first | (with_reducible first | exact HB.out | apply xa | apply xn | apply xd | refine xt ?_ (IsS40.ge HI0.out)) | exact HB.out)); (case side3 => repeat (first | exact (Kd.R_reads' HO140.out).2.2 | (with_reducible refine Kd.C_alloc ?_ _) | (with_reducible refine Kd.C_drewN ?_ _) | (with_reducible refine Kd.C_drew ?_))); (case side4 => exact (Kd.R_reads' HO140.out).2.1); (case side5 => exact far_slice (IsS40.own_ne HI0.out HO140.out (by decide))); rintro e w9 ⟨rfl, hi, hb, hk⟩; refine ⟨_, rfl, ?_⟩; have n0_ := xm (Kd.R_mono (Kd.R_keep (IsS40.apart (show IsS40 w0 _ g s0_0 t136 t137 from by repeat (first | (with_reducible first | exact HI0.out | apply IsS40.alloc | apply IsS40.drewN | apply IsS40.drew | apply IsS40.set_1 | apply IsS40.set_2) | exact HI0.out)) (rB HO140) (by decide)) hk (fun _ h => h.2)) (fun _ h => h.1)); have n1_ := xm (KeepBut.trans (by repeat (first | (with_reducible first | exact HK.out | apply KeepBut.set_ | apply keep_drewN | apply keep_drew | apply keep_alloc) | exact HK.out)) hk (.inl rfl)); have n2_ := xm (hb); have n3_ := xm (hi); revert n0_ n1_ n2_ n3_; clear HO140 HK HB HI0; intro HO140 HK HB HI0; (try clear hb); (try clear hk); (try clear hi)))
  go_ret
  exact ⟨eB, by repeat (first | (with_reducible first | exact HI0.out | apply IsS40.alloc | apply IsS40.drewN | apply IsS40.drew | apply IsS40.set_1 | apply IsS40.set_2) | exact HI0.out), by repeat (first | (with_reducible first | exact HB.out | apply xa | apply xn | apply xd | refine xt ?_ (IsS40.ge HI0.out)) | exact HB.out), by repeat (first | (with_reducible first | exact HK.out | apply KeepBut.set_ | apply keep_drewN | apply keep_drew | apply keep_alloc) | exact HK.out)⟩
 ·replace c3 := Bool.eq_false_iff.mpr c3
  subst c3
  have H1 : ((spec_l1Cur_pick.f s0_0 t136 t137 3).bind fun bt144 => (some (wrap64 (1 + bt144.1), bt144.2.1, bt144.2.2))) = some (r1, r2, r3) := by first | (with_reducible rfl) | (rw [if_neg (show ¬ (false = true) by decide)] at H; exact H)
  clear H
  have H := H1
  clear H1
  replace H := Option.bind_eq_some_iff.mp H
  obtain ⟨⟨t144, t145, t146⟩, A100, H⟩ := H
  replace H : (some (wrap64 (1 + t144), t145, t146)) = some (r1, r2, r3) := H
  have A10 := xm A100
  clear A100
  simp only [Option.some.injEq, Prod.mk.injEq] at H
  obtain ⟨rfl, rfl, rfl⟩ := H
  go_enter Try.func13, Try.ntmps13
  go_wp2_with (first | ((with_reducible refine gate_callee (f := 29) rfl ?_); refine goesL_ (some 4) rfl rfl Try.func29 (by kernel_rfl) rfl #[.pointer (some ⟨g, 0, none⟩), .int .i64 20] rfl mB ?_; (with_reducible refine (spec_l1Cur_one.calls g s0_0 s0_1 s0_2 20 false t136 t137 w0 _ ?side1 ?side2 A2.out).mono ?_); (case side1 => repeat (first | (with_reducible first | exact HI0.out | apply IsS40.alloc | apply IsS40.drewN | apply IsS40.drew | apply IsS40.set_1 | apply IsS40.set_2) | exact HI0.out)); (case side2 => repeat (first | (with_reducible first | exact HB.out | apply xa | apply xn | apply xd | refine xt ?_ (IsS40.ge HI0.out)) | exact HB.out)); rintro e w11 ⟨rfl, hi, hb, hk⟩; refine ⟨_, rfl, ?_⟩; have n0_ := xm (KeepBut.trans (by repeat (first | (with_reducible first | exact HK.out | apply KeepBut.set_ | apply keep_drewN | apply keep_drew | apply keep_alloc) | exact HK.out)) hk (.inl rfl)); have n1_ := xm (hb); have n2_ := xm (hi); revert n0_ n1_ n2_; clear HK HB HI0; intro HK HB HI0; (try clear hb); (try clear hk); (try clear hi)) | ((with_reducible refine gate_callee (f := 31) rfl ?_); refine goesL_ (some 9) rfl rfl Try.func31 (by kernel_rfl) rfl #[.pointer (some ⟨g, 0, none⟩), .int .i64 3] rfl mB ?_; (with_reducible refine (spec_l1Cur_pick.calls g s0_0 t136 t137 3 t144 t145 t146 w0 _ ?side1 ?side2 A10.out).mono ?_); (case side1 => repeat (first | (with_reducible first | exact HI0.out | apply IsS40.alloc | apply IsS40.drewN | apply IsS40.drew | apply IsS40.set_1 | apply IsS40.set_2) | exact HI0.out)); (case side2 => repeat (first | (with_reducible first | exact HB.out | apply xa | apply xn | apply xd | refine xt ?_ (IsS40.ge HI0.out)) | exact HB.out)); rintro e w12 ⟨rfl, hi, hb, hk⟩; refine ⟨_, rfl, ?_⟩; have n0_ := xm (KeepBut.trans (by repeat (first | (with_reducible first | exact HK.out | apply KeepBut.set_ | apply keep_drewN | apply keep_drew | apply keep_alloc) | exact HK.out)) hk (.inl rfl)); have n1_ := xm (hb); have n2_ := xm (hi); revert n0_ n1_ n2_; clear HK HB HI0; intro HK HB HI0; (try clear hb); (try clear hk); (try clear hi)))
  go_ret
  exact ⟨eB, by repeat (first | (with_reducible first | exact HI0.out | apply IsS40.alloc | apply IsS40.drewN | apply IsS40.drew | apply IsS40.set_1 | apply IsS40.set_2) | exact HI0.out), by repeat (first | (with_reducible first | exact HB.out | apply xa | apply xn | apply xd | refine xt ?_ (IsS40.ge HI0.out)) | exact HB.out), by repeat (first | (with_reducible first | exact HK.out | apply KeepBut.set_ | apply keep_drewN | apply keep_drew | apply keep_alloc) | exact HK.out)⟩

/-! ### spec_l1Cur_pairs: function 14 -/
mutual
def spec_l1Cur_pairs.l0 : Nat → Int → Int → List (List Int) → Int → List Int → Int → Int → Option ((List (List Int)) × Int × Int)
 | 0, _, _, _, _, _, _, _ => none
 | k + 1, x1, x2, x7, x8, x1000, x1001, x1002 => if x8 > 0 then (if x1 > 0 then (spec_l1Cur_pairs.j1 k x1 x2 x7 x8 (decide (x2 > 0)) x1000 x1001 x1002) else (spec_l1Cur_pairs.j1 k x1 x2 x7 x8 false x1000 x1001 x1002)) else (spec_l1Cur_pairs.j1 k x1 x2 x7 x8 false x1000 x1001 x1002)
def spec_l1Cur_pairs.j1 : Nat → Int → Int → List (List Int) → Int → Bool → List Int → Int → Int → Option ((List (List Int)) × Int × Int)
 | 0, _, _, _, _, _, _, _, _ => none
 | k + 1, x1, x2, x7, x8, x20, x1000, x1001, x1002 => if x20 = true then ((spec_l1Cur_pick.f x1000 x1001 x1002 x1).bind fun bt150 => ((spec_l1Cur_pick.f x1000 bt150.2.1 bt150.2.2 x2).bind fun bt153 => (if x7.length < 5864062014805 then (spec_l1Cur_pairs.l0 k x1 x2 (x7 ++ [(([bt150.1, bt153.1] : List Int))]) (wrap64 (x8 - 1)) x1000 bt153.2.1 bt153.2.2) else (none)))) else ((spec_l1Cur_one.f x1000 x1001 x1002 40).bind fun bt162 => (if bt162.1 = true then (if x7.length < 5864062014805 then (some ((x7 ++ [(([0] : List Int))]), bt162.2.1, bt162.2.2)) else (none)) else (some (x7, bt162.2.1, bt162.2.2))))
end
def spec_l1Cur_pairs.f (k : Nat) (s0_0 : List Int) (s0_1 : Int) (s0_2 : Int) (a1 : Int) (a2 : Int) : Option ((List (List Int)) × Int × Int) := (spec_l1Cur_pick.f s0_0 s0_1 s0_2 3).bind fun bt147 => (spec_l1Cur_pairs.l0 k a1 a2 ([] : List (List Int)) bt147.1 s0_0 bt147.2.1 bt147.2.2)
theorem spec_l1Cur_pairs.mono_l : ∀ k, (∀ y0 y1 y2 y3 y4 y5 y6, LeO (spec_l1Cur_pairs.l0 k y0 y1 y2 y3 y4 y5 y6) (spec_l1Cur_pairs.l0 (k + 1) y0 y1 y2 y3 y4 y5 y6)) ∧ (∀ y0 y1 y2 y3 y4 y5 y6 y7, LeO (spec_l1Cur_pairs.j1 k y0 y1 y2 y3 y4 y5 y6 y7) (spec_l1Cur_pairs.j1 (k + 1) y0 y1 y2 y3 y4 y5 y6 y7))
 | 0 => ⟨fun _ _ _ _ _ _ _ r h => by simp [spec_l1Cur_pairs.l0] at h, fun _ _ _ _ _ _ _ _ r h => by simp [spec_l1Cur_pairs.j1] at h⟩
 | k + 1 => by
  obtain ⟨ih0, ih1⟩ := spec_l1Cur_pairs.mono_l k
  refine ⟨?_, ?_⟩
  ·intro y0 y1 y2 y3 y4 y5 y6
   unfold spec_l1Cur_pairs.l0
   repeat' first
   | (with_reducible exact ih0 _ _ _ _ _ _ _)
   | (with_reducible exact ih1 _ _ _ _ _ _ _ _)
   | (with_reducible exact LeO.refl _)
   | (with_reducible exact LeO.none _)
   | (with_reducible refine LeO.ite ?_ ?_)
   | (with_reducible refine LeO.bind ?_ (fun _ => ?_))
   | exact ih0 _ _ _ _ _ _ _
   | exact ih1 _ _ _ _ _ _ _ _
   | exact LeO.none _
   | refine LeO.ite ?_ ?_
   | refine LeO.bind ?_ (fun _ => ?_)
  ·intro y0 y1 y2 y3 y4 y5 y6 y7
   unfold spec_l1Cur_pairs.j1
   repeat' first
   | (with_reducible exact ih0 _ _ _ _ _ _ _)
   | (with_reducible exact ih1 _ _ _ _ _ _ _ _)
   | (with_reducible exact LeO.refl _)
   | (with_reducible exact LeO.none _)
   | (with_reducible refine LeO.ite ?_ ?_)
   | (with_reducible refine LeO.bind ?_ (fun _ => ?_))
   | exact ih0 _ _ _ _ _ _ _
   | exact ih1 _ _ _ _ _ _ _ _
   | exact LeO.none _
   | refine LeO.ite ?_ ?_
   | refine LeO.bind ?_ (fun _ => ?_)
theorem spec_l1Cur_pairs.mono : ∀ a0 a1 a2 a3 a4 k, LeO (spec_l1Cur_pairs.f k a0 a1 a2 a3 a4) (spec_l1Cur_pairs.f (k + 1) a0 a1 a2 a3 a4) := by
 intro a0 a1 a2 a3 a4 k
 obtain ⟨ih0, ih1⟩ := spec_l1Cur_pairs.mono_l k
 unfold spec_l1Cur_pairs.f
 repeat' first
   | (with_reducible exact ih0 _ _ _ _ _ _ _)
   | (with_reducible exact ih1 _ _ _ _ _ _ _ _)
   | (with_reducible exact LeO.refl _)
   | (with_reducible exact LeO.none _)
   | (with_reducible refine LeO.ite ?_ ?_)
   | (with_reducible refine LeO.bind ?_ (fun _ => ?_))
   | exact ih0 _ _ _ _ _ _ _
   | exact ih1 _ _ _ _ _ _ _ _
   | exact LeO.none _
   | refine LeO.ite ?_ ?_
   | refine LeO.bind ?_ (fun _ => ?_)
set_option maxHeartbeats 8000000 in
set_option maxRecDepth 100000 in
theorem spec_l1Cur_pairs.calls (k : Nat) (g : Nat) (s0_0 : List Int) (s0_1 : Int) (s0_2 : Int) (a1 : Int) (a2 : Int) (r1 : List (List Int)) (r2 : Int) (r3 : Int) (w0 w : World) (hI : IsS40 w0 w g s0_0 s0_1 s0_2) (hB : Below w0.heap.size w0 w) (h : spec_l1Cur_pairs.f k s0_0 s0_1 s0_2 a1 a2 = some (r1, r2, r3)) :
  Calls Try.prog 14 #[.pointer (some ⟨g, 0, none⟩), .int .i64 a1, .int .i64 a2] w fun e w' => ∃ v0_ : Value, e = .returned (v0_) ∧ Kd.S (Kd.slice 3 (Kd.int .i64)) 23 w' w.heap.size (fun _ => True) v0_ r1 ∧ IsS40 w0 w' g s0_0 r2 r3 ∧ Below w0.heap.size w0 w' ∧ KeepBut w w' g none := by
 have HI0 := xm hI
 have HK := xm (KeepBut.refl w g none)
 have HL := xm hB.size
 clear hI
 have HW0 := xm hB.size
 have HB := xm hB
 clear hB
 have H : ((spec_l1Cur_pick.f s0_0 s0_1 s0_2 3).bind fun bt147 => (spec_l1Cur_pairs.l0 k a1 a2 ([] : List (List Int)) bt147.1 s0_0 bt147.2.1 bt147.2.2)) = some (r1, r2, r3) := h
 clear h
 replace H := Option.bind_eq_some_iff.mp H
 obtain ⟨⟨t147, t148, t149⟩, A40, H⟩ := H
 replace H : (spec_l1Cur_pairs.l0 k a1 a2 ([] : List (List Int)) t147 s0_0 t148 t149) = some (r1, r2, r3) := H
 have A4 := xm A40
 clear A40
 have H' := xm H
 clear H
 go_enter Try.func14, Try.ntmps14
 go_wp2_with (first | ((with_reducible refine gate_callee (f := 31) rfl ?_); refine goesL_ (some 10) rfl rfl Try.func31 (by kernel_rfl) rfl #[.pointer (some ⟨g, 0, none⟩), .int .i64 3] rfl mB ?_; (with_reducible refine (spec_l1Cur_pick.calls g s0_0 s0_1 s0_2 3 t147 t148 t149 w0 _ ?side1 ?side2 A4.out).mono ?_); (case side1 => repeat (first | (with_reducible first | exact HI0.out | apply IsS40.alloc | apply IsS40.drewN | apply IsS40.drew | apply IsS40.set_1 | apply IsS40.set_2) | exact HI0.out)); (case side2 => repeat (first | (with_reducible first | exact HB.out | apply xa | apply xn | apply xd | refine xt ?_ (IsS40.ge HI0.out)) | exact HB.out)); rintro e w5 ⟨rfl, hi, hb, hk⟩; refine ⟨_, rfl, ?_⟩; have n0_ := xm (KeepBut.trans (by repeat (first | (with_reducible first | exact HK.out | apply KeepBut.set_ | apply keep_drewN | apply keep_drew | apply keep_alloc) | exact HK.out)) hk (.inl rfl)); have n1_ := xm (hb); have n2_ := xm (hi); revert n0_ n1_ n2_; clear HK HB HI0; intro HK HB HI0; (try clear hb); (try clear hk); (try clear hi)))
 go_loopg [7, 8] k (fun kq v7 v8 w' => ∃ (x7_1 : List (List Int)) (x8_1 : Int) (x1001_1 : Int) (x1002_1 : Int), v8 = .int .i64 x8_1 ∧ Aside0 (spec_l1Cur_pairs.l0 kq a1 a2 x7_1 x8_1 s0_0 x1001_1 x1002_1 = some (r1, r2, r3)) ∧ Aside0 (kq ≤ k) ∧ Aside0 (Kd.S (Kd.slice 3 (Kd.int .i64)) 23 w' w.heap.size (fun _ => True) v7 x7_1) ∧ Aside0 (IsS40 w0 w' g s0_0 x1001_1 x1002_1) ∧ Aside0 (KeepBut w w' g none) ∧ Aside0 (Below w0.heap.size w0 w'))
 case atStart => exact ⟨(([] : List (List Int))), (t147), (t148), (t149), sB, H', ⟨Nat.le_refl _⟩, ⟨by first | exact Kd.S_nil _ _ _ _ _ | exact Kd.N_nil _ _ _ _ _ | exact Kd.V_nil _ _ _ _ _ | exact Kd.Q_nil _ _ _ _ _ | exact Kd.R_nil _ _ _ _ _⟩, ⟨by repeat (first | (with_reducible first | exact HI0.out | apply IsS40.alloc | apply IsS40.drewN | apply IsS40.drew | apply IsS40.set_1 | apply IsS40.set_2) | exact HI0.out)⟩, ⟨by repeat (first | (with_reducible first | exact HK.out | apply KeepBut.set_ | apply keep_drewN | apply keep_drew | apply keep_alloc) | exact HK.out)⟩, ⟨by repeat (first | (with_reducible first | exact HB.out | apply xa | apply xn | apply xd | refine xt ?_ (IsS40.ge HI0.out)) | exact HB.out)⟩⟩
 case round =>
  clear H'
  try clear c1
  try clear p2
  try clear c3
  obtain ⟨x7_1, x8_1, x1001_1, x1002_1, rfl, HA, HK1, HO_7, HI0, HK, HB⟩ := hrel
  cases gk with
  | zero => exact absurd HA.out (by simp [spec_l1Cur_pairs.l0])
  | succ k1 =>
   have H := HA.out
   clear HA
   simp only [spec_l1Cur_pairs.l0] at H
   have HC6 := xm H
   clear H
   go_upto_region 3 with (fail)
   go_cut [20] (fun v20 wc => ∃ (kq : Nat) (x20_5 : Bool), v20 = .bool x20_5 ∧ Aside0 (spec_l1Cur_pairs.j1 kq a1 a2 x7_1 x8_1 x20_5 s0_0 x1001_1 x1002_1 = some (r1, r2, r3)) ∧ Aside0 (kq ≤ k1) ∧ Aside0 (Kd.S (Kd.slice 3 (Kd.int .i64)) 23 wc w.heap.size (fun _ => True) u7 x7_1) ∧ Aside0 (IsS40 w0 wc g s0_0 x1001_1 x1002_1) ∧ Aside0 (KeepBut w wc g none) ∧ Aside0 (Below w0.heap.size w0 wc))
   case first =>
    have H := HC6.out
    clear HC6
    by_cases c7 : x8_1 > 0
    ·rw [if_pos c7] at H
     have c7b0 : decide (0 < x8_1) = true := decide_eq_true c7
     clear c7
     (first | rw [c7b0] | (simp only [i64_w, i32_w]; rw [c7b0]) | skip)
     by_cases c8 : a1 > 0
     ·rw [if_pos c8] at H
      have c8b0 : decide (0 < a1) = true := decide_eq_true c8
      clear c8
      have H' := xm H
      clear H
      go_wp2
      go_meet
      case rel => exact ⟨_, (decide (a2 > 0)), sB, H', ⟨by have := HK1.out; first | omega | exact Nat.le_refl _⟩, ⟨tB HO_7⟩, ⟨by repeat (first | (with_reducible first | exact HI0.out | apply IsS40.alloc | apply IsS40.drewN | apply IsS40.drew | apply IsS40.set_1 | apply IsS40.set_2) | exact HI0.out)⟩, ⟨by repeat (first | (with_reducible first | exact HK.out | apply KeepBut.set_ | apply keep_drewN | apply keep_drew | apply keep_alloc) | exact HK.out)⟩, ⟨by repeat (first | (with_reducible first | exact HB.out | apply xa | apply xn | apply xd | refine xt ?_ (IsS40.ge HI0.out)) | exact HB.out)⟩⟩
     ·rw [if_neg c8] at H
      have c8b0 : decide (0 < a1) = false := decide_eq_false c8
      clear c8
      have H' := xm H
      clear H
      go_wp2
      go_meet
      case rel => exact ⟨_, (false), sB, H', ⟨by have := HK1.out; first | omega | exact Nat.le_refl _⟩, ⟨tB HO_7⟩, ⟨by repeat (first | (with_reducible first | exact HI0.out | apply IsS40.alloc | apply IsS40.drewN | apply IsS40.drew | apply IsS40.set_1 | apply IsS40.set_2) | exact HI0.out)⟩, ⟨by repeat (first | (with_reducible first | exact HK.out | apply KeepBut.set_ | apply keep_drewN | apply keep_drew | apply keep_alloc) | exact HK.out)⟩, ⟨by repeat (first | (with_reducible first | exact HB.out | apply xa | apply xn | apply xd | refine xt ?_ (IsS40.ge HI0.out)) | exact HB.out)⟩⟩
    ·rw [if_neg c7] at H
     have c7b0 : decide (0 < x8_1) = false := decide_eq_false c7
     clear c7
     (first | rw [c7b0] | (simp only [i64_w, i32_w]; rw [c7b0]) | skip)
     have H' := xm H
     clear H
     go_wp2
     go_meet
     case rel => exact ⟨_, (false), sB, H', ⟨by have := HK1.out; first | omega | exact Nat.le_refl _⟩, ⟨tB HO_7⟩, ⟨by repeat (first | (with_reducible first | exact HI0.out | apply IsS40.alloc | apply IsS40.drewN | apply IsS40.drew | apply IsS40.set_1 | apply IsS40.set_2) | exact HI0.out)⟩, ⟨by repeat (first | (with_reducible first | exact HK.out | apply KeepBut.set_ | apply keep_drewN | apply keep_drew | apply keep_alloc) | exact HK.out)⟩, ⟨by repeat (first | (with_reducible first | exact HB.out | apply xa | apply xn | apply xd | refine xt ?_ (IsS40.ge HI0.out)) | exact HB.out)⟩⟩
   case rest =>
    clear HC6
    try clear c1
    try clear p2
    try clear c3
    try clear c7
    try clear c7b0
    try clear c8
    try clear c8b0
    try clear p2
    obtain ⟨kq, x20_5, rfl, HA, HJ5, HO_7, HI0, HK, HB⟩ := hcut
    cases kq with
    | zero => exact absurd HA.out (by simp [spec_l1Cur_pairs.j1])
    | succ kj5 =>
     have H := HA.out
     clear HA
     simp only [spec_l1Cur_pairs.j1] at H
     by_cases c9 : x20_5 = true
     ·subst c9
      have H1 : ((spec_l1Cur_pick.f s0_0 x1001_1 x1002_1 a1).bind fun bt150 => ((spec_l1Cur_pick.f s0_0 bt150.2.1 bt150.2.2 a2).bind fun bt153 => (if x7_1.length < 5864062014805 then (spec_l1Cur_pairs.l0 kj5 a1 a2 (x7_1 ++ [(([bt150.1, bt153.1] : List Int))]) (wrap64 (x8_1 - 1)) s0_0 bt153.2.1 bt153.2.2) else (none)))) = some (r1, r2, r3) := by first | (with_reducible rfl) | (rw [if_pos rfl] at H; exact H)
      clear H
      have H := H1
      clear H1
      replace H := Option.bind_eq_some_iff.mp H
      obtain ⟨⟨t150, t151, t152⟩, A100, H⟩ := H
      replace H : ((spec_l1Cur_pick.f s0_0 t151 t152 a2).bind fun bt153 => (if x7_1.length < 5864062014805 then (spec_l1Cur_pairs.l0 kj5 a1 a2 (x7_1 ++ [(([t150, bt153.1] : List Int))]) (wrap64 (x8_1 - 1)) s0_0 bt153.2.1 bt153.2.2) else (none))) = some (r1, r2, r3) := H
      have A10 := xm A100
      clear A100
      replace H := Option.bind_eq_some_iff.mp H
      obtain ⟨⟨t153, t154, t155⟩, A110, H⟩ := H
      replace H : (if x7_1.length < 5864062014805 then (spec_l1Cur_pairs.l0 kj5 a1 a2 (x7_1 ++ [(([t150, t153] : List Int))]) (wrap64 (x8_1 - 1)) s0_0 t154 t155) else (none)) = some (r1, r2, r3) := H
      have A11 := xm A110
      clear A110
      obtain ⟨y156, hy156⟩ : ∃ y_ : List Int, y_ = (([t150, t153] : List Int)) := ⟨_, rfl⟩
      replace H : (if x7_1.length < 5864062014805 then (spec_l1Cur_pairs.l0 kj5 a1 a2 (x7_1 ++ [y156]) (wrap64 (x8_1 - 1)) s0_0 t154 t155) else (none)) = some (r1, r2, r3) := by first | (rw [hy156]; with_reducible exact H) | (have H2_ := (Option.bind_some _ _).symm.trans H; rw [hy156]; with_reducible exact H2_) | (have H2_ := (Option.bind_some _ _).symm.trans H; with_reducible exact H2_) | with_reducible exact H | (rw [hy156]; exact H) | exact H
      have Ny156 := xm hy156
      clear hy156
      by_cases c12 : x7_1.length < 5864062014805
      ·rw [if_pos c12] at H
       have LMc12 := xm c12
       clear c12
       obtain ⟨y159, hy159⟩ : ∃ y_ : List (List Int), y_ = (x7_1 ++ [y156]) := ⟨_, rfl⟩
       replace H : (spec_l1Cur_pairs.l0 kj5 a1 a2 y159 (wrap64 (x8_1 - 1)) s0_0 t154 t155) = some (r1, r2, r3) := by first | (rw [hy159]; with_reducible exact H) | (have H2_ := (Option.bind_some _ _).symm.trans H; rw [hy159]; with_reducible exact H2_) | (have H2_ := (Option.bind_some _ _).symm.trans H; with_reducible exact H2_) | with_reducible exact H | (rw [hy159]; exact H) | exact H
       have Ny159 := xm hy159
       clear hy159
       have H' := xm H
       clear H
       go_wp2_with (first | ((with_reducible refine gate_callee (f := 31) rfl ?_); refine goesL_ (some 26) rfl rfl Try.func31 (by kernel_rfl) rfl #[.pointer (some ⟨g, 0, none⟩), .int .i64 a1] rfl mB ?_; (with_reducible refine (spec_l1Cur_pick.calls g s0_0 x1001_1 x1002_1 a1 t150 t151 t152 w0 _ ?side1 ?side2 A10.out).mono ?_); (case side1 => repeat (first | (with_reducible first | exact HI0.out | apply IsS40.alloc | apply IsS40.drewN | apply IsS40.drew | apply IsS40.set_1 | apply IsS40.set_2) | exact HI0.out)); (case side2 => repeat (first | (with_reducible first | exact HB.out | apply xa | apply xn | apply xd | refine xt ?_ (IsS40.ge HI0.out)) | exact HB.out)); rintro e w13 ⟨rfl, hi, hb, hk⟩; refine ⟨_, rfl, ?_⟩; have n0_ := xm (Kd.S_mono (Kd.S_keep (IsS40.apartS (show IsS40 w0 _ g s0_0 x1001_1 x1002_1 from by repeat (first | (with_reducible first | exact HI0.out | apply IsS40.alloc | apply IsS40.drewN | apply IsS40.drew | apply IsS40.set_1 | apply IsS40.set_2) | exact HI0.out)) (tB HO_7) (by decide)) hk (fun _ h => h.2)) (fun _ h => h.1)); have n1_ := xm (KeepBut.trans (by repeat (first | (with_reducible first | exact HK.out | apply KeepBut.set_ | apply keep_drewN | apply keep_drew | apply keep_alloc) | exact HK.out)) hk (.inl rfl)); have n2_ := xm (hb); have n3_ := xm (hi); revert n0_ n1_ n2_ n3_; clear HO_7 HK HB HI0; intro HO_7 HK HB HI0; (try clear hb); (try clear hk); (try clear hi)) | ((with_reducible refine gate_callee (f := 31) rfl ?_); refine goesL_ (some 29) rfl rfl Try.func31 (by kernel_rfl) rfl #[.pointer (some ⟨g, 0, none⟩), .int .i64 a2] rfl mB ?_; (with_reducible refine (spec_l1Cur_pick.calls g s0_0 t151 t152 a2 t153 t154 t155 w0 _ ?side1 ?side2 A11.out).mono ?_); (case side1 => repeat (first | (with_reducible first | exact HI0.out | apply IsS40.alloc | apply IsS40.drewN | apply IsS40.drew | apply IsS40.set_1 | apply IsS40.set_2) | exact HI0.out)); (case side2 => repeat (first | (with_reducible first | exact HB.out | apply xa | apply xn | apply xd | refine xt ?_ (IsS40.ge HI0.out)) | exact HB.out)); rintro e w14 ⟨rfl, hi, hb, hk⟩; refine ⟨_, rfl, ?_⟩; have n0_ := xm (Kd.S_mono (Kd.S_keep (IsS40.apartS (show IsS40 w0 _ g s0_0 t151 t152 from by repeat (first | (with_reducible first | exact HI0.out | apply IsS40.alloc | apply IsS40.drewN | apply IsS40.drew | apply IsS40.set_1 | apply IsS40.set_2) | exact HI0.out)) (tB HO_7) (by decide)) hk (fun _ h => h.2)) (fun _ h => h.1)); have n1_ := xm (KeepBut.trans (by repeat (first | (with_reducible first | exact HK.out | apply KeepBut.set_ | apply keep_drewN | apply keep_drew | apply keep_alloc) | exact HK.out)) hk (.inl rfl)); have n2_ := xm (hb); have n3_ := xm (hi); revert n0_ n1_ n2_ n3_; clear HO_7 HK HB HI0; intro HO_7 HK HB HI0; (try clear hb); (try clear hk); (try clear hi)) | ((with_reducible refine gate_dst (N := 30) rfl ?_); refine Kd.R_lit (Kd.int .i64) _ 3 ?hg (N := 30) ?hd (xs := ([t150, t153] : List Int)) (inner := [.int .i64 t150, .int .i64 t153]) (ok := fun _ => True) (okp := fun _ => True) ?hr ?hp (fun _ hk => hk) trivial (Below.refl _ _) (Nat.le_refl _) (by simp) ?_; (case hd => rfl); (case hg => rfl); (case hr => exact zB); (case hp => exact (Reps.one (show Kd.M (Kd.int .i64) _ _ _ t150 [.int .i64 t150] from rfl) (Reps.one (show Kd.M (Kd.int .i64) _ _ _ t153 [.int .i64 t153] from rfl) (Reps.none _ _)))); intro v157 w15 ho16 hb hg_ hnew_; clear hg_ hnew_; (first | rw [← Ny156.out] at ho16 | (simp only [Int.reduceToNat] at ho16; rw [← Ny156.out] at ho16)); have n0_ := xm (Kd.S_elder' (tB HO_7) (Kd.R_base ho16) hb); have n1_ := xm (Kd.R_lower ho16 (keep_size (w := w) (g := g) (row := none) (by repeat (first | (with_reducible first | exact HK.out | apply KeepBut.set_ | apply keep_drewN | apply keep_drew | apply keep_alloc) | exact HK.out)))); have n2_ := xm (IsS40.below (by repeat (first | (with_reducible first | exact HI0.out | apply IsS40.alloc | apply IsS40.drewN | apply IsS40.drew | apply IsS40.set_1 | apply IsS40.set_2) | exact HI0.out)) hb); have n3_ := xm (KeepBut.trans (by repeat (first | (with_reducible first | exact HK.out | apply KeepBut.set_ | apply keep_drewN | apply keep_drew | apply keep_alloc) | exact HK.out)) (KeepBut.of_below hb g none) (.inl rfl)); have n4_ := xm (below_step (by repeat (first | (with_reducible first | exact HB.out | apply xa | apply xn | apply xd | refine xt ?_ (IsS40.ge HI0.out)) | exact HB.out)) hb); revert n0_ n1_ n2_ n3_ n4_; clear HO_7 HI0 HK HB; intro HO_7 HO158 HI0 HK HB; clear hb ho16; obtain ⟨Ao18, co18, eo18⟩ := Kd.R_slice HO158.out; subst eo18) | ((with_reducible refine gate_builtin (b := .append) (xs := #[.tmp 23, .tmp 31]) rfl ?_); at_builtin; refine Kd.S_append (Kd.slice 3 (Kd.int .i64)) w.heap.size rfl (.tmp 23) (.tmp 31) 26 23 (.slice none 0 0) 24 rfl Try.underlying26 info23 rfl (by decide) (by omega) u7 x7_1 y156 [.slice Ao18 y156.length co18] (fun _ => True) (fun k_ => some k_ = (.slice Ao18 y156.length co18 : Value).ownBlock) rfl rfl ?aP (fun k_ hk_ => ((Kd.R_mono (ok' := fun k_ => ((fun _ => True)) k_ ∧ some k_ ≠ (u7 : Value).ownBlock) (Kd.R_apart' (HO158.out) (Kd.S_typed HO_7.out) (by decide)) (fun k_ hk => ⟨trivial, hk.2⟩))).1 k_ hk_.symm) ?aF ?aO (Below.refl _ _) ?aS ?aL ?_; (case aP => exact Kd.M_row (Kd.R_mono (Kd.R_tight rfl (Kd.R_mono (ok' := fun k_ => ((fun _ => True)) k_ ∧ some k_ ≠ (u7 : Value).ownBlock) (Kd.R_apart' (HO158.out) (Kd.S_typed HO_7.out) (by decide)) (fun k_ hk => ⟨trivial, hk.2⟩))) (fun _ h_ => h_))); (case aF => exact (fun _ _ => trivial)); (case aO => exact (by (with_reducible repeat (first | apply Kd.S_alloc | apply Kd.S_drewN | apply Kd.S_drew)); exact Kd.S_mono HO_7.out (fun k_ hk => ⟨trivial, fun e_ => hk.2 e_⟩))); (case aS => exact (keep_size (w := w) (g := g) (row := none) (by repeat (first | (with_reducible first | exact HK.out | apply KeepBut.set_ | apply keep_drewN | apply keep_drew | apply keep_alloc) | exact HK.out)))); (case aL => have := LMc12.out; omega); intro v160 w17 ho hb hg hat; rw [← Ny159.out] at ho; have n0_ := xm (IsS40.grown (by repeat (first | (with_reducible first | exact HI0.out | apply IsS40.alloc | apply IsS40.drewN | apply IsS40.drew | apply IsS40.set_1 | apply IsS40.set_2) | exact HI0.out)) hg (IsS40.own_neS HI0.out HO_7.out (by decide))); have n1_ := xm (below_weaken (by repeat (first | (with_reducible first | exact HB.out | apply xa | apply xn | apply xd | refine xt ?_ (IsS40.ge HI0.out)) | exact HB.out)) HL.out hb); have n2_ := xm (KeepBut.trans (by repeat (first | (with_reducible first | exact HK.out | apply KeepBut.set_ | apply keep_drewN | apply keep_drew | apply keep_alloc) | exact HK.out)) (KeepBut.of_grown hg g) (Kd.S_base2 HO_7.out)); have n3_ := xm (ho); revert n0_ n1_ n2_ n3_; clear HI0 HB HK HO_7 HO158; intro HI0 HB HK HO161; clear ho hb hg hat))
       go_roundg kj5
       case measure => have := HK1.out; have := HJ5.out; omega
       case rel => exact ⟨(y159), (wrap64 (x8_1 - 1)), (t154), (t155), sB, H', ⟨by have := HK1.out; have := HJ5.out; omega⟩, ⟨tB HO161⟩, ⟨by repeat (first | (with_reducible first | exact HI0.out | apply IsS40.alloc | apply IsS40.drewN | apply IsS40.drew | apply IsS40.set_1 | apply IsS40.set_2) | exact HI0.out)⟩, ⟨by repeat (first | (with_reducible first | exact HK.out | apply KeepBut.set_ | apply keep_drewN | apply keep_drew | apply keep_alloc) | exact HK.out)⟩, ⟨by repeat (first | (with_reducible first | exact HB.out | apply xa | apply xn | apply xd | refine xt ?_ (IsS40.ge HI0.out)) | exact HB.out)⟩⟩
      ·rw [if_neg c12] at H
       exact absurd H (by simp)
     ·replace c9 := Bool.eq_false_iff.mpr c9
      subst c9
      have H1 : ((spec_l1Cur_one.f s0_0 x1001_1 x1002_1 40).bind fun bt162 => (if bt162.1 = true then (if x7_1.length < 5864062014805 then (some ((x7_1 ++ [(([0] : List Int))]), bt162.2.1, bt162.2.2)) else (none)) else (some (x7_1, bt162.2.1, bt162.2.2)))) = some (r1, r2, r3) := by first | (with_reducible rfl) | (rw [if_neg (show ¬ (false = true) by decide)] at H; exact H)
      clear H
      have H := H1
      clear H1
      replace H := Option.bind_eq_some_iff.mp H
      obtain ⟨⟨t162, t163, t164⟩, A190, H⟩ := H
      replace H : (if t162 = true then (if x7_1.length < 5864062014805 then (some ((x7_1 ++ [(([0] : List Int))]), t163, t164)) else (none)) else (some (x7_1, t163, t164))) = some (r1, r2, r3) := H
      have A19 := xm A190
      clear A190
      by_cases c20 : t162 = true
      ·subst c20
       have H1 : (if x7_1.length < 5864062014805 then (some ((x7_1 ++ [(([0] : List Int))]), t163, t164)) else (none)) = some (r1, r2, r3) := by first | (with_reducible rfl) | (rw [if_pos rfl] at H; exact H)
       clear H
       have H := H1
       clear H1
       obtain ⟨y165, hy165⟩ : ∃ y_ : List Int, y_ = (([0] : List Int)) := ⟨_, rfl⟩
       replace H : (if x7_1.length < 5864062014805 then (some ((x7_1 ++ [y165]), t163, t164)) else (none)) = some (r1, r2, r3) := by first | (rw [hy165]; with_reducible exact H) | (have H2_ := (Option.bind_some _ _).symm.trans H; rw [hy165]; with_reducible exact H2_) | (have H2_ := (Option.bind_some _ _).symm.trans H; with_reducible exact H2_) | with_reducible exact H | (rw [hy165]; exact H) | exact H
       have Ny165 := xm hy165
       clear hy165
       by_cases c21 : x7_1.length < 5864062014805
       ·rw [if_pos c21] at H
        have LMc21 := xm c21
        clear c21
        obtain ⟨y168, hy168⟩ : ∃ y_ : List (List Int), y_ = (x7_1 ++ [y165]) := ⟨_, rfl⟩
        replace H : (some (y168, t163, t164)) = some (r1, r2, r3) := by first | (rw [hy168]; with_reducible exact H) | (have H2_ := (Option.bind_some _ _).symm.trans H; rw [hy168]; with_reducible exact H2_) | (have H2_ := (Option.bind_some _ _).symm.trans H; with_reducible exact H2_) | with_reducible exact H | (rw [hy168]; exact H) | exact H
        have Ny168 := xm hy168
        clear hy168
        simp only [Option.some.injEq, Prod.mk.injEq] at H
        obtain ⟨rfl, rfl, rfl⟩ := H
        go_wp2_with (first | ((with_reducible refine gate_callee (f := 29) rfl ?_); refine goesL_ (some 34) rfl rfl Try.func29 (by kernel_rfl) rfl #[.pointer (some ⟨g, 0, none⟩), .int .i64 40] rfl mB ?_; (with_reducible refine (spec_l1Cur_one.calls g s0_0 x1001_1 x1002_1 40 true t163 t164 w0 _ ?side1 ?side2 A19.out).mono ?_); (case side1 => repeat (first | (with_reducible first | exact HI0.out | apply IsS40.alloc | apply IsS40.drewN | apply IsS40.drew | apply IsS40.set_1 | apply IsS40.set_2) | exact HI0.out)); (case side2 => repeat (first | (with_reducible first | exact HB.out | apply xa | apply xn | apply xd | refine xt ?_ (IsS40.ge HI0.out)) | exact HB.out)); rintro e w22 ⟨rfl, hi, hb, hk⟩; refine ⟨_, rfl, ?_⟩; have n0_ := xm (Kd.S_mono (Kd.S_keep (IsS40.apartS (show IsS40 w0 _ g s0_0 x1001_1 x1002_1 from by repeat (first | (with_reducible first | exact HI0.out | apply IsS40.alloc | apply IsS40.drewN | apply IsS40.drew | apply IsS40.set_1 | apply IsS40.set_2) | exact HI0.out)) (tB HO_7) (by decide)) hk (fun _ h => h.2)) (fun _ h => h.1)); have n1_ := xm (KeepBut.trans (by repeat (first | (with_reducible first | exact HK.out | apply KeepBut.set_ | apply keep_drewN | apply keep_drew | apply keep_alloc) | exact HK.out)) hk (.inl rfl)); have n2_ := xm (hb); have n3_ := xm (hi); revert n0_ n1_ n2_ n3_; clear HO_7 HK HB HI0; intro HO_7 HK HB HI0; (try clear hb); (try clear hk); (try clear hi)) | ((with_reducible refine gate_dst (N := 36) rfl ?_); refine Kd.R_lit (Kd.int .i64) _ 3 ?hg (N := 36) ?hd (xs := ([0] : List Int)) (inner := [.int .i64 0]) (ok := fun _ => True) (okp := fun _ => True) ?hr ?hp (fun _ hk => hk) trivial (Below.refl _ _) (Nat.le_refl _) (by simp) ?_; (case hd => rfl); (case hg => rfl); (case hr => exact zB); (case hp => exact (Reps.one (show Kd.M (Kd.int .i64) _ _ _ 0 [.int .i64 0] from rfl) (Reps.none _ _))); intro v166 w23 ho24 hb hg_ hnew_; clear hg_ hnew_; (first | rw [← Ny165.out] at ho24 | (simp only [Int.reduceToNat] at ho24; rw [← Ny165.out] at ho24)); have n0_ := xm (Kd.S_elder' (tB HO_7) (Kd.R_base ho24) hb); have n1_ := xm (Kd.R_lower ho24 (keep_size (w := w) (g := g) (row := none) (by repeat (first | (with_reducible first | exact HK.out | apply KeepBut.set_ | apply keep_drewN | apply keep_drew | apply keep_alloc) | exact HK.out)))); have n2_ := xm (IsS40.below (by repeat (first | (with_reducible first | exact HI0.out | apply IsS40.alloc | apply IsS40.drewN | apply IsS40.drew | apply IsS40.set_1 | apply IsS40.set_2) | exact HI0.out)) hb); have n3_ := xm (KeepBut.trans (by repeat (first | (with_reducible first | exact HK.out | apply KeepBut.set_ | apply keep_drewN | apply keep_drew | apply keep_alloc) | exact HK.out)) (KeepBut.of_below hb g none) (.inl rfl)); have n4_ := xm (below_step (by repeat (first | (with_reducible first | exact HB.out | apply xa | apply xn | apply xd | refine xt ?_ (IsS40.ge HI0.out)) | exact HB.out)) hb); revert n0_ n1_ n2_ n3_ n4_; clear HO_7 HI0 HK HB; intro HO_7 HO167 HI0 HK HB; clear hb ho24; obtain ⟨Ao26, co26, eo26⟩ := Kd.R_slice HO167.out; subst eo26) | ((with_reducible refine gate_builtin (b := .append) (xs := #[.tmp 35, .tmp 37]) rfl ?_); at_builtin; refine Kd.S_append (Kd.slice 3 (Kd.int .i64)) w.heap.size rfl (.tmp 35) (.tmp 37) 26 23 (.slice none 0 0) 24 rfl Try.underlying26 info23 rfl (by decide) (by omega) u7 x7_1 y165 [.slice Ao26 y165.length co26] (fun _ => True) (fun k_ => some k_ = (.slice Ao26 y165.length co26 : Value).ownBlock) rfl rfl ?aP (fun k_ hk_ => ((Kd.R_mono (ok' := fun k_ => ((fun _ => True)) k_ ∧ some k_ ≠ (u7 : Value).ownBlock) (Kd.R_apart' (HO167.out) (Kd.S_typed HO_7.out) (by decide)) (fun k_ hk => ⟨trivial, hk.2⟩))).1 k_ hk_.symm) ?aF ?aO (Below.refl _ _) ?aS ?aL ?_; (case aP => exact Kd.M_row (Kd.R_mono (Kd.R_tight rfl (Kd.R_mono (ok' := fun k_ => ((fun _ => True)) k_ ∧ some k_ ≠ (u7 : Value).ownBlock) (Kd.R_apart' (HO167.out) (Kd.S_typed HO_7.out) (by decide)) (fun k_ hk => ⟨trivial, hk.2⟩))) (fun _ h_ => h_))); (case aF => exact (fun _ _ => trivial)); (case aO => exact (by (with_reducible repeat (first | apply Kd.S_alloc | apply Kd.S_drewN | apply Kd.S_drew)); exact Kd.S_mono HO_7.out (fun k_ hk => ⟨trivial, fun e_ => hk.2 e_⟩))); (case aS => exact (keep_size (w := w) (g := g) (row := none) (by repeat (first | (with_reducible first | exact HK.out | apply KeepBut.set_ | apply keep_drewN | apply keep_drew | apply keep_alloc) | exact HK.out)))); (case aL => have := LMc21.out; omega); intro v169 w25 ho hb hg hat; rw [← Ny168.out] at ho; have n0_ := xm (IsS40.grown (by repeat (first | (with_reducible first | exact HI0.out | apply IsS40.alloc | apply IsS40.drewN | apply IsS40.drew | apply IsS40.set_1 | apply IsS40.set_2) | exact HI0.out)) hg (IsS40.own_neS HI0.out HO_7.out (by decide))); have n1_ := xm (below_weaken (by repeat (first | (with_reducible first | exact HB.out | apply xa | apply xn | apply xd | refine xt ?_ (IsS40.ge HI0.out)) | exact HB.out)) HL.out hb); have n2_ := xm (KeepBut.trans (by repeat (first | (with_reducible first | exact HK.out | apply KeepBut.set_ | apply keep_drewN | apply keep_drew | apply keep_alloc) | exact HK.out)) (KeepBut.of_grown hg g) (Kd.S_base2 HO_7.out)); have n3_ := xm (ho); revert n0_ n1_ n2_ n3_; clear HI0 HB HK HO_7 HO167; intro HI0 HB HK HO170; clear ho hb hg hat))
        go_ret
        exact ⟨_, eB, tB HO170, by repeat (first | (with_reducible first | exact HI0.out | apply IsS40.alloc | apply IsS40.drewN | apply IsS40.drew | apply IsS40.set_1 | apply IsS40.set_2) | exact HI0.out), by repeat (first | (with_reducible first | exact HB.out | apply xa | apply xn | apply xd | refine xt ?_ (IsS40.ge HI0.out)) | exact HB.out), by repeat (first | (with_reducible first | exact HK.out | apply KeepBut.set_ | apply keep_drewN | apply keep_drew | apply keep_alloc) | exact HK.out)⟩
       ·rw [if_neg c21] at H
        exact absurd H (by simp)
      ·replace c20 := Bool.eq_false_iff.mpr c20
       subst c20
       have H1 : (some (x7_1, t163, t164)) = some (r1, r2, r3) := by first | (with_reducible rfl) | (rw [if_neg (show ¬ (false = true) by decide)] at H; exact H)
       clear H
       have H := H1
       clear H1
       simp only [Option.some.injEq, Prod.mk.injEq] at H
       obtain ⟨rfl, rfl, rfl⟩ := H
       go_wp2_with (first | ((with_reducible refine gate_callee (f := 29) rfl ?_); refine goesL_ (some 34) rfl rfl Try.func29 (by kernel_rfl) rfl #[.pointer (some ⟨g, 0, none⟩), .int .i64 40] rfl mB ?_; (with_reducible refine (spec_l1Cur_one.calls g s0_0 x1001_1 x1002_1 40 false t163 t164 w0 _ ?side1 ?side2 A19.out).mono ?_); (case side1 => repeat (first | (with_reducible first | exact HI0.out | apply IsS40.alloc | apply IsS40.drewN | apply IsS40.drew | apply IsS40.set_1 | apply IsS40.set_2) | exact HI0.out)); (case side2 => repeat (first | (with_reducible first | exact HB.out | apply xa | apply xn | apply xd | refine xt ?_ (IsS40.ge HI0.out)) | exact HB.out)); rintro e w27 ⟨rfl, hi, hb, hk⟩; refine ⟨_, rfl, ?_⟩; have n0_ := xm (Kd.S_mono (Kd.S_keep (IsS40.apartS (show IsS40 w0 _ g s0_0 x1001_1 x1002_1 from by repeat (first | (with_reducible first | exact HI0.out | apply IsS40.alloc | apply IsS40.drewN | apply IsS40.drew | apply IsS40.set_1 | apply IsS40.set_2) | exact HI0.out)) (tB HO_7) (by decide)) hk (fun _ h => h.2)) (fun _ h => h.1)); have n1_ := xm (KeepBut.trans (by repeat (first | (with_reducible first | exact HK.out | apply KeepBut.set_ | apply keep_drewN | apply keep_drew | apply keep_alloc) | exact HK.out)) hk (.inl rfl)); have n2_ := xm (hb); have n3_ := xm (hi); revert n0_ n1_ n2_ n3_; clear HO_7 HK HB HI0; intro HO_7 HK HB HI0; (try clear hb); (try clear hk); (try clear hi)))
       go_ret
       exact ⟨_, eB, tB HO_7, by repeat (first | (with_reducible first | exact HI0.out | apply IsS40.alloc | apply IsS40.drewN | apply IsS40.drew | apply IsS40.set_1 | apply IsS40.set_2) | exact HI0.out), by repeat (first | (with_reducible first | exact HB.out | apply xa | apply xn | apply xd | refine xt ?_ (IsS40.ge HI0.out)) | exact HB.out), by repeat (first | (with_reducible first | exact HK.out | apply KeepBut.set_ | apply keep_drewN | apply keep_drew | apply keep_alloc) | exact HK.out)⟩

/-! ### spec_DrawJoinRows: function 4 -/
/-- The cursor's box and the boxes of two answers, between the calls. -/
def DstJ (w W : World) (g g2 g3 : Nat) (l0 : List Int) (x y : Int) : Prop := IsS40 w W g l0 x y ∧ Below w.heap.size w W ∧ W.heap[g2]? = some (.cells #[.slice none 0 0] 25 (0, 0)) ∧ W.heap[g3]? = some (.cells #[.slice none 0 0] 25 (0, 0)) ∧ (w.heap.size ≤ g2 ∧ w.heap.size ≤ g3 ∧ g2 ≠ g3 ∧ g2 ≠ g ∧ g3 ≠ g)
theorem DstJ.isS {w W : World} {g g2 g3 : Nat} {l0 : List Int} {x y : Int} (h : DstJ w W g g2 g3 l0 x y) : IsS40 w W g l0 x y := h.1
theorem DstJ.bel {w W : World} {g g2 g3 : Nat} {l0 : List Int} {x y : Int} (h : DstJ w W g g2 g3 l0 x y) : Below w.heap.size w W := h.2.1
theorem DstJ.ltS {w W : World} {g g2 g3 : Nat} {l0 : List Int} {x y : Int} (h : DstJ w W g g2 g3 l0 x y) : g < W.heap.size ∧ g2 < W.heap.size ∧ g3 < W.heap.size := ⟨h.1.lt, blk_lt h.2.2.1, blk_lt h.2.2.2.1⟩
theorem DstJ.below {w W W1 : World} {g g2 g3 : Nat} {l0 : List Int} {x y : Int} (h : DstJ w W g g2 g3 l0 x y) (hb : Below W.heap.size W W1) : DstJ w W1 g g2 g3 l0 x y := ⟨h.1.below hb, below_step h.2.1 hb, blk_below h.2.2.1 hb, blk_below h.2.2.2.1 hb, h.2.2.2.2⟩
theorem DstJ.drewN {w W : World} {g g2 g3 : Nat} {l0 : List Int} {x y : Int} (h : DstJ w W g g2 g3 l0 x y) (m : Nat) : DstJ w (W.drewN m) g g2 g3 l0 x y := ⟨h.1.drewN m, xn h.2.1 m, xq h.2.2.1 m, xq h.2.2.2.1 m, h.2.2.2.2⟩
theorem DstJ.drew {w W : World} {g g2 g3 : Nat} {l0 : List Int} {x y : Int} (h : DstJ w W g g2 g3 l0 x y) : DstJ w W.drew g g2 g3 l0 x y := ⟨h.1.drew, xd h.2.1, xr h.2.2.1, xr h.2.2.2.1, h.2.2.2.2⟩
theorem DstJ.call {w W W1 : World} {g g2 g3 : Nat} {l0 : List Int} {x y x' y' : Int} (h : DstJ w W g g2 g3 l0 x y) (hi : IsS40 w W1 g l0 x' y') (hb : Below w.heap.size w W1) (hk : KeepBut W W1 g none) : DstJ w W1 g g2 g3 l0 x' y' := ⟨hi, hb, hk.blk h.2.2.1 h.2.2.2.2.2.2.2.1 (by simp), hk.blk h.2.2.2.1 h.2.2.2.2.2.2.2.2 (by simp), h.2.2.2.2⟩
theorem DstJ.far {w W : World} {g g2 g3 : Nat} {l0 : List Int} {x y : Int} (h : DstJ w W g g2 g3 l0 x y) {q : Nat} (hq : w.heap.size ≤ q ∧ q ≠ g ∧ q ≠ g2 ∧ q ≠ g3) (v : Value) : DstJ w (W.setCell ⟨q, 0, none⟩ v) g g2 g3 l0 x y := ⟨h.1.far (Ne.symm hq.2.1) v, h.2.1.setCell (p := ⟨q, 0, none⟩) hq.1 v, blk_far (p := ⟨q, 0, none⟩) h.2.2.1 (Ne.symm hq.2.2.1) v, blk_far (p := ⟨q, 0, none⟩) h.2.2.2.1 (Ne.symm hq.2.2.2) v, h.2.2.2.2⟩
theorem results_cct {P : Program} {fn : Func} {p p' u : Tmp} {ty ty' : TypeId} (h : fn.results = #[.cell p ty, .cell p' ty', .tmp u]) (tmps : Array Value) (w : World) (g g' : Nat) (t t' : TypeId) (cs cs' : Array Value) (fr fr' : Nat × Nat) (d d' : TypeDesc)
  (hp : tmps.getD p undef = .pointer (some ⟨g, 0, none⟩)) (hg : w.heap[g]? = some (.cells cs t fr))
  (hu : P.underlying ty = some d) (hd : (match d with | .struct _ | .array _ _ => true | _ => false) = true) (hi : (P.info? ty).map (·.size) = some cs.size)
  (hp' : tmps.getD p' undef = .pointer (some ⟨g', 0, none⟩)) (hg' : w.heap[g']? = some (.cells cs' t' fr'))
  (hu' : P.underlying ty' = some d') (hd' : (match d' with | .struct _ | .array _ _ => true | _ => false) = true) (hi' : (P.info? ty').map (·.size) = some cs'.size) :
  (results fn tmps).run P w = .ok (.tuple #[.agg cs, .agg cs', tmps.getD u undef]) w := by
 have h1 : tmps[p]?.getD undef = .pointer (some ⟨g, 0, none⟩) := by simpa using hp
 have h2 : tmps[p']?.getD undef = .pointer (some ⟨g', 0, none⟩) := by simpa using hp'
 simp [results, h, h1, h2, asAddr, run_loadVar_row w g t ty cs fr d hg hu hd hi, run_loadVar_row w g' t' ty' cs' fr' d' hg' hu' hd' hi']
def spec_DrawJoinRows.f (k : Nat) (l0 : List Int) : Option (List Int × List Int × List (List Int)) :=
 (spec_l1Cur_width.f l0 0 0).bind fun t => (spec_l1Cur_row.f k l0 t.2.1 t.2.2 t.1).bind fun u => (spec_l1Cur_width.f l0 u.2.1 u.2.2).bind fun p => (spec_l1Cur_row.f k l0 p.2.1 p.2.2 p.1).bind fun q => (spec_l1Cur_pairs.f k l0 q.2.1 q.2.2 (u.1.length : Int) (q.1.length : Int)).bind fun s => some (u.1, q.1, s.1)
theorem spec_DrawJoinRows.mono : ∀ a0 k, LeO (spec_DrawJoinRows.f k a0) (spec_DrawJoinRows.f (k + 1) a0) := fun a0 k =>
 LeO.bind (LeO.refl _) fun t => LeO.bind (spec_l1Cur_row.mono _ _ _ _ k) fun u => LeO.bind (LeO.refl _) fun p => LeO.bind (spec_l1Cur_row.mono _ _ _ _ k) fun q => LeO.bind (spec_l1Cur_pairs.mono _ _ _ _ _ k) fun s => LeO.refl _
set_option maxHeartbeats 8000000 in
set_option maxRecDepth 100000 in
theorem spec_DrawJoinRows.calls (k : Nat) (A0 : Option Addr) (c0 : Nat) (l0 : List Int) (r1 : List Int) (r2 : List Int) (r3 : List (List Int)) (w : World) (hr0 : Kd.C (Kd.int .u8) w A0 l0.length l0) (hc0 : l0.length ≤ c0) (h : spec_DrawJoinRows.f k l0 = some (r1, r2, r3)) :
  Calls Try.prog 4 #[.slice A0 l0.length c0] w fun e w' => ∃ v0_ v1_ v2_ : Value, e = .returned (.tuple #[.agg #[v0_], .agg #[v1_], v2_]) ∧ Kd.R (Kd.int .i64) 3 w' w.heap.size (fun k_ => some k_ ≠ (v1_ : Value).ownBlock) v0_ r1 ∧ Kd.R (Kd.int .i64) 3 w' w.heap.size (fun k_ => some k_ ≠ (v0_ : Value).ownBlock) v1_ r2 ∧ Kd.S (Kd.slice 3 (Kd.int .i64)) 23 w' w.heap.size (fun k_ => (some k_ ≠ (v0_ : Value).ownBlock ∧ some k_ ≠ (v1_ : Value).ownBlock)) v2_ r3 ∧ Below w.heap.size w w' := by
 have hu41 := Try.underlying40
 have hu25 := Try.underlying25
 obtain ⟨⟨t1, t2, t3⟩, a1, H⟩ := Option.bind_eq_some_iff.mp h
 obtain ⟨⟨u1, u2, u3⟩, a2, H⟩ := Option.bind_eq_some_iff.mp H
 obtain ⟨⟨p1, p2, p3⟩, a3, H⟩ := Option.bind_eq_some_iff.mp H
 obtain ⟨⟨q1, q2, q3⟩, a4, H⟩ := Option.bind_eq_some_iff.mp H
 obtain ⟨⟨s1, s2, s3⟩, a5, H⟩ := Option.bind_eq_some_iff.mp H
 have A1 := xm a1
 have A2 := xm a2
 have A3 := xm a3
 have A4 := xm a4
 have A5 := xm a5
 have HR := xm hr0
 have HB := xm (Below.refl w.heap.size w)
 clear h a1 a2 a3 a4 a5 hr0 hc0
 obtain ⟨rfl, rfl, rfl⟩ : u1 = r1 ∧ q1 = r2 ∧ s1 = r3 := by
  have H2 := Option.some.inj (show some (u1, q1, s1) = some (r1, r2, r3) from H)
  exact ⟨congrArg (·.1) H2, congrArg (·.2.1) H2, congrArg (·.2.2) H2⟩
 clear H
 go_enter Try.func4, Try.ntmps4
 go_wp2_with (first
  | ((with_reducible refine gate_dst (N := 2) rfl ?_); refine box_event ?hg (N := 2) ?hd (cs := #[.slice none 0 0]) (t := 25) ?hr ?_; (case hd => rfl); (case hg => rfl); (case hr => first | (go_simp; done) | (go_simp; rfl) | exact zB); intro g2 hg w1 hbox hb; have n1_ := xm (below_step bB hb); have n2_ := xm hbox; have n3_ := xm (show w.heap.size ≤ g2 from by rw [hg]; exact xz bB); clear HB hbox hb hg; revert n1_ n2_ n3_; intro HB B2 G2)
  | ((with_reducible refine gate_dst (N := 3) rfl ?_); refine box_event ?hg (N := 3) ?hd (cs := #[.slice none 0 0]) (t := 25) ?hr ?_; (case hd => rfl); (case hg => rfl); (case hr => first | (go_simp; done) | (go_simp; rfl) | exact zB); intro g3 hg w1 hbox hb; have n0_ := xm (blk_below (by (with_reducible repeat (first | refine xq ?_ _ | refine xr ?_ | refine xo ?_ _)); exact B2.out) hb); have n1_ := xm (below_step bB hb); have n2_ := xm hbox; have n3_ := xm (show w.heap.size ≤ g3 from by rw [hg]; exact xz bB); have n4_ := xm (show g2 ≠ g3 from by rw [hg]; exact Nat.ne_of_lt (blk_lt (by (with_reducible repeat (first | refine xq ?_ _ | refine xr ?_ | refine xo ?_ _)); exact B2.out))); clear B2 HB hbox hb hg; revert n0_ n1_ n2_ n3_ n4_; intro B2 HB B3 G3 N23)
  | ((with_reducible refine gate_dst (N := 10) rfl ?_); refine box_event ?hg (N := 10) ?hd (cs := #[.slice A0 l0.length c0, .int .i64 0, .int .u64 0]) (t := 40) ?hr ?_; (case hd => rfl); (case hg => rfl); (case hr => exact zB); intro g hg w1 hbox hb; have n0_ := xm (show DstJ w w1 g g2 g3 l0 0 0 from ⟨⟨A0, c0, hbox, by rw [hg]; exact xz bB, HR.out⟩, below_step bB hb, blk_below (by (with_reducible repeat (first | refine xq ?_ _ | refine xr ?_ | refine xo ?_ _)); exact B2.out) hb, blk_below (by (with_reducible repeat (first | refine xq ?_ _ | refine xr ?_ | refine xo ?_ _)); exact B3.out) hb, G2.out, G3.out, N23.out, by rw [hg]; exact Nat.ne_of_lt (blk_lt (by (with_reducible repeat (first | refine xq ?_ _ | refine xr ?_ | refine xo ?_ _)); exact B2.out)), by rw [hg]; exact Nat.ne_of_lt (blk_lt (by (with_reducible repeat (first | refine xq ?_ _ | refine xr ?_ | refine xo ?_ _)); exact B3.out))⟩); clear HB B2 B3 hbox hb hg; revert n0_; intro HD)
  | ((with_reducible refine gate_callee (f := 13) rfl ?_); refine goesL_ (some 13) rfl rfl Try.func13 (by kernel_rfl) rfl #[.pointer (some ⟨g, 0, none⟩)] rfl mB ?_; refine (spec_l1Cur_width.calls g l0 0 0  t1 t2 t3 w _ ?side1 ?side2 A1.out).mono ?_; (case side1 => exact DstJ.isS (by repeat (first | (with_reducible first | exact HD.out | apply DstJ.drewN | apply DstJ.drew) | exact HD.out))); (case side2 => exact DstJ.bel (by repeat (first | (with_reducible first | exact HD.out | apply DstJ.drewN | apply DstJ.drew) | exact HD.out))); rintro e wz ⟨rfl, hi, hb, hk⟩; refine ⟨_, rfl, ?_⟩; have n0_ := xm (DstJ.call (by repeat (first | (with_reducible first | exact HD.out | apply DstJ.drewN | apply DstJ.drew) | exact HD.out)) hi hb hk); clear HD hi hb; revert n0_; intro HD; clear hk)
  | ((with_reducible refine gate_callee (f := 12) rfl ?_); refine goesL_ (some 14) rfl rfl Try.func12 (by kernel_rfl) rfl #[.pointer (some ⟨g, 0, none⟩), .int .i64 t1] rfl mB ?_; refine (spec_l1Cur_row.calls k g l0 t2 t3 t1 u1 u2 u3 w _ ?side1 ?side2 A2.out).mono ?_; (case side1 => exact DstJ.isS (by repeat (first | (with_reducible first | exact HD.out | apply DstJ.drewN | apply DstJ.drew) | exact HD.out))); (case side2 => exact DstJ.bel (by repeat (first | (with_reducible first | exact HD.out | apply DstJ.drewN | apply DstJ.drew) | exact HD.out))); rintro e wz ⟨v0_, rfl, ho, hi, hb, hk⟩; refine ⟨_, rfl, ?_⟩; obtain ⟨AHO, cHO, eo⟩ := Kd.R_slice ho; subst eo; have n0_ := xm (DstJ.call (by repeat (first | (with_reducible first | exact HD.out | apply DstJ.drewN | apply DstJ.drew) | exact HD.out)) hi hb hk); have n1_ := xm (Kd.R_lower ho (xz (DstJ.bel (by repeat (first | (with_reducible first | exact HD.out | apply DstJ.drewN | apply DstJ.drew) | exact HD.out))))); clear HD hi hb hk ho; revert n0_ n1_; intro HD HO)
  | ((with_reducible refine gate_dst (N := 6) rfl ?_); refine box_event ?hg (N := 6) ?hd (cs := #[.slice none 0 0]) (t := 25) ?hr ?_; (case hd => rfl); (case hg => rfl); (case hr => first | (go_simp; done) | (go_simp; rfl) | exact zB); intro g6 hg w1 hbox hb; have n0_ := xm (DstJ.below (by repeat (first | (with_reducible first | exact HD.out | apply DstJ.drewN | apply DstJ.drew) | exact HD.out)) hb); have n1_ := xm (Kd.R_below (by (with_reducible repeat (first | apply Kd.R_alloc | apply Kd.R_drewN | apply Kd.R_drew)); exact HO.out) hb); have n2_ := xm hbox; have n3_ := xm (show w.heap.size ≤ g6 ∧ g6 ≠ g ∧ g6 ≠ g2 ∧ g6 ≠ g3 from ⟨by rw [hg]; exact xz (DstJ.bel (by repeat (first | (with_reducible first | exact HD.out | apply DstJ.drewN | apply DstJ.drew) | exact HD.out))), by rw [hg]; exact Nat.ne_of_gt (DstJ.ltS (by repeat (first | (with_reducible first | exact HD.out | apply DstJ.drewN | apply DstJ.drew) | exact HD.out))).1, by rw [hg]; exact Nat.ne_of_gt (DstJ.ltS (by repeat (first | (with_reducible first | exact HD.out | apply DstJ.drewN | apply DstJ.drew) | exact HD.out))).2.1, by rw [hg]; exact Nat.ne_of_gt (DstJ.ltS (by repeat (first | (with_reducible first | exact HD.out | apply DstJ.drewN | apply DstJ.drew) | exact HD.out))).2.2⟩); clear HD HO hbox hb hg; revert n0_ n1_ n2_ n3_; intro HD HO B6 G6; obtain ⟨hc6, hf6⟩ := cz1 B6.out)
  | ((with_reducible refine gate_callee (f := 13) rfl ?_); refine goesL_ (some 17) rfl rfl Try.func13 (by kernel_rfl) rfl #[.pointer (some ⟨g, 0, none⟩)] rfl mB ?_; refine (spec_l1Cur_width.calls g l0 u2 u3 p1 p2 p3 w _ ?side1 ?side2 A3.out).mono ?_; (case side1 => exact (by (with_reducible repeat (first | apply DstJ.drewN | apply DstJ.drew)); exact DstJ.far HD.out G6.out _ : DstJ w _ g g2 g3 l0 u2 u3).1); (case side2 => exact (by (with_reducible repeat (first | apply DstJ.drewN | apply DstJ.drew)); exact DstJ.far HD.out G6.out _ : DstJ w _ g g2 g3 l0 u2 u3).2.1); rintro e wz ⟨rfl, hi, hb, hk⟩; refine ⟨_, rfl, ?_⟩; have n0_ := xm (DstJ.call (by (with_reducible repeat (first | apply DstJ.drewN | apply DstJ.drew)); exact DstJ.far HD.out G6.out _) hi hb hk); have n1_ := xm (KeepBut.blk hk (by (with_reducible repeat (first | refine xq ?_ _ | refine xr ?_)); exact blk_put B6.out 0 (.slice AHO u1.length cHO) rfl) G6.out.2.1 (by simp)); have n2_ := xm (Kd.R_mono (Kd.R_keep (ok := fun k_ => (True ∧ k_ ≠ g6) ∧ k_ ≠ g) (g := g) (by (with_reducible repeat (first | apply Kd.R_drewN | apply Kd.R_drew)); exact Kd.R_far (p := ⟨g6, 0, none⟩) (HD.out.1.apart (Kd.R_types HO.out B6.out (by decide)) (by decide)) (fun k_ h_ => h_.1.2) (.slice AHO u1.length cHO)) hk (fun k_ h_ => h_.2)) (ok' := fun _ => True) (fun _ _ => trivial)); clear HD B6 HO hi hb hk hc6 hf6; revert n0_ n1_ n2_; intro HD B6 HO)
  | ((with_reducible refine gate_callee (f := 12) rfl ?_); refine goesL_ (some 18) rfl rfl Try.func12 (by kernel_rfl) rfl #[.pointer (some ⟨g, 0, none⟩), .int .i64 p1] rfl mB ?_; refine (spec_l1Cur_row.calls k g l0 p2 p3 p1 q1 q2 q3 w _ ?side1 ?side2 A4.out).mono ?_; (case side1 => exact DstJ.isS (by repeat (first | (with_reducible first | exact HD.out | apply DstJ.drewN | apply DstJ.drew) | exact HD.out))); (case side2 => exact DstJ.bel (by repeat (first | (with_reducible first | exact HD.out | apply DstJ.drewN | apply DstJ.drew) | exact HD.out))); rintro e wz ⟨v0_, rfl, ho, hi, hb, hk⟩; refine ⟨_, rfl, ?_⟩; obtain ⟨AHP, cHP, eo⟩ := Kd.R_slice ho; subst eo; have n0_ := xm (DstJ.call (by repeat (first | (with_reducible first | exact HD.out | apply DstJ.drewN | apply DstJ.drew) | exact HD.out)) hi hb hk); have n1_ := xm (KeepBut.blk hk (by (with_reducible repeat (first | refine xq ?_ _ | refine xr ?_ | refine xo ?_ _)); exact B6.out) G6.out.2.1 (by simp)); have n2_ := xm (Kd.R_mono (old_apart (by (with_reducible repeat (first | apply Kd.R_drewN | apply Kd.R_drew)); exact HD.out.1.apart HO.out (by decide)) hk ho) (ok' := fun k_ => some k_ ≠ (.slice AHP q1.length cHP : Value).ownBlock) (fun _ h_ => h_.2)); have n3_ := xm (Kd.R_mono (Kd.R_lower (Kd.R_new' ho (Kd.R_lt (by (with_reducible repeat (first | apply Kd.R_alloc | apply Kd.R_drewN | apply Kd.R_drew)); exact HO.out))) (xz (DstJ.bel (by repeat (first | (with_reducible first | exact HD.out | apply DstJ.drewN | apply DstJ.drew) | exact HD.out))))) (ok' := fun k_ => some k_ ≠ (.slice AHO u1.length cHO : Value).ownBlock) (fun _ h_ => h_.2)); clear HD B6 HO hi hb hk ho; revert n0_ n1_ n2_ n3_; intro HD B6 HO HP)
  | ((with_reducible refine gate_dst (N := 7) rfl ?_); refine box_event ?hg (N := 7) ?hd (cs := #[.slice none 0 0]) (t := 25) ?hr ?_; (case hd => rfl); (case hg => rfl); (case hr => first | (go_simp; done) | (go_simp; rfl) | exact zB); intro g7 hg w1 hbox hb; have n0_ := xm (DstJ.below (by repeat (first | (with_reducible first | exact HD.out | apply DstJ.drewN | apply DstJ.drew) | exact HD.out)) hb); have n1_ := xm (Kd.R_below (by (with_reducible repeat (first | apply Kd.R_alloc | apply Kd.R_drewN | apply Kd.R_drew)); exact HO.out) hb); have n2_ := xm (Kd.R_below (by (with_reducible repeat (first | apply Kd.R_alloc | apply Kd.R_drewN | apply Kd.R_drew)); exact HP.out) hb); have n3_ := xm (blk_below (by (with_reducible repeat (first | refine xq ?_ _ | refine xr ?_ | refine xo ?_ _)); exact B6.out) hb); have n4_ := xm hbox; have n5_ := xm (show w.heap.size ≤ g7 ∧ g7 ≠ g ∧ g7 ≠ g2 ∧ g7 ≠ g3 ∧ g7 ≠ g6 from ⟨by rw [hg]; exact xz (DstJ.bel (by repeat (first | (with_reducible first | exact HD.out | apply DstJ.drewN | apply DstJ.drew) | exact HD.out))), by rw [hg]; exact Nat.ne_of_gt (DstJ.ltS (by repeat (first | (with_reducible first | exact HD.out | apply DstJ.drewN | apply DstJ.drew) | exact HD.out))).1, by rw [hg]; exact Nat.ne_of_gt (DstJ.ltS (by repeat (first | (with_reducible first | exact HD.out | apply DstJ.drewN | apply DstJ.drew) | exact HD.out))).2.1, by rw [hg]; exact Nat.ne_of_gt (DstJ.ltS (by repeat (first | (with_reducible first | exact HD.out | apply DstJ.drewN | apply DstJ.drew) | exact HD.out))).2.2, by rw [hg]; exact Nat.ne_of_gt (blk_lt (by (with_reducible repeat (first | refine xq ?_ _ | refine xr ?_ | refine xo ?_ _)); exact B6.out))⟩); clear HD HO HP B6 hbox hb hg; revert n0_ n1_ n2_ n3_ n4_ n5_; intro HD HO HP B6 B7 G7; obtain ⟨hc7, hf7⟩ := cz1 B7.out))
 have n0_ := xm (DstJ.drew (DstJ.far HD.out ⟨G7.out.1, G7.out.2.1, G7.out.2.2.1, G7.out.2.2.2.1⟩ (.slice AHP q1.length cHP)))
 have n1_ := xm (Kd.R_drew (Kd.R_mono (ok' := fun k_ => some k_ ≠ (.slice AHP q1.length cHP : Value).ownBlock) (Kd.R_far (p := ⟨g7, 0, none⟩) (Kd.R_types HO.out B7.out (by decide)) (fun k_ h_ => h_.2) (.slice AHP q1.length cHP)) (fun _ h_ => h_.1)))
 have n2_ := xm (Kd.R_drew (Kd.R_mono (ok' := fun k_ => some k_ ≠ (.slice AHO u1.length cHO : Value).ownBlock) (Kd.R_far (p := ⟨g7, 0, none⟩) (Kd.R_types HP.out B7.out (by decide)) (fun k_ h_ => h_.2) (.slice AHP q1.length cHP)) (fun _ h_ => h_.1)))
 have n3_ := xm (xr (blk_far (p := ⟨g7, 0, none⟩) B6.out (Ne.symm G7.out.2.2.2.2) (.slice AHP q1.length cHP)))
 have n4_ := xm (xr (blk_put B7.out 0 (.slice AHP q1.length cHP) rfl))
 refine start_ (n := 13) (S := fun w' => w'.cell? ⟨g6, 0, none⟩ = some (.slice AHO u1.length cHO) ∧ w'.cell? ⟨g7, 0, none⟩ = some (.slice AHP q1.length cHP)) (ds := [11]) #[Z,Z,Z,Z,Z,Z,Z,Z,Z,Z,Z,Z,Z] (by kernel_rfl) rfl rfl ⟨(xc n3_.out 0).trans rfl, (xc n4_.out 0).trans rfl⟩ (fun hHeld => ?_)
 clear HD HO HP B6 B7 hc7 hf7
 revert n0_ n1_ n2_ n3_ n4_; intro HD HO HP B6 B7
 generalize World.drew _ = wu at HD HO HP B6 B7 hHeld ⊢
 refine tx 0 13 1 rfl rfl (by kernel_rfl) hHeld (by rintro w' ⟨s0, s1⟩; go_simp; with_reducible rfl) ?_
 refine tx 1 13 3 rfl rfl (by kernel_rfl) hHeld (by rintro w' ⟨s0, s1⟩; go_simp; with_reducible rfl) ?_
 refine px 2 13 7 (by kernel_rfl) ?_
 refine px 3 13 15 (by kernel_rfl) ?_
 refine tx 4 13 31 rfl rfl (by kernel_rfl) hHeld (by rintro w' ⟨s0, s1⟩; go_simp; with_reducible rfl) ?_
 refine px 5 13 63 (by kernel_rfl) ?_
 refine px 6 13 127 (by kernel_rfl) ?_
 refine tx 7 13 255 rfl rfl (by kernel_rfl) hHeld (by rintro w' ⟨s0, s1⟩; go_simp; with_reducible rfl) ?_
 refine px 8 13 511 (by kernel_rfl) ?_
 refine one_ (i := 9) (N := some 28) #[Y,Y,Y,Y,Y,Y,Y,Y,Y,Y,Z,Z,Z] rfl rfl (by kernel_rfl) (by decide) (fun K hK => ?_)
 refine goes_ Try.func14 (by kernel_rfl) rfl #[.pointer (some ⟨g, 0, none⟩), .int .i64 (u1.length : Int), .int .i64 (q1.length : Int)] (by rfl) rfl rfl mB ?_
 refine (spec_l1Cur_pairs.calls k g l0 q2 q3 (u1.length : Int) (q1.length : Int) s1 s2 s3 w _ HD.out.1 HD.out.2.1 A5.out).mono ?_
 rintro e wx ⟨v0_, rfl, ho, hi, hb, hk⟩
 refine ⟨_, rfl, ?_⟩
 have n0_ := xm (DstJ.call HD.out hi hb hk)
 have n1_ := xm (Kd.R_mono (Kd.R_keep (ok := fun k_ => some k_ ≠ (.slice AHP q1.length cHP : Value).ownBlock ∧ k_ ≠ g) (g := g) (HD.out.1.apart HO.out (by decide)) hk (fun k_ h_ => h_.2)) (ok' := fun k_ => some k_ ≠ (.slice AHP q1.length cHP : Value).ownBlock) (fun _ h_ => h_.1))
 have n2_ := xm (Kd.R_mono (Kd.R_keep (ok := fun k_ => some k_ ≠ (.slice AHO u1.length cHO : Value).ownBlock ∧ k_ ≠ g) (g := g) (HD.out.1.apart HP.out (by decide)) hk (fun k_ h_ => h_.2)) (ok' := fun k_ => some k_ ≠ (.slice AHO u1.length cHO : Value).ownBlock) (fun _ h_ => h_.1))
 have n3_ := xm (KeepBut.blk hk B6.out G6.out.2.1 (by simp))
 have n4_ := xm (KeepBut.blk hk B7.out G7.out.2.1 (by simp))
 have n5_ := xm (Kd.S_mono (ok' := fun k_ => (some k_ ≠ (.slice AHO u1.length cHO : Value).ownBlock ∧ some k_ ≠ (.slice AHP q1.length cHP : Value).ownBlock)) (Kd.S_lower (Kd.S_new' (Kd.S_new' ho (Kd.R_lt HO.out)) (Kd.R_lt HP.out)) (xz HD.out.2.1)) (fun _ h_ => ⟨h_.1.2, h_.2⟩))
 clear HD HO HP B6 B7 hi hb hk ho hHeld
 revert n0_ n1_ n2_ n3_ n4_ n5_; intro HD HO HP B6 B7 HS
 refine hK.out _ _ ⟨(xc B6.out 0).trans rfl, (xc B7.out 0).trans rfl⟩ (fun hHeld => nC ?_)
 clear hK K
 obtain ⟨hc2, hf2⟩ := cz1 HD.out.2.2.1
 obtain ⟨hc3, hf3⟩ := cz1 HD.out.2.2.2.1
 have n23 := HD.out.2.2.2.2.2.2.1
 have n32 := Ne.symm n23
 refine one_ (i := 10) (N := none) #[Y,Y,Y,Y,Y,Y,Y,Y,Y,Y,Y,Z,Z] rfl rfl (by kernel_rfl) (by decide) (fun K hK => ?_)
 refine skip_ (by rfl) rfl (w1 := wx.setCell ⟨g2, 0, none⟩ (.slice AHO u1.length cHO)) zB ?_
 refine hK.out _ _ ⟨(xc (blk_far (p := ⟨g2, 0, none⟩) B6.out G6.out.2.2.1 (.slice AHO u1.length cHO)) 0).trans rfl, (xc (blk_far (p := ⟨g2, 0, none⟩) B7.out G7.out.2.2.1 (.slice AHO u1.length cHO)) 0).trans rfl⟩ (fun hHeld2 => ?_)
 clear hK K
 refine last_ (i := 11) (N := none) #[Y,Y,Y,Y,Y,Y,Y,Y,Y,Y,Y,Y,Z] rfl rfl (by kernel_rfl) (by decide) (fun K hK => ?_)
 refine skip_ (by rfl) rfl (w1 := (wx.setCell ⟨g2, 0, none⟩ (.slice AHO u1.length cHO)).setCell ⟨g3, 0, none⟩ (.slice AHP q1.length cHP)) zB ?_
 refine hK.out _ _ ?_
 clear hK K
 refine px 12 13 8191 (by kernel_rfl) ?_
 refine done_ (by kernel_rfl) ?_
 clear hc2 hf2 hc3 hf3
 have e2 := blk_far (p := ⟨g3, 0, none⟩) (blk_put HD.out.2.2.1 0 (.slice AHO u1.length cHO) rfl) n23 (.slice AHP q1.length cHP)
 have e3 := blk_put (blk_far (p := ⟨g2, 0, none⟩) HD.out.2.2.2.1 n32 (.slice AHO u1.length cHO)) 0 (.slice AHP q1.length cHP) rfl
 go_wp2
 refine bodyPost_ret (results_cct rfl _ _ g2 g3 25 25 #[.slice AHO u1.length cHO] #[.slice AHP q1.length cHP] (0, 0) (0, 0) _ _ rfl e2 hu25 rfl (by kernel_rfl) rfl e3 hu25 rfl (by kernel_rfl)) rfl ?_
 have far : ∀ {u v : Value} {xs : List Int}, Kd.R (Kd.int .i64) 3 wx w.heap.size (fun k_ => some k_ ≠ u.ownBlock) v xs → Kd.R (Kd.int .i64) 3 ((wx.setCell ⟨g2, 0, none⟩ (.slice AHO u1.length cHO)).setCell ⟨g3, 0, none⟩ (.slice AHP q1.length cHP)) w.heap.size (fun k_ => some k_ ≠ u.ownBlock) v xs := fun h => Kd.R_mono (Kd.R_far (p := ⟨g3, 0, none⟩) (Kd.R_far (p := ⟨g2, 0, none⟩) (Kd.R_types (Kd.R_types h HD.out.2.2.1 (by decide)) HD.out.2.2.2.1 (by decide)) (fun _ h_ => h_.1.2) _) (fun _ h_ => h_.2) _) (fun _ h_ => h_.1.1)
 have farS : Kd.S (Kd.slice 3 (Kd.int .i64)) 23 ((wx.setCell ⟨g2, 0, none⟩ (.slice AHO u1.length cHO)).setCell ⟨g3, 0, none⟩ (.slice AHP q1.length cHP)) w.heap.size (fun k_ => (some k_ ≠ (.slice AHO u1.length cHO : Value).ownBlock ∧ some k_ ≠ (.slice AHP q1.length cHP : Value).ownBlock)) v0_ s1 := Kd.S_mono (Kd.S_far (p := ⟨g3, 0, none⟩) (Kd.S_far (p := ⟨g2, 0, none⟩) (Kd.S_types (Kd.S_types HS.out HD.out.2.2.1 (by decide)) HD.out.2.2.2.1 (by decide)) (fun _ h_ => h_.1.2) _) (fun _ h_ => h_.2) _) (fun _ h_ => h_.1.1)
 exact ⟨_, _, _, rfl, far HO.out, far HP.out, farS, (HD.out.2.1.setCell (p := ⟨g2, 0, none⟩) HD.out.2.2.2.2.1 _).setCell (p := ⟨g3, 0, none⟩) HD.out.2.2.2.2.2.1 _⟩

/-! ### slices_IndexFunc_Lint_int: function 48 -/
set_option maxHeartbeats 8000000 in
set_option maxRecDepth 100000 in
theorem slices_IndexFunc_Lint_int.any (g : Nat) (lb : Array Value) (eg : ∀ args w, (callFunc g args).run Try.prog w = .ok (.enter g args) w) (pf : Int → Option Bool)
  (A0 : Option Addr) (c0 : Nat) (l0 : List Int) (r : Int) (w : World) (hr0 : Kd.C (Kd.int .i64) w A0 l0.length l0) (hc0 : l0.length ≤ c0) (hp : PB Try.prog g lb (Kd.int .i64) encOne pf w) (h : idxO pf l0 0 = some r) :
  Calls Try.prog 48 #[.slice A0 l0.length c0, .func (.func g) #[] lb] w fun e w' => e = .returned (.int .i64 r) ∧ Below w.heap.size w w' := by
 have HR0 := xm hr0
 have HP := xm hp
 have H' := xm h
 have HB := xm (Below.refl w.heap.size w)
 have hn : (l0.length : Int) ≤ 9223372036854775807 := by have := hr0.2.1; omega
 clear hr0 hp h hc0
 go_enter Try.func48, Try.ntmps48
 go_wp2
 go_loopg [5, 8] l0.length (fun kq v5 v8 w' => ∃ kk : Nat, v8 = .int .i64 kk ∧ kk ≤ l0.length ∧ l0.length - kk ≤ kq ∧ Aside0 (idxO pf (l0.drop kk) kk = some r) ∧ Aside0 (Below w.heap.size w w'))
 case atStart => exact ⟨0, rfl, Nat.zero_le _, by omega, H', HB⟩
 case round =>
  clear H' HB
  obtain ⟨kk, rfl, hkk, hg, HA, HB⟩ := hrel
  by_cases hlt : kk < l0.length
  ·have hlti : (kk : Int) < (l0.length : Int) := by omega
   obtain ⟨ad, e0, hx0⟩ := Kd.at_int HR0.out (kk : Int) (by omega) hlti
   cases e0
   replace hx0 := hU hx0
   simp only [Int.toNat_natCast] at hx0
   have H := HA.out
   rw [List.drop_eq_getElem_cons hlt] at H
   unfold idxO at H
   have hrd : l0[kk] = rd l0 (kk : Int) := by simp [rd, hlt]
   rw [hrd] at H
   obtain ⟨b, hb, H⟩ := Option.bind_eq_some_iff.mp H
   have hcall := HP.out _ (rd l0 (kk : Int)) [.int .i64 (rd l0 (kk : Int))] b HB.out rfl hb
   have HL := xm hcall
   clear hcall hb HA
   clear hrd
   simp only [encOne, encAgg, List.headD_cons] at HL
   cases b with
   | true =>
    obtain rfl := Option.some.inj H
    go_wp2_with (go_at_fn g; refine HL.out.mono ?_; rintro e w' ⟨rfl, hb'⟩)
    go_ret
    exact ⟨rfl, below_step HB.out hb'⟩
   | false =>
    have H1 := xm H
    clear H
    go_wp2_with (go_at_fn g; refine HL.out.mono ?_; rintro e w' ⟨rfl, hb'⟩)
    go_roundg (l0.length - (kk + 1))
    case measure => omega
    case rel => exact ⟨kk + 1, by go_num, by omega, by omega, ⟨by have := H1.out; simpa using this⟩, ⟨below_step HB.out hb'⟩⟩
  ·have : kk = l0.length := by omega
   subst this
   have H := HA.out
   rw [List.drop_length] at H
   unfold idxO at H
   obtain rfl := Option.some.inj H
   clear H HA
   go_wp2
   go_ret
   exact ⟨rfl, HB.out⟩

/-! ### slices_ContainsFunc_Lint_int: function 40 -/
set_option maxHeartbeats 8000000 in
set_option maxRecDepth 100000 in
theorem slices_ContainsFunc_Lint_int.any (g : Nat) (lb : Array Value) (eg : ∀ args w, (callFunc g args).run Try.prog w = .ok (.enter g args) w) (pf : Int → Option Bool)
  (A0 : Option Addr) (c0 : Nat) (l0 : List Int) (r : Bool) (w : World) (hr0 : Kd.C (Kd.int .i64) w A0 l0.length l0) (hc0 : l0.length ≤ c0) (hp : PB Try.prog g lb (Kd.int .i64) encOne pf w) (h : anyO pf l0 = some r) :
  Calls Try.prog 40 #[.slice A0 l0.length c0, .func (.func g) #[] lb] w fun e w' => e = .returned (.bool r) ∧ Below w.heap.size w w' := by
 rw [← idxO_any pf l0 0 (Int.le_refl 0)] at h
 obtain ⟨i, hi, hri⟩ := Option.map_eq_some_iff.mp h
 have HC := xm (slices_IndexFunc_Lint_int.any g lb eg pf A0 c0 l0 i w hr0 hc0 hp hi)
 have HR := xm hri
 clear hr0 hc0 hp h hi hri eg
 go_enter Try.func40, Try.ntmps40
 go_wp2_with (go_at_call 48; refine HC.out.mono ?_; rintro e w' ⟨rfl, hb⟩)
 go_ret
 exact ⟨by first | rfl | (rw [HR.out]; rfl) | rw [HR.out], hb⟩

/-! ### impl_areAll_int_1: function 41 -/
set_option maxHeartbeats 8000000 in
set_option maxRecDepth 100000 in
theorem impl_areAll_int_1.pb (g : Nat) (lb : Array Value) (eg : ∀ args w, (callFunc g args).run Try.prog w = .ok (.enter g args) w) (pf : Int → Option Bool) (w w1 : World) (b0 : Nat) (hw : Below w.heap.size w w1)
  (hbk : w1.heap[b0]? = some (.cells #[.func (.func g) #[] lb] 49 (0, 0))) (hp : PB Try.prog g lb (Kd.int .i64) encOne pf w) :
  PB Try.prog 41 #[.pointer (some ⟨b0, 0, none⟩)] (Kd.int .i64) encOne (fun x => (pf x).map (!·)) w1 := by
 intro W x cs b hW hK hb
 obtain ⟨b1, hb1, rfl⟩ := Option.map_eq_some_iff.mp hb
 have hWw := below_step hw hW
 have hbW := blk_below hW hbk
 have HL := xm (hp W x cs b1 hWw hK hb1)
 obtain rfl : cs = [.int .i64 x] := hK
 have hcz : W.cell? ⟨b0, 0, none⟩ = some (.func (.func g) #[] lb) := (xc hbW 0).trans rfl
 clear hp hb hb1 hWw hbW hW hbk hw
 simp only [encOne, encAgg, List.headD_cons] at HL ⊢
 go_enter Try.func41, Try.ntmps41
 go_wp2_with (go_at_fn g; refine HL.out.mono ?_; rintro e w' ⟨rfl, hb'⟩)
 go_ret
 exact ⟨rfl, hb'⟩

/-! ### impl_areAll_int: function 23 -/
theorem enters41 : ∀ args w, (callFunc 41 args).run Try.prog w = .ok (.enter 41 args) w := enters_of Try.func41 (by kernel_rfl) rfl
set_option maxHeartbeats 8000000 in
set_option maxRecDepth 100000 in
theorem impl_areAll_int.any (g : Nat) (lb : Array Value) (eg : ∀ args w, (callFunc g args).run Try.prog w = .ok (.enter g args) w) (pf : Int → Option Bool)
  (A0 : Option Addr) (c0 : Nat) (l0 : List Int) (r : Bool) (w : World) (hr0 : Kd.C (Kd.int .i64) w A0 l0.length l0) (hc0 : l0.length ≤ c0) (hp : PB Try.prog g lb (Kd.int .i64) encOne pf w) (h : allO pf l0 = some r) :
  Calls Try.prog 23 #[.slice A0 l0.length c0, .func (.func g) #[] lb] w fun e w' => e = .returned (.bool r) ∧ Below w.heap.size w w' := by
 rw [← any_all pf l0] at h
 obtain ⟨b, hb, rfl⟩ := Option.map_eq_some_iff.mp h
 have hB1 : Below w.heap.size w (w.alloc (.cells #[.func (.func g) #[] lb] 49)) := xa (Below.refl _ _) _
 have HC := xm (slices_ContainsFunc_Lint_int.any 41 #[.pointer (some ⟨w.heap.size, 0, none⟩)] enters41 _ A0 c0 l0 b _ (Kd.C_below hr0 hB1) hc0 (impl_areAll_int_1.pb g lb eg pf w _ w.heap.size hB1 (heap_new w _ _) hp) hb)
 have HB1 := xm hB1
 clear hr0 hc0 hp h hb eg hB1
 go_enter Try.func23, Try.ntmps23
 go_wp2_with (go_at_call 40; refine HC.out.mono ?_; rintro e w' ⟨rfl, hb⟩)
 go_ret
 exact ⟨rfl, below_step HB1.out hb⟩

/-! ### impl_within: function 42 -/
def impl_within.f (a0 : Int) (a1 : Int) (a2 : Int) : Option (Bool) := if a1 ≤ a0 then (some (decide (a0 ≤ a2))) else (some false)
set_option maxHeartbeats 8000000 in
set_option maxRecDepth 100000 in
theorem impl_within.calls (a0 : Int) (a1 : Int) (a2 : Int) (r : Bool) (w : World) (h : impl_within.f a0 a1 a2 = some r) :
  Calls Try.prog 42 #[.int .i64 a0, .int .i64 a1, .int .i64 a2] w fun e w' => e = .returned (.bool r) ∧ Drawn0 w w' := by
 have H : (if a1 ≤ a0 then (some (decide (a0 ≤ a2))) else (some false)) = some r := h
 clear h
 by_cases c4 : a1 ≤ a0
 ·rw [if_pos c4] at H
  have c4b0 : decide (a1 ≤ a0) = true := decide_eq_true c4
  clear c4
  obtain rfl := Option.some.inj H
  go_enter Try.func42, Try.ntmps42
  go_wp2
  go_ret
  exact ⟨sB, dB⟩
 ·rw [if_neg c4] at H
  have c4b0 : decide (a1 ≤ a0) = false := decide_eq_false c4
  clear c4
  obtain rfl := Option.some.inj H
  go_enter Try.func42, Try.ntmps42
  go_wp2
  go_ret
  exact ⟨sB, dB⟩

/-! ### impl_isCell: function 24 -/
def impl_isCell.f (a0 : Int) : Option (Bool) := (impl_within.f a0 (-100000) 100000).bind fun t171 => (some t171)
set_option maxHeartbeats 8000000 in
set_option maxRecDepth 100000 in
theorem impl_isCell.calls (a0 : Int) (r : Bool) (w : World) (h : impl_isCell.f a0 = some r) :
  Calls Try.prog 24 #[.int .i64 a0] w fun e w' => e = .returned (.bool r) ∧ Drawn0 w w' := by
 have H : ((impl_within.f a0 (-100000) 100000).bind fun t171 => (some t171)) = some r := h
 clear h
 replace H := Option.bind_eq_some_iff.mp H
 obtain ⟨t171, A20, H⟩ := H
 replace H : (some t171) = some r := H
 have A2 := xm A20
 clear A20
 obtain rfl := Option.some.inj H
 go_enter Try.func24, Try.ntmps24
 go_wp2_with (first | ((with_reducible refine gate_callee (f := 42) rfl ?_); refine goesL_ (some 4) rfl rfl Try.func42 (by kernel_rfl) rfl #[.int .i64 a0, .int .i64 (-100000), .int .i64 100000] rfl mB ?_; (with_reducible refine (impl_within.calls a0 (-100000) 100000 t171 _ A2.out).mono ?_); rintro e w' ⟨rfl, ⟨nd, rfl⟩⟩; refine ⟨_, rfl, ?_⟩))
 go_ret
 exact ⟨sB, dB⟩

/-! ### impl_areAll_int__impl_isCell: function 100000 -/
theorem enters24 : ∀ args w, (callFunc 24 args).run Try.prog w = .ok (.enter 24 args) w := enters_of Try.func24 (by kernel_rfl) rfl
def impl_areAll_int__impl_isCell.f (l0 : List Int)  : Option Bool := allO (fun x => impl_isCell.f x) l0
set_option maxHeartbeats 8000000 in
set_option maxRecDepth 100000 in
theorem impl_areAll_int__impl_isCell.calls (A0 : Option Addr) (c0 : Nat) (l0 : List Int)  (r : Bool) (w : World) (hr0 : Kd.C (Kd.int .i64) w A0 l0.length l0) (hc0 : l0.length ≤ c0) (h : impl_areAll_int__impl_isCell.f l0  = some r) :
  Calls Try.prog 23 #[.slice A0 l0.length c0, .func (.func 24) #[] #[]] w fun e w' => e = .returned (.bool r) ∧ Below w.heap.size w w' := by
 refine impl_areAll_int.any 24 #[] enters24 (fun x => impl_isCell.f x) A0 c0 l0 r w hr0 hc0 ?_ h
 intro W x cs b hW hK hb
 obtain rfl : cs = [.int .i64 x] := hK
 simp only [encOne, encAgg, List.headD_cons, app0, app1, app2, app3]
 refine (impl_isCell.calls x b W hb).mono ?_
 rintro e w' ⟨he, hd⟩
 exact ⟨he, hd.below⟩

/-! ### impl_GoodRow: function 9 -/
def impl_GoodRow.f (l0_0 : List Int) : Option (Bool) := if (l0_0.length : Int) ≤ 6 then ((impl_areAll_int__impl_isCell.f l0_0).bind fun t173 => (some t173)) else (some false)
set_option maxHeartbeats 8000000 in
set_option maxRecDepth 100000 in
theorem impl_GoodRow.calls (A0_0 : Option Addr) (c0_0 : Nat) (l0_0 : List Int) (r : Bool) (w : World) (hr0_0 : Kd.C (Kd.int .i64) w A0_0 l0_0.length l0_0) (hc0_0 : l0_0.length ≤ c0_0) (h : impl_GoodRow.f l0_0 = some r) :
  Calls Try.prog 9 #[.agg #[.slice A0_0 l0_0.length c0_0]] w fun e w' => e = .returned (.bool r) ∧ Below w.heap.size w w' := by
 have hu25 := Try.underlying25
 have HR0_0 := xm hr0_0
 have HC0_0 := xm hc0_0
 clear hr0_0 hc0_0
 have HB := xm (Below.refl w.heap.size w)
 have H : (if (l0_0.length : Int) ≤ 6 then ((impl_areAll_int__impl_isCell.f l0_0).bind fun t173 => (some t173)) else (some false)) = some r := h
 clear h
 by_cases c2 : (l0_0.length : Int) ≤ 6
 ·rw [if_pos c2] at H
  have c2b0 : decide ((l0_0.length : Int) ≤ 6) = true := decide_eq_true c2
  have c2b1 : decide (l0_0.length ≤ 6) = true := decide_eq_true (by omega)
  clear c2
  replace H := Option.bind_eq_some_iff.mp H
  obtain ⟨t173, A30, H⟩ := H
  replace H : (some t173) = some r := H
  have A3 := xm A30
  clear A30
  obtain rfl := Option.some.inj H
  go_enter Try.func9, Try.ntmps9
  go_wp2_with (first | ((with_reducible refine gate_dst (N := 1) rfl ?_); refine box_event ?hg (N := 1) ?hd (cs := #[.slice A0_0 l0_0.length c0_0]) (t := 25) ?hr ?_; (case hd => rfl); (case hg => rfl); (case hr => exact zB); intro gb172 hg w4 hbox hb; have n0_ := xm (below_step bB hb); have n1_ := xm (hbox); have n2_ := xm ((by rw [hg]; exact (xz bB) : w.heap.size ≤ gb172)); have n3_ := xm ((by rw [hg]; exact (xz bB) : w.heap.size ≤ gb172)); revert n0_ n1_ n2_ n3_; clear HB; intro HB BK172 GW172 GE172; clear hb hbox hg; obtain ⟨hcz5_0, hfz5_0⟩ := cz1 BK172.out) | (go_at_call 23; (with_reducible refine (impl_areAll_int__impl_isCell.calls _ _ l0_0 t173 _ ?side1 ?side2 A3.out).mono ?_); (case side1 => exact cB (Kd.C_below HR0_0.out HB.out)); (case side2 => exact HC0_0.out); rintro e w6 ⟨rfl, hb⟩; have n0_ := xm (blk_below (kB BK172) hb); have n1_ := xm (below_step bG hb); revert n0_ n1_; clear BK172 HB; intro BK172 HB; (try clear hb)))
  go_ret
  exact ⟨eB, bG⟩
 ·rw [if_neg c2] at H
  have c2b0 : decide ((l0_0.length : Int) ≤ 6) = false := decide_eq_false c2
  have c2b1 : decide (l0_0.length ≤ 6) = false := decide_eq_false (by omega)
  clear c2
  obtain rfl := Option.some.inj H
  go_enter Try.func9, Try.ntmps9
  go_wp2_with (first | ((with_reducible refine gate_dst (N := 1) rfl ?_); refine box_event ?hg (N := 1) ?hd (cs := #[.slice A0_0 l0_0.length c0_0]) (t := 25) ?hr ?_; (case hd => rfl); (case hg => rfl); (case hr => exact zB); intro gb172 hg w7 hbox hb; have n0_ := xm (below_step bB hb); have n1_ := xm (hbox); have n2_ := xm ((by rw [hg]; exact (xz bB) : w.heap.size ≤ gb172)); have n3_ := xm ((by rw [hg]; exact (xz bB) : w.heap.size ≤ gb172)); revert n0_ n1_ n2_ n3_; clear HB; intro HB BK172 GW172 GE172; clear hb hbox hg; obtain ⟨hcz8_0, hfz8_0⟩ := cz1 BK172.out))
  go_ret
  exact ⟨eB, bG⟩

end Go.Proofs.Ytmelechhnimlnaa.G
