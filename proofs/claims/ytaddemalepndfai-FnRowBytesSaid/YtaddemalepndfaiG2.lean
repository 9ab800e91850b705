/- Written by a program of this claim's own, out of the translation: functions of the program as plain functions, and that the calls answer as these. No conditions. -/
import Derived.Test.YtaddemalepndfaiG0
import Derived.Test.YtaddemalepndfaiG1
namespace Go.Proofs.Ytaddemalepndfai.G
open Go.RowKit Go.Proofs.Ytaddemalepndfai.X Go.Proofs.YtaddemalepndfaiW.PrintWords Go.Proofs.YtaddemalepndfaiW.PrintLast Go.Proofs.YtaddemalepndfaiW.PrintMore
attribute [local go_sem] max2_int min2_int max_two min_two max_three min_three max_four min_four   -- for this text's walks alone
set_option linter.unusedVariables false
set_option linter.unusedSimpArgs false

/-! ### spec_l1Cur_width: function 15 -/
def spec_l1Cur_width.f (s0_0 : List Int) (s0_1 : Int) (s0_2 : Int) : Option (Int × Int × Int) := (spec_l1Cur_one.f s0_0 s0_1 s0_2 20).bind fun bt135 => (if bt135.1 = true then ((spec_l1Cur_among.f s0_0 bt135.2.1 bt135.2.2 (([0, 6, 7] : List Int))).bind fun bt141 => (some (bt141.1, bt141.2.1, bt141.2.2))) else ((spec_l1Cur_pick.f s0_0 bt135.2.1 bt135.2.2 3).bind fun bt144 => (some (wrap64 (1 + bt144.1), bt144.2.1, bt144.2.2))))
set_option maxHeartbeats 8000000 in
set_option maxRecDepth 100000 in
theorem spec_l1Cur_width.calls (g : Nat) (s0_0 : List Int) (s0_1 : Int) (s0_2 : Int) (r1 : Int) (r2 : Int) (r3 : Int) (w0 w : World) (hI : IsS41 w0 w g s0_0 s0_1 s0_2) (hB : Below w0.heap.size w0 w) (h : spec_l1Cur_width.f s0_0 s0_1 s0_2 = some (r1, r2, r3)) :
  Calls Try.prog 15 #[.pointer (some ⟨g, 0, none⟩)] w fun e w' => e = .returned (.int .i64 r1) ∧ IsS41 w0 w' g s0_0 r2 r3 ∧ Below w0.heap.size w0 w' ∧ KeepBut w w' g none := by
 have HI0 := xm hI
 have HK := xm (KeepBut.refl w g none)
 have HL := xm hB.size
 clear hI
 have HW0 := xm hB.size
 have HB := xm hB
 clear hB
 have H : ((spec_l1Cur_one.f s0_0 s0_1 s0_2 20).bind fun bt135 => (if bt135.1 = true then ((spec_l1Cur_among.f s0_0 bt135.2.1 bt135.2.2 (([0, 6, 7] : List Int))).bind fun bt141 => (some (bt141.1, bt141.2.1, bt141.2.2))) else ((spec_l1Cur_pick.f s0_0 bt135.2.1 bt135.2.2 3).bind fun bt144 => (some (wrap64 (1 + bt144.1), bt144.2.1, bt144.2.2))))) = some (r1, r2, r3) := h
 clear h
 replace H := Option.bind_eq_some_iff.mp H
 obtain ⟨⟨t135, t136, t137⟩, A20, H⟩ := H
 replace H : (if t135 = true then ((spec_l1Cur_among.f s0_0 t136 t137 (([0, 6, 7] : List Int))).bind fun bt141 => (some (bt141.1, bt141.2.1, bt141.2.2))) else ((spec_l1Cur_pick.f s0_0 t136 t137 3).bind fun bt144 => (some (wrap64 (1 + bt144.1), bt144.2.1, bt144.2.2)))) = some (r1, r2, r3) := H
 have A2 := xm A20
 clear A20
 by_cases c3 : t135 = true
 ·subst c3
  have H1 : ((spec_l1Cur_among.f s0_0 t136 t137 (([0, 6, 7] : List Int))).bind fun bt141 => (some (bt141.1, bt141.2.1, bt141.2.2))) = some (r1, r2, r3) := by first | (with_reducible rfl) | (rw [if_pos rfl] at H; exact H)
  clear H
  have H := H1
  clear H1
  obtain ⟨y138, hy138⟩ : ∃ y_ : List Int, y_ = (([0, 6, 7] : List Int)) := ⟨_, rfl⟩
  replace H : ((spec_l1Cur_among.f s0_0 t136 t137 y138).bind fun bt141 => (some (bt141.1, bt141.2.1, bt141.2.2))) = some (r1, r2, r3) := by first | (rw [hy138]; with_reducible exact H) | (have H2_ := (Option.bind_some _ _).symm.trans H; rw [hy138]; with_reducible exact H2_) | (have H2_ := (Option.bind_some _ _).symm.trans H; with_reducible exact H2_) | with_reducible exact H | (rw [hy138]; exact H) | exact H
  have Ny138 := xm hy138
  clear hy138
  replace H := Option.bind_eq_some_iff.mp H
  obtain ⟨⟨t141, t142, t143⟩, A40, H⟩ := H
  replace H : (some (t141, t142, t143)) = some (r1, r2, r3) := H
  have A4 := xm A40
  clear A40
  simp only [Option.some.injEq, Prod.mk.injEq] at H
  obtain ⟨rfl, rfl, rfl⟩ := H
  go_enter Try.func15, Try.ntmps15
  go_wp2_with (first | ((with_reducible refine gate_callee (f := 16) rfl ?_); refine goesL_ (some 4) rfl rfl Try.func16 (by kernel_rfl) rfl #[.pointer (some ⟨g, 0, none⟩), .int .i64 20] rfl mB ?_; (with_reducible refine (spec_l1Cur_one.calls g s0_0 s0_1 s0_2 20 true t136 t137 w0 _ ?side1 ?side2 A2.out).mono ?_); (case side1 => repeat (first | (with_reducible first | exact HI0.out | apply IsS41.alloc | apply IsS41.drewN | apply IsS41.drew | apply IsS41.set_1 | apply IsS41.set_2) | exact HI0.out)); (case side2 => repeat (first | (with_reducible first | exact HB.out | apply xa | apply xn | apply xd | refine xt ?_ (IsS41.ge HI0.out)) | exact HB.out)); rintro e w5 ⟨rfl, hi, hb, hk⟩; refine ⟨_, rfl, ?_⟩; have n0_ := xm (KeepBut.trans (by repeat (first | (with_reducible first | exact HK.out | apply KeepBut.set_ | apply keep_drewN | apply keep_drew | apply keep_alloc) | exact HK.out)) hk (.inl rfl)); have n1_ := xm (hb); have n2_ := xm (hi); revert n0_ n1_ n2_; clear HK HB HI0; intro HK HB HI0; (try clear hb); (try clear hk); (try clear hi)) | ((with_reducible refine gate_dst (N := 6) rfl ?_); refine Kd.R_lit (Kd.int .i64) _ 3 ?hg (N := 6) ?hd (xs := ([0, 6, 7] : List Int)) (inner := [.int .i64 0, .int .i64 6, .int .i64 7]) (ok := fun _ => True) (okp := fun _ => True) ?hr ?hp (fun _ hk => hk) trivial (Below.refl _ _) (Nat.le_refl _) (by simp) ?_; (case hd => rfl); (case hg => rfl); (case hr => exact zB); (case hp => exact (Reps.one (show Kd.M (Kd.int .i64) _ _ _ 0 [.int .i64 0] from rfl) (Reps.one (show Kd.M (Kd.int .i64) _ _ _ 6 [.int .i64 6] from rfl) (Reps.one (show Kd.M (Kd.int .i64) _ _ _ 7 [.int .i64 7] from rfl) (Reps.none _ _))))); intro v139 w6 ho7 hb hg_ hnew_; clear hg_ hnew_; (first | rw [← Ny138.out] at ho7 | (simp only [Int.reduceToNat] at ho7; rw [← Ny138.out] at ho7)); have n0_ := xm (Kd.R_lower ho7 (keep_size (w := w) (g := g) (row := none) (by repeat (first | (with_reducible first | exact HK.out | apply KeepBut.set_ | apply keep_drewN | apply keep_drew | apply keep_alloc) | exact HK.out)))); have n1_ := xm (IsS41.below (by repeat (first | (with_reducible first | exact HI0.out | apply IsS41.alloc | apply IsS41.drewN | apply IsS41.drew | apply IsS41.set_1 | apply IsS41.set_2) | exact HI0.out)) hb); have n2_ := xm (KeepBut.trans (by repeat (first | (with_reducible first | exact HK.out | apply KeepBut.set_ | apply keep_drewN | apply keep_drew | apply keep_alloc) | exact HK.out)) (KeepBut.of_below hb g none) (.inl rfl)); have n3_ := xm (below_step (by repeat (first | (with_reducible first | exact HB.out | apply xa | apply xn | apply xd | refine xt ?_ (IsS41.ge HI0.out)) | exact HB.out)) hb); revert n0_ n1_ n2_ n3_; clear HI0 HK HB; intro HO140 HI0 HK HB; clear hb ho7; obtain ⟨Ao8, co8, eo8⟩ := Kd.R_slice HO140.out; subst eo8) | ((with_reducible refine gate_callee (f := 27) rfl ?_); refine goesL_ (some 7) rfl rfl Try.func27 (by kernel_rfl) rfl #[.pointer (some ⟨g, 0, none⟩), .slice Ao8 y138.length co8] rfl mB ?_; (with_reducible refine (spec_l1Cur_among.calls g s0_0 t136 t137 _ _ y138 t141 t142 t143 w0 _ ?side1 ?side2 ?side3 ?side4 ?side5 A4.out).mono ?_); (case side1 => repeat (first | (with_reducible first | exact HI0.out | apply IsS41.alloc | apply IsS41.drewN | apply IsS41.drew | apply IsS41.set_1 | apply IsS41.set_2) | exact HI0.out)); (case side2 => repeat (first | (with_reducible first | exact HB.out | apply xa | apply xn | apply xd | refine xt ?_ (IsS41.ge HI0.out)) | exact HB.out)); (case side3 => repeat (first | exact (Kd.R_reads' HO140.out).2.2 | (with_reducible refine Kd.C_alloc ?_ _) | (with_reducible refine Kd.C_drewN ?_ _) | (with_reducible refine Kd.C_drew ?_))); (case side4 => exact (Kd.R_reads' HO140.out).2.1); (case side5 => exact far_slice (IsS41.own_ne HI0.out HO140.out (by decide))); rintro e w9 ⟨rfl, hi, hb, hk⟩; refine ⟨_, rfl, ?_⟩; have n0_ := xm (Kd.R_mono (Kd.R_keep (IsS41.apart (show IsS41 w0 _ g s0_0 t136 t137 from by repeat (first | (with_reducible first | exact HI0.out | apply IsS41.alloc | apply IsS41.drewN | apply IsS41.drew | apply IsS41.set_1 | apply IsS41.set_2) | exact HI0.out)) (rB HO140) (by decide)) hk (fun _ h => h.2)) (fun _ h => h.1)); have n1_ := xm (KeepBut.trans (by repeat (first | (with_reducible first | exact HK.out | apply KeepBut.set_ | apply keep_drewN | apply keep_drew | apply keep_alloc) | exact HK.out)) hk (.inl rfl)); have n2_ := xm (hb); have n3_ := xm (hi); revert n0_ n1_ n2_ n3_; clear HO140 HK HB HI0; intro HO140 HK HB HI0; (try clear hb); (try clear hk); (try clear hi)))
  go_ret
  exact ⟨eB, by repeat (first | (with_reducible first | exact HI0.out | apply IsS41.alloc | apply IsS41.drewN | apply IsS41.drew | apply IsS41.set_1 | apply IsS41.set_2) | exact HI0.out), by repeat (first | (with_reducible first | exact HB.out | apply xa | apply xn | apply xd | refine xt ?_ (IsS41.ge HI0.out)) | exact HB.out), by repeat (first | (with_reducible first | exact HK.out | apply KeepBut.set_ | apply keep_drewN | apply keep_drew | apply keep_alloc) | exact HK.out)⟩
 ·replace c3 := Bool.eq_false_iff.mpr c3
  subst c3
  have H1 : ((spec_l1Cur_pick.f s0_0 t136 t137 3).bind fun bt144 => (some (wrap64 (1 + bt144.1), bt144.2.1, bt144.2.2))) = some (r1, r2, r3) := by first | (with_reducible rfl) | (rw [if_neg (show ¬ (false = true) by decide)] at H; exact H)
  clear H
  have H := H1
  clear H1
  replace H := Option.bind_eq_some_iff.mp H
  obtain ⟨⟨t144, t145, t146⟩, A100, H⟩ := H
  replace H : (some (wrap64 (1 + t144), t145, t146)) = some (r1, r2, r3) := H
  have A10 := xm A100
  clear A100
  simp only [Option.some.injEq, Prod.mk.injEq] at H
  obtain ⟨rfl, rfl, rfl⟩ := H
  go_enter Try.func15, Try.ntmps15
  go_wp2_with (first | ((with_reducible refine gate_callee (f := 16) rfl ?_); refine goesL_ (some 4) rfl rfl Try.func16 (by kernel_rfl) rfl #[.pointer (some ⟨g, 0, none⟩), .int .i64 20] rfl mB ?_; (with_reducible refine (spec_l1Cur_one.calls g s0_0 s0_1 s0_2 20 false t136 t137 w0 _ ?side1 ?side2 A2.out).mono ?_); (case side1 => repeat (first | (with_reducible first | exact HI0.out | apply IsS41.alloc | apply IsS41.drewN | apply IsS41.drew | apply IsS41.set_1 | apply IsS41.set_2) | exact HI0.out)); (case side2 => repeat (first | (with_reducible first | exact HB.out | apply xa | apply xn | apply xd | refine xt ?_ (IsS41.ge HI0.out)) | exact HB.out)); rintro e w11 ⟨rfl, hi, hb, hk⟩; refine ⟨_, rfl, ?_⟩; have n0_ := xm (KeepBut.trans (by repeat (first | (with_reducible first | exact HK.out | apply KeepBut.set_ | apply keep_drewN | apply keep_drew | apply keep_alloc) | exact HK.out)) hk (.inl rfl)); have n1_ := xm (hb); have n2_ := xm (hi); revert n0_ n1_ n2_; clear HK HB HI0; intro HK HB HI0; (try clear hb); (try clear hk); (try clear hi)) | ((with_reducible refine gate_callee (f := 28) rfl ?_); refine goesL_ (some 9) rfl rfl Try.func28 (by kernel_rfl) rfl #[.pointer (some ⟨g, 0, none⟩), .int .i64 3] rfl mB ?_; (with_reducible refine (spec_l1Cur_pick.calls g s0_0 t136 t137 3 t144 t145 t146 w0 _ ?side1 ?side2 A10.out).mono ?_); (case side1 => repeat (first | (with_reducible first | exact HI0.out | apply IsS41.alloc | apply IsS41.drewN | apply IsS41.drew | apply IsS41.set_1 | apply IsS41.set_2) | exact HI0.out)); (case side2 => repeat (first | (with_reducible first | exact HB.out | apply xa | apply xn | apply xd | refine xt ?_ (IsS41.ge HI0.out)) | exact HB.out)); rintro e w12 ⟨rfl, hi, hb, hk⟩; refine ⟨_, rfl, ?_⟩; have n0_ := xm (KeepBut.trans (by repeat (first | (with_reducible first | exact HK.out | apply KeepBut.set_ | apply keep_drewN | apply keep_drew | apply keep_alloc) | exact HK.out)) hk (.inl rfl)); have n1_ := xm (hb); have n2_ := xm (hi); revert n0_ n1_ n2_; clear HK HB HI0; intro HK HB HI0; (try clear hb); (try clear hk); (try clear hi)))
  go_ret
  exact ⟨eB, by repeat (first | (with_reducible first | exact HI0.out | apply IsS41.alloc | apply IsS41.drewN | apply IsS41.drew | apply IsS41.set_1 | apply IsS41.set_2) | exact HI0.out), by repeat (first | (with_reducible first | exact HB.out | apply xa | apply xn | apply xd | refine xt ?_ (IsS41.ge HI0.out)) | exact HB.out), by repeat (first | (with_reducible first | exact HK.out | apply KeepBut.set_ | apply keep_drewN | apply keep_drew | apply keep_alloc) | exact HK.out)⟩

/-! ### spec_DrawCompareRows: function 4 -/
/-- The cursor's box and the boxes of two answers, between the calls. -/
def DstC (w W : World) (g g2 g3 : Nat) (l0 : List Int) (x y : Int) : Prop := IsS41 w W g l0 x y ∧ Below w.heap.size w W ∧ W.heap[g2]? = some (.cells #[.slice none 0 0] 25 (0, 0)) ∧ W.heap[g3]? = some (.cells #[.slice none 0 0] 25 (0, 0)) ∧ (w.heap.size ≤ g2 ∧ w.heap.size ≤ g3 ∧ g2 ≠ g3 ∧ g2 ≠ g ∧ g3 ≠ g)
theorem DstC.isS {w W : World} {g g2 g3 : Nat} {l0 : List Int} {x y : Int} (h : DstC w W g g2 g3 l0 x y) : IsS41 w W g l0 x y := h.1
theorem DstC.bel {w W : World} {g g2 g3 : Nat} {l0 : List Int} {x y : Int} (h : DstC w W g g2 g3 l0 x y) : Below w.heap.size w W := h.2.1
theorem DstC.ltS {w W : World} {g g2 g3 : Nat} {l0 : List Int} {x y : Int} (h : DstC w W g g2 g3 l0 x y) : g < W.heap.size ∧ g2 < W.heap.size ∧ g3 < W.heap.size := ⟨h.1.lt, blk_lt h.2.2.1, blk_lt h.2.2.2.1⟩
theorem DstC.below {w W W1 : World} {g g2 g3 : Nat} {l0 : List Int} {x y : Int} (h : DstC w W g g2 g3 l0 x y) (hb : Below W.heap.size W W1) : DstC w W1 g g2 g3 l0 x y := ⟨h.1.below hb, below_step h.2.1 hb, blk_below h.2.2.1 hb, blk_below h.2.2.2.1 hb, h.2.2.2.2⟩
theorem DstC.drewN {w W : World} {g g2 g3 : Nat} {l0 : List Int} {x y : Int} (h : DstC w W g g2 g3 l0 x y) (m : Nat) : DstC w (W.drewN m) g g2 g3 l0 x y := ⟨h.1.drewN m, xn h.2.1 m, xq h.2.2.1 m, xq h.2.2.2.1 m, h.2.2.2.2⟩
theorem DstC.drew {w W : World} {g g2 g3 : Nat} {l0 : List Int} {x y : Int} (h : DstC w W g g2 g3 l0 x y) : DstC w W.drew g g2 g3 l0 x y := ⟨h.1.drew, xd h.2.1, xr h.2.2.1, xr h.2.2.2.1, h.2.2.2.2⟩
theorem DstC.call {w W W1 : World} {g g2 g3 : Nat} {l0 : List Int} {x y x' y' : Int} (h : DstC w W g g2 g3 l0 x y) (hi : IsS41 w W1 g l0 x' y') (hb : Below w.heap.size w W1) (hk : KeepBut W W1 g none) : DstC w W1 g g2 g3 l0 x' y' := ⟨hi, hb, hk.blk h.2.2.1 h.2.2.2.2.2.2.2.1 (by simp), hk.blk h.2.2.2.1 h.2.2.2.2.2.2.2.2 (by simp), h.2.2.2.2⟩
theorem DstC.far {w W : World} {g g2 g3 : Nat} {l0 : List Int} {x y : Int} (h : DstC w W g g2 g3 l0 x y) {q : Nat} (hq : w.heap.size ≤ q ∧ q ≠ g ∧ q ≠ g2 ∧ q ≠ g3) (v : Value) : DstC w (W.setCell ⟨q, 0, none⟩ v) g g2 g3 l0 x y := ⟨h.1.far (Ne.symm hq.2.1) v, h.2.1.setCell (p := ⟨q, 0, none⟩) hq.1 v, blk_far (p := ⟨q, 0, none⟩) h.2.2.1 (Ne.symm hq.2.2.1) v, blk_far (p := ⟨q, 0, none⟩) h.2.2.2.1 (Ne.symm hq.2.2.2) v, h.2.2.2.2⟩
def spec_DrawCompareRows.f (k : Nat) (l0 : List Int) : Option (List Int × List Int) :=
 (spec_l1Cur_width.f l0 0 0).bind fun t => (spec_l1Cur_row.f k l0 t.2.1 t.2.2 t.1).bind fun u => (spec_l1Cur_one.f l0 u.2.1 u.2.2 4).bind fun o => if o.1 = true then some (u.1, u.1) else (spec_l1Cur_width.f l0 o.2.1 o.2.2).bind fun p => (spec_l1Cur_row.f k l0 p.2.1 p.2.2 p.1).bind fun q => some (u.1, q.1)
theorem spec_DrawCompareRows.mono : ∀ a0 k, LeO (spec_DrawCompareRows.f k a0) (spec_DrawCompareRows.f (k + 1) a0) := fun a0 k =>
 LeO.bind (LeO.refl _) fun t => LeO.bind (spec_l1Cur_row.mono _ _ _ _ k) fun u => LeO.bind (LeO.refl _) fun o => by
  split
  ·exact LeO.refl _
  ·exact LeO.bind (LeO.refl _) fun p => LeO.bind (spec_l1Cur_row.mono _ _ _ _ k) fun q => LeO.refl _
set_option maxHeartbeats 8000000 in
set_option maxRecDepth 100000 in
theorem spec_DrawCompareRows.calls (k : Nat) (A0 : Option Addr) (c0 : Nat) (l0 : List Int) (r1 : List Int) (r2 : List Int) (w : World) (hr0 : Kd.C (Kd.int .u8) w A0 l0.length l0) (hc0 : l0.length ≤ c0) (h : spec_DrawCompareRows.f k l0 = some (r1, r2)) :
  Calls Try.prog 4 #[.slice A0 l0.length c0] w fun e w' => ∃ v0_ v1_ : Value, e = .returned (.tuple #[.agg #[v0_], .agg #[v1_]]) ∧ Kd.R (Kd.int .i64) 3 w' w.heap.size (fun _ => True) v0_ r1 ∧ Kd.R (Kd.int .i64) 3 w' w.heap.size (fun _ => True) v1_ r2 ∧ Below w.heap.size w w' := by
 have hu41 := Try.underlying41
 have hu25 := Try.underlying25
 obtain ⟨⟨t1, t2, t3⟩, a1, H⟩ := Option.bind_eq_some_iff.mp h
 obtain ⟨⟨u1, u2, u3⟩, a2, H⟩ := Option.bind_eq_some_iff.mp H
 obtain ⟨⟨o1, o2, o3⟩, a4, H⟩ := Option.bind_eq_some_iff.mp H
 have A1 := xm a1
 have A2 := xm a2
 have A4 := xm a4
 have HR := xm hr0
 have HB := xm (Below.refl w.heap.size w)
 clear h a1 a2 a4 hr0 hc0
 cases o1 with
 | true =>
  obtain ⟨rfl, rfl⟩ := Prod.mk.inj (Option.some.inj (show some (u1, u1) = some (r1, r2) from H))
  clear H
  go_enter Try.func4, Try.ntmps4
  go_wp2_with (first
   | ((with_reducible refine gate_dst (N := 2) rfl ?_); refine box_event ?hg (N := 2) ?hd (cs := #[.slice none 0 0]) (t := 25) ?hr ?_; (case hd => rfl); (case hg => rfl); (case hr => first | (go_simp; done) | (go_simp; rfl) | exact zB); intro g2 hg w1 hbox hb; have n1_ := xm (below_step bB hb); have n2_ := xm hbox; have n3_ := xm (show w.heap.size ≤ g2 from by rw [hg]; exact xz bB); clear HB hbox hb hg; revert n1_ n2_ n3_; intro HB B2 G2)
   | ((with_reducible refine gate_dst (N := 3) rfl ?_); refine box_event ?hg (N := 3) ?hd (cs := #[.slice none 0 0]) (t := 25) ?hr ?_; (case hd => rfl); (case hg => rfl); (case hr => first | (go_simp; done) | (go_simp; rfl) | exact zB); intro g3 hg w1 hbox hb; have n0_ := xm (blk_below (by (with_reducible repeat (first | refine xq ?_ _ | refine xr ?_ | refine xo ?_ _)); exact B2.out) hb); have n1_ := xm (below_step bB hb); have n2_ := xm hbox; have n3_ := xm (show w.heap.size ≤ g3 from by rw [hg]; exact xz bB); have n4_ := xm (show g2 ≠ g3 from by rw [hg]; exact Nat.ne_of_lt (blk_lt (by (with_reducible repeat (first | refine xq ?_ _ | refine xr ?_ | refine xo ?_ _)); exact B2.out))); clear B2 HB hbox hb hg; revert n0_ n1_ n2_ n3_ n4_; intro B2 HB B3 G3 N23)
   | ((with_reducible refine gate_dst (N := 8) rfl ?_); refine box_event ?hg (N := 8) ?hd (cs := #[.slice A0 l0.length c0, .int .i64 0, .int .u64 0]) (t := 41) ?hr ?_; (case hd => rfl); (case hg => rfl); (case hr => exact zB); intro g hg w1 hbox hb; have n0_ := xm (show DstC w w1 g g2 g3 l0 0 0 from ⟨⟨A0, c0, hbox, by rw [hg]; exact xz bB, HR.out⟩, below_step bB hb, blk_below (by (with_reducible repeat (first | refine xq ?_ _ | refine xr ?_ | refine xo ?_ _)); exact B2.out) hb, blk_below (by (with_reducible repeat (first | refine xq ?_ _ | refine xr ?_ | refine xo ?_ _)); exact B3.out) hb, G2.out, G3.out, N23.out, by rw [hg]; exact Nat.ne_of_lt (blk_lt (by (with_reducible repeat (first | refine xq ?_ _ | refine xr ?_ | refine xo ?_ _)); exact B2.out)), by rw [hg]; exact Nat.ne_of_lt (blk_lt (by (with_reducible repeat (first | refine xq ?_ _ | refine xr ?_ | refine xo ?_ _)); exact B3.out))⟩); clear HB B2 B3 hbox hb hg; revert n0_; intro HD)
   | ((with_reducible refine gate_callee (f := 15) rfl ?_); refine goesL_ (some 11) rfl rfl Try.func15 (by kernel_rfl) rfl #[.pointer (some ⟨g, 0, none⟩)] rfl mB ?_; refine (spec_l1Cur_width.calls g l0 0 0  t1 t2 t3 w _ ?side1 ?side2 A1.out).mono ?_; (case side1 => exact DstC.isS (by repeat (first | (with_reducible first | exact HD.out | apply DstC.drewN | apply DstC.drew) | exact HD.out))); (case side2 => exact DstC.bel (by repeat (first | (with_reducible first | exact HD.out | apply DstC.drewN | apply DstC.drew) | exact HD.out))); rintro e wz ⟨rfl, hi, hb, hk⟩; refine ⟨_, rfl, ?_⟩; have n0_ := xm (DstC.call (by repeat (first | (with_reducible first | exact HD.out | apply DstC.drewN | apply DstC.drew) | exact HD.out)) hi hb hk); clear HD hi hb; revert n0_; intro HD; clear hk)
   | ((with_reducible refine gate_callee (f := 14) rfl ?_); refine goesL_ (some 12) rfl rfl Try.func14 (by kernel_rfl) rfl #[.pointer (some ⟨g, 0, none⟩), .int .i64 t1] rfl mB ?_; refine (spec_l1Cur_row.calls k g l0 t2 t3 t1 u1 u2 u3 w _ ?side1 ?side2 A2.out).mono ?_; (case side1 => exact DstC.isS (by repeat (first | (with_reducible first | exact HD.out | apply DstC.drewN | apply DstC.drew) | exact HD.out))); (case side2 => exact DstC.bel (by repeat (first | (with_reducible first | exact HD.out | apply DstC.drewN | apply DstC.drew) | exact HD.out))); rintro e wz ⟨v0_, rfl, ho, hi, hb, hk⟩; refine ⟨_, rfl, ?_⟩; obtain ⟨AHO, cHO, eo⟩ := Kd.R_slice ho; subst eo; have n0_ := xm (DstC.call (by repeat (first | (with_reducible first | exact HD.out | apply DstC.drewN | apply DstC.drew) | exact HD.out)) hi hb hk); have n1_ := xm (Kd.R_lower ho (xz (DstC.bel (by repeat (first | (with_reducible first | exact HD.out | apply DstC.drewN | apply DstC.drew) | exact HD.out))))); clear HD hi hb hk ho; revert n0_ n1_; intro HD HO)
   | ((with_reducible refine gate_dst (N := 5) rfl ?_); refine box_event ?hg (N := 5) ?hd (cs := #[.slice none 0 0]) (t := 25) ?hr ?_; (case hd => rfl); (case hg => rfl); (case hr => first | (go_simp; done) | (go_simp; rfl) | exact zB); intro g5 hg w1 hbox hb; have n0_ := xm (DstC.below (by repeat (first | (with_reducible first | exact HD.out | apply DstC.drewN | apply DstC.drew) | exact HD.out)) hb); have n1_ := xm (Kd.R_below (by (with_reducible repeat (first | apply Kd.R_alloc | apply Kd.R_drewN | apply Kd.R_drew)); exact HO.out) hb); have n2_ := xm hbox; have n3_ := xm (show w.heap.size ≤ g5 ∧ g5 ≠ g ∧ g5 ≠ g2 ∧ g5 ≠ g3 from ⟨by rw [hg]; exact xz (DstC.bel (by repeat (first | (with_reducible first | exact HD.out | apply DstC.drewN | apply DstC.drew) | exact HD.out))), by rw [hg]; exact Nat.ne_of_gt (DstC.ltS (by repeat (first | (with_reducible first | exact HD.out | apply DstC.drewN | apply DstC.drew) | exact HD.out))).1, by rw [hg]; exact Nat.ne_of_gt (DstC.ltS (by repeat (first | (with_reducible first | exact HD.out | apply DstC.drewN | apply DstC.drew) | exact HD.out))).2.1, by rw [hg]; exact Nat.ne_of_gt (DstC.ltS (by repeat (first | (with_reducible first | exact HD.out | apply DstC.drewN | apply DstC.drew) | exact HD.out))).2.2⟩); clear HD HO hbox hb hg; revert n0_ n1_ n2_ n3_; intro HD HO B5 G5; obtain ⟨hc5, hf5⟩ := cz1 B5.out)
   | ((with_reducible refine gate_callee (f := 16) rfl ?_); refine goesL_ (some 14) rfl rfl Try.func16 (by kernel_rfl) rfl #[.pointer (some ⟨g, 0, none⟩), .int .i64 4] rfl mB ?_; refine (spec_l1Cur_one.calls g l0 u2 u3 4 true o2 o3 w _ ?side1 ?side2 A4.out).mono ?_; (case side1 => exact (by (with_reducible repeat (first | apply DstC.drewN | apply DstC.drew)); exact DstC.far HD.out G5.out _ : DstC w _ g g2 g3 l0 u2 u3).1); (case side2 => exact (by (with_reducible repeat (first | apply DstC.drewN | apply DstC.drew)); exact DstC.far HD.out G5.out _ : DstC w _ g g2 g3 l0 u2 u3).2.1); rintro e wz ⟨rfl, hi, hb, hk⟩; refine ⟨_, rfl, ?_⟩; have n0_ := xm (DstC.call (by (with_reducible repeat (first | apply DstC.drewN | apply DstC.drew)); exact DstC.far HD.out G5.out _) hi hb hk); have n1_ := xm (KeepBut.blk hk (by (with_reducible repeat (first | refine xq ?_ _ | refine xr ?_)); exact blk_put B5.out 0 (.slice AHO u1.length cHO) rfl) G5.out.2.1 (by simp)); have n2_ := xm (Kd.R_mono (Kd.R_keep (ok := fun k_ => (True ∧ k_ ≠ g5) ∧ k_ ≠ g) (g := g) (by (with_reducible repeat (first | apply Kd.R_drewN | apply Kd.R_drew)); exact Kd.R_far (p := ⟨g5, 0, none⟩) (HD.out.1.apart (Kd.R_types HO.out B5.out (by decide)) (by decide)) (fun k_ h_ => h_.1.2) (.slice AHO u1.length cHO)) hk (fun k_ h_ => h_.2)) (ok' := fun _ => True) (fun _ _ => trivial)); clear HD B5 HO hi hb hk hc5 hf5; revert n0_ n1_ n2_; intro HD B5 HO))
  have n0_ := xm (DstC.drew HD.out)
  have n1_ := xm (Kd.R_drew HO.out)
  have n2_ := xm (xr B5.out)
  refine start_ (n := 4) (S := fun w' => w'.cell? ⟨g5, 0, none⟩ = some (.slice AHO u1.length cHO)) (ds := [3]) #[false, false, false, false] (by kernel_rfl) rfl rfl ((xc n2_.out 0).trans rfl) (fun hHeld => ?_)
  clear HD HO B5
  revert n0_ n1_ n2_; intro HD HO B5
  generalize World.drew _ = wu at HD HO B5 hHeld ⊢
  refine take_ (i := 0) (N := some 15) (v := ?_) (a' := ?_) #[true, false, false, false] rfl rfl (by kernel_rfl) (fun _ _ _ h => h) (Or.inl ⟨by rfl, ?_⟩) hHeld ?_ ?_
  rotate_left
  ·intro w' s0
   go_simp
   with_reducible rfl
  rotate_left
  ·simp only [Act.put, xi, xj, xk, i64_w, i32_w]
   rfl
  refine take_ (i := 1) (N := some 16) (v := ?_) (a' := ?_) #[true, true, false, false] rfl rfl (by kernel_rfl) (fun _ _ _ h => h) (Or.inl ⟨by rfl, ?_⟩) hHeld ?_ ?_
  rotate_left
  ·intro w' s0
   go_simp
   with_reducible rfl
  rotate_left
  ·simp only [Act.put, xi, xj, xk, i64_w, i32_w]
   rfl
  obtain ⟨hc2, hf2⟩ := cz1 HD.out.2.2.1
  obtain ⟨hc3, hf3⟩ := cz1 HD.out.2.2.2.1
  have n23 := HD.out.2.2.2.2.2.2.1
  have n32 := Ne.symm n23
  refine one_ (i := 2) (N := none) #[true, true, true, false] rfl rfl (by kernel_rfl) (by decide) (fun K hK => ?_)
  refine skip_ (by rfl) rfl (w1 := wu.setCell ⟨g2, 0, none⟩ (.slice AHO u1.length cHO)) zB ?_
  refine hK.out _ _ ((xc (blk_far (p := ⟨g2, 0, none⟩) B5.out G5.out.2.2.1 (.slice AHO u1.length cHO)) 0).trans rfl) (fun hHeld2 => ?_)
  clear hK K
  refine last_ (i := 3) (N := none) #[true, true, true, true] rfl rfl (by kernel_rfl) (by decide) (fun K hK => ?_)
  refine skip_ (by rfl) rfl (w1 := (wu.setCell ⟨g2, 0, none⟩ (.slice AHO u1.length cHO)).setCell ⟨g3, 0, none⟩ (.slice AHO u1.length cHO)) zB ?_
  refine hK.out _ _ ?_
  clear hK K
  refine done_ (by kernel_rfl) ?_
  clear hc2 hf2 hc3 hf3
  have e2 := blk_far (p := ⟨g3, 0, none⟩) (blk_put HD.out.2.2.1 0 (.slice AHO u1.length cHO) rfl) n23 (.slice AHO u1.length cHO)
  have e3 := blk_put (blk_far (p := ⟨g2, 0, none⟩) HD.out.2.2.2.1 n32 (.slice AHO u1.length cHO)) 0 (.slice AHO u1.length cHO) rfl
  go_wp2
  refine bodyPost_ret (results_cc rfl _ _ g2 g3 25 25 #[.slice AHO u1.length cHO] #[.slice AHO u1.length cHO] (0, 0) (0, 0) _ _ rfl e2 hu25 rfl (by kernel_rfl) rfl e3 hu25 rfl (by kernel_rfl)) rfl ?_
  have far : ∀ {v : Value} {xs : List Int}, Kd.R (Kd.int .i64) 3 wu w.heap.size (fun _ => True) v xs → Kd.R (Kd.int .i64) 3 ((wu.setCell ⟨g2, 0, none⟩ (.slice AHO u1.length cHO)).setCell ⟨g3, 0, none⟩ (.slice AHO u1.length cHO)) w.heap.size (fun _ => True) v xs := fun h => Kd.R_mono (Kd.R_far (p := ⟨g3, 0, none⟩) (Kd.R_far (p := ⟨g2, 0, none⟩) (Kd.R_types (Kd.R_types h HD.out.2.2.1 (by decide)) HD.out.2.2.2.1 (by decide)) (fun _ h_ => h_.1.2) _) (fun _ h_ => h_.2) _) (fun _ _ => trivial)
  exact ⟨_, _, rfl, far HO.out, far HO.out, (HD.out.2.1.setCell (p := ⟨g2, 0, none⟩) HD.out.2.2.2.2.1 _).setCell (p := ⟨g3, 0, none⟩) HD.out.2.2.2.2.2.1 _⟩
 | false =>
  replace H : ((spec_l1Cur_width.f l0 o2 o3).bind fun p => (spec_l1Cur_row.f k l0 p.2.1 p.2.2 p.1).bind fun q => some (u1, q.1)) = some (r1, r2) := H
  obtain ⟨⟨p1, p2, p3⟩, a5, H⟩ := Option.bind_eq_some_iff.mp H
  obtain ⟨⟨q1, q2, q3⟩, a6, H⟩ := Option.bind_eq_some_iff.mp H
  have A5 := xm a5
  have A6 := xm a6
  clear a5 a6
  obtain ⟨rfl, rfl⟩ := Prod.mk.inj (Option.some.inj (show some (u1, q1) = some (r1, r2) from H))
  clear H
  go_enter Try.func4, Try.ntmps4
  go_wp2_with (first
   | ((with_reducible refine gate_dst (N := 2) rfl ?_); refine box_event ?hg (N := 2) ?hd (cs := #[.slice none 0 0]) (t := 25) ?hr ?_; (case hd => rfl); (case hg => rfl); (case hr => first | (go_simp; done) | (go_simp; rfl) | exact zB); intro g2 hg w1 hbox hb; have n1_ := xm (below_step bB hb); have n2_ := xm hbox; have n3_ := xm (show w.heap.size ≤ g2 from by rw [hg]; exact xz bB); clear HB hbox hb hg; revert n1_ n2_ n3_; intro HB B2 G2)
   | ((with_reducible refine gate_dst (N := 3) rfl ?_); refine box_event ?hg (N := 3) ?hd (cs := #[.slice none 0 0]) (t := 25) ?hr ?_; (case hd => rfl); (case hg => rfl); (case hr => first | (go_simp; done) | (go_simp; rfl) | exact zB); intro g3 hg w1 hbox hb; have n0_ := xm (blk_below (by (with_reducible repeat (first | refine xq ?_ _ | refine xr ?_ | refine xo ?_ _)); exact B2.out) hb); have n1_ := xm (below_step bB hb); have n2_ := xm hbox; have n3_ := xm (show w.heap.size ≤ g3 from by rw [hg]; exact xz bB); have n4_ := xm (show g2 ≠ g3 from by rw [hg]; exact Nat.ne_of_lt (blk_lt (by (with_reducible repeat (first | refine xq ?_ _ | refine xr ?_ | refine xo ?_ _)); exact B2.out))); clear B2 HB hbox hb hg; revert n0_ n1_ n2_ n3_ n4_; intro B2 HB B3 G3 N23)
   | ((with_reducible refine gate_dst (N := 8) rfl ?_); refine box_event ?hg (N := 8) ?hd (cs := #[.slice A0 l0.length c0, .int .i64 0, .int .u64 0]) (t := 41) ?hr ?_; (case hd => rfl); (case hg => rfl); (case hr => exact zB); intro g hg w1 hbox hb; have n0_ := xm (show DstC w w1 g g2 g3 l0 0 0 from ⟨⟨A0, c0, hbox, by rw [hg]; exact xz bB, HR.out⟩, below_step bB hb, blk_below (by (with_reducible repeat (first | refine xq ?_ _ | refine xr ?_ | refine xo ?_ _)); exact B2.out) hb, blk_below (by (with_reducible repeat (first | refine xq ?_ _ | refine xr ?_ | refine xo ?_ _)); exact B3.out) hb, G2.out, G3.out, N23.out, by rw [hg]; exact Nat.ne_of_lt (blk_lt (by (with_reducible repeat (first | refine xq ?_ _ | refine xr ?_ | refine xo ?_ _)); exact B2.out)), by rw [hg]; exact Nat.ne_of_lt (blk_lt (by (with_reducible repeat (first | refine xq ?_ _ | refine xr ?_ | refine xo ?_ _)); exact B3.out))⟩); clear HB B2 B3 hbox hb hg; revert n0_; intro HD)
   | ((with_reducible refine gate_callee (f := 15) rfl ?_); refine goesL_ (some 11) rfl rfl Try.func15 (by kernel_rfl) rfl #[.pointer (some ⟨g, 0, none⟩)] rfl mB ?_; refine (spec_l1Cur_width.calls g l0 0 0  t1 t2 t3 w _ ?side1 ?side2 A1.out).mono ?_; (case side1 => exact DstC.isS (by repeat (first | (with_reducible first | exact HD.out | apply DstC.drewN | apply DstC.drew) | exact HD.out))); (case side2 => exact DstC.bel (by repeat (first | (with_reducible first | exact HD.out | apply DstC.drewN | apply DstC.drew) | exact HD.out))); rintro e wz ⟨rfl, hi, hb, hk⟩; refine ⟨_, rfl, ?_⟩; have n0_ := xm (DstC.call (by repeat (first | (with_reducible first | exact HD.out | apply DstC.drewN | apply DstC.drew) | exact HD.out)) hi hb hk); clear HD hi hb; revert n0_; intro HD; clear hk)
   | ((with_reducible refine gate_callee (f := 14) rfl ?_); refine goesL_ (some 12) rfl rfl Try.func14 (by kernel_rfl) rfl #[.pointer (some ⟨g, 0, none⟩), .int .i64 t1] rfl mB ?_; refine (spec_l1Cur_row.calls k g l0 t2 t3 t1 u1 u2 u3 w _ ?side1 ?side2 A2.out).mono ?_; (case side1 => exact DstC.isS (by repeat (first | (with_reducible first | exact HD.out | apply DstC.drewN | apply DstC.drew) | exact HD.out))); (case side2 => exact DstC.bel (by repeat (first | (with_reducible first | exact HD.out | apply DstC.drewN | apply DstC.drew) | exact HD.out))); rintro e wz ⟨v0_, rfl, ho, hi, hb, hk⟩; refine ⟨_, rfl, ?_⟩; obtain ⟨AHO, cHO, eo⟩ := Kd.R_slice ho; subst eo; have n0_ := xm (DstC.call (by repeat (first | (with_reducible first | exact HD.out | apply DstC.drewN | apply DstC.drew) | exact HD.out)) hi hb hk); have n1_ := xm (Kd.R_lower ho (xz (DstC.bel (by repeat (first | (with_reducible first | exact HD.out | apply DstC.drewN | apply DstC.drew) | exact HD.out))))); clear HD hi hb hk ho; revert n0_ n1_; intro HD HO)
   | ((with_reducible refine gate_dst (N := 5) rfl ?_); refine box_event ?hg (N := 5) ?hd (cs := #[.slice none 0 0]) (t := 25) ?hr ?_; (case hd => rfl); (case hg => rfl); (case hr => first | (go_simp; done) | (go_simp; rfl) | exact zB); intro g5 hg w1 hbox hb; have n0_ := xm (DstC.below (by repeat (first | (with_reducible first | exact HD.out | apply DstC.drewN | apply DstC.drew) | exact HD.out)) hb); have n1_ := xm (Kd.R_below (by (with_reducible repeat (first | apply Kd.R_alloc | apply Kd.R_drewN | apply Kd.R_drew)); exact HO.out) hb); have n2_ := xm hbox; have n3_ := xm (show w.heap.size ≤ g5 ∧ g5 ≠ g ∧ g5 ≠ g2 ∧ g5 ≠ g3 from ⟨by rw [hg]; exact xz (DstC.bel (by repeat (first | (with_reducible first | exact HD.out | apply DstC.drewN | apply DstC.drew) | exact HD.out))), by rw [hg]; exact Nat.ne_of_gt (DstC.ltS (by repeat (first | (with_reducible first | exact HD.out | apply DstC.drewN | apply DstC.drew) | exact HD.out))).1, by rw [hg]; exact Nat.ne_of_gt (DstC.ltS (by repeat (first | (with_reducible first | exact HD.out | apply DstC.drewN | apply DstC.drew) | exact HD.out))).2.1, by rw [hg]; exact Nat.ne_of_gt (DstC.ltS (by repeat (first | (with_reducible first | exact HD.out | apply DstC.drewN | apply DstC.drew) | exact HD.out))).2.2⟩); clear HD HO hbox hb hg; revert n0_ n1_ n2_ n3_; intro HD HO B5 G5; obtain ⟨hc5, hf5⟩ := cz1 B5.out)
   | ((with_reducible refine gate_callee (f := 16) rfl ?_); refine goesL_ (some 14) rfl rfl Try.func16 (by kernel_rfl) rfl #[.pointer (some ⟨g, 0, none⟩), .int .i64 4] rfl mB ?_; refine (spec_l1Cur_one.calls g l0 u2 u3 4 false o2 o3 w _ ?side1 ?side2 A4.out).mono ?_; (case side1 => exact (by (with_reducible repeat (first | apply DstC.drewN | apply DstC.drew)); exact DstC.far HD.out G5.out _ : DstC w _ g g2 g3 l0 u2 u3).1); (case side2 => exact (by (with_reducible repeat (first | apply DstC.drewN | apply DstC.drew)); exact DstC.far HD.out G5.out _ : DstC w _ g g2 g3 l0 u2 u3).2.1); rintro e wz ⟨rfl, hi, hb, hk⟩; refine ⟨_, rfl, ?_⟩; have n0_ := xm (DstC.call (by (with_reducible repeat (first | apply DstC.drewN | apply DstC.drew)); exact DstC.far HD.out G5.out _) hi hb hk); have n1_ := xm (KeepBut.blk hk (by (with_reducible repeat (first | refine xq ?_ _ | refine xr ?_)); exact blk_put B5.out 0 (.slice AHO u1.length cHO) rfl) G5.out.2.1 (by simp)); have n2_ := xm (Kd.R_mono (Kd.R_keep (ok := fun k_ => (True ∧ k_ ≠ g5) ∧ k_ ≠ g) (g := g) (by (with_reducible repeat (first | apply Kd.R_drewN | apply Kd.R_drew)); exact Kd.R_far (p := ⟨g5, 0, none⟩) (HD.out.1.apart (Kd.R_types HO.out B5.out (by decide)) (by decide)) (fun k_ h_ => h_.1.2) (.slice AHO u1.length cHO)) hk (fun k_ h_ => h_.2)) (ok' := fun _ => True) (fun _ _ => trivial)); clear HD B5 HO hi hb hk hc5 hf5; revert n0_ n1_ n2_; intro HD B5 HO))
  have n0_ := xm (DstC.drew HD.out)
  have n1_ := xm (Kd.R_drew HO.out)
  have n2_ := xm (xr B5.out)
  refine start_ (n := 7) (S := fun w' => w'.cell? ⟨g5, 0, none⟩ = some (.slice AHO u1.length cHO)) (ds := [5, 6]) #[false, false, false, false, false, false, false] (by kernel_rfl) rfl rfl ((xc n2_.out 0).trans rfl) (fun hHeld => ?_)
  clear HD HO B5
  revert n0_ n1_ n2_; intro HD HO B5
  generalize World.drew _ = wu at HD HO B5 hHeld ⊢
  refine take_ (i := 0) (N := some 17) (v := ?_) (a' := ?_) #[true, false, false, false, false, false, false] rfl rfl (by kernel_rfl) (fun _ _ _ h => h) (Or.inl ⟨by rfl, ?_⟩) hHeld ?_ ?_
  rotate_left
  ·intro w' s0
   go_simp
   with_reducible rfl
  rotate_left
  ·simp only [Act.put, xi, xj, xk, i64_w, i32_w]
   rfl
  refine px 1 7 3 (by kernel_rfl) ?_
  refine px 2 7 7 (by kernel_rfl) ?_
  refine one_ (i := 3) (N := some 20) #[true, true, true, true, false, false, false] rfl rfl (by kernel_rfl) (by decide) (fun K hK => ?_)
  refine goes_ Try.func15 (by kernel_rfl) rfl #[.pointer (some ⟨g, 0, none⟩)] (by rfl) rfl rfl mB ?_
  refine (spec_l1Cur_width.calls g l0 o2 o3 p1 p2 p3 w _ HD.out.1 HD.out.2.1 A5.out).mono ?_
  rintro e wv ⟨rfl, hi, hb, hk⟩
  refine ⟨_, rfl, ?_⟩
  have n0_ := xm (DstC.call HD.out hi hb hk)
  have n1_ := xm (KeepBut.blk hk B5.out G5.out.2.1 (by simp))
  have n2_ := xm (Kd.R_mono (Kd.R_keep (ok := fun k_ => True ∧ k_ ≠ g) (g := g) (HD.out.1.apart HO.out (by decide)) hk (fun k_ h_ => h_.2)) (ok' := fun _ => True) (fun _ _ => trivial))
  clear HD B5 HO hi hb hk hHeld
  revert n0_ n1_ n2_; intro HD B5 HO
  refine hK.out _ _ ((xc B5.out 0).trans rfl) (fun hHeld => nC ?_)
  clear hK K
  refine one_ (i := 4) (N := some 21) #[true, true, true, true, true, false, false] rfl rfl (by kernel_rfl) (by decide) (fun K hK => ?_)
  refine goes_ Try.func14 (by kernel_rfl) rfl #[.pointer (some ⟨g, 0, none⟩), .int .i64 p1] (by rfl) rfl rfl mB ?_
  refine (spec_l1Cur_row.calls k g l0 p2 p3 p1 q1 q2 q3 w _ HD.out.1 HD.out.2.1 A6.out).mono ?_
  rintro e wx ⟨v0_, rfl, ho, hi, hb, hk⟩
  refine ⟨_, rfl, ?_⟩
  obtain ⟨AHP, cHP, eo⟩ := Kd.R_slice ho
  subst eo
  have n0_ := xm (DstC.call HD.out hi hb hk)
  have n1_ := xm (KeepBut.blk hk B5.out G5.out.2.1 (by simp))
  have n2_ := xm (Kd.R_mono (Kd.R_keep (ok := fun k_ => True ∧ k_ ≠ g) (g := g) (HD.out.1.apart HO.out (by decide)) hk (fun k_ h_ => h_.2)) (ok' := fun _ => True) (fun _ _ => trivial))
  have n3_ := xm (Kd.R_lower ho (xz HD.out.2.1))
  clear HD B5 HO hi hb hk ho hHeld
  revert n0_ n1_ n2_ n3_; intro HD B5 HO HP
  refine hK.out _ _ ((xc B5.out 0).trans rfl) (fun hHeld => nC ?_)
  clear hK K
  obtain ⟨hc2, hf2⟩ := cz1 HD.out.2.2.1
  obtain ⟨hc3, hf3⟩ := cz1 HD.out.2.2.2.1
  have n23 := HD.out.2.2.2.2.2.2.1
  have n32 := Ne.symm n23
  refine last_ (i := 5) (N := none) #[true, true, true, true, true, true, false] rfl rfl (by kernel_rfl) (by decide) (fun K hK => ?_)
  refine skip_ (by rfl) rfl (w1 := wx.setCell ⟨g2, 0, none⟩ (.slice AHO u1.length cHO)) zB ?_
  refine hK.out _ _ ?_
  clear hK K
  refine last_ (i := 6) (N := none) #[true, true, true, true, true, true, true] rfl rfl (by kernel_rfl) (by decide) (fun K hK => ?_)
  refine skip_ (by rfl) rfl (w1 := (wx.setCell ⟨g2, 0, none⟩ (.slice AHO u1.length cHO)).setCell ⟨g3, 0, none⟩ (.slice AHP q1.length cHP)) zB ?_
  refine hK.out _ _ ?_
  clear hK K
  refine done_ (by kernel_rfl) ?_
  clear hc2 hf2 hc3 hf3
  have e2 := blk_far (p := ⟨g3, 0, none⟩) (blk_put HD.out.2.2.1 0 (.slice AHO u1.length cHO) rfl) n23 (.slice AHP q1.length cHP)
  have e3 := blk_put (blk_far (p := ⟨g2, 0, none⟩) HD.out.2.2.2.1 n32 (.slice AHO u1.length cHO)) 0 (.slice AHP q1.length cHP) rfl
  go_wp2
  refine bodyPost_ret (results_cc rfl _ _ g2 g3 25 25 #[.slice AHO u1.length cHO] #[.slice AHP q1.length cHP] (0, 0) (0, 0) _ _ rfl e2 hu25 rfl (by kernel_rfl) rfl e3 hu25 rfl (by kernel_rfl)) rfl ?_
  have far : ∀ {v : Value} {xs : List Int}, Kd.R (Kd.int .i64) 3 wx w.heap.size (fun _ => True) v xs → Kd.R (Kd.int .i64) 3 ((wx.setCell ⟨g2, 0, none⟩ (.slice AHO u1.length cHO)).setCell ⟨g3, 0, none⟩ (.slice AHP q1.length cHP)) w.heap.size (fun _ => True) v xs := fun h => Kd.R_mono (Kd.R_far (p := ⟨g3, 0, none⟩) (Kd.R_far (p := ⟨g2, 0, none⟩) (Kd.R_types (Kd.R_types h HD.out.2.2.1 (by decide)) HD.out.2.2.2.1 (by decide)) (fun _ h_ => h_.1.2) _) (fun _ h_ => h_.2) _) (fun _ _ => trivial)
  exact ⟨_, _, rfl, far HO.out, far HP.out, (HD.out.2.1.setCell (p := ⟨g2, 0, none⟩) HD.out.2.2.2.2.1 _).setCell (p := ⟨g3, 0, none⟩) HD.out.2.2.2.2.2.1 _⟩

/-! ### slices_IndexFunc_Lint_int: function 35 -/
set_option maxHeartbeats 8000000 in
set_option maxRecDepth 100000 in
theorem slices_IndexFunc_Lint_int.any (g : Nat) (lb : Array Value) (eg : ∀ args w, (callFunc g args).run Try.prog w = .ok (.enter g args) w) (pf : Int → Option Bool)
  (A0 : Option Addr) (c0 : Nat) (l0 : List Int) (r : Int) (w : World) (hr0 : Kd.C (Kd.int .i64) w A0 l0.length l0) (hc0 : l0.length ≤ c0) (hp : PB Try.prog g lb (Kd.int .i64) encOne pf w) (h : idxO pf l0 0 = some r) :
  Calls Try.prog 35 #[.slice A0 l0.length c0, .func (.func g) #[] lb] w fun e w' => e = .returned (.int .i64 r) ∧ Below w.heap.size w w' := by
 have HR0 := xm hr0
 have HP := xm hp
 have H' := xm h
 have HB := xm (Below.refl w.heap.size w)
 have hn : (l0.length : Int) ≤ 9223372036854775807 := by have := hr0.2.1; omega
 clear hr0 hp h hc0
 go_enter Try.func35, Try.ntmps35
 go_wp2
 go_loopg [5, 8] l0.length (fun kq v5 v8 w' => ∃ kk : Nat, v8 = .int .i64 kk ∧ kk ≤ l0.length ∧ l0.length - kk ≤ kq ∧ Aside0 (idxO pf (l0.drop kk) kk = some r) ∧ Aside0 (Below w.heap.size w w'))
 case atStart => exact ⟨0, rfl, Nat.zero_le _, by omega, H', HB⟩
 case round =>
  clear H' HB
  obtain ⟨kk, rfl, hkk, hg, HA, HB⟩ := hrel
  by_cases hlt : kk < l0.length
  ·have hlti : (kk : Int) < (l0.length : Int) := by omega
   obtain ⟨ad, e0, hx0⟩ := Kd.at_int HR0.out (kk : Int) (by omega) hlti
   cases e0
   replace hx0 := hU hx0
   simp only [Int.toNat_natCast] at hx0
   have H := HA.out
   rw [List.drop_eq_getElem_cons hlt] at H
   unfold idxO at H
   have hrd : l0[kk] = rd l0 (kk : Int) := by simp [rd, hlt]
   rw [hrd] at H
   obtain ⟨b, hb, H⟩ := Option.bind_eq_some_iff.mp H
   have hcall := HP.out _ (rd l0 (kk : Int)) [.int .i64 (rd l0 (kk : Int))] b HB.out rfl hb
   have HL := xm hcall
   clear hcall hb HA
   clear hrd
   simp only [encOne, encAgg, List.headD_cons] at HL
   cases b with
   | true =>
    obtain rfl := Option.some.inj H
    go_wp2_with (go_at_fn g; refine HL.out.mono ?_; rintro e w' ⟨rfl, hb'⟩)
    go_ret
    exact ⟨rfl, below_step HB.out hb'⟩
   | false =>
    have H1 := xm H
    clear H
    go_wp2_with (go_at_fn g; refine HL.out.mono ?_; rintro e w' ⟨rfl, hb'⟩)
    go_roundg (l0.length - (kk + 1))
    case measure => omega
    case rel => exact ⟨kk + 1, by go_num, by omega, by omega, ⟨by have := H1.out; simpa using this⟩, ⟨below_step HB.out hb'⟩⟩
  ·have : kk = l0.length := by omega
   subst this
   have H := HA.out
   rw [List.drop_length] at H
   unfold idxO at H
   obtain rfl := Option.some.inj H
   clear H HA
   go_wp2
   go_ret
   exact ⟨rfl, HB.out⟩

/-! ### slices_ContainsFunc_Lint_int: function 31 -/
set_option maxHeartbeats 8000000 in
set_option maxRecDepth 100000 in
theorem slices_ContainsFunc_Lint_int.any (g : Nat) (lb : Array Value) (eg : ∀ args w, (callFunc g args).run Try.prog w = .ok (.enter g args) w) (pf : Int → Option Bool)
  (A0 : Option Addr) (c0 : Nat) (l0 : List Int) (r : Bool) (w : World) (hr0 : Kd.C (Kd.int .i64) w A0 l0.length l0) (hc0 : l0.length ≤ c0) (hp : PB Try.prog g lb (Kd.int .i64) encOne pf w) (h : anyO pf l0 = some r) :
  Calls Try.prog 31 #[.slice A0 l0.length c0, .func (.func g) #[] lb] w fun e w' => e = .returned (.bool r) ∧ Below w.heap.size w w' := by
 rw [← idxO_any pf l0 0 (Int.le_refl 0)] at h
 obtain ⟨i, hi, hri⟩ := Option.map_eq_some_iff.mp h
 have HC := xm (slices_IndexFunc_Lint_int.any g lb eg pf A0 c0 l0 i w hr0 hc0 hp hi)
 have HR := xm hri
 clear hr0 hc0 hp h hi hri eg
 go_enter Try.func31, Try.ntmps31
 go_wp2_with (go_at_call 35; refine HC.out.mono ?_; rintro e w' ⟨rfl, hb⟩)
 go_ret
 exact ⟨by first | rfl | (rw [HR.out]; rfl) | rw [HR.out], hb⟩

/-! ### impl_areAll_int_1: function 32 -/
set_option maxHeartbeats 8000000 in
set_option maxRecDepth 100000 in
theorem impl_areAll_int_1.pb (g : Nat) (lb : Array Value) (eg : ∀ args w, (callFunc g args).run Try.prog w = .ok (.enter g args) w) (pf : Int → Option Bool) (w w1 : World) (b0 : Nat) (hw : Below w.heap.size w w1)
  (hbk : w1.heap[b0]? = some (.cells #[.func (.func g) #[] lb] 44 (0, 0))) (hp : PB Try.prog g lb (Kd.int .i64) encOne pf w) :
  PB Try.prog 32 #[.pointer (some ⟨b0, 0, none⟩)] (Kd.int .i64) encOne (fun x => (pf x).map (!·)) w1 := by
 intro W x cs b hW hK hb
 obtain ⟨b1, hb1, rfl⟩ := Option.map_eq_some_iff.mp hb
 have hWw := below_step hw hW
 have hbW := blk_below hW hbk
 have HL := xm (hp W x cs b1 hWw hK hb1)
 obtain rfl : cs = [.int .i64 x] := hK
 have hcz : W.cell? ⟨b0, 0, none⟩ = some (.func (.func g) #[] lb) := (xc hbW 0).trans rfl
 clear hp hb hb1 hWw hbW hW hbk hw
 simp only [encOne, encAgg, List.headD_cons] at HL ⊢
 go_enter Try.func32, Try.ntmps32
 go_wp2_with (go_at_fn g; refine HL.out.mono ?_; rintro e w' ⟨rfl, hb'⟩)
 go_ret
 exact ⟨rfl, hb'⟩

/-! ### impl_areAll_int: function 21 -/
theorem enters32 : ∀ args w, (callFunc 32 args).run Try.prog w = .ok (.enter 32 args) w := enters_of Try.func32 (by kernel_rfl) rfl
set_option maxHeartbeats 8000000 in
set_option maxRecDepth 100000 in
theorem impl_areAll_int.any (g : Nat) (lb : Array Value) (eg : ∀ args w, (callFunc g args).run Try.prog w = .ok (.enter g args) w) (pf : Int → Option Bool)
  (A0 : Option Addr) (c0 : Nat) (l0 : List Int) (r : Bool) (w : World) (hr0 : Kd.C (Kd.int .i64) w A0 l0.length l0) (hc0 : l0.length ≤ c0) (hp : PB Try.prog g lb (Kd.int .i64) encOne pf w) (h : allO pf l0 = some r) :
  Calls Try.prog 21 #[.slice A0 l0.length c0, .func (.func g) #[] lb] w fun e w' => e = .returned (.bool r) ∧ Below w.heap.size w w' := by
 rw [← any_all pf l0] at h
 obtain ⟨b, hb, rfl⟩ := Option.map_eq_some_iff.mp h
 have hB1 : Below w.heap.size w (w.alloc (.cells #[.func (.func g) #[] lb] 44)) := xa (Below.refl _ _) _
 have HC := xm (slices_ContainsFunc_Lint_int.any 32 #[.pointer (some ⟨w.heap.size, 0, none⟩)] enters32 _ A0 c0 l0 b _ (Kd.C_below hr0 hB1) hc0 (impl_areAll_int_1.pb g lb eg pf w _ w.heap.size hB1 (heap_new w _ _) hp) hb)
 have HB1 := xm hB1
 clear hr0 hc0 hp h hb eg hB1
 go_enter Try.func21, Try.ntmps21
 go_wp2_with (go_at_call 31; refine HC.out.mono ?_; rintro e w' ⟨rfl, hb⟩)
 go_ret
 exact ⟨rfl, below_step HB1.out hb⟩

/-! ### impl_within: function 24 -/
def impl_within.f (a0 : Int) (a1 : Int) (a2 : Int) : Option (Bool) := if a1 ≤ a0 then (some (decide (a0 ≤ a2))) else (some false)
set_option maxHeartbeats 8000000 in
set_option maxRecDepth 100000 in
theorem impl_within.calls (a0 : Int) (a1 : Int) (a2 : Int) (r : Bool) (w : World) (h : impl_within.f a0 a1 a2 = some r) :
  Calls Try.prog 24 #[.int .i64 a0, .int .i64 a1, .int .i64 a2] w fun e w' => e = .returned (.bool r) ∧ Drawn0 w w' := by
 have H : (if a1 ≤ a0 then (some (decide (a0 ≤ a2))) else (some false)) = some r := h
 clear h
 by_cases c4 : a1 ≤ a0
 ·rw [if_pos c4] at H
  have c4b0 : decide (a1 ≤ a0) = true := decide_eq_true c4
  clear c4
  obtain rfl := Option.some.inj H
  go_enter Try.func24, Try.ntmps24
  go_wp2
  go_ret
  exact ⟨sB, dB⟩
 ·rw [if_neg c4] at H
  have c4b0 : decide (a1 ≤ a0) = false := decide_eq_false c4
  clear c4
  obtain rfl := Option.some.inj H
  go_enter Try.func24, Try.ntmps24
  go_wp2
  go_ret
  exact ⟨sB, dB⟩

/-! ### impl_isCell: function 22 -/
def impl_isCell.f (a0 : Int) : Option (Bool) := (impl_within.f a0 (-100000) 100000).bind fun t147 => (some t147)
set_option maxHeartbeats 8000000 in
set_option maxRecDepth 100000 in
theorem impl_isCell.calls (a0 : Int) (r : Bool) (w : World) (h : impl_isCell.f a0 = some r) :
  Calls Try.prog 22 #[.int .i64 a0] w fun e w' => e = .returned (.bool r) ∧ Drawn0 w w' := by
 have H : ((impl_within.f a0 (-100000) 100000).bind fun t147 => (some t147)) = some r := h
 clear h
 replace H := Option.bind_eq_some_iff.mp H
 obtain ⟨t147, A20, H⟩ := H
 replace H : (some t147) = some r := H
 have A2 := xm A20
 clear A20
 obtain rfl := Option.some.inj H
 go_enter Try.func22, Try.ntmps22
 go_wp2_with (first | ((with_reducible refine gate_callee (f := 24) rfl ?_); refine goesL_ (some 4) rfl rfl Try.func24 (by kernel_rfl) rfl #[.int .i64 a0, .int .i64 (-100000), .int .i64 100000] rfl mB ?_; (with_reducible refine (impl_within.calls a0 (-100000) 100000 t147 _ A2.out).mono ?_); rintro e w' ⟨rfl, ⟨nd, rfl⟩⟩; refine ⟨_, rfl, ?_⟩))
 go_ret
 exact ⟨sB, dB⟩

/-! ### impl_areAll_int__impl_isCell: function 100000 -/
theorem enters22 : ∀ args w, (callFunc 22 args).run Try.prog w = .ok (.enter 22 args) w := enters_of Try.func22 (by kernel_rfl) rfl
def impl_areAll_int__impl_isCell.f (l0 : List Int)  : Option Bool := allO (fun x => impl_isCell.f x) l0
set_option maxHeartbeats 8000000 in
set_option maxRecDepth 100000 in
theorem impl_areAll_int__impl_isCell.calls (A0 : Option Addr) (c0 : Nat) (l0 : List Int)  (r : Bool) (w : World) (hr0 : Kd.C (Kd.int .i64) w A0 l0.length l0) (hc0 : l0.length ≤ c0) (h : impl_areAll_int__impl_isCell.f l0  = some r) :
  Calls Try.prog 21 #[.slice A0 l0.length c0, .func (.func 22) #[] #[]] w fun e w' => e = .returned (.bool r) ∧ Below w.heap.size w w' := by
 refine impl_areAll_int.any 22 #[] enters22 (fun x => impl_isCell.f x) A0 c0 l0 r w hr0 hc0 ?_ h
 intro W x cs b hW hK hb
 obtain rfl : cs = [.int .i64 x] := hK
 simp only [encOne, encAgg, List.headD_cons, app0, app1, app2, app3]
 refine (impl_isCell.calls x b W hb).mono ?_
 rintro e w' ⟨he, hd⟩
 exact ⟨he, hd.below⟩

/-! ### impl_GoodRow: function 9 -/
def impl_GoodRow.f (l0_0 : List Int) : Option (Bool) := if (l0_0.length : Int) ≤ 6 then ((impl_areAll_int__impl_isCell.f l0_0).bind fun t149 => (some t149)) else (some false)
set_option maxHeartbeats 8000000 in
set_option maxRecDepth 100000 in
theorem impl_GoodRow.calls (A0_0 : Option Addr) (c0_0 : Nat) (l0_0 : List Int) (r : Bool) (w : World) (hr0_0 : Kd.C (Kd.int .i64) w A0_0 l0_0.length l0_0) (hc0_0 : l0_0.length ≤ c0_0) (h : impl_GoodRow.f l0_0 = some r) :
  Calls Try.prog 9 #[.agg #[.slice A0_0 l0_0.length c0_0]] w fun e w' => e = .returned (.bool r) ∧ Below w.heap.size w w' := by
 have hu25 := Try.underlying25
 have HR0_0 := xm hr0_0
 have HC0_0 := xm hc0_0
 clear hr0_0 hc0_0
 have HB := xm (Below.refl w.heap.size w)
 have H : (if (l0_0.length : Int) ≤ 6 then ((impl_areAll_int__impl_isCell.f l0_0).bind fun t149 => (some t149)) else (some false)) = some r := h
 clear h
 by_cases c2 : (l0_0.length : Int) ≤ 6
 ·rw [if_pos c2] at H
  have c2b0 : decide ((l0_0.length : Int) ≤ 6) = true := decide_eq_true c2
  have c2b1 : decide (l0_0.length ≤ 6) = true := decide_eq_true (by omega)
  clear c2
  replace H := Option.bind_eq_some_iff.mp H
  obtain ⟨t149, A30, H⟩ := H
  replace H : (some t149) = some r := H
  have A3 := xm A30
  clear A30
  obtain rfl := Option.some.inj H
  go_enter Try.func9, Try.ntmps9
  go_wp2_with (first | ((with_reducible refine gate_dst (N := 1) rfl ?_); refine box_event ?hg (N := 1) ?hd (cs := #[.slice A0_0 l0_0.length c0_0]) (t := 25) ?hr ?_; (case hd => rfl); (case hg => rfl); (case hr => exact zB); intro gb148 hg w4 hbox hb; have n0_ := xm (below_step bB hb); have n1_ := xm (hbox); have n2_ := xm ((by rw [hg]; exact (xz bB) : w.heap.size ≤ gb148)); have n3_ := xm ((by rw [hg]; exact (xz bB) : w.heap.size ≤ gb148)); revert n0_ n1_ n2_ n3_; clear HB; intro HB BK148 GW148 GE148; clear hb hbox hg; obtain ⟨hcz5_0, hfz5_0⟩ := cz1 BK148.out) | (go_at_call 21; (with_reducible refine (impl_areAll_int__impl_isCell.calls _ _ l0_0 t149 _ ?side1 ?side2 A3.out).mono ?_); (case side1 => exact cB (Kd.C_below HR0_0.out HB.out)); (case side2 => exact HC0_0.out); rintro e w6 ⟨rfl, hb⟩; have n0_ := xm (blk_below (kB BK148) hb); have n1_ := xm (below_step bG hb); revert n0_ n1_; clear BK148 HB; intro BK148 HB; (try clear hb)))
  go_ret
  exact ⟨eB, bG⟩
 ·rw [if_neg c2] at H
  have c2b0 : decide ((l0_0.length : Int) ≤ 6) = false := decide_eq_false c2
  have c2b1 : decide (l0_0.length ≤ 6) = false := decide_eq_false (by omega)
  clear c2
  obtain rfl := Option.some.inj H
  go_enter Try.func9, Try.ntmps9
  go_wp2_with (first | ((with_reducible refine gate_dst (N := 1) rfl ?_); refine box_event ?hg (N := 1) ?hd (cs := #[.slice A0_0 l0_0.length c0_0]) (t := 25) ?hr ?_; (case hd => rfl); (case hg => rfl); (case hr => exact zB); intro gb148 hg w7 hbox hb; have n0_ := xm (below_step bB hb); have n1_ := xm (hbox); have n2_ := xm ((by rw [hg]; exact (xz bB) : w.heap.size ≤ gb148)); have n3_ := xm ((by rw [hg]; exact (xz bB) : w.heap.size ≤ gb148)); revert n0_ n1_ n2_ n3_; clear HB; intro HB BK148 GW148 GE148; clear hb hbox hg; obtain ⟨hcz8_0, hfz8_0⟩ := cz1 BK148.out))
  go_ret
  exact ⟨eB, bG⟩

/-! ### cmp_isNaN_int: function 36 -/
def cmp_isNaN_int.f (a0 : Int) : Option (Bool) := some (a0 != a0)
set_option maxHeartbeats 8000000 in
set_option maxRecDepth 100000 in
theorem cmp_isNaN_int.calls (a0 : Int) (r : Bool) (w : World) (h : cmp_isNaN_int.f a0 = some r) :
  Calls Try.prog 36 #[.int .i64 a0] w fun e w' => e = .returned (.bool r) ∧ Drawn0 w w' := by
 have H : (some (a0 != a0)) = some r := h
 clear h
 obtain rfl := Option.some.inj H
 go_enter Try.func36, Try.ntmps36
 go_wp2
 go_ret
 exact ⟨sB, dB⟩

/-! ### cmp_Compare_int: function 34 -/
def cmp_Compare_int.f (a0 : Int) (a1 : Int) : Option (Int) := (cmp_isNaN_int.f a0).bind fun t150 => ((cmp_isNaN_int.f a1).bind fun t151 => (if t150 = true then (if t151 = true then (some 0) else (some (-1))) else (if t151 = true then (some 1) else (if a0 < a1 then (some (-1)) else (if a0 > a1 then (some 1) else (some 0))))))
set_option maxHeartbeats 8000000 in
set_option maxRecDepth 100000 in
theorem cmp_Compare_int.calls (a0 : Int) (a1 : Int) (r : Int) (w : World) (h : cmp_Compare_int.f a0 a1 = some r) :
  Calls Try.prog 34 #[.int .i64 a0, .int .i64 a1] w fun e w' => e = .returned (.int .i64 r) ∧ Drawn0 w w' := by
 have H : ((cmp_isNaN_int.f a0).bind fun t150 => ((cmp_isNaN_int.f a1).bind fun t151 => (if t150 = true then (if t151 = true then (some 0) else (some (-1))) else (if t151 = true then (some 1) else (if a0 < a1 then (some (-1)) else (if a0 > a1 then (some 1) else (some 0))))))) = some r := h
 clear h
 replace H := Option.bind_eq_some_iff.mp H
 obtain ⟨t150, A30, H⟩ := H
 replace H : ((cmp_isNaN_int.f a1).bind fun t151 => (if t150 = true then (if t151 = true then (some 0) else (some (-1))) else (if t151 = true then (some 1) else (if a0 < a1 then (some (-1)) else (if a0 > a1 then (some 1) else (some 0)))))) = some r := H
 have A3 := xm A30
 clear A30
 replace H := Option.bind_eq_some_iff.mp H
 obtain ⟨t151, A40, H⟩ := H
 replace H : (if t150 = true then (if t151 = true then (some 0) else (some (-1))) else (if t151 = true then (some 1) else (if a0 < a1 then (some (-1)) else (if a0 > a1 then (some 1) else (some 0))))) = some r := H
 have A4 := xm A40
 clear A40
 by_cases c5 : t150 = true
 ·subst c5
  have H1 : (if t151 = true then (some 0) else (some (-1))) = some r := by first | (with_reducible rfl) | (rw [if_pos rfl] at H; exact H)
  clear H
  have H := H1
  clear H1
  by_cases c6 : t151 = true
  ·subst c6
   have H1 : (some 0) = some r := by first | (with_reducible rfl) | (rw [if_pos rfl] at H; exact H)
   clear H
   have H := H1
   clear H1
   obtain rfl := Option.some.inj H
   go_enter Try.func34, Try.ntmps34
   go_wp2_with (first | ((with_reducible refine gate_callee (f := 36) rfl ?_); refine goesL_ (some 8) rfl rfl Try.func36 (by kernel_rfl) rfl #[.int .i64 a0] rfl mB ?_; (with_reducible refine (cmp_isNaN_int.calls a0 true _ A3.out).mono ?_); rintro e w' ⟨rfl, ⟨nd, rfl⟩⟩; refine ⟨_, rfl, ?_⟩) | ((with_reducible refine gate_callee (f := 36) rfl ?_); refine goesL_ (some 10) rfl rfl Try.func36 (by kernel_rfl) rfl #[.int .i64 a1] rfl mB ?_; (with_reducible refine (cmp_isNaN_int.calls a1 true _ A4.out).mono ?_); rintro e w' ⟨rfl, ⟨nd, rfl⟩⟩; refine ⟨_, rfl, ?_⟩))
   go_ret
   exact ⟨sB, dB⟩
  ·replace c6 := Bool.eq_false_iff.mpr c6
   subst c6
   have H1 : (some (-1)) = some r := by first | (with_reducible rfl) | (rw [if_neg (show ¬ (false = true) by decide)] at H; exact H)
   clear H
   have H := H1
   clear H1
   obtain rfl := Option.some.inj H
   go_enter Try.func34, Try.ntmps34
   go_wp2_with (first | ((with_reducible refine gate_callee (f := 36) rfl ?_); refine goesL_ (some 8) rfl rfl Try.func36 (by kernel_rfl) rfl #[.int .i64 a0] rfl mB ?_; (with_reducible refine (cmp_isNaN_int.calls a0 true _ A3.out).mono ?_); rintro e w' ⟨rfl, ⟨nd, rfl⟩⟩; refine ⟨_, rfl, ?_⟩) | ((with_reducible refine gate_callee (f := 36) rfl ?_); refine goesL_ (some 10) rfl rfl Try.func36 (by kernel_rfl) rfl #[.int .i64 a1] rfl mB ?_; (with_reducible refine (cmp_isNaN_int.calls a1 false _ A4.out).mono ?_); rintro e w' ⟨rfl, ⟨nd, rfl⟩⟩; refine ⟨_, rfl, ?_⟩))
   go_ret
   exact ⟨sB, dB⟩
 ·replace c5 := Bool.eq_false_iff.mpr c5
  subst c5
  have H1 : (if t151 = true then (some 1) else (if a0 < a1 then (some (-1)) else (if a0 > a1 then (some 1) else (some 0)))) = some r := by first | (with_reducible rfl) | (rw [if_neg (show ¬ (false = true) by decide)] at H; exact H)
  clear H
  have H := H1
  clear H1
  by_cases c7 : t151 = true
  ·subst c7
   have H1 : (some 1) = some r := by first | (with_reducible rfl) | (rw [if_pos rfl] at H; exact H)
   clear H
   have H := H1
   clear H1
   obtain rfl := Option.some.inj H
   go_enter Try.func34, Try.ntmps34
   go_wp2_with (first | ((with_reducible refine gate_callee (f := 36) rfl ?_); refine goesL_ (some 8) rfl rfl Try.func36 (by kernel_rfl) rfl #[.int .i64 a0] rfl mB ?_; (with_reducible refine (cmp_isNaN_int.calls a0 false _ A3.out).mono ?_); rintro e w' ⟨rfl, ⟨nd, rfl⟩⟩; refine ⟨_, rfl, ?_⟩) | ((with_reducible refine gate_callee (f := 36) rfl ?_); refine goesL_ (some 10) rfl rfl Try.func36 (by kernel_rfl) rfl #[.int .i64 a1] rfl mB ?_; (with_reducible refine (cmp_isNaN_int.calls a1 true _ A4.out).mono ?_); rintro e w' ⟨rfl, ⟨nd, rfl⟩⟩; refine ⟨_, rfl, ?_⟩))
   go_ret
   exact ⟨sB, dB⟩
  ·replace c7 := Bool.eq_false_iff.mpr c7
   subst c7
   have H1 : (if a0 < a1 then (some (-1)) else (if a0 > a1 then (some 1) else (some 0))) = some r := by first | (with_reducible rfl) | (rw [if_neg (show ¬ (false = true) by decide)] at H; exact H)
   clear H
   have H := H1
   clear H1
   by_cases c8 : a0 < a1
   ·rw [if_pos c8] at H
    have c8b0 : decide (a0 < a1) = true := decide_eq_true c8
    clear c8
    obtain rfl := Option.some.inj H
    go_enter Try.func34, Try.ntmps34
    go_wp2_with (first | ((with_reducible refine gate_callee (f := 36) rfl ?_); refine goesL_ (some 8) rfl rfl Try.func36 (by kernel_rfl) rfl #[.int .i64 a0] rfl mB ?_; (with_reducible refine (cmp_isNaN_int.calls a0 false _ A3.out).mono ?_); rintro e w' ⟨rfl, ⟨nd, rfl⟩⟩; refine ⟨_, rfl, ?_⟩) | ((with_reducible refine gate_callee (f := 36) rfl ?_); refine goesL_ (some 10) rfl rfl Try.func36 (by kernel_rfl) rfl #[.int .i64 a1] rfl mB ?_; (with_reducible refine (cmp_isNaN_int.calls a1 false _ A4.out).mono ?_); rintro e w' ⟨rfl, ⟨nd, rfl⟩⟩; refine ⟨_, rfl, ?_⟩))
    go_ret
    exact ⟨sB, dB⟩
   ·rw [if_neg c8] at H
    have c8b0 : decide (a0 < a1) = false := decide_eq_false c8
    clear c8
    by_cases c9 : a0 > a1
    ·rw [if_pos c9] at H
     have c9b0 : decide (a1 < a0) = true := decide_eq_true c9
     clear c9
     obtain rfl := Option.some.inj H
     go_enter Try.func34, Try.ntmps34
     go_wp2_with (first | ((with_reducible refine gate_callee (f := 36) rfl ?_); refine goesL_ (some 8) rfl rfl Try.func36 (by kernel_rfl) rfl #[.int .i64 a0] rfl mB ?_; (with_reducible refine (cmp_isNaN_int.calls a0 false _ A3.out).mono ?_); rintro e w' ⟨rfl, ⟨nd, rfl⟩⟩; refine ⟨_, rfl, ?_⟩) | ((with_reducible refine gate_callee (f := 36) rfl ?_); refine goesL_ (some 10) rfl rfl Try.func36 (by kernel_rfl) rfl #[.int .i64 a1] rfl mB ?_; (with_reducible refine (cmp_isNaN_int.calls a1 false _ A4.out).mono ?_); rintro e w' ⟨rfl, ⟨nd, rfl⟩⟩; refine ⟨_, rfl, ?_⟩))
     go_ret
     exact ⟨sB, dB⟩
    ·rw [if_neg c9] at H
     have c9b0 : decide (a1 < a0) = false := decide_eq_false c9
     clear c9
     obtain rfl := Option.some.inj H
     go_enter Try.func34, Try.ntmps34
     go_wp2_with (first | ((with_reducible refine gate_callee (f := 36) rfl ?_); refine goesL_ (some 8) rfl rfl Try.func36 (by kernel_rfl) rfl #[.int .i64 a0] rfl mB ?_; (with_reducible refine (cmp_isNaN_int.calls a0 false _ A3.out).mono ?_); rintro e w' ⟨rfl, ⟨nd, rfl⟩⟩; refine ⟨_, rfl, ?_⟩) | ((with_reducible refine gate_callee (f := 36) rfl ?_); refine goesL_ (some 10) rfl rfl Try.func36 (by kernel_rfl) rfl #[.int .i64 a1] rfl mB ?_; (with_reducible refine (cmp_isNaN_int.calls a1 false _ A4.out).mono ?_); rintro e w' ⟨rfl, ⟨nd, rfl⟩⟩; refine ⟨_, rfl, ?_⟩))
     go_ret
     exact ⟨sB, dB⟩

end Go.Proofs.Ytaddemalepndfai.G
