/- Written by a program of this claim's own, out of the translation: functions of the program as plain functions, and that the calls answer as these. No conditions. -/
import Derived.Test.YtmelechhnimlnaaG0
import Derived.Test.YtmelechhnimlnaaG1
import Derived.Test.YtmelechhnimlnaaG2
namespace Go.Proofs.Ytmelechhnimlnaa.G
open Go.RowKit Go.Proofs.Ytmelechhnimlnaa.X Go.Proofs.YtmelechhnimlnaaW.PrintWords Go.Proofs.YtmelechhnimlnaaW.PrintLast Go.Proofs.YtmelechhnimlnaaW.PrintMore
attribute [local go_sem] max2_int min2_int max_two min_two max_three min_three max_four min_four   -- for this text's walks alone
set_option linter.unusedVariables false
set_option linter.unusedSimpArgs false

/-! ### spec_l1Cur_columns: function 25 -/
def spec_l1Cur_columns.l0 : Nat → Int → List Int → Int → List Int → Int → Int → Option (List Int × Int × Int)
 | 0, _, _, _, _, _, _ => none
 | k + 1, x1, x5, x6, x1000, x1001, x1002 => if x6 > 0 then (if x1 > 0 then ((spec_l1Cur_pick.f x1000 x1001 x1002 x1).bind fun bt299 => (if x5.length < 17592186044416 then (spec_l1Cur_columns.l0 k x1 (x5 ++ [bt299.1]) (wrap64 (x6 - 1)) x1000 bt299.2.1 bt299.2.2) else (none))) else ((spec_l1Cur_one.f x1000 x1001 x1002 30).bind fun bt305 => (if bt305.1 = true then (if x5.length < 17592186044416 then (some ((x5 ++ [x1]), bt305.2.1, bt305.2.2)) else (none)) else (some (x5, bt305.2.1, bt305.2.2))))) else ((spec_l1Cur_one.f x1000 x1001 x1002 30).bind fun bt311 => (if bt311.1 = true then (if x5.length < 17592186044416 then (some ((x5 ++ [x1]), bt311.2.1, bt311.2.2)) else (none)) else (some (x5, bt311.2.1, bt311.2.2))))
def spec_l1Cur_columns.f (k : Nat) (s0_0 : List Int) (s0_1 : Int) (s0_2 : Int) (a1 : Int) : Option (List Int × Int × Int) := (spec_l1Cur_pick.f s0_0 s0_1 s0_2 4).bind fun bt296 => (spec_l1Cur_columns.l0 k a1 ([] : List Int) bt296.1 s0_0 bt296.2.1 bt296.2.2)
theorem spec_l1Cur_columns.mono_l : ∀ k, (∀ y0 y1 y2 y3 y4 y5, LeO (spec_l1Cur_columns.l0 k y0 y1 y2 y3 y4 y5) (spec_l1Cur_columns.l0 (k + 1) y0 y1 y2 y3 y4 y5))
 | 0 => fun _ _ _ _ _ _ r h => by simp [spec_l1Cur_columns.l0] at h
 | k + 1 => by
  have ih0 := spec_l1Cur_columns.mono_l k
  ·intro y0 y1 y2 y3 y4 y5
   unfold spec_l1Cur_columns.l0
   repeat' first
   | (with_reducible exact ih0 _ _ _ _ _ _)
   | (with_reducible exact LeO.refl _)
   | (with_reducible exact LeO.none _)
   | (with_reducible refine LeO.ite ?_ ?_)
   | (with_reducible refine LeO.bind ?_ (fun _ => ?_))
   | exact ih0 _ _ _ _ _ _
   | exact LeO.none _
   | refine LeO.ite ?_ ?_
   | refine LeO.bind ?_ (fun _ => ?_)
theorem spec_l1Cur_columns.mono : ∀ a0 a1 a2 a3 k, LeO (spec_l1Cur_columns.f k a0 a1 a2 a3) (spec_l1Cur_columns.f (k + 1) a0 a1 a2 a3) := by
 intro a0 a1 a2 a3 k
 have ih0 := spec_l1Cur_columns.mono_l k
 unfold spec_l1Cur_columns.f
 repeat' first
   | (with_reducible exact ih0 _ _ _ _ _ _)
   | (with_reducible exact LeO.refl _)
   | (with_reducible exact LeO.none _)
   | (with_reducible refine LeO.ite ?_ ?_)
   | (with_reducible refine LeO.bind ?_ (fun _ => ?_))
   | exact ih0 _ _ _ _ _ _
   | exact LeO.none _
   | refine LeO.ite ?_ ?_
   | refine LeO.bind ?_ (fun _ => ?_)
set_option maxHeartbeats 8000000 in
set_option maxRecDepth 100000 in
theorem spec_l1Cur_columns.calls (k : Nat) (g : Nat) (s0_0 : List Int) (s0_1 : Int) (s0_2 : Int) (a1 : Int) (r1 : List Int) (r2 : Int) (r3 : Int) (w0 w : World) (hI : IsS40 w0 w g s0_0 s0_1 s0_2) (hB : Below w0.heap.size w0 w) (h : spec_l1Cur_columns.f k s0_0 s0_1 s0_2 a1 = some (r1, r2, r3)) :
  Calls Try.prog 25 #[.pointer (some ⟨g, 0, none⟩), .int .i64 a1] w fun e w' => ∃ v0_ : Value, e = .returned (v0_) ∧ Kd.R (Kd.int .i64) 3 w' w.heap.size (fun _ => True) v0_ r1 ∧ IsS40 w0 w' g s0_0 r2 r3 ∧ Below w0.heap.size w0 w' ∧ KeepBut w w' g none := by
 have HI0 := xm hI
 have HK := xm (KeepBut.refl w g none)
 have HL := xm hB.size
 clear hI
 have HW0 := xm hB.size
 have HB := xm hB
 clear hB
 have H : ((spec_l1Cur_pick.f s0_0 s0_1 s0_2 4).bind fun bt296 => (spec_l1Cur_columns.l0 k a1 ([] : List Int) bt296.1 s0_0 bt296.2.1 bt296.2.2)) = some (r1, r2, r3) := h
 clear h
 replace H := Option.bind_eq_some_iff.mp H
 obtain ⟨⟨t296, t297, t298⟩, A30, H⟩ := H
 replace H : (spec_l1Cur_columns.l0 k a1 ([] : List Int) t296 s0_0 t297 t298) = some (r1, r2, r3) := H
 have A3 := xm A30
 clear A30
 have H' := xm H
 clear H
 go_enter Try.func25, Try.ntmps25
 go_wp2_with (first | ((with_reducible refine gate_callee (f := 31) rfl ?_); refine goesL_ (some 8) rfl rfl Try.func31 (by kernel_rfl) rfl #[.pointer (some ⟨g, 0, none⟩), .int .i64 4] rfl mB ?_; (with_reducible refine (spec_l1Cur_pick.calls g s0_0 s0_1 s0_2 4 t296 t297 t298 w0 _ ?side1 ?side2 A3.out).mono ?_); (case side1 => repeat (first | (with_reducible first | exact HI0.out | apply IsS40.alloc | apply IsS40.drewN | apply IsS40.drew | apply IsS40.set_1 | apply IsS40.set_2) | exact HI0.out)); (case side2 => repeat (first | (with_reducible first | exact HB.out | apply xa | apply xn | apply xd | refine xt ?_ (IsS40.ge HI0.out)) | exact HB.out)); rintro e w4 ⟨rfl, hi, hb, hk⟩; refine ⟨_, rfl, ?_⟩; have n0_ := xm (KeepBut.trans (by repeat (first | (with_reducible first | exact HK.out | apply KeepBut.set_ | apply keep_drewN | apply keep_drew | apply keep_alloc) | exact HK.out)) hk (.inl rfl)); have n1_ := xm (hb); have n2_ := xm (hi); revert n0_ n1_ n2_; clear HK HB HI0; intro HK HB HI0; (try clear hb); (try clear hk); (try clear hi)))
 go_loopg [5, 6] k (fun kq v5 v6 w' => ∃ (x5_1 : List Int) (x6_1 : Int) (x1001_1 : Int) (x1002_1 : Int), v6 = .int .i64 x6_1 ∧ Aside0 (spec_l1Cur_columns.l0 kq a1 x5_1 x6_1 s0_0 x1001_1 x1002_1 = some (r1, r2, r3)) ∧ Aside0 (kq ≤ k) ∧ Aside0 (Kd.R (Kd.int .i64) 3 w' w.heap.size (fun _ => True) v5 x5_1) ∧ Aside0 (IsS40 w0 w' g s0_0 x1001_1 x1002_1) ∧ Aside0 (KeepBut w w' g none) ∧ Aside0 (Below w0.heap.size w0 w'))
 case atStart => exact ⟨(([] : List Int)), (t296), (t297), (t298), sB, H', ⟨Nat.le_refl _⟩, ⟨by first | exact Kd.R_nil _ _ _ _ _ | exact Kd.N_nil _ _ _ _ _ | exact Kd.V_nil _ _ _ _ _ | exact Kd.Q_nil _ _ _ _ _ | exact Kd.S_nil _ _ _ _ _⟩, ⟨by repeat (first | (with_reducible first | exact HI0.out | apply IsS40.alloc | apply IsS40.drewN | apply IsS40.drew | apply IsS40.set_1 | apply IsS40.set_2) | exact HI0.out)⟩, ⟨by repeat (first | (with_reducible first | exact HK.out | apply KeepBut.set_ | apply keep_drewN | apply keep_drew | apply keep_alloc) | exact HK.out)⟩, ⟨by repeat (first | (with_reducible first | exact HB.out | apply xa | apply xn | apply xd | refine xt ?_ (IsS40.ge HI0.out)) | exact HB.out)⟩⟩
 case round =>
  clear H'
  try clear c2
  try clear p2
  try clear c3
  obtain ⟨x5_1, x6_1, x1001_1, x1002_1, rfl, HA, HK1, HO_5, HI0, HK, HB⟩ := hrel
  cases gk with
  | zero => exact absurd HA.out (by simp [spec_l1Cur_columns.l0])
  | succ k1 =>
   have H := HA.out
   clear HA
   simp only [spec_l1Cur_columns.l0] at H
   by_cases c5 : x6_1 > 0
   ·rw [if_pos c5] at H
    have c5b0 : decide (0 < x6_1) = true := decide_eq_true c5
    clear c5
    by_cases c6 : a1 > 0
    ·rw [if_pos c6] at H
     have c6b0 : decide (0 < a1) = true := decide_eq_true c6
     clear c6
     replace H := Option.bind_eq_some_iff.mp H
     obtain ⟨⟨t299, t300, t301⟩, A70, H⟩ := H
     replace H : (if x5_1.length < 17592186044416 then (spec_l1Cur_columns.l0 k1 a1 (x5_1 ++ [t299]) (wrap64 (x6_1 - 1)) s0_0 t300 t301) else (none)) = some (r1, r2, r3) := H
     have A7 := xm A70
     clear A70
     by_cases c8 : x5_1.length < 17592186044416
     ·rw [if_pos c8] at H
      have LMc8 := xm c8
      clear c8
      obtain ⟨y302, hy302⟩ : ∃ y_ : List Int, y_ = (x5_1 ++ [t299]) := ⟨_, rfl⟩
      replace H : (spec_l1Cur_columns.l0 k1 a1 y302 (wrap64 (x6_1 - 1)) s0_0 t300 t301) = some (r1, r2, r3) := by first | (rw [hy302]; with_reducible exact H) | (have H2_ := (Option.bind_some _ _).symm.trans H; rw [hy302]; with_reducible exact H2_) | (have H2_ := (Option.bind_some _ _).symm.trans H; with_reducible exact H2_) | with_reducible exact H | (rw [hy302]; exact H) | exact H
      have Ny302 := xm hy302
      clear hy302
      have H' := xm H
      clear H
      go_wp2_with (first | ((with_reducible refine gate_callee (f := 31) rfl ?_); refine goesL_ (some 20) rfl rfl Try.func31 (by kernel_rfl) rfl #[.pointer (some ⟨g, 0, none⟩), .int .i64 a1] rfl mB ?_; (with_reducible refine (spec_l1Cur_pick.calls g s0_0 x1001_1 x1002_1 a1 t299 t300 t301 w0 _ ?side1 ?side2 A7.out).mono ?_); (case side1 => repeat (first | (with_reducible first | exact HI0.out | apply IsS40.alloc | apply IsS40.drewN | apply IsS40.drew | apply IsS40.set_1 | apply IsS40.set_2) | exact HI0.out)); (case side2 => repeat (first | (with_reducible first | exact HB.out | apply xa | apply xn | apply xd | refine xt ?_ (IsS40.ge HI0.out)) | exact HB.out)); rintro e w9 ⟨rfl, hi, hb, hk⟩; refine ⟨_, rfl, ?_⟩; have n0_ := xm (Kd.R_mono (Kd.R_keep (IsS40.apart (show IsS40 w0 _ g s0_0 x1001_1 x1002_1 from by repeat (first | (with_reducible first | exact HI0.out | apply IsS40.alloc | apply IsS40.drewN | apply IsS40.drew | apply IsS40.set_1 | apply IsS40.set_2) | exact HI0.out)) (rB HO_5) (by decide)) hk (fun _ h => h.2)) (fun _ h => h.1)); have n1_ := xm (KeepBut.trans (by repeat (first | (with_reducible first | exact HK.out | apply KeepBut.set_ | apply keep_drewN | apply keep_drew | apply keep_alloc) | exact HK.out)) hk (.inl rfl)); have n2_ := xm (hb); have n3_ := xm (hi); revert n0_ n1_ n2_ n3_; clear HO_5 HK HB HI0; intro HO_5 HK HB HI0; (try clear hb); (try clear hk); (try clear hi)) | ((with_reducible refine gate_builtin (b := .append) (xs := #[.tmp 17, .tmp 21]) rfl ?_); at_builtin; refine Kd.R_append (Kd.int .i64) w.heap.size rfl (.tmp 17) (.tmp 21) 23 3 (.int .i64 0) 8 rfl Try.underlying23 info3 rfl (by decide) (by omega) u5 x5_1 t299 [.int .i64 t299] (fun _ => True) (fun _ => False) rfl rfl ?aP (fun _ hk => hk.elim) ?aF ?aO (Below.refl _ _) ?aS ?aL ?_; (case aP => exact rfl); (case aF => exact (fun _ _ => trivial)); (case aO => exact (rB HO_5)); (case aS => exact (keep_size (w := w) (g := g) (row := none) (by repeat (first | (with_reducible first | exact HK.out | apply KeepBut.set_ | apply keep_drewN | apply keep_drew | apply keep_alloc) | exact HK.out)))); (case aL => have := LMc8.out; omega); intro v303 w10 ho hb hg hat; rw [← Ny302.out] at ho; have n0_ := xm (IsS40.grown (by repeat (first | (with_reducible first | exact HI0.out | apply IsS40.alloc | apply IsS40.drewN | apply IsS40.drew | apply IsS40.set_1 | apply IsS40.set_2) | exact HI0.out)) hg (IsS40.own_ne HI0.out HO_5.out (by decide))); have n1_ := xm (below_weaken (by repeat (first | (with_reducible first | exact HB.out | apply xa | apply xn | apply xd | refine xt ?_ (IsS40.ge HI0.out)) | exact HB.out)) HL.out hb); have n2_ := xm (KeepBut.trans (by repeat (first | (with_reducible first | exact HK.out | apply KeepBut.set_ | apply keep_drewN | apply keep_drew | apply keep_alloc) | exact HK.out)) (KeepBut.of_grown hg g) (Kd.R_base2 HO_5.out)); have n3_ := xm (ho); revert n0_ n1_ n2_ n3_; clear HI0 HB HK HO_5; intro HI0 HB HK HO304; clear ho hb hg hat))
      go_roundg k1
      case measure => have := HK1.out; omega
      case rel => exact ⟨(y302), (wrap64 (x6_1 - 1)), (t300), (t301), sB, H', ⟨by have := HK1.out; omega⟩, ⟨rB HO304⟩, ⟨by repeat (first | (with_reducible first | exact HI0.out | apply IsS40.alloc | apply IsS40.drewN | apply IsS40.drew | apply IsS40.set_1 | apply IsS40.set_2) | exact HI0.out)⟩, ⟨by repeat (first | (with_reducible first | exact HK.out | apply KeepBut.set_ | apply keep_drewN | apply keep_drew | apply keep_alloc) | exact HK.out)⟩, ⟨by repeat (first | (with_reducible first | exact HB.out | apply xa | apply xn | apply xd | refine xt ?_ (IsS40.ge HI0.out)) | exact HB.out)⟩⟩
     ·rw [if_neg c8] at H
      exact absurd H (by simp)
    ·rw [if_neg c6] at H
     have c6b0 : decide (0 < a1) = false := decide_eq_false c6
     clear c6
     replace H := Option.bind_eq_some_iff.mp H
     obtain ⟨⟨t305, t306, t307⟩, A110, H⟩ := H
     replace H : (if t305 = true then (if x5_1.length < 17592186044416 then (some ((x5_1 ++ [a1]), t306, t307)) else (none)) else (some (x5_1, t306, t307))) = some (r1, r2, r3) := H
     have A11 := xm A110
     clear A110
     by_cases c12 : t305 = true
     ·subst c12
      have H1 : (if x5_1.length < 17592186044416 then (some ((x5_1 ++ [a1]), t306, t307)) else (none)) = some (r1, r2, r3) := by first | (with_reducible rfl) | (rw [if_pos rfl] at H; exact H)
      clear H
      have H := H1
      clear H1
      by_cases c13 : x5_1.length < 17592186044416
      ·rw [if_pos c13] at H
       have LMc13 := xm c13
       clear c13
       obtain ⟨y308, hy308⟩ : ∃ y_ : List Int, y_ = (x5_1 ++ [a1]) := ⟨_, rfl⟩
       replace H : (some (y308, t306, t307)) = some (r1, r2, r3) := by first | (rw [hy308]; with_reducible exact H) | (have H2_ := (Option.bind_some _ _).symm.trans H; rw [hy308]; with_reducible exact H2_) | (have H2_ := (Option.bind_some _ _).symm.trans H; with_reducible exact H2_) | with_reducible exact H | (rw [hy308]; exact H) | exact H
       have Ny308 := xm hy308
       clear hy308
       simp only [Option.some.injEq, Prod.mk.injEq] at H
       obtain ⟨rfl, rfl, rfl⟩ := H
       go_wp2_with (first | ((with_reducible refine gate_callee (f := 29) rfl ?_); refine goesL_ (some 24) rfl rfl Try.func29 (by kernel_rfl) rfl #[.pointer (some ⟨g, 0, none⟩), .int .i64 30] rfl mB ?_; (with_reducible refine (spec_l1Cur_one.calls g s0_0 x1001_1 x1002_1 30 true t306 t307 w0 _ ?side1 ?side2 A11.out).mono ?_); (case side1 => repeat (first | (with_reducible first | exact HI0.out | apply IsS40.alloc | apply IsS40.drewN | apply IsS40.drew | apply IsS40.set_1 | apply IsS40.set_2) | exact HI0.out)); (case side2 => repeat (first | (with_reducible first | exact HB.out | apply xa | apply xn | apply xd | refine xt ?_ (IsS40.ge HI0.out)) | exact HB.out)); rintro e w14 ⟨rfl, hi, hb, hk⟩; refine ⟨_, rfl, ?_⟩; have n0_ := xm (Kd.R_mono (Kd.R_keep (IsS40.apart (show IsS40 w0 _ g s0_0 x1001_1 x1002_1 from by repeat (first | (with_reducible first | exact HI0.out | apply IsS40.alloc | apply IsS40.drewN | apply IsS40.drew | apply IsS40.set_1 | apply IsS40.set_2) | exact HI0.out)) (rB HO_5) (by decide)) hk (fun _ h => h.2)) (fun _ h => h.1)); have n1_ := xm (KeepBut.trans (by repeat (first | (with_reducible first | exact HK.out | apply KeepBut.set_ | apply keep_drewN | apply keep_drew | apply keep_alloc) | exact HK.out)) hk (.inl rfl)); have n2_ := xm (hb); have n3_ := xm (hi); revert n0_ n1_ n2_ n3_; clear HO_5 HK HB HI0; intro HO_5 HK HB HI0; (try clear hb); (try clear hk); (try clear hi)) | ((with_reducible refine gate_builtin (b := .append) (xs := #[.tmp 25, .tmp 27]) rfl ?_); at_builtin; refine Kd.R_append (Kd.int .i64) w.heap.size rfl (.tmp 25) (.tmp 27) 23 3 (.int .i64 0) 8 rfl Try.underlying23 info3 rfl (by decide) (by omega) u5 x5_1 a1 [.int .i64 a1] (fun _ => True) (fun _ => False) rfl rfl ?aP (fun _ hk => hk.elim) ?aF ?aO (Below.refl _ _) ?aS ?aL ?_; (case aP => exact rfl); (case aF => exact (fun _ _ => trivial)); (case aO => exact (rB HO_5)); (case aS => exact (keep_size (w := w) (g := g) (row := none) (by repeat (first | (with_reducible first | exact HK.out | apply KeepBut.set_ | apply keep_drewN | apply keep_drew | apply keep_alloc) | exact HK.out)))); (case aL => have := LMc13.out; omega); intro v309 w15 ho hb hg hat; rw [← Ny308.out] at ho; have n0_ := xm (IsS40.grown (by repeat (first | (with_reducible first | exact HI0.out | apply IsS40.alloc | apply IsS40.drewN | apply IsS40.drew | apply IsS40.set_1 | apply IsS40.set_2) | exact HI0.out)) hg (IsS40.own_ne HI0.out HO_5.out (by decide))); have n1_ := xm (below_weaken (by repeat (first | (with_reducible first | exact HB.out | apply xa | apply xn | apply xd | refine xt ?_ (IsS40.ge HI0.out)) | exact HB.out)) HL.out hb); have n2_ := xm (KeepBut.trans (by repeat (first | (with_reducible first | exact HK.out | apply KeepBut.set_ | apply keep_drewN | apply keep_drew | apply keep_alloc) | exact HK.out)) (KeepBut.of_grown hg g) (Kd.R_base2 HO_5.out)); have n3_ := xm (ho); revert n0_ n1_ n2_ n3_; clear HI0 HB HK HO_5; intro HI0 HB HK HO310; clear ho hb hg hat))
       go_ret
       exact ⟨_, eB, rB HO310, by repeat (first | (with_reducible first | exact HI0.out | apply IsS40.alloc | apply IsS40.drewN | apply IsS40.drew | apply IsS40.set_1 | apply IsS40.set_2) | exact HI0.out), by repeat (first | (with_reducible first | exact HB.out | apply xa | apply xn | apply xd | refine xt ?_ (IsS40.ge HI0.out)) | exact HB.out), by repeat (first | (with_reducible first | exact HK.out | apply KeepBut.set_ | apply keep_drewN | apply keep_drew | apply keep_alloc) | exact HK.out)⟩
      ·rw [if_neg c13] at H
       exact absurd H (by simp)
     ·replace c12 := Bool.eq_false_iff.mpr c12
      subst c12
      have H1 : (some (x5_1, t306, t307)) = some (r1, r2, r3) := by first | (with_reducible rfl) | (rw [if_neg (show ¬ (false = true) by decide)] at H; exact H)
      clear H
      have H := H1
      clear H1
      simp only [Option.some.injEq, Prod.mk.injEq] at H
      obtain ⟨rfl, rfl, rfl⟩ := H
      go_wp2_with (first | ((with_reducible refine gate_callee (f := 29) rfl ?_); refine goesL_ (some 24) rfl rfl Try.func29 (by kernel_rfl) rfl #[.pointer (some ⟨g, 0, none⟩), .int .i64 30] rfl mB ?_; (with_reducible refine (spec_l1Cur_one.calls g s0_0 x1001_1 x1002_1 30 false t306 t307 w0 _ ?side1 ?side2 A11.out).mono ?_); (case side1 => repeat (first | (with_reducible first | exact HI0.out | apply IsS40.alloc | apply IsS40.drewN | apply IsS40.drew | apply IsS40.set_1 | apply IsS40.set_2) | exact HI0.out)); (case side2 => repeat (first | (with_reducible first | exact HB.out | apply xa | apply xn | apply xd | refine xt ?_ (IsS40.ge HI0.out)) | exact HB.out)); rintro e w16 ⟨rfl, hi, hb, hk⟩; refine ⟨_, rfl, ?_⟩; have n0_ := xm (Kd.R_mono (Kd.R_keep (IsS40.apart (show IsS40 w0 _ g s0_0 x1001_1 x1002_1 from by repeat (first | (with_reducible first | exact HI0.out | apply IsS40.alloc | apply IsS40.drewN | apply IsS40.drew | apply IsS40.set_1 | apply IsS40.set_2) | exact HI0.out)) (rB HO_5) (by decide)) hk (fun _ h => h.2)) (fun _ h => h.1)); have n1_ := xm (KeepBut.trans (by repeat (first | (with_reducible first | exact HK.out | apply KeepBut.set_ | apply keep_drewN | apply keep_drew | apply keep_alloc) | exact HK.out)) hk (.inl rfl)); have n2_ := xm (hb); have n3_ := xm (hi); revert n0_ n1_ n2_ n3_; clear HO_5 HK HB HI0; intro HO_5 HK HB HI0; (try clear hb); (try clear hk); (try clear hi)))
      go_ret
      exact ⟨_, eB, rB HO_5, by repeat (first | (with_reducible first | exact HI0.out | apply IsS40.alloc | apply IsS40.drewN | apply IsS40.drew | apply IsS40.set_1 | apply IsS40.set_2) | exact HI0.out), by repeat (first | (with_reducible first | exact HB.out | apply xa | apply xn | apply xd | refine xt ?_ (IsS40.ge HI0.out)) | exact HB.out), by repeat (first | (with_reducible first | exact HK.out | apply KeepBut.set_ | apply keep_drewN | apply keep_drew | apply keep_alloc) | exact HK.out)⟩
   ·rw [if_neg c5] at H
    have c5b0 : decide (0 < x6_1) = false := decide_eq_false c5
    clear c5
    replace H := Option.bind_eq_some_iff.mp H
    obtain ⟨⟨t311, t312, t313⟩, A170, H⟩ := H
    replace H : (if t311 = true then (if x5_1.length < 17592186044416 then (some ((x5_1 ++ [a1]), t312, t313)) else (none)) else (some (x5_1, t312, t313))) = some (r1, r2, r3) := H
    have A17 := xm A170
    clear A170
    by_cases c18 : t311 = true
    ·subst c18
     have H1 : (if x5_1.length < 17592186044416 then (some ((x5_1 ++ [a1]), t312, t313)) else (none)) = some (r1, r2, r3) := by first | (with_reducible rfl) | (rw [if_pos rfl] at H; exact H)
     clear H
     have H := H1
     clear H1
     by_cases c19 : x5_1.length < 17592186044416
     ·rw [if_pos c19] at H
      have LMc19 := xm c19
      clear c19
      obtain ⟨y314, hy314⟩ : ∃ y_ : List Int, y_ = (x5_1 ++ [a1]) := ⟨_, rfl⟩
      replace H : (some (y314, t312, t313)) = some (r1, r2, r3) := by first | (rw [hy314]; with_reducible exact H) | (have H2_ := (Option.bind_some _ _).symm.trans H; rw [hy314]; with_reducible exact H2_) | (have H2_ := (Option.bind_some _ _).symm.trans H; with_reducible exact H2_) | with_reducible exact H | (rw [hy314]; exact H) | exact H
      have Ny314 := xm hy314
      clear hy314
      simp only [Option.some.injEq, Prod.mk.injEq] at H
      obtain ⟨rfl, rfl, rfl⟩ := H
      go_wp2_with (first | ((with_reducible refine gate_callee (f := 29) rfl ?_); refine goesL_ (some 24) rfl rfl Try.func29 (by kernel_rfl) rfl #[.pointer (some ⟨g, 0, none⟩), .int .i64 30] rfl mB ?_; (with_reducible refine (spec_l1Cur_one.calls g s0_0 x1001_1 x1002_1 30 true t312 t313 w0 _ ?side1 ?side2 A17.out).mono ?_); (case side1 => repeat (first | (with_reducible first | exact HI0.out | apply IsS40.alloc | apply IsS40.drewN | apply IsS40.drew | apply IsS40.set_1 | apply IsS40.set_2) | exact HI0.out)); (case side2 => repeat (first | (with_reducible first | exact HB.out | apply xa | apply xn | apply xd | refine xt ?_ (IsS40.ge HI0.out)) | exact HB.out)); rintro e w20 ⟨rfl, hi, hb, hk⟩; refine ⟨_, rfl, ?_⟩; have n0_ := xm (Kd.R_mono (Kd.R_keep (IsS40.apart (show IsS40 w0 _ g s0_0 x1001_1 x1002_1 from by repeat (first | (with_reducible first | exact HI0.out | apply IsS40.alloc | apply IsS40.drewN | apply IsS40.drew | apply IsS40.set_1 | apply IsS40.set_2) | exact HI0.out)) (rB HO_5) (by decide)) hk (fun _ h => h.2)) (fun _ h => h.1)); have n1_ := xm (KeepBut.trans (by repeat (first | (with_reducible first | exact HK.out | apply KeepBut.set_ | apply keep_drewN | apply keep_drew | apply keep_alloc) | exact HK.out)) hk (.inl rfl)); have n2_ := xm (hb); have n3_ := xm (hi); revert n0_ n1_ n2_ n3_; clear HO_5 HK HB HI0; intro HO_5 HK HB HI0; (try clear hb); (try clear hk); (try clear hi)) | ((with_reducible refine gate_builtin (b := .append) (xs := #[.tmp 25, .tmp 27]) rfl ?_); at_builtin; refine Kd.R_append (Kd.int .i64) w.heap.size rfl (.tmp 25) (.tmp 27) 23 3 (.int .i64 0) 8 rfl Try.underlying23 info3 rfl (by decide) (by omega) u5 x5_1 a1 [.int .i64 a1] (fun _ => True) (fun _ => False) rfl rfl ?aP (fun _ hk => hk.elim) ?aF ?aO (Below.refl _ _) ?aS ?aL ?_; (case aP => exact rfl); (case aF => exact (fun _ _ => trivial)); (case aO => exact (rB HO_5)); (case aS => exact (keep_size (w := w) (g := g) (row := none) (by repeat (first | (with_reducible first | exact HK.out | apply KeepBut.set_ | apply keep_drewN | apply keep_drew | apply keep_alloc) | exact HK.out)))); (case aL => have := LMc19.out; omega); intro v315 w21 ho hb hg hat; rw [← Ny314.out] at ho; have n0_ := xm (IsS40.grown (by repeat (first | (with_reducible first | exact HI0.out | apply IsS40.alloc | apply IsS40.drewN | apply IsS40.drew | apply IsS40.set_1 | apply IsS40.set_2) | exact HI0.out)) hg (IsS40.own_ne HI0.out HO_5.out (by decide))); have n1_ := xm (below_weaken (by repeat (first | (with_reducible first | exact HB.out | apply xa | apply xn | apply xd | refine xt ?_ (IsS40.ge HI0.out)) | exact HB.out)) HL.out hb); have n2_ := xm (KeepBut.trans (by repeat (first | (with_reducible first | exact HK.out | apply KeepBut.set_ | apply keep_drewN | apply keep_drew | apply keep_alloc) | exact HK.out)) (KeepBut.of_grown hg g) (Kd.R_base2 HO_5.out)); have n3_ := xm (ho); revert n0_ n1_ n2_ n3_; clear HI0 HB HK HO_5; intro HI0 HB HK HO316; clear ho hb hg hat))
      go_ret
      exact ⟨_, eB, rB HO316, by repeat (first | (with_reducible first | exact HI0.out | apply IsS40.alloc | apply IsS40.drewN | apply IsS40.drew | apply IsS40.set_1 | apply IsS40.set_2) | exact HI0.out), by repeat (first | (with_reducible first | exact HB.out | apply xa | apply xn | apply xd | refine xt ?_ (IsS40.ge HI0.out)) | exact HB.out), by repeat (first | (with_reducible first | exact HK.out | apply KeepBut.set_ | apply keep_drewN | apply keep_drew | apply keep_alloc) | exact HK.out)⟩
     ·rw [if_neg c19] at H
      exact absurd H (by simp)
    ·replace c18 := Bool.eq_false_iff.mpr c18
     subst c18
     have H1 : (some (x5_1, t312, t313)) = some (r1, r2, r3) := by first | (with_reducible rfl) | (rw [if_neg (show ¬ (false = true) by decide)] at H; exact H)
     clear H
     have H := H1
     clear H1
     simp only [Option.some.injEq, Prod.mk.injEq] at H
     obtain ⟨rfl, rfl, rfl⟩ := H
     go_wp2_with (first | ((with_reducible refine gate_callee (f := 29) rfl ?_); refine goesL_ (some 24) rfl rfl Try.func29 (by kernel_rfl) rfl #[.pointer (some ⟨g, 0, none⟩), .int .i64 30] rfl mB ?_; (with_reducible refine (spec_l1Cur_one.calls g s0_0 x1001_1 x1002_1 30 false t312 t313 w0 _ ?side1 ?side2 A17.out).mono ?_); (case side1 => repeat (first | (with_reducible first | exact HI0.out | apply IsS40.alloc | apply IsS40.drewN | apply IsS40.drew | apply IsS40.set_1 | apply IsS40.set_2) | exact HI0.out)); (case side2 => repeat (first | (with_reducible first | exact HB.out | apply xa | apply xn | apply xd | refine xt ?_ (IsS40.ge HI0.out)) | exact HB.out)); rintro e w22 ⟨rfl, hi, hb, hk⟩; refine ⟨_, rfl, ?_⟩; have n0_ := xm (Kd.R_mono (Kd.R_keep (IsS40.apart (show IsS40 w0 _ g s0_0 x1001_1 x1002_1 from by repeat (first | (with_reducible first | exact HI0.out | apply IsS40.alloc | apply IsS40.drewN | apply IsS40.drew | apply IsS40.set_1 | apply IsS40.set_2) | exact HI0.out)) (rB HO_5) (by decide)) hk (fun _ h => h.2)) (fun _ h => h.1)); have n1_ := xm (KeepBut.trans (by repeat (first | (with_reducible first | exact HK.out | apply KeepBut.set_ | apply keep_drewN | apply keep_drew | apply keep_alloc) | exact HK.out)) hk (.inl rfl)); have n2_ := xm (hb); have n3_ := xm (hi); revert n0_ n1_ n2_ n3_; clear HO_5 HK HB HI0; intro HO_5 HK HB HI0; (try clear hb); (try clear hk); (try clear hi)))
     go_ret
     exact ⟨_, eB, rB HO_5, by repeat (first | (with_reducible first | exact HI0.out | apply IsS40.alloc | apply IsS40.drewN | apply IsS40.drew | apply IsS40.set_1 | apply IsS40.set_2) | exact HI0.out), by repeat (first | (with_reducible first | exact HB.out | apply xa | apply xn | apply xd | refine xt ?_ (IsS40.ge HI0.out)) | exact HB.out), by repeat (first | (with_reducible first | exact HK.out | apply KeepBut.set_ | apply keep_drewN | apply keep_drew | apply keep_alloc) | exact HK.out)⟩

/-! ### spec_DrawPickCells: function 10 -/
/-- The cursor's box and the box of an answer, between the calls. -/
def DstP (w W : World) (g g2 : Nat) (l0 : List Int) (x y : Int) : Prop := IsS40 w W g l0 x y ∧ Below w.heap.size w W ∧ W.heap[g2]? = some (.cells #[.slice none 0 0] 25 (0, 0)) ∧ (w.heap.size ≤ g2 ∧ g2 ≠ g)
theorem DstP.isS {w W : World} {g g2 : Nat} {l0 : List Int} {x y : Int} (h : DstP w W g g2 l0 x y) : IsS40 w W g l0 x y := h.1
theorem DstP.bel {w W : World} {g g2 : Nat} {l0 : List Int} {x y : Int} (h : DstP w W g g2 l0 x y) : Below w.heap.size w W := h.2.1
theorem DstP.ltS {w W : World} {g g2 : Nat} {l0 : List Int} {x y : Int} (h : DstP w W g g2 l0 x y) : g < W.heap.size ∧ g2 < W.heap.size := ⟨h.1.lt, blk_lt h.2.2.1⟩
theorem DstP.below {w W W1 : World} {g g2 : Nat} {l0 : List Int} {x y : Int} (h : DstP w W g g2 l0 x y) (hb : Below W.heap.size W W1) : DstP w W1 g g2 l0 x y := ⟨h.1.below hb, below_step h.2.1 hb, blk_below h.2.2.1 hb, h.2.2.2⟩
theorem DstP.drewN {w W : World} {g g2 : Nat} {l0 : List Int} {x y : Int} (h : DstP w W g g2 l0 x y) (m : Nat) : DstP w (W.drewN m) g g2 l0 x y := ⟨h.1.drewN m, xn h.2.1 m, xq h.2.2.1 m, h.2.2.2⟩
theorem DstP.drew {w W : World} {g g2 : Nat} {l0 : List Int} {x y : Int} (h : DstP w W g g2 l0 x y) : DstP w W.drew g g2 l0 x y := ⟨h.1.drew, xd h.2.1, xr h.2.2.1, h.2.2.2⟩
theorem DstP.call {w W W1 : World} {g g2 : Nat} {l0 : List Int} {x y x' y' : Int} (h : DstP w W g g2 l0 x y) (hi : IsS40 w W1 g l0 x' y') (hb : Below w.heap.size w W1) (hk : KeepBut W W1 g none) : DstP w W1 g g2 l0 x' y' := ⟨hi, hb, hk.blk h.2.2.1 h.2.2.2.2 (by simp), h.2.2.2⟩
theorem DstP.far {w W : World} {g g2 : Nat} {l0 : List Int} {x y : Int} (h : DstP w W g g2 l0 x y) {q : Nat} (hq : w.heap.size ≤ q ∧ q ≠ g ∧ q ≠ g2) (v : Value) : DstP w (W.setCell ⟨q, 0, none⟩ v) g g2 l0 x y := ⟨h.1.far (Ne.symm hq.2.1) v, h.2.1.setCell (p := ⟨q, 0, none⟩) hq.1 v, blk_far (p := ⟨q, 0, none⟩) h.2.2.1 (Ne.symm hq.2.2) v, h.2.2.2⟩
def spec_DrawPickCells.f (k : Nat) (l0 : List Int) : Option (List Int × List Int) :=
 (spec_l1Cur_width.f l0 0 0).bind fun t => (spec_l1Cur_row.f k l0 t.2.1 t.2.2 t.1).bind fun u => (spec_l1Cur_columns.f k l0 u.2.1 u.2.2 (u.1.length : Int)).bind fun q => some (u.1, q.1)
theorem spec_DrawPickCells.mono : ∀ a0 k, LeO (spec_DrawPickCells.f k a0) (spec_DrawPickCells.f (k + 1) a0) := fun a0 k =>
 LeO.bind (LeO.refl _) fun t => LeO.bind (spec_l1Cur_row.mono _ _ _ _ k) fun u => LeO.bind (spec_l1Cur_columns.mono _ _ _ _ k) fun q => LeO.refl _
set_option maxHeartbeats 8000000 in
set_option maxRecDepth 100000 in
theorem spec_DrawPickCells.calls (k : Nat) (A0 : Option Addr) (c0 : Nat) (l0 : List Int) (r1 : List Int) (r2 : List Int) (w : World) (hr0 : Kd.C (Kd.int .u8) w A0 l0.length l0) (hc0 : l0.length ≤ c0) (h : spec_DrawPickCells.f k l0 = some (r1, r2)) :
  Calls Try.prog 10 #[.slice A0 l0.length c0] w fun e w' => ∃ v0_ v1_ : Value, e = .returned (.tuple #[.agg #[v0_], v1_]) ∧ Kd.R (Kd.int .i64) 3 w' w.heap.size (fun k_ => some k_ ≠ (v1_ : Value).ownBlock) v0_ r1 ∧ Kd.R (Kd.int .i64) 3 w' w.heap.size (fun k_ => some k_ ≠ (v0_ : Value).ownBlock) v1_ r2 ∧ Below w.heap.size w w' := by
 have hu41 := Try.underlying40
 have hu25 := Try.underlying25
 obtain ⟨⟨t1, t2, t3⟩, a1, H⟩ := Option.bind_eq_some_iff.mp h
 obtain ⟨⟨u1, u2, u3⟩, a2, H⟩ := Option.bind_eq_some_iff.mp H
 obtain ⟨⟨q1, q2, q3⟩, a3, H⟩ := Option.bind_eq_some_iff.mp H
 have A1 := xm a1
 have A2 := xm a2
 have A3 := xm a3
 have HR := xm hr0
 have HB := xm (Below.refl w.heap.size w)
 clear h a1 a2 a3 hr0 hc0
 obtain ⟨rfl, rfl⟩ := Prod.mk.inj (Option.some.inj (show some (u1, q1) = some (r1, r2) from H))
 clear H
 go_enter Try.func10, Try.ntmps10
 go_wp2_with (first
  | ((with_reducible refine gate_dst (N := 2) rfl ?_); refine box_event ?hg (N := 2) ?hd (cs := #[.slice none 0 0]) (t := 25) ?hr ?_; (case hd => rfl); (case hg => rfl); (case hr => first | (go_simp; done) | (go_simp; rfl) | exact zB); intro g2 hg w1 hbox hb; have n1_ := xm (below_step bB hb); have n2_ := xm hbox; have n3_ := xm (show w.heap.size ≤ g2 from by rw [hg]; exact xz bB); clear HB hbox hb hg; revert n1_ n2_ n3_; intro HB B2 G2)
  | ((with_reducible refine gate_dst (N := 8) rfl ?_); refine box_event ?hg (N := 8) ?hd (cs := #[.slice A0 l0.length c0, .int .i64 0, .int .u64 0]) (t := 40) ?hr ?_; (case hd => rfl); (case hg => rfl); (case hr => exact zB); intro g hg w1 hbox hb; have n0_ := xm (show DstP w w1 g g2 l0 0 0 from ⟨⟨A0, c0, hbox, by rw [hg]; exact xz bB, HR.out⟩, below_step bB hb, blk_below (by (with_reducible repeat (first | refine xq ?_ _ | refine xr ?_ | refine xo ?_ _)); exact B2.out) hb, G2.out, by rw [hg]; exact Nat.ne_of_lt (blk_lt (by (with_reducible repeat (first | refine xq ?_ _ | refine xr ?_ | refine xo ?_ _)); exact B2.out))⟩); clear HB B2 hbox hb hg; revert n0_; intro HD)
  | ((with_reducible refine gate_callee (f := 13) rfl ?_); refine goesL_ (some 11) rfl rfl Try.func13 (by kernel_rfl) rfl #[.pointer (some ⟨g, 0, none⟩)] rfl mB ?_; refine (spec_l1Cur_width.calls g l0 0 0  t1 t2 t3 w _ ?side1 ?side2 A1.out).mono ?_; (case side1 => exact DstP.isS (by repeat (first | (with_reducible first | exact HD.out | apply DstP.drewN | apply DstP.drew) | exact HD.out))); (case side2 => exact DstP.bel (by repeat (first | (with_reducible first | exact HD.out | apply DstP.drewN | apply DstP.drew) | exact HD.out))); rintro e wz ⟨rfl, hi, hb, hk⟩; refine ⟨_, rfl, ?_⟩; have n0_ := xm (DstP.call (by repeat (first | (with_reducible first | exact HD.out | apply DstP.drewN | apply DstP.drew) | exact HD.out)) hi hb hk); clear HD hi hb; revert n0_; intro HD; clear hk)
  | ((with_reducible refine gate_callee (f := 12) rfl ?_); refine goesL_ (some 12) rfl rfl Try.func12 (by kernel_rfl) rfl #[.pointer (some ⟨g, 0, none⟩), .int .i64 t1] rfl mB ?_; refine (spec_l1Cur_row.calls k g l0 t2 t3 t1 u1 u2 u3 w _ ?side1 ?side2 A2.out).mono ?_; (case side1 => exact DstP.isS (by repeat (first | (with_reducible first | exact HD.out | apply DstP.drewN | apply DstP.drew) | exact HD.out))); (case side2 => exact DstP.bel (by repeat (first | (with_reducible first | exact HD.out | apply DstP.drewN | apply DstP.drew) | exact HD.out))); rintro e wz ⟨v0_, rfl, ho, hi, hb, hk⟩; refine ⟨_, rfl, ?_⟩; obtain ⟨AHO, cHO, eo⟩ := Kd.R_slice ho; subst eo; have n0_ := xm (DstP.call (by repeat (first | (with_reducible first | exact HD.out | apply DstP.drewN | apply DstP.drew) | exact HD.out)) hi hb hk); have n1_ := xm (Kd.R_lower ho (xz (DstP.bel (by repeat (first | (with_reducible first | exact HD.out | apply DstP.drewN | apply DstP.drew) | exact HD.out))))); clear HD hi hb hk ho; revert n0_ n1_; intro HD HO)
  | ((with_reducible refine gate_dst (N := 5) rfl ?_); refine box_event ?hg (N := 5) ?hd (cs := #[.slice none 0 0]) (t := 25) ?hr ?_; (case hd => rfl); (case hg => rfl); (case hr => first | (go_simp; done) | (go_simp; rfl) | exact zB); intro g5 hg w1 hbox hb; have n0_ := xm (DstP.below (by repeat (first | (with_reducible first | exact HD.out | apply DstP.drewN | apply DstP.drew) | exact HD.out)) hb); have n1_ := xm (Kd.R_below (by (with_reducible repeat (first | apply Kd.R_alloc | apply Kd.R_drewN | apply Kd.R_drew)); exact HO.out) hb); have n2_ := xm hbox; have n3_ := xm (show w.heap.size ≤ g5 ∧ g5 ≠ g ∧ g5 ≠ g2 from ⟨by rw [hg]; exact xz (DstP.bel (by repeat (first | (with_reducible first | exact HD.out | apply DstP.drewN | apply DstP.drew) | exact HD.out))), by rw [hg]; exact Nat.ne_of_gt (DstP.ltS (by repeat (first | (with_reducible first | exact HD.out | apply DstP.drewN | apply DstP.drew) | exact HD.out))).1, by rw [hg]; exact Nat.ne_of_gt (DstP.ltS (by repeat (first | (with_reducible first | exact HD.out | apply DstP.drewN | apply DstP.drew) | exact HD.out))).2⟩); clear HD HO hbox hb hg; revert n0_ n1_ n2_ n3_; intro HD HO B5 G5; obtain ⟨hc5, hf5⟩ := cz1 B5.out))
 have n0_ := xm (DstP.drew (DstP.far HD.out G5.out (.slice AHO u1.length cHO)))
 have n1_ := xm (Kd.R_drew (Kd.R_mono (ok' := fun _ => True) (Kd.R_far (p := ⟨g5, 0, none⟩) (Kd.R_types HO.out B5.out (by decide)) (fun k_ h_ => h_.2) (.slice AHO u1.length cHO)) (fun _ _ => trivial)))
 have n2_ := xm (xr (blk_put B5.out 0 (.slice AHO u1.length cHO) rfl))
 refine start_ (n := 8) (S := fun w' => w'.cell? ⟨g5, 0, none⟩ = some (.slice AHO u1.length cHO)) (ds := [6]) #[Z,Z,Z,Z,Z,Z,Z,Z] (by kernel_rfl) rfl rfl ((xc n2_.out 0).trans rfl) (fun hHeld => ?_)
 clear HD HO B5 hc5 hf5
 revert n0_ n1_ n2_; intro HD HO B5
 generalize World.drew _ = wu at HD HO B5 hHeld ⊢
 refine take_ (i := 0) (N := some 13) (v := ?_) (a' := ?_) #[Y,Z,Z,Z,Z,Z,Z,Z] rfl rfl (by kernel_rfl) (fun _ _ _ h => h) (Or.inl ⟨by rfl, ?_⟩) hHeld ?_ ?_
 rotate_left
 ·intro w' s0
  go_simp
  with_reducible rfl
 rotate_left
 ·simp only [Act.put, xi, xj, xk, i64_w, i32_w]
  rfl
 refine px 1 8 3 (by kernel_rfl) ?_
 refine px 2 8 7 (by kernel_rfl) ?_
 refine take_ (i := 3) (N := some 16) (v := ?_) (a' := ?_) #[Y,Y,Y,Y,Z,Z,Z,Z] rfl rfl (by kernel_rfl) (fun _ _ _ h => h) (Or.inl ⟨by rfl, ?_⟩) hHeld ?_ ?_
 rotate_left
 ·intro w' s0
  go_simp
  with_reducible rfl
 rotate_left
 ·simp only [Act.put, xi, xj, xk, i64_w, i32_w]
  rfl
 refine px 4 8 31 (by kernel_rfl) ?_
 refine one_ (i := 5) (N := some 18) #[Y,Y,Y,Y,Y,Y,Z,Z] rfl rfl (by kernel_rfl) (by decide) (fun K hK => ?_)
 refine goes_ Try.func25 (by kernel_rfl) rfl #[.pointer (some ⟨g, 0, none⟩), .int .i64 (u1.length : Int)] (by rfl) rfl rfl mB ?_
 refine (spec_l1Cur_columns.calls k g l0 u2 u3 (u1.length : Int) q1 q2 q3 w _ HD.out.1 HD.out.2.1 A3.out).mono ?_
 rintro e wx ⟨v0_, rfl, ho, hi, hb, hk⟩
 refine ⟨_, rfl, ?_⟩
 obtain ⟨AHP, cHP, eo⟩ := Kd.R_slice ho
 subst eo
 have n0_ := xm (DstP.call HD.out hi hb hk)
 have n1_ := xm (KeepBut.blk hk B5.out G5.out.2.1 (by simp))
 have n2_ := xm (Kd.R_mono (old_apart (HD.out.1.apart HO.out (by decide)) hk ho) (ok' := fun k_ => some k_ ≠ (.slice AHP q1.length cHP : Value).ownBlock) (fun _ h_ => h_.2))
 have n3_ := xm (Kd.R_mono (Kd.R_lower (Kd.R_new' ho (Kd.R_lt HO.out)) (xz HD.out.2.1)) (ok' := fun k_ => some k_ ≠ (.slice AHO u1.length cHO : Value).ownBlock) (fun _ h_ => h_.2))
 clear HD B5 HO hi hb hk ho hHeld
 revert n0_ n1_ n2_ n3_; intro HD B5 HO HP
 refine hK.out _ _ ((xc B5.out 0).trans rfl) (fun hHeld => nC ?_)
 clear hK K
 obtain ⟨hc2, hf2⟩ := cz1 HD.out.2.2.1
 refine last_ (i := 6) (N := none) #[Y,Y,Y,Y,Y,Y,Y,Z] rfl rfl (by kernel_rfl) (by decide) (fun K hK => ?_)
 refine skip_ (by rfl) rfl (w1 := wx.setCell ⟨g2, 0, none⟩ (.slice AHO u1.length cHO)) zB ?_
 refine hK.out _ _ ?_
 clear hK K
 refine px 7 8 255 (by kernel_rfl) ?_
 refine done_ (by kernel_rfl) ?_
 clear hc2 hf2
 have e2 := blk_put HD.out.2.2.1 0 (.slice AHO u1.length cHO) rfl
 go_wp2
 refine bodyPost_ret (results_ct rfl _ _ g2 25 #[.slice AHO u1.length cHO] (0, 0) _ rfl e2 hu25 rfl (by kernel_rfl)) rfl ?_
 have far : ∀ {u v : Value} {xs : List Int}, Kd.R (Kd.int .i64) 3 wx w.heap.size (fun k_ => some k_ ≠ u.ownBlock) v xs → Kd.R (Kd.int .i64) 3 (wx.setCell ⟨g2, 0, none⟩ (.slice AHO u1.length cHO)) w.heap.size (fun k_ => some k_ ≠ u.ownBlock) v xs := fun h => Kd.R_mono (Kd.R_far (p := ⟨g2, 0, none⟩) (Kd.R_types h HD.out.2.2.1 (by decide)) (fun _ h_ => h_.2) _) (fun _ h_ => h_.1)
 exact ⟨_, _, rfl, far HO.out, far HP.out, HD.out.2.1.setCell (p := ⟨g2, 0, none⟩) HD.out.2.2.2.1 _⟩

/-! ### spec_l1Columns: function 26 -/
def spec_l1Columns.l0 : Nat → List Int → Int → List Int → Int → Int → Option (Bool)
 | 0, _, _, _, _, _ => none
 | k + 1, x0, x1, x7, x8, x9 => if x9 < x8 then (if 0 ≤ x9 then (if x9 < (x7.length : Int) then (if (rd x7 x9) < 0 then (some false) else (if (rd x7 x9) ≥ x1 then (some false) else (spec_l1Columns.l0 k x0 x1 x7 x8 (wrap64 (x9 + 1))))) else (none)) else (none)) else (some (decide ((x0.length : Int) ≤ 6)))
def spec_l1Columns.f (k : Nat) (l0 : List Int) (a1 : Int) : Option (Bool) := spec_l1Columns.l0 k l0 a1 l0 (l0.length : Int) 0
theorem spec_l1Columns.mono_l : ∀ k, (∀ y0 y1 y2 y3 y4, LeO (spec_l1Columns.l0 k y0 y1 y2 y3 y4) (spec_l1Columns.l0 (k + 1) y0 y1 y2 y3 y4))
 | 0 => fun _ _ _ _ _ r h => by simp [spec_l1Columns.l0] at h
 | k + 1 => by
  have ih0 := spec_l1Columns.mono_l k
  ·intro y0 y1 y2 y3 y4
   unfold spec_l1Columns.l0
   repeat' first
   | (with_reducible exact ih0 _ _ _ _ _)
   | (with_reducible exact LeO.refl _)
   | (with_reducible exact LeO.none _)
   | (with_reducible refine LeO.ite ?_ ?_)
   | (with_reducible refine LeO.bind ?_ (fun _ => ?_))
   | exact ih0 _ _ _ _ _
   | exact LeO.none _
   | refine LeO.ite ?_ ?_
   | refine LeO.bind ?_ (fun _ => ?_)
theorem spec_l1Columns.mono : ∀ a0 a1 k, LeO (spec_l1Columns.f k a0 a1) (spec_l1Columns.f (k + 1) a0 a1) := by
 intro a0 a1 k
 have ih0 := spec_l1Columns.mono_l k
 unfold spec_l1Columns.f
 repeat' first
   | (with_reducible exact ih0 _ _ _ _ _)
   | (with_reducible exact LeO.refl _)
   | (with_reducible exact LeO.none _)
   | (with_reducible refine LeO.ite ?_ ?_)
   | (with_reducible refine LeO.bind ?_ (fun _ => ?_))
   | exact ih0 _ _ _ _ _
   | exact LeO.none _
   | refine LeO.ite ?_ ?_
   | refine LeO.bind ?_ (fun _ => ?_)
set_option maxHeartbeats 8000000 in
set_option maxRecDepth 100000 in
theorem spec_l1Columns.calls (k : Nat) (A0 : Option Addr) (c0 : Nat) (l0 : List Int) (a1 : Int) (r : Bool) (w : World) (hr0 : Kd.C (Kd.int .i64) w A0 l0.length l0) (hc0 : l0.length ≤ c0) (h : spec_l1Columns.f k l0 a1 = some r) :
  Calls Try.prog 26 #[.slice A0 l0.length c0, .int .i64 a1] w fun e w' => e = .returned (.bool r) ∧ Drawn0 w w' := by
 have HR0 := xm hr0
 have HC0 := xm hc0
 clear hr0 hc0
 have H : (spec_l1Columns.l0 k l0 a1 l0 (l0.length : Int) 0) = some r := h
 clear h
 have H' := xm H
 clear H
 go_enter Try.func26, Try.ntmps26
 go_wp2
 go_loopg [9] k (fun kq v9 w' => ∃ (x9_1 : Int), v9 = .int .i64 x9_1 ∧ Aside0 (spec_l1Columns.l0 kq l0 a1 l0 (l0.length : Int) x9_1 = some r) ∧ Aside0 (kq ≤ k) ∧ Drawn0 w w')
 case atStart => exact ⟨(0), sB, H', ⟨Nat.le_refl _⟩, by repeat (first | exact Drawn0.refl _ | apply Drawn0.step)⟩
 case round =>
  clear H'
  try clear c2
  try clear p2
  obtain ⟨x9_1, rfl, HA, HK1, ⟨m1, rfl⟩⟩ := hrel
  cases gk with
  | zero => exact absurd HA.out (by simp [spec_l1Columns.l0])
  | succ k1 =>
   have H := HA.out
   clear HA
   simp only [spec_l1Columns.l0] at H
   by_cases c3 : x9_1 < (l0.length : Int)
   ·rw [if_pos c3] at H
    have c3b0 : decide (x9_1 < (l0.length : Int)) = true := decide_eq_true c3
    clear c3
    by_cases c4 : 0 ≤ x9_1
    ·rw [if_pos c4] at H
     have c4b0 : decide (0 ≤ x9_1) = true := decide_eq_true c4
     clear c4
     by_cases c5 : x9_1 < (l0.length : Int)
     ·rw [if_pos c5] at H
      have c5b0 : decide (x9_1 < (l0.length : Int)) = true := decide_eq_true c5
      clear c5
      by_cases c6 : (rd l0 x9_1) < 0
      ·rw [if_pos c6] at H
       have c6b0 : decide ((rd l0 x9_1) < 0) = true := decide_eq_true c6
       clear c6
       obtain rfl := Option.some.inj H
       have p317 : 0 ≤ (x9_1 : Int) := of_decide_eq_true aB
       have q317 : x9_1 < (l0.length : Int) := of_decide_eq_true aB
       obtain ⟨ad317, e317, hx317_0⟩ := Kd.at_int HR0.out x9_1 p317 q317
       cases e317
       replace p317 := eq_true p317
       replace q317 := eq_true q317
       go_wp2
       go_ret
       exact ⟨sB, dB⟩
      ·rw [if_neg c6] at H
       have c6b0 : decide ((rd l0 x9_1) < 0) = false := decide_eq_false c6
       clear c6
       by_cases c7 : (rd l0 x9_1) ≥ a1
       ·rw [if_pos c7] at H
        have c7b0 : decide (a1 ≤ (rd l0 x9_1)) = true := decide_eq_true c7
        clear c7
        obtain rfl := Option.some.inj H
        have p317 : 0 ≤ (x9_1 : Int) := of_decide_eq_true aB
        have q317 : x9_1 < (l0.length : Int) := of_decide_eq_true aB
        obtain ⟨ad317, e317, hx317_0⟩ := Kd.at_int HR0.out x9_1 p317 q317
        cases e317
        replace p317 := eq_true p317
        replace q317 := eq_true q317
        go_wp2
        go_ret
        exact ⟨sB, dB⟩
       ·rw [if_neg c7] at H
        have c7b0 : decide (a1 ≤ (rd l0 x9_1)) = false := decide_eq_false c7
        clear c7
        have H' := xm H
        clear H
        have p317 : 0 ≤ (x9_1 : Int) := of_decide_eq_true aB
        have q317 : x9_1 < (l0.length : Int) := of_decide_eq_true aB
        obtain ⟨ad317, e317, hx317_0⟩ := Kd.at_int HR0.out x9_1 p317 q317
        cases e317
        replace p317 := eq_true p317
        replace q317 := eq_true q317
        go_wp2
        go_roundg k1
        case measure => have := HK1.out; omega
        case rel => exact ⟨(wrap64 (x9_1 + 1)), sB, H', ⟨by have := HK1.out; omega⟩, by repeat (first | exact Drawn0.refl _ | apply Drawn0.step)⟩
     ·rw [if_neg c5] at H
      exact absurd H (by simp)
    ·rw [if_neg c4] at H
     exact absurd H (by simp)
   ·rw [if_neg c3] at H
    have c3b0 : decide (x9_1 < (l0.length : Int)) = false := decide_eq_false c3
    clear c3
    obtain rfl := Option.some.inj H
    go_wp2
    go_ret
    exact ⟨sB, dB⟩

end Go.Proofs.Ytmelechhnimlnaa.G
