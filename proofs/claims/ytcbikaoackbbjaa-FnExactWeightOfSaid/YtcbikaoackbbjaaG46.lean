/- Written by a program of this claim's own, out of the translation: functions of the program as plain functions, and that the calls answer as these. No conditions. -/
import Derived.Test.YtcbikaoackbbjaaG0
import Derived.Test.YtcbikaoackbbjaaG23
import Derived.Test.YtcbikaoackbbjaaG26
import Derived.Test.YtcbikaoackbbjaaG45
namespace Go.Proofs.Ytcbikaoackbbjaa.G
open Go.RowKit Go.Proofs.Ytcbikaoackbbjaa.X Go.Proofs.YtcbikaoackbbjaaW.PrintWords Go.Proofs.YtcbikaoackbbjaaW.PrintLast Go.Proofs.YtcbikaoackbbjaaW.PrintMore
attribute [local go_sem] max2_int min2_int max_two min_two max_three min_three max_four min_four   -- for this text's walks alone
set_option linter.unusedVariables false
set_option linter.unusedSimpArgs false

/-! ### slices_BinarySearchFunc_Limpl_Weighted_impl_Weighted_impl_Row: function 154 -/
def slices_BinarySearchFunc_Limpl_Weighted_impl_Weighted_impl_Row.l0 : Nat → List S126 → List Int → Int → Int → Option Int
 | 0, _, _, _, _ => none
 | k + 1, l, t, i, j => if i < j then (if 0 ≤ i then (if j ≤ (l.length : Int) then ((impl_Table_weightOf_1.f k (rd_T126 l ((i + j) / 2)).f0.f0 (rd_T126 l ((i + j) / 2)).f1 t).bind fun c => if c < 0 then slices_BinarySearchFunc_Limpl_Weighted_impl_Weighted_impl_Row.l0 k l t ((i + j) / 2 + 1) j else slices_BinarySearchFunc_Limpl_Weighted_impl_Weighted_impl_Row.l0 k l t i ((i + j) / 2)) else none) else none) else some i
def slices_BinarySearchFunc_Limpl_Weighted_impl_Weighted_impl_Row.f (k : Nat) (l0 : List (S126)) (l1_0 : List Int) : Option (Int × Bool) := if l0.length < 140737488355328 then ((slices_BinarySearchFunc_Limpl_Weighted_impl_Weighted_impl_Row.l0 k l0 l1_0 0 (l0.length : Int)).bind fun i => if i < (l0.length : Int) then (if 0 ≤ i then ((impl_Table_weightOf_1.f k (rd_T126 l0 i).f0.f0 (rd_T126 l0 i).f1 l1_0).bind fun c => some (i, c == 0)) else none) else some (i, false)) else none
theorem slices_BinarySearchFunc_Limpl_Weighted_impl_Weighted_impl_Row.mono_l : ∀ k y0 y1 y2 y3, LeO (slices_BinarySearchFunc_Limpl_Weighted_impl_Weighted_impl_Row.l0 k y0 y1 y2 y3) (slices_BinarySearchFunc_Limpl_Weighted_impl_Weighted_impl_Row.l0 (k + 1) y0 y1 y2 y3)
 | 0 => fun _ _ _ _ r h => by simp [slices_BinarySearchFunc_Limpl_Weighted_impl_Weighted_impl_Row.l0] at h
 | k + 1 => by
  intro y0 y1 y2 y3
  rw [slices_BinarySearchFunc_Limpl_Weighted_impl_Weighted_impl_Row.l0, slices_BinarySearchFunc_Limpl_Weighted_impl_Weighted_impl_Row.l0]
  exact LeO.ite (LeO.ite (LeO.ite (LeO.bind (impl_Table_weightOf_1.mono _ _ _ k) (fun _ => LeO.ite (slices_BinarySearchFunc_Limpl_Weighted_impl_Weighted_impl_Row.mono_l k _ _ _ _) (slices_BinarySearchFunc_Limpl_Weighted_impl_Weighted_impl_Row.mono_l k _ _ _ _))) (LeO.refl _)) (LeO.refl _)) (LeO.refl _)
theorem slices_BinarySearchFunc_Limpl_Weighted_impl_Weighted_impl_Row.mono : ∀ a0 a1 k, LeO (slices_BinarySearchFunc_Limpl_Weighted_impl_Weighted_impl_Row.f k a0 a1) (slices_BinarySearchFunc_Limpl_Weighted_impl_Weighted_impl_Row.f (k + 1) a0 a1) := fun a0 a1 k =>
 LeO.ite (LeO.bind (slices_BinarySearchFunc_Limpl_Weighted_impl_Weighted_impl_Row.mono_l k _ _ _ _) (fun _ => LeO.ite (LeO.ite (LeO.bind (impl_Table_weightOf_1.mono _ _ _ k) (fun _ => LeO.refl _)) (LeO.refl _)) (LeO.refl _))) (LeO.refl _)
theorem slices_BinarySearchFunc_Limpl_Weighted_impl_Weighted_impl_Row.enters155 : ∀ args w, (callFunc 155 args).run Try.prog w = .ok (.enter 155 args) w := enters_of Try.func155 (by kernel_rfl) rfl
set_option maxHeartbeats 8000000 in
set_option maxRecDepth 100000 in
theorem slices_BinarySearchFunc_Limpl_Weighted_impl_Weighted_impl_Row.calls (k : Nat) (A0 : Option Addr) (c0 : Nat) (l0 : List (S126)) (A1_0 : Option Addr) (c1_0 : Nat) (l1_0 : List Int) (r1 : Int) (r2 : Bool) (w : World) (hr0 : Kd.C k126 w A0 l0.length l0) (hc0 : l0.length ≤ c0) (hr1_0 : Kd.C (Kd.int .i64) w A1_0 l1_0.length l1_0) (hc1_0 : l1_0.length ≤ c1_0) (h : slices_BinarySearchFunc_Limpl_Weighted_impl_Weighted_impl_Row.f k l0 l1_0 = some (r1, r2)) :
  Calls Try.prog 154 #[.slice A0 l0.length c0, .agg #[.slice A1_0 l1_0.length c1_0], .func (.func 155) #[] #[]] w fun e w' => e = .returned (.tuple #[.int .i64 r1, .bool r2]) ∧ Below w.heap.size w w' := by
 have hu126 := Try.underlying126
 have hu26 := Try.underlying26
 have HR0 := xm hr0
 have HC0 := xm hc0
 have HR1 := xm hr1_0
 have HC1 := xm hc1_0
 clear hr0 hc0 hr1_0 hc1_0
 have HB := xm (Below.refl w.heap.size w)
 have EN := xm slices_BinarySearchFunc_Limpl_Weighted_impl_Weighted_impl_Row.enters155
 unfold slices_BinarySearchFunc_Limpl_Weighted_impl_Weighted_impl_Row.f at h
 by_cases cL : l0.length < 140737488355328
 case neg => rw [if_neg cL] at h; cases h
 rw [if_pos cL] at h
 have hL : (l0.length : Int) ≤ 140737488355328 := by omega
 clear cL
 obtain ⟨i9, h0, h⟩ := Option.bind_eq_some_iff.mp h
 have H' := xm h0
 have H2 := xm h
 clear h0 h
 go_enter Try.func154, Try.ntmps154
 go_wp2_with ((with_reducible refine gate_dst (N := 4) rfl ?_); refine box_event ?hga (N := 4) ?hda (cs := #[.slice A1_0 l1_0.length c1_0]) (t := 26) ?hra ?_; (case hda => rfl); (case hga => rfl); (case hra => first | (go_simp; done) | (go_simp; rfl)); intro g4 hg4 w1 hbox hbb; have n0_ := xm (below_step HB.out hbb); have B4 := xm hbox; clear HB hg4 hbox hbb; have HB := n0_; clear n0_)
 go_loopg [9, 10] k (fun kq v9 v10 w' => ∃ (i j : Int), v9 = .int .i64 i ∧ v10 = .int .i64 j ∧ Aside0 (slices_BinarySearchFunc_Limpl_Weighted_impl_Weighted_impl_Row.l0 kq l0 l1_0 i j = some i9) ∧ Aside0 (kq ≤ k) ∧ Aside0 (w'.heap[g4]? = some (.cells #[.slice A1_0 l1_0.length c1_0] 26 (0, 0))) ∧ Aside0 (Below w.heap.size w w'))
 case atStart => exact ⟨0, (l0.length : Int), rfl, rfl, H', ⟨Nat.le_refl _⟩, B4, HB⟩
 case round =>
  clear H' HB B4
  obtain ⟨i, j, rfl, rfl, HA, HK1, B4, HB⟩ := hrel
  cases gk with
  | zero => exact absurd HA.out (by simp [slices_BinarySearchFunc_Limpl_Weighted_impl_Weighted_impl_Row.l0])
  | succ k1 =>
   have H := HA.out
   clear HA
   simp only [slices_BinarySearchFunc_Limpl_Weighted_impl_Weighted_impl_Row.l0] at H
   by_cases c4 : i < j
   case neg =>
    rw [if_neg c4] at H
    have c4b : decide (i < j) = false := decide_eq_false c4
    clear c4
    obtain rfl := Option.some.inj H
    clear H
    have h2 := H2.out
    clear H2
    by_cases c5 : i < (l0.length : Int)
    case neg =>
     rw [if_neg c5] at h2
     have c5b : decide (i < (l0.length : Int)) = false := decide_eq_false c5
     clear c5
     simp only [Option.some.injEq, Prod.mk.injEq] at h2
     obtain ⟨rfl, rfl⟩ := h2
     go_wp2
     have hbd := below_drew HB.out
     refine start_ (n := 16) (S := fun _ => True) (ds := []) #[Z,Z,Z,Z,Z,Z,Z,Z,Z,Z,Z,Z,Z,Z,Z,Z] (by kernel_rfl) rfl rfl trivial (fun hHeld => ?_)
     clear HB
     have HB := xm hbd
     clear hbd
     generalize wr.drew = wd at HB ⊢
     refine pure_ (i := 0) (N := some 35) (v := ?_) (a' := ?_) #[Y,Z,Z,Z,Z,Z,Z,Z,Z,Z,Z,Z,Z,Z,Z,Z] rfl rfl (by kernel_rfl) (fun _ _ _ h => h) (Or.inl ⟨by rfl, ?_⟩) ?_ ?_
     rotate_left
     ·intro w'
      go_simp
      with_reducible rfl
     rotate_left
     ·simp only [Act.put, xi, xj, xk, i64_w, i32_w]
      rfl
     refine pure_ (i := 1) (N := some 36) (v := ?_) (a' := ?_) #[Y,Y,Z,Z,Z,Z,Z,Z,Z,Z,Z,Z,Z,Z,Z,Z] rfl rfl (by kernel_rfl) (fun _ _ _ h => h) (Or.inl ⟨by rfl, ?_⟩) ?_ ?_
     rotate_left
     ·intro w'
      go_simp
      with_reducible rfl
     rotate_left
     ·simp only [Act.put, xi, xj, xk, i64_w, i32_w]
      rfl
     refine pure_ (i := 2) (N := some 37) (v := ?_) (a' := ?_) #[Y,Y,Y,Z,Z,Z,Z,Z,Z,Z,Z,Z,Z,Z,Z,Z] rfl rfl (by kernel_rfl) (fun _ _ _ h => h) (Or.inl ⟨by rfl, ?_⟩) ?_ ?_
     rotate_left
     ·intro w'
      go_simp
      with_reducible rfl
     rotate_left
     ·simp only [Act.put, xi, xj, xk, i64_w, i32_w]
      rfl
     refine pure_ (i := 3) (N := some 38) (v := ?_) (a' := ?_) #[Y,Y,Y,Y,Z,Z,Z,Z,Z,Z,Z,Z,Z,Z,Z,Z] rfl rfl (by kernel_rfl) (fun _ _ _ h => h) (Or.inl ⟨by rfl, ?_⟩) ?_ ?_
     rotate_left
     ·intro w'
      go_simp
      with_reducible rfl
     rotate_left
     ·simp only [Act.put, xi, xj, xk, i64_w, i32_w]
      rfl
     refine pure_ (i := 4) (N := some 39) (v := ?_) (a' := ?_) #[Y,Y,Y,Y,Y,Z,Z,Z,Z,Z,Z,Z,Z,Z,Z,Z] rfl rfl (by kernel_rfl) (fun _ _ _ h => h) (Or.inl ⟨by rfl, ?_⟩) ?_ ?_
     rotate_left
     ·intro w'
      go_simp
      with_reducible rfl
     rotate_left
     ·simp only [Act.put, xi, xj, xk, i64_w, i32_w]
      rfl
     refine pure_ (i := 5) (N := some 40) (v := undef) (a' := ?_) #[Y,Y,Y,Y,Y,Y,Z,Z,Z,Z,Z,Z,Z,Z,Z,Z] rfl rfl (by kernel_rfl) (fun _ _ _ h => h) (Or.inr ⟨by rfl, rfl⟩) ?_ ?_
     rotate_left
     ·simp only [Act.put, xi, xj, xk, i64_w, i32_w]
      rfl
     refine pure_ (i := 6) (N := some 41) (v := undef) (a' := ?_) #[Y,Y,Y,Y,Y,Y,Y,Z,Z,Z,Z,Z,Z,Z,Z,Z] rfl rfl (by kernel_rfl) (fun _ _ _ h => h) (Or.inr ⟨by rfl, rfl⟩) ?_ ?_
     rotate_left
     ·simp only [Act.put, xi, xj, xk, i64_w, i32_w]
      rfl
     refine pure_ (i := 7) (N := some 42) (v := undef) (a' := ?_) #[Y,Y,Y,Y,Y,Y,Y,Y,Z,Z,Z,Z,Z,Z,Z,Z] rfl rfl (by kernel_rfl) (fun _ _ _ h => h) (Or.inr ⟨by rfl, rfl⟩) ?_ ?_
     rotate_left
     ·simp only [Act.put, xi, xj, xk, i64_w, i32_w]
      rfl
     refine pure_ (i := 8) (N := some 43) (v := undef) (a' := ?_) #[Y,Y,Y,Y,Y,Y,Y,Y,Y,Z,Z,Z,Z,Z,Z,Z] rfl rfl (by kernel_rfl) (fun _ _ _ h => h) (Or.inr ⟨by rfl, rfl⟩) ?_ ?_
     rotate_left
     ·simp only [Act.put, xi, xj, xk, i64_w, i32_w]
      rfl
     refine pure_ (i := 9) (N := some 44) (v := undef) (a' := ?_) #[Y,Y,Y,Y,Y,Y,Y,Y,Y,Y,Z,Z,Z,Z,Z,Z] rfl rfl (by kernel_rfl) (fun _ _ _ h => h) (Or.inr ⟨by rfl, rfl⟩) ?_ ?_
     rotate_left
     ·simp only [Act.put, xi, xj, xk, i64_w, i32_w]
      rfl
     refine pure_ (i := 10) (N := some 45) (v := undef) (a' := ?_) #[Y,Y,Y,Y,Y,Y,Y,Y,Y,Y,Y,Z,Z,Z,Z,Z] rfl rfl (by kernel_rfl) (fun _ _ _ h => h) (Or.inr ⟨by rfl, rfl⟩) ?_ ?_
     rotate_left
     ·simp only [Act.put, xi, xj, xk, i64_w, i32_w]
      rfl
     refine pure_ (i := 11) (N := some 46) (v := undef) (a' := ?_) #[Y,Y,Y,Y,Y,Y,Y,Y,Y,Y,Y,Y,Z,Z,Z,Z] rfl rfl (by kernel_rfl) (fun _ _ _ h => h) (Or.inr ⟨by rfl, rfl⟩) ?_ ?_
     rotate_left
     ·simp only [Act.put, xi, xj, xk, i64_w, i32_w]
      rfl
     refine pure_ (i := 12) (N := some 47) (v := undef) (a' := ?_) #[Y,Y,Y,Y,Y,Y,Y,Y,Y,Y,Y,Y,Y,Z,Z,Z] rfl rfl (by kernel_rfl) (fun _ _ _ h => h) (Or.inr ⟨by rfl, rfl⟩) ?_ ?_
     rotate_left
     ·simp only [Act.put, xi, xj, xk, i64_w, i32_w]
      rfl
     refine pure_ (i := 13) (N := some 48) (v := ?_) (a' := ?_) #[Y,Y,Y,Y,Y,Y,Y,Y,Y,Y,Y,Y,Y,Y,Z,Z] rfl rfl (by kernel_rfl) (fun _ _ _ h => h) (Or.inl ⟨by rfl, ?_⟩) ?_ ?_
     rotate_left
     ·intro w'
      go_simp
      with_reducible rfl
     rotate_left
     ·simp only [Act.put, xi, xj, xk, i64_w, i32_w]
      rfl
     refine pure_ (i := 14) (N := some 6) (v := ?_) (a' := ?_) #[Y,Y,Y,Y,Y,Y,Y,Y,Y,Y,Y,Y,Y,Y,Y,Z] rfl rfl (by kernel_rfl) (fun _ _ _ h => h) (Or.inl ⟨by rfl, ?_⟩) ?_ ?_
     rotate_left
     ·intro w'
      go_simp
      with_reducible rfl
     rotate_left
     ·simp only [Act.put, xi, xj, xk, i64_w, i32_w]
      rfl
     refine pure_ (i := 15) (N := some 7) (v := ?_) (a' := ?_) #[Y,Y,Y,Y,Y,Y,Y,Y,Y,Y,Y,Y,Y,Y,Y,Y] rfl rfl (by kernel_rfl) (fun _ _ _ h => h) (Or.inl ⟨by rfl, ?_⟩) ?_ ?_
     rotate_left
     ·intro w'
      go_simp
      with_reducible rfl
     rotate_left
     ·simp only [Act.put, xi, xj, xk, i64_w, i32_w]
      rfl
     refine done_ (by kernel_rfl) ?_
     go_wp2
     go_ret2
     exact ⟨rfl, HB.out⟩
    case pos =>
     rw [if_pos c5] at h2
     by_cases c6 : 0 ≤ i
     case neg => rw [if_neg c6] at h2; cases h2
     rw [if_pos c6] at h2
     obtain ⟨c, hc, h2⟩ := Option.bind_eq_some_iff.mp h2
     simp only [Option.some.injEq, Prod.mk.injEq] at h2
     obtain ⟨rfl, rfl⟩ := h2
     have HC := xm hc
     have c5b : decide (i < (l0.length : Int)) = true := decide_eq_true c5
     clear hc
     obtain ⟨ad, Ae, ce, e0, hx0, hx1, hle, hre⟩ := at_T126 (Kd.C_below HR0.out HB.out) i c6 c5
     cases e0
     have HLE := xm hle
     have HRE := xm hre
     clear hle hre
     go_wp2
     have hy0 := (below_drew (Below.refl wr.heap.size wr)).cell (World.block_lt_of_cell? wr _ hx0) |>.trans hx0
     have hy1 := (below_drew (Below.refl wr.heap.size wr)).cell (World.block_lt_of_cell? wr _ hx1) |>.trans hx1
     have b4 := xr B4.out
     have hbd := below_drew HB.out
     have hrd := xm (Kd.C_drew HRE.out)
     refine start_ (n := 16) (S := fun w' => (w'.cell? (ad.add (i.toNat * 2)) = some (.slice Ae (rd_T126 l0 i).f0.f0.length ce) ∧ w'.cell? ⟨(ad.add (i.toNat * 2)).block, (ad.add (i.toNat * 2)).off + 1, none⟩ = some (.int .i64 (rd_T126 l0 i).f1) ∧ w'.cell? ⟨g4, 0, none⟩ = some (.slice A1_0 l1_0.length c1_0))) (ds := []) #[Z,Z,Z,Z,Z,Z,Z,Z,Z,Z,Z,Z,Z,Z,Z,Z] (by kernel_rfl) rfl rfl ⟨hy0, hy1, (xc b4 0).trans rfl⟩ (fun hHeld => ?_)
     clear HB B4 HRE hx0 hx1
     have HB := xm hbd
     have B4 := xm b4
     have HRE := hrd
     have HX0 := xm hy0
     have HX1 := xm hy1
     clear hbd b4 hrd hy0 hy1
     generalize wr.drew = wd at HB B4 HRE HX0 HX1 hHeld ⊢
     refine pure_ (i := 0) (N := some 35) (v := ?_) (a' := ?_) #[Y,Z,Z,Z,Z,Z,Z,Z,Z,Z,Z,Z,Z,Z,Z,Z] rfl rfl (by kernel_rfl) (fun _ _ _ h => h) (Or.inl ⟨by rfl, ?_⟩) ?_ ?_
     rotate_left
     ·intro w'
      go_simp
      with_reducible rfl
     rotate_left
     ·simp only [Act.put, xi, xj, xk, i64_w, i32_w]
      rfl
     refine pure_ (i := 1) (N := some 36) (v := ?_) (a' := ?_) #[Y,Y,Z,Z,Z,Z,Z,Z,Z,Z,Z,Z,Z,Z,Z,Z] rfl rfl (by kernel_rfl) (fun _ _ _ h => h) (Or.inl ⟨by rfl, ?_⟩) ?_ ?_
     rotate_left
     ·intro w'
      go_simp
      with_reducible rfl
     rotate_left
     ·simp only [Act.put, xi, xj, xk, i64_w, i32_w]
      rfl
     refine pure_ (i := 2) (N := some 37) (v := ?_) (a' := ?_) #[Y,Y,Y,Z,Z,Z,Z,Z,Z,Z,Z,Z,Z,Z,Z,Z] rfl rfl (by kernel_rfl) (fun _ _ _ h => h) (Or.inl ⟨by rfl, ?_⟩) ?_ ?_
     rotate_left
     ·intro w'
      go_simp
      with_reducible rfl
     rotate_left
     ·simp only [Act.put, xi, xj, xk, i64_w, i32_w]
      rfl
     refine pure_ (i := 3) (N := some 38) (v := ?_) (a' := ?_) #[Y,Y,Y,Y,Z,Z,Z,Z,Z,Z,Z,Z,Z,Z,Z,Z] rfl rfl (by kernel_rfl) (fun _ _ _ h => h) (Or.inl ⟨by rfl, ?_⟩) ?_ ?_
     rotate_left
     ·intro w'
      go_simp
      with_reducible rfl
     rotate_left
     ·simp only [Act.put, xi, xj, xk, i64_w, i32_w]
      rfl
     refine pure_ (i := 4) (N := some 39) (v := ?_) (a' := ?_) #[Y,Y,Y,Y,Y,Z,Z,Z,Z,Z,Z,Z,Z,Z,Z,Z] rfl rfl (by kernel_rfl) (fun _ _ _ h => h) (Or.inl ⟨by rfl, ?_⟩) ?_ ?_
     rotate_left
     ·intro w'
      go_simp
      with_reducible rfl
     rotate_left
     ·simp only [Act.put, xi, xj, xk, i64_w, i32_w]
      rfl
     refine pure_ (i := 5) (N := some 40) (v := ?_) (a' := ?_) #[Y,Y,Y,Y,Y,Y,Z,Z,Z,Z,Z,Z,Z,Z,Z,Z] rfl rfl (by kernel_rfl) (fun _ _ _ h => h) (Or.inl ⟨by rfl, ?_⟩) ?_ ?_
     rotate_left
     ·intro w'
      go_simp
      with_reducible rfl
     rotate_left
     ·simp only [Act.put, xi, xj, xk, i64_w, i32_w]
      rfl
     refine pure_ (i := 6) (N := some 41) (v := ?_) (a' := ?_) #[Y,Y,Y,Y,Y,Y,Y,Z,Z,Z,Z,Z,Z,Z,Z,Z] rfl rfl (by kernel_rfl) (fun _ _ _ h => h) (Or.inl ⟨by rfl, ?_⟩) ?_ ?_
     rotate_left
     ·intro w'
      go_simp
      with_reducible rfl
     rotate_left
     ·simp only [Act.put, xi, xj, xk, i64_w, i32_w]
      rfl
     refine pure_ (i := 7) (N := some 42) (v := ?_) (a' := ?_) #[Y,Y,Y,Y,Y,Y,Y,Y,Z,Z,Z,Z,Z,Z,Z,Z] rfl rfl (by kernel_rfl) (fun _ _ _ h => h) (Or.inl ⟨by rfl, ?_⟩) ?_ ?_
     rotate_left
     ·intro w'
      go_simp
      with_reducible rfl
     rotate_left
     ·simp only [Act.put, xi, xj, xk, i64_w, i32_w]
      rfl
     refine pure_ (i := 8) (N := some 43) (v := ?_) (a' := ?_) #[Y,Y,Y,Y,Y,Y,Y,Y,Y,Z,Z,Z,Z,Z,Z,Z] rfl rfl (by kernel_rfl) (fun _ _ _ h => h) (Or.inl ⟨by rfl, ?_⟩) ?_ ?_
     rotate_left
     ·intro w'
      go_simp
      with_reducible rfl
     rotate_left
     ·simp only [Act.put, xi, xj, xk, i64_w, i32_w]
      rfl
     refine take_ (i := 9) (N := some 44) (v := ?_) (a' := ?_) #[Y,Y,Y,Y,Y,Y,Y,Y,Y,Y,Z,Z,Z,Z,Z,Z] rfl rfl (by kernel_rfl) (fun _ _ _ h => h) (Or.inl ⟨by rfl, ?_⟩) hHeld ?_ ?_
     rotate_left
     ·rintro w' ⟨s0, s1, s2⟩
      go_simp
      with_reducible rfl
     rotate_left
     ·simp only [Act.put, xi, xj, xk, i64_w, i32_w]
      rfl
     refine take_ (i := 10) (N := some 45) (v := ?_) (a' := ?_) #[Y,Y,Y,Y,Y,Y,Y,Y,Y,Y,Y,Z,Z,Z,Z,Z] rfl rfl (by kernel_rfl) (fun _ _ _ h => h) (Or.inl ⟨by rfl, ?_⟩) hHeld ?_ ?_
     rotate_left
     ·rintro w' ⟨s0, s1, s2⟩
      go_simp
      with_reducible rfl
     rotate_left
     ·simp only [Act.put, xi, xj, xk, i64_w, i32_w]
      rfl
     refine one_ (i := 11) (N := some 46) #[Y,Y,Y,Y,Y,Y,Y,Y,Y,Y,Y,Y,Z,Z,Z,Z] rfl rfl (by kernel_rfl) (by decide) (fun K hK => ?_)
     refine call_ 155 #[.agg #[.slice Ae (rd_T126 l0 i).f0.f0.length ce, .int .i64 (rd_T126 l0 i).f1], .agg #[.slice A1_0 l1_0.length c1_0]] (by rfl) rfl (by have EN_ := EN.out; unfold execOp; simp [resolve, Deferred.ofValue, invoke, Act.eval, EN_]) ?_
     refine (impl_Table_weightOf_1.calls k _ _ (rd_T126 l0 i).f0.f0 (rd_T126 l0 i).f1 _ _ l1_0 c _ HRE.out HLE.out (Kd.C_below HR1.out HB.out) HC1.out HC.out).mono ?_
     rintro e w5 ⟨rfl, hb⟩
     refine ⟨_, rfl, ?_⟩
     have n0_ := xm (below_step HB.out hb)
     have n1_ := xm (blk_below B4.out hb)
     have n2_ := xm (pw_cell_below hb HX0.out)
     have n3_ := xm (pw_cell_below hb HX1.out)
     clear HB B4 HX0 HX1 hb
     have HB := n0_
     have B4 := n1_
     have HX0 := n2_
     have HX1 := n3_
     clear n0_ n1_ n2_ n3_
     refine hK.out _ _ ⟨HX0.out, HX1.out, (xc B4.out 0).trans rfl⟩ (fun hHeld => ?_)
     clear hK K
     refine norm_ (a' := ?_) ?_ ?_
     rotate_left
     ·show Act.put _ (some 46) _ = _
      simp only [Act.put, xi, xj, xk, i64_w, i32_w]
      rfl
     refine pure_ (i := 12) (N := some 47) (v := ?_) (a' := ?_) #[Y,Y,Y,Y,Y,Y,Y,Y,Y,Y,Y,Y,Y,Z,Z,Z] rfl rfl (by kernel_rfl) (fun _ _ _ h => h) (Or.inl ⟨by rfl, ?_⟩) ?_ ?_
     rotate_left
     ·intro w'
      go_simp
      with_reducible rfl
     rotate_left
     ·simp only [Act.put, xi, xj, xk, i64_w, i32_w]
      rfl
     refine pure_ (i := 13) (N := some 48) (v := ?_) (a' := ?_) #[Y,Y,Y,Y,Y,Y,Y,Y,Y,Y,Y,Y,Y,Y,Z,Z] rfl rfl (by kernel_rfl) (fun _ _ _ h => h) (Or.inl ⟨by rfl, ?_⟩) ?_ ?_
     rotate_left
     ·intro w'
      go_simp
      with_reducible rfl
     rotate_left
     ·simp only [Act.put, xi, xj, xk, i64_w, i32_w]
      rfl
     refine pure_ (i := 14) (N := some 6) (v := ?_) (a' := ?_) #[Y,Y,Y,Y,Y,Y,Y,Y,Y,Y,Y,Y,Y,Y,Y,Z] rfl rfl (by kernel_rfl) (fun _ _ _ h => h) (Or.inl ⟨by rfl, ?_⟩) ?_ ?_
     rotate_left
     ·intro w'
      go_simp
      with_reducible rfl
     rotate_left
     ·simp only [Act.put, xi, xj, xk, i64_w, i32_w]
      rfl
     refine pure_ (i := 15) (N := some 7) (v := ?_) (a' := ?_) #[Y,Y,Y,Y,Y,Y,Y,Y,Y,Y,Y,Y,Y,Y,Y,Y] rfl rfl (by kernel_rfl) (fun _ _ _ h => h) (Or.inl ⟨by rfl, ?_⟩) ?_ ?_
     rotate_left
     ·intro w'
      go_simp
      with_reducible rfl
     rotate_left
     ·simp only [Act.put, xi, xj, xk, i64_w, i32_w]
      rfl
     refine done_ (by kernel_rfl) ?_
     go_wp2
     go_ret2
     exact ⟨rfl, HB.out⟩
   case pos =>
    rw [if_pos c4] at H
    by_cases c5 : 0 ≤ i
    case neg => rw [if_neg c5] at H; cases H
    rw [if_pos c5] at H
    by_cases c6 : j ≤ (l0.length : Int)
    case neg => rw [if_neg c6] at H; cases H
    rw [if_pos c6] at H
    obtain ⟨m, hm⟩ : ∃ m : Int, (i + j) / 2 = m := ⟨_, rfl⟩
    rw [hm] at H
    have p0 : 0 ≤ m := by omega
    have q0 : m < (l0.length : Int) := by omega
    obtain ⟨c, hc, H⟩ := Option.bind_eq_some_iff.mp H
    have HC := xm hc
    have HH := xm H
    clear hc H
    have c4b : decide (i < j) = true := decide_eq_true c4
    obtain ⟨ad, Ae, ce, e0, hx0, hx1, hle, hre⟩ := at_T126 (Kd.C_below HR0.out HB.out) m p0 q0
    cases e0
    have HLE := xm hle
    have HRE := xm hre
    clear hle hre
    go_wp2
    have hy0 := (below_drew (Below.refl wr.heap.size wr)).cell (World.block_lt_of_cell? wr _ hx0) |>.trans hx0
    have hy1 := (below_drew (Below.refl wr.heap.size wr)).cell (World.block_lt_of_cell? wr _ hx1) |>.trans hx1
    have b4 := xr B4.out
    have hbd := below_drew HB.out
    have hrd := xm (Kd.C_drew HRE.out)
    refine start_ (n := 8) (S := fun w' => (w'.cell? (ad.add (m.toNat * 2)) = some (.slice Ae (rd_T126 l0 m).f0.f0.length ce) ∧ w'.cell? ⟨(ad.add (m.toNat * 2)).block, (ad.add (m.toNat * 2)).off + 1, none⟩ = some (.int .i64 (rd_T126 l0 m).f1) ∧ w'.cell? ⟨g4, 0, none⟩ = some (.slice A1_0 l1_0.length c1_0))) (ds := []) #[Z,Z,Z,Z,Z,Z,Z,Z] (by kernel_rfl) rfl rfl ⟨hy0, hy1, (xc b4 0).trans rfl⟩ (fun hHeld => ?_)
    clear HB B4 HRE hx0 hx1
    have HB := xm hbd
    have B4 := xm b4
    have HRE := hrd
    have HX0 := xm hy0
    have HX1 := xm hy1
    clear hbd b4 hrd hy0 hy1
    generalize wr.drew = wd at HB B4 HRE HX0 HX1 hHeld ⊢
    refine pure_ (i := 0) (N := some 24) (v := ?_) (a' := ?_) #[Y,Z,Z,Z,Z,Z,Z,Z] rfl rfl (by kernel_rfl) (fun _ _ _ h => h) (Or.inl ⟨by rfl, ?_⟩) ?_ ?_
    rotate_left
    ·intro w'
     go_simp
     with_reducible rfl
    rotate_left
    ·simp only [Act.put, xi, xj, xk, i64_w, i32_w]
     rfl
    refine pure_ (i := 1) (N := some 25) (v := ?_) (a' := ?_) #[Y,Y,Z,Z,Z,Z,Z,Z] rfl rfl (by kernel_rfl) (fun _ _ _ h => h) (Or.inl ⟨by rfl, ?_⟩) ?_ ?_
    rotate_left
    ·intro w'
     go_simp
     with_reducible rfl
    rotate_left
    ·simp only [Act.put, xi, xj, xk, i64_w, i32_w]
     rfl
    refine pure_ (i := 2) (N := some 26) (v := ?_) (a' := ?_) #[Y,Y,Y,Z,Z,Z,Z,Z] rfl rfl (by kernel_rfl) (fun _ _ _ h => h) (Or.inl ⟨by rfl, ?_⟩) ?_ ?_
    rotate_left
    ·intro w'
     go_simp
     with_reducible rfl
    rotate_left
    ·simp only [Act.put, xi, xj, xk, i64_w, i32_w]
     rfl
    refine pure_ (i := 3) (N := some 27) (v := ?_) (a' := ?_) #[Y,Y,Y,Y,Z,Z,Z,Z] rfl rfl (by kernel_rfl) (fun _ _ _ h => h) (Or.inl ⟨by rfl, ?_⟩) ?_ ?_
    rotate_left
    ·intro w'
     go_simp
     with_reducible rfl
    rotate_left
    ·simp only [Act.put, xi, xj, xk, i64_w, i32_w]
     rfl
    refine take_ (i := 4) (N := some 28) (v := ?_) (a' := ?_) #[Y,Y,Y,Y,Y,Z,Z,Z] rfl rfl (by kernel_rfl) (fun _ _ _ h => h) (Or.inl ⟨by rfl, ?_⟩) hHeld ?_ ?_
    rotate_left
    ·rintro w' ⟨s0, s1, s2⟩
     go_simp
     with_reducible rfl
    rotate_left
    ·simp only [Act.put, xi, xj, xk, i64_w, i32_w]
     rfl
    refine take_ (i := 5) (N := some 29) (v := ?_) (a' := ?_) #[Y,Y,Y,Y,Y,Y,Z,Z] rfl rfl (by kernel_rfl) (fun _ _ _ h => h) (Or.inl ⟨by rfl, ?_⟩) hHeld ?_ ?_
    rotate_left
    ·rintro w' ⟨s0, s1, s2⟩
     go_simp
     with_reducible rfl
    rotate_left
    ·simp only [Act.put, xi, xj, xk, i64_w, i32_w]
     rfl
    refine one_ (i := 6) (N := some 30) #[Y,Y,Y,Y,Y,Y,Y,Z] rfl rfl (by kernel_rfl) (by decide) (fun K hK => ?_)
    refine call_ 155 #[.agg #[.slice Ae (rd_T126 l0 m).f0.f0.length ce, .int .i64 (rd_T126 l0 m).f1], .agg #[.slice A1_0 l1_0.length c1_0]] (by rfl) rfl (by have EN_ := EN.out; unfold execOp; simp [resolve, Deferred.ofValue, invoke, Act.eval, EN_]) ?_
    refine (impl_Table_weightOf_1.calls k1 _ _ (rd_T126 l0 m).f0.f0 (rd_T126 l0 m).f1 _ _ l1_0 c _ HRE.out HLE.out (Kd.C_below HR1.out HB.out) HC1.out HC.out).mono ?_
    rintro e w5 ⟨rfl, hb⟩
    refine ⟨_, rfl, ?_⟩
    have n0_ := xm (below_step HB.out hb)
    have n1_ := xm (blk_below B4.out hb)
    have n2_ := xm (pw_cell_below hb HX0.out)
    have n3_ := xm (pw_cell_below hb HX1.out)
    clear HB B4 HX0 HX1 hb
    have HB := n0_
    have B4 := n1_
    have HX0 := n2_
    have HX1 := n3_
    clear n0_ n1_ n2_ n3_
    refine hK.out _ _ ⟨HX0.out, HX1.out, (xc B4.out 0).trans rfl⟩ (fun hHeld => ?_)
    clear hK K
    refine norm_ (a' := ?_) ?_ ?_
    rotate_left
    ·show Act.put _ (some 30) _ = _
     simp only [Act.put, xi, xj, xk, i64_w, i32_w]
     rfl
    refine pure_ (i := 7) (N := some 31) (v := ?_) (a' := ?_) #[Y,Y,Y,Y,Y,Y,Y,Y] rfl rfl (by kernel_rfl) (fun _ _ _ h => h) (Or.inl ⟨by rfl, ?_⟩) ?_ ?_
    rotate_left
    ·intro w'
     go_simp
     with_reducible rfl
    rotate_left
    ·simp only [Act.put, xi, xj, xk, i64_w, i32_w]
     rfl
    refine done_ (by kernel_rfl) ?_
    clear HX0 HX1 HRE HLE
    have HH2 := HH.out
    clear HH
    by_cases c9 : c < 0
    ·rw [if_pos c9] at HH2
     have c9b : decide (c < 0) = true := decide_eq_true c9
     go_wp2
     go_roundg k1
     case measure => have := HK1.out; omega
     case rel => exact ⟨m + 1, j, (by first | rfl | (simp; done)), rfl, ⟨HH2⟩, ⟨by have := HK1.out; omega⟩, B4, HB⟩
    ·rw [if_neg c9] at HH2
     have c9b : decide (c < 0) = false := decide_eq_false c9
     go_wp2
     go_roundg k1
     case measure => have := HK1.out; omega
     case rel => exact ⟨i, m, rfl, rfl, ⟨HH2⟩, ⟨by have := HK1.out; omega⟩, B4, HB⟩

/-! ### impl_Table_weightOf: function 126 -/
def impl_Table_weightOf.f (k : Nat) (a0_0 : Int) (l0_1 : List (S126)) (l1_0 : List Int) : Option (Int) := (slices_BinarySearchFunc_Limpl_Weighted_impl_Weighted_impl_Row.f k l0_1 l1_0).bind fun bt838 => (if bt838.2 = true then (if 0 ≤ bt838.1 then (if bt838.1 < (l0_1.length : Int) then (some ((rd_T126 l0_1 bt838.1).f1)) else (none)) else (none)) else (some 0))
theorem impl_Table_weightOf.mono : ∀ a0 a1 a2 k, LeO (impl_Table_weightOf.f k a0 a1 a2) (impl_Table_weightOf.f (k + 1) a0 a1 a2) := by
 intro a0 a1 a2 k
 unfold impl_Table_weightOf.f
 repeat' first
   | (with_reducible exact slices_BinarySearchFunc_Limpl_Weighted_impl_Weighted_impl_Row.mono _ _ _)
   | (with_reducible exact LeO.refl _)
   | (with_reducible exact LeO.none _)
   | (with_reducible refine LeO.ite ?_ ?_)
   | (with_reducible refine LeO.bind ?_ (fun _ => ?_))
   | exact slices_BinarySearchFunc_Limpl_Weighted_impl_Weighted_impl_Row.mono _ _ _
   | exact LeO.none _
   | refine LeO.ite ?_ ?_
   | refine LeO.bind ?_ (fun _ => ?_)
set_option maxHeartbeats 8000000 in
set_option maxRecDepth 100000 in
theorem impl_Table_weightOf.calls (k : Nat) (a0_0 : Int) (A0_1 : Option Addr) (c0_1 : Nat) (l0_1 : List (S126)) (A1_0 : Option Addr) (c1_0 : Nat) (l1_0 : List Int) (r : Int) (w : World) (hr0_1 : Kd.C k126 w A0_1 l0_1.length l0_1) (hc0_1 : l0_1.length ≤ c0_1) (hr1_0 : Kd.C (Kd.int .i64) w A1_0 l1_0.length l1_0) (hc1_0 : l1_0.length ≤ c1_0) (h : impl_Table_weightOf.f k a0_0 l0_1 l1_0 = some r) :
  Calls Try.prog 126 #[.agg #[.int .i64 a0_0, .slice A0_1 l0_1.length c0_1], .agg #[.slice A1_0 l1_0.length c1_0]] w fun e w' => e = .returned (.int .i64 r) ∧ Below w.heap.size w w' := by
 have hu41 := Try.underlying41
 have hu26 := Try.underlying26
 have HR0_1 := xm hr0_1
 have HC0_1 := xm hc0_1
 clear hr0_1 hc0_1
 have HR1_0 := xm hr1_0
 have HC1_0 := xm hc1_0
 clear hr1_0 hc1_0
 have HB := xm (Below.refl w.heap.size w)
 have H : ((slices_BinarySearchFunc_Limpl_Weighted_impl_Weighted_impl_Row.f k l0_1 l1_0).bind fun bt838 => (if bt838.2 = true then (if 0 ≤ bt838.1 then (if bt838.1 < (l0_1.length : Int) then (some ((rd_T126 l0_1 bt838.1).f1)) else (none)) else (none)) else (some 0))) = some r := h
 clear h
 replace H := Option.bind_eq_some_iff.mp H
 obtain ⟨⟨t838, t839⟩, A30, H⟩ := H
 replace H : (if t839 = true then (if 0 ≤ t838 then (if t838 < (l0_1.length : Int) then (some ((rd_T126 l0_1 t838).f1)) else (none)) else (none)) else (some 0)) = some r := H
 have A3 := xm A30
 clear A30
 by_cases c4 : t839 = true
 ·subst c4
  have H1 : (if 0 ≤ t838 then (if t838 < (l0_1.length : Int) then (some ((rd_T126 l0_1 t838).f1)) else (none)) else (none)) = some r := by first | (with_reducible rfl) | (rw [if_pos rfl] at H; exact H)
  clear H
  have H := H1
  clear H1
  by_cases c5 : 0 ≤ t838
  ·rw [if_pos c5] at H
   have c5b0 : decide (0 ≤ t838) = true := decide_eq_true c5
   clear c5
   by_cases c6 : t838 < (l0_1.length : Int)
   ·rw [if_pos c6] at H
    have c6b0 : decide (t838 < (l0_1.length : Int)) = true := decide_eq_true c6
    clear c6
    obtain rfl := Option.some.inj H
    go_enter Try.func126, Try.ntmps126
    go_wp2_with (first | ((with_reducible refine gate_dst (N := 2) rfl ?_); refine box_event ?hg (N := 2) ?hd (cs := #[.int .i64 a0_0, .slice A0_1 l0_1.length c0_1]) (t := 41) ?hr ?_; (case hd => rfl); (case hg => rfl); (case hr => first | (go_simp; done) | (go_simp; rfl)); intro gb836 hg w7 hbox hb; have n0_ := xm (below_step (by repeat (first | (with_reducible first | exact HB.out | apply xa | apply xn | apply xd) | exact HB.out)) hb); have n1_ := xm (hbox); have n2_ := xm ((by rw [hg]; exact (xz (by repeat (first | (with_reducible first | exact HB.out | apply xa | apply xn | apply xd) | exact HB.out))) : w.heap.size ≤ gb836)); have n3_ := xm ((by rw [hg]; exact (xz (by repeat (first | (with_reducible first | exact HB.out | apply xa | apply xn | apply xd) | exact HB.out))) : w.heap.size ≤ gb836)); clear HB; have HB := n0_; have BK836 := n1_; have GW836 := n2_; have GE836 := n3_; clear n0_ n1_ n2_ n3_; clear hb hbox hg) | ((with_reducible refine gate_dst (N := 3) rfl ?_); refine box_event ?hg (N := 3) ?hd (cs := #[.slice A1_0 l1_0.length c1_0]) (t := 26) ?hr ?_; (case hd => rfl); (case hg => rfl); (case hr => first | (go_simp; done) | (go_simp; rfl)); intro gb837 hg w8 hbox hb; have n0_ := xm (blk_below (g := gb836) (o := .cells #[.int .i64 a0_0, .slice A0_1 l0_1.length c0_1] 41 (0, 0)) (by (with_reducible repeat (first | refine xq ?_ _ | refine xr ?_ | refine xo ?_ _)); exact BK836.out) hb); have n1_ := xm (below_step (by repeat (first | (with_reducible first | exact HB.out | apply xa | apply xn | apply xd | refine xt ?_ GE836.out) | exact HB.out)) hb); have n2_ := xm (hbox); have n3_ := xm ((by rw [hg]; exact (xz (by repeat (first | (with_reducible first | exact HB.out | apply xa | apply xn | apply xd | refine xt ?_ GE836.out) | exact HB.out))) : w.heap.size ≤ gb837)); have n4_ := xm ((by rw [hg]; exact (xz (by repeat (first | (with_reducible first | exact HB.out | apply xa | apply xn | apply xd | refine xt ?_ GE836.out) | exact HB.out))) : w.heap.size ≤ gb837)); have n5_ := xm ((by rw [hg]; exact Nat.ne_of_lt (blk_lt (g := gb836) (o := .cells #[.int .i64 a0_0, .slice A0_1 l0_1.length c0_1] 41 (0, 0)) (by (with_reducible repeat (first | refine xq ?_ _ | refine xr ?_ | refine xo ?_ _)); exact BK836.out)) : gb836 ≠ gb837)); have n6_ := xm ((by rw [hg]; exact Nat.ne_of_gt (blk_lt (g := gb836) (o := .cells #[.int .i64 a0_0, .slice A0_1 l0_1.length c0_1] 41 (0, 0)) (by (with_reducible repeat (first | refine xq ?_ _ | refine xr ?_ | refine xo ?_ _)); exact BK836.out)) : gb837 ≠ gb836)); clear BK836; clear HB; have BK836 := n0_; have HB := n1_; have BK837 := n2_; have GW837 := n3_; have GE837 := n4_; have NB836_837 := n5_; have NB837_836 := n6_; clear n0_ n1_ n2_ n3_ n4_ n5_ n6_; clear hb hbox hg; have hnb9 := NB836_837.out; have hnc9 := NB837_836.out; have hcz10_0 : w8.cell? ⟨gb836, 0, none⟩ = some (.int .i64 a0_0) := (xc BK836.out 0).trans rfl; have hcz10_1 : w8.cell? ⟨gb836, 1, none⟩ = some (.slice A0_1 l0_1.length c0_1) := (xc BK836.out 1).trans rfl; have hfz10_0 := xf BK836.out 0; have hfz10_1 := xf BK836.out 1; have hcz11_0 : w8.cell? ⟨gb837, 0, none⟩ = some (.slice A1_0 l1_0.length c1_0) := (xc BK837.out 0).trans rfl; have hfz11_0 := xf BK837.out 0) | ((with_reducible refine gate_callee (f := 154) rfl ?_); refine goesL_ (some 11) rfl rfl Try.func154 (by kernel_rfl) rfl #[.slice A0_1 l0_1.length c0_1, .agg #[.slice A1_0 l1_0.length c1_0], .func (.func 155) #[] #[]] rfl (by (try simp only [List.map_toArray, List.map_cons, List.map_nil]); first | done | rfl | (simp only [List.length_drop, List.length_take]; rfl)) ?_; (with_reducible refine (slices_BinarySearchFunc_Limpl_Weighted_impl_Weighted_impl_Row.calls k _ _ l0_1 _ _ l1_0 t838 true _ ?side1 ?side2 ?side3 ?side4 A3.out).mono ?_); (case side1 => repeat (first | exact (Kd.C_below HR0_1.out HB.out) | (with_reducible refine Kd.C_alloc ?_ _) | (with_reducible refine Kd.C_drewN ?_ _) | (with_reducible refine Kd.C_drew ?_))); (case side2 => exact HC0_1.out); (case side3 => repeat (first | exact (Kd.C_below HR1_0.out HB.out) | (with_reducible refine Kd.C_alloc ?_ _) | (with_reducible refine Kd.C_drewN ?_ _) | (with_reducible refine Kd.C_drew ?_))); (case side4 => exact HC1_0.out); rintro e w12 ⟨rfl, hb⟩; refine ⟨_, rfl, ?_⟩; have n0_ := xm (blk_below (g := gb836) (o := .cells #[.int .i64 a0_0, .slice A0_1 l0_1.length c0_1] 41 (0, 0)) (by (with_reducible repeat (first | refine xq ?_ _ | refine xr ?_ | refine xo ?_ _)); exact BK836.out) hb); have n1_ := xm (blk_below (g := gb837) (o := .cells #[.slice A1_0 l1_0.length c1_0] 26 (0, 0)) (by (with_reducible repeat (first | refine xq ?_ _ | refine xr ?_ | refine xo ?_ _)); exact BK837.out) hb); have n2_ := xm (below_step (by repeat (first | (with_reducible first | exact HB.out | apply xa | apply xn | apply xd | refine xt ?_ GE836.out | refine xt ?_ GE837.out) | exact HB.out)) hb); clear BK836; clear BK837; clear HB; have BK836 := n0_; have BK837 := n1_; have HB := n2_; clear n0_ n1_ n2_; (try clear hb); (try clear hb2); (try clear hk); (try clear hi); have hcz13_0 : w12.cell? ⟨gb836, 0, none⟩ = some (.int .i64 a0_0) := (xc BK836.out 0).trans rfl; have hcz13_1 : w12.cell? ⟨gb836, 1, none⟩ = some (.slice A0_1 l0_1.length c0_1) := (xc BK836.out 1).trans rfl; have hfz13_0 := xf BK836.out 0; have hfz13_1 := xf BK836.out 1; have p840 : 0 ≤ (t838 : Int) := of_decide_eq_true (by first | (with_reducible assumption) | assumption); have q840 : t838 < (l0_1.length : Int) := of_decide_eq_true (by first | (with_reducible assumption) | assumption); obtain ⟨ad840, A840_0, c840_0, e840, hx840_0, hx840_1, hl840_0, hi840_0⟩ := at_T126 HR0_1.out t838 p840 q840; cases e840; replace hx840_0 := (HB.out.cell (World.block_lt_of_cell? w _ hx840_0)).trans hx840_0; replace hx840_1 := (HB.out.cell (World.block_lt_of_cell? w _ hx840_1)).trans hx840_1; have HR840_0 := xm hi840_0; have HC840_0 := xm hl840_0; clear hi840_0 hl840_0; replace p840 := eq_true p840; replace q840 := eq_true q840))
    go_ret
    exact ⟨by first | rfl | (simp [errW_none, errW_some] <;> rfl) | (simp [*, errW_none, errW_some] <;> rfl), by repeat (first | (with_reducible first | exact HB.out | apply xa | apply xn | apply xd | refine xt ?_ GE836.out | refine xt ?_ GE837.out) | exact HB.out)⟩
   ·rw [if_neg c6] at H
    exact absurd H (by simp)
  ·rw [if_neg c5] at H
   exact absurd H (by simp)
 ·replace c4 := Bool.eq_false_iff.mpr c4
  subst c4
  have H1 : (some 0) = some r := by first | (with_reducible rfl) | (rw [if_neg (show ¬ (false = true) by decide)] at H; exact H)
  clear H
  have H := H1
  clear H1
  obtain rfl := Option.some.inj H
  go_enter Try.func126, Try.ntmps126
  go_wp2_with (first | ((with_reducible refine gate_dst (N := 2) rfl ?_); refine box_event ?hg (N := 2) ?hd (cs := #[.int .i64 a0_0, .slice A0_1 l0_1.length c0_1]) (t := 41) ?hr ?_; (case hd => rfl); (case hg => rfl); (case hr => first | (go_simp; done) | (go_simp; rfl)); intro gb836 hg w14 hbox hb; have n0_ := xm (below_step (by repeat (first | (with_reducible first | exact HB.out | apply xa | apply xn | apply xd) | exact HB.out)) hb); have n1_ := xm (hbox); have n2_ := xm ((by rw [hg]; exact (xz (by repeat (first | (with_reducible first | exact HB.out | apply xa | apply xn | apply xd) | exact HB.out))) : w.heap.size ≤ gb836)); have n3_ := xm ((by rw [hg]; exact (xz (by repeat (first | (with_reducible first | exact HB.out | apply xa | apply xn | apply xd) | exact HB.out))) : w.heap.size ≤ gb836)); clear HB; have HB := n0_; have BK836 := n1_; have GW836 := n2_; have GE836 := n3_; clear n0_ n1_ n2_ n3_; clear hb hbox hg) | ((with_reducible refine gate_dst (N := 3) rfl ?_); refine box_event ?hg (N := 3) ?hd (cs := #[.slice A1_0 l1_0.length c1_0]) (t := 26) ?hr ?_; (case hd => rfl); (case hg => rfl); (case hr => first | (go_simp; done) | (go_simp; rfl)); intro gb837 hg w15 hbox hb; have n0_ := xm (blk_below (g := gb836) (o := .cells #[.int .i64 a0_0, .slice A0_1 l0_1.length c0_1] 41 (0, 0)) (by (with_reducible repeat (first | refine xq ?_ _ | refine xr ?_ | refine xo ?_ _)); exact BK836.out) hb); have n1_ := xm (below_step (by repeat (first | (with_reducible first | exact HB.out | apply xa | apply xn | apply xd | refine xt ?_ GE836.out) | exact HB.out)) hb); have n2_ := xm (hbox); have n3_ := xm ((by rw [hg]; exact (xz (by repeat (first | (with_reducible first | exact HB.out | apply xa | apply xn | apply xd | refine xt ?_ GE836.out) | exact HB.out))) : w.heap.size ≤ gb837)); have n4_ := xm ((by rw [hg]; exact (xz (by repeat (first | (with_reducible first | exact HB.out | apply xa | apply xn | apply xd | refine xt ?_ GE836.out) | exact HB.out))) : w.heap.size ≤ gb837)); have n5_ := xm ((by rw [hg]; exact Nat.ne_of_lt (blk_lt (g := gb836) (o := .cells #[.int .i64 a0_0, .slice A0_1 l0_1.length c0_1] 41 (0, 0)) (by (with_reducible repeat (first | refine xq ?_ _ | refine xr ?_ | refine xo ?_ _)); exact BK836.out)) : gb836 ≠ gb837)); have n6_ := xm ((by rw [hg]; exact Nat.ne_of_gt (blk_lt (g := gb836) (o := .cells #[.int .i64 a0_0, .slice A0_1 l0_1.length c0_1] 41 (0, 0)) (by (with_reducible repeat (first | refine xq ?_ _ | refine xr ?_ | refine xo ?_ _)); exact BK836.out)) : gb837 ≠ gb836)); clear BK836; clear HB; have BK836 := n0_; have HB := n1_; have BK837 := n2_; have GW837 := n3_; have GE837 := n4_; have NB836_837 := n5_; have NB837_836 := n6_; clear n0_ n1_ n2_ n3_ n4_ n5_ n6_; clear hb hbox hg; have hnb16 := NB836_837.out; have hnc16 := NB837_836.out; have hcz17_0 : w15.cell? ⟨gb836, 0, none⟩ = some (.int .i64 a0_0) := (xc BK836.out 0).trans rfl; have hcz17_1 : w15.cell? ⟨gb836, 1, none⟩ = some (.slice A0_1 l0_1.length c0_1) := (xc BK836.out 1).trans rfl; have hfz17_0 := xf BK836.out 0; have hfz17_1 := xf BK836.out 1; have hcz18_0 : w15.cell? ⟨gb837, 0, none⟩ = some (.slice A1_0 l1_0.length c1_0) := (xc BK837.out 0).trans rfl; have hfz18_0 := xf BK837.out 0) | ((with_reducible refine gate_callee (f := 154) rfl ?_); refine goesL_ (some 11) rfl rfl Try.func154 (by kernel_rfl) rfl #[.slice A0_1 l0_1.length c0_1, .agg #[.slice A1_0 l1_0.length c1_0], .func (.func 155) #[] #[]] rfl (by (try simp only [List.map_toArray, List.map_cons, List.map_nil]); first | done | rfl | (simp only [List.length_drop, List.length_take]; rfl)) ?_; (with_reducible refine (slices_BinarySearchFunc_Limpl_Weighted_impl_Weighted_impl_Row.calls k _ _ l0_1 _ _ l1_0 t838 false _ ?side1 ?side2 ?side3 ?side4 A3.out).mono ?_); (case side1 => repeat (first | exact (Kd.C_below HR0_1.out HB.out) | (with_reducible refine Kd.C_alloc ?_ _) | (with_reducible refine Kd.C_drewN ?_ _) | (with_reducible refine Kd.C_drew ?_))); (case side2 => exact HC0_1.out); (case side3 => repeat (first | exact (Kd.C_below HR1_0.out HB.out) | (with_reducible refine Kd.C_alloc ?_ _) | (with_reducible refine Kd.C_drewN ?_ _) | (with_reducible refine Kd.C_drew ?_))); (case side4 => exact HC1_0.out); rintro e w19 ⟨rfl, hb⟩; refine ⟨_, rfl, ?_⟩; have n0_ := xm (blk_below (g := gb836) (o := .cells #[.int .i64 a0_0, .slice A0_1 l0_1.length c0_1] 41 (0, 0)) (by (with_reducible repeat (first | refine xq ?_ _ | refine xr ?_ | refine xo ?_ _)); exact BK836.out) hb); have n1_ := xm (blk_below (g := gb837) (o := .cells #[.slice A1_0 l1_0.length c1_0] 26 (0, 0)) (by (with_reducible repeat (first | refine xq ?_ _ | refine xr ?_ | refine xo ?_ _)); exact BK837.out) hb); have n2_ := xm (below_step (by repeat (first | (with_reducible first | exact HB.out | apply xa | apply xn | apply xd | refine xt ?_ GE836.out | refine xt ?_ GE837.out) | exact HB.out)) hb); clear BK836; clear BK837; clear HB; have BK836 := n0_; have BK837 := n1_; have HB := n2_; clear n0_ n1_ n2_; (try clear hb); (try clear hb2); (try clear hk); (try clear hi)))
  go_ret
  exact ⟨by first | rfl | (simp [errW_none, errW_some] <;> rfl) | (simp [*, errW_none, errW_some] <;> rfl), by repeat (first | (with_reducible first | exact HB.out | apply xa | apply xn | apply xd | refine xt ?_ GE836.out | refine xt ?_ GE837.out) | exact HB.out)⟩

/-! ### impl_WeightOf: function 67 -/
def impl_WeightOf.f (k : Nat) (a0_0 : Int) (l0_1 : List (S126)) (l1_0 : List Int) : Option (Int × Bool) := (impl_GoodTable.f k a0_0 l0_1).bind fun t843 => (if t843 = true then ((impl_isRowOf.f l1_0 a0_0).bind fun t844 => (if t844 = true then ((impl_Table_weightOf.f k a0_0 l0_1 l1_0).bind fun t845 => (some (t845, true))) else (some (0, false)))) else (some (0, false)))
theorem impl_WeightOf.mono : ∀ a0 a1 a2 k, LeO (impl_WeightOf.f k a0 a1 a2) (impl_WeightOf.f (k + 1) a0 a1 a2) := by
 intro a0 a1 a2 k
 unfold impl_WeightOf.f
 repeat' first
   | (with_reducible exact impl_GoodTable.mono _ _ _)
   | (with_reducible exact impl_Table_weightOf.mono _ _ _ _)
   | (with_reducible exact LeO.refl _)
   | (with_reducible exact LeO.none _)
   | (with_reducible refine LeO.ite ?_ ?_)
   | (with_reducible refine LeO.bind ?_ (fun _ => ?_))
   | exact impl_GoodTable.mono _ _ _
   | exact impl_Table_weightOf.mono _ _ _ _
   | exact LeO.none _
   | refine LeO.ite ?_ ?_
   | refine LeO.bind ?_ (fun _ => ?_)
set_option maxHeartbeats 8000000 in
set_option maxRecDepth 100000 in
theorem impl_WeightOf.calls (k : Nat) (a0_0 : Int) (A0_1 : Option Addr) (c0_1 : Nat) (l0_1 : List (S126)) (A1_0 : Option Addr) (c1_0 : Nat) (l1_0 : List Int) (r1 : Int) (r2 : Bool) (w : World) (hr0_1 : Kd.C k126 w A0_1 l0_1.length l0_1) (hc0_1 : l0_1.length ≤ c0_1) (hr1_0 : Kd.C (Kd.int .i64) w A1_0 l1_0.length l1_0) (hc1_0 : l1_0.length ≤ c1_0) (h : impl_WeightOf.f k a0_0 l0_1 l1_0 = some (r1, r2)) :
  Calls Try.prog 67 #[.agg #[.int .i64 a0_0, .slice A0_1 l0_1.length c0_1], .agg #[.slice A1_0 l1_0.length c1_0]] w fun e w' => e = .returned (.tuple #[.int .i64 r1, .bool r2]) ∧ Below w.heap.size w w' := by
 have hu41 := Try.underlying41
 have hu26 := Try.underlying26
 have HR0_1 := xm hr0_1
 have HC0_1 := xm hc0_1
 clear hr0_1 hc0_1
 have HR1_0 := xm hr1_0
 have HC1_0 := xm hc1_0
 clear hr1_0 hc1_0
 have HB := xm (Below.refl w.heap.size w)
 have H : ((impl_GoodTable.f k a0_0 l0_1).bind fun t843 => (if t843 = true then ((impl_isRowOf.f l1_0 a0_0).bind fun t844 => (if t844 = true then ((impl_Table_weightOf.f k a0_0 l0_1 l1_0).bind fun t845 => (some (t845, true))) else (some (0, false)))) else (some (0, false)))) = some (r1, r2) := h
 clear h
 replace H := Option.bind_eq_some_iff.mp H
 obtain ⟨t843, A30, H⟩ := H
 replace H : (if t843 = true then ((impl_isRowOf.f l1_0 a0_0).bind fun t844 => (if t844 = true then ((impl_Table_weightOf.f k a0_0 l0_1 l1_0).bind fun t845 => (some (t845, true))) else (some (0, false)))) else (some (0, false))) = some (r1, r2) := H
 have A3 := xm A30
 clear A30
 by_cases c4 : t843 = true
 ·subst c4
  have H1 : ((impl_isRowOf.f l1_0 a0_0).bind fun t844 => (if t844 = true then ((impl_Table_weightOf.f k a0_0 l0_1 l1_0).bind fun t845 => (some (t845, true))) else (some (0, false)))) = some (r1, r2) := by first | (with_reducible rfl) | (rw [if_pos rfl] at H; exact H)
  clear H
  have H := H1
  clear H1
  replace H := Option.bind_eq_some_iff.mp H
  obtain ⟨t844, A50, H⟩ := H
  replace H : (if t844 = true then ((impl_Table_weightOf.f k a0_0 l0_1 l1_0).bind fun t845 => (some (t845, true))) else (some (0, false))) = some (r1, r2) := H
  have A5 := xm A50
  clear A50
  by_cases c6 : t844 = true
  ·subst c6
   have H1 : ((impl_Table_weightOf.f k a0_0 l0_1 l1_0).bind fun t845 => (some (t845, true))) = some (r1, r2) := by first | (with_reducible rfl) | (rw [if_pos rfl] at H; exact H)
   clear H
   have H := H1
   clear H1
   replace H := Option.bind_eq_some_iff.mp H
   obtain ⟨t845, A70, H⟩ := H
   replace H : (some (t845, true)) = some (r1, r2) := H
   have A7 := xm A70
   clear A70
   simp only [Option.some.injEq, Prod.mk.injEq] at H
   obtain ⟨rfl, rfl⟩ := H
   go_enter Try.func67, Try.ntmps67
   go_wp2_with (first | ((with_reducible refine gate_dst (N := 2) rfl ?_); refine box_event ?hg (N := 2) ?hd (cs := #[.int .i64 a0_0, .slice A0_1 l0_1.length c0_1]) (t := 41) ?hr ?_; (case hd => rfl); (case hg => rfl); (case hr => first | (go_simp; done) | (go_simp; rfl)); intro gb841 hg w8 hbox hb; have n0_ := xm (below_step (by repeat (first | (with_reducible first | exact HB.out | apply xa | apply xn | apply xd) | exact HB.out)) hb); have n1_ := xm (hbox); have n2_ := xm ((by rw [hg]; exact (xz (by repeat (first | (with_reducible first | exact HB.out | apply xa | apply xn | apply xd) | exact HB.out))) : w.heap.size ≤ gb841)); have n3_ := xm ((by rw [hg]; exact (xz (by repeat (first | (with_reducible first | exact HB.out | apply xa | apply xn | apply xd) | exact HB.out))) : w.heap.size ≤ gb841)); clear HB; have HB := n0_; have BK841 := n1_; have GW841 := n2_; have GE841 := n3_; clear n0_ n1_ n2_ n3_; clear hb hbox hg) | ((with_reducible refine gate_dst (N := 3) rfl ?_); refine box_event ?hg (N := 3) ?hd (cs := #[.slice A1_0 l1_0.length c1_0]) (t := 26) ?hr ?_; (case hd => rfl); (case hg => rfl); (case hr => first | (go_simp; done) | (go_simp; rfl)); intro gb842 hg w9 hbox hb; have n0_ := xm (blk_below (g := gb841) (o := .cells #[.int .i64 a0_0, .slice A0_1 l0_1.length c0_1] 41 (0, 0)) (by (with_reducible repeat (first | refine xq ?_ _ | refine xr ?_ | refine xo ?_ _)); exact BK841.out) hb); have n1_ := xm (below_step (by repeat (first | (with_reducible first | exact HB.out | apply xa | apply xn | apply xd | refine xt ?_ GE841.out) | exact HB.out)) hb); have n2_ := xm (hbox); have n3_ := xm ((by rw [hg]; exact (xz (by repeat (first | (with_reducible first | exact HB.out | apply xa | apply xn | apply xd | refine xt ?_ GE841.out) | exact HB.out))) : w.heap.size ≤ gb842)); have n4_ := xm ((by rw [hg]; exact (xz (by repeat (first | (with_reducible first | exact HB.out | apply xa | apply xn | apply xd | refine xt ?_ GE841.out) | exact HB.out))) : w.heap.size ≤ gb842)); have n5_ := xm ((by rw [hg]; exact Nat.ne_of_lt (blk_lt (g := gb841) (o := .cells #[.int .i64 a0_0, .slice A0_1 l0_1.length c0_1] 41 (0, 0)) (by (with_reducible repeat (first | refine xq ?_ _ | refine xr ?_ | refine xo ?_ _)); exact BK841.out)) : gb841 ≠ gb842)); have n6_ := xm ((by rw [hg]; exact Nat.ne_of_gt (blk_lt (g := gb841) (o := .cells #[.int .i64 a0_0, .slice A0_1 l0_1.length c0_1] 41 (0, 0)) (by (with_reducible repeat (first | refine xq ?_ _ | refine xr ?_ | refine xo ?_ _)); exact BK841.out)) : gb842 ≠ gb841)); clear BK841; clear HB; have BK841 := n0_; have HB := n1_; have BK842 := n2_; have GW842 := n3_; have GE842 := n4_; have NB841_842 := n5_; have NB842_841 := n6_; clear n0_ n1_ n2_ n3_ n4_ n5_ n6_; clear hb hbox hg; have hnb10 := NB841_842.out; have hnc10 := NB842_841.out; have hcz11_0 : w9.cell? ⟨gb841, 0, none⟩ = some (.int .i64 a0_0) := (xc BK841.out 0).trans rfl; have hcz11_1 : w9.cell? ⟨gb841, 1, none⟩ = some (.slice A0_1 l0_1.length c0_1) := (xc BK841.out 1).trans rfl; have hfz11_0 := xf BK841.out 0; have hfz11_1 := xf BK841.out 1) | ((with_reducible refine gate_callee (f := 43) rfl ?_); refine goesL_ (some 7) rfl rfl Try.func43 (by kernel_rfl) rfl #[.agg #[.int .i64 a0_0, .slice A0_1 l0_1.length c0_1]] rfl (by (try simp only [List.map_toArray, List.map_cons, List.map_nil]); first | done | rfl | (simp only [List.length_drop, List.length_take]; rfl)) ?_; (with_reducible refine (impl_GoodTable.calls k a0_0 _ _ l0_1 true _ ?side1 ?side2 A3.out).mono ?_); (case side1 => repeat (first | exact (Kd.C_below HR0_1.out HB.out) | (with_reducible refine Kd.C_alloc ?_ _) | (with_reducible refine Kd.C_drewN ?_ _) | (with_reducible refine Kd.C_drew ?_))); (case side2 => exact HC0_1.out); rintro e w12 ⟨rfl, hb⟩; refine ⟨_, rfl, ?_⟩; have n0_ := xm (blk_below (g := gb841) (o := .cells #[.int .i64 a0_0, .slice A0_1 l0_1.length c0_1] 41 (0, 0)) (by (with_reducible repeat (first | refine xq ?_ _ | refine xr ?_ | refine xo ?_ _)); exact BK841.out) hb); have n1_ := xm (blk_below (g := gb842) (o := .cells #[.slice A1_0 l1_0.length c1_0] 26 (0, 0)) (by (with_reducible repeat (first | refine xq ?_ _ | refine xr ?_ | refine xo ?_ _)); exact BK842.out) hb); have n2_ := xm (below_step (by repeat (first | (with_reducible first | exact HB.out | apply xa | apply xn | apply xd | refine xt ?_ GE841.out | refine xt ?_ GE842.out) | exact HB.out)) hb); clear BK841; clear BK842; clear HB; have BK841 := n0_; have BK842 := n1_; have HB := n2_; clear n0_ n1_ n2_; (try clear hb); (try clear hb2); (try clear hk); (try clear hi); have hcz13_0 : w12.cell? ⟨gb842, 0, none⟩ = some (.slice A1_0 l1_0.length c1_0) := (xc BK842.out 0).trans rfl; have hfz13_0 := xf BK842.out 0; have hcz14_0 : w12.cell? ⟨gb841, 0, none⟩ = some (.int .i64 a0_0) := (xc BK841.out 0).trans rfl; have hcz14_1 : w12.cell? ⟨gb841, 1, none⟩ = some (.slice A0_1 l0_1.length c0_1) := (xc BK841.out 1).trans rfl; have hfz14_0 := xf BK841.out 0; have hfz14_1 := xf BK841.out 1) | (go_at_call 98; (with_reducible refine (impl_isRowOf.calls _ _ l1_0 a0_0 true _ ?side1 ?side2 A5.out).mono ?_); (case side1 => repeat (first | exact (Kd.C_below HR1_0.out HB.out) | (with_reducible refine Kd.C_alloc ?_ _) | (with_reducible refine Kd.C_drewN ?_ _) | (with_reducible refine Kd.C_drew ?_))); (case side2 => exact HC1_0.out); rintro e w15 ⟨rfl, hb⟩; have n0_ := xm (blk_below (g := gb841) (o := .cells #[.int .i64 a0_0, .slice A0_1 l0_1.length c0_1] 41 (0, 0)) (by (with_reducible repeat (first | refine xq ?_ _ | refine xr ?_ | refine xo ?_ _)); exact BK841.out) hb); have n1_ := xm (blk_below (g := gb842) (o := .cells #[.slice A1_0 l1_0.length c1_0] 26 (0, 0)) (by (with_reducible repeat (first | refine xq ?_ _ | refine xr ?_ | refine xo ?_ _)); exact BK842.out) hb); have n2_ := xm (below_step (by repeat (first | (with_reducible first | exact HB.out | apply xa | apply xn | apply xd | refine xt ?_ GE841.out | refine xt ?_ GE842.out) | exact HB.out)) hb); clear BK841; clear BK842; clear HB; have BK841 := n0_; have BK842 := n1_; have HB := n2_; clear n0_ n1_ n2_; (try clear hb); (try clear hb2); (try clear hk); (try clear hi); have hcz16_0 : w15.cell? ⟨gb841, 0, none⟩ = some (.int .i64 a0_0) := (xc BK841.out 0).trans rfl; have hcz16_1 : w15.cell? ⟨gb841, 1, none⟩ = some (.slice A0_1 l0_1.length c0_1) := (xc BK841.out 1).trans rfl; have hfz16_0 := xf BK841.out 0; have hfz16_1 := xf BK841.out 1; have hcz17_0 : w15.cell? ⟨gb842, 0, none⟩ = some (.slice A1_0 l1_0.length c1_0) := (xc BK842.out 0).trans rfl; have hfz17_0 := xf BK842.out 0) | ((with_reducible refine gate_callee (f := 126) rfl ?_); refine goesL_ (some 18) rfl rfl Try.func126 (by kernel_rfl) rfl #[.agg #[.int .i64 a0_0, .slice A0_1 l0_1.length c0_1], .agg #[.slice A1_0 l1_0.length c1_0]] rfl (by (try simp only [List.map_toArray, List.map_cons, List.map_nil]); first | done | rfl | (simp only [List.length_drop, List.length_take]; rfl)) ?_; (with_reducible refine (impl_Table_weightOf.calls k a0_0 _ _ l0_1 _ _ l1_0 t845 _ ?side1 ?side2 ?side3 ?side4 A7.out).mono ?_); (case side1 => repeat (first | exact (Kd.C_below HR0_1.out HB.out) | (with_reducible refine Kd.C_alloc ?_ _) | (with_reducible refine Kd.C_drewN ?_ _) | (with_reducible refine Kd.C_drew ?_))); (case side2 => exact HC0_1.out); (case side3 => repeat (first | exact (Kd.C_below HR1_0.out HB.out) | (with_reducible refine Kd.C_alloc ?_ _) | (with_reducible refine Kd.C_drewN ?_ _) | (with_reducible refine Kd.C_drew ?_))); (case side4 => exact HC1_0.out); rintro e w18 ⟨rfl, hb⟩; refine ⟨_, rfl, ?_⟩; have n0_ := xm (blk_below (g := gb841) (o := .cells #[.int .i64 a0_0, .slice A0_1 l0_1.length c0_1] 41 (0, 0)) (by (with_reducible repeat (first | refine xq ?_ _ | refine xr ?_ | refine xo ?_ _)); exact BK841.out) hb); have n1_ := xm (blk_below (g := gb842) (o := .cells #[.slice A1_0 l1_0.length c1_0] 26 (0, 0)) (by (with_reducible repeat (first | refine xq ?_ _ | refine xr ?_ | refine xo ?_ _)); exact BK842.out) hb); have n2_ := xm (below_step (by repeat (first | (with_reducible first | exact HB.out | apply xa | apply xn | apply xd | refine xt ?_ GE841.out | refine xt ?_ GE842.out) | exact HB.out)) hb); clear BK841; clear BK842; clear HB; have BK841 := n0_; have BK842 := n1_; have HB := n2_; clear n0_ n1_ n2_; (try clear hb); (try clear hb2); (try clear hk); (try clear hi)))
   go_ret2
   exact ⟨by first | rfl | (simp [errW_none, errW_some] <;> rfl) | (simp [*, errW_none, errW_some] <;> rfl), by repeat (first | (with_reducible first | exact HB.out | apply xa | apply xn | apply xd | refine xt ?_ GE841.out | refine xt ?_ GE842.out) | exact HB.out)⟩
  ·replace c6 := Bool.eq_false_iff.mpr c6
   subst c6
   have H1 : (some (0, false)) = some (r1, r2) := by first | (with_reducible rfl) | (rw [if_neg (show ¬ (false = true) by decide)] at H; exact H)
   clear H
   have H := H1
   clear H1
   simp only [Option.some.injEq, Prod.mk.injEq] at H
   obtain ⟨rfl, rfl⟩ := H
   go_enter Try.func67, Try.ntmps67
   go_wp2_with (first | ((with_reducible refine gate_dst (N := 2) rfl ?_); refine box_event ?hg (N := 2) ?hd (cs := #[.int .i64 a0_0, .slice A0_1 l0_1.length c0_1]) (t := 41) ?hr ?_; (case hd => rfl); (case hg => rfl); (case hr => first | (go_simp; done) | (go_simp; rfl)); intro gb841 hg w19 hbox hb; have n0_ := xm (below_step (by repeat (first | (with_reducible first | exact HB.out | apply xa | apply xn | apply xd) | exact HB.out)) hb); have n1_ := xm (hbox); have n2_ := xm ((by rw [hg]; exact (xz (by repeat (first | (with_reducible first | exact HB.out | apply xa | apply xn | apply xd) | exact HB.out))) : w.heap.size ≤ gb841)); have n3_ := xm ((by rw [hg]; exact (xz (by repeat (first | (with_reducible first | exact HB.out | apply xa | apply xn | apply xd) | exact HB.out))) : w.heap.size ≤ gb841)); clear HB; have HB := n0_; have BK841 := n1_; have GW841 := n2_; have GE841 := n3_; clear n0_ n1_ n2_ n3_; clear hb hbox hg) | ((with_reducible refine gate_dst (N := 3) rfl ?_); refine box_event ?hg (N := 3) ?hd (cs := #[.slice A1_0 l1_0.length c1_0]) (t := 26) ?hr ?_; (case hd => rfl); (case hg => rfl); (case hr => first | (go_simp; done) | (go_simp; rfl)); intro gb842 hg w20 hbox hb; have n0_ := xm (blk_below (g := gb841) (o := .cells #[.int .i64 a0_0, .slice A0_1 l0_1.length c0_1] 41 (0, 0)) (by (with_reducible repeat (first | refine xq ?_ _ | refine xr ?_ | refine xo ?_ _)); exact BK841.out) hb); have n1_ := xm (below_step (by repeat (first | (with_reducible first | exact HB.out | apply xa | apply xn | apply xd | refine xt ?_ GE841.out) | exact HB.out)) hb); have n2_ := xm (hbox); have n3_ := xm ((by rw [hg]; exact (xz (by repeat (first | (with_reducible first | exact HB.out | apply xa | apply xn | apply xd | refine xt ?_ GE841.out) | exact HB.out))) : w.heap.size ≤ gb842)); have n4_ := xm ((by rw [hg]; exact (xz (by repeat (first | (with_reducible first | exact HB.out | apply xa | apply xn | apply xd | refine xt ?_ GE841.out) | exact HB.out))) : w.heap.size ≤ gb842)); have n5_ := xm ((by rw [hg]; exact Nat.ne_of_lt (blk_lt (g := gb841) (o := .cells #[.int .i64 a0_0, .slice A0_1 l0_1.length c0_1] 41 (0, 0)) (by (with_reducible repeat (first | refine xq ?_ _ | refine xr ?_ | refine xo ?_ _)); exact BK841.out)) : gb841 ≠ gb842)); have n6_ := xm ((by rw [hg]; exact Nat.ne_of_gt (blk_lt (g := gb841) (o := .cells #[.int .i64 a0_0, .slice A0_1 l0_1.length c0_1] 41 (0, 0)) (by (with_reducible repeat (first | refine xq ?_ _ | refine xr ?_ | refine xo ?_ _)); exact BK841.out)) : gb842 ≠ gb841)); clear BK841; clear HB; have BK841 := n0_; have HB := n1_; have BK842 := n2_; have GW842 := n3_; have GE842 := n4_; have NB841_842 := n5_; have NB842_841 := n6_; clear n0_ n1_ n2_ n3_ n4_ n5_ n6_; clear hb hbox hg; have hnb21 := NB841_842.out; have hnc21 := NB842_841.out; have hcz22_0 : w20.cell? ⟨gb841, 0, none⟩ = some (.int .i64 a0_0) := (xc BK841.out 0).trans rfl; have hcz22_1 : w20.cell? ⟨gb841, 1, none⟩ = some (.slice A0_1 l0_1.length c0_1) := (xc BK841.out 1).trans rfl; have hfz22_0 := xf BK841.out 0; have hfz22_1 := xf BK841.out 1) | ((with_reducible refine gate_callee (f := 43) rfl ?_); refine goesL_ (some 7) rfl rfl Try.func43 (by kernel_rfl) rfl #[.agg #[.int .i64 a0_0, .slice A0_1 l0_1.length c0_1]] rfl (by (try simp only [List.map_toArray, List.map_cons, List.map_nil]); first | done | rfl | (simp only [List.length_drop, List.length_take]; rfl)) ?_; (with_reducible refine (impl_GoodTable.calls k a0_0 _ _ l0_1 true _ ?side1 ?side2 A3.out).mono ?_); (case side1 => repeat (first | exact (Kd.C_below HR0_1.out HB.out) | (with_reducible refine Kd.C_alloc ?_ _) | (with_reducible refine Kd.C_drewN ?_ _) | (with_reducible refine Kd.C_drew ?_))); (case side2 => exact HC0_1.out); rintro e w23 ⟨rfl, hb⟩; refine ⟨_, rfl, ?_⟩; have n0_ := xm (blk_below (g := gb841) (o := .cells #[.int .i64 a0_0, .slice A0_1 l0_1.length c0_1] 41 (0, 0)) (by (with_reducible repeat (first | refine xq ?_ _ | refine xr ?_ | refine xo ?_ _)); exact BK841.out) hb); have n1_ := xm (blk_below (g := gb842) (o := .cells #[.slice A1_0 l1_0.length c1_0] 26 (0, 0)) (by (with_reducible repeat (first | refine xq ?_ _ | refine xr ?_ | refine xo ?_ _)); exact BK842.out) hb); have n2_ := xm (below_step (by repeat (first | (with_reducible first | exact HB.out | apply xa | apply xn | apply xd | refine xt ?_ GE841.out | refine xt ?_ GE842.out) | exact HB.out)) hb); clear BK841; clear BK842; clear HB; have BK841 := n0_; have BK842 := n1_; have HB := n2_; clear n0_ n1_ n2_; (try clear hb); (try clear hb2); (try clear hk); (try clear hi); have hcz24_0 : w23.cell? ⟨gb842, 0, none⟩ = some (.slice A1_0 l1_0.length c1_0) := (xc BK842.out 0).trans rfl; have hfz24_0 := xf BK842.out 0; have hcz25_0 : w23.cell? ⟨gb841, 0, none⟩ = some (.int .i64 a0_0) := (xc BK841.out 0).trans rfl; have hcz25_1 : w23.cell? ⟨gb841, 1, none⟩ = some (.slice A0_1 l0_1.length c0_1) := (xc BK841.out 1).trans rfl; have hfz25_0 := xf BK841.out 0; have hfz25_1 := xf BK841.out 1) | (go_at_call 98; (with_reducible refine (impl_isRowOf.calls _ _ l1_0 a0_0 false _ ?side1 ?side2 A5.out).mono ?_); (case side1 => repeat (first | exact (Kd.C_below HR1_0.out HB.out) | (with_reducible refine Kd.C_alloc ?_ _) | (with_reducible refine Kd.C_drewN ?_ _) | (with_reducible refine Kd.C_drew ?_))); (case side2 => exact HC1_0.out); rintro e w26 ⟨rfl, hb⟩; have n0_ := xm (blk_below (g := gb841) (o := .cells #[.int .i64 a0_0, .slice A0_1 l0_1.length c0_1] 41 (0, 0)) (by (with_reducible repeat (first | refine xq ?_ _ | refine xr ?_ | refine xo ?_ _)); exact BK841.out) hb); have n1_ := xm (blk_below (g := gb842) (o := .cells #[.slice A1_0 l1_0.length c1_0] 26 (0, 0)) (by (with_reducible repeat (first | refine xq ?_ _ | refine xr ?_ | refine xo ?_ _)); exact BK842.out) hb); have n2_ := xm (below_step (by repeat (first | (with_reducible first | exact HB.out | apply xa | apply xn | apply xd | refine xt ?_ GE841.out | refine xt ?_ GE842.out) | exact HB.out)) hb); clear BK841; clear BK842; clear HB; have BK841 := n0_; have BK842 := n1_; have HB := n2_; clear n0_ n1_ n2_; (try clear hb); (try clear hb2); (try clear hk); (try clear hi)))
   go_ret2
   exact ⟨by first | rfl | (simp [errW_none, errW_some] <;> rfl) | (simp [*, errW_none, errW_some] <;> rfl), by repeat (first | (with_reducible first | exact HB.out | apply xa | apply xn | apply xd | refine xt ?_ GE841.out | refine xt ?_ GE842.out) | exact HB.out)⟩
 ·replace c4 := Bool.eq_false_iff.mpr c4
  subst c4
  have H1 : (some (0, false)) = some (r1, r2) := by first | (with_reducible rfl) | (rw [if_neg (show ¬ (false = true) by decide)] at H; exact H)
  clear H
  have H := H1
  clear H1
  simp only [Option.some.injEq, Prod.mk.injEq] at H
  obtain ⟨rfl, rfl⟩ := H
  go_enter Try.func67, Try.ntmps67
  go_wp2_with (first | ((with_reducible refine gate_dst (N := 2) rfl ?_); refine box_event ?hg (N := 2) ?hd (cs := #[.int .i64 a0_0, .slice A0_1 l0_1.length c0_1]) (t := 41) ?hr ?_; (case hd => rfl); (case hg => rfl); (case hr => first | (go_simp; done) | (go_simp; rfl)); intro gb841 hg w27 hbox hb; have n0_ := xm (below_step (by repeat (first | (with_reducible first | exact HB.out | apply xa | apply xn | apply xd) | exact HB.out)) hb); have n1_ := xm (hbox); have n2_ := xm ((by rw [hg]; exact (xz (by repeat (first | (with_reducible first | exact HB.out | apply xa | apply xn | apply xd) | exact HB.out))) : w.heap.size ≤ gb841)); have n3_ := xm ((by rw [hg]; exact (xz (by repeat (first | (with_reducible first | exact HB.out | apply xa | apply xn | apply xd) | exact HB.out))) : w.heap.size ≤ gb841)); clear HB; have HB := n0_; have BK841 := n1_; have GW841 := n2_; have GE841 := n3_; clear n0_ n1_ n2_ n3_; clear hb hbox hg) | ((with_reducible refine gate_dst (N := 3) rfl ?_); refine box_event ?hg (N := 3) ?hd (cs := #[.slice A1_0 l1_0.length c1_0]) (t := 26) ?hr ?_; (case hd => rfl); (case hg => rfl); (case hr => first | (go_simp; done) | (go_simp; rfl)); intro gb842 hg w28 hbox hb; have n0_ := xm (blk_below (g := gb841) (o := .cells #[.int .i64 a0_0, .slice A0_1 l0_1.length c0_1] 41 (0, 0)) (by (with_reducible repeat (first | refine xq ?_ _ | refine xr ?_ | refine xo ?_ _)); exact BK841.out) hb); have n1_ := xm (below_step (by repeat (first | (with_reducible first | exact HB.out | apply xa | apply xn | apply xd | refine xt ?_ GE841.out) | exact HB.out)) hb); have n2_ := xm (hbox); have n3_ := xm ((by rw [hg]; exact (xz (by repeat (first | (with_reducible first | exact HB.out | apply xa | apply xn | apply xd | refine xt ?_ GE841.out) | exact HB.out))) : w.heap.size ≤ gb842)); have n4_ := xm ((by rw [hg]; exact (xz (by repeat (first | (with_reducible first | exact HB.out | apply xa | apply xn | apply xd | refine xt ?_ GE841.out) | exact HB.out))) : w.heap.size ≤ gb842)); have n5_ := xm ((by rw [hg]; exact Nat.ne_of_lt (blk_lt (g := gb841) (o := .cells #[.int .i64 a0_0, .slice A0_1 l0_1.length c0_1] 41 (0, 0)) (by (with_reducible repeat (first | refine xq ?_ _ | refine xr ?_ | refine xo ?_ _)); exact BK841.out)) : gb841 ≠ gb842)); have n6_ := xm ((by rw [hg]; exact Nat.ne_of_gt (blk_lt (g := gb841) (o := .cells #[.int .i64 a0_0, .slice A0_1 l0_1.length c0_1] 41 (0, 0)) (by (with_reducible repeat (first | refine xq ?_ _ | refine xr ?_ | refine xo ?_ _)); exact BK841.out)) : gb842 ≠ gb841)); clear BK841; clear HB; have BK841 := n0_; have HB := n1_; have BK842 := n2_; have GW842 := n3_; have GE842 := n4_; have NB841_842 := n5_; have NB842_841 := n6_; clear n0_ n1_ n2_ n3_ n4_ n5_ n6_; clear hb hbox hg; have hnb29 := NB841_842.out; have hnc29 := NB842_841.out; have hcz30_0 : w28.cell? ⟨gb841, 0, none⟩ = some (.int .i64 a0_0) := (xc BK841.out 0).trans rfl; have hcz30_1 : w28.cell? ⟨gb841, 1, none⟩ = some (.slice A0_1 l0_1.length c0_1) := (xc BK841.out 1).trans rfl; have hfz30_0 := xf BK841.out 0; have hfz30_1 := xf BK841.out 1) | ((with_reducible refine gate_callee (f := 43) rfl ?_); refine goesL_ (some 7) rfl rfl Try.func43 (by kernel_rfl) rfl #[.agg #[.int .i64 a0_0, .slice A0_1 l0_1.length c0_1]] rfl (by (try simp only [List.map_toArray, List.map_cons, List.map_nil]); first | done | rfl | (simp only [List.length_drop, List.length_take]; rfl)) ?_; (with_reducible refine (impl_GoodTable.calls k a0_0 _ _ l0_1 false _ ?side1 ?side2 A3.out).mono ?_); (case side1 => repeat (first | exact (Kd.C_below HR0_1.out HB.out) | (with_reducible refine Kd.C_alloc ?_ _) | (with_reducible refine Kd.C_drewN ?_ _) | (with_reducible refine Kd.C_drew ?_))); (case side2 => exact HC0_1.out); rintro e w31 ⟨rfl, hb⟩; refine ⟨_, rfl, ?_⟩; have n0_ := xm (blk_below (g := gb841) (o := .cells #[.int .i64 a0_0, .slice A0_1 l0_1.length c0_1] 41 (0, 0)) (by (with_reducible repeat (first | refine xq ?_ _ | refine xr ?_ | refine xo ?_ _)); exact BK841.out) hb); have n1_ := xm (blk_below (g := gb842) (o := .cells #[.slice A1_0 l1_0.length c1_0] 26 (0, 0)) (by (with_reducible repeat (first | refine xq ?_ _ | refine xr ?_ | refine xo ?_ _)); exact BK842.out) hb); have n2_ := xm (below_step (by repeat (first | (with_reducible first | exact HB.out | apply xa | apply xn | apply xd | refine xt ?_ GE841.out | refine xt ?_ GE842.out) | exact HB.out)) hb); clear BK841; clear BK842; clear HB; have BK841 := n0_; have BK842 := n1_; have HB := n2_; clear n0_ n1_ n2_; (try clear hb); (try clear hb2); (try clear hk); (try clear hi)))
  go_ret2
  exact ⟨by first | rfl | (simp [errW_none, errW_some] <;> rfl) | (simp [*, errW_none, errW_some] <;> rfl), by repeat (first | (with_reducible first | exact HB.out | apply xa | apply xn | apply xd | refine xt ?_ GE841.out | refine xt ?_ GE842.out) | exact HB.out)⟩

end Go.Proofs.Ytcbikaoackbbjaa.G
