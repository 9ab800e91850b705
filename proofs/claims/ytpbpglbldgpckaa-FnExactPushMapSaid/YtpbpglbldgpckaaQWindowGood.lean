/- Windows: both ask the same of a good one. No conditions. -/
import Derived.Test.YtpbpglbldgpckaaG6
import Derived.Test.YtpbpglbldgpckaaG10
import Derived.Test.YtpbpglbldgpckaaQWindow
namespace Go.Proofs.Ytpbpglbldgpckaa.Pure
open Go.RowKit Go.Proofs.Ytpbpglbldgpckaa.G Go.Proofs.Ytpbpglbldgpckaa.X Go.Proofs.YtpbpglbldgpckaaW.PrintWords Go.Proofs.YtpbpglbldgpckaaW.PrintLast
set_option linter.unusedVariables false

def gmB (m : S51) : Bool := decide (0 ≤ m.f0 ∧ m.f0 ≤ 1008 ∧ 0 ≤ m.f1 ∧ m.f1 ≤ 1008)
theorem gmB_gm {m : S51} (h : gmB m = true) : gm (prM m) := (of_decide_eq_true h : 0 ≤ m.f0 ∧ m.f0 ≤ 1008 ∧ 0 ≤ m.f1 ∧ m.f1 ≤ 1008)
/-- At a place the sums have what the front's maps give from there down. -/
def sumAt (front sums : List S51) (j : Nat) : Bool :=
  decide ((rd_T51 sums (j : Int)).f0 = (foldM (1, 0) (front.take (j + 1)).reverse).1) && decide ((rd_T51 sums (j : Int)).f1 = (foldM (1, 0) (front.take (j + 1)).reverse).2)
def sumB (back : List S51) (a b : Int) : Bool := a == (foldM (1, 0) back).1 && (b == (foldM (1, 0) back).2)
def goodWindow (front sums back : List S51) (a b : Int) : Bool :=
  decide (sums.length = front.length) && (decide (front.length + back.length ≤ 60) && ((front.all gmB && (List.range' 0 front.length).all (sumAt front sums)) && (back.all gmB && sumB back a b)))

theorem rngW_s (i d : Nat) : List.range' i (d + 1) = i :: List.range' (i + 1) d := rfl
theorem back_spec (front sums back : List S51) (a b : Int) (hb : back.length ≤ 1048576) (d : Nat) : ∀ (i : Nat), i + d = back.length →
    Ev (fun k => spec_GoodWindow.l1 k back (back.length : Int) (i : Int) front sums back a b) ((back.drop i).all gmB && sumB back a b) := by
  induction d with
  | zero =>
    intro i hi
    rw [List.drop_of_length_le (by omega)]
    exact Ev.step (fun k => by rw [spec_GoodWindow.l1]) (Ev.neg (by omega) (Ev.bind (all_spec back hb) (Ev.eq (Ev.now _) rfl)))
  | succ d ih =>
    intro i hi
    have hlt : i < back.length := by omega
    rw [drop_cons hlt, List.all_cons]
    refine Ev.step (fun k => by rw [spec_GoodWindow.l1]) (Ev.pos (by omega) (Ev.pos (by omega) (Ev.pos (by omega) ?_)))
    rw [rdM_lt hlt, w64 (x := (i : Int) + 1) (by omega) (by omega)]
    refine Ev.cbind (goodMap_spec _ _) ?_
    by_cases h : gmB back[i] = true
    · exact Ev.pos h (Ev.eq (ih (i + 1) (by omega)) (by rw [h]; rfl))
    · exact Ev.neg h (Ev.eq (Ev.now false) (by rw [Bool.eq_false_iff.mpr h]; rfl))
theorem front_spec (front sums back : List S51) (a b : Int) (hf : front.length ≤ 1048576) (hs : sums.length = front.length) (hb : back.length ≤ 1048576) (d : Nat) : ∀ (i : Nat), i + d = front.length →
    Ev (fun k => spec_GoodWindow.l0 k front (front.length : Int) (i : Int) front sums back a b) (((front.drop i).all gmB && (List.range' i d).all (sumAt front sums)) && (back.all gmB && sumB back a b)) := by
  induction d with
  | zero =>
    intro i hi
    rw [List.drop_of_length_le (by omega)]
    have := back_spec front sums back a b hb back.length 0 (by omega)
    rw [List.drop_zero] at this
    have h2 : Ev (fun k => spec_GoodWindow.l1 k back (back.length : Int) 0 front sums back a b) (back.all gmB && sumB back a b) := this
    exact Ev.step (fun k => by rw [spec_GoodWindow.l0]) (Ev.neg (by omega) (Ev.eq h2 rfl))
  | succ d ih =>
    intro i hi
    have hlt : i < front.length := by omega
    rw [drop_cons hlt, List.all_cons, rngW_s, List.all_cons]
    refine Ev.step (fun k => by rw [spec_GoodWindow.l0]) (Ev.pos (by omega) (Ev.pos (by omega) (Ev.pos (by omega) ?_)))
    rw [rdM_lt hlt, w64 (x := (i : Int) + 1) (by omega) (by omega)]
    refine Ev.cbind (goodMap_spec _ _) ?_
    by_cases h : gmB front[i] = true
    case neg => exact Ev.neg h (Ev.eq (Ev.now false) (by rw [Bool.eq_false_iff.mpr h]; rfl))
    refine Ev.pos h (Ev.pos (by omega) (Ev.pos (by omega) (Ev.pos (by omega) ?_)))
    rw [show ((i : Int) + 1).toNat = i + 1 by omega]
    refine Ev.bind (turned _ (by rw [List.length_take]; omega)) (Ev.bind (all_spec _ (by rw [List.length_reverse, List.length_take]; omega)) ?_)
    by_cases h2 : sumAt front sums i = true
    · refine Ev.neg ?_ (Ev.eq (ih (i + 1) (by omega)) (by rw [h, h2, Bool.true_and, Bool.true_and]))
      unfold sumAt at h2
      simp only [Bool.and_eq_true, decide_eq_true_eq] at h2
      simp [h2.1, h2.2]
    · refine Ev.pos ?_ (Ev.eq (Ev.now false) (by rw [Bool.eq_false_iff.mpr h2, Bool.false_and, Bool.and_false, Bool.false_and]))
      unfold sumAt at h2
      simp only [Bool.and_eq_true, decide_eq_true_eq, not_and] at h2
      simp only [Bool.or_eq_true, Bool.not_eq_true', beq_eq_false_iff_ne, ne_eq]
      by_cases h3 : (rd_T51 sums (i : Int)).f0 = (foldM (1, 0) (front.take (i + 1)).reverse).1
      · exact Or.inr (h2 h3)
      · exact Or.inl h3
theorem window_spec (front sums back : List S51) (a b : Int) (hf : front.length ≤ 1048576) (hb : back.length ≤ 1048576) : Ev (fun k => spec_GoodWindow.f k front sums back a b) (goodWindow front sums back a b) := by
  unfold spec_GoodWindow.f goodWindow
  have jt : Ev (fun k => spec_GoodWindow.j0 k true front sums back a b) false := Ev.step (fun k => by rw [spec_GoodWindow.j0]) (Ev.pos rfl (Ev.now false))
  rw [w64 (by omega) (by omega)]
  by_cases h : sums.length = front.length
  case neg => exact Ev.neg (by omega) (Ev.eq jt (by rw [decide_eq_false h]; rfl))
  refine Ev.pos (by omega) ?_
  rw [decide_eq_true h]
  by_cases h2 : front.length + back.length ≤ 60
  case neg => rw [decide_eq_true (show (front.length : Int) + (back.length : Int) > 60 by omega), decide_eq_false h2]; exact jt
  rw [decide_eq_false (show ¬ (front.length : Int) + (back.length : Int) > 60 by omega), decide_eq_true h2]
  have := front_spec front sums back a b hf h hb front.length 0 (by omega)
  rw [List.drop_zero] at this
  have h3 : Ev (fun k => spec_GoodWindow.l0 k front (front.length : Int) 0 front sums back a b) ((front.all gmB && (List.range' 0 front.length).all (sumAt front sums)) && (back.all gmB && sumB back a b)) := this
  exact Ev.step (fun k => by rw [spec_GoodWindow.j0]) (Ev.neg (by decide) h3)

def eqAt (x y : List S51) (j : Nat) : Bool := decide ((rd_T51 x (j : Int)).f0 = (rd_T51 y (j : Int)).f0) && decide ((rd_T51 x (j : Int)).f1 = (rd_T51 y (j : Int)).f1)
theorem equal_l (x y : List S51) (hl : x.length ≤ 1048576) (h : x.length = y.length) (d : Nat) : ∀ (i : Nat), i + d = x.length →
    Ev (fun k => slices_Equal_Limpl_Map_impl_Map.l0 k x y (x.length : Int) (i : Int)) ((List.range' i d).all (eqAt x y)) := by
  induction d with
  | zero => intro i hi; exact Ev.step (fun k => by rw [slices_Equal_Limpl_Map_impl_Map.l0]) (Ev.neg (by omega) (Ev.eq (Ev.now true) rfl))
  | succ d ih =>
    intro i hi
    rw [rngW_s, List.all_cons]
    refine Ev.step (fun k => by rw [slices_Equal_Limpl_Map_impl_Map.l0]) (Ev.pos (by omega) (Ev.pos (by omega) (Ev.pos (by omega) (Ev.pos (by omega) ?_))))
    rw [w64 (x := (i : Int) + 1) (by omega) (by omega)]
    by_cases h2 : eqAt x y i = true
    · refine Ev.neg ?_ (Ev.eq (ih (i + 1) (by omega)) (by rw [h2, Bool.true_and]))
      unfold eqAt at h2
      simp only [Bool.and_eq_true, decide_eq_true_eq] at h2
      simp [h2.1, h2.2]
    · refine Ev.pos ?_ (Ev.eq (Ev.now false) (by rw [Bool.eq_false_iff.mpr h2, Bool.false_and]))
      unfold eqAt at h2
      simp only [Bool.and_eq_true, decide_eq_true_eq, not_and] at h2
      simp only [Bool.or_eq_true, Bool.not_eq_true', beq_eq_false_iff_ne, ne_eq]
      by_cases h3 : (rd_T51 x (i : Int)).f0 = (rd_T51 y (i : Int)).f0
      · exact Or.inr (h2 h3)
      · exact Or.inl h3
theorem equal_eq (x y : List S51) (hl : x.length ≤ 1048576) : Ev (fun k => slices_Equal_Limpl_Map_impl_Map.f k x y) (decide (x.length = y.length) && (List.range' 0 x.length).all (eqAt x y)) := by
  unfold slices_Equal_Limpl_Map_impl_Map.f
  by_cases h : x.length = y.length
  · have := equal_l x y hl h x.length 0 (by omega)
    have h2 : Ev (fun k => slices_Equal_Limpl_Map_impl_Map.l0 k x y (x.length : Int) 0) ((List.range' 0 x.length).all (eqAt x y)) := this
    exact Ev.pos (by omega) (Ev.eq h2 (by rw [decide_eq_true h, Bool.true_and]))
  · exact Ev.neg (by omega) (Ev.eq (Ev.now false) (by rw [decide_eq_false h, Bool.false_and]))
theorem all_places_congr (p q : Nat → Bool) (d : Nat) : ∀ (i : Nat), (∀ j, i ≤ j → j < i + d → p j = q j) → (List.range' i d).all p = (List.range' i d).all q := by
  induction d with
  | zero => intro i _; rfl
  | succ d ih =>
    intro i h
    rw [rngW_s, List.all_cons, List.all_cons, h i (by omega) (by omega), ih (i + 1) (fun j h1 h2 => h j (by omega) (by omega))]
theorem allGood_impl (l : List S51) : impl_areAll_impl_Map__impl_GoodMap.f l = some (l.all gmB) := by
  unfold impl_areAll_impl_Map__impl_GoodMap.f
  exact allO_eq l (fun x _ => goodMap_impl _ _)
theorem window_impl (front sums back : List S51) (a b : Int) (hf : front.length ≤ 1048576) (hs : sums.length ≤ 1048576) (hb : back.length ≤ 1048576) : Ev (fun k => impl_GoodWindow.f k front sums back a b) (goodWindow front sums back a b) := by
  unfold impl_GoodWindow.f goodWindow
  rw [w64 (by omega) (by omega)]
  refine Ev.cbind (allGood_impl _) ?_
  by_cases h : front.all gmB = true
  case neg => exact Ev.neg h (Ev.eq (Ev.now false) (by rw [Bool.eq_false_iff.mpr h]; simp))
  refine Ev.pos h (Ev.cbind (allGood_impl _) ?_)
  by_cases h2 : back.all gmB = true
  case neg => exact Ev.neg h2 (Ev.eq (Ev.now false) (by rw [Bool.eq_false_iff.mpr h2]; simp))
  refine Ev.pos h2 ?_
  rw [h, h2]
  by_cases h3 : front.length + back.length ≤ 60
  case neg => exact Ev.neg (by omega) (Ev.eq (Ev.now false) (by rw [decide_eq_false h3]; simp))
  rw [decide_eq_true h3]
  refine Ev.pos (by omega) (Ev.bind (sums_ev front hf) (Ev.bind (equal_eq sums _ hs) ?_))
  rw [sumsL_length]
  by_cases h4 : sums.length = front.length
  case neg => rw [decide_eq_false h4]; exact Ev.neg (by simp) (Ev.eq (Ev.now false) (by simp))
  rw [decide_eq_true h4, Bool.true_and, Bool.true_and, Bool.true_and, Bool.true_and, Bool.true_and]
  have hg : ∀ m ∈ front, gm (prM m) := fun m hm => gmB_gm (List.all_eq_true.1 h m hm)
  have hc : (List.range' 0 sums.length).all (eqAt sums (sumsL front (1, 0))) = (List.range' 0 front.length).all (sumAt front sums) := by
    rw [h4]
    refine all_places_congr _ _ _ 0 (fun j _ hj => ?_)
    have hj2 : j < (sumsL front (foldM (1, 0) [])).length := by rw [sumsL_length]; omega
    have e := sums_at front [] j hj2 hg (fun m hm => by cases hm)
    rw [List.append_nil] at e
    unfold eqAt sumAt
    rw [← e]
    have hr : rd_T51 (sumsL front (1, 0)) (j : Int) = (sumsL front (foldM (1, 0) []))[j] := rdM_lt hj2
    rw [hr]
    rfl
  rw [hc]
  by_cases h5 : (List.range' 0 front.length).all (sumAt front sums) = true
  · exact Ev.pos h5 (Ev.bind (all_impl back hb) (Ev.eq (Ev.now _) (by rw [h5]; rfl)))
  · exact Ev.neg h5 (Ev.eq (Ev.now false) (by rw [Bool.eq_false_iff.mpr h5]; rfl))

end Go.Proofs.Ytpbpglbldgpckaa.Pure
