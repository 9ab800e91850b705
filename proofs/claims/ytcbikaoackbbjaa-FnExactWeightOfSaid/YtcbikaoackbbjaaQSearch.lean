/- Tables are searched: the program's half-steps find what the reference's walk finds. No conditions. -/
import Derived.Test.YtcbikaoackbbjaaQTable
import Derived.Test.YtcbikaoackbbjaaG45
import Derived.Test.YtcbikaoackbbjaaG46
namespace Go.Proofs.Ytcbikaoackbbjaa.Pure
open Go.RowKit Go.Proofs.Ytcbikaoackbbjaa.G Go.Proofs.Ytcbikaoackbbjaa.X Go.Proofs.YtcbikaoackbbjaaW.PrintWords Go.Proofs.YtcbikaoackbbjaaW.PrintLast
set_option linter.unusedVariables false

theorem cmpL_lt_le : ∀ (a b c : List Int), cmpL a b < 0 → cmpL b c ≤ 0 → cmpL a c < 0
  | [], [], _, h, _ => by simp [cmpL] at h
  | [], _ :: _, [], _, h => by simp [cmpL] at h
  | [], _ :: _, _ :: _, _, _ => by simp [cmpL]
  | _ :: _, [], _, h, _ => by simp [cmpL] at h
  | x :: xs, y :: ys, [], _, h => by simp [cmpL] at h
  | x :: xs, y :: ys, z :: zs, h, h2 => by
    unfold cmpL at h h2 ⊢
    by_cases a1 : x < y
    · by_cases b1 : y < z
      · rw [if_pos (by omega)]; omega
      · rw [if_neg b1] at h2
        by_cases b2 : y > z
        · rw [if_pos b2] at h2; omega
        · rw [if_pos (by omega)]; omega
    · rw [if_neg a1] at h
      by_cases a2 : x > y
      · rw [if_pos a2] at h; omega
      · rw [if_neg a2] at h
        obtain rfl : x = y := by omega
        by_cases b1 : x < z
        · rw [if_pos b1]; omega
        · rw [if_neg b1] at h2 ⊢
          by_cases b2 : x > z
          · rw [if_pos b2] at h2; omega
          · rw [if_neg b2] at h2 ⊢
            exact cmpL_lt_le xs ys zs h h2
abbrev rowAt (l : List S126) (p : Nat) : List Int := (rd_T126 l (p : Int)).f0.f0
theorem rises {c : Int} {l : List S126} (h : goodTable c l = true) (j : Nat) (hj : j < l.length) (h0 : j ≠ 0) : cmpL (rowAt l (j - 1)) (rowAt l j) < 0 := by
  unfold goodTable at h
  simp only [Bool.and_eq_true] at h
  have h2 := List.all_eq_true.1 h.2.2 j (by rw [List.mem_range'_1]; omega)
  unfold okAt at h2
  simp only [Bool.and_eq_true, Bool.or_eq_true, decide_eq_true_eq] at h2
  have h3 := h2.2.2.2.2
  have e : ((j : Int) - 1) = ((j - 1 : Nat) : Int) := by omega
  rw [e] at h3
  exact h3.resolve_left h0
theorem rises2 {c : Int} {l : List S126} (h : goodTable c l = true) (i : Nat) : ∀ d : Nat, i + (d + 1) < l.length → cmpL (rowAt l i) (rowAt l (i + (d + 1))) < 0
  | 0, hj => rises h (i + 1) hj (by omega)
  | d + 1, hj => by
    have h1 := rises2 h i d (by omega)
    have h2 := rises h (i + (d + 1 + 1)) hj (by omega)
    rw [show i + (d + 1 + 1) - 1 = i + (d + 1) by omega] at h2
    exact cmpL_lt_le _ _ _ h1 (by omega)
theorem above {c : Int} {l : List S126} (h : goodTable c l = true) (t : List Int) {i j : Nat} (hij : i < j) (hj : j < l.length) (h0 : 0 ≤ cmpL (rowAt l i) t) : 0 < cmpL (rowAt l j) t := by
  have h1 := rises2 h i (j - i - 1) (by omega)
  rw [show i + (j - i - 1 + 1) = j by omega] at h1
  by_cases hc : 0 < cmpL (rowAt l j) t
  · exact hc
  · have := cmpL_lt_le _ _ _ h1 (show cmpL (rowAt l j) t ≤ 0 by omega)
    omega
theorem close_ev (l : List S126) (t : List Int) (hr : ∀ i : Int, (rd_T126 l i).f0.f0.length ≤ 1048576) (p : Nat) : Ev (fun k => impl_Table_weightOf_1.f k (rd_T126 l (p : Int)).f0.f0 (rd_T126 l (p : Int)).f1 t) (cmpL (rowAt l p) t) := by
  unfold impl_Table_weightOf_1.f
  exact Ev.bind (cmp_impl _ _ (by have := hr (p : Int); omega)) (Ev.now _)
theorem half_ev {c : Int} {l : List S126} (h : goodTable c l = true) (t : List Int) (hr : ∀ i : Int, (rd_T126 l i).f0.f0.length ≤ 1048576) (d : Nat) : ∀ (i j : Nat), j - i ≤ d → i ≤ j → j ≤ l.length → (∀ p, p < i → cmpL (rowAt l p) t < 0) → (∀ p, j ≤ p → p < l.length → 0 ≤ cmpL (rowAt l p) t) →
    ∃ q : Nat, Ev (fun k => slices_BinarySearchFunc_Limpl_Weighted_impl_Weighted_impl_Row.l0 k l t (i : Int) (j : Int)) (q : Int) ∧ q ≤ l.length ∧ (∀ p, p < q → cmpL (rowAt l p) t < 0) ∧ (∀ p, q ≤ p → p < l.length → 0 ≤ cmpL (rowAt l p) t) := by
  induction d with
  | zero =>
    intro i j hd hij hj hlo hhi
    obtain rfl : i = j := by omega
    exact ⟨i, Ev.step (fun k => by rw [slices_BinarySearchFunc_Limpl_Weighted_impl_Weighted_impl_Row.l0]) (Ev.neg (by omega) (Ev.now _)), hj, hlo, hhi⟩
  | succ d ih =>
    intro i j hd hij hj hlo hhi
    by_cases hlt : i < j
    case neg =>
      obtain rfl : i = j := by omega
      exact ⟨i, Ev.step (fun k => by rw [slices_BinarySearchFunc_Limpl_Weighted_impl_Weighted_impl_Row.l0]) (Ev.neg (by omega) (Ev.now _)), hj, hlo, hhi⟩
    obtain ⟨m, hm⟩ : ∃ m : Nat, ((i : Int) + (j : Int)) / 2 = (m : Int) := ⟨(((i : Int) + (j : Int)) / 2).toNat, by omega⟩
    have hmi : i ≤ m := by omega
    have hmj : m < j := by omega
    by_cases hc : cmpL (rowAt l m) t < 0
    · have hlo2 : ∀ p, p < m + 1 → cmpL (rowAt l p) t < 0 := fun p hp => by
        by_cases e : p = m
        · rw [e]; exact hc
        · have h1 := rises2 h p (m - p - 1) (by omega)
          rw [show p + (m - p - 1 + 1) = m by omega] at h1
          exact cmpL_lt_le _ _ _ h1 (by omega)
      obtain ⟨q, hq, h1, h2, h3⟩ := ih (m + 1) j (by omega) (by omega) hj hlo2 hhi
      refine ⟨q, Ev.step (fun k => by rw [slices_BinarySearchFunc_Limpl_Weighted_impl_Weighted_impl_Row.l0]) (Ev.pos (by omega) (Ev.pos (by omega) (Ev.pos (by omega) ?_))), h1, h2, h3⟩
      rw [hm]
      exact Ev.bind (close_ev l t hr m) (Ev.pos hc (by exact_mod_cast hq))
    · have hhi2 : ∀ p, m ≤ p → p < l.length → 0 ≤ cmpL (rowAt l p) t := fun p hp hpl => by
        by_cases e : p = m
        · rw [e]; omega
        · exact Int.le_of_lt (above h t (show m < p by omega) hpl (by omega))
      obtain ⟨q, hq, h1, h2, h3⟩ := ih i m (by omega) (by omega) (by omega) hlo hhi2
      refine ⟨q, Ev.step (fun k => by rw [slices_BinarySearchFunc_Limpl_Weighted_impl_Weighted_impl_Row.l0]) (Ev.pos (by omega) (Ev.pos (by omega) (Ev.pos (by omega) ?_))), h1, h2, h3⟩
      rw [hm]
      exact Ev.bind (close_ev l t hr m) (Ev.neg hc hq)
/-- What the reference finds from a place on. -/
theorem of_none (l : List S126) (t : List Int) (hl : l.length ≤ 1048576) (hr : ∀ i : Int, (rd_T126 l i).f0.f0.length ≤ 1048576) (d : Nat) : ∀ (i : Nat), i + d = l.length → (∀ p, i ≤ p → p < l.length → cmpL (rowAt l p) t ≠ 0) →
    Ev (fun k => spec_l2Of.l0 k l (l.length : Int) (i : Int) t) 0 := by
  induction d with
  | zero => intro i hi _; exact Ev.step (fun k => by rw [spec_l2Of.l0]) (Ev.neg (by omega) (Ev.now _))
  | succ d ih =>
    intro i hi hn
    refine Ev.step (fun k => by rw [spec_l2Of.l0]) (Ev.pos (by omega) (Ev.pos (by omega) (Ev.pos (by omega) (Ev.bind (cmp_spec _ _ (by have := hr (i : Int); omega)) ?_))))
    rw [w64 (x := (i : Int) + 1) (by omega) (by omega)]
    exact Ev.neg (hn i (Nat.le_refl _) (by omega)) (ih (i + 1) (by omega) (fun p hp hpl => hn p (by omega) hpl))
theorem of_some (l : List S126) (t : List Int) (hl : l.length ≤ 1048576) (hr : ∀ i : Int, (rd_T126 l i).f0.f0.length ≤ 1048576) (q : Nat) (hq : q < l.length) (h0 : cmpL (rowAt l q) t = 0) (d : Nat) : ∀ (i : Nat), i + d = q → (∀ p, i ≤ p → p < q → cmpL (rowAt l p) t ≠ 0) →
    Ev (fun k => spec_l2Of.l0 k l (l.length : Int) (i : Int) t) (rd_T126 l (q : Int)).f1 := by
  induction d with
  | zero =>
    intro i hi _
    obtain rfl : i = q := by omega
    exact Ev.step (fun k => by rw [spec_l2Of.l0]) (Ev.pos (by omega) (Ev.pos (by omega) (Ev.pos (by omega) (Ev.bind (cmp_spec _ _ (by have := hr (i : Int); omega)) (Ev.pos h0 (Ev.now _))))))
  | succ d ih =>
    intro i hi hn
    refine Ev.step (fun k => by rw [spec_l2Of.l0]) (Ev.pos (by omega) (Ev.pos (by omega) (Ev.pos (by omega) (Ev.bind (cmp_spec _ _ (by have := hr (i : Int); omega)) ?_))))
    rw [w64 (x := (i : Int) + 1) (by omega) (by omega)]
    exact Ev.neg (hn i (Nat.le_refl _) (by omega)) (ih (i + 1) (by omega) (fun p hp hpl => hn p (by omega) hpl))
theorem weight_both {c : Int} {l : List S126} (h : goodTable c l = true) (t : List Int) (hl : l.length ≤ 1048576) (hr : ∀ i : Int, (rd_T126 l i).f0.f0.length ≤ 1048576) :
    ∃ v : Int, Ev (fun k => spec_l2Of.f k c l t) v ∧ Ev (fun k => impl_Table_weightOf.f k c l t) v := by
  obtain ⟨q, hq, h1, h2, h3⟩ := half_ev h t hr l.length 0 l.length (by omega) (by omega) (by omega) (fun p hp => by omega) (fun p hp hpl => by omega)
  have hq0 : Ev (fun k => slices_BinarySearchFunc_Limpl_Weighted_impl_Weighted_impl_Row.l0 k l t 0 (l.length : Int)) (q : Int) := hq
  by_cases hqn : q < l.length
  · have hcl := close_ev l t hr q
    have hb : Ev (fun k => slices_BinarySearchFunc_Limpl_Weighted_impl_Weighted_impl_Row.f k l t) ((q : Int), cmpL (rowAt l q) t == 0) := by
      unfold slices_BinarySearchFunc_Limpl_Weighted_impl_Weighted_impl_Row.f
      exact Ev.pos (by omega) (Ev.bind hq0 (Ev.pos (by omega) (Ev.pos (by omega) (Ev.bind hcl (Ev.now _)))))
    by_cases h0 : cmpL (rowAt l q) t = 0
    · refine ⟨(rd_T126 l (q : Int)).f1, ?_, ?_⟩
      · unfold spec_l2Of.f
        exact of_some l t hl hr q hqn h0 q 0 (by omega) (fun p _ hp => by have := h2 p hp; omega)
      · unfold impl_Table_weightOf.f
        exact Ev.bind hb (Ev.pos (by simpa using h0) (Ev.pos (by show (0 : Int) ≤ (q : Int); omega) (Ev.pos (by show (q : Int) < (l.length : Int); omega) (Ev.now _))))
    · refine ⟨0, ?_, ?_⟩
      · unfold spec_l2Of.f
        refine of_none l t hl hr l.length 0 (by omega) (fun p _ hp => ?_)
        by_cases e : p < q
        · have := h2 p e; omega
        · by_cases e2 : p = q
          · rw [e2]; exact h0
          · have := above h t (show q < p by omega) hp (h3 q (Nat.le_refl _) hqn); omega
      · unfold impl_Table_weightOf.f
        exact Ev.bind hb (Ev.neg (by simpa using h0) (Ev.now _))
  · refine ⟨0, ?_, ?_⟩
    · unfold spec_l2Of.f
      exact of_none l t hl hr l.length 0 (by omega) (fun p _ hp => by have := h2 p (by omega); omega)
    · unfold impl_Table_weightOf.f slices_BinarySearchFunc_Limpl_Weighted_impl_Weighted_impl_Row.f
      exact Ev.bind (Ev.pos (by omega) (Ev.bind hq0 (Ev.neg (by omega) (Ev.now _)))) (Ev.neg (by simp) (Ev.now _))

end Go.Proofs.Ytcbikaoackbbjaa.Pure
