/- The plain law of IsOrder: both functions answer alike. No conditions. -/
import Derived.Test.YtfbomhedhfkcpaaHFnExactIsOrder
import Derived.Test.YtfbomhedhfkcpaaQStats
import Derived.Test.YtfbomhedhfkcpaaQSets
import Derived.Test.YtfbomhedhfkcpaaG46
import Derived.Test.YtfbomhedhfkcpaaG47
import Derived.Test.YtfbomhedhfkcpaaG49
namespace Go.Proofs.Ytfbomhedhfkcpaa.Pure
open Go.RowKit Go.Proofs.Ytfbomhedhfkcpaa.G Go.Proofs.Ytfbomhedhfkcpaa.X Go.Proofs.YtfbomhedhfkcpaaW.PrintWords Go.Proofs.Ytfbomhedhfkcpaa.HFnExactIsOrder
set_option linter.unusedVariables false

theorem hasO_impl (a b : Int) : impl_set_has.f a b = some (Go.bits .and .i64 a b == b) := rfl
theorem one_mem (n : Int) (h0 : 0 ≤ n) (h1 : n < 6) (k : Int) : k ∈ [n] ↔ (0 ≤ k ∧ k < 6 ∧ bitAt (shl .i64 1 n) k = true) := by
  obtain ⟨_, hob⟩ := one_small n h0 h1
  rw [List.mem_singleton]
  constructor
  · rintro rfl
    refine ⟨h0, h1, ?_⟩
    rw [bit_fin h0 h1, hob]; simp
  · rintro ⟨c0, c1, c⟩
    rw [bit_fin c0 c1, hob, decide_eq_true_eq] at c
    have : k.toNat = n.toNat := c
    omega
/-- Where a number came twice, the reference's list stays too short. -/
theorem short_spec (o : List Int) (ho : o.length ≤ 1048576) (d : Nat) : ∀ (i : Nat) (acc : List Int), i + d = o.length → acc.length < i →
    Ev (fun k => spec_IsOrder.l0 k o acc o (o.length : Int) (i : Int)) false := by
  induction d with
  | zero =>
    intro i acc hi ha
    exact Ev.step (fun k => by rw [spec_IsOrder.l0]) (Ev.neg (by omega) (Ev.eq (Ev.now _) (by simp; omega)))
  | succ d ih =>
    intro i acc hi ha
    have hlt : i < o.length := by omega
    refine Ev.step (fun k => by rw [spec_IsOrder.l0]) (Ev.pos (by omega) (Ev.pos (by omega) (Ev.pos (by omega) ?_)))
    rw [rd_lt hlt, w64 (x := (i : Int) + 1) (by omega) (by omega)]
    by_cases h1 : o[i] < 0
    · exact Ev.pos h1 (Ev.now _)
    refine Ev.neg h1 ?_
    by_cases h2 : o[i] ≥ (o.length : Int)
    · exact Ev.pos h2 (Ev.now _)
    have := len_put_le acc o[i]
    exact Ev.neg h2 (Ev.bind (put_spec _ _ (by omega)) (ih (i + 1) _ (by omega) (by omega)))
/-- Where the order has another length, the program says no. -/
theorem other_impl (m : Nat) (hm : m ≤ 6) (s0 : List Int) (hs0 : s0.length = m) (fa : List (List Int)) (o : List Int) (ho : o.length ≤ 1048576) (hne : o.length ≠ m) (d : Nat) : ∀ (i : Nat) (s : Int), i + d = o.length →
    Ev (fun k => impl_Stats_isOrder.l0 k o s o (o.length : Int) (i : Int) s0 fa) false := by
  induction d with
  | zero =>
    intro i s hi
    exact Ev.step (fun k => by rw [impl_Stats_isOrder.l0]) (Ev.neg (by omega) (Ev.eq (Ev.now _) (by simp; omega)))
  | succ d ih =>
    intro i s hi
    have hlt : i < o.length := by omega
    refine Ev.step (fun k => by rw [impl_Stats_isOrder.l0]) (Ev.pos (by omega) (Ev.pos (by omega) (Ev.pos (by omega) ?_)))
    rw [rd_lt hlt, w64 (x := (i : Int) + 1) (by omega) (by omega), w64 (x := (s0.length : Int) - 1) (by omega) (by omega)]
    refine Ev.cbind (statIn_impl _ _ _) ?_
    by_cases h1 : 0 ≤ o[i] ∧ o[i] ≤ (s0.length : Int) - 1
    · refine Ev.pos (decide_eq_true h1) (Ev.pos h1.1 (Ev.cbind (hasO_impl _ _) ?_))
      by_cases h2 : (Go.bits .and .i64 s (shl .i64 1 o[i]) == shl .i64 1 o[i]) = true
      · exact Ev.pos h2 (Ev.now _)
      · exact Ev.neg h2 (ih (i + 1) _ (by omega))
    · exact Ev.neg (by simpa using h1) (Ev.now _)
theorem order_both (s0 : List Int) (h6 : s0.length ≤ 6) (fa : List (List Int)) (o : List Int) (ho : o.length = s0.length) (d : Nat) : ∀ (i : Nat) (s : Int) (acc : List Int), i + d = o.length → Rep s acc → acc.length = i →
    ∃ b : Bool, Ev (fun k => spec_IsOrder.l0 k o acc o (o.length : Int) (i : Int)) b ∧ Ev (fun k => impl_Stats_isOrder.l0 k o s o (o.length : Int) (i : Int) s0 fa) b := by
  induction d with
  | zero =>
    intro i s acc hi hr ha
    refine ⟨true, ?_, ?_⟩
    · exact Ev.step (fun k => by rw [spec_IsOrder.l0]) (Ev.neg (by omega) (Ev.eq (Ev.now _) (by simp; omega)))
    · exact Ev.step (fun k => by rw [impl_Stats_isOrder.l0]) (Ev.neg (by omega) (Ev.eq (Ev.now _) (by simp; omega)))
  | succ d ih =>
    intro i s acc hi hr ha
    have hlt : i < o.length := by omega
    by_cases h1 : 0 ≤ o[i] ∧ o[i] ≤ (s0.length : Int) - 1
    · obtain ⟨h10, h11⟩ := h1
      have hone := one_small o[i] h10 (by omega)
      have hc := rep_has (m := [o[i]]) hr hone.1 (one_mem o[i] h10 (by omega))
      have hrp := rep_put hr o[i] h10 (by omega)
      have hlp := len_put acc o[i]
      by_cases h2 : o[i] ∈ acc
      · refine ⟨false, ?_, ?_⟩
        · refine Ev.step (fun k => by rw [spec_IsOrder.l0]) (Ev.pos (by omega) (Ev.pos (by omega) (Ev.pos (by omega) ?_)))
          rw [rd_lt hlt, w64 (x := (i : Int) + 1) (by omega) (by omega)]
          rw [if_pos h2] at hlp
          exact Ev.neg (by omega) (Ev.neg (by omega) (Ev.bind (put_spec _ _ (by omega)) (short_spec o (by omega) d (i + 1) _ (by omega) (by omega))))
        · refine Ev.step (fun k => by rw [impl_Stats_isOrder.l0]) (Ev.pos (by omega) (Ev.pos (by omega) (Ev.pos (by omega) ?_)))
          rw [rd_lt hlt, w64 (x := (i : Int) + 1) (by omega) (by omega), w64 (x := (s0.length : Int) - 1) (by omega) (by omega)]
          exact Ev.cbind (statIn_impl _ _ _) (Ev.pos (decide_eq_true ⟨h10, h11⟩) (Ev.pos h10 (Ev.cbind (hasO_impl _ _) (Ev.pos (by rw [hc]; simp [h2]) (Ev.now _)))))
      · rw [if_neg h2] at hlp
        obtain ⟨b, e1, e2⟩ := ih (i + 1) _ _ (by omega) hrp (by omega)
        refine ⟨b, ?_, ?_⟩
        · refine Ev.step (fun k => by rw [spec_IsOrder.l0]) (Ev.pos (by omega) (Ev.pos (by omega) (Ev.pos (by omega) ?_)))
          rw [rd_lt hlt, w64 (x := (i : Int) + 1) (by omega) (by omega)]
          exact Ev.neg (by omega) (Ev.neg (by omega) (Ev.bind (put_spec _ _ (by omega)) e1))
        · refine Ev.step (fun k => by rw [impl_Stats_isOrder.l0]) (Ev.pos (by omega) (Ev.pos (by omega) (Ev.pos (by omega) ?_)))
          rw [rd_lt hlt, w64 (x := (i : Int) + 1) (by omega) (by omega), w64 (x := (s0.length : Int) - 1) (by omega) (by omega)]
          exact Ev.cbind (statIn_impl _ _ _) (Ev.pos (decide_eq_true ⟨h10, h11⟩) (Ev.pos h10 (Ev.cbind (hasO_impl _ _) (Ev.neg (by rw [hc]; simp [h2]) e2))))
    · refine ⟨false, ?_, ?_⟩
      · refine Ev.step (fun k => by rw [spec_IsOrder.l0]) (Ev.pos (by omega) (Ev.pos (by omega) (Ev.pos (by omega) ?_)))
        rw [rd_lt hlt]
        by_cases h2 : o[i] < 0
        · exact Ev.pos h2 (Ev.now _)
        · exact Ev.neg h2 (Ev.pos (by omega) (Ev.now _))
      · refine Ev.step (fun k => by rw [impl_Stats_isOrder.l0]) (Ev.pos (by omega) (Ev.pos (by omega) (Ev.pos (by omega) ?_)))
        rw [rd_lt hlt, w64 (x := (s0.length : Int) - 1) (by omega) (by omega)]
        exact Ev.cbind (statIn_impl _ _ _) (Ev.neg (by simpa using h1) (Ev.now _))

theorem FnExactIsOrder : laws_FnExactIsOrder.Pure := law fun x0 h0 x1 h1 => by
  have hs0 : x0.f0.length + (x0.f1.length + (x0.f1.map fun y => y.length).sum) ≤ 1048576 := h0
  have hs1 : x1.length ≤ 1048576 := h1
  have hin : ∀ l ∈ x0.f1, l.length ≤ 1048576 := fun l hl => by have := sum_mem (fun y : List Int => y.length) x0.f1 l hl; omega
  have jt : Ev (fun k => spec_IsOrder.j0 k x1 true) false := Ev.step (fun k => by rw [spec_IsOrder.j0]) (Ev.pos rfl (Ev.now _))
  by_cases hg : statsB x0 = true
  · have hm := statsB_len hg
    by_cases he : x1.length = x0.f0.length
    · obtain ⟨b, e1, e2⟩ := order_both x0.f0 hm.2 x0.f1 x1 he x1.length 0 0 [] (by omega) rep_nil rfl
      refine ⟨b, ?_, ?_⟩
      · unfold spec_IsOrder.f
        refine Ev.bind (stats_spec x0 hin) (Ev.pos hg ?_)
        rw [show ((x1.length : Int) != (x0.f0.length : Int)) = false by simp [he]]
        exact Ev.step (f := fun k => spec_IsOrder.l0 k x1 [] x1 (x1.length : Int) 0) (fun k => by rw [spec_IsOrder.j0, if_neg (by simp)]) e1
      · unfold impl_IsOrder.f impl_Stats_isOrder.f
        exact Ev.bind (stats_impl x0) (Ev.pos hg (Ev.bind e2 (Ev.now _)))
    · refine ⟨false, ?_, ?_⟩
      · unfold spec_IsOrder.f
        refine Ev.bind (stats_spec x0 hin) (Ev.pos hg ?_)
        rw [show ((x1.length : Int) != (x0.f0.length : Int)) = true by simp; omega]
        exact jt
      · unfold impl_IsOrder.f impl_Stats_isOrder.f
        exact Ev.bind (stats_impl x0) (Ev.pos hg (Ev.bind (other_impl x0.f0.length hm.2 x0.f0 rfl x0.f1 x1 hs1 he x1.length 0 0 (by omega)) (Ev.now _)))
  · refine ⟨false, ?_, ?_⟩
    · unfold spec_IsOrder.f
      exact Ev.bind (stats_spec x0 hin) (Ev.neg hg jt)
    · unfold impl_IsOrder.f
      exact Ev.bind (stats_impl x0) (Ev.neg hg (Ev.now _))

end Go.Proofs.Ytfbomhedhfkcpaa.Pure
