/- Statistics: both ask the same of good ones. No conditions. -/
import Derived.Test.YtfbomhedhfkcpaaQBase
import Derived.Test.YtfbomhedhfkcpaaG1
import Derived.Test.YtfbomhedhfkcpaaG45
import Derived.Test.YtfbomhedhfkcpaaG47
namespace Go.Proofs.Ytfbomhedhfkcpaa.Pure
open Go.RowKit Go.Proofs.Ytfbomhedhfkcpaa.G Go.Proofs.Ytfbomhedhfkcpaa.X Go.Proofs.YtfbomhedhfkcpaaW.PrintWords
set_option linter.unusedVariables false

theorem rdLL_lt {l : List (List Int)} {i : Nat} (h : i < l.length) : rd_L1 l (i : Int) = l[i] := by simp [rd_L1, h]
theorem statIn_spec (a b c : Int) : spec_l1In.f a b c = some (decide (b ≤ a ∧ a ≤ c)) := by
  unfold spec_l1In.f
  by_cases h : a ≥ b
  · rw [if_pos h]; simp [h]
  · rw [if_neg h]; simp; omega
theorem statIn_impl (a b c : Int) : impl_within.f a b c = some (decide (b ≤ a ∧ a ≤ c)) := by
  unfold impl_within.f
  by_cases h : b ≤ a
  · rw [if_pos h]; simp [h]
  · rw [if_neg h]; simp [h]
def sizeB (x : Int) : Bool := decide (1 ≤ x ∧ x ≤ 50)
def factB (x : Int) : Bool := decide (1 ≤ x ∧ x ≤ 10)
/-- From place i on: each list of factors is as long as its place, each factor good. -/
def factsB : List (List Int) → Nat → Bool
  | [], _ => true
  | l :: ls, i => (l.length == i && l.all factB) && factsB ls (i + 1)
/-- The same beside the sizes. -/
def bothB : List Int → List (List Int) → Nat → Bool
  | s :: ss, l :: ls, i => sizeB s && (l.length == i && l.all factB) && bothB ss ls (i + 1)
  | _, _, _ => true
theorem both_eq : ∀ (ss : List Int) (ls : List (List Int)) (i : Nat), ss.length = ls.length → bothB ss ls i = (ss.all sizeB && factsB ls i)
  | [], [], _, _ => rfl
  | s :: ss, l :: ls, i, h => by
    unfold bothB factsB
    rw [both_eq ss ls (i + 1) (by simpa using h), List.all_cons]
    cases sizeB s <;> cases ss.all sizeB <;> simp

theorem inner_spec (x22 : List Int) (x23 x24 : Int) (a : List Int) (b : List (List Int)) (l : List Int) (hl : l.length ≤ 1048576) (r : Bool) (hnext : Ev (fun k => spec_GoodStats.l0 k x22 x23 (wrap64 (x24 + 1)) a b) r) (d : Nat) : ∀ (i : Nat), i + d = l.length →
    Ev (fun k => spec_GoodStats.l1 k x22 x23 x24 l (l.length : Int) (i : Int) a b) ((l.drop i).all factB && r) := by
  induction d with
  | zero =>
    intro i hi
    refine Ev.step (f := fun k => spec_GoodStats.l0 k x22 x23 (wrap64 (x24 + 1)) a b) (fun k => by simp only [spec_GoodStats.l1]; rw [if_neg (by omega)]) ?_
    rw [List.drop_of_length_le (by omega)]
    simpa using hnext
  | succ d ih =>
    intro i hi
    have hlt : i < l.length := by omega
    refine Ev.step (f := fun k => if factB l[i] = true then spec_GoodStats.l1 k x22 x23 x24 l (l.length : Int) ((i + 1 : Nat) : Int) a b else some false) (fun k => ?_) ?_
    · simp only [spec_GoodStats.l1]
      rw [if_pos (by omega), if_pos (by omega), if_pos (by omega), rd_lt hlt, statIn_spec, Option.bind_some, w64 (by omega) (by omega)]
      rfl
    · rw [drop_cons hlt, List.all_cons]
      by_cases h : factB l[i] = true
      · rw [h]; exact Ev.pos rfl (by simpa using ih (i + 1) (by omega))
      · rw [Bool.eq_false_iff.mpr h]; exact Ev.neg (by simp) (Ev.eq (Ev.now _) (by simp))

theorem outer_spec (s : List Int) (f : List (List Int)) (hsf : s.length = f.length) (hs : s.length ≤ 6) (hf : ∀ l ∈ f, l.length ≤ 1048576) (d : Nat) : ∀ (i : Nat), i + d = s.length →
    Ev (fun k => spec_GoodStats.l0 k s (s.length : Int) (i : Int) s f) (bothB (s.drop i) (f.drop i) i) := by
  induction d with
  | zero =>
    intro i hi
    refine Ev.step (f := fun k => some true) (fun k => by simp only [spec_GoodStats.l0]; rw [if_neg (by omega)]) ?_
    rw [List.drop_of_length_le (by omega), List.drop_of_length_le (l := f) (by omega)]
    exact Ev.now _
  | succ d ih =>
    intro i hi
    have hlt : i < s.length := by omega
    have hltf : i < f.length := by omega
    rw [drop_cons hlt, drop_cons hltf]
    unfold bothB
    have hnext : Ev (fun k => spec_GoodStats.l0 k s (s.length : Int) (wrap64 ((i : Int) + 1)) s f) (bothB (s.drop (i + 1)) (f.drop (i + 1)) (i + 1)) := by
      rw [w64 (by omega) (by omega)]
      exact ih (i + 1) (by omega)
    have hj : ∀ t : Bool, Ev (fun k => spec_GoodStats.j2 k (i : Int) s (s.length : Int) (i : Int) t s f) (!t && (f[i].all factB && bothB (s.drop (i + 1)) (f.drop (i + 1)) (i + 1))) := by
      intro t
      cases t with
      | true => exact Ev.step (f := fun _ => some false) (fun k => by simp only [spec_GoodStats.j2]; rw [if_pos trivial]) (Ev.now _)
      | false =>
        refine Ev.step (f := fun k => spec_GoodStats.l1 k s (s.length : Int) (i : Int) f[i] (f[i].length : Int) 0 s f) (fun k => ?_) ?_
        · simp only [spec_GoodStats.j2]
          rw [if_neg (by simp), if_pos (by omega), if_pos (by omega), rdLL_lt hltf]
        · simpa using inner_spec s (s.length : Int) (i : Int) s f f[i] (hf _ (List.getElem_mem hltf)) _ hnext f[i].length 0 (by omega)
    refine Ev.step (f := fun k => if sizeB s[i] = true then spec_GoodStats.j2 k (i : Int) s (s.length : Int) (i : Int) ((f[i].length : Int) != (i : Int)) s f else spec_GoodStats.j2 k (i : Int) s (s.length : Int) (i : Int) true s f) (fun k => ?_) ?_
    · simp only [spec_GoodStats.l0]
      rw [if_pos (by omega), if_pos (by omega), if_pos (by omega), rd_lt hlt, statIn_spec, Option.bind_some, if_pos (show (i : Int) < (f.length : Int) from by omega), rdLL_lt hltf]
      rfl
    · by_cases h : sizeB s[i] = true
      · refine Ev.pos h (Ev.eq (hj _) ?_)
        rw [h]
        by_cases e : f[i].length = i
        · simp [e]
        · have e2 : ((f[i].length : Int) != (i : Int)) = true := by simp; omega
          simp [e, e2]
      · refine Ev.neg h (Ev.eq (hj _) ?_)
        rw [Bool.eq_false_iff.mpr h]; simp

theorem outer_impl (f : List (List Int)) (hf : f.length ≤ 6) (d : Nat) : ∀ (i : Nat), i + d = f.length →
    Ev (fun k => impl_GoodStats.l0 k f (f.length : Int) (i : Int)) (factsB (f.drop i) i) := by
  induction d with
  | zero =>
    intro i hi
    refine Ev.step (f := fun k => some true) (fun k => by simp only [impl_GoodStats.l0]; rw [if_neg (by omega)]) ?_
    rw [List.drop_of_length_le (by omega)]
    exact Ev.now _
  | succ d ih =>
    intro i hi
    have hlt : i < f.length := by omega
    rw [drop_cons hlt]
    unfold factsB
    have ha : impl_areAll_int__impl_GoodStats_2.f f[i] = some (f[i].all factB) := by
      unfold impl_areAll_int__impl_GoodStats_2.f
      exact allO_eq _ (fun x _ => by simp only [impl_GoodStats_2.f, statIn_impl, Option.bind_some]; rfl)
    refine Ev.step (f := fun k => if (f[i].length : Int) = (i : Int) then (if f[i].all factB = true then impl_GoodStats.l0 k f (f.length : Int) ((i + 1 : Nat) : Int) else some false) else some false) (fun k => ?_) ?_
    · simp only [impl_GoodStats.l0]
      rw [if_pos (by omega), if_pos (by omega), if_pos (by omega), rdLL_lt hlt, ha, Option.bind_some, w64 (by omega) (by omega)]
      rfl
    · by_cases e : f[i].length = i
      · refine Ev.pos (by omega) ?_
        by_cases h : f[i].all factB = true
        · refine Ev.pos h (Ev.eq (ih (i + 1) (by omega)) ?_)
          simp only [e, h, beq_self_eq_true, Bool.and_self, Bool.true_and]
        · refine Ev.neg h (Ev.eq (Ev.now _) ?_)
          rw [Bool.eq_false_iff.mpr h]; simp
      · refine Ev.neg (by omega) (Ev.eq (Ev.now _) ?_)
        simp [e]

def statsB (x0 : S68) : Bool := decide (1 ≤ x0.f0.length ∧ x0.f0.length ≤ 6) && (x0.f1.length == x0.f0.length) && (x0.f0.all sizeB && factsB x0.f1 0)
theorem statsB_len {x0 : S68} (h : statsB x0 = true) : 1 ≤ x0.f0.length ∧ x0.f0.length ≤ 6 := by
  unfold statsB at h
  rw [Bool.and_eq_true, Bool.and_eq_true, decide_eq_true_eq] at h
  exact h.1.1
theorem stats_spec (x0 : S68) (hin : ∀ l ∈ x0.f1, l.length ≤ 1048576) : Ev (fun k => spec_GoodStats.f k x0.f0 x0.f1) (statsB x0) := by
  unfold spec_GoodStats.f statsB
  refine Ev.cbind (statIn_spec _ _ _) ?_
  have jt : Ev (fun k => spec_GoodStats.j0 k true x0.f0 x0.f1) false := Ev.step (f := fun _ => some false) (fun k => by simp only [spec_GoodStats.j0]; rw [if_pos trivial]) (Ev.now _)
  by_cases c : 1 ≤ x0.f0.length ∧ x0.f0.length ≤ 6
  · refine Ev.pos (by simp; omega) ?_
    by_cases e : x0.f1.length = x0.f0.length
    · have e2 : ((x0.f1.length : Int) != (x0.f0.length : Int)) = false := by simp [e]
      rw [e2]
      refine Ev.step (f := fun k => spec_GoodStats.l0 k x0.f0 (x0.f0.length : Int) 0 x0.f0 x0.f1) (fun k => by simp only [spec_GoodStats.j0]; rw [if_neg (by simp)]) ?_
      have := outer_spec x0.f0 x0.f1 e.symm c.2 hin x0.f0.length 0 (by omega)
      rw [List.drop_zero, List.drop_zero, both_eq _ _ _ e.symm] at this
      simpa [c, e] using this
    · have e2 : ((x0.f1.length : Int) != (x0.f0.length : Int)) = true := by simp; omega
      rw [e2]
      exact Ev.eq jt (by simp [e])
  · refine Ev.neg (by simp; omega) (Ev.eq jt ?_)
    simp [c]
theorem stats_impl (x0 : S68) : Ev (fun k => impl_GoodStats.f k x0.f0 x0.f1) (statsB x0) := by
  unfold impl_GoodStats.f statsB
  refine Ev.cbind (statIn_impl _ _ _) ?_
  have jt : Ev (fun k => impl_GoodStats.j0 k true x0.f0 x0.f1) false := Ev.step (f := fun _ => some false) (fun k => by simp only [impl_GoodStats.j0]; rw [if_pos trivial]) (Ev.now _)
  have ha : impl_areAll_int__impl_GoodStats_1.f x0.f0 = some (x0.f0.all sizeB) := by
    unfold impl_areAll_int__impl_GoodStats_1.f
    exact allO_eq _ (fun x _ => by simp only [impl_GoodStats_1.f, statIn_impl, Option.bind_some]; rfl)
  by_cases c : 1 ≤ x0.f0.length ∧ x0.f0.length ≤ 6
  · refine Ev.pos (by simp; omega) ?_
    by_cases e : x0.f1.length = x0.f0.length
    · refine Ev.pos (by omega) (Ev.cbind ha ?_)
      cases hb : x0.f0.all sizeB with
      | true =>
        refine Ev.step (f := fun k => impl_GoodStats.l0 k x0.f1 (x0.f1.length : Int) 0) (fun k => by simp only [impl_GoodStats.j0]; rw [if_neg (by simp)]) ?_
        have := outer_impl x0.f1 (by omega) x0.f1.length 0 (by omega)
        rw [List.drop_zero] at this
        simpa [c, e] using this
      | false => exact Ev.eq jt (by simp)
    · exact Ev.neg (by omega) (Ev.eq jt (by simp [e]))
  · exact Ev.neg (by simp; omega) (Ev.eq jt (by simp [c]))

end Go.Proofs.Ytfbomhedhfkcpaa.Pure
