/- Dependencies: both ask the same of good ones. No conditions. -/
import Derived.Test.YtmelechhnimlnadG3
import Derived.Test.YtmelechhnimlnadG10
import Derived.Test.YtmelechhnimlnadG2
import Derived.Test.YtmelechhnimlnadG9
import Derived.Test.YtmelechhnimlnadQSome
namespace Go.Proofs.Ytmelechhnimlnad.Pure
open Go.RowKit Go.Proofs.Ytmelechhnimlnad.G Go.Proofs.Ytmelechhnimlnad.X Go.Proofs.YtmelechhnimlnadW.PrintWords Go.Proofs.YtmelechhnimlnadW.PrintLast
set_option linter.unusedVariables false

theorem inD_spec (a b c : Int) : spec_l1In.f a b c = some (decide (b ≤ a ∧ a ≤ c)) := by
  unfold spec_l1In.f
  by_cases h : a ≥ b
  · rw [if_pos h]; simp [h]
  · rw [if_neg h]; simp; omega
theorem inD_impl (a b c : Int) : impl_within.f a b c = some (decide (b ≤ a ∧ a ≤ c)) := by
  unfold impl_within.f
  by_cases h : b ≤ a
  · rw [if_pos h]; simp [h]
  · rw [if_neg h]; simp [h]
def dependB (n : Int) (d : S49) : Bool := someB n d.f0 && someB n d.f1
def shortD (d : S49) : Prop := d.f0.length ≤ 1048576 ∧ d.f1.length ≤ 1048576
theorem depend_spec (n : Int) (d : S49) (hd : shortD d) : Ev (fun k => spec_l7Depend.f k d.f0 d.f1 n) (dependB n d) := by
  unfold spec_l7Depend.f dependB
  obtain ⟨h0, h1⟩ := hd
  refine Ev.bind (some_spec n d.f0 (by omega)) ?_
  cases someB n d.f0
  · exact Ev.neg (by simp) (Ev.eq (Ev.now false) rfl)
  · exact Ev.pos rfl (Ev.bind (some_spec n d.f1 (by omega)) (Ev.eq (Ev.now _) rfl))
theorem depend_impl (n : Int) (d : S49) (hd : shortD d) : Ev (fun k => impl_isDepend.f k d.f0 d.f1 n) (dependB n d) := by
  unfold impl_isDepend.f dependB
  obtain ⟨h0, h1⟩ := hd
  refine Ev.bind (some_impl n d.f0 (by omega)) ?_
  cases someB n d.f0
  · exact Ev.neg (by simp) (Ev.eq (Ev.now false) rfl)
  · exact Ev.pos rfl (Ev.bind (some_impl n d.f1 (by omega)) (Ev.eq (Ev.now _) rfl))
theorem rdD_lt {l : List S49} {i : Nat} (h : i < l.length) : rd_T49 l (i : Int) = l[i] := by simp [rd_T49, h]
def goodDepends (n : Int) (l : List S49) : Bool := decide (1 ≤ n ∧ n ≤ 6) && (decide (l.length ≤ 10) && l.all (dependB n))

theorem depends_spec_l (n : Int) (l : List S49) (hl : l.length ≤ 1048576) (hs : ∀ d ∈ l, shortD d) (d : Nat) : ∀ (i : Nat), i + d = l.length →
    Ev (fun k => spec_GoodDepends.l0 k l n l (l.length : Int) (i : Int)) ((l.drop i).all (dependB n) && (decide (1 ≤ n ∧ n ≤ 6) && decide (l.length ≤ 10))) := by
  induction d with
  | zero =>
    intro i hi
    rw [List.drop_of_length_le (by omega)]
    refine Ev.step (fun k => by rw [spec_GoodDepends.l0]) (Ev.neg (by omega) (Ev.cbind (inD_spec _ _ _) ?_))
    by_cases h : 1 ≤ n ∧ n ≤ 6
    · exact Ev.pos (by simpa using h) (Ev.eq (Ev.now _) (by simp [h]; omega))
    · exact Ev.neg (by simpa using h) (Ev.eq (Ev.now _) (by simp [h]))
  | succ d ih =>
    intro i hi
    have hlt : i < l.length := by omega
    rw [drop_cons hlt, List.all_cons]
    refine Ev.step (fun k => by rw [spec_GoodDepends.l0]) (Ev.pos (by omega) (Ev.pos (by omega) (Ev.pos (by omega) ?_)))
    rw [rdD_lt hlt, w64 (x := (i : Int) + 1) (by omega) (by omega)]
    refine Ev.bind (depend_spec n l[i] (hs _ (List.getElem_mem hlt))) ?_
    by_cases h : dependB n l[i] = true
    · exact Ev.pos h (Ev.eq (ih (i + 1) (by omega)) (by rw [h]; rfl))
    · exact Ev.neg h (Ev.eq (Ev.now false) (by rw [Bool.eq_false_iff.mpr h]; rfl))
theorem depends_spec (n : Int) (l : List S49) (hl : l.length ≤ 1048576) (hs : ∀ d ∈ l, shortD d) : Ev (fun k => spec_GoodDepends.f k l n) (goodDepends n l) := by
  unfold spec_GoodDepends.f goodDepends
  refine Ev.eq (depends_spec_l n l hl hs l.length 0 (by omega)) ?_
  rw [List.drop_zero, Bool.and_comm, Bool.and_assoc]
theorem depends_impl (n : Int) (l : List S49) (hl : l.length ≤ 1048576) (hs : ∀ d ∈ l, shortD d) : Ev (fun k => impl_GoodDepends.f k l n) (goodDepends n l) := by
  unfold impl_GoodDepends.f impl_areAll_impl_Depend__impl_GoodDepends_1.f goodDepends
  refine Ev.cbind (inD_impl _ _ _) ?_
  by_cases h : 1 ≤ n ∧ n ≤ 6
  · refine Ev.pos (by simpa using h) ?_
    by_cases h2 : l.length ≤ 10
    · refine Ev.pos (by omega) (Ev.bind (allO_ev (p := dependB n) l (fun t ht => ?_)) (Ev.eq (Ev.now _) (by simp [h, h2])))
      unfold impl_GoodDepends_1.f
      exact Ev.bind (depend_impl n t (hs t ht)) (Ev.now _)
    · exact Ev.neg (by omega) (Ev.eq (Ev.now false) (by simp [h2]))
  · exact Ev.neg (by simpa using h) (Ev.eq (Ev.now false) (by simp [h]))

end Go.Proofs.Ytmelechhnimlnad.Pure
