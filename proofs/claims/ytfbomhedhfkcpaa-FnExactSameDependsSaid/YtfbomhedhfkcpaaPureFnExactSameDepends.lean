/- The plain law of SameDepends: both functions answer alike. No conditions. -/
import Derived.Test.YtfbomhedhfkcpaaHFnExactSameDepends
import Derived.Test.YtfbomhedhfkcpaaQClosure
import Derived.Test.YtfbomhedhfkcpaaG54
import Derived.Test.YtfbomhedhfkcpaaG55
namespace Go.Proofs.Ytfbomhedhfkcpaa.Pure
open Go.RowKit Go.Proofs.Ytfbomhedhfkcpaa.G Go.Proofs.Ytfbomhedhfkcpaa.X Go.Proofs.YtfbomhedhfkcpaaW.PrintWords Go.Proofs.Ytfbomhedhfkcpaa.HFnExactSameDepends
set_option linter.unusedVariables false

/-- Good dependencies of so many columns. -/
def okD (n : Int) (l : List S77) : Prop := n ≤ 6 ∧ l.length ≤ 1048576 ∧ (∀ d ∈ l, shortD d) ∧ (∀ d ∈ l, below6 d) ∧ (∀ d ∈ l, dependB n d = true)
theorem okD_of {n : Int} {l : List S77} (hl : l.length ≤ 1048576) (hs : ∀ d ∈ l, shortD d) (h : goodDepends n l = true) : okD n l := by
  obtain ⟨hn, hb⟩ := good_depends_below h
  unfold goodDepends at h
  rw [Bool.and_eq_true, Bool.and_eq_true, List.all_eq_true] at h
  exact ⟨hn, hl, hs, hb, h.2.2⟩
/-- Each dependency of b is implied by a's: the answers of the reference, gathered. -/
theorem each_both (n : Int) (a : List S77) (ha : okD n a) : ∀ b : List S77, (∀ d ∈ b, shortD d) → (∀ d ∈ b, dependB n d = true) →
    ∃ p : S77 → Bool, ∀ d ∈ b, Ev (fun k => spec_l7Implies.f k a d.f0 d.f1) (p d) ∧ Ev (fun k => impl_implies.f k (a.map ruleD) (ruleD d).f0 (ruleD d).f1) (p d) := by
  intro b hs hb
  have h : ∀ d : S77, ∃ c : Bool, d ∈ b → Ev (fun k => spec_l7Implies.f k a d.f0 d.f1) c ∧ Ev (fun k => impl_implies.f k (a.map ruleD) (ruleD d).f0 (ruleD d).f1) c := by
    intro d
    by_cases hd : d ∈ b
    · obtain ⟨c, h1, h2⟩ := implies_both a ha.2.1 ha.2.2.1 ha.2.2.2.1 n ha.1 d (hb d hd) (hs d hd)
      exact ⟨c, fun _ => ⟨h1, h2⟩⟩
    · exact ⟨false, fun c => absurd c hd⟩
  exact ⟨fun d => Classical.choose (h d), fun d hd => Classical.choose_spec (h d) hd⟩
theorem rdDs_lt {l : List S77} {i : Nat} (h : i < l.length) : rd_T77 l (i : Int) = l[i] := rdD_lt h
theorem second_spec (a b : List S77) (hb : b.length ≤ 1048576) (p : S77 → Bool) (hp : ∀ d ∈ b, Ev (fun k => spec_l7Implies.f k a d.f0 d.f1) (p d)) (d : Nat) : ∀ (i : Nat), i + d = b.length →
    Ev (fun k => spec_SameDepends.l1 k a b (b.length : Int) (i : Int)) ((b.drop i).all p, true) := by
  induction d with
  | zero =>
    intro i hi
    rw [List.drop_of_length_le (by omega)]
    exact Ev.step (fun k => by rw [spec_SameDepends.l1]) (Ev.neg (by omega) (Ev.eq (Ev.now (true, true)) rfl))
  | succ d ih =>
    intro i hi
    have hlt : i < b.length := by omega
    rw [drop_cons hlt, List.all_cons]
    refine Ev.step (fun k => by rw [spec_SameDepends.l1]) (Ev.pos (by omega) (Ev.pos (by omega) (Ev.pos (by omega) ?_)))
    rw [rdD_lt hlt, w64 (x := (i : Int) + 1) (by omega) (by omega)]
    refine Ev.bind (hp _ (List.getElem_mem hlt)) ?_
    by_cases c : p b[i] = true
    · exact Ev.pos c (Ev.eq (ih (i + 1) (by omega)) (by rw [c]; rfl))
    · exact Ev.neg c (Ev.eq (Ev.now _) (by rw [Bool.eq_false_iff.mpr c]; rfl))
theorem first_spec (a b : List S77) (ha : a.length ≤ 1048576) (hb : b.length ≤ 1048576) (p q : S77 → Bool) (hp : ∀ d ∈ b, Ev (fun k => spec_l7Implies.f k a d.f0 d.f1) (p d)) (hq : ∀ d ∈ a, Ev (fun k => spec_l7Implies.f k b d.f0 d.f1) (q d)) (d : Nat) : ∀ (i : Nat), i + d = a.length →
    Ev (fun k => spec_SameDepends.l0 k a b a (a.length : Int) (i : Int)) ((a.drop i).all q && b.all p, true) := by
  induction d with
  | zero =>
    intro i hi
    rw [List.drop_of_length_le (by omega)]
    exact Ev.step (fun k => by rw [spec_SameDepends.l0]) (Ev.neg (by omega) (by simpa using second_spec a b hb p hp b.length 0 (by omega)))
  | succ d ih =>
    intro i hi
    have hlt : i < a.length := by omega
    rw [drop_cons hlt, List.all_cons]
    refine Ev.step (fun k => by rw [spec_SameDepends.l0]) (Ev.pos (by omega) (Ev.pos (by omega) (Ev.pos (by omega) ?_)))
    rw [rdD_lt hlt, w64 (x := (i : Int) + 1) (by omega) (by omega)]
    refine Ev.bind (hq _ (List.getElem_mem hlt)) ?_
    by_cases c : q a[i] = true
    · exact Ev.pos c (Ev.eq (ih (i + 1) (by omega)) (by rw [c]; rfl))
    · exact Ev.neg c (Ev.eq (Ev.now _) (by rw [Bool.eq_false_iff.mpr c]; rfl))
/-- A predicate over rules that stand for dependencies. -/
theorem allRules {pf : Nat → S135 → Option Bool} (p : S77 → Bool) : ∀ (l : List S77), (∀ d ∈ l, Ev (fun k => pf k (ruleD d)) (p d)) → Ev (fun k => allO (pf k) (l.map ruleD)) (l.all p)
  | [], _ => Ev.now _
  | d :: l, h => by
    rw [List.map_cons, List.all_cons]
    unfold allO
    refine Ev.bind (h d List.mem_cons_self) ?_
    cases hp : p d with
    | true => simpa using allRules p l (fun e he => h e (List.mem_cons_of_mem _ he))
    | false => simpa using Ev.now false

theorem FnExactSameDepends : laws_FnExactSameDepends.Pure := law fun x0 h0 x1 h1 x2 h2 => by
  have k0 : x0.length + (x0.map fun y => y.f0.length + y.f1.length).sum ≤ 1048576 := h0
  have k1 : x1.length + (x1.map fun y => y.f0.length + y.f1.length).sum ≤ 1048576 := h1
  have hs0 : ∀ d ∈ x0, shortD d := fun d hd => by have := sum_mem (fun y : S77 => y.f0.length + y.f1.length) x0 d hd; exact ⟨by omega, by omega⟩
  have hs1 : ∀ d ∈ x1, shortD d := fun d hd => by have := sum_mem (fun y : S77 => y.f0.length + y.f1.length) x1 d hd; exact ⟨by omega, by omega⟩
  have jt : Ev (fun k => impl_SameDepends.j0 k x0 x1 true) (false, false) := Ev.step (fun k => by rw [impl_SameDepends.j0]) (Ev.pos rfl (Ev.now _))
  have js : Ev (fun k => spec_SameDepends.j0 k x0 x1 true) (false, false) := Ev.step (fun k => by rw [spec_SameDepends.j0]) (Ev.pos rfl (Ev.now _))
  by_cases hg0 : goodDepends x2 x0 = true
  · by_cases hg1 : goodDepends x2 x1 = true
    · have o0 := okD_of (by omega) hs0 hg0
      have o1 := okD_of (by omega) hs1 hg1
      obtain ⟨p, hp⟩ := each_both x2 x0 o0 x1 hs1 o1.2.2.2.2
      obtain ⟨q, hq⟩ := each_both x2 x1 o1 x0 hs0 o0.2.2.2.2
      refine ⟨(x0.all q && x1.all p, true), ?_, ?_⟩
      · unfold spec_SameDepends.f
        refine Ev.bind (depends_spec _ _ (by omega) hs0) (Ev.pos hg0 (Ev.bind (depends_spec _ _ (by omega) hs1) ?_))
        rw [hg1]
        refine Ev.step (fun k => by rw [spec_SameDepends.j0]) (Ev.neg (by simp) ?_)
        exact first_spec x0 x1 (by omega) (by omega) p q (fun d hd => (hp d hd).1) (fun d hd => (hq d hd).1) x0.length 0 (by omega)
      · unfold impl_SameDepends.f
        refine Ev.bind (depends_impl _ _ (by omega) hs0) (Ev.pos hg0 (Ev.bind (depends_impl _ _ (by omega) hs1) ?_))
        rw [hg1]
        refine Ev.step (fun k => by rw [impl_SameDepends.j0]) (Ev.neg (by simp) ?_)
        have a0 : Ev (fun k => impl_areAll_impl_rule__impl_SameDepends_1.f k (x0.map ruleD) (x1.map ruleD)) (x0.all q) := by
          unfold impl_areAll_impl_rule__impl_SameDepends_1.f impl_SameDepends_1.f
          exact allRules q x0 (fun d hd => Ev.bind (hq d hd).2 (Ev.now _))
        have a1 : Ev (fun k => impl_areAll_impl_rule__impl_SameDepends_2.f k (x1.map ruleD) (x0.map ruleD)) (x1.all p) := by
          unfold impl_areAll_impl_rule__impl_SameDepends_2.f impl_SameDepends_2.f
          exact allRules p x1 (fun d hd => Ev.bind (hp d hd).2 (Ev.now _))
        refine Ev.bind (rulesOf_impl x0 (by omega) hs0 o0.2.2.2.1) (Ev.bind (rulesOf_impl x1 (by omega) hs1 o1.2.2.2.1) (Ev.bind a0 ?_))
        by_cases c : x0.all q = true
        · exact Ev.pos c (Ev.bind a1 (Ev.eq (Ev.now _) (by rw [c]; rfl)))
        · exact Ev.neg c (Ev.eq (Ev.now _) (by rw [Bool.eq_false_iff.mpr c]; rfl))
    · refine ⟨(false, false), ?_, ?_⟩
      · unfold spec_SameDepends.f
        refine Ev.bind (depends_spec _ _ (by omega) hs0) (Ev.pos hg0 (Ev.bind (depends_spec _ _ (by omega) hs1) ?_))
        rw [Bool.eq_false_iff.mpr hg1]
        exact js
      · unfold impl_SameDepends.f
        refine Ev.bind (depends_impl _ _ (by omega) hs0) (Ev.pos hg0 (Ev.bind (depends_impl _ _ (by omega) hs1) ?_))
        rw [Bool.eq_false_iff.mpr hg1]
        exact jt
  · refine ⟨(false, false), ?_, ?_⟩
    · unfold spec_SameDepends.f
      exact Ev.bind (depends_spec _ _ (by omega) hs0) (Ev.neg hg0 js)
    · unfold impl_SameDepends.f
      exact Ev.bind (depends_impl _ _ (by omega) hs0) (Ev.neg hg0 jt)

end Go.Proofs.Ytfbomhedhfkcpaa.Pure
