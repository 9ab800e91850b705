/- The plain law of WitnessFor: both functions answer alike. No conditions. -/
import Derived.Test.YtaddemalepndfahHFnExactWitnessFor
import Derived.Test.YtaddemalepndfahQClosure
import Derived.Test.YtaddemalepndfahQTableS
import Derived.Test.YtaddemalepndfahG7
import Derived.Test.YtaddemalepndfahG12
import Derived.Test.YtaddemalepndfahG3
import Derived.Test.YtaddemalepndfahG11
import Derived.Test.YtaddemalepndfahG6
namespace Go.Proofs.Ytaddemalepndfah.Pure
open Go.RowKit Go.Proofs.Ytaddemalepndfah.G Go.Proofs.Ytaddemalepndfah.X Go.Proofs.YtaddemalepndfahW.PrintWords Go.Proofs.YtaddemalepndfahW.PrintLast Go.Proofs.Ytaddemalepndfah.HFnExactWitnessFor
set_option linter.unusedVariables false
set_option linter.unusedSimpArgs false

abbrev W := S53
theorem own_eq (l : List Int) (h : l.length ≤ 1048576) : spec_l2OwnRow.f l = some l := by
  unfold spec_l2OwnRow.f
  rw [Option.bind_some, if_pos (by show 0 + l.length < _; omega)]
  rfl
theorem tell_l (c : Int) (l : List W) (hl : l.length ≤ 1048576) (hr : ∀ i : Int, (rd_T53 l i).f0.f0.length ≤ 1048576) (d : Nat) : ∀ (i : Nat), i + d = l.length →
    Ev (fun k => spec_l2Tell.l0 k l (l.length : Int) (i : Int) c (l.take i)) (if goodTable c l = true then (c, l, true) else (0, [], false)) := by
  induction d with
  | zero =>
    intro i hi
    obtain rfl : i = l.length := by omega
    rw [List.take_length]
    exact Ev.step (fun k => by rw [spec_l2Tell.l0]) (Ev.neg (by omega) (Ev.bind (table_spec c l hl hr) (Ev.ite (fun _ => Ev.now _) (fun _ => Ev.now _))))
  | succ d ih =>
    intro i hi
    have hlt : i < l.length := by omega
    have hh := ih (i + 1) (by omega)
    rw [take_snoc hlt] at hh
    have h1 := hr (i : Int)
    rw [rdW_lt hlt] at h1
    refine Ev.step (fun k => by rw [spec_l2Tell.l0]) (Ev.pos (by omega) (Ev.pos (by omega) (Ev.pos (by omega) ?_)))
    rw [rdW_lt hlt, w64 (x := (i : Int) + 1) (by omega) (by omega)]
    exact Ev.cbind (own_eq _ h1) (Ev.pos (by rw [List.length_take]; omega) hh)
theorem tell_ev (c : Int) (l : List W) (hl : l.length ≤ 1048576) (hr : ∀ i : Int, (rd_T53 l i).f0.f0.length ≤ 1048576) : Ev (fun k => spec_l2Tell.f k c l) (if goodTable c l = true then (c, l, true) else (0, [], false)) :=
  tell_l c l hl hr l.length 0 (by omega)
/-- The row that is unlike where the closure is not. -/
def wit (X : List Int) (n : Nat) : List Int := (List.range n).map fun k : Nat => if (k : Int) ∈ X then 0 else 1
theorem wit_len (X : List Int) (n : Nat) : (wit X n).length = n := by simp [wit]
theorem wit_succ (X : List Int) (n : Nat) : wit X (n + 1) = wit X n ++ [if (n : Int) ∈ X then 0 else 1] := by simp [wit, List.range_succ]
theorem wit_01 (X : List Int) (n : Nat) : ∀ x ∈ wit X n, x = 0 ∨ x = 1 := fun x hx => by
  obtain ⟨k, _, rfl⟩ := List.mem_map.1 hx
  split
  · exact .inl rfl
  · exact .inr rfl
theorem cmp_zero : ∀ l : List Int, (∀ x ∈ l, x = 0 ∨ x = 1) → (1 : Int) ∈ l → cmpL (List.replicate l.length 0) l < 0
  | [], _, h => by cases h
  | x :: xs, h, hm => by
    rw [List.length_cons, List.replicate_succ]
    unfold cmpL
    rcases h x List.mem_cons_self with rfl | rfl
    · rw [if_neg (by decide), if_neg (by decide)]
      refine cmp_zero xs (fun y hy => h y (List.mem_cons_of_mem _ hy)) ?_
      rcases List.mem_cons.1 hm with e | e
      · cases e
      · exact e
    · rw [if_pos (by decide)]; decide
theorem two_good (X : List Int) (n : Nat) (h1 : n ≤ 6) (hx : ∃ k : Nat, k < n ∧ (k : Int) ∉ X) :
    goodTable (n : Int) [(⟨⟨List.replicate n 0⟩, 1⟩ : W), (⟨⟨wit X n⟩, 1⟩ : W)] = true := by
  obtain ⟨k, hk, hkx⟩ := hx
  have g0 : goodRow (List.replicate n 0) = true := by
    unfold goodRow
    rw [List.length_replicate, decide_eq_true h1, Bool.true_and, List.all_eq_true]
    intro x hx
    rw [(List.mem_replicate.1 hx).2]
    decide
  have g1 : goodRow (wit X n) = true := by
    unfold goodRow
    rw [wit_len, decide_eq_true h1, Bool.true_and, List.all_eq_true]
    intro x hx
    rcases wit_01 X n x hx with rfl | rfl <;> decide
  have hm : (1 : Int) ∈ wit X n := List.mem_map.2 ⟨k, List.mem_range.2 hk, by rw [if_neg hkx]⟩
  have hc := cmp_zero (wit X n) (wit_01 X n) hm
  rw [wit_len] at hc
  have e0 : rd_T53 [(⟨⟨List.replicate n 0⟩, 1⟩ : W), (⟨⟨wit X n⟩, 1⟩ : W)] ((0 : Nat) : Int) = ⟨⟨List.replicate n 0⟩, 1⟩ := rfl
  have e1 : rd_T53 [(⟨⟨List.replicate n 0⟩, 1⟩ : W), (⟨⟨wit X n⟩, 1⟩ : W)] ((1 : Nat) : Int) = ⟨⟨wit X n⟩, 1⟩ := rfl
  have e2 : rd_T53 [(⟨⟨List.replicate n 0⟩, 1⟩ : W), (⟨⟨wit X n⟩, 1⟩ : W)] (((1 : Nat) : Int) - 1) = ⟨⟨List.replicate n 0⟩, 1⟩ := rfl
  have o0 : okAt (n : Int) [(⟨⟨List.replicate n 0⟩, 1⟩ : W), (⟨⟨wit X n⟩, 1⟩ : W)] 0 = true := by
    unfold okAt
    rw [e0]
    simp [g0]
  have o1 : okAt (n : Int) [(⟨⟨List.replicate n 0⟩, 1⟩ : W), (⟨⟨wit X n⟩, 1⟩ : W)] 1 = true := by
    unfold okAt
    rw [e1, e2]
    simp [g1, wit_len, hc]
  unfold goodTable
  rw [decide_eq_true (by omega), Bool.true_and]
  show (_ && (okAt _ _ 0 && (okAt _ _ 1 && true))) = true
  rw [o0, o1]
  rfl
theorem spec_w (X : List Int) (hX : X.length ≤ 1048576) (n : Nat) (hn : n ≤ 6) (R : Int × List W × Bool)
    (hR : Ev (fun k => spec_l2Tell.f k (n : Int) [(⟨⟨List.replicate n 0⟩, 1⟩ : W), (⟨⟨wit X n⟩, 1⟩ : W)]) R) (d : Nat) : ∀ (i : Nat), i + d = n →
    Ev (fun k => spec_WitnessFor.l0 k (n : Int) X (i : Int) (List.replicate i 0) (wit X i)) R := by
  induction d with
  | zero =>
    intro i hi
    obtain rfl : i = n := by omega
    exact Ev.step (fun k => by rw [spec_WitnessFor.l0]) (Ev.neg (by omega) (Ev.bind hR (Ev.now _)))
  | succ d ih =>
    intro i hi
    have hh := ih (i + 1) (by omega)
    rw [wit_succ, List.replicate_succ'] at hh
    refine Ev.step (fun k => by rw [spec_WitnessFor.l0]) ?_
    refine Ev.pos (by omega) ?_
    refine Ev.pos (by rw [List.length_replicate]; omega) ?_
    refine Ev.cbind rfl ?_
    refine Ev.bind (has_spec (i : Int) X (by omega)) ?_
    rw [w64 (x := (i : Int) + 1) (by omega) (by omega)]
    by_cases c : (i : Int) ∈ X
    · rw [if_pos c] at hh
      exact Ev.pos (decide_eq_true c) (Ev.pos (by rw [wit_len]; omega) hh)
    · rw [if_neg c] at hh
      exact Ev.neg (by rw [decide_eq_true_eq]; exact c) (Ev.pos (by rw [wit_len]; omega) hh)
/-- The other row, as far as it is told. -/
def part (X : List Int) (n i : Nat) : List Int := (List.range n).map fun k : Nat => if k < i ∧ (k : Int) ∉ X then 1 else 0
theorem part_len (X : List Int) (n i : Nat) : (part X n i).length = n := by simp [part]
theorem part_zero (X : List Int) (n : Nat) : part X n 0 = List.replicate n 0 := by
  refine List.ext_getElem (by simp [part]) (fun j h1 h2 => ?_)
  simp [part]
theorem part_all (X : List Int) (n : Nat) : part X n n = wit X n := by
  refine List.ext_getElem (by simp [part, wit]) (fun j h1 h2 => ?_)
  have hj : j < n := by simpa [part] using h1
  simp only [part, wit, List.getElem_map, List.getElem_range]
  by_cases c : (j : Int) ∈ X
  · rw [if_pos c, if_neg (fun h => h.2 c)]
  · rw [if_neg c, if_pos ⟨hj, c⟩]
theorem part_in (X : List Int) (n i : Nat) (h : (i : Int) ∈ X) : part X n (i + 1) = part X n i := by
  refine List.ext_getElem (by simp [part]) (fun j h1 h2 => ?_)
  simp only [part, List.getElem_map, List.getElem_range]
  by_cases c : j = i
  · subst c
    rw [if_neg (fun q => q.2 h), if_neg (fun q => q.2 h)]
  · by_cases q : j < i ∧ (j : Int) ∉ X
    · rw [if_pos q, if_pos ⟨by omega, q.2⟩]
    · rw [if_neg q, if_neg (fun z => q ⟨by omega, z.2⟩)]
theorem part_out (X : List Int) (n i : Nat) (h : (i : Int) ∉ X) : part X n (i + 1) = (part X n i).set i 1 := by
  refine List.ext_getElem (by simp [part]) (fun j h1 h2 => ?_)
  rw [List.getElem_set]
  simp only [part, List.getElem_map, List.getElem_range]
  by_cases c : i = j
  · subst c
    rw [if_pos rfl, if_pos ⟨by omega, h⟩]
  · rw [if_neg c]
    by_cases q : j < i ∧ (j : Int) ∉ X
    · rw [if_pos q, if_pos ⟨by omega, q.2⟩]
    · rw [if_neg q, if_neg (fun z => q ⟨by omega, z.2⟩)]
theorem has_one {s : Int} {X : List Int} (hr : Rep s X) (i : Int) (h0 : 0 ≤ i) (h6 : i < 6) : (Go.bits .and .i64 s (shl .i64 1 i) == shl .i64 1 i) = decide (i ∈ X) := by
  have ho := one_small i h0 h6
  have hm : ∀ k : Int, k ∈ [i] ↔ (0 ≤ k ∧ k < 6 ∧ bitAt (shl .i64 1 i) k = true) := fun k => by
    constructor
    · intro h
      obtain rfl := List.mem_singleton.1 h
      refine ⟨h0, h6, ?_⟩
      rw [bit_fin h0 h6, ho.2]
      exact decide_eq_true rfl
    · rintro ⟨a, b, c⟩
      rw [bit_fin a b, ho.2] at c
      have c2 : k.toNat = i.toNat := of_decide_eq_true c
      rw [List.mem_singleton]
      omega
  rw [rep_has hr ho.1 hm]
  simp
theorem impl_w {s : Int} {X : List Int} (hr : Rep s X) (n : Nat) (hn : n ≤ 6) (d : Nat) : ∀ (i : Nat), i + d = n →
    Ev (fun k => impl_WitnessFor.l0 k (n : Int) (List.replicate n 0) (part X n i) s (n : Int) (i : Int)) ((n : Int), [(⟨⟨List.replicate n 0⟩, 1⟩ : W), (⟨⟨wit X n⟩, 1⟩ : W)], true) := by
  induction d with
  | zero =>
    intro i hi
    obtain rfl : i = n := by omega
    rw [part_all]
    exact Ev.step (fun k => by rw [impl_WitnessFor.l0]) (Ev.neg (by omega) (Ev.now _))
  | succ d ih =>
    intro i hi
    have hh := ih (i + 1) (by omega)
    refine Ev.step (fun k => by rw [impl_WitnessFor.l0]) (Ev.pos (by omega) (Ev.pos (by omega) (Ev.cbind (has_impl _ _) ?_)))
    rw [has_one hr (i : Int) (by omega) (by omega), w64 (x := (i : Int) + 1) (by omega) (by omega)]
    by_cases c : (i : Int) ∈ X
    · rw [part_in X n i c] at hh
      exact Ev.pos (decide_eq_true c) hh
    · rw [part_out X n i c] at hh
      exact Ev.neg (by rw [decide_eq_true_eq]; exact c) (Ev.pos (by rw [part_len]; omega) hh)
theorem closure_e (D : List S35) (hD : D.length ≤ 1048576) (hs : ∀ d ∈ D, shortD d) (hb : ∀ d ∈ D, below6 d) (n : Int) (hn : n ≤ 6) (e : S35) (he : dependB n e = true) (hse : shortD e) :
    ∃ (s : Int) (x : List Int), Rep s x ∧ Ev (fun k => spec_l7Closure.f k D e.f0) x ∧ Ev (fun k => impl_closure.f k (D.map ruleD) (ruleD e).f0) s ∧
      Ev (fun k => spec_l7Implies.f k D e.f0 e.f1) (e.f1.all (fun k => decide (k ∈ x))) ∧ Ev (fun k => impl_implies.f k (D.map ruleD) (ruleD e).f0 (ruleD e).f1) (e.f1.all (fun k => decide (k ∈ x))) := by
  have hbe := depend_below hn he
  unfold dependB at he
  rw [Bool.and_eq_true] at he
  have hr0 : Rep (orAll 0 e.f0) e.f0 := ⟨(rep_setOf e.f0 hbe.1).1, someAt_nodup he.1, fun k => by rw [← (rep_setOf e.f0 hbe.1).2.2 k, mem_putAll]; simp⟩
  obtain ⟨s, x, hr, h1, h2⟩ := closure_both D hD hs hb 6 _ _ hr0 (by omega)
  have h3 := rep_setOf e.f1 hbe.2
  have hc := rep_has (m := e.f1) hr h3.1 (fun k => by rw [← h3.2.2 k, mem_putAll]; simp)
  have hx := rep_short hr
  have hh := hse.1
  have c1 : Ev (fun k => spec_l7Closure.f k D e.f0) x := by
    unfold spec_l7Closure.f
    simp only [Option.bind_some, List.nil_append, List.length_nil, Nat.zero_add]
    exact Ev.pos (by omega) h1
  have c2 : Ev (fun k => impl_closure.f k (D.map ruleD) (ruleD e).f0) s := by unfold impl_closure.f; exact h2
  refine ⟨s, x, hr, c1, c2, ?_, ?_⟩
  · unfold spec_l7Implies.f
    exact Ev.bind c1 (Ev.bind (all_spec x _ (by omega) (by have := hse.2; omega)) (Ev.now _))
  · unfold impl_implies.f
    exact Ev.bind c2 (Ev.cbind (has_impl _ _) (Ev.eq (Ev.now _) hc))
theorem core : Core := fun x0 h0 x1 h1 x2 h2 => by
  have k0 : x0.length + (x0.map fun y => y.f0.length + y.f1.length).sum ≤ 1048576 := h0
  have k2 : x2.f0.length + x2.f1.length ≤ 1048576 := h2
  have hs : ∀ d ∈ x0, shortD d := fun d hd => by have := sum_mem (fun y : S35 => y.f0.length + y.f1.length) x0 d hd; exact ⟨by omega, by omega⟩
  have hs2 : shortD x2 := ⟨by omega, by omega⟩
  have it : Ev (fun k => impl_Implies.j0 k x0 true x2.f0 x2.f1) (false, false) := Ev.step (fun k => by rw [impl_Implies.j0]) (Ev.pos rfl (Ev.now _))
  have sj : Ev (fun k => spec_WitnessFor.j0 k x0 x1 true x2.f0 x2.f1) (0, [], false) := Ev.step (fun k => by rw [spec_WitnessFor.j0]) (Ev.pos rfl (Ev.now _))
  have ij : Ev (fun k => impl_WitnessFor.j0 k x0 x1 true x2.f0 x2.f1) (0, [], false) := Ev.step (fun k => by rw [impl_WitnessFor.j0]) (Ev.pos rfl (Ev.now _))
  have bad : ∀ _ : Unit, szvLS53 (([] : List W)) ≤ 1099511627776 := fun _ => by simp [szvLS53]
  have no : Ev (fun k => spec_Implies.f k x0 x1 x2.f0 x2.f1) (false, false) → Ev (fun k => impl_Implies.f k x0 x1 x2.f0 x2.f1) (false, false) → ∃ v : Int × (List W) × Bool, Ev (fun k => spec_WitnessFor.f k x0 x1 x2.f0 x2.f1) v ∧ Ev (fun k => impl_WitnessFor.f k x0 x1 x2.f0 x2.f1) v ∧ szvLS53 v.2.1 ≤ 1099511627776 := fun a b => by
    refine ⟨(0, [], false), ?_, ?_, bad ()⟩
    · unfold spec_WitnessFor.f
      exact Ev.bind a (Ev.neg (by decide) sj)
    · unfold impl_WitnessFor.f
      exact Ev.bind b (Ev.neg (by decide) ij)
  by_cases hg : goodDepends x1 x0 = true
  case neg =>
    refine no ?_ ?_
    · unfold spec_Implies.f
      exact Ev.bind (depends_spec _ _ (by omega) hs) (Ev.neg hg (Ev.now _))
    · unfold impl_Implies.f
      exact Ev.bind (depends_impl _ _ (by omega) hs) (Ev.neg hg it)
  by_cases hd : dependB x1 x2 = true
  case neg =>
    refine no ?_ ?_
    · unfold spec_Implies.f
      exact Ev.bind (depends_spec _ _ (by omega) hs) (Ev.pos hg (Ev.bind (depend_spec _ _ hs2) (Ev.neg hd (Ev.now _))))
    · unfold impl_Implies.f
      refine Ev.bind (depends_impl _ _ (by omega) hs) (Ev.pos hg (Ev.bind (depend_impl _ _ hs2) ?_))
      rw [Bool.eq_false_iff.mpr hd]
      exact it
  obtain ⟨hn, hb⟩ := good_depends_below hg
  have hn1 : 1 ≤ x1 := by
    unfold goodDepends at hg
    rw [Bool.and_eq_true, decide_eq_true_eq] at hg
    exact hg.1.1
  obtain ⟨s, X, hr, c1, c2, e1, e2⟩ := closure_e x0 (by omega) hs hb x1 hn x2 hd hs2
  obtain ⟨b, hbq⟩ : ∃ b, x2.f1.all (fun k => decide (k ∈ X)) = b := ⟨_, rfl⟩
  rw [hbq] at e1 e2
  have s1 : Ev (fun k => spec_Implies.f k x0 x1 x2.f0 x2.f1) (b, true) := by
    unfold spec_Implies.f
    exact Ev.bind (depends_spec _ _ (by omega) hs) (Ev.pos hg (Ev.bind (depend_spec _ _ hs2) (Ev.pos hd (Ev.bind e1 (Ev.now _)))))
  have i1 : Ev (fun k => impl_Implies.f k x0 x1 x2.f0 x2.f1) (b, true) := by
    unfold impl_Implies.f
    refine Ev.bind (depends_impl _ _ (by omega) hs) (Ev.pos hg (Ev.bind (depend_impl _ _ hs2) ?_))
    rw [hd]
    refine Ev.step (fun k => by rw [impl_Implies.j0]) (Ev.neg (by simp) ?_)
    exact Ev.bind (rulesOf_impl x0 (by omega) hs hb) (Ev.bind (ruleOf_impl x2 hs2 (depend_below hn hd)) (Ev.bind e2 (Ev.now _)))
  cases b with
  | true =>
    refine ⟨(0, [], false), ?_, ?_, bad ()⟩
    · unfold spec_WitnessFor.f
      exact Ev.bind s1 (Ev.pos rfl sj)
    · unfold impl_WitnessFor.f
      exact Ev.bind i1 (Ev.pos rfl ij)
  | false =>
    obtain ⟨n, rfl⟩ := Int.eq_ofNat_of_zero_le (show 0 ≤ x1 by omega)
    have hn6 : n ≤ 6 := by omega
    have hX := rep_short hr
    have hx : ∃ k : Nat, k < n ∧ (k : Int) ∉ X := by
      obtain ⟨k, hk, hkx⟩ : ∃ k ∈ x2.f1, k ∉ X := by
        apply Classical.byContradiction
        intro h
        have : x2.f1.all (fun k => decide (k ∈ X)) = true := List.all_eq_true.2 (fun k hk => decide_eq_true (Classical.byContradiction (fun q => h ⟨k, hk, q⟩)))
        rw [hbq] at this
        cases this
      unfold dependB at hd
      rw [Bool.and_eq_true] at hd
      have := some_mem hd.2 k hk
      obtain ⟨j, rfl⟩ := Int.eq_ofNat_of_zero_le this.1
      exact ⟨j, by omega, hkx⟩
    have hgt := two_good X n hn6 hx
    have hrow : ∀ i : Int, (rd_T53 [(⟨⟨List.replicate n 0⟩, 1⟩ : W), (⟨⟨wit X n⟩, 1⟩ : W)] i).f0.f0.length ≤ 1048576 := fun i =>
      rd_rows _ 1048576 (fun x hx => by
        rcases List.mem_cons.1 hx with rfl | hx
        · show (List.replicate n 0).length ≤ _; rw [List.length_replicate]; omega
        · rw [List.mem_singleton.1 hx]; show (wit X n).length ≤ _; rw [wit_len]; omega) i
    have ht := tell_ev (n : Int) [(⟨⟨List.replicate n 0⟩, 1⟩ : W), (⟨⟨wit X n⟩, 1⟩ : W)] (by show 2 ≤ _; decide) hrow
    rw [if_pos hgt] at ht
    have hsw := spec_w X (by omega) n hn6 _ ht n 0 (by omega)
    have hiw := impl_w hr n hn6 n 0 (by omega)
    rw [part_zero] at hiw
    refine ⟨((n : Int), [(⟨⟨List.replicate n 0⟩, 1⟩ : W), (⟨⟨wit X n⟩, 1⟩ : W)], true), ?_, ?_, ?_⟩
    · unfold spec_WitnessFor.f
      refine Ev.bind s1 (Ev.neg (by decide) ?_)
      refine Ev.step (fun k => by rw [spec_WitnessFor.j0]) (Ev.neg (by decide) (Ev.bind c1 ?_))
      exact hsw
    · unfold impl_WitnessFor.f
      refine Ev.bind i1 (Ev.pos rfl ?_)
      have hset : Ev (fun k => impl_setOf.f k x2.f0) (ruleD x2).f0 := setOf_impl _ (by have := hs2.1; omega) (fun k hk => ((depend_below hn hd).1 k hk).1)
      refine Ev.step (fun k => by rw [impl_WitnessFor.j0]) (Ev.neg (by decide) (Ev.pos (by omega) (Ev.pos (by omega) (Ev.cbind rfl ?_))))
      refine Ev.bind (rulesOf_impl x0 (by omega) hs hb) (Ev.bind hset (Ev.bind c2 ?_))
      rw [Int.toNat_natCast, List.length_replicate]
      exact hiw
    · show (2 : Nat) + _ ≤ _
      simp [wit_len, szvS53, szvS49]
      omega
theorem FnExactWitnessFor : laws_FnExactWitnessFor.Pure := law core

end Go.Proofs.Ytaddemalepndfah.Pure
