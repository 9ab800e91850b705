/- The closure of columns: as lists in the reference, as bits in the program: both come to the same set. No conditions. -/
import Derived.Test.YtaddemalepndfahG3
import Derived.Test.YtaddemalepndfahG10
import Derived.Test.YtaddemalepndfahG9
import Derived.Test.YtaddemalepndfahQSets
import Derived.Test.YtaddemalepndfahQDepend
namespace Go.Proofs.Ytaddemalepndfah.Pure
open Go.RowKit Go.Proofs.Ytaddemalepndfah.G Go.Proofs.Ytaddemalepndfah.X Go.Proofs.YtaddemalepndfahW.PrintWords Go.Proofs.YtaddemalepndfahW.PrintLast
set_option linter.unusedVariables false

theorem all_spec_l (x l : List Int) (hx : x.length ≤ 9223372036854775806) (hl : l.length ≤ 9223372036854775806) (d : Nat) : ∀ (i : Nat), i + d = l.length →
    Ev (fun k => spec_l7All.l0 k x l (l.length : Int) (i : Int)) ((l.drop i).all (fun k => decide (k ∈ x))) := by
  induction d with
  | zero =>
    intro i hi
    rw [List.drop_of_length_le (by omega)]
    exact Ev.step (fun k => by rw [spec_l7All.l0]) (Ev.neg (by omega) (Ev.eq (Ev.now true) rfl))
  | succ d ih =>
    intro i hi
    have hlt : i < l.length := by omega
    rw [drop_cons hlt, List.all_cons]
    refine Ev.step (fun k => by rw [spec_l7All.l0]) (Ev.pos (by omega) (Ev.pos (by omega) (Ev.pos (by omega) ?_)))
    rw [rd_lt hlt, w64 (x := (i : Int) + 1) (by omega) (by omega)]
    refine Ev.bind (has_spec l[i] x hx) ?_
    by_cases h : l[i] ∈ x
    · exact Ev.pos (decide_eq_true h) (Ev.eq (ih (i + 1) (by omega)) (by rw [decide_eq_true h]; rfl))
    · exact Ev.neg (by simpa using h) (Ev.eq (Ev.now false) (by rw [decide_eq_false h]; rfl))
theorem all_spec (x l : List Int) (hx : x.length ≤ 9223372036854775806) (hl : l.length ≤ 9223372036854775806) : Ev (fun k => spec_l7All.f k x l) (l.all (fun k => decide (k ∈ x))) := by
  unfold spec_l7All.f
  exact all_spec_l x l hx hl l.length 0 (by omega)
theorem has_impl (a b : Int) : impl_set_has.f a b = some (Go.bits .and .i64 a b == b) := rfl

/-- A good dependency: its columns lie below six. -/
def below6 (d : S35) : Prop := (∀ k ∈ d.f0, 0 ≤ k ∧ k < 6) ∧ (∀ k ∈ d.f1, 0 ≤ k ∧ k < 6)
def ruleD (d : S35) : S72 := ⟨orAll 0 d.f0, orAll 0 d.f1⟩
theorem depend_below {n : Int} {d : S35} (hn : n ≤ 6) (h : dependB n d = true) : below6 d := by
  unfold dependB at h
  rw [Bool.and_eq_true] at h
  exact ⟨fun k hk => by have := some_mem h.1 k hk; omega, fun k hk => by have := some_mem h.2 k hk; omega⟩
/-- One round: all dependencies, one by one. -/
def stepL (x : List Int) (d : S35) : List Int := if d.f0.all (fun k => decide (k ∈ x)) = true then putAll x d.f1 else x
def stepS (s : Int) (r : S72) : Int := if (Go.bits .and .i64 s r.f0 == r.f0) = true then Go.bits .or .i64 s r.f1 else s
def passL (D : List S35) (x : List Int) : List Int := D.foldl stepL x
def passS (R : List S72) (s : Int) : Int := R.foldl stepS s
theorem mem_stepL (x : List Int) (d : S35) : ∀ k ∈ x, k ∈ stepL x d := by
  intro k hk
  unfold stepL
  split
  · exact (mem_putAll _ _ _).2 (.inl hk)
  · exact hk
theorem mem_passL : ∀ (D : List S35) (x : List Int), ∀ k ∈ x, k ∈ passL D x
  | [], x, k, hk => hk
  | d :: D, x, k, hk => mem_passL D (stepL x d) k (mem_stepL x d k hk)
theorem rep_step {s : Int} {x : List Int} (h : Rep s x) (d : S35) (hd : below6 d) : Rep (stepS s (ruleD d)) (stepL x d) := by
  have h0 := rep_setOf d.f0 hd.1
  have hc := rep_has (m := d.f0) h h0.1 (fun k => by rw [← h0.2.2 k, mem_putAll]; simp)
  unfold stepS stepL
  rw [show (ruleD d).f0 = orAll 0 d.f0 from rfl, hc]
  by_cases c : d.f0.all (fun k => decide (k ∈ x)) = true
  · rw [if_pos c, if_pos c]
    have h1 := rep_setOf d.f1 hd.2
    have h2 := rep_putAll d.f1 x s h hd.2
    exact rep_or h h1 h2.2.1 (fun k => by rw [mem_putAll, mem_putAll]; simp)
  · rw [if_neg c, if_neg c]; exact h
theorem rep_pass : ∀ (D : List S35) (s : Int) (x : List Int), Rep s x → (∀ d ∈ D, below6 d) → Rep (passS (D.map ruleD) s) (passL D x)
  | [], s, x, h, _ => h
  | d :: D, s, x, h, hD => rep_pass D _ _ (rep_step h d (hD d List.mem_cons_self)) (fun e he => hD e (List.mem_cons_of_mem _ he))

theorem inner_put (D : List S35) (n6 : Int) (D' : List S35) (N i0 : Int) (l : List Int) (hl : l.length ≤ 1048576) (y : List Int) (d : Nat) : ∀ (i : Nat) (x : List Int), i + d = l.length → x.length + d ≤ 1099511627776 →
    Ev (fun k => spec_l7Closure.l1 k D (putAll x (l.drop i)) n6 D' N (wrap64 (i0 + 1))) y →
    Ev (fun k => spec_l7Closure.l2 k D x n6 D' N i0 l (l.length : Int) (i : Int)) y := by
  induction d with
  | zero =>
    intro i x hi hx h
    rw [List.drop_of_length_le (by omega), show putAll x [] = x from rfl] at h
    exact Ev.step (fun k => by rw [spec_l7Closure.l2]) (Ev.neg (by omega) h)
  | succ d ih =>
    intro i x hi hx h
    have hlt : i < l.length := by omega
    rw [drop_cons hlt] at h
    refine Ev.step (fun k => by rw [spec_l7Closure.l2]) (Ev.pos (by omega) (Ev.pos (by omega) (Ev.pos (by omega) ?_)))
    rw [rd_lt hlt, w64 (x := (i : Int) + 1) (by omega) (by omega)]
    have := len_put_le x l[i]
    exact Ev.bind (put_spec l[i] x (by omega)) (ih (i + 1) _ (by omega) (by omega) h)
theorem pass_spec (D : List S35) (hD : D.length ≤ 1048576) (hs : ∀ d ∈ D, shortD d) (hb : ∀ d ∈ D, below6 d) (n6 : Int) (y : List Int) (d : Nat) : ∀ (i : Nat) (s : Int) (x : List Int), i + d = D.length → Rep s x →
    (Ev (fun k => if ((passL (D.drop i) x).length : Int) = n6 then some (passL (D.drop i) x) else spec_l7Closure.l0 k D (passL (D.drop i) x)) y) →
    Ev (fun k => spec_l7Closure.l1 k D x n6 D (D.length : Int) (i : Int)) y := by
  induction d with
  | zero =>
    intro i s x hi hr h
    rw [List.drop_of_length_le (by omega), show passL [] x = x from rfl] at h
    exact Ev.step (fun k => by rw [spec_l7Closure.l1]) (Ev.neg (by omega) h)
  | succ d ih =>
    intro i s x hi hr h
    have hlt : i < D.length := by omega
    have hm := List.getElem_mem hlt
    have hsh := hs _ hm
    have hx := rep_short hr
    rw [drop_cons hlt] at h
    refine Ev.step (fun k => by rw [spec_l7Closure.l1]) (Ev.pos (by omega) (Ev.pos (by omega) (Ev.pos (by omega) ?_)))
    rw [rdD_lt hlt]
    have hrs := rep_step hr D[i] (hb _ hm)
    have hn := ih (i + 1) _ (stepL x D[i]) (by omega) hrs h
    refine Ev.bind (all_spec x _ (by omega) (by have := hsh.1; omega)) ?_
    by_cases c : D[i].f0.all (fun k => decide (k ∈ x)) = true
    · refine Ev.pos c ?_
      have e : stepL x D[i] = putAll x D[i].f1 := if_pos c
      rw [e] at hn
      refine inner_put D n6 D _ _ _ hsh.2 y D[i].f1.length 0 x (by omega) (by have := hsh.2; omega) ?_
      rw [w64 (x := (i : Int) + 1) (by omega) (by omega)]
      exact hn
    · refine Ev.neg c ?_
      have e : stepL x D[i] = x := if_neg c
      rw [e] at hn
      rw [w64 (x := (i : Int) + 1) (by omega) (by omega)]
      exact hn
theorem rdRule_lt {l : List S72} {i : Nat} (h : i < l.length) : rd_T72 l (i : Int) = l[i] := by simp [rd_T72, h]
theorem pass_impl (R : List S72) (hR : R.length ≤ 1048576) (s0 y : Int) (d : Nat) : ∀ (i : Nat) (s : Int), i + d = R.length →
    (Ev (fun k => if passS (R.drop i) s = s0 then some s0 else impl_closure.l0 k R (passS (R.drop i) s)) y) →
    Ev (fun k => impl_closure.l1 k R s0 s R (R.length : Int) (i : Int)) y := by
  induction d with
  | zero =>
    intro i s hi h
    rw [List.drop_of_length_le (by omega), show passS [] s = s from rfl] at h
    exact Ev.step (fun k => by rw [impl_closure.l1]) (Ev.neg (by omega) h)
  | succ d ih =>
    intro i s hi h
    have hlt : i < R.length := by omega
    rw [drop_cons hlt] at h
    have hn := ih (i + 1) (stepS s R[i]) (by omega) h
    refine Ev.step (fun k => by rw [impl_closure.l1]) (Ev.pos (by omega) (Ev.pos (by omega) (Ev.pos (by omega) ?_)))
    rw [rdRule_lt hlt, w64 (x := (i : Int) + 1) (by omega) (by omega)]
    refine Ev.cbind (has_impl _ _) ?_
    by_cases c : (Go.bits .and .i64 s R[i].f0 == R[i].f0) = true
    · refine Ev.pos c ?_
      rwa [show stepS s R[i] = Go.bits .or .i64 s R[i].f1 from if_pos c] at hn
    · refine Ev.neg c ?_
      rwa [show stepS s R[i] = s from if_neg c] at hn
/-- Both closures come to an end, and stand for the same set. -/
theorem closure_both (D : List S35) (hD : D.length ≤ 1048576) (hs : ∀ d ∈ D, shortD d) (hb : ∀ d ∈ D, below6 d) (m : Nat) : ∀ (s : Int) (x : List Int), Rep s x → 6 ≤ m + x.length →
    ∃ s' x', Rep s' x' ∧ Ev (fun k => spec_l7Closure.l0 k D x) x' ∧ Ev (fun k => impl_closure.l0 k (D.map ruleD) s) s' := by
  induction m with
  | zero =>
    intro s x hr hm
    have hp := rep_pass D s x hr hb
    have hg := rep_grow hr hp (mem_passL D x)
    have hx := rep_short hp
    have he : x.length = (passL D x).length := by omega
    have hse := hg.1.1 he
    refine ⟨s, passL D x, by rw [hse] at hp; exact hp, ?_, ?_⟩
    · refine Ev.step (f := fun k => spec_l7Closure.l1 k D x (x.length : Int) D (D.length : Int) 0) (fun k => by rw [spec_l7Closure.l0]) (pass_spec D hD hs hb (x.length : Int) _ D.length 0 s x (by omega) hr ?_)
      rw [List.drop_zero]
      exact Ev.pos (by omega) (Ev.now _)
    · refine Ev.step (f := fun k => impl_closure.l1 k (D.map ruleD) s s (D.map ruleD) ((D.map ruleD).length : Int) 0) (fun k => by rw [impl_closure.l0]) ?_
      refine pass_impl (D.map ruleD) (by simpa using hD) s s (D.map ruleD).length 0 s (by omega) ?_
      rw [List.drop_zero]
      exact Ev.pos hse (Ev.now _)
  | succ m ih =>
    intro s x hr hm
    have hp := rep_pass D s x hr hb
    have hg := rep_grow hr hp (mem_passL D x)
    by_cases he : x.length = (passL D x).length
    · have hse := hg.1.1 he
      refine ⟨s, passL D x, by rw [hse] at hp; exact hp, ?_, ?_⟩
      · refine Ev.step (f := fun k => spec_l7Closure.l1 k D x (x.length : Int) D (D.length : Int) 0) (fun k => by rw [spec_l7Closure.l0]) (pass_spec D hD hs hb (x.length : Int) _ D.length 0 s x (by omega) hr ?_)
        rw [List.drop_zero]
        exact Ev.pos (by omega) (Ev.now _)
      · refine Ev.step (f := fun k => impl_closure.l1 k (D.map ruleD) s s (D.map ruleD) ((D.map ruleD).length : Int) 0) (fun k => by rw [impl_closure.l0]) ?_
        refine pass_impl (D.map ruleD) (by simpa using hD) s s (D.map ruleD).length 0 s (by omega) ?_
        rw [List.drop_zero]
        exact Ev.pos hse (Ev.now _)
    · obtain ⟨s', x', hr', h1, h2⟩ := ih _ _ hp (by have := hg.2; omega)
      refine ⟨s', x', hr', ?_, ?_⟩
      · refine Ev.step (f := fun k => spec_l7Closure.l1 k D x (x.length : Int) D (D.length : Int) 0) (fun k => by rw [spec_l7Closure.l0]) (pass_spec D hD hs hb (x.length : Int) _ D.length 0 s x (by omega) hr ?_)
        rw [List.drop_zero]
        exact Ev.neg (by omega) h1
      · refine Ev.step (f := fun k => impl_closure.l1 k (D.map ruleD) s s (D.map ruleD) ((D.map ruleD).length : Int) 0) (fun k => by rw [impl_closure.l0]) ?_
        refine pass_impl (D.map ruleD) (by simpa using hD) s s' (D.map ruleD).length 0 s (by omega) ?_
        rw [List.drop_zero]
        exact Ev.neg (fun e => he (hg.1.2 e)) h2

theorem rulesOf_impl_l (D : List S35) (hD : D.length ≤ 1048576) (hs : ∀ d ∈ D, shortD d) (hb : ∀ d ∈ D, below6 d) (d : Nat) : ∀ (i : Nat) (R : List S72), i + d = D.length → R.length = i →
    Ev (fun k => impl_rulesOf.l0 k R D (D.length : Int) (i : Int)) (R ++ (D.drop i).map ruleD) := by
  induction d with
  | zero =>
    intro i R hi hR
    rw [List.drop_of_length_le (by omega)]
    exact Ev.step (fun k => by rw [impl_rulesOf.l0]) (Ev.neg (by omega) (Ev.eq (Ev.now _) (by simp)))
  | succ d ih =>
    intro i R hi hR
    have hlt : i < D.length := by omega
    have hm := List.getElem_mem hlt
    have hsh := hs _ hm
    have hbe := hb _ hm
    rw [drop_cons hlt]
    refine Ev.step (fun k => by rw [impl_rulesOf.l0]) (Ev.pos (by omega) (Ev.pos (by omega) (Ev.pos (by omega) ?_)))
    rw [rdD_lt hlt, w64 (x := (i : Int) + 1) (by omega) (by omega)]
    refine Ev.bind (setOf_impl _ (by have := hsh.1; omega) (fun k hk => (hbe.1 k hk).1)) (Ev.bind (setOf_impl _ (by have := hsh.2; omega) (fun k hk => (hbe.2 k hk).1)) (Ev.pos (by omega) ?_))
    refine Ev.eq (ih (i + 1) _ (by omega) (by simp [hR])) ?_
    rw [List.map_cons, List.append_assoc]
    rfl
theorem rulesOf_impl (D : List S35) (hD : D.length ≤ 1048576) (hs : ∀ d ∈ D, shortD d) (hb : ∀ d ∈ D, below6 d) : Ev (fun k => impl_rulesOf.f k D) (D.map ruleD) := by
  unfold impl_rulesOf.f
  exact rulesOf_impl_l D hD hs hb D.length 0 [] (by omega) rfl
theorem someAt_nodup {n : Int} {l : List Int} (h : someB n l = true) : l.Nodup := by
  have hr : ∀ i : Nat, (hi : i + 1 < l.length) → l[i] < l[i + 1] := by
    intro i hi
    have := List.all_eq_true.1 h (i + 1) (by rw [List.mem_range']; exact ⟨i + 1, hi, by omega⟩)
    unfold someAt at this
    rw [Bool.and_eq_true, Bool.or_eq_true, rd_lt hi] at this
    have h2 := this.2
    rw [decide_eq_true_eq, decide_eq_true_eq, show (((i + 1 : Nat) : Int) - 1) = (i : Int) by omega, rd_lt (by omega : i < l.length)] at h2
    omega
  have hrr : ∀ (j i : Nat) (hij : i < j) (hj : j < l.length), l[i]'(by omega) < l[j] := by
    intro j
    induction j with
    | zero => intro i hi; omega
    | succ j ih =>
      intro i hi hj
      by_cases e : i = j
      · subst e; exact hr i hj
      · have h1 := ih i (by omega) (by omega)
        have h2 := hr j hj
        omega
  rw [List.nodup_iff_pairwise_ne, List.pairwise_iff_getElem]
  intro i j hi hj hij
  have := hrr j i hij hj
  omega
/-- What a dependency implies: the reference's answer and the program's. -/
theorem implies_both (D : List S35) (hD : D.length ≤ 1048576) (hs : ∀ d ∈ D, shortD d) (hb : ∀ d ∈ D, below6 d) (n : Int) (hn : n ≤ 6) (e : S35) (he : dependB n e = true) (hse : shortD e) :
    ∃ b : Bool, Ev (fun k => spec_l7Implies.f k D e.f0 e.f1) b ∧ Ev (fun k => impl_implies.f k (D.map ruleD) (ruleD e).f0 (ruleD e).f1) b := by
  have hbe := depend_below hn he
  unfold dependB at he
  rw [Bool.and_eq_true] at he
  have hr0 : Rep (orAll 0 e.f0) e.f0 := ⟨(rep_setOf e.f0 hbe.1).1, someAt_nodup he.1, fun k => by rw [← (rep_setOf e.f0 hbe.1).2.2 k, mem_putAll]; simp⟩
  obtain ⟨s, x, hr, h1, h2⟩ := closure_both D hD hs hb 6 _ _ hr0 (by omega)
  have h3 := rep_setOf e.f1 hbe.2
  have hc := rep_has (m := e.f1) hr h3.1 (fun k => by rw [← h3.2.2 k, mem_putAll]; simp)
  refine ⟨e.f1.all (fun k => decide (k ∈ x)), ?_, ?_⟩
  · unfold spec_l7Implies.f spec_l7Closure.f
    simp only [Option.bind_some, List.nil_append, List.length_nil, Nat.zero_add]
    have hx := rep_short hr
    have hh := hse.1
    have h1' : Ev (fun k => if e.f0.length < 17592186044416 then spec_l7Closure.l0 k D e.f0 else none) x := Ev.pos (by omega) h1
    refine Ev.bind h1' (Ev.bind (all_spec x _ (by omega) (by have := hse.2; omega)) (Ev.now _))
  · unfold impl_implies.f impl_closure.f
    refine Ev.bind h2 (Ev.cbind (has_impl _ _) (Ev.eq (Ev.now _) ?_))
    exact hc
theorem ruleOf_impl (e : S35) (hse : shortD e) (hbe : below6 e) : Ev (fun k => impl_ruleOf.f k e.f0 e.f1) ((ruleD e).f0, (ruleD e).f1) := by
  unfold impl_ruleOf.f
  exact Ev.bind (setOf_impl _ (by have := hse.1; omega) (fun k hk => (hbe.1 k hk).1)) (Ev.bind (setOf_impl _ (by have := hse.2; omega) (fun k hk => (hbe.2 k hk).1)) (Ev.now _))
theorem good_depends_below {n : Int} {D : List S35} (h : goodDepends n D = true) : n ≤ 6 ∧ ∀ d ∈ D, below6 d := by
  unfold goodDepends at h
  rw [Bool.and_eq_true, Bool.and_eq_true, decide_eq_true_eq, decide_eq_true_eq, List.all_eq_true] at h
  exact ⟨h.1.2, fun d hd => depend_below h.1.2 (h.2.2 d hd)⟩

end Go.Proofs.Ytaddemalepndfah.Pure
