/- Parts of columns: both ask the same of good ones. No conditions. -/
import Derived.Test.YtmelechhnimlnadG2
import Derived.Test.YtmelechhnimlnadG10
import Derived.Test.YtmelechhnimlnadG9
import Derived.Test.YtmelechhnimlnadQSets
namespace Go.Proofs.Ytmelechhnimlnad.Pure
open Go.RowKit Go.Proofs.Ytmelechhnimlnad.G Go.Proofs.Ytmelechhnimlnad.X Go.Proofs.YtmelechhnimlnadW.PrintWords Go.Proofs.YtmelechhnimlnadW.PrintLast
set_option linter.unusedVariables false

theorem inP_spec (a b c : Int) : spec_l1In.f a b c = some (decide (b ≤ a ∧ a ≤ c)) := by
  unfold spec_l1In.f
  by_cases h : a ≥ b
  · rw [if_pos h]; simp [h]
  · rw [if_neg h]; simp; omega
theorem inP_impl (a b c : Int) : impl_within.f a b c = some (decide (b ≤ a ∧ a ≤ c)) := by
  unfold impl_within.f
  by_cases h : b ≤ a
  · rw [if_pos h]; simp [h]
  · rw [if_neg h]; simp [h]
theorem rdP_lt {l : List (List Int)} {i : Nat} (h : i < l.length) : rd_L1 l (i : Int) = l[i] := by simp [rd_L1, h]
def partB (n : Int) (p : List Int) : Bool := someB n p && decide (0 < p.length)
def putParts (acc : List Int) (ps : List (List Int)) : List Int := ps.foldl putAll acc
def orParts (s : Int) (ps : List (List Int)) : Int := ps.foldl (fun s p => Go.bits .or .i64 s (orAll 0 p)) s
def sumLen (ps : List (List Int)) : Nat := (ps.map List.length).sum
theorem sumLen_cons (p : List Int) (ps : List (List Int)) : sumLen (p :: ps) = p.length + sumLen ps := by simp [sumLen]
def okN (n : Int) (L : Nat) : Bool := decide (1 ≤ n ∧ n ≤ 6) && decide (1 ≤ L ∧ L ≤ 8)
def partsR (n : Int) (L : Nat) (acc : List Int) (ps : List (List Int)) : Bool := ps.all (partB n) && (okN n L && (((putParts acc ps).length : Int) == n))

theorem parts_inner (x0 : List (List Int)) (n : Int) (x10 : List (List Int)) (N i0 : Int) (p : List Int) (hp : p.length ≤ 1048576) (r : Bool) (d : Nat) : ∀ (i : Nat) (acc : List Int), i + d = p.length → acc.length + d ≤ 1099511627776 →
    Ev (fun k => spec_GoodParts.l0 k x0 n (putAll acc (p.drop i)) x10 N (wrap64 (i0 + 1))) r →
    Ev (fun k => spec_GoodParts.l1 k x0 n acc x10 N i0 p (p.length : Int) (i : Int)) r := by
  induction d with
  | zero =>
    intro i acc hi ha h
    rw [List.drop_of_length_le (by omega), show putAll acc [] = acc from rfl] at h
    exact Ev.step (fun k => by rw [spec_GoodParts.l1]) (Ev.neg (by omega) h)
  | succ d ih =>
    intro i acc hi ha h
    have hlt : i < p.length := by omega
    rw [drop_cons hlt] at h
    have := len_put_le acc p[i]
    refine Ev.step (fun k => by rw [spec_GoodParts.l1]) (Ev.pos (by omega) (Ev.pos (by omega) (Ev.pos (by omega) ?_)))
    rw [rd_lt hlt, w64 (x := (i : Int) + 1) (by omega) (by omega)]
    exact Ev.bind (put_spec _ _ (by omega)) (ih (i + 1) _ (by omega) (by omega) h)
theorem parts_spec_l (n : Int) (ps : List (List Int)) (hL : ps.length ≤ 1048576) (hl : ∀ p ∈ ps, p.length ≤ 1048576) (d : Nat) : ∀ (i : Nat) (acc : List Int), i + d = ps.length → acc.length + sumLen (ps.drop i) ≤ 1048576 →
    Ev (fun k => spec_GoodParts.l0 k ps n acc ps (ps.length : Int) (i : Int)) (partsR n ps.length acc (ps.drop i)) := by
  induction d with
  | zero =>
    intro i acc hi ha
    rw [List.drop_of_length_le (by omega)]
    refine Ev.step (fun k => by rw [spec_GoodParts.l0]) (Ev.neg (by omega) (Ev.cbind (inP_spec _ _ _) ?_))
    unfold partsR okN
    by_cases h1 : 1 ≤ n ∧ n ≤ 6
    · refine Ev.pos (decide_eq_true h1) (Ev.cbind (inP_spec _ _ _) ?_)
      by_cases h2 : 1 ≤ ps.length ∧ ps.length ≤ 8
      · refine Ev.pos (decide_eq_true (by omega)) (Ev.eq (Ev.now _) ?_)
        rw [decide_eq_true h1, decide_eq_true h2]; rfl
      · refine Ev.neg (by rw [decide_eq_true_eq]; omega) (Ev.eq (Ev.now _) ?_)
        rw [decide_eq_false h2]; simp
    · refine Ev.neg (by simpa using h1) (Ev.eq (Ev.now _) ?_)
      rw [decide_eq_false h1]; simp
  | succ d ih =>
    intro i acc hi ha
    have hlt : i < ps.length := by omega
    have hpl := hl _ (List.getElem_mem hlt)
    rw [drop_cons hlt, sumLen_cons] at ha
    rw [drop_cons hlt]
    have ha' := ha
    have e1 : partsR n ps.length acc (ps[i] :: ps.drop (i + 1)) = (partB n ps[i] && partsR n ps.length (putAll acc ps[i]) (ps.drop (i + 1))) := by
      unfold partsR
      rw [List.all_cons, Bool.and_assoc]; rfl
    rw [e1]
    refine Ev.step (fun k => by rw [spec_GoodParts.l0]) (Ev.pos (by omega) (Ev.pos (by omega) (Ev.pos (by omega) ?_)))
    rw [rdP_lt hlt]
    refine Ev.bind (some_spec n ps[i] (by omega)) ?_
    unfold partB
    by_cases h : someB n ps[i] = true
    · refine Ev.pos h ?_
      rw [h, Bool.true_and]
      by_cases h0 : 0 < ps[i].length
      · rw [show ((ps[i].length : Int) == 0) = false by simp; exact List.ne_nil_of_length_pos h0, decide_eq_true h0, Bool.true_and]
        refine Ev.step (fun k => by rw [spec_GoodParts.j1]) (Ev.neg (by simp) ?_)
        refine parts_inner ps n ps _ _ ps[i] hpl _ ps[i].length 0 acc (by omega) (by omega) ?_
        rw [List.drop_zero, w64 (x := (i : Int) + 1) (by omega) (by omega)]
        have := len_putAll_le ps[i] acc
        exact ih (i + 1) _ (by omega) (by omega)
      · rw [show ((ps[i].length : Int) == 0) = true by simp; exact List.length_eq_zero_iff.1 (by omega), decide_eq_false h0, Bool.false_and]
        exact Ev.step (fun k => by rw [spec_GoodParts.j1]) (Ev.pos rfl (Ev.now _))
    · refine Ev.neg h ?_
      rw [Bool.eq_false_iff.mpr h, Bool.false_and, Bool.false_and]
      exact Ev.step (fun k => by rw [spec_GoodParts.j1]) (Ev.pos rfl (Ev.now _))
theorem parts_spec (n : Int) (ps : List (List Int)) (hL : ps.length + sumLen ps ≤ 1048576) (hl : ∀ p ∈ ps, p.length ≤ 1048576) : Ev (fun k => spec_GoodParts.f k ps n) (partsR n ps.length [] ps) := by
  unfold spec_GoodParts.f
  exact parts_spec_l n ps (by omega) hl ps.length 0 [] (by omega) (by simp; omega)
theorem isPart_impl (n : Int) (p : List Int) (hp : p.length ≤ 1048576) : Ev (fun k => impl_isPart.f k p n) (partB n p) := by
  unfold impl_isPart.f partB
  by_cases h0 : 0 < p.length
  · exact Ev.pos (by omega) (Ev.bind (some_impl n p (by omega)) (Ev.eq (Ev.now _) (by rw [decide_eq_true h0, Bool.and_true])))
  · exact Ev.neg (by omega) (Ev.eq (Ev.now _) (by rw [decide_eq_false h0, Bool.and_false]))
theorem parts_impl_l (n : Int) (h0 : 1 ≤ n) (h6 : n ≤ 6) (ps : List (List Int)) (hL : ps.length ≤ 8) (hl : ∀ p ∈ ps, p.length ≤ 1048576) (d : Nat) : ∀ (i : Nat) (s : Int), i + d = ps.length →
    Ev (fun k => impl_GoodParts.l0 k n s ps (ps.length : Int) (i : Int)) ((ps.drop i).all (partB n) && (orParts s (ps.drop i) == wrap64 (shl .i64 1 n - 1))) := by
  induction d with
  | zero =>
    intro i s hi
    rw [List.drop_of_length_le (by omega)]
    refine Ev.step (fun k => by rw [impl_GoodParts.l0]) (Ev.neg (by omega) ?_)
    have e : impl_whole.f n = some (wrap64 (shl .i64 1 n - 1)) := by unfold impl_whole.f; rw [if_pos (by omega)]
    exact Ev.cbind e (Ev.eq (Ev.now _) (by simp [orParts]))
  | succ d ih =>
    intro i s hi
    have hlt : i < ps.length := by omega
    have hpl := hl _ (List.getElem_mem hlt)
    rw [drop_cons hlt, List.all_cons]
    refine Ev.step (fun k => by rw [impl_GoodParts.l0]) (Ev.pos (by omega) (Ev.pos (by omega) (Ev.pos (by omega) ?_)))
    rw [rdP_lt hlt, w64 (x := (i : Int) + 1) (by omega) (by omega)]
    refine Ev.bind (isPart_impl n ps[i] hpl) ?_
    by_cases h : partB n ps[i] = true
    · have hs : someB n ps[i] = true := by unfold partB at h; rw [Bool.and_eq_true] at h; exact h.1
      refine Ev.pos h (Ev.bind (setOf_impl _ (by omega) (fun k hk => (some_mem hs k hk).1)) ?_)
      rw [h, Bool.true_and]
      exact ih (i + 1) _ (by omega)
    · exact Ev.neg h (Ev.eq (Ev.now _) (by rw [Bool.eq_false_iff.mpr h]; rfl))
/-- The reference's list has all columns where the program's bits are all. -/
theorem parts_same (n : Int) (h0 : 1 ≤ n) (h6 : n ≤ 6) : ∀ (ps : List (List Int)) (s : Int) (acc : List Int), Rep s acc → (∀ k ∈ acc, k < n) → ps.all (partB n) = true →
    (orParts s ps == wrap64 (shl .i64 1 n - 1)) = (((putParts acc ps).length : Int) == n)
  | [], s, acc, hr, hn, _ => by
    have := whole_small n h0 h6 s hr.1 (fun j hj => hn _ ((hr.2.2 _).2 ⟨by omega, by have := j.isLt; omega, hj⟩))
    rw [show orParts s [] = s from rfl, this, show putParts acc [] = acc from rfl, rep_len hr]
  | p :: ps, s, acc, hr, hn, ha => by
    rw [List.all_cons, Bool.and_eq_true] at ha
    have hs : someB n p = true := by have := ha.1; unfold partB at this; rw [Bool.and_eq_true] at this; exact this.1
    have hm := some_mem hs
    have hb : ∀ k ∈ p, 0 ≤ k ∧ k < 6 := fun k hk => by have := hm k hk; omega
    have h1 := rep_setOf p hb
    have h2 := rep_putAll p acc s hr hb
    have h3 := rep_or hr h1 h2.2.1 (fun k => by rw [mem_putAll, mem_putAll]; simp)
    have := parts_same n h0 h6 ps _ _ h3 (fun k hk => by
      rcases (mem_putAll _ _ _).1 hk with c | c
      · exact hn k c
      · exact (hm k c).2) ha.2
    exact this
theorem parts_impl (n : Int) (ps : List (List Int)) (hL : ps.length + sumLen ps ≤ 1048576) (hl : ∀ p ∈ ps, p.length ≤ 1048576) : Ev (fun k => impl_GoodParts.f k ps n) (partsR n ps.length [] ps) := by
  unfold impl_GoodParts.f
  have jt : ∀ r : Bool, r = false → Ev (fun k => impl_GoodParts.j0 k ps n true) r := fun r hr => by rw [hr]; exact Ev.step (fun k => by rw [impl_GoodParts.j0]) (Ev.pos rfl (Ev.now _))
  refine Ev.cbind (inP_impl _ _ _) ?_
  by_cases h1 : 1 ≤ n ∧ n ≤ 6
  · refine Ev.pos (decide_eq_true h1) (Ev.cbind (inP_impl _ _ _) ?_)
    by_cases h2 : 1 ≤ ps.length ∧ ps.length ≤ 8
    · rw [decide_eq_true (show 1 ≤ (ps.length : Int) ∧ (ps.length : Int) ≤ 8 by omega)]
      refine Ev.step (f := fun k => impl_GoodParts.l0 k n 0 ps (ps.length : Int) 0) (fun k => by rw [impl_GoodParts.j0, if_neg (by simp)]) ((Ev.eq (parts_impl_l n h1.1 h1.2 ps h2.2 hl ps.length 0 0 (by omega)) ?_))
      rw [List.drop_zero]
      unfold partsR okN
      rw [decide_eq_true h1, decide_eq_true h2]
      by_cases h3 : ps.all (partB n) = true
      · rw [parts_same n h1.1 h1.2 ps 0 [] rep_nil (by simp) h3]; simp
      · rw [Bool.eq_false_iff.mpr h3]; simp
    · rw [decide_eq_false (show ¬ (1 ≤ (ps.length : Int) ∧ (ps.length : Int) ≤ 8) by omega)]
      exact jt _ (by unfold partsR okN; rw [decide_eq_false h2]; simp)
  · exact Ev.neg (by simpa using h1) (jt _ (by unfold partsR okN; rw [decide_eq_false h1]; simp))

end Go.Proofs.Ytmelechhnimlnad.Pure
