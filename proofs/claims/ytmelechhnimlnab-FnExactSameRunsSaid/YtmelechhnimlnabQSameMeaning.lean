/- Runs that mean the same: what the program computes, in plain words. No conditions. -/
import Derived.Test.YtmelechhnimlnabQSamePlaces
import Derived.Test.YtmelechhnimlnabQPlaceMaps
import Derived.Test.YtmelechhnimlnabG9
import Derived.Test.YtmelechhnimlnabG8
import Derived.Test.YtmelechhnimlnabG7
import Derived.Test.YtmelechhnimlnabG6
namespace Go.Proofs.Ytmelechhnimlnab.Pure
open Go.RowKit Go.Proofs.Ytmelechhnimlnab.G Go.Proofs.Ytmelechhnimlnab.X Go.Proofs.YtmelechhnimlnabW.PrintWords
set_option linter.unusedVariables false

abbrev txn (s : S32) : Int := s.f0
theorem stepsOf_eq (l : List S32) (h : l.length ≤ 1048576) (t : Int) : impl_stepsOf.f l t = some (of txn t l) := by
  unfold impl_stepsOf.f of
  rw [if_pos (by omega)]
  rfl
theorem placeOf_eq (l : List S32) (h : l.length ≤ 1048576) (i : Int) (h0 : -1 ≤ i) (h1 : i < (l.length : Int)) : impl_placeOf.f l i = some (plc l i) := by
  unfold impl_placeOf.f plc
  by_cases c : i < 0
  · rw [if_pos c, if_pos c]
  · rw [if_neg c, if_neg c, if_pos (by omega), if_pos h1, if_pos (by omega), stepsOf_eq _ (by rw [List.length_take]; omega)]
    rfl
theorem wf64 (x : Int) (h : -9223372036854775808 ≤ x ∧ x ≤ 9223372036854775807) : (Lit.int .i64 x).wf = true := (Lit.wf_int_iff .i64 x).2 h
theorem own_le (l : List S32) (t : Int) (i : Nat) : own l t i ≤ l.length := cnt_le _ l i
theorem plc_wf (l : List S32) (h : l.length ≤ 1048576) (hg : ∀ x ∈ l, (0 ≤ x.f0 ∧ x.f0 ≤ 5) ∧ (1 ≤ x.f1 ∧ x.f1 ≤ 2) ∧ (0 ≤ x.f2 ∧ x.f2 ≤ 3)) (i : Int) (h1 : i < (l.length : Int)) : wfP (plc l i) = true := by
  unfold wfP plc
  rw [Bool.and_eq_true]
  by_cases c : i < 0
  · rw [if_pos c]
    exact ⟨wf64 _ (by omega), wf64 _ (by omega)⟩
  · rw [if_neg c]
    obtain ⟨n, rfl⟩ : ∃ n : Nat, i = n := ⟨i.toNat, by omega⟩
    have hx := hg _ (List.mem_of_getElem? (rdI_nth (l := l) (i := n) (by omega)))
    have ho := own_le l (rdI l n).f0 (n : Int).toNat
    exact ⟨wf64 _ (by have h2 : 0 ≤ (rdI l (n : Int)).f0 ∧ (rdI l (n : Int)).f0 ≤ 5 := hx.1; show _ ≤ (rdI l (n : Int)).f0 ∧ (rdI l (n : Int)).f0 ≤ _; omega), wf64 _ (by show _ ≤ ((own l (rdI l n).f0 (n : Int).toNat : Nat) : Int) ∧ _; omega)⟩
def pms (l : List S32) : List S58 → List (Pl × Pl) → List (Pl × Pl)
  | [], ms => ms
  | s :: ss, ms => pms l ss ((plc l s.f0, plc l s.f1) :: ms)
theorem reads_eq (l : List S32) (h : l.length ≤ 1048576) (hg : ∀ x ∈ l, (0 ≤ x.f0 ∧ x.f0 ≤ 5) ∧ (1 ≤ x.f1 ∧ x.f1 ≤ 2) ∧ (0 ≤ x.f2 ∧ x.f2 ≤ 3)) : ∀ (ss : List S58) (ms : List (Pl × Pl)), (∀ s ∈ ss, (-1 ≤ s.f0 ∧ s.f0 < (l.length : Int)) ∧ (-1 ≤ s.f1 ∧ s.f1 < (l.length : Int))) → impl_meaning.reads l ss ms = some (pms l ss ms)
  | [], ms, _ => rfl
  | s :: ss, ms, hs => by
    have h1 := hs s List.mem_cons_self
    unfold impl_meaning.reads pms
    rw [placeOf_eq l h _ h1.1.1 h1.1.2, placeOf_eq l h _ h1.2.1 h1.2.2, Option.bind_some, Option.bind_some, if_pos (plc_wf l h hg _ h1.1.2)]
    exact reads_eq l h hg ss _ (fun x hx => hs x (List.mem_cons_of_mem _ hx))
def toPl (p : Pl) : S44 := ⟨p.1, p.2⟩
theorem lasts_eq (l : List S32) (h : l.length ≤ 1048576) : ∀ (is : List Int) (acc : List S44), (∀ i ∈ is, -1 ≤ i ∧ i < (l.length : Int)) → acc.length + is.length ≤ 1000 → impl_meaning.lasts l is acc = some (acc ++ is.map fun i => toPl (plc l i))
  | [], acc, _, _ => by simp [impl_meaning.lasts]
  | i :: is, acc, hs, hn => by
    have h1 := hs i List.mem_cons_self
    simp only [List.length_cons] at hn
    unfold impl_meaning.lasts
    rw [placeOf_eq l h _ h1.1 h1.2, Option.bind_some, if_pos (by omega)]
    have := lasts_eq l h is (acc ++ [toPl (plc l i)]) (fun x hx => hs x (List.mem_cons_of_mem _ hx)) (by rw [List.length_append]; simp only [List.length_cons, List.length_nil]; omega)
    rw [List.append_assoc] at this
    exact this
theorem srcF_mem (l : List S32) : ∀ (n : Nat) (s : S58), s ∈ srcF l n ↔ ∃ m, m < n ∧ (rdS l m).f1 = 1 ∧ s = ⟨(m : Int), lastW l (rdS l m).f2 m⟩
  | 0, s => by
    unfold srcF
    simp
  | n + 1, s => by
    unfold srcF
    rw [List.mem_append, srcF_mem l n s]
    constructor
    · rintro (⟨m, h1, h2, h3⟩ | h)
      · exact ⟨m, by omega, h2, h3⟩
      · by_cases c : (rdS l n).f1 = 1
        · rw [if_pos c, List.mem_singleton] at h
          exact ⟨n, by omega, c, h⟩
        · rw [if_neg c] at h
          cases h
    · rintro ⟨m, h1, h2, h3⟩
      by_cases e : m = n
      · subst e
        rw [if_pos h2, List.mem_singleton]
        exact .inr h3
      · exact .inl ⟨m, by omega, h2, h3⟩
theorem pms_mem (l : List S32) : ∀ (ss : List S58) (ms : List (Pl × Pl)) (q : Pl × Pl), q ∈ pms l ss ms ↔ q ∈ ms ∨ ∃ s ∈ ss, q = (plc l s.f0, plc l s.f1)
  | [], ms, q => by simp [pms]
  | s :: ss, ms, q => by
    unfold pms
    rw [pms_mem l ss, List.mem_cons]
    constructor
    · rintro ((h | h) | ⟨x, h1, h2⟩)
      · exact .inr ⟨s, List.mem_cons_self, h⟩
      · exact .inl h
      · exact .inr ⟨x, List.mem_cons_of_mem _ h1, h2⟩
    · rintro (h | ⟨x, h1, h2⟩)
      · exact .inl (.inr h)
      · rcases List.mem_cons.1 h1 with rfl | h1
        · exact .inl (.inl h2)
        · exact .inr ⟨x, h1, h2⟩
theorem pget_mem : ∀ (ms : List (Pl × Pl)) (p v : Pl), pget ms p = some v → (p, v) ∈ ms
  | [], p, v, h => by cases h
  | q :: ms, p, v, h => by
    unfold pget at h
    by_cases c : q.1 = p
    · rw [if_pos c] at h
      rw [← c, ← Option.some.inj h]
      exact List.mem_cons_self
    · rw [if_neg c] at h
      exact List.mem_cons_of_mem _ (pget_mem ms p v h)
theorem mem_pget : ∀ (ms : List (Pl × Pl)) (p v : Pl), (p, v) ∈ ms → (∀ u, (p, u) ∈ ms → u = v) → pget ms p = some v
  | [], p, v, h, _ => by cases h
  | q :: ms, p, v, h, hu => by
    unfold pget
    by_cases c : q.1 = p
    · rw [if_pos c]
      exact congrArg some (hu q.2 (by rw [← c]; exact List.mem_cons_self))
    · rw [if_neg c]
      rcases List.mem_cons.1 h with rfl | h
      · exact absurd rfl c
      · exact mem_pget ms p v h (fun u hm => hu u (List.mem_cons_of_mem _ hm))
theorem plc_nat (l : List S32) (n : Nat) : plc l n = ((rdS l n).f0, (own l (rdS l n).f0 n : Int)) := by
  unfold plc
  rw [if_neg (by omega), Int.toNat_natCast]
theorem plc_neg (l : List S32) {i : Int} (h : i < 0) : plc l i = (-1, 0) := by unfold plc; rw [if_pos h]
theorem own_inj (l : List S32) {i j : Nat} (hi : i < l.length) (hj : j < l.length) (hk : (rdS l i).f0 = (rdS l j).f0) (h : own l (rdS l i).f0 i = own l (rdS l i).f0 j) : i = j :=
  cnt_inj (fun u : S32 => decide (u.f0 = (rdS l i).f0)) l (rdI_nth hi) (rdI_nth hj) (decide_eq_true rfl) (decide_eq_true hk.symm) h
theorem plc_inj (l : List S32) (hg : ∀ x ∈ l, (0 ≤ x.f0 ∧ x.f0 ≤ 5) ∧ (1 ≤ x.f1 ∧ x.f1 ≤ 2) ∧ (0 ≤ x.f2 ∧ x.f2 ≤ 3)) {i j : Int} (hi0 : -1 ≤ i) (hi : i < (l.length : Int)) (hj0 : -1 ≤ j) (hj : j < (l.length : Int)) (h : plc l i = plc l j) : i = j := by
  have pos : ∀ n : Nat, n < l.length → (plc l n).1 ≠ -1 := fun n hn e => by
    have hx := hg _ (List.mem_of_getElem? (rdI_nth (l := l) (i := n) hn))
    rw [plc_nat] at e
    have e' : (rdS l n).f0 = -1 := e
    have := hx.1
    omega
  by_cases ci : i < 0
  · by_cases cj : j < 0
    · omega
    · obtain ⟨n, rfl⟩ : ∃ n : Nat, j = n := ⟨j.toNat, by omega⟩
      rw [plc_neg l ci] at h
      exact absurd (by rw [← h]) (pos n (by omega))
  · obtain ⟨m, rfl⟩ : ∃ n : Nat, i = n := ⟨i.toNat, by omega⟩
    by_cases cj : j < 0
    · rw [plc_neg l cj] at h
      exact absurd (by rw [h]) (pos m (by omega))
    · obtain ⟨n, rfl⟩ : ∃ n : Nat, j = n := ⟨j.toNat, by omega⟩
      rw [plc_nat, plc_nat] at h
      obtain ⟨h1, h2⟩ := Prod.mk.inj h
      rw [← h1] at h2
      have := own_inj l (i := m) (j := n) (by omega) (by omega) h1 (by exact_mod_cast h2)
      omega
/-- What the map of a run's reads gives. -/
theorem pget_iff (l : List S32) (hg : ∀ x ∈ l, (0 ≤ x.f0 ∧ x.f0 ≤ 5) ∧ (1 ≤ x.f1 ∧ x.f1 ≤ 2) ∧ (0 ≤ x.f2 ∧ x.f2 ≤ 3)) (p v : Pl) : pget (pms l (srcF l l.length) []) p = some v ↔ ∃ m : Nat, m < l.length ∧ (rdS l m).f1 = 1 ∧ p = plc l m ∧ v = plc l (lastW l (rdS l m).f2 m) := by
  have mem : ∀ q : Pl × Pl, q ∈ pms l (srcF l l.length) [] ↔ ∃ m : Nat, m < l.length ∧ (rdS l m).f1 = 1 ∧ q = (plc l m, plc l (lastW l (rdS l m).f2 m)) := fun q => by
    rw [pms_mem]
    constructor
    · rintro (h | ⟨s, h1, h2⟩)
      · cases h
      · obtain ⟨m, h3, h4, rfl⟩ := (srcF_mem l _ s).1 h1
        exact ⟨m, h3, h4, h2⟩
    · rintro ⟨m, h1, h2, h3⟩
      exact .inr ⟨_, (srcF_mem l _ _).2 ⟨m, h1, h2, rfl⟩, h3⟩
  constructor
  · intro h
    obtain ⟨m, h1, h2, h3⟩ := (mem _).1 (pget_mem _ _ _ h)
    obtain ⟨e1, e2⟩ := Prod.mk.inj h3
    exact ⟨m, h1, h2, e1, e2⟩
  · rintro ⟨m, h1, h2, rfl, rfl⟩
    refine mem_pget _ _ _ ((mem _).2 ⟨m, h1, h2, rfl⟩) (fun u hu => ?_)
    obtain ⟨n, h3, h4, h5⟩ := (mem _).1 hu
    obtain ⟨e1, e2⟩ := Prod.mk.inj h5
    have : (m : Int) = n := plc_inj l hg (by omega) (by omega) (by omega) (by omega) e1
    obtain rfl : m = n := by omega
    exact e2
theorem pms_wf (l : List S32) (h : l.length ≤ 1048576) (hg : ∀ x ∈ l, (0 ≤ x.f0 ∧ x.f0 ≤ 5) ∧ (1 ≤ x.f1 ∧ x.f1 ≤ 2) ∧ (0 ≤ x.f2 ∧ x.f2 ≤ 3)) : keysWf (pms l (srcF l l.length) []) := by
  intro q hq
  rcases (pms_mem l _ _ q).1 hq with h1 | ⟨s, h1, rfl⟩
  · cases h1
  · obtain ⟨m, h3, h4, rfl⟩ := (srcF_mem l _ s).1 h1
    exact plc_wf l h hg _ (by show (m : Int) < _; omega)
theorem meaning_ev (l : List S32) (h : l.length ≤ 1048576) (hg : ∀ x ∈ l, (0 ≤ x.f0 ∧ x.f0 ≤ 5) ∧ (1 ≤ x.f1 ∧ x.f1 ≤ 2) ∧ (0 ≤ x.f2 ∧ x.f2 ≤ 3)) : Ev (fun k => impl_meaning.f k l) (pms l (srcF l l.length) [], (lastL l l.length).map fun i => toPl (plc l i)) := by
  unfold impl_meaning.f
  refine Ev.bind (sources_impl l h hg) (Ev.const ?_)
  rw [reads_eq l h hg _ _ (fun s hs => by
    obtain ⟨m, h3, h4, rfl⟩ := (srcF_mem l _ s).1 hs
    have := lastW_lt l (rdS l m).f2 m
    exact ⟨⟨by show -1 ≤ (m : Int); omega, by show (m : Int) < _; omega⟩, ⟨this.1, by show lastW l (rdS l m).f2 m < _; omega⟩⟩), Option.bind_some,
    lasts_eq l h _ _ (fun i hi => by
      unfold lastL at hi
      simp only [List.mem_cons, List.not_mem_nil, or_false] at hi
      rcases hi with rfl | rfl | rfl | rfl <;> exact lastW_lt l _ _) (by show 0 + 4 ≤ 1000; omega), Option.bind_some]
  rfl
end Go.Proofs.Ytmelechhnimlnab.Pure
