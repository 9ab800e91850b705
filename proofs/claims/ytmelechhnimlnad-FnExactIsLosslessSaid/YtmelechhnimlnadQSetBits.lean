/- Sets of columns below six: as rising or loose lists without doubles, and as bits of a whole number. No conditions. -/
import Derived.Test.YtmelechhnimlnadQBase
import Derived.Test.YtmelechhnimlnadWMore
namespace Go.Proofs.Ytmelechhnimlnad.Pure
open Go.RowKit Go.Proofs.Ytmelechhnimlnad.X Go.Proofs.YtmelechhnimlnadW.PrintWords
set_option linter.unusedVariables false

/-- A number is put to its place, once. -/
def ins (n : Int) : List Int → List Int
  | [] => [n]
  | x :: xs => if x < n then x :: ins n xs else n :: x :: xs
def put (l : List Int) (n : Int) : List Int := if n ∈ l then l else ins n l
def putAll (l : List Int) (p : List Int) : List Int := p.foldl put l
theorem mem_ins (n x : Int) : ∀ l : List Int, x ∈ ins n l ↔ x = n ∨ x ∈ l
  | [] => by simp [ins]
  | y :: ys => by
    unfold ins
    by_cases h : y < n
    · rw [if_pos h, List.mem_cons, mem_ins n x ys, List.mem_cons]
      constructor
      · rintro (h | h | h) <;> simp [h]
      · rintro (h | h | h) <;> simp [h]
    · rw [if_neg h]; simp
theorem len_ins (n : Int) : ∀ l : List Int, (ins n l).length = l.length + 1
  | [] => rfl
  | y :: ys => by
    unfold ins
    by_cases h : y < n
    · rw [if_pos h]; simp [len_ins n ys]
    · rw [if_neg h]; simp
theorem nodup_ins (n : Int) : ∀ l : List Int, n ∉ l → l.Nodup → (ins n l).Nodup
  | [], _, _ => by simp [ins]
  | y :: ys, hn, hd => by
    unfold ins
    rw [List.nodup_cons] at hd
    by_cases h : y < n
    · rw [if_pos h, List.nodup_cons, mem_ins]
      refine ⟨fun c => ?_, nodup_ins n ys (fun c => hn (List.mem_cons_of_mem _ c)) hd.2⟩
      rcases c with c | c
      · omega
      · exact hd.1 c
    · rw [if_neg h, List.nodup_cons]
      exact ⟨hn, List.nodup_cons.2 hd⟩
theorem mem_put (l : List Int) (n x : Int) : x ∈ put l n ↔ x = n ∨ x ∈ l := by
  unfold put
  by_cases h : n ∈ l
  · rw [if_pos h]
    constructor
    · exact fun c => .inr c
    · rintro (rfl | c)
      · exact h
      · exact c
  · rw [if_neg h, mem_ins]
theorem nodup_put (l : List Int) (n : Int) (h : l.Nodup) : (put l n).Nodup := by
  unfold put
  by_cases c : n ∈ l
  · rw [if_pos c]; exact h
  · rw [if_neg c]; exact nodup_ins n l c h
theorem len_put (l : List Int) (n : Int) : (put l n).length = if n ∈ l then l.length else l.length + 1 := by
  unfold put
  by_cases c : n ∈ l
  · rw [if_pos c, if_pos c]
  · rw [if_neg c, if_neg c, len_ins]
theorem len_put_le (l : List Int) (n : Int) : l.length ≤ (put l n).length ∧ (put l n).length ≤ l.length + 1 := by rw [len_put]; split <;> omega
theorem len_putAll_le : ∀ (p l : List Int), l.length ≤ (putAll l p).length ∧ (putAll l p).length ≤ l.length + p.length
  | [], l => by simp [putAll]
  | n :: p, l => by
    have h1 := len_put_le l n
    have h2 := len_putAll_le p (put l n)
    have h3 : putAll l (n :: p) = putAll (put l n) p := rfl
    rw [h3, List.length_cons]
    omega

/-- The bits of a set. -/
def bitAt (s : Int) (k : Int) : Bool := s.toNat.testBit k.toNat
def listOf (s : Int) : List Int := ([0, 1, 2, 3, 4, 5] : List Int).filter (bitAt s)
def pop (s : Int) : Nat := (listOf s).length
def Small (s : Int) : Prop := 0 ≤ s ∧ s ≤ 63
instance (s : Int) : Decidable (Small s) := inferInstanceAs (Decidable (_ ∧ _))
theorem small_fin {p : Int → Prop} (h : ∀ i : Fin 64, p (i.val : Int)) (s : Int) (hs : Small s) : p s := by
  obtain ⟨h0, h1⟩ := hs
  have := h ⟨s.toNat, by omega⟩
  rwa [show ((⟨s.toNat, by omega⟩ : Fin 64).val : Int) = s from Int.toNat_of_nonneg h0] at this
theorem six_fin {p : Int → Prop} (h : ∀ i : Fin 6, p (i.val : Int)) (s : Int) (h0 : 0 ≤ s) (h1 : s < 6) : p s := by
  have := h ⟨s.toNat, by omega⟩
  rwa [show ((⟨s.toNat, by omega⟩ : Fin 6).val : Int) = s from Int.toNat_of_nonneg h0] at this
theorem or_small (a b : Int) (ha : Small a) (hb : Small b) : Small (Go.bits .or .i64 a b) ∧ ∀ k : Fin 6, bitAt (Go.bits .or .i64 a b) k.val = (bitAt a k.val || bitAt b k.val) :=
  small_fin (p := fun a => ∀ b, Small b → Small (Go.bits .or .i64 a b) ∧ ∀ k : Fin 6, bitAt (Go.bits .or .i64 a b) k.val = (bitAt a k.val || bitAt b k.val))
    (fun i b hb => small_fin (p := fun b => Small (Go.bits .or .i64 (i.val : Int) b) ∧ ∀ k : Fin 6, bitAt (Go.bits .or .i64 (i.val : Int) b) k.val = (bitAt (i.val : Int) k.val || bitAt b k.val))
      (fun j => (by decide +kernel : ∀ i j : Fin 64, Small (Go.bits .or .i64 (i.val : Int) (j.val : Int)) ∧ ∀ k : Fin 6, bitAt (Go.bits .or .i64 (i.val : Int) (j.val : Int)) k.val = (bitAt (i.val : Int) k.val || bitAt (j.val : Int) k.val)) i j) b hb) a ha b hb
theorem has_small (a b : Int) (ha : Small a) (hb : Small b) : (Go.bits .and .i64 a b == b) = (listOf b).all (bitAt a) :=
  small_fin (p := fun a => ∀ b, Small b → (Go.bits .and .i64 a b == b) = (listOf b).all (bitAt a))
    (fun i b hb => small_fin (p := fun b => (Go.bits .and .i64 (i.val : Int) b == b) = (listOf b).all (bitAt (i.val : Int)))
      (fun j => (by decide +kernel : ∀ i j : Fin 64, (Go.bits .and .i64 (i.val : Int) (j.val : Int) == (j.val : Int)) = (listOf (j.val : Int)).all (bitAt (i.val : Int))) i j) b hb) a ha b hb
theorem one_small (k : Int) (h0 : 0 ≤ k) (h1 : k < 6) : Small (shl .i64 1 k) ∧ ∀ j : Fin 6, bitAt (shl .i64 1 k) j.val = decide (j.val = k.toNat) :=
  six_fin (p := fun k => Small (shl .i64 1 k) ∧ ∀ j : Fin 6, bitAt (shl .i64 1 k) j.val = decide (j.val = k.toNat)) (by decide +kernel) k h0 h1
theorem pop_lt (a b : Int) (ha : Small a) (hb : Small b) : ((listOf a).all (bitAt b) = true → pop a ≤ pop b ∧ (pop a = pop b → a = b)) :=
  small_fin (p := fun a => ∀ b, Small b → ((listOf a).all (bitAt b) = true → pop a ≤ pop b ∧ (pop a = pop b → a = b)))
    (fun i b hb => small_fin (p := fun b => ((listOf (i.val : Int)).all (bitAt b) = true → pop (i.val : Int) ≤ pop b ∧ (pop (i.val : Int) = pop b → (i.val : Int) = b)))
      (fun j => (by decide +kernel : ∀ i j : Fin 64, ((listOf (i.val : Int)).all (bitAt (j.val : Int)) = true → pop (i.val : Int) ≤ pop (j.val : Int) ∧ (pop (i.val : Int) = pop (j.val : Int) → (i.val : Int) = (j.val : Int)))) i j) b hb) a ha b hb
theorem listOf_nodup (s : Int) (hs : Small s) : (listOf s).Nodup := small_fin (p := fun s => (listOf s).Nodup) (by decide +kernel) s hs
theorem pop_le (s : Int) : pop s ≤ 6 := Nat.le_trans (List.length_filter_le _ _) (Nat.le_refl _)
theorem whole_small (n : Int) (h0 : 1 ≤ n) (h1 : n ≤ 6) : ∀ s, Small s → (∀ j : Fin 6, bitAt s j.val = true → (j.val : Int) < n) → (s == wrap64 (shl .i64 1 n - 1)) = ((pop s : Int) == n) := by
  obtain ⟨m, rfl⟩ : ∃ m : Fin 7, n = (m.val : Int) := ⟨⟨n.toNat, by omega⟩, (Int.toNat_of_nonneg (by omega)).symm⟩
  intro s hs
  exact small_fin (p := fun s => (∀ j : Fin 6, bitAt s j.val = true → (j.val : Int) < (m.val : Int)) → (s == wrap64 (shl .i64 1 (m.val : Int) - 1)) = ((pop s : Int) == (m.val : Int)))
    (fun i => (by decide +kernel : ∀ (m : Fin 7) (i : Fin 64), 1 ≤ m.val → (∀ j : Fin 6, bitAt (i.val : Int) j.val = true → (j.val : Int) < (m.val : Int)) → ((i.val : Int) == wrap64 (shl .i64 1 (m.val : Int) - 1)) = ((pop (i.val : Int) : Int) == (m.val : Int))) m i (by omega)) s hs

/-- A list without doubles that stands for a set. -/
def Rep (s : Int) (l : List Int) : Prop := Small s ∧ l.Nodup ∧ ∀ k : Int, k ∈ l ↔ (0 ≤ k ∧ k < 6 ∧ bitAt s k = true)
theorem nodup_le : ∀ (l m : List Int), l.Nodup → (∀ x ∈ l, x ∈ m) → l.length ≤ m.length
  | [], m, _, _ => by simp
  | a :: l, m, hd, h => by
    rw [List.nodup_cons] at hd
    have ha : a ∈ m := h a List.mem_cons_self
    have := nodup_le l (m.erase a) hd.2 (fun x hx => (List.mem_erase_of_ne (fun e => hd.1 (by rw [← e]; exact hx))).2 (h x (List.mem_cons_of_mem _ hx)))
    rw [List.length_erase_of_mem ha] at this
    have hp : 0 < m.length := List.length_pos_of_mem ha
    rw [List.length_cons]
    omega
theorem mem_listOf (s k : Int) : k ∈ listOf s ↔ (0 ≤ k ∧ k < 6 ∧ bitAt s k = true) := by
  unfold listOf
  rw [List.mem_filter]
  constructor
  · rintro ⟨h, hb⟩
    simp only [List.mem_cons, List.not_mem_nil, or_false] at h
    exact ⟨by omega, by omega, hb⟩
  · rintro ⟨h0, h1, hb⟩
    refine ⟨?_, hb⟩
    simp only [List.mem_cons, List.not_mem_nil, or_false]
    omega
theorem rep_len {s : Int} {l : List Int} (h : Rep s l) : l.length = pop s := by
  have h1 := nodup_le l (listOf s) h.2.1 (fun x hx => (mem_listOf s x).2 ((h.2.2 x).1 hx))
  have h2 := nodup_le (listOf s) l (listOf_nodup s h.1) (fun x hx => (h.2.2 x).2 ((mem_listOf s x).1 hx))
  unfold pop
  omega
theorem bit_fin {s k : Int} (h0 : 0 ≤ k) (h1 : k < 6) : bitAt s k = bitAt s ((⟨k.toNat, by omega⟩ : Fin 6).val : Int) := by
  rw [show (((⟨k.toNat, by omega⟩ : Fin 6).val : Nat) : Int) = k from Int.toNat_of_nonneg h0]
theorem rep_nil : Rep 0 [] := ⟨by decide, List.nodup_nil, fun k => by
  constructor
  · intro h; simp at h
  · rintro ⟨_, _, h⟩
    simp [bitAt] at h⟩
theorem rep_put {s : Int} {l : List Int} (h : Rep s l) (n : Int) (h0 : 0 ≤ n) (h1 : n < 6) : Rep (Go.bits .or .i64 s (shl .i64 1 n)) (put l n) := by
  obtain ⟨ho, hob⟩ := one_small n h0 h1
  obtain ⟨hs, hsb⟩ := or_small s _ h.1 ho
  refine ⟨hs, nodup_put l n h.2.1, fun k => ?_⟩
  rw [mem_put, h.2.2 k]
  constructor
  · rintro (rfl | ⟨c0, c1, c⟩)
    · refine ⟨h0, h1, ?_⟩
      rw [bit_fin h0 h1, hsb, hob]
      simp
    · refine ⟨c0, c1, ?_⟩
      rw [bit_fin c0 c1, hsb, ← bit_fin c0 c1, c]
      rfl
  · rintro ⟨c0, c1, c⟩
    rw [bit_fin c0 c1, hsb, ← bit_fin c0 c1, hob, Bool.or_eq_true, decide_eq_true_eq] at c
    rcases c with c | c
    · exact .inr ⟨c0, c1, c⟩
    · left
      have : k.toNat = n.toNat := c
      omega
theorem rep_or {s t : Int} {l m r : List Int} (h : Rep s l) (h' : Rep t m) (hd : r.Nodup) (hr : ∀ k, k ∈ r ↔ (k ∈ l ∨ k ∈ m)) : Rep (Go.bits .or .i64 s t) r := by
  obtain ⟨hs, hsb⟩ := or_small s t h.1 h'.1
  refine ⟨hs, hd, fun k => ?_⟩
  rw [hr, h.2.2, h'.2.2]
  constructor
  · rintro (⟨c0, c1, c⟩ | ⟨c0, c1, c⟩) <;> refine ⟨c0, c1, ?_⟩ <;> rw [bit_fin c0 c1, hsb, ← bit_fin (s := s) c0 c1, ← bit_fin (s := t) c0 c1, c] <;> simp
  · rintro ⟨c0, c1, c⟩
    rw [bit_fin c0 c1, hsb, ← bit_fin (s := s) c0 c1, ← bit_fin (s := t) c0 c1, Bool.or_eq_true] at c
    rcases c with c | c
    · exact .inl ⟨c0, c1, c⟩
    · exact .inr ⟨c0, c1, c⟩
theorem rep_has {s t : Int} {l m : List Int} (h : Rep s l) (h' : Small t) (hm : ∀ k, k ∈ m ↔ (0 ≤ k ∧ k < 6 ∧ bitAt t k = true)) : (Go.bits .and .i64 s t == t) = m.all (fun k => decide (k ∈ l)) := by
  rw [has_small s t h.1 h', Bool.eq_iff_iff, List.all_eq_true, List.all_eq_true]
  constructor
  · intro c k hk
    have := (hm k).1 hk
    exact decide_eq_true ((h.2.2 k).2 ⟨this.1, this.2.1, c k ((mem_listOf t k).2 this)⟩)
  · intro c k hk
    have := (mem_listOf t k).1 hk
    exact ((h.2.2 k).1 (of_decide_eq_true (c k ((hm k).2 this)))).2.2
theorem rep_grow {s t : Int} {l m : List Int} (h : Rep s l) (h' : Rep t m) (hs : ∀ k ∈ l, k ∈ m) : (l.length = m.length ↔ t = s) ∧ l.length ≤ m.length := by
  have ha : (listOf s).all (bitAt t) = true := List.all_eq_true.2 fun k hk => ((h'.2.2 k).1 (hs k ((h.2.2 k).2 ((mem_listOf s k).1 hk)))).2.2
  have hp := pop_lt s t h.1 h'.1 ha
  rw [rep_len h, rep_len h']
  exact ⟨⟨fun e => (hp.2 e).symm, fun e => by rw [e]⟩, hp.1⟩
theorem rep_short {s : Int} {l : List Int} (h : Rep s l) : l.length ≤ 6 := by rw [rep_len h]; exact pop_le s
/-- Numbers below six, put one by one. -/
def orAll (s : Int) (p : List Int) : Int := p.foldl (fun s k => Go.bits .or .i64 s (shl .i64 1 k)) s
theorem rep_putAll : ∀ (p l : List Int) (s : Int), Rep s l → (∀ k ∈ p, 0 ≤ k ∧ k < 6) → Rep (orAll s p) (putAll l p)
  | [], l, s, h, _ => h
  | n :: p, l, s, h, hp => rep_putAll p (put l n) _ (rep_put h n (hp n List.mem_cons_self).1 (hp n List.mem_cons_self).2) (fun k hk => hp k (List.mem_cons_of_mem _ hk))
theorem mem_putAll : ∀ (p l : List Int) (x : Int), x ∈ putAll l p ↔ (x ∈ l ∨ x ∈ p)
  | [], l, x => by simp [putAll]
  | n :: p, l, x => by
    have h3 : putAll l (n :: p) = putAll (put l n) p := rfl
    rw [h3, mem_putAll p, mem_put, List.mem_cons]
    constructor
    · rintro ((h | h) | h) <;> simp [h]
    · rintro (h | h | h) <;> simp [h]
theorem rep_setOf (p : List Int) (hp : ∀ k ∈ p, 0 ≤ k ∧ k < 6) : Rep (orAll 0 p) (putAll [] p) := rep_putAll p [] 0 rep_nil hp

end Go.Proofs.Ytmelechhnimlnad.Pure
