/- Places of what a list's filter holds. No conditions. -/
import Derived.Test.YtmelechhnimlnabX
namespace Go.Proofs.Ytmelechhnimlnab.Pure
set_option linter.unusedVariables false

def cnt {α : Type} (p : α → Bool) (l : List α) (i : Nat) : Nat := ((l.take i).filter p).length
theorem nth_fil {α : Type} (p : α → Bool) : ∀ (l : List α) (i : Nat) (s : α), l[i]? = some s → p s = true → (l.filter p)[cnt p l i]? = some s
  | [], i, s, h, _ => by simp at h
  | x :: xs, 0, s, h, hp => by
    obtain rfl : x = s := by simpa using h
    simp [cnt, hp]
  | x :: xs, i + 1, s, h, hp => by
    have ih := nth_fil p xs i s (by simpa using h) hp
    unfold cnt at ih ⊢
    by_cases hx : p x = true
    · simp [hx]; exact ih
    · simp [hx]; exact ih
theorem fil_nth {α : Type} (p : α → Bool) : ∀ (l : List α) (n : Nat) (s : α), (l.filter p)[n]? = some s → ∃ i, l[i]? = some s ∧ p s = true ∧ cnt p l i = n
  | [], n, s, h => by simp at h
  | x :: xs, n, s, h => by
    by_cases hx : p x = true
    · rw [List.filter_cons_of_pos hx] at h
      cases n with
      | zero =>
        obtain rfl : x = s := by simpa using h
        exact ⟨0, rfl, hx, by simp [cnt]⟩
      | succ n =>
        obtain ⟨i, h1, h2, h3⟩ := fil_nth p xs n s (by simpa using h)
        exact ⟨i + 1, by simpa using h1, h2, by unfold cnt at h3 ⊢; simp [hx, h3]⟩
    · rw [List.filter_cons_of_neg hx] at h
      obtain ⟨i, h1, h2, h3⟩ := fil_nth p xs n s h
      exact ⟨i + 1, by simpa using h1, h2, by unfold cnt at h3 ⊢; simp [hx, h3]⟩
theorem cnt_lt {α : Type} (p : α → Bool) (l : List α) {i j : Nat} (h : i < j) {s : α} (hi : l[i]? = some s) (hp : p s = true) : cnt p l i < cnt p l j := by
  have hl : i < l.length := (List.getElem?_eq_some_iff.mp hi).1
  have e : l.take j = l.take i ++ (l.drop i).take (j - i) := by rw [← List.take_add]; congr 1; omega
  have hd : l.drop i = s :: l.drop (i + 1) := by rw [List.drop_eq_getElem_cons hl]; rw [List.getElem?_eq_getElem hl] at hi; rw [Option.some.inj hi]
  unfold cnt
  rw [e, List.filter_append, List.length_append, hd]
  obtain ⟨d, hd2⟩ : ∃ d, j - i = d + 1 := ⟨j - i - 1, by omega⟩
  rw [hd2, List.take_succ_cons, List.filter_cons_of_pos hp, List.length_cons]
  omega
theorem cnt_inj {α : Type} (p : α → Bool) (l : List α) {i j : Nat} {s u : α} (hi : l[i]? = some s) (hj : l[j]? = some u) (hs : p s = true) (hu : p u = true) (h : cnt p l i = cnt p l j) : i = j := by
  rcases Nat.lt_trichotomy i j with c | c | c
  · have := cnt_lt p l c hi hs; omega
  · exact c
  · have := cnt_lt p l c hj hu; omega

section
variable {α : Type} (key : α → Int)
def of (t : Int) (l : List α) : List α := l.filter fun s => decide (key s = t)
theorem of_sum : ∀ l : List α, (∀ s ∈ l, 0 ≤ key s ∧ key s ≤ 5) → l.length = (of key 0 l).length + (of key 1 l).length + (of key 2 l).length + (of key 3 l).length + (of key 4 l).length + (of key 5 l).length
  | [], _ => rfl
  | x :: xs, h => by
    have ih := of_sum xs (fun s hs => h s (List.mem_cons_of_mem _ hs))
    have hx := h x List.mem_cons_self
    have hc : key x = 0 ∨ key x = 1 ∨ key x = 2 ∨ key x = 3 ∨ key x = 4 ∨ key x = 5 := by omega
    unfold of at ih ⊢
    rcases hc with e | e | e | e | e | e <;> simp [e] <;> omega
theorem of_pre (a b : List α) (h : ∀ i s, a[i]? = some s → ∃ k, b[k]? = some s ∧ cnt (fun u => decide (key u = key s)) b k = cnt (fun u => decide (key u = key s)) a i) (t : Int) (n : Nat) (s : α) (hn : (of key t a)[n]? = some s) : (of key t b)[n]? = some s := by
  obtain ⟨i, h1, h2, h3⟩ := fil_nth _ a n s hn
  obtain rfl : key s = t := of_decide_eq_true h2
  obtain ⟨k, k1, k2⟩ := h i s h1
  have := nth_fil (fun u => decide (key u = key s)) b k s k1 h2
  rw [k2, h3] at this
  exact this
theorem of_len (a b : List α) (h : ∀ (n : Nat) (s : α), a[n]? = some s → b[n]? = some s) : a.length ≤ b.length := by
  by_cases c : a.length ≤ b.length
  · exact c
  · exfalso
    have hl : b.length < a.length := by omega
    have := h b.length _ (List.getElem?_eq_getElem hl)
    rw [List.getElem?_eq_none (Nat.le_refl _)] at this
    cases this
theorem of_eq (a b : List α) (hl : a.length = b.length) (h : ∀ (n : Nat) (s : α), a[n]? = some s → b[n]? = some s) : a = b := by
  apply List.ext_getElem?
  intro n
  by_cases c : n < a.length
  · rw [List.getElem?_eq_getElem c, h n _ (List.getElem?_eq_getElem c)]
  · rw [List.getElem?_eq_none (by omega), List.getElem?_eq_none (by omega)]
/-- Runs whose steps stand at the same places have the same transactions. -/
theorem of_same (a b : List α) (hl : a.length = b.length) (ha : ∀ s ∈ a, 0 ≤ key s ∧ key s ≤ 5) (hb : ∀ s ∈ b, 0 ≤ key s ∧ key s ≤ 5)
    (h : ∀ i s, a[i]? = some s → ∃ k, b[k]? = some s ∧ cnt (fun u => decide (key u = key s)) b k = cnt (fun u => decide (key u = key s)) a i) (t : Int) (h0 : 0 ≤ t) (h5 : t ≤ 5) : of key t a = of key t b := by
  have sa := of_sum key a ha
  have sb := of_sum key b hb
  have l0 := of_len _ _ (of_pre key a b h 0)
  have l1 := of_len _ _ (of_pre key a b h 1)
  have l2 := of_len _ _ (of_pre key a b h 2)
  have l3 := of_len _ _ (of_pre key a b h 3)
  have l4 := of_len _ _ (of_pre key a b h 4)
  have l5 := of_len _ _ (of_pre key a b h 5)
  have hc : t = 0 ∨ t = 1 ∨ t = 2 ∨ t = 3 ∨ t = 4 ∨ t = 5 := by omega
  refine of_eq _ _ ?_ (of_pre key a b h t)
  rcases hc with rfl | rfl | rfl | rfl | rfl | rfl <;> omega
/-- The other way round. -/
theorem of_place (a b : List α) (ha : ∀ s ∈ a, 0 ≤ key s ∧ key s ≤ 5) (h : ∀ t, 0 ≤ t → t ≤ 5 → of key t a = of key t b) (i : Nat) (s : α) (hi : a[i]? = some s) :
    ∃ k, b[k]? = some s ∧ cnt (fun u => decide (key u = key s)) b k = cnt (fun u => decide (key u = key s)) a i := by
  have hm := ha s (List.mem_of_getElem? hi)
  have h1 := nth_fil (fun u => decide (key u = key s)) a i s hi (by simp)
  have e : of key (key s) a = of key (key s) b := h _ hm.1 hm.2
  unfold of at e
  rw [e] at h1
  obtain ⟨k, k1, _, k3⟩ := fil_nth _ b _ s h1
  exact ⟨k, k1, k3⟩
end

end Go.Proofs.Ytmelechhnimlnab.Pure
