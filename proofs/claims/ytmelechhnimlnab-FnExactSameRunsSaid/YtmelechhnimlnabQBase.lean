/- Plain words on rounds, wraps and lists, for the plain laws. No conditions. -/
import Derived.Test.YtmelechhnimlnabX
namespace Go.Proofs.Ytmelechhnimlnab.Pure
open Go.RowKit Go.Proofs.Ytmelechhnimlnab.X Go.Proofs.YtmelechhnimlnabW.PrintWords
set_option linter.unusedVariables false

theorem w64 {x : Int} (h : -9223372036854775808 ≤ x) (h' : x ≤ 9223372036854775807) : wrap64 x = x := by unfold wrap64; omega
theorem w64s (x : Int) (h : -9223372036854775808 ≤ x ∧ x ≤ 9223372036854775807) : wrap64 x = x := w64 h.1 h.2
theorem rd_lt {l : List Int} {i : Nat} (h : i < l.length) : rd l (i : Int) = l[i] := by simp [rd, h]
theorem drop_cons {α : Type} {l : List α} {i : Nat} (h : i < l.length) : l.drop i = l[i] :: l.drop (i + 1) := List.drop_eq_getElem_cons h
theorem take_snoc {α : Type} {l : List α} {i : Nat} (h : i < l.length) : l.take (i + 1) = l.take i ++ [l[i]] := List.take_succ_eq_append_getElem h

theorem Ev.eq {α : Type} {g : Nat → Option α} {r r' : α} (h : Ev g r) (e : r = r') : Ev g r' := e ▸ h
theorem Ev.const {α : Type} {o : Option α} {r : α} (h : o = some r) : Ev (fun _ => o) r := ⟨0, fun _ _ => h⟩
/-- A call whose answer is known, and what follows. -/
theorem Ev.seq {α β : Type} {g : Nat → Option α} {f : Nat → α → Option β} {a : α} {r : β} (h : Ev g a) (k : Ev (fun n => f n a) r) : Ev (fun n => (g n).bind (f n)) r := Ev.bind h k
theorem Ev.cbind {α β : Type} {o : Option α} {f : Nat → α → Option β} {a : α} {r : β} (h : o = some a) (k : Ev (fun n => f n a) r) : Ev (fun n => o.bind (f n)) r := by
  subst h
  exact k
theorem Ev.pos {α : Type} {c : Prop} [Decidable c] {g f : Nat → Option α} {r : α} (h : c) (k : Ev g r) : Ev (fun n => if c then g n else f n) r := by
  simpa only [if_pos h] using k
theorem Ev.neg {α : Type} {c : Prop} [Decidable c] {g f : Nat → Option α} {r : α} (h : ¬ c) (k : Ev f r) : Ev (fun n => if c then g n else f n) r := by
  simpa only [if_neg h] using k
theorem Ev.ite {α : Type} {c : Prop} [Decidable c] {g f : Nat → Option α} {r s : α} (h : c → Ev g r) (k : ¬ c → Ev f s) : Ev (fun n => if c then g n else f n) (if c then r else s) := by
  by_cases hc : c
  · simpa only [if_pos hc] using h hc
  · simpa only [if_neg hc] using k hc
theorem Ev.and {α β : Type} {g : Nat → Option α} {f : Nat → Option β} {a : α} {b : β} (h : Ev g a) (k : Ev f b) : ∃ K, ∀ n, K ≤ n → g n = some a ∧ f n = some b := by
  obtain ⟨K, h⟩ := h
  obtain ⟨L, k⟩ := k
  exact ⟨max K L, fun n hn => ⟨h n (by omega), k n (by omega)⟩⟩
/-- A list is made at another one's places, each by its own. -/
theorem set_take {α : Type} {l z : List α} {i : Nat} (hi : i < l.length) (hz : z.length = l.length) (h : z.take i = l.take i) : (z.set i l[i]).take (i + 1) = l.take (i + 1) := by
  rw [List.take_succ_eq_append_getElem (by simpa [hz] using hi), List.take_succ_eq_append_getElem hi]
  simp [List.take_set_of_le, h]
/-- Predicates over a list that answer in the end. -/
theorem allO_ev {α : Type} {pf : Nat → α → Option Bool} {p : α → Bool} : ∀ (xs : List α), (∀ x ∈ xs, Ev (fun k => pf k x) (p x)) → Ev (fun k => allO (pf k) xs) (xs.all p)
  | [], _ => Ev.now _
  | x :: xs, h => by
    unfold allO
    refine Ev.bind (h x List.mem_cons_self) ?_
    rw [List.all_cons]
    cases hp : p x with
    | true => simpa using allO_ev xs (fun y hy => h y (List.mem_cons_of_mem _ hy))
    | false => simpa using Ev.now false
theorem anyO_ev {α : Type} {pf : Nat → α → Option Bool} {p : α → Bool} : ∀ (xs : List α), (∀ x ∈ xs, Ev (fun k => pf k x) (p x)) → Ev (fun k => anyO (pf k) xs) (xs.any p)
  | [], _ => Ev.now _
  | x :: xs, h => by
    unfold anyO
    refine Ev.bind (h x List.mem_cons_self) ?_
    rw [List.any_cons]
    cases hp : p x with
    | true => simpa using Ev.now true
    | false => simpa using anyO_ev xs (fun y hy => h y (List.mem_cons_of_mem _ hy))

theorem sum_mem {α : Type} (f : α → Nat) : ∀ (xs : List α) (x : α), x ∈ xs → f x ≤ (xs.map f).sum
  | y :: ys, x, h => by
    rw [List.map_cons, List.sum_cons]
    rcases List.mem_cons.1 h with rfl | h
    · omega
    · have := sum_mem f ys x h; omega
/-- The marks: numbers from k on. -/
def marks (k : Int) (n : Nat) : List Int := (List.range n).map fun j : Nat => k + (j : Int)
theorem marks_length (k : Int) (n : Nat) : (marks k n).length = n := by simp [marks]
theorem marks_get (k : Int) (n : Nat) (j : Nat) (h : j < (marks k n).length) : (marks k n)[j] = k + (j : Int) := by simp [marks]

end Go.Proofs.Ytmelechhnimlnab.Pure
