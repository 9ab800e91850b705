/- The plain law of IsLossless: both functions answer alike. No conditions. -/
import Derived.Test.YtmelechhnimlnadHFnExactIsLossless
import Derived.Test.YtmelechhnimlnadQStartRows
import Derived.Test.YtmelechhnimlnadQDepend
import Derived.Test.YtmelechhnimlnadQPickOnly
import Derived.Test.YtmelechhnimlnadQCmpZero
import Derived.Test.YtmelechhnimlnadG8
import Derived.Test.YtmelechhnimlnadG14
import Derived.Test.YtmelechhnimlnadG7
import Derived.Test.YtmelechhnimlnadG6
import Derived.Test.YtmelechhnimlnadG5
import Derived.Test.YtmelechhnimlnadG4
import Derived.Test.YtmelechhnimlnadG13
import Derived.Test.YtmelechhnimlnadG12
namespace Go.Proofs.Ytmelechhnimlnad.Pure
open Go.RowKit Go.Proofs.Ytmelechhnimlnad.G Go.Proofs.Ytmelechhnimlnad.X Go.Proofs.YtmelechhnimlnadW.PrintWords Go.Proofs.YtmelechhnimlnadW.PrintLast Go.Proofs.Ytmelechhnimlnad.HFnExactIsLossless
set_option linter.unusedVariables false
set_option linter.unusedSimpArgs false

abbrev RW := S48
abbrev DP := S49
abbrev HT := Int × Int × Int
theorem rdR_lt {l : List RW} {i : Nat} (h : i < l.length) : rd_T48 l (i : Int) = l[i] := by simp [rd_T48, h]
/-- What the first step is: the column, and the two cells that are made alike. -/
def pk (f x : List Int) : List Int := f.map (rd x)
def hit3 (x y : List Int) : List Int → Option HT
  | [] => none
  | k :: t => if rd x k = rd y k then hit3 x y t else some (k, rd x k, rd y k)
def hit2 (f t x : List Int) : List RW → Option HT
  | [] => none
  | y :: ys => (if pk f x = pk f y.f0 then hit3 x y.f0 t else none).or (hit2 f t x ys)
def hit1 (f t : List Int) : List RW → Option HT
  | [] => none
  | x :: ys => (hit2 f t x.f0 ys).or (hit1 f t ys)
def hit0 (rows : List RW) : List DP → Option HT
  | [] => none
  | d :: ds => (hit1 d.f0 d.f1 rows).or (hit0 rows ds)
def made (h : HT) (rows : List RW) : List RW := rows.map (impl_Tableau_alike.el h.1 h.2.1 h.2.2)
theorem or_elim {β : Type} (o p : Option HT) (R : β) (g : HT → β) : (o.or p).elim R g = o.elim (p.elim R g) g := by cases o <;> rfl
theorem none_or' (p : Option HT) : (none : Option HT).or p = p := by cases p <;> rfl
theorem hit3_some {x y : List Int} : ∀ {t : List Int} {h : HT}, hit3 x y t = some h → h.1 ∈ t ∧ h.2.1 = rd x h.1 ∧ h.2.2 = rd y h.1 ∧ h.2.1 ≠ h.2.2
  | [], h, e => by cases e
  | k :: t, h, e => by
    unfold hit3 at e
    by_cases c : rd x k = rd y k
    · rw [if_pos c] at e
      obtain ⟨h1, h2⟩ := hit3_some e
      exact ⟨List.mem_cons_of_mem _ h1, h2⟩
    · rw [if_neg c] at e
      obtain rfl := Option.some.inj e
      exact ⟨List.mem_cons_self, rfl, rfl, c⟩
theorem or_some {o p : Option HT} {h : HT} (e : o.or p = some h) : o = some h ∨ p = some h := by cases o <;> simp_all
theorem hit2_some {f t x : List Int} : ∀ {ys : List RW} {h : HT}, hit2 f t x ys = some h → ∃ y ∈ ys, h.1 ∈ t ∧ h.2.1 = rd x h.1 ∧ h.2.2 = rd y.f0 h.1 ∧ h.2.1 ≠ h.2.2
  | [], h, e => by cases e
  | y :: ys, h, e => by
    unfold hit2 at e
    rcases or_some e with e | e
    · by_cases c : pk f x = pk f y.f0
      · rw [if_pos c] at e
        exact ⟨y, List.mem_cons_self, hit3_some e⟩
      · rw [if_neg c] at e; cases e
    · obtain ⟨y, h1, h2⟩ := hit2_some e
      exact ⟨y, List.mem_cons_of_mem _ h1, h2⟩
theorem hit1_some {f t : List Int} : ∀ {rows : List RW} {h : HT}, hit1 f t rows = some h → ∃ x ∈ rows, ∃ y ∈ rows, h.1 ∈ t ∧ h.2.1 = rd x.f0 h.1 ∧ h.2.2 = rd y.f0 h.1 ∧ h.2.1 ≠ h.2.2
  | [], h, e => by cases e
  | x :: ys, h, e => by
    unfold hit1 at e
    rcases or_some e with e | e
    · obtain ⟨y, h1, h2⟩ := hit2_some e
      exact ⟨x, List.mem_cons_self, y, List.mem_cons_of_mem _ h1, h2⟩
    · obtain ⟨x, h0, y, h1, h2⟩ := hit1_some e
      exact ⟨x, List.mem_cons_of_mem _ h0, y, List.mem_cons_of_mem _ h1, h2⟩
theorem hit0_some {rows : List RW} : ∀ {ds : List DP} {h : HT}, hit0 rows ds = some h → ∃ d ∈ ds, ∃ x ∈ rows, ∃ y ∈ rows, h.1 ∈ d.f1 ∧ h.2.1 = rd x.f0 h.1 ∧ h.2.2 = rd y.f0 h.1 ∧ h.2.1 ≠ h.2.2
  | [], h, e => by cases e
  | d :: ds, h, e => by
    unfold hit0 at e
    rcases or_some e with e | e
    · exact ⟨d, List.mem_cons_self, hit1_some e⟩
    · obtain ⟨d, h0, h1⟩ := hit0_some e
      exact ⟨d, List.mem_cons_of_mem _ h0, h1⟩
/-- What rows and dependencies are throughout. -/
structure Inv (c : Nat) (rows : List RW) : Prop where
  len : rows.length ≤ 8
  w : ∀ r ∈ rows, r.f0.length = c
  pos : ∀ r ∈ rows, ∀ x ∈ r.f0, 0 ≤ x
structure DOk (c : Nat) (d : DP) : Prop where
  fl : d.f0.length ≤ 1048576
  tl : d.f1.length ≤ 1048576
  fin : ∀ k ∈ d.f0, 0 ≤ k ∧ k < (c : Int)
  tin : ∀ k ∈ d.f1, 0 ≤ k ∧ k < (c : Int)
theorem rd_mem {l : List Int} {k : Int} (h0 : 0 ≤ k) (h1 : k < (l.length : Int)) : rd l k ∈ l := by
  obtain ⟨n, rfl⟩ := Int.eq_ofNat_of_zero_le h0
  rw [rd_lt (by omega)]
  exact List.getElem_mem _
theorem sum_set : ∀ (l : List Int) (i : Nat) (v : Int) (h : i < l.length), (l.set i v).sum = l.sum - l[i] + v
  | x :: xs, 0, v, h => by simp only [List.set_cons_zero, List.sum_cons, List.getElem_cons_zero]; omega
  | x :: xs, i + 1, v, h => by
    have := sum_set xs i v (by simpa using h)
    simp only [List.set_cons_succ, List.sum_cons, List.getElem_cons_succ]
    omega
theorem sum_pos : ∀ (l : List Int), (∀ x ∈ l, 0 ≤ x) → 0 ≤ l.sum
  | [], _ => Int.le_refl _
  | x :: xs, h => by
    have h1 := sum_pos xs (fun y hy => h y (List.mem_cons_of_mem _ hy))
    have h2 := h x List.mem_cons_self
    rw [List.sum_cons]
    omega
def tot (rows : List RW) : Int := (rows.map fun r => r.f0.sum).sum
theorem tot_pos {c : Nat} {rows : List RW} (h : Inv c rows) : 0 ≤ tot rows := sum_pos _ (fun x hx => by
  obtain ⟨r, hr, rfl⟩ := List.mem_map.1 hx
  exact sum_pos _ (h.pos r hr))
theorem el_len (k a b : Int) (x : RW) : (impl_Tableau_alike.el k a b x).f0.length = x.f0.length := by
  unfold impl_Tableau_alike.el
  by_cases e : rd x.f0 k = (if a < b then b else a)
  · rw [if_pos e]
    exact List.length_set
  · rw [if_neg e]
theorem el_sum (k a b : Int) (x : RW) (h0 : 0 ≤ k) (h1 : k < (x.f0.length : Int)) (hab : a ≠ b) : (impl_Tableau_alike.el k a b x).f0.sum ≤ x.f0.sum ∧ (rd x.f0 k = (if a < b then b else a) → (impl_Tableau_alike.el k a b x).f0.sum < x.f0.sum) := by
  obtain ⟨n, rfl⟩ := Int.eq_ofNat_of_zero_le h0
  have hn : n < x.f0.length := by omega
  unfold impl_Tableau_alike.el
  rw [rd_lt hn]
  by_cases c : x.f0[n] = (if a < b then b else a)
  · rw [if_pos c]
    have e := sum_set x.f0 n (if b < a then b else a) hn
    have lt : (if b < a then b else a) < (if a < b then b else a) := by split <;> split <;> omega
    show (x.f0.set ((n : Int)).toNat (if b < a then b else a)).sum ≤ _ ∧ (_ → (x.f0.set ((n : Int)).toNat (if b < a then b else a)).sum < _)
    rw [Int.toNat_natCast, e]
    omega
  · rw [if_neg c]
    exact ⟨Int.le_refl _, fun q => absurd q c⟩
theorem made_sum (k a b : Int) (hab : a ≠ b) : ∀ (rows : List RW), (∀ r ∈ rows, 0 ≤ k ∧ k < (r.f0.length : Int)) → tot (made (k, a, b) rows) ≤ tot rows ∧ ((∃ r ∈ rows, rd r.f0 k = (if a < b then b else a)) → tot (made (k, a, b) rows) < tot rows)
  | [], _ => ⟨Int.le_refl _, fun ⟨r, hr, _⟩ => by cases hr⟩
  | x :: xs, h => by
    obtain ⟨i1, i2⟩ := made_sum k a b hab xs (fun r hr => h r (List.mem_cons_of_mem _ hr))
    obtain ⟨e1, e2⟩ := el_sum k a b x (h x List.mem_cons_self).1 (h x List.mem_cons_self).2 hab
    unfold tot made at i1 i2 ⊢
    dsimp only at i1 i2 ⊢
    simp only [List.map_cons, List.sum_cons]
    refine ⟨by omega, fun ⟨r, hr, hq⟩ => ?_⟩
    rcases List.mem_cons.1 hr with rfl | hr
    · have := e2 hq; omega
    · have := i2 ⟨r, hr, hq⟩; omega
theorem inv_made {c : Nat} {rows : List RW} (h : Inv c rows) {k a b : Int} (hk : 0 ≤ k ∧ k < (c : Int)) (ha : 0 ≤ a) (hb : 0 ≤ b) : Inv c (made (k, a, b) rows) := by
  refine ⟨by unfold made; rw [List.length_map]; exact h.len, fun r hr => ?_, fun r hr x hx => ?_⟩
  · obtain ⟨q, hq, rfl⟩ := List.mem_map.1 hr
    rw [el_len]; exact h.w q hq
  · obtain ⟨q, hq, rfl⟩ := List.mem_map.1 hr
    replace hx : x ∈ (impl_Tableau_alike.el k a b q).f0 := hx
    unfold impl_Tableau_alike.el at hx
    by_cases e : rd q.f0 k = (if a < b then b else a)
    · rw [if_pos e] at hx
      rcases List.mem_or_eq_of_mem_set hx with hx | rfl
      · exact h.pos q hq x hx
      · show 0 ≤ (if b < a then b else a)
        split <;> assumption
    · rw [if_neg e] at hx
      exact h.pos q hq x hx
theorem alike_eq (k a b : Int) : ∀ rows : List RW, (∀ r ∈ rows, 0 ≤ k ∧ k < (r.f0.length : Int)) → impl_Tableau_alike.f k a b rows = some (made (k, a, b) rows)
  | [], _ => rfl
  | x :: xs, h => by
    unfold impl_Tableau_alike.f
    rw [if_pos (h x List.mem_cons_self), alike_eq k a b xs (fun r hr => h r (List.mem_cons_of_mem _ hr))]
    rfl
theorem own_eq (l : List Int) (h : l.length ≤ 1048576) : spec_l2OwnRow.f l = some l := by
  unfold spec_l2OwnRow.f
  rw [Option.bind_some, if_pos (by simp; omega), List.nil_append]
theorem mades_l (k least great : Int) (a b : Int) (hl : least = (if b < a then b else a)) (hg : great = (if a < b then b else a)) (rows : List RW) (h8 : rows.length ≤ 8) (hw : ∀ r ∈ rows, (0 ≤ k ∧ k < (r.f0.length : Int)) ∧ r.f0.length ≤ 1048576) (c : Int) (d : Nat) : ∀ i : Nat, i + d = rows.length →
    Ev (fun n => spec_l9Made.l0 n k least great rows (rows.length : Int) (i : Int) c (made (k, a, b) (rows.take i))) (c, made (k, a, b) rows) := by
  induction d with
  | zero =>
    intro i hi
    refine Ev.step (fun n => by rw [spec_l9Made.l0]) (Ev.neg (by omega) (Ev.eq (Ev.now _) ?_))
    rw [List.take_of_length_le (by omega)]
  | succ d ih =>
    intro i hi
    have hlt : i < rows.length := by omega
    obtain ⟨⟨h0, h1⟩, h2⟩ := hw _ (List.getElem_mem hlt)
    have hn := ih (i + 1) (by omega)
    rw [take_snoc hlt] at hn
    unfold made at hn ⊢
    rw [List.map_append, List.map_singleton] at hn
    have hz : (rows.take i).length ≤ 8 := by rw [List.length_take]; omega
    refine Ev.step (fun n => by rw [spec_l9Made.l0]) (Ev.pos (by omega) (Ev.pos (by omega) (Ev.pos (by omega) ?_)))
    rw [rdR_lt hlt, w64 (x := (i : Int) + 1) (by omega) (by omega)]
    refine Ev.cbind (own_eq _ h2) (Ev.pos h0 (Ev.pos h1 ?_))
    dsimp only at hn ⊢
    by_cases e : rd rows[i].f0 k = great
    · refine Ev.pos e (Ev.pos (by rw [List.length_map]; omega) ?_)
      have he : impl_Tableau_alike.el k a b rows[i] = ⟨rows[i].f0.set k.toNat least⟩ := by
        unfold impl_Tableau_alike.el
        rw [if_pos (show rd rows[i].f0 k = (if a < b then b else a) by rw [e, hg]), hl]
      rw [he] at hn
      exact hn
    · refine Ev.neg e (Ev.pos (by rw [List.length_map]; omega) ?_)
      have he : impl_Tableau_alike.el k a b rows[i] = rows[i] := by
        unfold impl_Tableau_alike.el
        rw [if_neg (show ¬ rd rows[i].f0 k = (if a < b then b else a) by rw [← hg]; exact e)]
      rw [he] at hn
      exact hn
theorem mades (k a b : Int) (rows : List RW) (h8 : rows.length ≤ 8) (hw : ∀ r ∈ rows, (0 ≤ k ∧ k < (r.f0.length : Int)) ∧ r.f0.length ≤ 1048576) (c : Int) : Ev (fun n => spec_l9Made.f n c rows k a b) (c, made (k, a, b) rows) := by
  unfold spec_l9Made.f
  by_cases h : a > b
  · refine Ev.pos h (Ev.step (fun n => by rw [spec_l9Made.j0]) ?_)
    exact mades_l k b a a b (by rw [if_pos (by omega)]) (by rw [if_neg (by omega)]) rows h8 hw c rows.length 0 (by omega)
  · refine Ev.neg h (Ev.step (fun n => by rw [spec_l9Made.j0]) ?_)
    exact mades_l k a b a b (by rw [if_neg (by omega)]) (by split <;> omega) rows h8 hw c rows.length 0 (by omega)
section
variable {c : Nat} {rows : List RW} (hc : c ≤ 6) (hI : Inv c rows)
include hc hI
theorem inv_w : ∀ {k : Int}, 0 ≤ k ∧ k < (c : Int) → ∀ r ∈ rows, (0 ≤ k ∧ k < (r.f0.length : Int)) ∧ r.f0.length ≤ 1048576 := fun hk r hr => by
  have := hI.w r hr
  omega
/-- The reference's step. -/
theorem s3 (ds tail : List RW) (deps : List DP) (dl di rl xi tl yi : Int) (xs : List RW) (f t : List Int) (ht : ∀ k ∈ t, 0 ≤ k ∧ k < (c : Int)) (hl : t.length ≤ 1048576) (x y : RW) (hx : x ∈ rows) (hy : y ∈ rows) (R : Int × List RW × Bool)
    (hR : Ev (fun n => spec_l9Step.l2 n deps dl di xs rl xi tail tl (wrap64 (yi + 1)) (c : Int) rows f t x.f0) R) (d : Nat) : ∀ j : Nat, j + d = t.length →
    Ev (fun n => spec_l9Step.l3 n deps dl di xs rl xi tail tl yi t (t.length : Int) (j : Int) (c : Int) rows f t x.f0 y.f0) ((hit3 x.f0 y.f0 (t.drop j)).elim R fun h => ((c : Int), made h rows, true)) := by
  induction d with
  | zero =>
    intro j hj
    refine Ev.step (fun n => by rw [spec_l9Step.l3]) (Ev.neg (by omega) ?_)
    rw [List.drop_of_length_le (by omega)]
    exact hR
  | succ d ih =>
    intro j hj
    have hlt : j < t.length := by omega
    have hk := ht _ (List.getElem_mem hlt)
    have wx := hI.w x hx
    have wy := hI.w y hy
    rw [drop_cons hlt]
    unfold hit3
    refine Ev.step (fun n => by rw [spec_l9Step.l3]) (Ev.pos (by omega) (Ev.pos (by omega) (Ev.pos (by omega) ?_)))
    rw [rd_lt hlt, w64 (x := (j : Int) + 1) (by omega) (by omega)]
    refine Ev.pos hk.1 (Ev.pos (by omega) (Ev.pos (by omega) ?_))
    by_cases e : rd x.f0 t[j] = rd y.f0 t[j]
    · rw [if_pos e]
      exact Ev.pos e (ih (j + 1) (by omega))
    · rw [if_neg e]
      exact Ev.neg e (Ev.bind (mades _ _ _ rows hI.len (inv_w hc hI hk) _) (Ev.now _))
theorem s2 (deps : List DP) (dl di rl xi : Int) (xs : List RW) (f t : List Int) (hf : ∀ k ∈ f, 0 ≤ k ∧ k < (c : Int)) (hfl : f.length ≤ 1048576) (ht : ∀ k ∈ t, 0 ≤ k ∧ k < (c : Int)) (hl : t.length ≤ 1048576) (x : RW) (hx : x ∈ rows) (tail : List RW) (htl : ∀ y ∈ tail, y ∈ rows) (h8 : tail.length ≤ 8) (R : Int × List RW × Bool)
    (hR : Ev (fun n => spec_l9Step.l1 n deps dl di xs rl (wrap64 (xi + 1)) (c : Int) rows f t) R) (d : Nat) : ∀ j : Nat, j + d = tail.length →
    Ev (fun n => spec_l9Step.l2 n deps dl di xs rl xi tail (tail.length : Int) (j : Int) (c : Int) rows f t x.f0) ((hit2 f t x.f0 (tail.drop j)).elim R fun h => ((c : Int), made h rows, true)) := by
  induction d with
  | zero =>
    intro j hj
    refine Ev.step (fun n => by rw [spec_l9Step.l2]) (Ev.neg (by omega) ?_)
    rw [List.drop_of_length_le (by omega)]
    exact hR
  | succ d ih =>
    intro j hj
    have hlt : j < tail.length := by omega
    have hy := htl _ (List.getElem_mem hlt)
    have wx := hI.w x hx
    have wy := hI.w _ hy
    have hn := ih (j + 1) (by omega)
    rw [drop_cons hlt]
    unfold hit2
    rw [or_elim]
    refine Ev.step (fun n => by rw [spec_l9Step.l2]) (Ev.pos (by omega) (Ev.pos (by omega) (Ev.pos (by omega) ?_)))
    rw [rdR_lt hlt]
    refine Ev.bind (pick_spec _ f hfl (fun k hk => by have := hf k hk; omega)) ?_
    refine Ev.bind (pick_spec _ f hfl (fun k hk => by have := hf k hk; omega)) ?_
    refine Ev.bind (cmp_spec _ _ (by rw [List.length_map]; omega)) ?_
    have w : wrap64 ((j : Int) + 1) = ((j + 1 : Nat) : Int) := by rw [w64 (by omega) (by omega)]; omega
    by_cases e : pk f x.f0 = pk f tail[j].f0
    · rw [if_pos e]
      refine Ev.pos (cmp0.2 e) ?_
      exact s3 hc hI [] tail deps dl di rl xi _ _ xs f t ht hl x _ hx hy _ (by rw [w]; exact hn) t.length 0 (by omega)
    · rw [if_neg e, w]
      exact Ev.neg (fun q => e (cmp0.1 q)) hn
theorem s1 (deps : List DP) (dl di : Int) (f t : List Int) (hf : ∀ k ∈ f, 0 ≤ k ∧ k < (c : Int)) (hfl : f.length ≤ 1048576) (ht : ∀ k ∈ t, 0 ≤ k ∧ k < (c : Int)) (hl : t.length ≤ 1048576) (R : Int × List RW × Bool)
    (hR : Ev (fun n => spec_l9Step.l0 n deps dl (wrap64 (di + 1)) (c : Int) rows) R) (d : Nat) : ∀ i : Nat, i + d = rows.length →
    Ev (fun n => spec_l9Step.l1 n deps dl di rows (rows.length : Int) (i : Int) (c : Int) rows f t) ((hit1 f t (rows.drop i)).elim R fun h => ((c : Int), made h rows, true)) := by
  induction d with
  | zero =>
    intro i hi
    refine Ev.step (fun n => by rw [spec_l9Step.l1]) (Ev.neg (by omega) ?_)
    rw [List.drop_of_length_le (by omega)]
    exact hR
  | succ d ih =>
    intro i hi
    have hlt : i < rows.length := by omega
    have h8 := hI.len
    have hn := ih (i + 1) (by omega)
    have w : wrap64 ((i : Int) + 1) = ((i + 1 : Nat) : Int) := by rw [w64 (by omega) (by omega)]; omega
    rw [drop_cons hlt]
    unfold hit1
    rw [or_elim]
    refine Ev.step (fun n => by rw [spec_l9Step.l1]) (Ev.pos (by omega) (Ev.pos (by omega) (Ev.pos (by omega) ?_)))
    rw [w, rdR_lt hlt]
    refine Ev.pos (by omega) (Ev.pos (by omega) ?_)
    refine Ev.cbind (a := rows.drop (i + 1)) (by rw [Int.toNat_natCast]) ?_
    exact s2 hc hI deps dl di _ _ rows f t hf hfl ht hl rows[i] (List.getElem_mem hlt) (rows.drop (i + 1)) (fun y hy => List.mem_of_mem_drop hy) (by rw [List.length_drop]; omega) _ (by rw [w]; exact hn) (rows.drop (i + 1)).length 0 (by omega)
theorem s0 (deps : List DP) (hd : ∀ e ∈ deps, DOk c e) (hdl : deps.length ≤ 1048576) (d : Nat) : ∀ i : Nat, i + d = deps.length →
    Ev (fun n => spec_l9Step.l0 n deps (deps.length : Int) (i : Int) (c : Int) rows) ((hit0 rows (deps.drop i)).elim (0, [], false) fun h => ((c : Int), made h rows, true)) := by
  induction d with
  | zero =>
    intro i hi
    rw [List.drop_of_length_le (by omega)]
    refine Ev.step (fun n => by rw [spec_l9Step.l0]) (Ev.neg (by omega) ?_)
    exact Ev.now _
  | succ d ih =>
    intro i hi
    have hlt : i < deps.length := by omega
    have hn := ih (i + 1) (by omega)
    have ok := hd _ (List.getElem_mem hlt)
    have w : wrap64 ((i : Int) + 1) = ((i + 1 : Nat) : Int) := by rw [w64 (by omega) (by omega)]; omega
    rw [drop_cons hlt]
    unfold hit0
    rw [or_elim]
    refine Ev.step (fun n => by rw [spec_l9Step.l0]) (Ev.pos (by omega) (Ev.pos (by omega) (Ev.pos (by omega) ?_)))
    rw [rdD_lt hlt]
    exact s1 hc hI deps _ _ _ _ ok.fin ok.fl ok.tin ok.tl _ (by rw [w]; exact hn) rows.length 0 (by omega)
/-- The program's step by one dependency. -/
theorem i2 (tail : List RW) (rl xi tl yi : Int) (xs : List RW) (f t : List Int) (ht : ∀ k ∈ t, 0 ≤ k ∧ k < (c : Int)) (hl : t.length ≤ 1048576) (x y : RW) (hx : x ∈ rows) (hy : y ∈ rows) (R : Bool × List RW)
    (hR : Ev (fun n => impl_Tableau_stepBy.l1 n xs rl xi tail tl (wrap64 (yi + 1)) (c : Int) rows f t x.f0) R) (d : Nat) : ∀ j : Nat, j + d = t.length →
    Ev (fun n => impl_Tableau_stepBy.l2 n xs rl xi tail tl yi t (t.length : Int) (j : Int) (c : Int) rows f t x.f0 y.f0) ((hit3 x.f0 y.f0 (t.drop j)).elim R fun h => (true, made h rows)) := by
  induction d with
  | zero =>
    intro j hj
    refine Ev.step (fun n => by rw [impl_Tableau_stepBy.l2]) (Ev.neg (by omega) ?_)
    rw [List.drop_of_length_le (by omega)]
    exact hR
  | succ d ih =>
    intro j hj
    have hlt : j < t.length := by omega
    have hk := ht _ (List.getElem_mem hlt)
    have wx := hI.w x hx
    have wy := hI.w y hy
    rw [drop_cons hlt]
    unfold hit3
    refine Ev.step (fun n => by rw [impl_Tableau_stepBy.l2]) (Ev.pos (by omega) (Ev.pos (by omega) (Ev.pos (by omega) ?_)))
    rw [rd_lt hlt, w64 (x := (j : Int) + 1) (by omega) (by omega)]
    refine Ev.pos hk.1 (Ev.pos (by omega) (Ev.pos (by omega) ?_))
    by_cases e : rd x.f0 t[j] = rd y.f0 t[j]
    · rw [if_pos e]
      exact Ev.pos e (ih (j + 1) (by omega))
    · rw [if_neg e]
      exact Ev.neg e (Ev.cbind (alike_eq _ _ _ rows (fun r hr => (inv_w hc hI hk r hr).1)) (Ev.now _))
theorem i1 (rl xi : Int) (xs : List RW) (f t : List Int) (hf : ∀ k ∈ f, 0 ≤ k ∧ k < (c : Int)) (hfl : f.length ≤ 1048576) (ht : ∀ k ∈ t, 0 ≤ k ∧ k < (c : Int)) (hl : t.length ≤ 1048576) (x : RW) (hx : x ∈ rows) (tail : List RW) (htl : ∀ y ∈ tail, y ∈ rows) (h8 : tail.length ≤ 8) (R : Bool × List RW)
    (hR : Ev (fun n => impl_Tableau_stepBy.l0 n xs rl (wrap64 (xi + 1)) (c : Int) rows f t) R) (d : Nat) : ∀ j : Nat, j + d = tail.length →
    Ev (fun n => impl_Tableau_stepBy.l1 n xs rl xi tail (tail.length : Int) (j : Int) (c : Int) rows f t x.f0) ((hit2 f t x.f0 (tail.drop j)).elim R fun h => (true, made h rows)) := by
  induction d with
  | zero =>
    intro j hj
    refine Ev.step (fun n => by rw [impl_Tableau_stepBy.l1]) (Ev.neg (by omega) ?_)
    rw [List.drop_of_length_le (by omega)]
    exact hR
  | succ d ih =>
    intro j hj
    have hlt : j < tail.length := by omega
    have hy := htl _ (List.getElem_mem hlt)
    have wx := hI.w x hx
    have wy := hI.w _ hy
    have hn := ih (j + 1) (by omega)
    rw [drop_cons hlt]
    unfold hit2
    rw [or_elim]
    refine Ev.step (fun n => by rw [impl_Tableau_stepBy.l1]) (Ev.pos (by omega) (Ev.pos (by omega) (Ev.pos (by omega) ?_)))
    rw [rdR_lt hlt]
    refine Ev.bind (pick_impl _ f hfl (fun k hk => by have := hf k hk; omega)) ?_
    refine Ev.bind (pick_impl _ f hfl (fun k hk => by have := hf k hk; omega)) ?_
    refine Ev.bind (cmp_impl _ _ (by rw [List.length_map]; omega)) ?_
    have w : wrap64 ((j : Int) + 1) = ((j + 1 : Nat) : Int) := by rw [w64 (by omega) (by omega)]; omega
    by_cases e : pk f x.f0 = pk f tail[j].f0
    · rw [if_pos e]
      refine Ev.pos (cmp0.2 e) ?_
      exact i2 hc hI tail rl xi _ _ xs f t ht hl x _ hx hy _ (by rw [w]; exact hn) t.length 0 (by omega)
    · rw [if_neg e, w]
      exact Ev.neg (fun q => e (cmp0.1 q)) hn
theorem i0 (f t : List Int) (hf : ∀ k ∈ f, 0 ≤ k ∧ k < (c : Int)) (hfl : f.length ≤ 1048576) (ht : ∀ k ∈ t, 0 ≤ k ∧ k < (c : Int)) (hl : t.length ≤ 1048576) (d : Nat) : ∀ i : Nat, i + d = rows.length →
    Ev (fun n => impl_Tableau_stepBy.l0 n rows (rows.length : Int) (i : Int) (c : Int) rows f t) ((hit1 f t (rows.drop i)).elim (false, rows) fun h => (true, made h rows)) := by
  induction d with
  | zero =>
    intro i hi
    rw [List.drop_of_length_le (by omega)]
    refine Ev.step (fun n => by rw [impl_Tableau_stepBy.l0]) (Ev.neg (by omega) ?_)
    exact Ev.now _
  | succ d ih =>
    intro i hi
    have hlt : i < rows.length := by omega
    have h8 := hI.len
    have hn := ih (i + 1) (by omega)
    have w : wrap64 ((i : Int) + 1) = ((i + 1 : Nat) : Int) := by rw [w64 (by omega) (by omega)]; omega
    rw [drop_cons hlt]
    unfold hit1
    rw [or_elim]
    refine Ev.step (fun n => by rw [impl_Tableau_stepBy.l0]) (Ev.pos (by omega) (Ev.pos (by omega) (Ev.pos (by omega) ?_)))
    rw [w, rdR_lt hlt]
    refine Ev.pos (by omega) (Ev.pos (by omega) ?_)
    refine Ev.cbind (a := rows.drop (i + 1)) (by rw [Int.toNat_natCast]) ?_
    exact i1 hc hI _ _ rows f t hf hfl ht hl rows[i] (List.getElem_mem hlt) (rows.drop (i + 1)) (fun y hy => List.mem_of_mem_drop hy) (by rw [List.length_drop]; omega) _ (by rw [w]; exact hn) (rows.drop (i + 1)).length 0 (by omega)
theorem step_st : ∀ (deps : List DP) (i : Int), 0 ≤ i → (∀ e ∈ deps, DOk c e) → ∃ v : Int × List RW, Ev (fun n => impl_Tableau_step.st n (c : Int) deps rows i) v ∧ (decide (0 ≤ v.1), v.2) = (hit0 rows deps).elim (false, rows) fun h => (true, made h rows)
  | [], i, h0, hd => ⟨(-1, rows), Ev.now _, rfl⟩
  | e :: ds, i, h0, hd => by
    have ok := hd e List.mem_cons_self
    have h := i0 hc hI e.f0 e.f1 ok.fin ok.fl ok.tin ok.tl rows.length 0 (by omega)
    rw [List.drop_zero] at h
    unfold hit0
    cases q : hit1 e.f0 e.f1 rows with
    | some z =>
      rw [q] at h
      refine ⟨(i, made z rows), ?_, by show (decide (0 ≤ i), made z rows) = (true, made z rows); rw [decide_eq_true h0]⟩
      unfold impl_Tableau_step.st impl_Tableau_stepBy.f
      exact Ev.bind h (Ev.pos rfl (Ev.now _))
    | none =>
      rw [q] at h
      obtain ⟨v, hv, he⟩ := step_st ds (i + 1) (by omega) (fun e he => hd e (List.mem_cons_of_mem _ he))
      refine ⟨v, ?_, by rw [he, none_or']⟩
      unfold impl_Tableau_step.st impl_Tableau_stepBy.f
      exact Ev.bind h (Ev.neg (by simp) hv)
theorem step_ev (deps : List DP) (hd : ∀ e ∈ deps, DOk c e) : Ev (fun n => impl_Tableau_step.f n (c : Int) rows deps) ((hit0 rows deps).elim (false, rows) fun h => (true, made h rows)) := by
  obtain ⟨v, hv, he⟩ := step_st hc hI deps 0 (by omega) hd
  rw [← he]
  unfold impl_Tableau_step.f
  exact Ev.bind hv (Ev.now _)
end
def zeroR (r : RW) : Bool := r.f0.all (fun x => x == 0)
theorem has_eq (rows : List RW) : slices_ContainsFunc_Limpl_Row_impl_Row__impl_IsLossless_1.f rows = some (rows.any zeroR) := by
  unfold slices_ContainsFunc_Limpl_Row_impl_Row__impl_IsLossless_1.f
  refine anyO_eq rows (fun x _ => ?_)
  unfold impl_IsLossless_1.f impl_areAll_int__impl_IsLossless_1_1.f
  rw [allO_eq x.f0 (p := fun z => z == 0) (show ∀ z ∈ x.f0, impl_IsLossless_1_1.f z = some (z == 0) from fun z _ => rfl)]
  rfl
theorem fin_in (rows : List RW) (h8 : rows.length ≤ 8) (L xi : Int) (x : List Int) (hx : x.length ≤ 1048576) (R : Bool × Bool) (hR : Ev (fun n => spec_IsLossless.l0 n rows L (wrap64 (xi + 1))) R) (d : Nat) : ∀ (j : Nat) (b : Bool), j + d = x.length →
    Ev (fun n => spec_IsLossless.l1 n b rows L xi x (x.length : Int) (j : Int)) (if (b && (x.drop j).all (fun z => z == 0)) = true then (true, true) else R) := by
  induction d with
  | zero =>
    intro j b hj
    rw [List.drop_of_length_le (by omega)]
    refine Ev.step (fun n => by rw [spec_IsLossless.l1]) (Ev.neg (by omega) ?_)
    cases b with
    | true => exact Ev.pos rfl (Ev.now _)
    | false => exact Ev.neg (by decide) hR
  | succ d ih =>
    intro j b hj
    have hlt : j < x.length := by omega
    rw [drop_cons hlt, List.all_cons]
    refine Ev.step (fun n => by rw [spec_IsLossless.l1]) (Ev.pos (by omega) (Ev.pos (by omega) (Ev.pos (by omega) ?_)))
    rw [rd_lt hlt, w64 (x := (j : Int) + 1) (by omega) (by omega)]
    cases b with
    | true =>
      refine Ev.pos rfl ?_
      have h := ih (j + 1) (x[j] == 0) (by omega)
      rw [Bool.true_and]
      exact h
    | false =>
      refine Ev.neg (by decide) ?_
      have h := ih (j + 1) false (by omega)
      exact h
theorem fin_out (rows : List RW) (h8 : rows.length ≤ 8) (hw : ∀ r ∈ rows, r.f0.length ≤ 1048576) (d : Nat) : ∀ i : Nat, i + d = rows.length → Ev (fun n => spec_IsLossless.l0 n rows (rows.length : Int) (i : Int)) ((rows.drop i).any zeroR, true) := by
  induction d with
  | zero =>
    intro i hi
    rw [List.drop_of_length_le (by omega)]
    refine Ev.step (fun n => by rw [spec_IsLossless.l0]) (Ev.neg (by omega) ?_)
    exact Ev.now _
  | succ d ih =>
    intro i hi
    have hlt : i < rows.length := by omega
    have w : wrap64 ((i : Int) + 1) = ((i + 1 : Nat) : Int) := by rw [w64 (by omega) (by omega)]; omega
    rw [drop_cons hlt, List.any_cons]
    refine Ev.step (fun n => by rw [spec_IsLossless.l0]) (Ev.pos (by omega) (Ev.pos (by omega) (Ev.pos (by omega) ?_)))
    rw [rdR_lt hlt]
    refine Ev.eq (fin_in rows h8 _ _ _ (hw _ (List.getElem_mem hlt)) _ (by rw [w]; exact ih (i + 1) (by omega)) rows[i].f0.length 0 true (by omega)) ?_
    rw [List.drop_zero, Bool.true_and]
    show (if zeroR rows[i] = true then (true, true) else _) = _
    cases zeroR rows[i] <;> rfl
theorem chase {c : Nat} (hc : c ≤ 6) (deps : List DP) (hd : ∀ e ∈ deps, DOk c e) (hdl : deps.length ≤ 1048576) : ∀ (n : Nat) (rows : List RW), Inv c rows → tot rows ≤ (n : Int) →
    ∃ fin : List RW, Inv c fin ∧ (∀ z : Int, ∃ m : Int, Ev (fun k => spec_l9Chase.l0 k deps z (c : Int) rows) ((c : Int), fin, m)) ∧ Ev (fun k => impl_IsLossless.l0 k deps (c : Int) rows) (fin.any zeroR, true)
  | n, rows, hI, ht => by
    have hs := s0 hc hI deps hd hdl deps.length 0 (by omega)
    have hi := step_ev hc hI deps hd
    rw [List.drop_zero] at hs
    cases q : hit0 rows deps with
    | none =>
      rw [q] at hs hi
      refine ⟨rows, hI, fun z => ⟨z, ?_⟩, ?_⟩
      · refine Ev.step (fun k => by rw [spec_l9Chase.l0]) ?_
        unfold spec_l9Step.f
        exact Ev.bind hs (Ev.neg (by simp) (Ev.now _))
      · refine Ev.step (fun k => by rw [impl_IsLossless.l0]) ?_
        exact Ev.bind hi (Ev.neg (by simp) (Ev.cbind (has_eq rows) (Ev.now _)))
    | some h =>
      rw [q] at hs hi
      obtain ⟨e, he, x, hx, y, hy, h1, h2, h3, h4⟩ := hit0_some q
      obtain ⟨k, a, b⟩ := h
      have hk := (hd e he).tin k h1
      have wx := hI.w x hx
      have wy := hI.w y hy
      have h2' : a = rd x.f0 k := h2
      have h3' : b = rd y.f0 k := h3
      have ha : 0 ≤ a := by rw [h2']; exact hI.pos x hx _ (rd_mem hk.1 (by omega))
      have hb : 0 ≤ b := by rw [h3']; exact hI.pos y hy _ (rd_mem hk.1 (by omega))
      have hJ := inv_made hI hk ha hb
      have lt : tot (made (k, a, b) rows) < tot rows := (made_sum k a b h4 rows (fun r hr => by have := hI.w r hr; omega)).2 (by
        by_cases ab : a < b
        · exact ⟨y, hy, by rw [if_pos ab]; exact h3'.symm⟩
        · exact ⟨x, hx, by rw [if_neg ab]; exact h2'.symm⟩)
      have tp := tot_pos hJ
      cases n with
      | zero => omega
      | succ n =>
        obtain ⟨fin, f1, f2, f3⟩ := chase hc deps hd hdl n (made (k, a, b) rows) hJ (by omega)
        refine ⟨fin, f1, fun z => ?_, ?_⟩
        · obtain ⟨m, hm⟩ := f2 (wrap64 (z + 1))
          refine ⟨m, Ev.step (fun k => by rw [spec_l9Chase.l0]) ?_⟩
          unfold spec_l9Step.f
          exact Ev.bind hs (Ev.pos rfl hm)
        · refine Ev.step (fun k => by rw [impl_IsLossless.l0]) ?_
          exact Ev.bind hi (Ev.pos rfl f3)
theorem cellT_pos (i : Nat) (p : List Int) (k : Nat) : 0 ≤ cellT i p k := by unfold cellT; split <;> omega
theorem rowsT_len (n : Nat) : ∀ (ps : List (List Int)) (i : Nat), (rowsT n i ps).length = ps.length
  | [], i => rfl
  | p :: ps, i => by simp [rowsT, rowsT_len n ps (i + 1)]
theorem rowsT_mem (n : Nat) : ∀ (ps : List (List Int)) (i : Nat) (r : RW), r ∈ rowsT n i ps → ∃ j p, r = ⟨rowT j p n⟩
  | [], i, r, h => by cases h
  | p :: ps, i, r, h => by
    unfold rowsT at h
    rcases List.mem_cons.1 h with rfl | h
    · exact ⟨i, p, rfl⟩
    · exact rowsT_mem n ps (i + 1) r h
theorem inv_start (n : Nat) (ps : List (List Int)) (h : ps.length ≤ 8) : Inv n (rowsT n 0 ps) := by
  refine ⟨by rw [rowsT_len]; exact h, fun r hr => ?_, fun r hr x hx => ?_⟩
  · obtain ⟨j, p, rfl⟩ := rowsT_mem n ps 0 r hr
    exact rowT_len j p n
  · obtain ⟨j, p, rfl⟩ := rowsT_mem n ps 0 r hr
    obtain ⟨k, _, rfl⟩ := List.mem_map.1 hx
    exact cellT_pos j p k
theorem dok_of {c : Nat} {d : DP} (hs : shortD d) (h : dependB (c : Int) d = true) : DOk c d := by
  unfold dependB at h
  rw [Bool.and_eq_true] at h
  exact ⟨hs.1, hs.2, some_mem h.1, some_mem h.2⟩
theorem core : Core := by
  intro x0 h0 x1 h1 x2 h2
  have k0 : x0.length + (x0.map fun y => szvS49 y).sum ≤ 1048576 := h0
  have k1 : x1.length + (x1.map fun y => y.length).sum ≤ 1048576 := h1
  have hsd : ∀ d ∈ x0, shortD d := fun d hd => by
    have u : szvS49 d ≤ (x0.map fun y => szvS49 y).sum := sum_mem (fun y : DP => szvS49 y) x0 d hd
    have e : szvS49 d = d.f0.length + d.f1.length := rfl
    exact ⟨by omega, by omega⟩
  have hl : ∀ p ∈ x1, p.length ≤ 1048576 := fun p hp => by have := sum_mem (fun y : List Int => y.length) x1 p hp; omega
  have ps := parts_spec x2 x1 k1 hl
  have pi := parts_impl x2 x1 k1 hl
  have ds := depends_spec x2 x0 (by omega) hsd
  have di := depends_impl x2 x0 (by omega) hsd
  have no_s : ∀ k, spec_IsLossless.j0 (k + 1) x0 x1 x2 true = some (false, false) := fun k => by rw [spec_IsLossless.j0, if_pos rfl]
  have no_i : ∀ k, impl_IsLossless.j0 (k + 1) x0 x1 x2 true = some (false, false) := fun k => by rw [impl_IsLossless.j0, if_pos rfl]
  unfold spec_IsLossless.f impl_IsLossless.f
  by_cases hp : partsR x2 x1.length [] x1 = true
  case neg =>
    refine ⟨(false, false), Ev.bind ps (Ev.neg hp (Ev.step no_s (Ev.now _))), Ev.bind di ?_⟩
    by_cases hg : goodDepends x2 x0 = true
    · refine Ev.pos hg (Ev.bind pi ?_)
      rw [Bool.not_eq_true] at hp
      rw [hp]
      exact Ev.step no_i (Ev.now _)
    · exact Ev.neg hg (Ev.step no_i (Ev.now _))
  by_cases hg : goodDepends x2 x0 = true
  case neg =>
    refine ⟨(false, false), Ev.bind ps (Ev.pos hp (Ev.bind ds ?_)), Ev.bind di (Ev.neg hg (Ev.step no_i (Ev.now _)))⟩
    rw [Bool.not_eq_true] at hg
    rw [hg]
    exact Ev.step no_s (Ev.now _)
  have hok : (1 ≤ x2 ∧ x2 ≤ 6) ∧ (1 ≤ x1.length ∧ x1.length ≤ 8) := by
    unfold partsR okN at hp
    simp only [Bool.and_eq_true, decide_eq_true_eq] at hp
    exact hp.2.1
  obtain ⟨n, rfl⟩ : ∃ n : Nat, x2 = (n : Int) := ⟨x2.toNat, by omega⟩
  have hd : ∀ e ∈ x0, DOk n e := fun e he => dok_of (hsd e he) (by
    unfold goodDepends at hg
    simp only [Bool.and_eq_true, decide_eq_true_eq] at hg
    exact List.all_eq_true.1 hg.2.2 e he)
  have hI := inv_start n x1 (by omega)
  obtain ⟨fin, f1, f2, f3⟩ := chase (c := n) (by omega) x0 hd (by omega) (tot (rowsT n 0 x1)).toNat _ hI (by omega)
  obtain ⟨m, hm⟩ := f2 0
  refine ⟨(fin.any zeroR, true), Ev.bind ps (Ev.pos hp (Ev.bind ds ?_)), Ev.bind di (Ev.pos hg (Ev.bind pi ?_))⟩
  · rw [hg]
    refine Ev.step (fun k => by rw [spec_IsLossless.j0]) (Ev.neg (by decide) ?_)
    refine Ev.bind (a := ((n : Int), rowsT n 0 x1)) ?_ ?_
    · unfold spec_l9Start.f
      simpa using spec_rows n (by omega) x1 (by omega) hl (n : Int) x1.length 0 [] (by omega) rfl
    · unfold spec_l9Chase.f
      refine Ev.bind hm ?_
      have h := fin_out fin f1.len (fun r hr => by have := f1.w r hr; omega) fin.length 0 (by omega)
      exact h
  · rw [hp]
    refine Ev.step (fun k => by rw [impl_IsLossless.j0]) (Ev.neg (by decide) ?_)
    refine Ev.bind (a := ((n : Int), rowsT n 0 x1)) ?_ f3
    unfold impl_start.f
    simpa using impl_rows n (by omega) x1 (by omega) hl (n : Int) x1.length 0 [] (by omega) rfl
theorem FnExactIsLossless : laws_FnExactIsLossless.Pure := law core

end Go.Proofs.Ytmelechhnimlnad.Pure
