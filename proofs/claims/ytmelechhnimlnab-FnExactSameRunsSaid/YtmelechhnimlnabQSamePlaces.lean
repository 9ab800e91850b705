/- Runs that mean the same: what the reference computes, in plain words. No conditions. -/
import Derived.Test.YtmelechhnimlnabQSourcesOf
import Derived.Test.YtmelechhnimlnabQRuns
import Derived.Test.YtmelechhnimlnabXP
import Derived.Test.YtmelechhnimlnabG5
import Derived.Test.YtmelechhnimlnabG4
import Derived.Test.YtmelechhnimlnabG3
namespace Go.Proofs.Ytmelechhnimlnab.Pure
open Go.RowKit Go.Proofs.Ytmelechhnimlnab.G Go.Proofs.Ytmelechhnimlnab.X Go.Proofs.YtmelechhnimlnabW.PrintWords
set_option linter.unusedVariables false

abbrev rdI (l : List S32) (i : Int) : S32 := rd_T32 l i
theorem rdI_nth {l : List S32} {i : Nat} (h : i < l.length) : l[i]? = some (rdS l i) := by
  show l[i]? = some (l.getD _ _)
  rw [Int.toNat_natCast, List.getD_eq_getElem?_getD, List.getElem?_eq_getElem h]
  rfl
theorem rdI_of {l : List S32} {i : Nat} {s : S32} (h : l[i]? = some s) : i < l.length ∧ rdS l i = s := by
  have hl := (List.getElem?_eq_some_iff.mp h).1
  have := (rdI_nth hl).symm.trans h
  exact ⟨hl, Option.some.inj this⟩
theorem cnt_succ {α : Type} (p : α → Bool) (l : List α) (i : Nat) (s : α) (h : l[i]? = some s) : cnt p l (i + 1) = cnt p l i + (if p s = true then 1 else 0) := by
  unfold cnt
  obtain ⟨hl, he⟩ := List.getElem?_eq_some_iff.mp h
  rw [List.take_succ_eq_append_getElem hl, he, List.filter_append, List.length_append]
  by_cases c : p s = true
  · simp [c]
  · simp [c]
theorem cnt_le {α : Type} (p : α → Bool) (l : List α) (i : Nat) : cnt p l i ≤ l.length := by
  unfold cnt
  have h1 := List.length_filter_le p (l.take i)
  have h2 := List.length_take_le i l
  have h3 := List.length_take_le' i l
  omega
def own (l : List S32) (t : Int) (i : Nat) : Nat := cnt (fun u => decide (u.f0 = t)) l i
def plc (l : List S32) (i : Int) : Pl := if i < 0 then (-1, 0) else ((rdI l i).f0, (own l (rdI l i).f0 i.toNat : Int))
def atF (b : List S32) (t n : Int) : Nat → Nat → Int
  | 0, _ => -1
  | d + 1, i => if (rdS b i).f0 = t ∧ (own b t i : Int) = n then (i : Int) else atF b t n d (i + 1)
def thr (a b : List S32) (i : Int) : Int := if i < 0 then -1 else atF b (rdI a i).f0 (own a (rdI a i).f0 i.toNat) b.length 0
theorem atF_cases (b : List S32) (t n : Int) : ∀ (d i : Nat), i + d = b.length →
    (atF b t n d i = -1 ∧ ∀ m, i ≤ m → m < b.length → ¬ ((rdS b m).f0 = t ∧ (own b t m : Int) = n)) ∨ ∃ m : Nat, m < b.length ∧ atF b t n d i = m ∧ (rdS b m).f0 = t ∧ (own b t m : Int) = n
  | 0, i, h => .inl ⟨rfl, fun m h1 h2 => by omega⟩
  | d + 1, i, h => by
    unfold atF
    by_cases c : (rdS b i).f0 = t ∧ (own b t i : Int) = n
    · rw [if_pos c]
      exact .inr ⟨i, by omega, rfl, c.1, c.2⟩
    · rw [if_neg c]
      rcases atF_cases b t n d (i + 1) (by omega) with ⟨h1, h2⟩ | h1
      · refine .inl ⟨h1, fun m hm1 hm2 => ?_⟩
        by_cases e : m = i
        · rw [e]; exact c
        · exact h2 m (by omega) hm2
      · exact .inr h1
theorem thr_cases (a b : List S32) (i : Nat) :
    (thr a b i = -1 ∧ ∀ m, m < b.length → ¬ ((rdS b m).f0 = (rdS a i).f0 ∧ own b (rdS a i).f0 m = own a (rdS a i).f0 i)) ∨ ∃ m : Nat, m < b.length ∧ thr a b i = m ∧ (rdS b m).f0 = (rdS a i).f0 ∧ own b (rdS a i).f0 m = own a (rdS a i).f0 i := by
  unfold thr
  rw [if_neg (by omega), Int.toNat_natCast]
  rcases atF_cases b (rdS a i).f0 (own a (rdS a i).f0 i) b.length 0 (by omega) with ⟨h1, h2⟩ | ⟨m, h1, h2, h3, h4⟩
  · exact .inl ⟨h1, fun m hm hc => h2 m (by omega) hm ⟨hc.1, by exact_mod_cast hc.2⟩⟩
  · exact .inr ⟨m, h1, h2, h3, by exact_mod_cast h4⟩
theorem thr_neg (a b : List S32) {i : Int} (h : i < 0) : thr a b i = -1 := by unfold thr; rw [if_pos h]
theorem thr_lt (a b : List S32) (i : Int) : -1 ≤ thr a b i ∧ thr a b i < (b.length : Int) := by
  by_cases h : i < 0
  · rw [thr_neg a b h]; omega
  · obtain ⟨n, rfl⟩ : ∃ n : Nat, i = n := ⟨i.toNat, by omega⟩
    rcases thr_cases a b n with ⟨h1, _⟩ | ⟨m, h1, h2, _⟩ <;> omega
theorem lastW_lt (l : List S32) (it : Int) : ∀ n : Nat, -1 ≤ lastW l it n ∧ lastW l it n < (n : Int)
  | 0 => ⟨Int.le_refl _, by unfold lastW; omega⟩
  | n + 1 => by
    unfold lastW
    have := lastW_lt l it n
    split <;> omega

/-! ### The reference's functions -/
theorem own_l (l : List S32) (hl : l.length ≤ 1048576) (q : Nat) (hq : q < l.length) (d : Nat) : ∀ (j : Nat), j + d = q →
    Ev (fun k => spec_l13Own.l0 k l (q : Int) (cnt (fun u => decide (u.f0 = (rdS l q).f0)) l j : Int) (l.take q) ((l.take q).length : Int) (j : Int)) (own l (rdS l q).f0 q : Int) := by
  induction d with
  | zero =>
    intro j hj
    obtain rfl : j = q := by omega
    refine Ev.step (f := fun _ => some ((cnt (fun u => decide (u.f0 = (rdS l j).f0)) l j : Nat) : Int)) (fun k => by simp only [spec_l13Own.l0]; rw [if_neg (by rw [List.length_take]; omega)]) (Ev.now _)
  | succ d ih =>
    intro j hj
    have hlt : j < l.length := by omega
    have hlen : (l.take q).length = q := by rw [List.length_take]; omega
    have e1 : wrap64 ((j : Int) + 1) = ((j + 1 : Nat) : Int) := by rw [w64 (by omega) (by omega)]; rfl
    have hc := cnt_le (fun u : S32 => decide (u.f0 = (rdS l q).f0)) l j
    have er : rd_T32 (l.take q) (j : Int) = rdS l j := by
      show (l.take q).getD _ _ = l.getD _ _
      rw [Int.toNat_natCast, List.getD_eq_getElem?_getD, List.getD_eq_getElem?_getD, List.getElem?_take_of_lt (by omega)]
    have hs := cnt_succ (fun u : S32 => decide (u.f0 = (rdS l q).f0)) l j _ (rdI_nth hlt)
    have h' := ih (j + 1) (by omega)
    rw [hs] at h'
    by_cases c : (rdS l j).f0 = (rdS l q).f0
    · rw [if_pos (decide_eq_true c)] at h'
      refine Ev.step (f := fun k => spec_l13Own.l0 k l (q : Int) ((cnt (fun u => decide (u.f0 = (rdS l q).f0)) l j + 1 : Nat) : Int) (l.take q) ((l.take q).length : Int) ((j + 1 : Nat) : Int)) (fun k => ?_) h'
      simp only [spec_l13Own.l0]
      rw [if_pos (by omega), if_pos (by omega), if_pos (by omega), if_pos (by omega), if_pos (by omega), er, if_pos c, e1, w64 (by omega) (by omega)]
      rfl
    · rw [if_neg (fun h => c (of_decide_eq_true h))] at h'
      refine Ev.step (f := fun k => spec_l13Own.l0 k l (q : Int) ((cnt (fun u => decide (u.f0 = (rdS l q).f0)) l j : Nat) : Int) (l.take q) ((l.take q).length : Int) ((j + 1 : Nat) : Int)) (fun k => ?_) h'
      simp only [spec_l13Own.l0]
      rw [if_pos (by omega), if_pos (by omega), if_pos (by omega), if_pos (by omega), if_pos (by omega), er, if_neg c, e1]
theorem own_spec (l : List S32) (hl : l.length ≤ 1048576) (q : Nat) (hq : q < l.length) : Ev (fun k => spec_l13Own.f k l (q : Int)) (own l (rdS l q).f0 q : Int) := by
  unfold spec_l13Own.f
  refine Ev.pos (by omega) (Ev.pos (by omega) (Ev.cbind (a := l.take q) (by rw [Int.toNat_natCast]) ?_))
  exact own_l l hl q hq q 0 (by omega)
theorem at_l (b : List S32) (hl : b.length ≤ 1048576) (t n : Int) : ∀ (d i : Nat), i + d = b.length → Ev (fun k => spec_l13At.l0 k b t n b (b.length : Int) (i : Int)) (atF b t n d i)
  | 0, i, h => Ev.step (f := fun _ => some (-1)) (fun k => by simp only [spec_l13At.l0]; rw [if_neg (by omega)]) (Ev.now _)
  | d + 1, i, h => by
    have hlt : i < b.length := by omega
    have e1 : wrap64 ((i : Int) + 1) = ((i + 1 : Nat) : Int) := by rw [w64 (by omega) (by omega)]; rfl
    have h' := at_l b hl t n d (i + 1) (by omega)
    by_cases c : (rdS b i).f0 = t
    · refine Ev.step (f := fun k => (spec_l13Own.f k b (i : Int)).bind fun o => if o = n then some (i : Int) else spec_l13At.l0 k b t n b (b.length : Int) ((i + 1 : Nat) : Int)) (fun k => ?_) (Ev.bind (own_spec b hl i hlt) ?_)
      · simp only [spec_l13At.l0]
        rw [if_pos (by omega), if_pos (by omega), if_pos (by omega), if_pos c, e1]
      · rw [c]
        unfold atF
        by_cases c2 : (own b t i : Int) = n
        · rw [if_pos ⟨c, c2⟩]; exact Ev.pos c2 (Ev.now _)
        · rw [if_neg (fun h => c2 h.2)]; exact Ev.neg c2 h'
    · refine Ev.step (f := fun k => spec_l13At.l0 k b t n b (b.length : Int) ((i + 1 : Nat) : Int)) (fun k => ?_) ?_
      · simp only [spec_l13At.l0]
        rw [if_pos (by omega), if_pos (by omega), if_pos (by omega), if_neg c, e1]
      · unfold atF
        rw [if_neg (fun h => c h.1)]
        exact h'
theorem there_ev (a b : List S32) (ha : a.length ≤ 1048576) (hb : b.length ≤ 1048576) (i : Int) (h0 : -1 ≤ i) (h1 : i < (a.length : Int)) : Ev (fun k => spec_l13There.f k a b i) (thr a b i) := by
  unfold spec_l13There.f
  by_cases c : i < 0
  · rw [thr_neg a b c]; exact Ev.pos c (Ev.now _)
  · obtain ⟨n, rfl⟩ : ∃ n : Nat, i = n := ⟨i.toNat, by omega⟩
    refine Ev.neg c (Ev.pos (by omega) (Ev.pos h1 (Ev.bind (own_spec a ha n (by omega)) (Ev.bind (a := thr a b n) ?_ (Ev.now _)))))
    unfold thr spec_l13At.f
    rw [if_neg c, Int.toNat_natCast]
    exact at_l b hb _ _ b.length 0 (by omega)
def okS (a b : List S32) (m : Nat) : Prop := 0 ≤ thr a b m ∧ rdI b (thr a b m) = rdS a m ∧ ((rdS a m).f1 = 1 → thr a b (lastW a (rdS a m).f2 m) = lastW b (rdS a m).f2 (thr a b m).toNat)
def okE (a b : List S32) (it : Int) : Prop := thr a b (lastW a it a.length) = lastW b it b.length
theorem ends_ev (a b : List S32) (ha : a.length ≤ 1048576) (hb : b.length ≤ 1048576) : ∀ (d : Nat) (it : Int), 0 ≤ it → it + d = 4 → ∃ r, Ev (fun k => spec_SameRuns.l1 k a b it) (r, true) ∧ (r = true ↔ ∀ u, it ≤ u → u < 4 → okE a b u)
  | 0, it, h0, h => ⟨true, Ev.step (f := fun _ => some (true, true)) (fun k => by simp only [spec_SameRuns.l1]; rw [if_neg (by omega)]) (Ev.now _), ⟨fun _ u h1 h2 => by omega, fun _ => rfl⟩⟩
  | d + 1, it, h0, h => by
    obtain ⟨r, hr, hi⟩ := ends_ev a b ha hb d (it + 1) (by omega) (by omega)
    have e1 : wrap64 (it + 1) = it + 1 := w64 (by omega) (by omega)
    have hw := lastW_lt a it a.length
    have st : ∀ s, Ev (fun k => if thr a b (lastW a it a.length) = lastW b it b.length then spec_SameRuns.l1 k a b (it + 1) else some (false, true)) s → Ev (fun k => spec_SameRuns.l1 k a b it) s := fun s hs => by
      refine Ev.step (f := fun k => (spec_l13Last.f k a (a.length : Int) it).bind fun t1 => (spec_l13There.f k a b t1).bind fun t2 => (spec_l13Last.f k b (b.length : Int) it).bind fun t3 => if t2 = t3 then spec_SameRuns.l1 k a b (it + 1) else some (false, true)) (fun k => ?_) (Ev.bind (lastW_specF a ha it a.length (Nat.le_refl _)) (Ev.bind (there_ev a b ha hb _ hw.1 hw.2) (Ev.bind (lastW_specF b hb it b.length (Nat.le_refl _)) hs)))
      simp only [spec_SameRuns.l1]
      rw [if_pos (by omega), e1]
    by_cases c : okE a b it
    · refine ⟨r, st _ (Ev.pos c hr), ⟨fun h u h1 h2 => ?_, fun h => hi.2 (fun u h1 h2 => h u (by omega) h2)⟩⟩
      by_cases e : u = it
      · rw [e]; exact c
      · exact hi.1 h u (by omega) h2
    · exact ⟨false, st _ (Ev.neg c (Ev.now _)), ⟨fun h => (by cases h), fun h => absurd (h it (by omega) (by omega)) c⟩⟩

theorem eqSt (x y : S32) : (!(x.f0 == y.f0) || (!(x.f1 == y.f1) || !(x.f2 == y.f2))) = true ↔ x ≠ y := by
  obtain ⟨x0, x1, x2⟩ := x
  obtain ⟨y0, y1, y2⟩ := y
  simp only [ne_eq, S32.mk.injEq, Bool.or_eq_true, Bool.not_eq_true', beq_eq_false_iff_ne]
  constructor
  · rintro (h | h | h) ⟨a, b, c⟩
    · exact h a
    · exact h b
    · exact h c
  · intro h
    by_cases a : x0 = y0
    · by_cases b : x1 = y1
      · exact .inr (.inr (fun c => h ⟨a, b, c⟩))
      · exact .inr (.inl b)
    · exact .inl a
theorem runs_ev (a b : List S32) (ha : a.length ≤ 1048576) (hb : b.length ≤ 1048576) (hl : a.length = b.length) : ∀ (d i : Nat), i + d = a.length → ∃ r, Ev (fun k => spec_SameRuns.l0 k a b a (a.length : Int) (i : Int)) (r, true) ∧ (r = true ↔ (∀ m, i ≤ m → m < a.length → okS a b m) ∧ ∀ u, 0 ≤ u → u < 4 → okE a b u)
  | 0, i, h => by
    obtain ⟨r, hr, hi⟩ := ends_ev a b ha hb 4 0 (by omega) (by omega)
    refine ⟨r, Ev.step (f := fun k => spec_SameRuns.l1 k a b 0) (fun k => by simp only [spec_SameRuns.l0]; rw [if_neg (by omega)]) hr, ⟨fun h2 => ⟨fun m h3 h4 => by omega, hi.1 h2⟩, fun h2 => hi.2 h2.2⟩⟩
  | d + 1, i, h => by
    obtain ⟨r, hr, hi⟩ := runs_ev a b ha hb hl d (i + 1) (by omega)
    have hlt : i < a.length := by omega
    have e1 : wrap64 ((i : Int) + 1) = ((i + 1 : Nat) : Int) := by rw [w64 (by omega) (by omega)]; rfl
    have tl := thr_lt a b i
    have good : okS a b i → (r = true ↔ (∀ m, i ≤ m → m < a.length → okS a b m) ∧ ∀ u, 0 ≤ u → u < 4 → okE a b u) := fun hk => ⟨fun h2 => ⟨fun m h3 h4 => by
      by_cases e : m = i
      · rw [e]; exact hk
      · exact (hi.1 h2).1 m (by omega) h4, (hi.1 h2).2⟩, fun h2 => hi.2 ⟨fun m h3 h4 => h2.1 m (by omega) h4, h2.2⟩⟩
    have bad : ¬ okS a b i → (false = true ↔ (∀ m, i ≤ m → m < a.length → okS a b m) ∧ ∀ u, 0 ≤ u → u < 4 → okE a b u) := fun hk => ⟨fun h2 => (by cases h2), fun h2 => absurd (h2.1 i (Nat.le_refl _) hlt) hk⟩
    have st : ∀ s, Ev (fun k => if thr a b i < 0 then spec_SameRuns.j2 k a b i (thr a b i) a (a.length : Int) i true (rdS a i).f0 (rdS a i).f1 (rdS a i).f2 else spec_SameRuns.j2 k a b i (thr a b i) a (a.length : Int) i (!((rdI b (thr a b i)).f0 == (rdS a i).f0) || (!((rdI b (thr a b i)).f1 == (rdS a i).f1) || !((rdI b (thr a b i)).f2 == (rdS a i).f2))) (rdS a i).f0 (rdS a i).f1 (rdS a i).f2) s →
        Ev (fun k => spec_SameRuns.l0 k a b a (a.length : Int) (i : Int)) s := fun s hs => by
      refine Ev.step (f := fun k => (spec_l13There.f k a b (i : Int)).bind fun t => if t < 0 then spec_SameRuns.j2 k a b i t a (a.length : Int) i true (rdS a i).f0 (rdS a i).f1 (rdS a i).f2 else (if 0 ≤ t then (if t < (b.length : Int) then spec_SameRuns.j2 k a b i t a (a.length : Int) i (!((rdI b t).f0 == (rdS a i).f0) || (!((rdI b t).f1 == (rdS a i).f1) || !((rdI b t).f2 == (rdS a i).f2))) (rdS a i).f0 (rdS a i).f1 (rdS a i).f2 else none) else none)) (fun k => ?_) (Ev.bind (there_ev a b ha hb i (by omega) (by omega)) ?_)
      · simp only [spec_SameRuns.l0]
        rw [if_pos (by omega), if_pos (by omega), if_pos (by omega)]
      · by_cases c : thr a b i < 0
        · simp only [if_pos c] at hs ⊢
          exact hs
        · simp only [if_neg c] at hs ⊢
          exact Ev.pos (by omega) (Ev.pos tl.2 hs)
    by_cases c : thr a b i < 0
    · refine ⟨false, st _ (Ev.pos c (Ev.step (f := fun _ => some (false, true)) (fun k => by simp only [spec_SameRuns.j2]; rw [if_pos trivial]) (Ev.now _))), bad (fun hk => by have := hk.1; omega)⟩
    by_cases c2 : rdI b (thr a b i) = rdS a i
    case neg =>
      refine ⟨false, st _ (Ev.neg c (Ev.step (f := fun _ => some (false, true)) (fun k => by simp only [spec_SameRuns.j2]; rw [if_pos ((eqSt _ _).2 c2)]) (Ev.now _))), bad (fun hk => c2 hk.2.1)⟩
    have nq : ¬ ((!((rdI b (thr a b i)).f0 == (rdS a i).f0) || (!((rdI b (thr a b i)).f1 == (rdS a i).f1) || !((rdI b (thr a b i)).f2 == (rdS a i).f2))) = true) := fun hq => (eqSt _ _).1 hq c2
    by_cases c3 : (rdS a i).f1 = 1
    case neg =>
      refine ⟨r, st _ (Ev.neg c (Ev.step (f := fun k => spec_SameRuns.l0 k a b a (a.length : Int) ((i + 1 : Nat) : Int)) (fun k => by simp only [spec_SameRuns.j2]; rw [if_neg nq, if_neg c3, e1]) hr)), good ⟨by omega, c2, fun h => absurd h c3⟩⟩
    have hw := lastW_lt a (rdS a i).f2 i
    obtain ⟨q, hq⟩ : ∃ q : Nat, thr a b i = q := ⟨(thr a b i).toNat, by omega⟩
    have st2 : ∀ s, Ev (fun k => if thr a b (lastW a (rdS a i).f2 i) = lastW b (rdS a i).f2 q then spec_SameRuns.l0 k a b a (a.length : Int) ((i + 1 : Nat) : Int) else some (false, true)) s → Ev (fun k => spec_SameRuns.l0 k a b a (a.length : Int) (i : Int)) s := fun s hs => by
      refine st s (Ev.neg c (Ev.step (f := fun k => (spec_l13Last.f k a (i : Int) (rdS a i).f2).bind fun t1 => (spec_l13There.f k a b t1).bind fun t2 => (spec_l13Last.f k b (q : Int) (rdS a i).f2).bind fun t3 => if t2 = t3 then spec_SameRuns.l0 k a b a (a.length : Int) ((i + 1 : Nat) : Int) else some (false, true)) (fun k => ?_) (Ev.bind (lastW_specF a ha _ i (by omega)) (Ev.bind (there_ev a b ha hb _ hw.1 (by omega)) (Ev.bind (lastW_specF b hb _ q (by omega)) hs)))))
      simp only [spec_SameRuns.j2]
      rw [if_neg nq, if_pos c3, e1, hq]
    by_cases c4 : thr a b (lastW a (rdS a i).f2 i) = lastW b (rdS a i).f2 q
    · exact ⟨r, st2 _ (Ev.pos c4 hr), good ⟨by omega, c2, fun _ => by rw [hq, Int.toNat_natCast]; exact c4⟩⟩
    · exact ⟨false, st2 _ (Ev.neg c4 (Ev.now _)), bad (fun hk => c4 (by have := hk.2.2 c3; rw [hq, Int.toNat_natCast] at this; exact this))⟩
/-- What the reference answers. -/
theorem spec_ev (a b : List S32) (ha : a.length ≤ 1048576) (hb : b.length ≤ 1048576) (ga : goodSteps a = true) (gb : goodSteps b = true) : ∃ r, Ev (fun k => spec_SameRuns.f k a b) (r, true) ∧ (r = true ↔ a.length = b.length ∧ (∀ m, m < a.length → okS a b m) ∧ ∀ u, 0 ≤ u → u < 4 → okE a b u) := by
  have st : ∀ s, Ev (fun k => if (a.length : Int) = (b.length : Int) then spec_SameRuns.l0 k a b a (a.length : Int) 0 else some (false, true)) s → Ev (fun k => spec_SameRuns.f k a b) s := fun s hs => by
    unfold spec_SameRuns.f
    refine Ev.bind (goodSteps_spec a ha) (Ev.pos ga (Ev.bind (goodSteps_spec b hb) ?_))
    refine Ev.step (f := fun k => if (a.length : Int) = (b.length : Int) then spec_SameRuns.l0 k a b a (a.length : Int) 0 else some (false, true)) (fun k => ?_) hs
    simp only [spec_SameRuns.j0]
    rw [if_neg (by rw [gb]; decide)]
  by_cases hl : a.length = b.length
  · obtain ⟨r, hr, hi⟩ := runs_ev a b ha hb hl a.length 0 (by omega)
    exact ⟨r, st _ (Ev.pos (by omega) hr), ⟨fun h => ⟨hl, fun m hm => (hi.1 h).1 m (Nat.zero_le _) hm, (hi.1 h).2⟩, fun h => hi.2 ⟨fun m _ hm => h.2.1 m hm, h.2.2⟩⟩⟩
  · exact ⟨false, st _ (Ev.neg (by omega) (Ev.now _)), ⟨fun h => (by cases h), fun h => absurd h.1 hl⟩⟩

end Go.Proofs.Ytmelechhnimlnab.Pure
