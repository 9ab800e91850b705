/- The plain law of SameRuns: both functions answer alike. No conditions. -/
import Derived.Test.YtmelechhnimlnabHFnExactSameRuns
import Derived.Test.YtmelechhnimlnabQSameMeaning
namespace Go.Proofs.Ytmelechhnimlnab.Pure
open Go.RowKit Go.Proofs.Ytmelechhnimlnab.G Go.Proofs.Ytmelechhnimlnab.X Go.Proofs.YtmelechhnimlnabW.PrintWords Go.Proofs.Ytmelechhnimlnab.HFnExactSameRuns
set_option linter.unusedVariables false

theorem eqPl (x y : S44) : (!(x.f0 == y.f0) || !(x.f1 == y.f1)) = true ↔ x ≠ y := by
  obtain ⟨x0, x1⟩ := x
  obtain ⟨y0, y1⟩ := y
  simp only [ne_eq, S44.mk.injEq, Bool.or_eq_true, Bool.not_eq_true', beq_eq_false_iff_ne]
  constructor
  · rintro (h | h) ⟨a, b⟩
    · exact h a
    · exact h b
  · intro h
    by_cases a : x0 = y0
    · exact .inr (fun b => h ⟨a, b⟩)
    · exact .inl a
theorem list_St (x y : List S32) (hl : x.length = y.length) : x = y ↔ ∀ m : Nat, m < x.length → rd_T32 x (m : Int) = rd_T32 y (m : Int) := by
  constructor
  · intro h m _
    rw [h]
  · intro h
    apply List.ext_getElem hl
    intro m h1 h2
    have := h m h1
    simpa [rd_T32, h1, h2] using this
theorem equal_St_l (x y : List S32) (hx : x.length ≤ 1048576) (hl : x.length = y.length) : ∀ (d i : Nat), i + d = x.length → ∃ r, Ev (fun k => slices_Equal_Limpl_Step_impl_Step.l0 k x y (x.length : Int) (i : Int)) r ∧ (r = true ↔ ∀ m : Nat, i ≤ m → m < x.length → rd_T32 x (m : Int) = rd_T32 y (m : Int))
  | 0, i, h => ⟨true, Ev.step (f := fun _ => some true) (fun k => by simp only [slices_Equal_Limpl_Step_impl_Step.l0]; rw [if_neg (by omega)]) (Ev.now _), ⟨fun _ m h1 h2 => by omega, fun _ => rfl⟩⟩
  | d + 1, i, h => by
    obtain ⟨r, hr, hi⟩ := equal_St_l x y hx hl d (i + 1) (by omega)
    have e1 : wrap64 ((i : Int) + 1) = ((i + 1 : Nat) : Int) := by rw [w64 (by omega) (by omega)]; rfl
    by_cases c : rd_T32 x (i : Int) = rd_T32 y (i : Int)
    · refine ⟨r, Ev.step (f := fun k => slices_Equal_Limpl_Step_impl_Step.l0 k x y (x.length : Int) ((i + 1 : Nat) : Int)) (fun k => ?_) hr, ⟨fun h2 m h3 h4 => ?_, fun h2 => hi.2 (fun m h3 h4 => h2 m (by omega) h4)⟩⟩
      · simp only [slices_Equal_Limpl_Step_impl_Step.l0]
        rw [if_pos (by omega), if_pos (by omega), if_pos (by omega), if_pos (by omega), if_neg (fun hq => (eqSt _ _).1 hq c), e1]
      · by_cases e : m = i
        · rw [e]; exact c
        · exact hi.1 h2 m (by omega) h4
    · refine ⟨false, Ev.step (f := fun _ => some false) (fun k => ?_) (Ev.now _), ⟨fun h2 => (by cases h2), fun h2 => absurd (h2 i (Nat.le_refl _) (by omega)) c⟩⟩
      simp only [slices_Equal_Limpl_Step_impl_Step.l0]
      rw [if_pos (by omega), if_pos (by omega), if_pos (by omega), if_pos (by omega), if_pos ((eqSt _ _).2 c)]
theorem equal_St (x y : List S32) (hx : x.length ≤ 1048576) : ∃ r, Ev (fun k => slices_Equal_Limpl_Step_impl_Step.f k x y) r ∧ (r = true ↔ x = y) := by
  by_cases hl : x.length = y.length
  · obtain ⟨r, hr, hi⟩ := equal_St_l x y hx hl x.length 0 (by omega)
    refine ⟨r, ?_, ?_⟩
    · unfold slices_Equal_Limpl_Step_impl_Step.f
      exact Ev.pos (by omega) hr
    · rw [hi, list_St x y hl]
      exact ⟨fun h m hm => h m (Nat.zero_le _) hm, fun h m _ hm => h m hm⟩
  · refine ⟨false, ?_, ⟨fun h => (by cases h), fun h => absurd (by rw [h]) hl⟩⟩
    unfold slices_Equal_Limpl_Step_impl_Step.f
    exact Ev.neg (by omega) (Ev.now _)
theorem list_Pl (x y : List S44) (hl : x.length = y.length) : x = y ↔ ∀ m : Nat, m < x.length → rd_T44 x (m : Int) = rd_T44 y (m : Int) := by
  constructor
  · intro h m _
    rw [h]
  · intro h
    apply List.ext_getElem hl
    intro m h1 h2
    have := h m h1
    simpa [rd_T44, h1, h2] using this
theorem equal_Pl_l (x y : List S44) (hx : x.length ≤ 1048576) (hl : x.length = y.length) : ∀ (d i : Nat), i + d = x.length → ∃ r, Ev (fun k => slices_Equal_Limpl_place_impl_place.l0 k x y (x.length : Int) (i : Int)) r ∧ (r = true ↔ ∀ m : Nat, i ≤ m → m < x.length → rd_T44 x (m : Int) = rd_T44 y (m : Int))
  | 0, i, h => ⟨true, Ev.step (f := fun _ => some true) (fun k => by simp only [slices_Equal_Limpl_place_impl_place.l0]; rw [if_neg (by omega)]) (Ev.now _), ⟨fun _ m h1 h2 => by omega, fun _ => rfl⟩⟩
  | d + 1, i, h => by
    obtain ⟨r, hr, hi⟩ := equal_Pl_l x y hx hl d (i + 1) (by omega)
    have e1 : wrap64 ((i : Int) + 1) = ((i + 1 : Nat) : Int) := by rw [w64 (by omega) (by omega)]; rfl
    by_cases c : rd_T44 x (i : Int) = rd_T44 y (i : Int)
    · refine ⟨r, Ev.step (f := fun k => slices_Equal_Limpl_place_impl_place.l0 k x y (x.length : Int) ((i + 1 : Nat) : Int)) (fun k => ?_) hr, ⟨fun h2 m h3 h4 => ?_, fun h2 => hi.2 (fun m h3 h4 => h2 m (by omega) h4)⟩⟩
      · simp only [slices_Equal_Limpl_place_impl_place.l0]
        rw [if_pos (by omega), if_pos (by omega), if_pos (by omega), if_pos (by omega), if_neg (fun hq => (eqPl _ _).1 hq c), e1]
      · by_cases e : m = i
        · rw [e]; exact c
        · exact hi.1 h2 m (by omega) h4
    · refine ⟨false, Ev.step (f := fun _ => some false) (fun k => ?_) (Ev.now _), ⟨fun h2 => (by cases h2), fun h2 => absurd (h2 i (Nat.le_refl _) (by omega)) c⟩⟩
      simp only [slices_Equal_Limpl_place_impl_place.l0]
      rw [if_pos (by omega), if_pos (by omega), if_pos (by omega), if_pos (by omega), if_pos ((eqPl _ _).2 c)]
theorem equal_Pl (x y : List S44) (hx : x.length ≤ 1048576) : ∃ r, Ev (fun k => slices_Equal_Limpl_place_impl_place.f k x y) r ∧ (r = true ↔ x = y) := by
  by_cases hl : x.length = y.length
  · obtain ⟨r, hr, hi⟩ := equal_Pl_l x y hx hl x.length 0 (by omega)
    refine ⟨r, ?_, ?_⟩
    · unfold slices_Equal_Limpl_place_impl_place.f
      exact Ev.pos (by omega) hr
    · rw [hi, list_Pl x y hl]
      exact ⟨fun h m hm => h m (Nat.zero_le _) hm, fun h m _ hm => h m hm⟩
  · refine ⟨false, ?_, ⟨fun h => (by cases h), fun h => absurd (by rw [h]) hl⟩⟩
    unfold slices_Equal_Limpl_place_impl_place.f
    exact Ev.neg (by omega) (Ev.now _)
theorem of_le (t : Int) (l : List S32) : (of txn t l).length ≤ l.length := List.length_filter_le _ _
theorem same_ev (a b : List S32) (ha : a.length ≤ 1048576) (hb : b.length ≤ 1048576) : ∀ (d : Nat) (t : Int), t + d = 6 → ∃ r, Ev (fun k => impl_SameRuns.same k a b d t) r ∧ (r = true ↔ ∀ u, t ≤ u → u < 6 → of txn u a = of txn u b)
  | 0, t, h => ⟨true, Ev.now _, ⟨fun _ u h1 h2 => by omega, fun _ => rfl⟩⟩
  | d + 1, t, h => by
    obtain ⟨r, hr, hi⟩ := same_ev a b ha hb d (t + 1) (by omega)
    obtain ⟨e, he, hie⟩ := equal_St (of txn t a) (of txn t b) (Nat.le_trans (of_le t a) ha)
    have st : ∀ s, Ev (fun k => if e = true then impl_SameRuns.same k a b d (t + 1) else some false) s → Ev (fun k => impl_SameRuns.same k a b (d + 1) t) s := fun s hs => by
      unfold impl_SameRuns.same
      exact Ev.cbind (stepsOf_eq a ha t) (Ev.cbind (stepsOf_eq b hb t) (Ev.bind he hs))
    by_cases c : e = true
    · refine ⟨r, st _ (Ev.pos c hr), ⟨fun h2 u h3 h4 => ?_, fun h2 => hi.2 (fun u h3 h4 => h2 u (by omega) h4)⟩⟩
      by_cases eq : u = t
      · rw [eq]; exact hie.1 c
      · exact hi.1 h2 u (by omega) h4
    · exact ⟨false, st _ (Ev.neg c (Ev.now _)), ⟨fun h2 => (by cases h2), fun h2 => absurd (hie.2 (h2 t (Int.le_refl _) (by omega))) c⟩⟩
abbrev readsM (l : List S32) : List (Pl × Pl) := pms l (srcF l l.length) []
abbrev endsM (l : List S32) : List S44 := (lastL l l.length).map fun i => toPl (plc l i)
/-- What the program answers. -/
theorem impl_ev (a b : List S32) (ha : a.length ≤ 1048576) (hb : b.length ≤ 1048576) (ga : goodSteps a = true) (gb : goodSteps b = true) : ∃ r, Ev (fun k => impl_SameRuns.f k a b) (r, true) ∧ (r = true ↔ (∀ u, 0 ≤ u → u < 6 → of txn u a = of txn u b) ∧ (∀ p, pget (readsM a) p = pget (readsM b) p) ∧ endsM a = endsM b) := by
  obtain ⟨s, hs, his⟩ := same_ev a b ha hb 6 0 (by omega)
  have st : ∀ z, Ev (fun k => if s = true then impl_SameRuns.rest k a b else some (false, true)) z → Ev (fun k => impl_SameRuns.f k a b) z := fun z hz => by
    unfold impl_SameRuns.f
    exact Ev.cbind (goodSteps_impl a) (Ev.pos ga (Ev.cbind (goodSteps_impl b) (Ev.pos gb (Ev.bind hs hz))))
  by_cases c : s = true
  case neg => exact ⟨false, st _ (Ev.neg c (Ev.now _)), ⟨fun h => (by cases h), fun h => absurd (his.2 h.1) c⟩⟩
  obtain ⟨e, he, hie⟩ := equal_Pl (endsM a) (endsM b) (by show 4 ≤ 1048576; omega)
  have hM := eqM_iff (readsM a) (readsM b) (pms_wf a ha (goodSteps_all ga)) (pms_wf b hb (goodSteps_all gb))
  have st2 : ∀ z, Ev (fun k => if eqM (readsM a) (readsM b) = true then (slices_Equal_Limpl_place_impl_place.f k (endsM a) (endsM b)).bind fun r => some (r, true) else some (false, true)) z → Ev (fun k => impl_SameRuns.f k a b) z := fun z hz => by
    refine st z (Ev.pos c ?_)
    unfold impl_SameRuns.rest
    exact Ev.bind (meaning_ev a ha (goodSteps_all ga)) (Ev.bind (meaning_ev b hb (goodSteps_all gb)) hz)
  by_cases c2 : eqM (readsM a) (readsM b) = true
  · exact ⟨e, st2 _ (Ev.pos c2 (Ev.bind he (Ev.now _))), ⟨fun h => ⟨his.1 c, hM.1 c2, hie.1 h⟩, fun h => hie.2 h.2.2⟩⟩
  · exact ⟨false, st2 _ (Ev.neg c2 (Ev.now _)), ⟨fun h => (by cases h), fun h => absurd (hM.2 h.2.1) c2⟩⟩
abbrev GoodS (l : List S32) : Prop := ∀ x ∈ l, (0 ≤ x.f0 ∧ x.f0 ≤ 5) ∧ (1 ≤ x.f1 ∧ x.f1 ≤ 2) ∧ (0 ≤ x.f2 ∧ x.f2 ≤ 3)
/-- Where each transaction has the same steps, each step has its place. -/
theorem thr_same (a b : List S32) (ga : GoodS a) (h : ∀ u, 0 ≤ u → u < 6 → of txn u a = of txn u b) (m : Nat) (hm : m < a.length) : ∃ q : Nat, q < b.length ∧ thr a b m = q ∧ rdS b q = rdS a m ∧ plc b q = plc a m := by
  obtain ⟨k, hk, hc⟩ := of_place txn a b (fun s hs => (ga s hs).1) (fun t h0 h5 => h t h0 (by omega)) m (rdS a m) (rdI_nth hm)
  obtain ⟨hkl, hks⟩ := rdI_of hk
  have hc' : own b (rdS a m).f0 k = own a (rdS a m).f0 m := hc
  rcases thr_cases a b m with ⟨_, h2⟩ | ⟨q, h1, h2, h3, h4⟩
  · exact absurd ⟨by rw [hks], hc'⟩ (h2 k hkl)
  · have hqk : q = k := own_inj b h1 hkl (by rw [h3, hks]) (by rw [h3, h4, hc'])
    subst hqk
    refine ⟨q, h1, h2, hks, ?_⟩
    rw [plc_nat, plc_nat, hks, hc']
theorem thr_iff (a b : List S32) (ga : GoodS a) (gb : GoodS b) (h : ∀ u, 0 ≤ u → u < 6 → of txn u a = of txn u b) (i j : Int) (hi0 : -1 ≤ i) (hi : i < (a.length : Int)) (hj0 : -1 ≤ j) (hj : j < (b.length : Int)) : thr a b i = j ↔ plc a i = plc b j := by
  by_cases ci : i < 0
  · rw [thr_neg a b ci, plc_neg a ci]
    constructor
    · intro e
      rw [plc_neg b (by omega)]
    · intro e
      exact plc_inj b gb (i := -1) (j := j) (by omega) (by omega) hj0 hj (by rw [plc_neg b (by omega)]; exact e)
  · obtain ⟨m, rfl⟩ : ∃ n : Nat, i = n := ⟨i.toNat, by omega⟩
    obtain ⟨q, h1, h2, h3, h4⟩ := thr_same a b ga h m (by omega)
    rw [h2]
    constructor
    · intro e
      rw [← e, h4]
    · intro e
      exact plc_inj b gb (by omega) (by omega) hj0 hj (by rw [h4]; exact e)
theorem same_iff (a b : List S32) (ga : GoodS a) (gb : GoodS b) : (a.length = b.length ∧ (∀ m, m < a.length → okS a b m) ∧ ∀ u, 0 ≤ u → u < 4 → okE a b u) ↔ (∀ u, 0 ≤ u → u < 6 → of txn u a = of txn u b) ∧ (∀ p, pget (readsM a) p = pget (readsM b) p) ∧ endsM a = endsM b := by
  have ends : (∀ u, 0 ≤ u → u < 6 → of txn u a = of txn u b) → ((∀ u, 0 ≤ u → u < 4 → okE a b u) ↔ endsM a = endsM b) := fun h => by
    have one : ∀ u, okE a b u ↔ toPl (plc a (lastW a u a.length)) = toPl (plc b (lastW b u b.length)) := fun u => by
      have h1 := lastW_lt a u a.length
      have h2 := lastW_lt b u b.length
      unfold okE
      rw [thr_iff a b ga gb h _ _ h1.1 h1.2 h2.1 h2.2]
      constructor
      · intro e
        rw [e]
      · intro e
        unfold toPl at e
        injection e with e1 e2
        exact Prod.ext e1 e2
    have four : endsM a = endsM b ↔ (toPl (plc a (lastW a 0 a.length)) = toPl (plc b (lastW b 0 b.length)) ∧ toPl (plc a (lastW a 1 a.length)) = toPl (plc b (lastW b 1 b.length)) ∧ toPl (plc a (lastW a 2 a.length)) = toPl (plc b (lastW b 2 b.length)) ∧ toPl (plc a (lastW a 3 a.length)) = toPl (plc b (lastW b 3 b.length))) := by
      unfold endsM lastL
      simp only [List.map_cons, List.map_nil, List.cons.injEq, and_true]
    rw [four, ← one, ← one, ← one, ← one]
    constructor
    · intro e
      exact ⟨e 0 (by omega) (by omega), e 1 (by omega) (by omega), e 2 (by omega) (by omega), e 3 (by omega) (by omega)⟩
    · rintro ⟨e0, e1, e2, e3⟩ u h0 h4
      obtain rfl | rfl | rfl | rfl : u = 0 ∨ u = 1 ∨ u = 2 ∨ u = 3 := by omega
      · exact e0
      · exact e1
      · exact e2
      · exact e3
  constructor
  · rintro ⟨hl, hok, hen⟩
    have h : ∀ u, 0 ≤ u → u < 6 → of txn u a = of txn u b := fun u h0 h6 => by
      refine of_same txn a b hl (fun s hs => (ga s hs).1) (fun s hs => (gb s hs).1) (fun i s hi => ?_) u h0 (by omega)
      obtain ⟨hil, rfl⟩ := rdI_of hi
      obtain ⟨o1, o2, _⟩ := hok i hil
      rcases thr_cases a b i with ⟨e, _⟩ | ⟨q, h1, h2, h3, h4⟩
      · omega
      · rw [h2] at o2
        refine ⟨q, ?_, h4⟩
        rw [rdI_nth h1]
        exact congrArg some o2
    refine ⟨h, ?_, (ends h).1 hen⟩
    have key : ∀ m : Nat, m < a.length → (rdS a m).f1 = 1 → ∃ q : Nat, q < b.length ∧ (rdS b q).f1 = 1 ∧ plc b q = plc a m ∧ plc a (lastW a (rdS a m).f2 m) = plc b (lastW b (rdS b q).f2 q) := fun m hm h1 => by
      obtain ⟨q, hq, e1, e2, e3⟩ := thr_same a b ga h m hm
      obtain ⟨_, _, o3⟩ := hok m hm
      have o4 := o3 h1
      rw [e1, Int.toNat_natCast] at o4
      have l1 := lastW_lt a (rdS a m).f2 m
      have l2 := lastW_lt b (rdS a m).f2 q
      refine ⟨q, hq, by rw [e2]; exact h1, e3, ?_⟩
      rw [e2]
      exact (thr_iff a b ga gb h _ _ l1.1 (by omega) l2.1 (by omega)).1 o4
    have sub : ∀ p v, pget (readsM a) p = some v → pget (readsM b) p = some v := fun p v hv => by
      obtain ⟨m, hm, h1, rfl, rfl⟩ := (pget_iff a ga p v).1 hv
      obtain ⟨q, hq, e1, e2, e3⟩ := key m hm h1
      exact (pget_iff b gb _ _).2 ⟨q, hq, e1, e2.symm, e3⟩
    have sup : ∀ p v, pget (readsM b) p = some v → pget (readsM a) p = some v := fun p v hv => by
      obtain ⟨q, hq, h1, rfl, rfl⟩ := (pget_iff b gb p v).1 hv
      obtain ⟨m, hm, e1, e2, e3⟩ := thr_same b a gb (fun u h0 h6 => (h u h0 h6).symm) q hq
      have h1' : (rdS a m).f1 = 1 := by rw [e2]; exact h1
      obtain ⟨q', hq', f1, f2, f3⟩ := key m hm h1'
      have : (q' : Int) = q := plc_inj b gb (by omega) (by omega) (by omega) (by omega) (by rw [f2, e3])
      obtain rfl : q' = q := by omega
      exact (pget_iff a ga _ _).2 ⟨m, hm, h1', e3.symm, f3.symm⟩
    intro p
    cases hpa : pget (readsM a) p with
    | some v => exact (sub p v hpa).symm
    | none =>
      cases hpb : pget (readsM b) p with
      | none => rfl
      | some v =>
        rw [sup p v hpb] at hpa
        cases hpa
  · rintro ⟨h, hp, he⟩
    have hl : a.length = b.length := by
      rw [of_sum txn a (fun s hs => (ga s hs).1), of_sum txn b (fun s hs => (gb s hs).1), h 0 (by omega) (by omega), h 1 (by omega) (by omega), h 2 (by omega) (by omega), h 3 (by omega) (by omega), h 4 (by omega) (by omega), h 5 (by omega) (by omega)]
    refine ⟨hl, fun m hm => ?_, (ends h).2 he⟩
    obtain ⟨q, hq, e1, e2, e3⟩ := thr_same a b ga h m hm
    refine ⟨by omega, by rw [e1]; exact e2, fun h1 => ?_⟩
    rw [e1, Int.toNat_natCast]
    have l1 := lastW_lt a (rdS a m).f2 m
    have l2 := lastW_lt b (rdS a m).f2 q
    refine (thr_iff a b ga gb h _ _ l1.1 (by omega) l2.1 (by omega)).2 ?_
    have p1 := (pget_iff a ga _ _).2 ⟨m, hm, h1, rfl, rfl⟩
    have p2 := (pget_iff b gb _ _).2 ⟨q, hq, by rw [e2]; exact h1, rfl, rfl⟩
    have p3 := hp (plc a m)
    rw [p1, ← e3, p2, e2] at p3
    exact Option.some.inj p3
theorem FnExactSameRuns : laws_FnExactSameRuns.Pure := law fun a ha b hb => by
  by_cases ga : goodSteps a = true
  case neg =>
    refine ⟨(false, false), ?_, ?_⟩
    · unfold spec_SameRuns.f
      exact Ev.bind (goodSteps_spec a ha) (Ev.neg ga (Ev.step (f := fun _ => some (false, false)) (fun k => by simp only [spec_SameRuns.j0]; rw [if_pos trivial]) (Ev.now _)))
    · unfold impl_SameRuns.f
      exact Ev.cbind (goodSteps_impl a) (Ev.neg ga (Ev.now _))
  by_cases gb : goodSteps b = true
  case neg =>
    refine ⟨(false, false), ?_, ?_⟩
    · unfold spec_SameRuns.f
      exact Ev.bind (goodSteps_spec a ha) (Ev.pos ga (Ev.bind (goodSteps_spec b hb) (Ev.step (f := fun _ => some (false, false)) (fun k => by simp only [spec_SameRuns.j0]; rw [if_pos (by rw [Bool.eq_false_iff.mpr gb]; rfl)]) (Ev.now _))))
    · unfold impl_SameRuns.f
      exact Ev.cbind (goodSteps_impl a) (Ev.pos ga (Ev.cbind (goodSteps_impl b) (Ev.neg gb (Ev.now _))))
  obtain ⟨r, hr, hi⟩ := spec_ev a b ha hb ga gb
  obtain ⟨s, hs, hj⟩ := impl_ev a b ha hb ga gb
  have e : s = r := by
    have := same_iff a b (goodSteps_all ga) (goodSteps_all gb)
    have h2 : r = true ↔ s = true := hi.trans (this.trans hj.symm)
    cases r <;> cases s <;> simp at h2 <;> rfl
  subst e
  exact ⟨(s, true), hr, hs⟩

end Go.Proofs.Ytmelechhnimlnab.Pure
