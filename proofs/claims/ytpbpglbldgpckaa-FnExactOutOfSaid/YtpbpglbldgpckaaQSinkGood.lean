/- Sinks: both ask the same of a good one. No conditions. -/
import Derived.Test.YtpbpglbldgpckaaQBase
import Derived.Test.YtpbpglbldgpckaaG38
import Derived.Test.YtpbpglbldgpckaaG40
import Derived.Test.YtpbpglbldgpckaaG6
import Derived.Test.YtpbpglbldgpckaaG37
import Derived.Test.YtpbpglbldgpckaaG39
namespace Go.Proofs.Ytpbpglbldgpckaa.Pure
open Go.RowKit Go.Proofs.Ytpbpglbldgpckaa.G Go.Proofs.Ytpbpglbldgpckaa.X Go.Proofs.YtpbpglbldgpckaaW.PrintWords
set_option linter.unusedVariables false

theorem sinkIn_spec (a b c : Int) : spec_l1In.f a b c = some (decide (b ≤ a ∧ a ≤ c)) := by
  unfold spec_l1In.f
  by_cases h : a ≥ b
  · rw [if_pos h]; simp [h]
  · rw [if_neg h]; simp; omega
theorem sinkIn_impl (a b c : Int) : impl_within.f a b c = some (decide (b ≤ a ∧ a ≤ c)) := by
  unfold impl_within.f
  by_cases h : b ≤ a
  · rw [if_pos h]; simp [h]
  · rw [if_neg h]; simp [h]
theorem same_spec_l (a b : List Int) (hb : a.length = b.length) (hl : a.length ≤ 9223372036854775806) (d : Nat) : ∀ (i : Nat), i + d = a.length →
    Ev (fun k => spec_l16Same.l0 k a b (a.length : Int) (i : Int)) (decide (a.drop i = b.drop i)) := by
  induction d with
  | zero =>
    intro i hi
    rw [List.drop_of_length_le (by omega), List.drop_of_length_le (l := b) (by omega)]
    exact Ev.step (fun k => by rw [spec_l16Same.l0]) (Ev.neg (by omega) (Ev.eq (Ev.now true) (decide_eq_true rfl).symm))
  | succ d ih =>
    intro i hi
    have h1 : i < a.length := by omega
    have h2 : i < b.length := by omega
    rw [drop_cons h1, drop_cons h2]
    refine Ev.step (fun k => by rw [spec_l16Same.l0]) (Ev.pos (by omega) (Ev.pos (by omega) (Ev.pos (by omega) (Ev.pos (by omega) ?_))))
    rw [rd_lt h1, rd_lt h2, w64 (by omega) (by omega)]
    by_cases h : a[i] = b[i]
    · exact Ev.pos h (Ev.eq (ih (i + 1) (by omega)) (decide_eq_decide.mpr ⟨fun e => by rw [h, e], fun e => (List.cons.inj e).2⟩))
    · exact Ev.neg h (Ev.eq (Ev.now false) (decide_eq_false (fun e => h (List.cons.inj e).1)).symm)
theorem same_spec (a b : List Int) (hl : a.length ≤ 9223372036854775806) : Ev (fun k => spec_l16Same.f k a b) (decide (a = b)) := by
  unfold spec_l16Same.f
  by_cases h : a.length = b.length
  · refine Ev.pos (by omega) ?_
    have := same_spec_l a b h hl a.length 0 (by omega)
    simpa using this
  · exact Ev.neg (by omega) (Ev.eq (Ev.now false) (decide_eq_false (fun e => h (by rw [e]))).symm)
theorem same_impl_l (a b : List Int) (hb : a.length = b.length) (hl : a.length ≤ 9223372036854775806) (d : Nat) : ∀ (i : Nat), i + d = a.length →
    Ev (fun k => slices_Equal_Lint_int.l0 k a b (a.length : Int) (i : Int)) (decide (a.drop i = b.drop i)) := by
  induction d with
  | zero =>
    intro i hi
    rw [List.drop_of_length_le (by omega), List.drop_of_length_le (l := b) (by omega)]
    exact Ev.step (fun k => by rw [slices_Equal_Lint_int.l0]) (Ev.neg (by omega) (Ev.eq (Ev.now true) (decide_eq_true rfl).symm))
  | succ d ih =>
    intro i hi
    have h1 : i < a.length := by omega
    have h2 : i < b.length := by omega
    rw [drop_cons h1, drop_cons h2]
    refine Ev.step (fun k => by rw [slices_Equal_Lint_int.l0]) (Ev.pos (by omega) (Ev.pos (by omega) (Ev.pos (by omega) (Ev.pos (by omega) ?_))))
    rw [rd_lt h1, rd_lt h2, w64 (by omega) (by omega)]
    by_cases h : a[i] = b[i]
    · exact Ev.pos h (Ev.eq (ih (i + 1) (by omega)) (decide_eq_decide.mpr ⟨fun e => by rw [h, e], fun e => (List.cons.inj e).2⟩))
    · exact Ev.neg h (Ev.eq (Ev.now false) (decide_eq_false (fun e => h (List.cons.inj e).1)).symm)
theorem same_impl (a b : List Int) (hl : a.length ≤ 9223372036854775806) : Ev (fun k => slices_Equal_Lint_int.f k a b) (decide (a = b)) := by
  unfold slices_Equal_Lint_int.f
  by_cases h : a.length = b.length
  · refine Ev.pos (by omega) ?_
    have := same_impl_l a b h hl a.length 0 (by omega)
    simpa using this
  · exact Ev.neg (by omega) (Ev.eq (Ev.now false) (decide_eq_false (fun e => h (by rw [e]))).symm)

/-- What is stored behind a place of the source and a number. -/
def okP (src : List Int) (At : Int) (p : S130) (a no : Int) : Bool :=
  decide (p.f0 = no + 1) && (decide (a ≤ p.f1 ∧ p.f1 ≤ At) && (decide (p.f2 = (src.take p.f1.toNat).drop a.toNat) && decide (p.f0 ≤ 1000)))
def goS (src : List Int) (At : Int) (pend out : List Int) (upto : Int) : List S130 → Int → Int → Bool
  | [], a, _ => decide (pend = (src.take At.toNat).drop a.toNat) && decide (out = src.take upto.toNat)
  | p :: ps, a, no => okP src At p a no && goS src At pend out upto ps p.f1 p.f0
theorem rdP_lt {l : List S130} {i : Nat} (h : i < l.length) : rd_T130 l (i : Int) = l[i] := by simp [rd_T130, h]
theorem okP_some {src : List Int} {At : Int} {p : S130} {a no : Int} (h : okP src At p a no = true) : p.f0 = no + 1 ∧ (a ≤ p.f1 ∧ p.f1 ≤ At) ∧ p.f0 ≤ 1000 := by
  unfold okP at h
  simp only [Bool.and_eq_true, decide_eq_true_eq] at h
  exact ⟨h.1, h.2.1, h.2.2.2⟩

theorem sink_spec_l (src : List Int) (At : Int) (pend : List Int) (st : List S130) (out : List Int) (last upto : Int)
    (hA : At ≤ src.length) (hu : 0 ≤ upto ∧ upto ≤ At) (hp : pend.length ≤ 1048576) (ho : out.length ≤ 1048576) (hst : st.length ≤ 1048576) (hs : ∀ p ∈ st, p.f2.length ≤ 1048576) (d : Nat) :
    ∀ (i : Nat) (a no : Int), i + d = st.length → 0 ≤ a → a ≤ At → 0 ≤ no → no ≤ 1000 →
    Ev (fun k => spec_GoodSink.l0 k a no st (st.length : Int) (i : Int) src At pend st out last upto) (goS src At pend out upto (st.drop i) a no) := by
  induction d with
  | zero =>
    intro i a no hi h0 h1 h2 h3
    rw [List.drop_of_length_le (by omega)]
    refine Ev.step (fun k => by rw [spec_GoodSink.l0]) (Ev.neg (by omega) (Ev.pos h0 (Ev.pos h1 (Ev.pos hA (Ev.bind (same_spec _ _ (by omega)) ?_)))))
    unfold goS
    by_cases h : pend = (src.take At.toNat).drop a.toNat
    · refine Ev.pos (decide_eq_true h) (Ev.pos hu.1 (Ev.pos (by omega) (Ev.bind (same_spec _ _ (by omega)) (Ev.eq (Ev.now _) ?_))))
      rw [decide_eq_true h, Bool.true_and]
    · exact Ev.neg (by simpa using h) (Ev.eq (Ev.now false) (by rw [decide_eq_false h, Bool.false_and]))
  | succ d ih =>
    intro i a no hi h0 h1 h2 h3
    have hlt : i < st.length := by omega
    rw [drop_cons hlt]
    unfold goS
    have jt : okP src At st[i] a no = false → Ev (fun k => spec_GoodSink.j2 k st (st.length : Int) (i : Int) true src At pend st out last upto st[i].f0 st[i].f1 st[i].f2) (okP src At st[i] a no && goS src At pend out upto (st.drop (i + 1)) st[i].f1 st[i].f0) := fun e => by
      rw [e]; exact Ev.step (fun k => by rw [spec_GoodSink.j2]) (Ev.pos rfl (Ev.eq (Ev.now false) rfl))
    refine Ev.step (fun k => by rw [spec_GoodSink.l0]) (Ev.pos (by omega) (Ev.pos (by omega) (Ev.pos (by omega) ?_)))
    rw [rdP_lt hlt, w64 (x := no + 1) (by omega) (by omega)]
    by_cases c1 : st[i].f0 = no + 1
    case neg => exact Ev.neg c1 (jt (by unfold okP; rw [decide_eq_false c1]; rfl))
    refine Ev.pos c1 (Ev.cbind (sinkIn_spec _ _ _) ?_)
    by_cases c2 : a ≤ st[i].f1 ∧ st[i].f1 ≤ At
    case neg => exact Ev.neg (by simpa using c2) (jt (by unfold okP; rw [decide_eq_true c1, decide_eq_false c2]; rfl))
    refine Ev.pos (decide_eq_true c2) (Ev.pos h0 (Ev.pos c2.1 (Ev.pos (by omega) (Ev.bind (same_spec _ _ (by have := hs _ (List.getElem_mem hlt); omega)) ?_))))
    by_cases c3 : st[i].f2 = (src.take st[i].f1.toNat).drop a.toNat
    case neg => exact Ev.neg (by simpa using c3) (jt (by unfold okP; rw [decide_eq_true c1, decide_eq_true c2, decide_eq_false c3]; rfl))
    refine Ev.pos (decide_eq_true c3) ?_
    by_cases c4 : st[i].f0 ≤ 1000
    case neg =>
      rw [decide_eq_true (show st[i].f0 > 1000 by omega)]
      exact jt (by unfold okP; rw [decide_eq_true c1, decide_eq_true c2, decide_eq_true c3, decide_eq_false c4]; rfl)
    rw [decide_eq_false (show ¬ st[i].f0 > 1000 by omega)]
    have hok : okP src At st[i] a no = true := by unfold okP; rw [decide_eq_true c1, decide_eq_true c2, decide_eq_true c3, decide_eq_true c4]; rfl
    rw [hok, Bool.true_and]
    have hn := ih (i + 1) st[i].f1 st[i].f0 (by omega) (by omega) c2.2 (by omega) c4
    have hw : wrap64 ((i : Int) + 1) = ((i + 1 : Nat) : Int) := w64 (by omega) (by omega)
    refine Ev.step (fun k => by rw [spec_GoodSink.j2]) (Ev.neg (by decide) ?_)
    rw [hw]
    exact hn

theorem sink_impl_l (src : List Int) (At : Int) (pend : List Int) (st : List S130) (out : List Int) (last upto : Int)
    (hA : At ≤ src.length) (hu : 0 ≤ upto ∧ upto ≤ At) (hp : pend.length ≤ 1048576) (ho : out.length ≤ 1048576) (hst : st.length ≤ 1048576) (hs : ∀ p ∈ st, p.f2.length ≤ 1048576) (hl : 0 ≤ last ∧ last ≤ 1000) (d : Nat) :
    ∀ (i : Nat) (a : Int), i + d = st.length → 0 ≤ a → a ≤ At → last + i ≤ 1000 →
    Ev (fun k => impl_GoodSink.l0 k a st (st.length : Int) (i : Int) src At pend st out last upto) (goS src At pend out upto (st.drop i) a (last + i)) := by
  induction d with
  | zero =>
    intro i a hi h0 h1 h3
    rw [List.drop_of_length_le (by omega)]
    refine Ev.step (fun k => by rw [impl_GoodSink.l0]) (Ev.neg (by omega) (Ev.pos hu.1 (Ev.pos (by omega) (Ev.bind (same_impl _ _ (by omega)) ?_))))
    unfold goS
    by_cases h : out = src.take upto.toNat
    · refine Ev.pos (decide_eq_true h) (Ev.pos h0 (Ev.pos h1 (Ev.pos hA (Ev.bind (same_impl _ _ (by omega)) (Ev.eq (Ev.now _) ?_)))))
      rw [decide_eq_true h, Bool.and_true]
    · exact Ev.neg (by simpa using h) (Ev.eq (Ev.now false) (by rw [decide_eq_false h, Bool.and_false]))
  | succ d ih =>
    intro i a hi h0 h1 h3
    have hlt : i < st.length := by omega
    rw [drop_cons hlt]
    unfold goS
    have jt : okP src At st[i] a (last + i) = false → Ev (fun k => impl_GoodSink.j2 k st (st.length : Int) (i : Int) true src At pend st out last upto st[i].f0 st[i].f1 st[i].f2) (okP src At st[i] a (last + i) && goS src At pend out upto (st.drop (i + 1)) st[i].f1 st[i].f0) := fun e => by
      rw [e]; exact Ev.step (fun k => by rw [impl_GoodSink.j2]) (Ev.pos rfl (Ev.eq (Ev.now false) rfl))
    refine Ev.step (fun k => by rw [impl_GoodSink.l0]) (Ev.pos (by omega) (Ev.pos (by omega) (Ev.pos (by omega) ?_)))
    rw [rdP_lt hlt, w64 (x := last + 1) (by omega) (by omega), w64 (x := last + 1 + (i : Int)) (by omega) (by omega)]
    by_cases c1 : st[i].f0 = last + i + 1
    case neg => exact Ev.neg (by omega) (jt (by unfold okP; rw [decide_eq_false c1]; rfl))
    refine Ev.pos (by omega) ?_
    by_cases c4 : st[i].f0 ≤ 1000
    case neg => exact Ev.pos (by omega) (jt (by unfold okP; rw [decide_eq_false c4, Bool.and_false, Bool.and_false, Bool.and_false]))
    refine Ev.neg (by omega) (Ev.cbind (sinkIn_impl _ _ _) ?_)
    by_cases c2 : a ≤ st[i].f1 ∧ st[i].f1 ≤ At
    case neg => exact Ev.neg (by simpa using c2) (jt (by unfold okP; rw [decide_eq_true c1, decide_eq_false c2]; rfl))
    refine Ev.pos (decide_eq_true c2) (Ev.pos h0 (Ev.pos c2.1 (Ev.pos (by omega) (Ev.bind (same_impl _ _ (by have := hs _ (List.getElem_mem hlt); omega)) ?_))))
    by_cases c3 : st[i].f2 = (src.take st[i].f1.toNat).drop a.toNat
    case neg =>
      rw [decide_eq_false c3]
      exact jt (by unfold okP; rw [decide_eq_true c1, decide_eq_true c2, decide_eq_false c3]; rfl)
    rw [decide_eq_true c3]
    have hok : okP src At st[i] a (last + i) = true := by unfold okP; rw [decide_eq_true c1, decide_eq_true c2, decide_eq_true c3, decide_eq_true c4]; rfl
    rw [hok, Bool.true_and]
    have hn := ih (i + 1) st[i].f1 (by omega) (by omega) c2.2 (by omega)
    have hw : wrap64 ((i : Int) + 1) = ((i + 1 : Nat) : Int) := w64 (by omega) (by omega)
    have he : st[i].f0 = last + ((i + 1 : Nat) : Int) := by omega
    refine Ev.step (fun k => by rw [impl_GoodSink.j2]) (Ev.neg (by decide) ?_)
    rw [hw, he]
    exact hn

theorem sink_both (src : List Int) (At : Int) (pend : List Int) (st : List S130) (out : List Int) (last upto : Int) (k0 : src.length ≤ 1048576 ∧ pend.length ≤ 1048576 ∧ out.length ≤ 1048576 ∧ st.length + (st.map fun y => y.f2.length).sum ≤ 1048576) :
    ∃ b : Bool, Ev (fun k => spec_GoodSink.f k src At pend st out last upto) b ∧ Ev (fun k => impl_GoodSink.f k src At pend st out last upto) b := by
  have hs : ∀ p ∈ st, p.f2.length ≤ 1048576 := fun p hp => by have := sum_mem (fun y : S130 => y.f2.length) st p hp; omega
  refine ⟨decide (src.length ≤ 30) && (decide (0 ≤ At ∧ At ≤ (src.length : Int)) && (decide (0 ≤ upto ∧ upto ≤ At) && (decide (0 ≤ last ∧ last ≤ 1000) && (decide (st.length ≤ 4) && goS src At pend out upto st upto last)))), ?_, ?_⟩
  · unfold spec_GoodSink.f
    have jt : Ev (fun k => spec_GoodSink.j0 k true src At pend st out last upto) false := Ev.step (fun k => by rw [spec_GoodSink.j0]) (Ev.pos rfl (Ev.now false))
    by_cases c1 : src.length ≤ 30
    case neg => exact Ev.pos (by omega) (Ev.eq jt (by rw [decide_eq_false c1]; rfl))
    refine Ev.neg (by omega) (Ev.cbind (sinkIn_spec _ _ _) ?_)
    by_cases c2 : 0 ≤ At ∧ At ≤ (src.length : Int)
    case neg => exact Ev.neg (by simpa using c2) (Ev.eq jt (by rw [decide_eq_true c1, decide_eq_false c2]; rfl))
    refine Ev.pos (decide_eq_true c2) (Ev.cbind (sinkIn_spec _ _ _) ?_)
    by_cases c3 : 0 ≤ upto ∧ upto ≤ At
    case neg => exact Ev.neg (by simpa using c3) (Ev.eq jt (by rw [decide_eq_true c1, decide_eq_true c2, decide_eq_false c3]; rfl))
    refine Ev.pos (decide_eq_true c3) (Ev.cbind (sinkIn_spec _ _ _) ?_)
    by_cases c4 : 0 ≤ last ∧ last ≤ 1000
    case neg => exact Ev.neg (by simpa using c4) (Ev.eq jt (by rw [decide_eq_true c1, decide_eq_true c2, decide_eq_true c3, decide_eq_false c4]; rfl))
    refine Ev.pos (decide_eq_true c4) ?_
    rw [decide_eq_true c1, decide_eq_true c2, decide_eq_true c3, decide_eq_true c4]
    by_cases c5 : st.length ≤ 4
    case neg => rw [decide_eq_true (show (st.length : Int) > 4 by omega), decide_eq_false c5]; exact jt
    rw [decide_eq_false (show ¬ (st.length : Int) > 4 by omega), decide_eq_true c5]
    have hl := sink_spec_l src At pend st out last upto c2.2 c3 (by omega) (by omega) (by omega) hs st.length 0 upto last (by omega) c3.1 c3.2 c4.1 c4.2
    rw [List.drop_zero] at hl
    have hl2 : Ev (fun k => spec_GoodSink.l0 k upto last st (st.length : Int) 0 src At pend st out last upto) (goS src At pend out upto st upto last) := hl
    exact Ev.step (fun k => by rw [spec_GoodSink.j0]) (Ev.neg (by decide) hl2)
  · unfold impl_GoodSink.f
    have jt : Ev (fun k => impl_GoodSink.j0 k true src At pend st out last upto) false := Ev.step (fun k => by rw [impl_GoodSink.j0]) (Ev.pos rfl (Ev.now false))
    by_cases c1 : src.length ≤ 30
    case neg => exact Ev.pos (by omega) (Ev.eq jt (by rw [decide_eq_false c1]; rfl))
    refine Ev.neg (by omega) (Ev.cbind (sinkIn_impl _ _ _) ?_)
    by_cases c2 : 0 ≤ At ∧ At ≤ (src.length : Int)
    case neg => exact Ev.neg (by simpa using c2) (Ev.eq jt (by rw [decide_eq_true c1, decide_eq_false c2]; rfl))
    refine Ev.pos (decide_eq_true c2) (Ev.cbind (sinkIn_impl _ _ _) ?_)
    by_cases c3 : 0 ≤ upto ∧ upto ≤ At
    case neg => exact Ev.neg (by simpa using c3) (Ev.eq jt (by rw [decide_eq_true c1, decide_eq_true c2, decide_eq_false c3]; rfl))
    refine Ev.pos (decide_eq_true c3) ?_
    by_cases c5 : st.length ≤ 4
    case neg => exact Ev.pos (by omega) (Ev.eq jt (by rw [decide_eq_false c5]; simp))
    refine Ev.neg (by omega) (Ev.cbind (sinkIn_impl _ _ _) ?_)
    by_cases c4 : 0 ≤ last ∧ last ≤ 1000
    case neg => rw [decide_eq_true c1, decide_eq_true c2, decide_eq_true c3, decide_eq_false c4]; exact jt
    rw [decide_eq_true c1, decide_eq_true c2, decide_eq_true c3, decide_eq_true c4, decide_eq_true c5]
    have hl := sink_impl_l src At pend st out last upto c2.2 c3 (by omega) (by omega) (by omega) hs c4 st.length 0 upto (by omega) c3.1 c3.2 (by omega)
    rw [List.drop_zero] at hl
    have hl2 : Ev (fun k => impl_GoodSink.l0 k upto st (st.length : Int) 0 src At pend st out last upto) (goS src At pend out upto st upto last) := by simpa using hl
    exact Ev.step (fun k => by rw [impl_GoodSink.j0]) (Ev.neg (by decide) hl2)

end Go.Proofs.Ytpbpglbldgpckaa.Pure
