/- What the helpers of the law FnExactOutOf compute, in plain words: printed by a program of this claim's own. No conditions. -/
import Derived.Test.YtpbpglbldgpckaaG17
import Derived.Test.YtpbpglbldgpckaaG18
import Derived.Test.YtpbpglbldgpckaaG19
import Derived.Test.YtpbpglbldgpckaaG20
import Derived.Test.YtpbpglbldgpckaaG21
import Derived.Test.YtpbpglbldgpckaaG22
import Derived.Test.YtpbpglbldgpckaaG36
import Derived.Test.YtpbpglbldgpckaaG37
import Derived.Test.YtpbpglbldgpckaaG39
import Derived.Test.YtpbpglbldgpckaaG55
import Derived.Test.YtpbpglbldgpckaaG56
import Derived.Test.YtpbpglbldgpckaaQBase
namespace Go.Proofs.Ytpbpglbldgpckaa.HFnExactOutOf
open Go.RowKit Go.Proofs.Ytpbpglbldgpckaa.G Go.Proofs.Ytpbpglbldgpckaa.X Go.Proofs.Ytpbpglbldgpckaa.Pure Go.Proofs.YtpbpglbldgpckaaW.PrintWords Go.Proofs.YtpbpglbldgpckaaW.PrintLast
set_option linter.unusedVariables false
set_option linter.unusedSimpArgs false

theorem laws_eqIntS_l (x : List Int) (h : x.length ≤ 1099511627776) (d : Nat) : ∀ (i : Nat), i + d = x.length → Ev (fun k => laws_eqIntS.l0 k x x (i : Int)) true := by
  have hx : x.length ≤ 1099511627776 := by exact h
  induction d with
  | zero =>
    intro i hi
    exact Ev.step (f := fun _ => some true) (fun k => by simp only [laws_eqIntS.l0]; rw [if_neg (by omega)]) (Ev.now _)
  | succ d ih =>
    intro i hi
    have hlt : i < x.length := by omega
    refine Ev.step (f := fun k => laws_eqIntS.l0 k x x ((i + 1 : Nat) : Int)) (fun k => ?_) (ih (i + 1) (by omega))
    simp only [laws_eqIntS.l0]
    rw [if_pos (by omega), if_pos (by omega), if_pos (by omega)]
    first | rw [if_pos trivial] | rw [if_pos rfl]
    rw [w64 (by omega) (by omega)]
    rfl
theorem laws_eqIntS_ev (x : List Int) (h : x.length ≤ 1099511627776) : Ev (fun k => laws_eqIntS.f k x x) true := by
  unfold laws_eqIntS.f
  exact Ev.pos rfl (laws_eqIntS_l x h x.length 0 (by omega))
def szvS130 (x : S130) : Nat := x.f2.length
theorem laws_eqPrepared_ev (x : S130) (h : szvS130 x ≤ 1099511627776) : Ev (fun k => laws_eqPrepared.f k x.f0 x.f1 x.f2 x.f0 x.f1 x.f2) true := by
  unfold laws_eqPrepared.f
  have hs : szvS130 x = x.f2.length := rfl
  repeat (first | (with_reducible exact Ev.now true) | (with_reducible refine Ev.pos rfl ?_) | (with_reducible refine Ev.neg (by simp; done) ?_) | (with_reducible refine Ev.bind (laws_eqIntS_ev _ (by omega)) ?_))
theorem laws_eqPrepared_lv (y0 : Int) (y1 : Int) (y2 : List Int) (h : y2.length ≤ 1099511627776) : Ev (fun k => laws_eqPrepared.f k y0 y1 y2 y0 y1 y2) true := laws_eqPrepared_ev (⟨y0, y1, y2⟩ : S130) h
def szvLS130 (x : List (S130)) : Nat := x.length + (x.map fun y => szvS130 y).sum
theorem rd_T130_lt {l : List S130} {i : Nat} (h : i < l.length) : rd_T130 l (i : Int) = l[i] := by simp [rd_T130, h]
theorem laws_eqPreparedS_l (x : List (S130)) (h : szvLS130 x ≤ 1099511627776) (d : Nat) : ∀ (i : Nat), i + d = x.length → Ev (fun k => laws_eqPreparedS.l0 k x x (i : Int)) true := by
  have hx : x.length ≤ 1099511627776 := by unfold szvLS130 at h; omega
  induction d with
  | zero =>
    intro i hi
    exact Ev.step (f := fun _ => some true) (fun k => by simp only [laws_eqPreparedS.l0]; rw [if_neg (by omega)]) (Ev.now _)
  | succ d ih =>
    intro i hi
    have hlt : i < x.length := by omega
    refine Ev.step (f := fun k => (laws_eqPrepared.f k (x[i].f0) (x[i].f1) (x[i].f2) (x[i].f0) (x[i].f1) (x[i].f2)).bind fun t => if t = true then laws_eqPreparedS.l0 k x x ((i + 1 : Nat) : Int) else some false) (fun k => ?_) ?_
    · simp only [laws_eqPreparedS.l0]
      rw [if_pos (by omega), if_pos (by omega), if_pos (by omega), rd_T130_lt hlt, w64 (by omega) (by omega)]
      rfl
    refine Ev.bind (laws_eqPrepared_ev x[i] (by have := sum_mem (fun y => szvS130 y) x _ (List.getElem_mem hlt); unfold szvLS130 at h; omega)) ?_
    exact Ev.pos rfl (ih (i + 1) (by omega))
theorem laws_eqPreparedS_ev (x : List (S130)) (h : szvLS130 x ≤ 1099511627776) : Ev (fun k => laws_eqPreparedS.f k x x) true := by
  unfold laws_eqPreparedS.f
  exact Ev.pos rfl (laws_eqPreparedS_l x h x.length 0 (by omega))
def szvS34 (x : S34) : Nat := x.f0.length + x.f2.length + szvLS130 x.f3 + x.f4.length
theorem laws_eqSink_ev (x : S34) (h : szvS34 x ≤ 1099511627776) : Ev (fun k => laws_eqSink.f k x.f0 x.f1 x.f2 x.f3 x.f4 x.f5 x.f6 x.f0 x.f1 x.f2 x.f3 x.f4 x.f5 x.f6) true := by
  unfold laws_eqSink.f
  have hs : szvS34 x = x.f0.length + x.f2.length + szvLS130 x.f3 + x.f4.length := rfl
  repeat (first | (with_reducible exact Ev.now true) | (with_reducible refine Ev.pos rfl ?_) | (with_reducible refine Ev.neg (by simp; done) ?_) | (with_reducible refine Ev.bind (laws_eqPreparedS_ev _ (by omega)) ?_) | (with_reducible refine Ev.bind (laws_eqIntS_ev _ (by omega)) ?_))
theorem laws_eqSink_lv (y0 : List Int) (y1 : Int) (y2 : List Int) (y3 : List (S130)) (y4 : List Int) (y5 : Int) (y6 : Int) (h : y0.length + y2.length + szvLS130 y3 + y4.length ≤ 1099511627776) : Ev (fun k => laws_eqSink.f k y0 y1 y2 y3 y4 y5 y6 y0 y1 y2 y3 y4 y5 y6) true := laws_eqSink_ev (⟨y0, y1, y2, y3, y4, y5, y6⟩ : S34) h
theorem laws_markIntS_l (n : Nat) (a : Int) (h0 : 0 ≤ a) (hb : a + ((1 * n : Nat) : Int) ≤ 4611686018427387904) (d : Nat) : ∀ (i : Nat) (z : List Int), i + d = n → z.length = n → z.take i = (marks a n).take i →
    Ev (fun k => laws_markIntS.l0 k z (a + 1 * (i : Int)) (i : Int)) (a + ((1 * n : Nat) : Int), marks a n) := by
  have hm := marks_length a n
  induction d with
  | zero =>
    intro i z hi hz ht
    refine Ev.step (f := fun _ => some (a + 1 * (i : Int), z)) (fun k => by simp only [laws_markIntS.l0]; rw [if_neg (by omega)]) ?_
    have : z = marks a n := by rw [← List.take_of_length_le (l := z) (i := i) (by omega), ht, List.take_of_length_le (by omega)]
    rw [this]
    refine Ev.eq (Ev.now _) ?_
    have e : a + 1 * (i : Int) = a + ((1 * n : Nat) : Int) := by omega
    rw [e]
  | succ d ih =>
    intro i z hi hz ht
    have hlt : i < z.length := by omega
    have hst := set_take (l := marks a n) (z := z) (i := i) (by omega) (by omega) ht
    rw [marks_get] at hst
    refine Ev.step (f := fun k => laws_markIntS.l0 k (z.set i (a + (i : Int))) (a + 1 * ((i + 1 : Nat) : Int)) ((i + 1 : Nat) : Int)) (fun k => ?_) (ih (i + 1) _ (by omega) (by simpa using hz) hst)
    simp only [laws_markIntS.l0]
    rw [if_pos (by omega), if_pos (by omega)]
    rw [w64 (by omega) (by omega), w64 (by omega) (by omega), show a + 1 * (i : Int) = a + (i : Int) from by omega, show a + (i : Int) + 1 = a + 1 * ((i + 1 : Nat) : Int) from by omega]
    rfl
theorem laws_markIntS_ev (x : List Int) (a : Int) (h0 : 0 ≤ a) (hb : a + ((x.length : Nat) : Int) ≤ 4611686018427387904) : Ev (fun k => laws_markIntS.f k x a) (a + ((x.length : Nat) : Int), marks (a) x.length) := by
  unfold laws_markIntS.f
  have := laws_markIntS_l x.length a h0 (by omega) x.length 0 x (by omega) rfl (by simp)
  simpa using this
def cnLS130 : List S130 → Nat
  | [] => 0
  | y :: ys => (2 + y.f2.length) + cnLS130 ys
def mkLS130 : Int → List S130 → List S130
  | _, [] => []
  | a, y :: ys => (⟨a, a + 1, marks (a + 1 + 1) y.f2.length⟩ : S130) :: mkLS130 (a + 1 + 1 + (y.f2.length : Int)) ys
theorem mkLS130_len : ∀ (x : List S130) (a : Int), (mkLS130 a x).length = x.length
  | [], _ => rfl
  | y :: ys, a => by show (mkLS130 (a + 1 + 1 + (y.f2.length : Int)) ys).length + 1 = _; rw [mkLS130_len ys]; rfl
theorem cnleLS130 : ∀ x : List S130, cnLS130 x + x.length ≤ 4 * szvLS130 x
  | [] => by simp [cnLS130]
  | y :: ys => by
    have ih := cnleLS130 ys
    have h : szvLS130 (y :: ys) = (szvS130 y) + 1 + szvLS130 ys := by unfold szvLS130; simp only [List.length_cons, List.map_cons, List.sum_cons]; omega
    have h2 : y.f2.length ≤ szvS130 y := by first | exact Nat.le_refl _ | (simp only [szvS130]; omega)
    have h3 : cnLS130 (y :: ys) = (2 + y.f2.length) + cnLS130 ys := rfl
    rw [h, h3, List.length_cons]
    omega
theorem laws_markPreparedS_ev : ∀ (x : List (S130)) (a : Int) (h0 : 0 ≤ a) (hb : a + (((cnLS130 x + x.length) : Nat) : Int) ≤ 4611686018427387904), Ev (fun k => laws_markPreparedS.f k x a) (a + ((cnLS130 x : Nat) : Int), mkLS130 (a) x)
  | [], a, h0, hb => Ev.eq (Ev.const (o := some (a, [])) rfl) (by simp [cnLS130, mkLS130])
  | y :: ys, a, h0, hb => by
    have ih := laws_markPreparedS_ev ys
    have hc : cnLS130 (y :: ys) = (2 + y.f2.length) + cnLS130 ys := rfl
    rw [hc, List.length_cons] at hb
    have e0_ : wrap64 (a + 1) = a + 1 := w64 (by omega) (by omega)
    have e1_ : wrap64 (a + 1 + 1) = a + 1 + 1 := w64 (by omega) (by omega)
    simp only [laws_markPreparedS.f]
    (try simp only [e0_, e1_])
    refine Ev.bind (laws_markIntS_ev y.f2 (a + 1 + 1) (by omega) (by omega)) ?_
    (try dsimp only)
    (try simp only [e0_, e1_])
    refine Ev.eq (Ev.bind (ih (a + 1 + 1 + (y.f2.length : Int)) (by omega) (by omega)) (Ev.now _)) ?_
    refine Prod.ext ?_ rfl
    show (a + 1 + 1 + (y.f2.length : Int)) + ((cnLS130 ys : Nat) : Int) = a + ((cnLS130 (y :: ys) : Nat) : Int)
    rw [hc]
    omega
theorem laws_markSink_ev (x : S34) (a : Int) (h0 : 0 ≤ a) (hb : a + ((x.f0.length + x.f2.length + (cnLS130 x.f3 + x.f3.length) + x.f4.length : Nat) : Int) ≤ 4611686018427387904) : Ev (fun k => laws_markSink.f k x.f0 x.f1 x.f2 x.f3 x.f4 x.f5 x.f6 a) (a + ((x.f0.length + x.f2.length + cnLS130 x.f3 + x.f4.length : Nat) : Int), marks (a) x.f0.length, marks (a + ((x.f0.length : Nat) : Int)) x.f2.length, mkLS130 (a + ((x.f0.length : Nat) : Int) + ((x.f2.length : Nat) : Int)) x.f3, marks (a + ((x.f0.length : Nat) : Int) + ((x.f2.length : Nat) : Int) + ((cnLS130 x.f3 : Nat) : Int)) x.f4.length) := by
  unfold laws_markSink.f
  refine Ev.bind (laws_markIntS_ev x.f0 (a) (by omega) (by omega)) ?_
  refine Ev.bind (laws_markIntS_ev x.f2 (a + ((x.f0.length : Nat) : Int)) (by omega) (by omega)) ?_
  refine Ev.bind (laws_markPreparedS_ev x.f3 (a + ((x.f0.length : Nat) : Int) + ((x.f2.length : Nat) : Int)) (by omega) (by omega)) ?_
  refine Ev.bind (laws_markIntS_ev x.f4 (a + ((x.f0.length : Nat) : Int) + ((x.f2.length : Nat) : Int) + ((cnLS130 x.f3 : Nat) : Int)) (by omega) (by omega)) ?_
  exact Ev.eq (Ev.now _) (by simp only [Prod.mk.injEq, and_true]; omega)
theorem laws_markSink_lv (y0 : List Int) (y1 : Int) (y2 : List Int) (y3 : List (S130)) (y4 : List Int) (y5 : Int) (y6 : Int) (a : Int) (h0 : 0 ≤ a) (hb : a + ((y0.length + y2.length + (cnLS130 y3 + y3.length) + y4.length : Nat) : Int) ≤ 4611686018427387904) : Ev (fun k => laws_markSink.f k y0 y1 y2 y3 y4 y5 y6 a) (a + ((y0.length + y2.length + cnLS130 y3 + y4.length : Nat) : Int), (marks (a) y0.length), (marks (a + ((y0.length : Nat) : Int)) y2.length), (mkLS130 (a + ((y0.length : Nat) : Int) + ((y2.length : Nat) : Int)) y3), (marks (a + ((y0.length : Nat) : Int) + ((y2.length : Nat) : Int) + ((cnLS130 y3 : Nat) : Int)) y4.length)) := laws_markSink_ev (⟨y0, y1, y2, y3, y4, y5, y6⟩ : S34) a h0 hb
theorem laws_szIntS_ev (x : List Int) (a : Int) (hw : (x.length ≤ 9223372036854775807 ∧ ∀ x0_ ∈ x, (-9223372036854775808 ≤ x0_ ∧ x0_ ≤ 9223372036854775807))) (h0 : 0 ≤ a) (h1 : a ≤ 1048576) : Ev (fun k => laws_szIntS.f x a) (if ((x.length : Nat) : Int) ≤ a then a - ((x.length : Nat) : Int) else -1) := by
  have hx := hw.1
  refine Ev.const ?_
  unfold laws_szIntS.f
  rw [w64 (by omega) (by omega)]
  by_cases h : (x.length : Int) ≤ a
  · rw [if_neg (by omega), if_pos h]
  · rw [if_pos (by omega), if_neg h]
def szvS176 (x : S176) : Nat := x.f2.length
theorem laws_szPrepared_ev (x : S176) (a : Int) (hw : wf176 x) (h0 : 0 ≤ a) (h1 : a ≤ 1048576) : Ev (fun k => laws_szPrepared.f x.f0 x.f1 x.f2 a) (if ((szvS176 x : Nat) : Int) ≤ a then a - ((szvS176 x : Nat) : Int) else -1) := by
  unfold wf176 at hw
  obtain ⟨w0, w1, w2⟩ := hw
  unfold laws_szPrepared.f
  have hs : szvS176 x = x.f2.length := rfl
  refine Ev.bind (laws_szIntS_ev x.f2 (a) w2 (by omega) (by omega)) ?_
  by_cases c2 : ((x.f2.length : Nat) : Int) ≤ a
  case neg =>
    rw [if_neg c2]
    exact Ev.pos (by omega) (Ev.eq (Ev.now _) (by rw [if_neg (by omega)]))
  rw [if_pos c2]
  refine Ev.neg (by omega) ?_
  exact Ev.eq (Ev.now _) (by rw [if_pos (by omega)]; omega)
def szvLS176 (x : List (S176)) : Nat := x.length + (x.map fun y => szvS176 y).sum
theorem rd_T176_lt {l : List S176} {i : Nat} (h : i < l.length) : rd_T176 l (i : Int) = l[i] := by simp [rd_T176, h]
theorem laws_szPreparedS_l (x : List (S176)) (hw : (x.length ≤ 9223372036854775807 ∧ ∀ x0_ ∈ x, wf176 x0_)) (d : Nat) : ∀ (i : Nat) (a : Int), i + d = x.length → 0 ≤ a → a ≤ 1048576 →
    Ev (fun k => laws_szPreparedS.l0 k x a (i : Int)) (if ((((x.drop i).map fun y => szvS176 y).sum : Nat) : Int) ≤ a then a - ((((x.drop i).map fun y => szvS176 y).sum : Nat) : Int) else -1) := by
  have hx := hw.1
  induction d with
  | zero =>
    intro i a hi h0 h1
    refine Ev.step (f := fun _ => some a) (fun k => by simp only [laws_szPreparedS.l0]; rw [if_neg (by omega)]) (Ev.eq (Ev.now _) ?_)
    rw [List.drop_of_length_le (by omega)]
    simp; omega
  | succ d ih =>
    intro i a hi h0 h1
    have hlt : i < x.length := by omega
    have hs : ((x.drop i).map fun y => szvS176 y).sum = szvS176 (x[i]) + ((x.drop (i + 1)).map fun y => szvS176 y).sum := by rw [drop_cons hlt, List.map_cons, List.sum_cons]
    refine Ev.step (f := fun k => (laws_szPrepared.f (x[i].f0) (x[i].f1) (x[i].f2) a).bind fun t => if t < 0 then some (-1) else laws_szPreparedS.l0 k x t ((i + 1 : Nat) : Int)) (fun k => ?_) ?_
    · simp only [laws_szPreparedS.l0]
      rw [if_pos (by omega), if_pos (by omega), rd_T176_lt hlt, w64 (by omega) (by omega)]
      rfl
    refine Ev.bind (laws_szPrepared_ev x[i] a (hw.2 _ (List.getElem_mem hlt)) h0 h1) ?_
    by_cases c : ((szvS176 (x[i]) : Nat) : Int) ≤ a
    · rw [if_pos c]
      refine Ev.neg (by omega) (Ev.eq (ih (i + 1) (a - ((szvS176 (x[i]) : Nat) : Int)) (by omega) (by omega) (by omega)) ?_)
      rw [hs]
      by_cases c2 : ((szvS176 (x[i]) + ((x.drop (i + 1)).map fun y => szvS176 y).sum : Nat) : Int) ≤ a
      · rw [if_pos c2, if_pos (by omega)]; omega
      · rw [if_neg c2, if_neg (by omega)]
    · rw [if_neg c]
      refine Ev.pos (by omega) (Ev.eq (Ev.now _) ?_)
      rw [hs, if_neg (by omega)]
theorem laws_szPreparedS_ev (x : List (S176)) (a : Int) (hw : (x.length ≤ 9223372036854775807 ∧ ∀ x0_ ∈ x, wf176 x0_)) (h0 : 0 ≤ a) (h1 : a ≤ 1048576) : Ev (fun k => laws_szPreparedS.f k x a) (if ((szvLS176 x : Nat) : Int) ≤ a then a - ((szvLS176 x : Nat) : Int) else -1) := by
  have hx := hw.1
  unfold laws_szPreparedS.f
  rw [w64 (by omega) (by omega)]
  by_cases c : (x.length : Int) ≤ a
  · refine Ev.neg (by omega) (Ev.eq (laws_szPreparedS_l x hw x.length 0 (a - x.length) (by omega) (by omega) (by omega)) ?_)
    simp only [List.drop_zero]
    have hs : szvLS176 x = x.length + (x.map fun y => szvS176 y).sum := rfl
    by_cases c2 : ((szvLS176 x : Nat) : Int) ≤ a
    · rw [if_pos c2, if_pos (by omega)]; omega
    · rw [if_neg c2, if_neg (by omega)]
  · refine Ev.pos (by omega) (Ev.eq (Ev.now _) ?_)
    have hs : szvLS176 x = x.length + (x.map fun y => szvS176 y).sum := rfl
    rw [if_neg (by omega)]
def szvS66 (x : S66) : Nat := x.f0.length + x.f2.length + szvLS176 x.f3 + x.f4.length
theorem laws_szSink_ev (x : S66) (a : Int) (hw : wf66 x) (h0 : 0 ≤ a) (h1 : a ≤ 1048576) : Ev (fun k => laws_szSink.f k x.f0 x.f1 x.f2 x.f3 x.f4 x.f5 x.f6 a) (if ((szvS66 x : Nat) : Int) ≤ a then a - ((szvS66 x : Nat) : Int) else -1) := by
  unfold wf66 at hw
  obtain ⟨w0, w1, w2, w3, w4, w5, w6⟩ := hw
  unfold laws_szSink.f
  have hs : szvS66 x = x.f0.length + x.f2.length + szvLS176 x.f3 + x.f4.length := rfl
  refine Ev.bind (laws_szIntS_ev x.f0 (a) w0 (by omega) (by omega)) ?_
  by_cases c0 : ((x.f0.length : Nat) : Int) ≤ a
  case neg =>
    rw [if_neg c0]
    exact Ev.pos (by omega) (Ev.eq (Ev.now _) (by rw [if_neg (by omega)]))
  rw [if_pos c0]
  refine Ev.neg (by omega) ?_
  refine Ev.bind (laws_szIntS_ev x.f2 (a - ((x.f0.length : Nat) : Int)) w2 (by omega) (by omega)) ?_
  by_cases c2 : ((x.f2.length : Nat) : Int) ≤ a - ((x.f0.length : Nat) : Int)
  case neg =>
    rw [if_neg c2]
    exact Ev.pos (by omega) (Ev.eq (Ev.now _) (by rw [if_neg (by omega)]))
  rw [if_pos c2]
  refine Ev.neg (by omega) ?_
  refine Ev.bind (laws_szPreparedS_ev x.f3 (a - ((x.f0.length : Nat) : Int) - ((x.f2.length : Nat) : Int)) w3 (by omega) (by omega)) ?_
  by_cases c3 : ((szvLS176 x.f3 : Nat) : Int) ≤ a - ((x.f0.length : Nat) : Int) - ((x.f2.length : Nat) : Int)
  case neg =>
    rw [if_neg c3]
    exact Ev.pos (by omega) (Ev.eq (Ev.now _) (by rw [if_neg (by omega)]))
  rw [if_pos c3]
  refine Ev.neg (by omega) ?_
  refine Ev.bind (laws_szIntS_ev x.f4 (a - ((x.f0.length : Nat) : Int) - ((x.f2.length : Nat) : Int) - ((szvLS176 x.f3 : Nat) : Int)) w4 (by omega) (by omega)) ?_
  by_cases c4 : ((x.f4.length : Nat) : Int) ≤ a - ((x.f0.length : Nat) : Int) - ((x.f2.length : Nat) : Int) - ((szvLS176 x.f3 : Nat) : Int)
  case neg =>
    rw [if_neg c4]
    exact Ev.pos (by omega) (Ev.eq (Ev.now _) (by rw [if_neg (by omega)]))
  rw [if_pos c4]
  refine Ev.neg (by omega) ?_
  exact Ev.eq (Ev.now _) (by rw [if_pos (by omega)]; omega)
theorem laws_toIntS_l (x : List Int) (h : x.length ≤ 1048576) (d : Nat) : ∀ (i : Nat) (z : List Int), i + d = x.length → z.length = x.length → z.take i = (x).take i →
    Ev (fun k => laws_toIntS.l0 k x z (i : Int)) (x) := by
  have hx : x.length ≤ 1048576 := by exact h
  have hL : (x).length = x.length := by simp
  induction d with
  | zero =>
    intro i z hi hz ht
    refine Ev.step (f := fun _ => some z) (fun k => by simp only [laws_toIntS.l0]; rw [if_neg (by omega)]) ?_
    have : z = x := by rw [← List.take_of_length_le (l := z) (i := i) (by omega), ht, List.take_of_length_le (by omega)]
    rw [this]
    exact Ev.now _
  | succ d ih =>
    intro i z hi hz ht
    have hlt : i < x.length := by omega
    have hg : (x)[i]'(by omega) = x[i] := by simp
    have hst := set_take (l := x) (z := z) (i := i) (by omega) (by omega) ht
    rw [hg] at hst
    refine Ev.step (f := fun k => laws_toIntS.l0 k x (z.set i (x[i])) ((i + 1 : Nat) : Int)) (fun k => ?_) (ih (i + 1) _ (by omega) (by simpa using hz) hst)
    simp only [laws_toIntS.l0]
    rw [if_pos (by omega), if_pos (by omega), if_pos (by omega), rd_lt hlt, w64 (by omega) (by omega)]
    rfl
theorem laws_toIntS_ev (x : List Int) (h : x.length ≤ 1048576) : Ev (fun k => laws_toIntS.f k x) (x) := by
  have hx : x.length ≤ 1048576 := by exact h
  unfold laws_toIntS.f
  refine Ev.pos (by omega) (Ev.pos (by omega) ?_)
  exact laws_toIntS_l x h x.length 0 _ (by omega) (by simp) (by simp)
abbrev cvS176_S130 (x : S176) : S130 := ⟨x.f0, x.f1, x.f2⟩
theorem szcvS176_S130 (x : S176) : szvS130 (cvS176_S130 x) = szvS176 x := by simp [Function.comp_def, List.map_map, cvS176_S130, szvS130, szvS176]
theorem laws_toPrepared_ev (x : S176) (h : szvS176 x ≤ 1048576) : Ev (fun k => laws_toPrepared.f k x.f0 x.f1 x.f2) (x.f0, x.f1, x.f2) := by
  unfold laws_toPrepared.f
  have hs : szvS176 x = x.f2.length := rfl
  refine Ev.bind (laws_toIntS_ev x.f2 (by omega)) ?_
  exact Ev.now _
theorem szcvLS176_LS130 (x : List (S176)) : szvLS130 (x.map cvS176_S130) = szvLS176 x := by simp [Function.comp_def, List.map_map, szcvS176_S130, szvLS130, szvLS176]
theorem laws_toPreparedS_l (x : List (S176)) (h : szvLS176 x ≤ 1048576) (d : Nat) : ∀ (i : Nat) (z : List (S130)), i + d = x.length → z.length = x.length → z.take i = (x.map cvS176_S130).take i →
    Ev (fun k => laws_toPreparedS.l0 k x z (i : Int)) (x.map cvS176_S130) := by
  have hx : x.length ≤ 1048576 := by unfold szvLS176 at h; omega
  have hL : (x.map cvS176_S130).length = x.length := by simp
  induction d with
  | zero =>
    intro i z hi hz ht
    refine Ev.step (f := fun _ => some z) (fun k => by simp only [laws_toPreparedS.l0]; rw [if_neg (by omega)]) ?_
    have : z = x.map cvS176_S130 := by rw [← List.take_of_length_le (l := z) (i := i) (by omega), ht, List.take_of_length_le (by omega)]
    rw [this]
    exact Ev.now _
  | succ d ih =>
    intro i z hi hz ht
    have hlt : i < x.length := by omega
    have hg : (x.map cvS176_S130)[i]'(by omega) = cvS176_S130 (x[i]) := by simp
    have hst := set_take (l := x.map cvS176_S130) (z := z) (i := i) (by omega) (by omega) ht
    rw [hg] at hst
    refine Ev.step (f := fun k => (laws_toPrepared.f k (x[i].f0) (x[i].f1) (x[i].f2)).bind fun t => laws_toPreparedS.l0 k x (z.set i (⟨t.1, t.2.1, t.2.2⟩ : S130)) ((i + 1 : Nat) : Int)) (fun k => ?_) ?_
    · simp only [laws_toPreparedS.l0]
      rw [if_pos (by omega), if_pos (by omega), rd_T176_lt hlt]
      have e1 : wrap64 ((i : Int) + 1) = ((i + 1 : Nat) : Int) := by rw [w64 (by omega) (by omega)]; rfl
      rw [e1]
      simp only [show (i : Int) < (z.length : Int) from by omega, if_true, Int.toNat_natCast]
    refine Ev.bind (laws_toPrepared_ev x[i] (by have := sum_mem (fun y => szvS176 y) x _ (List.getElem_mem hlt); unfold szvLS176 at h; omega)) ?_
    exact ih (i + 1) _ (by omega) (by simpa using hz) hst
theorem laws_toPreparedS_ev (x : List (S176)) (h : szvLS176 x ≤ 1048576) : Ev (fun k => laws_toPreparedS.f k x) (x.map cvS176_S130) := by
  have hx : x.length ≤ 1048576 := by unfold szvLS176 at h; omega
  unfold laws_toPreparedS.f
  refine Ev.pos (by omega) (Ev.pos (by omega) ?_)
  exact laws_toPreparedS_l x h x.length 0 _ (by omega) (by simp) (by simp)
abbrev cvS66_S34 (x : S66) : S34 := ⟨x.f0, x.f1, x.f2, x.f3.map cvS176_S130, x.f4, x.f5, x.f6⟩
theorem szcvS66_S34 (x : S66) : szvS34 (cvS66_S34 x) = szvS66 x := by simp [Function.comp_def, List.map_map, cvS66_S34, szcvLS176_LS130, szvS34, szvS66]
theorem laws_toSink_ev (x : S66) (h : szvS66 x ≤ 1048576) : Ev (fun k => laws_toSink.f k x.f0 x.f1 x.f2 x.f3 x.f4 x.f5 x.f6) (x.f0, x.f1, x.f2, x.f3.map cvS176_S130, x.f4, x.f5, x.f6) := by
  unfold laws_toSink.f
  have hs : szvS66 x = x.f0.length + x.f2.length + szvLS176 x.f3 + x.f4.length := rfl
  refine Ev.bind (laws_toIntS_ev x.f0 (by omega)) ?_
  refine Ev.bind (laws_toIntS_ev x.f2 (by omega)) ?_
  refine Ev.bind (laws_toPreparedS_ev x.f3 (by omega)) ?_
  refine Ev.bind (laws_toIntS_ev x.f4 (by omega)) ?_
  exact Ev.now _
theorem laws_heldIntS_l (n : Nat) (a : Int) (h0 : 0 ≤ a) (hb : a + ((1 * n : Nat) : Int) ≤ 4611686018427387904) (d : Nat) : ∀ (i : Nat), i + d = n → Ev (fun k => laws_heldIntS.l0 k (marks a n) (a + 1 * (i : Int)) (i : Int)) (a + ((1 * n : Nat) : Int)) := by
  have hm := marks_length a n
  induction d with
  | zero =>
    intro i hi
    exact Ev.step (f := fun _ => some (a + 1 * (i : Int))) (fun k => by simp only [laws_heldIntS.l0]; rw [if_neg (by omega)]) (Ev.eq (Ev.now _) (by omega))
  | succ d ih =>
    intro i hi
    have hlt : i < (marks a n).length := by omega
    refine Ev.step (f := fun k => laws_heldIntS.l0 k (marks a n) (a + 1 * ((i + 1 : Nat) : Int)) ((i + 1 : Nat) : Int)) (fun k => ?_) (ih (i + 1) (by omega))
    simp only [laws_heldIntS.l0]
    rw [if_pos (by omega), if_pos (by omega)]
    rw [rd_lt hlt, marks_get, if_pos (by omega), w64 (by omega) (by omega), w64 (by omega) (by omega), show a + 1 * (i : Int) + 1 = a + 1 * ((i + 1 : Nat) : Int) from by omega]
    rfl
theorem laws_heldIntS_ev (x : List Int) (a : Int) (h0 : 0 ≤ a) (hb : a + ((x.length : Nat) : Int) ≤ 4611686018427387904) : Ev (fun k => laws_heldIntS.f k (marks (a) x.length) a) (a + ((x.length : Nat) : Int)) := by
  unfold laws_heldIntS.f
  have := laws_heldIntS_l x.length a h0 (by omega) x.length 0 (by omega)
  simpa using this
/-- What is left to show: the program's function and the reference answer alike. -/
def Core : Prop := ∀ x0 : S34, szvS34 x0 ≤ 1048576 → ∃ v : (List Int) × Int × Bool, Ev (fun k => spec_OutOf.f k x0.f0 x0.f1 x0.f2 x0.f3 x0.f4 x0.f5 x0.f6) v ∧ Ev (fun k => impl_OutOf.f k x0.f0 x0.f1 x0.f2 x0.f3 x0.f4 x0.f5 x0.f6) v ∧ v.1.length ≤ 1099511627776
theorem law (core : Core) : laws_FnExactOutOf.Pure := by
  intro x0 hwx0
  apply Ev.rounds
  unfold laws_FnExactOutOf.f
  refine Ev.bind (laws_szSink_ev x0 (1048576) hwx0 (by omega) (by omega)) ?_
  by_cases g0 : ((szvS66 x0 : Nat) : Int) ≤ 1048576
  case neg =>
    rw [if_neg g0]
    exact Ev.pos (by omega) (Ev.now true)
  rw [if_pos g0]
  refine Ev.neg (by omega) ?_
  have zx0 : szvS34 (cvS66_S34 x0) ≤ 1048576 := by rw [szcvS66_S34]; omega
  have yx0 : szvS66 x0 ≤ 1048576 := by omega
  obtain ⟨v, hs, hi, hv0⟩ := core (cvS66_S34 x0) zx0
  have := cnleLS130 ((cvS66_S34 x0).f3)
  repeat (first | (with_reducible exact Ev.now true) | (with_reducible refine Ev.bind hs ?_) | (with_reducible refine Ev.bind hi ?_) | (with_reducible refine Ev.bind (laws_eqIntS_ev _ (by first | assumption | omega | (dsimp only; omega) | (simp only [szvS34, szvS66] at *; omega))) ?_) | (with_reducible refine Ev.bind (laws_eqPrepared_lv _ _ _ (by first | assumption | omega | (dsimp only; omega) | (simp only [szvS34, szvS66] at *; omega))) ?_) | (with_reducible refine Ev.bind (laws_eqPreparedS_ev _ (by first | assumption | omega | (dsimp only; omega) | (simp only [szvS34, szvS66] at *; omega))) ?_) | (with_reducible refine Ev.bind (laws_eqSink_lv _ _ _ _ _ _ _ (by first | assumption | omega | (dsimp only; omega) | (simp only [szvS34, szvS66] at *; omega))) ?_) | (with_reducible refine Ev.bind (laws_toIntS_ev _ (by first | assumption | omega)) ?_) | (with_reducible refine Ev.bind (laws_toPrepared_ev _ (by first | assumption | omega)) ?_) | (with_reducible refine Ev.bind (laws_toPreparedS_ev _ (by first | assumption | omega)) ?_) | (with_reducible refine Ev.bind (laws_toSink_ev _ (by first | assumption | omega)) ?_) | (with_reducible refine Ev.bind (laws_markIntS_ev _ _ (by first | assumption | omega | (dsimp only; omega) | (simp only [szvS34, szvS66] at *; omega)) (by first | assumption | omega | (dsimp only; omega) | (simp only [szvS34, szvS66] at *; omega))) ?_) | (with_reducible refine Ev.bind (laws_markPreparedS_ev _ _ (by first | assumption | omega | (dsimp only; omega) | (simp only [szvS34, szvS66] at *; omega)) (by first | assumption | omega | (dsimp only; omega) | (simp only [szvS34, szvS66] at *; omega))) ?_) | (with_reducible refine Ev.bind (laws_markSink_lv _ _ _ _ _ _ _ _ (by first | assumption | omega | (dsimp only; omega) | (simp only [szvS34, szvS66] at *; omega)) (by first | assumption | omega | (dsimp only; omega) | (simp only [szvS34, szvS66] at *; omega))) ?_) | (with_reducible refine Ev.bind (laws_heldIntS_ev _ _ (by first | assumption | omega | (dsimp only; omega) | (simp only [szvS34, szvS66] at *; omega)) (by first | assumption | omega | (dsimp only; omega) | (simp only [szvS34, szvS66] at *; omega))) ?_) | (with_reducible refine Ev.pos rfl ?_) | (with_reducible refine Ev.neg (by first | omega | simp) ?_))
end Go.Proofs.Ytpbpglbldgpckaa.HFnExactOutOf
