/- What the helpers of the law FnExactNewSink compute, in plain words: printed by a program of this claim's own. No conditions. -/
import Derived.Test.YtpbpglbldgpckaaG15
import Derived.Test.YtpbpglbldgpckaaG16
import Derived.Test.YtpbpglbldgpckaaG17
import Derived.Test.YtpbpglbldgpckaaG18
import Derived.Test.YtpbpglbldgpckaaG19
import Derived.Test.YtpbpglbldgpckaaG20
import Derived.Test.YtpbpglbldgpckaaG21
import Derived.Test.YtpbpglbldgpckaaG22
import Derived.Test.YtpbpglbldgpckaaQBase
namespace Go.Proofs.Ytpbpglbldgpckaa.HFnExactNewSink
open Go.RowKit Go.Proofs.Ytpbpglbldgpckaa.G Go.Proofs.Ytpbpglbldgpckaa.X Go.Proofs.Ytpbpglbldgpckaa.Pure Go.Proofs.YtpbpglbldgpckaaW.PrintWords Go.Proofs.YtpbpglbldgpckaaW.PrintLast
set_option linter.unusedVariables false
set_option linter.unusedSimpArgs false

theorem laws_toIntS_l (x : List Int) (h : x.length ≤ 1048576) (d : Nat) : ∀ (i : Nat) (z : List Int), i + d = x.length → z.length = x.length → z.take i = (x).take i →
    Ev (fun k => laws_toIntS.l0 k x z (i : Int)) (x) := by
  have hx : x.length ≤ 1048576 := by exact h
  have hL : (x).length = x.length := by simp
  induction d with
  | zero =>
    intro i z hi hz ht
    refine Ev.step (f := fun _ => some z) (fun k => by simp only [laws_toIntS.l0]; rw [if_neg (by omega)]) ?_
    have : z = x := by rw [← List.take_of_length_le (l := z) (i := i) (by omega), ht, List.take_of_length_le (by omega)]
    rw [this]
    exact Ev.now _
  | succ d ih =>
    intro i z hi hz ht
    have hlt : i < x.length := by omega
    have hg : (x)[i]'(by omega) = x[i] := by simp
    have hst := set_take (l := x) (z := z) (i := i) (by omega) (by omega) ht
    rw [hg] at hst
    refine Ev.step (f := fun k => laws_toIntS.l0 k x (z.set i (x[i])) ((i + 1 : Nat) : Int)) (fun k => ?_) (ih (i + 1) _ (by omega) (by simpa using hz) hst)
    simp only [laws_toIntS.l0]
    rw [if_pos (by omega), if_pos (by omega), if_pos (by omega), rd_lt hlt, w64 (by omega) (by omega)]
    rfl
theorem laws_toIntS_ev (x : List Int) (h : x.length ≤ 1048576) : Ev (fun k => laws_toIntS.f k x) (x) := by
  have hx : x.length ≤ 1048576 := by exact h
  unfold laws_toIntS.f
  refine Ev.pos (by omega) (Ev.pos (by omega) ?_)
  exact laws_toIntS_l x h x.length 0 _ (by omega) (by simp) (by simp)
theorem laws_eqIntS_l (x : List Int) (h : x.length ≤ 1099511627776) (d : Nat) : ∀ (i : Nat), i + d = x.length → Ev (fun k => laws_eqIntS.l0 k x x (i : Int)) true := by
  have hx : x.length ≤ 1099511627776 := by exact h
  induction d with
  | zero =>
    intro i hi
    exact Ev.step (f := fun _ => some true) (fun k => by simp only [laws_eqIntS.l0]; rw [if_neg (by omega)]) (Ev.now _)
  | succ d ih =>
    intro i hi
    have hlt : i < x.length := by omega
    refine Ev.step (f := fun k => laws_eqIntS.l0 k x x ((i + 1 : Nat) : Int)) (fun k => ?_) (ih (i + 1) (by omega))
    simp only [laws_eqIntS.l0]
    rw [if_pos (by omega), if_pos (by omega), if_pos (by omega)]
    first | rw [if_pos trivial] | rw [if_pos rfl]
    rw [w64 (by omega) (by omega)]
    rfl
theorem laws_eqIntS_ev (x : List Int) (h : x.length ≤ 1099511627776) : Ev (fun k => laws_eqIntS.f k x x) true := by
  unfold laws_eqIntS.f
  exact Ev.pos rfl (laws_eqIntS_l x h x.length 0 (by omega))
def szvS130 (x : S130) : Nat := x.f2.length
theorem laws_eqPrepared_ev (x : S130) (h : szvS130 x ≤ 1099511627776) : Ev (fun k => laws_eqPrepared.f k x.f0 x.f1 x.f2 x.f0 x.f1 x.f2) true := by
  unfold laws_eqPrepared.f
  have hs : szvS130 x = x.f2.length := rfl
  repeat (first | (with_reducible exact Ev.now true) | (with_reducible refine Ev.pos rfl ?_) | (with_reducible refine Ev.neg (by simp; done) ?_) | (with_reducible refine Ev.bind (laws_eqIntS_ev _ (by omega)) ?_))
theorem laws_eqPrepared_lv (y0 : Int) (y1 : Int) (y2 : List Int) (h : y2.length ≤ 1099511627776) : Ev (fun k => laws_eqPrepared.f k y0 y1 y2 y0 y1 y2) true := laws_eqPrepared_ev (⟨y0, y1, y2⟩ : S130) h
def szvLS130 (x : List (S130)) : Nat := x.length + (x.map fun y => szvS130 y).sum
theorem rd_T130_lt {l : List S130} {i : Nat} (h : i < l.length) : rd_T130 l (i : Int) = l[i] := by simp [rd_T130, h]
theorem laws_eqPreparedS_l (x : List (S130)) (h : szvLS130 x ≤ 1099511627776) (d : Nat) : ∀ (i : Nat), i + d = x.length → Ev (fun k => laws_eqPreparedS.l0 k x x (i : Int)) true := by
  have hx : x.length ≤ 1099511627776 := by unfold szvLS130 at h; omega
  induction d with
  | zero =>
    intro i hi
    exact Ev.step (f := fun _ => some true) (fun k => by simp only [laws_eqPreparedS.l0]; rw [if_neg (by omega)]) (Ev.now _)
  | succ d ih =>
    intro i hi
    have hlt : i < x.length := by omega
    refine Ev.step (f := fun k => (laws_eqPrepared.f k (x[i].f0) (x[i].f1) (x[i].f2) (x[i].f0) (x[i].f1) (x[i].f2)).bind fun t => if t = true then laws_eqPreparedS.l0 k x x ((i + 1 : Nat) : Int) else some false) (fun k => ?_) ?_
    · simp only [laws_eqPreparedS.l0]
      rw [if_pos (by omega), if_pos (by omega), if_pos (by omega), rd_T130_lt hlt, w64 (by omega) (by omega)]
      rfl
    refine Ev.bind (laws_eqPrepared_ev x[i] (by have := sum_mem (fun y => szvS130 y) x _ (List.getElem_mem hlt); unfold szvLS130 at h; omega)) ?_
    exact Ev.pos rfl (ih (i + 1) (by omega))
theorem laws_eqPreparedS_ev (x : List (S130)) (h : szvLS130 x ≤ 1099511627776) : Ev (fun k => laws_eqPreparedS.f k x x) true := by
  unfold laws_eqPreparedS.f
  exact Ev.pos rfl (laws_eqPreparedS_l x h x.length 0 (by omega))
def szvS34 (x : S34) : Nat := x.f0.length + x.f2.length + szvLS130 x.f3 + x.f4.length
theorem laws_eqSink_ev (x : S34) (h : szvS34 x ≤ 1099511627776) : Ev (fun k => laws_eqSink.f k x.f0 x.f1 x.f2 x.f3 x.f4 x.f5 x.f6 x.f0 x.f1 x.f2 x.f3 x.f4 x.f5 x.f6) true := by
  unfold laws_eqSink.f
  have hs : szvS34 x = x.f0.length + x.f2.length + szvLS130 x.f3 + x.f4.length := rfl
  repeat (first | (with_reducible exact Ev.now true) | (with_reducible refine Ev.pos rfl ?_) | (with_reducible refine Ev.neg (by simp; done) ?_) | (with_reducible refine Ev.bind (laws_eqPreparedS_ev _ (by omega)) ?_) | (with_reducible refine Ev.bind (laws_eqIntS_ev _ (by omega)) ?_))
theorem laws_eqSink_lv (y0 : List Int) (y1 : Int) (y2 : List Int) (y3 : List (S130)) (y4 : List Int) (y5 : Int) (y6 : Int) (h : y0.length + y2.length + szvLS130 y3 + y4.length ≤ 1099511627776) : Ev (fun k => laws_eqSink.f k y0 y1 y2 y3 y4 y5 y6 y0 y1 y2 y3 y4 y5 y6) true := laws_eqSink_ev (⟨y0, y1, y2, y3, y4, y5, y6⟩ : S34) h
theorem laws_markIntS_l (n : Nat) (a : Int) (h0 : 0 ≤ a) (hb : a + ((1 * n : Nat) : Int) ≤ 4611686018427387904) (d : Nat) : ∀ (i : Nat) (z : List Int), i + d = n → z.length = n → z.take i = (marks a n).take i →
    Ev (fun k => laws_markIntS.l0 k z (a + 1 * (i : Int)) (i : Int)) (a + ((1 * n : Nat) : Int), marks a n) := by
  have hm := marks_length a n
  induction d with
  | zero =>
    intro i z hi hz ht
    refine Ev.step (f := fun _ => some (a + 1 * (i : Int), z)) (fun k => by simp only [laws_markIntS.l0]; rw [if_neg (by omega)]) ?_
    have : z = marks a n := by rw [← List.take_of_length_le (l := z) (i := i) (by omega), ht, List.take_of_length_le (by omega)]
    rw [this]
    refine Ev.eq (Ev.now _) ?_
    have e : a + 1 * (i : Int) = a + ((1 * n : Nat) : Int) := by omega
    rw [e]
  | succ d ih =>
    intro i z hi hz ht
    have hlt : i < z.length := by omega
    have hst := set_take (l := marks a n) (z := z) (i := i) (by omega) (by omega) ht
    rw [marks_get] at hst
    refine Ev.step (f := fun k => laws_markIntS.l0 k (z.set i (a + (i : Int))) (a + 1 * ((i + 1 : Nat) : Int)) ((i + 1 : Nat) : Int)) (fun k => ?_) (ih (i + 1) _ (by omega) (by simpa using hz) hst)
    simp only [laws_markIntS.l0]
    rw [if_pos (by omega), if_pos (by omega)]
    rw [w64 (by omega) (by omega), w64 (by omega) (by omega), show a + 1 * (i : Int) = a + (i : Int) from by omega, show a + (i : Int) + 1 = a + 1 * ((i + 1 : Nat) : Int) from by omega]
    rfl
theorem laws_markIntS_ev (x : List Int) (a : Int) (h0 : 0 ≤ a) (hb : a + ((x.length : Nat) : Int) ≤ 4611686018427387904) : Ev (fun k => laws_markIntS.f k x a) (a + ((x.length : Nat) : Int), marks (a) x.length) := by
  unfold laws_markIntS.f
  have := laws_markIntS_l x.length a h0 (by omega) x.length 0 x (by omega) rfl (by simp)
  simpa using this
def cnLS130 : List S130 → Nat
  | [] => 0
  | y :: ys => (2 + y.f2.length) + cnLS130 ys
def mkLS130 : Int → List S130 → List S130
  | _, [] => []
  | a, y :: ys => (⟨a, a + 1, marks (a + 1 + 1) y.f2.length⟩ : S130) :: mkLS130 (a + 1 + 1 + (y.f2.length : Int)) ys
theorem mkLS130_len : ∀ (x : List S130) (a : Int), (mkLS130 a x).length = x.length
  | [], _ => rfl
  | y :: ys, a => by show (mkLS130 (a + 1 + 1 + (y.f2.length : Int)) ys).length + 1 = _; rw [mkLS130_len ys]; rfl
theorem cnleLS130 : ∀ x : List S130, cnLS130 x + x.length ≤ 4 * szvLS130 x
  | [] => by simp [cnLS130]
  | y :: ys => by
    have ih := cnleLS130 ys
    have h : szvLS130 (y :: ys) = (szvS130 y) + 1 + szvLS130 ys := by unfold szvLS130; simp only [List.length_cons, List.map_cons, List.sum_cons]; omega
    have h2 : y.f2.length ≤ szvS130 y := by first | exact Nat.le_refl _ | (simp only [szvS130]; omega)
    have h3 : cnLS130 (y :: ys) = (2 + y.f2.length) + cnLS130 ys := rfl
    rw [h, h3, List.length_cons]
    omega
theorem laws_markPreparedS_ev : ∀ (x : List (S130)) (a : Int) (h0 : 0 ≤ a) (hb : a + (((cnLS130 x + x.length) : Nat) : Int) ≤ 4611686018427387904), Ev (fun k => laws_markPreparedS.f k x a) (a + ((cnLS130 x : Nat) : Int), mkLS130 (a) x)
  | [], a, h0, hb => Ev.eq (Ev.const (o := some (a, [])) rfl) (by simp [cnLS130, mkLS130])
  | y :: ys, a, h0, hb => by
    have ih := laws_markPreparedS_ev ys
    have hc : cnLS130 (y :: ys) = (2 + y.f2.length) + cnLS130 ys := rfl
    rw [hc, List.length_cons] at hb
    have e0_ : wrap64 (a + 1) = a + 1 := w64 (by omega) (by omega)
    have e1_ : wrap64 (a + 1 + 1) = a + 1 + 1 := w64 (by omega) (by omega)
    simp only [laws_markPreparedS.f]
    (try simp only [e0_, e1_])
    refine Ev.bind (laws_markIntS_ev y.f2 (a + 1 + 1) (by omega) (by omega)) ?_
    (try dsimp only)
    (try simp only [e0_, e1_])
    refine Ev.eq (Ev.bind (ih (a + 1 + 1 + (y.f2.length : Int)) (by omega) (by omega)) (Ev.now _)) ?_
    refine Prod.ext ?_ rfl
    show (a + 1 + 1 + (y.f2.length : Int)) + ((cnLS130 ys : Nat) : Int) = a + ((cnLS130 (y :: ys) : Nat) : Int)
    rw [hc]
    omega
theorem laws_markSink_ev (x : S34) (a : Int) (h0 : 0 ≤ a) (hb : a + ((x.f0.length + x.f2.length + (cnLS130 x.f3 + x.f3.length) + x.f4.length : Nat) : Int) ≤ 4611686018427387904) : Ev (fun k => laws_markSink.f k x.f0 x.f1 x.f2 x.f3 x.f4 x.f5 x.f6 a) (a + ((x.f0.length + x.f2.length + cnLS130 x.f3 + x.f4.length : Nat) : Int), marks (a) x.f0.length, marks (a + ((x.f0.length : Nat) : Int)) x.f2.length, mkLS130 (a + ((x.f0.length : Nat) : Int) + ((x.f2.length : Nat) : Int)) x.f3, marks (a + ((x.f0.length : Nat) : Int) + ((x.f2.length : Nat) : Int) + ((cnLS130 x.f3 : Nat) : Int)) x.f4.length) := by
  unfold laws_markSink.f
  refine Ev.bind (laws_markIntS_ev x.f0 (a) (by omega) (by omega)) ?_
  refine Ev.bind (laws_markIntS_ev x.f2 (a + ((x.f0.length : Nat) : Int)) (by omega) (by omega)) ?_
  refine Ev.bind (laws_markPreparedS_ev x.f3 (a + ((x.f0.length : Nat) : Int) + ((x.f2.length : Nat) : Int)) (by omega) (by omega)) ?_
  refine Ev.bind (laws_markIntS_ev x.f4 (a + ((x.f0.length : Nat) : Int) + ((x.f2.length : Nat) : Int) + ((cnLS130 x.f3 : Nat) : Int)) (by omega) (by omega)) ?_
  exact Ev.eq (Ev.now _) (by simp only [Prod.mk.injEq, and_true]; omega)
theorem laws_markSink_lv (y0 : List Int) (y1 : Int) (y2 : List Int) (y3 : List (S130)) (y4 : List Int) (y5 : Int) (y6 : Int) (a : Int) (h0 : 0 ≤ a) (hb : a + ((y0.length + y2.length + (cnLS130 y3 + y3.length) + y4.length : Nat) : Int) ≤ 4611686018427387904) : Ev (fun k => laws_markSink.f k y0 y1 y2 y3 y4 y5 y6 a) (a + ((y0.length + y2.length + cnLS130 y3 + y4.length : Nat) : Int), (marks (a) y0.length), (marks (a + ((y0.length : Nat) : Int)) y2.length), (mkLS130 (a + ((y0.length : Nat) : Int) + ((y2.length : Nat) : Int)) y3), (marks (a + ((y0.length : Nat) : Int) + ((y2.length : Nat) : Int) + ((cnLS130 y3 : Nat) : Int)) y4.length)) := laws_markSink_ev (⟨y0, y1, y2, y3, y4, y5, y6⟩ : S34) a h0 hb
theorem laws_heldIntS_l (n : Nat) (a : Int) (h0 : 0 ≤ a) (hb : a + ((1 * n : Nat) : Int) ≤ 4611686018427387904) (d : Nat) : ∀ (i : Nat), i + d = n → Ev (fun k => laws_heldIntS.l0 k (marks a n) (a + 1 * (i : Int)) (i : Int)) (a + ((1 * n : Nat) : Int)) := by
  have hm := marks_length a n
  induction d with
  | zero =>
    intro i hi
    exact Ev.step (f := fun _ => some (a + 1 * (i : Int))) (fun k => by simp only [laws_heldIntS.l0]; rw [if_neg (by omega)]) (Ev.eq (Ev.now _) (by omega))
  | succ d ih =>
    intro i hi
    have hlt : i < (marks a n).length := by omega
    refine Ev.step (f := fun k => laws_heldIntS.l0 k (marks a n) (a + 1 * ((i + 1 : Nat) : Int)) ((i + 1 : Nat) : Int)) (fun k => ?_) (ih (i + 1) (by omega))
    simp only [laws_heldIntS.l0]
    rw [if_pos (by omega), if_pos (by omega)]
    rw [rd_lt hlt, marks_get, if_pos (by omega), w64 (by omega) (by omega), w64 (by omega) (by omega), show a + 1 * (i : Int) + 1 = a + 1 * ((i + 1 : Nat) : Int) from by omega]
    rfl
theorem laws_heldIntS_ev (x : List Int) (a : Int) (h0 : 0 ≤ a) (hb : a + ((x.length : Nat) : Int) ≤ 4611686018427387904) : Ev (fun k => laws_heldIntS.f k (marks (a) x.length) a) (a + ((x.length : Nat) : Int)) := by
  unfold laws_heldIntS.f
  have := laws_heldIntS_l x.length a h0 (by omega) x.length 0 (by omega)
  simpa using this
theorem laws_heldPreparedS_l (z : List (S130)) (hz : (z.length : Int) ≤ 4611686018427387904) : ∀ (x : List (S130)) (a : Int) (i : Nat) (h0 : 0 ≤ a) (hb : a + (((cnLS130 x + x.length) : Nat) : Int) ≤ 4611686018427387904) (hd : z.drop i = mkLS130 (a) x) (hi : i ≤ z.length), Ev (fun k => laws_heldPreparedS.l0 k z a (i : Int)) (a + ((cnLS130 x : Nat) : Int))
  | [], a, i, h0, hb, hd, hi => by
    have hl : z.length ≤ i := List.drop_eq_nil_iff.1 hd
    refine Ev.eq (r := a) (Ev.step (f := fun _ => some a) (fun k => by simp only [laws_heldPreparedS.l0]; rw [if_neg (by omega)]) (Ev.now _)) (by simp [cnLS130])
  | y :: ys, a, i, h0, hb, hd, hi => by
    have ih := laws_heldPreparedS_l z hz ys
    have hc : cnLS130 (y :: ys) = (2 + y.f2.length) + cnLS130 ys := rfl
    rw [hc, List.length_cons] at hb
    have hlt : i < z.length := by rcases Nat.lt_or_ge i z.length with h | h; exact h; rw [List.drop_eq_nil_iff.2 h] at hd; cases hd
    rw [drop_cons hlt] at hd
    have hd2 : z[i] :: z.drop (i + 1) = (⟨a, a + 1, marks (a + 1 + 1) y.f2.length⟩ : S130) :: mkLS130 (a + 1 + 1 + (y.f2.length : Int)) ys := hd
    injection hd2 with hx_ hd3
    have e0_ : wrap64 (a + 1) = a + 1 := w64 (by omega) (by omega)
    have e1_ : wrap64 (a + 1 + 1) = a + 1 + 1 := w64 (by omega) (by omega)
    have ei_ : wrap64 ((i : Int) + 1) = ((i + 1 : Nat) : Int) := by rw [w64 (by omega) (by omega)]; rfl
    refine Ev.step (f := ?f_) ?h_ ?_
    case h_ => intro k; simp only [laws_heldPreparedS.l0]; exact rfl
    refine Ev.pos (by omega) (Ev.pos (by omega) ?_)
    simp only [rd_T130_lt hlt, hx_]
    (try simp only [ei_, e0_, e1_])
    repeat (first | (with_reducible refine Ev.pos rfl ?_) | (refine Ev.bind (laws_heldIntS_ev y.f2 (a + 1 + 1) (by omega) (by omega)) ?_; (try dsimp only); (try simp only [ei_, e0_, e1_])) | (with_reducible refine Ev.neg (by omega) ?_))
    exact Ev.eq (ih (a + 1 + 1 + (y.f2.length : Int)) (i + 1) (by omega) (by omega) hd3 (by omega)) (by rw [hc]; omega)
theorem laws_heldPreparedS_ev (x : List (S130)) (a : Int) (h0 : 0 ≤ a) (hb : a + (((cnLS130 x + x.length) : Nat) : Int) ≤ 4611686018427387904) : Ev (fun k => laws_heldPreparedS.f k (mkLS130 (a) x) a) (a + ((cnLS130 x : Nat) : Int)) := by
  unfold laws_heldPreparedS.f
  exact laws_heldPreparedS_l (mkLS130 a x) (by rw [mkLS130_len]; omega) x a 0 h0 hb (by simp) (Nat.zero_le _)
theorem laws_heldSink_ev (x : S34) (a : Int) (h0 : 0 ≤ a) (hb : a + ((x.f0.length + x.f2.length + (cnLS130 x.f3 + x.f3.length) + x.f4.length : Nat) : Int) ≤ 4611686018427387904) : Ev (fun k => laws_heldSink.f k (marks (a) x.f0.length) x.f1 (marks (a + ((x.f0.length : Nat) : Int)) x.f2.length) (mkLS130 (a + ((x.f0.length : Nat) : Int) + ((x.f2.length : Nat) : Int)) x.f3) (marks (a + ((x.f0.length : Nat) : Int) + ((x.f2.length : Nat) : Int) + ((cnLS130 x.f3 : Nat) : Int)) x.f4.length) x.f5 x.f6 a) (a + ((x.f0.length + x.f2.length + cnLS130 x.f3 + x.f4.length : Nat) : Int)) := by
  unfold laws_heldSink.f
  refine Ev.bind (laws_heldIntS_ev x.f0 (a) (by omega) (by omega)) ?_
  refine Ev.neg (by omega) ?_
  refine Ev.bind (laws_heldIntS_ev x.f2 (a + ((x.f0.length : Nat) : Int)) (by omega) (by omega)) ?_
  refine Ev.neg (by omega) ?_
  refine Ev.bind (laws_heldPreparedS_ev x.f3 (a + ((x.f0.length : Nat) : Int) + ((x.f2.length : Nat) : Int)) (by omega) (by omega)) ?_
  refine Ev.neg (by omega) ?_
  refine Ev.bind (laws_heldIntS_ev x.f4 (a + ((x.f0.length : Nat) : Int) + ((x.f2.length : Nat) : Int) + ((cnLS130 x.f3 : Nat) : Int)) (by omega) (by omega)) ?_
  refine Ev.neg (by omega) ?_
  exact Ev.eq (Ev.now _) (by omega)
theorem laws_heldSink_lv (y0 : List Int) (y1 : Int) (y2 : List Int) (y3 : List (S130)) (y4 : List Int) (y5 : Int) (y6 : Int) (a : Int) (h0 : 0 ≤ a) (hb : a + ((y0.length + y2.length + (cnLS130 y3 + y3.length) + y4.length : Nat) : Int) ≤ 4611686018427387904) : Ev (fun k => laws_heldSink.f k (marks (a) y0.length) y1 (marks (a + ((y0.length : Nat) : Int)) y2.length) (mkLS130 (a + ((y0.length : Nat) : Int) + ((y2.length : Nat) : Int)) y3) (marks (a + ((y0.length : Nat) : Int) + ((y2.length : Nat) : Int) + ((cnLS130 y3 : Nat) : Int)) y4.length) y5 y6 a) (a + ((y0.length + y2.length + cnLS130 y3 + y4.length : Nat) : Int)) := laws_heldSink_ev (⟨y0, y1, y2, y3, y4, y5, y6⟩ : S34) a h0 hb
/-- What is left to show: the program's function and the reference answer alike. -/
def Core : Prop := ∀ x0 : List Int, x0.length ≤ 1048576 → ∃ v : (List Int) × Int × (List Int) × (List (S130)) × (List Int) × Int × Int × Bool, Ev (fun k => spec_NewSink.f x0) v ∧ Ev (fun k => impl_NewSink.f x0) v ∧ v.1.length ≤ 137438953472 ∧ v.2.2.1.length ≤ 137438953472 ∧ szvLS130 v.2.2.2.1 ≤ 137438953472 ∧ v.2.2.2.2.1.length ≤ 137438953472
theorem law (core : Core) : laws_FnExactNewSink.Pure := by
  intro x0 hwx0
  apply Ev.rounds
  unfold laws_FnExactNewSink.f
  by_cases g0 : (x0.length : Int) > 1048576
  case pos => exact Ev.pos g0 (Ev.now true)
  refine Ev.neg g0 ?_
  have zx0 : x0.length ≤ 1048576 := by omega
  have yx0 : x0.length ≤ 1048576 := by omega
  obtain ⟨v, hs, hi, hv0, hv2, hv3, hv4⟩ := core x0 zx0
  have := cnleLS130 v.2.2.2.1
  repeat (first | (with_reducible exact Ev.now true) | (with_reducible refine Ev.bind hs ?_) | (with_reducible refine Ev.bind hi ?_) | (with_reducible refine Ev.bind (laws_toIntS_ev _ (by first | assumption | omega)) ?_) | (with_reducible refine Ev.bind (laws_eqIntS_ev _ (by first | assumption | omega | (dsimp only; omega) | (simp only [szvS34] at *; omega))) ?_) | (with_reducible refine Ev.bind (laws_eqPrepared_lv _ _ _ (by first | assumption | omega | (dsimp only; omega) | (simp only [szvS34] at *; omega))) ?_) | (with_reducible refine Ev.bind (laws_eqPreparedS_ev _ (by first | assumption | omega | (dsimp only; omega) | (simp only [szvS34] at *; omega))) ?_) | (with_reducible refine Ev.bind (laws_eqSink_lv _ _ _ _ _ _ _ (by first | assumption | omega | (dsimp only; omega) | (simp only [szvS34] at *; omega))) ?_) | (with_reducible refine Ev.bind (laws_markIntS_ev _ _ (by first | assumption | omega | (dsimp only; omega) | (simp only [szvS34] at *; omega)) (by first | assumption | omega | (dsimp only; omega) | (simp only [szvS34] at *; omega))) ?_) | (with_reducible refine Ev.bind (laws_markPreparedS_ev _ _ (by first | assumption | omega | (dsimp only; omega) | (simp only [szvS34] at *; omega)) (by first | assumption | omega | (dsimp only; omega) | (simp only [szvS34] at *; omega))) ?_) | (with_reducible refine Ev.bind (laws_markSink_lv _ _ _ _ _ _ _ _ (by first | assumption | omega | (dsimp only; omega) | (simp only [szvS34] at *; omega)) (by first | assumption | omega | (dsimp only; omega) | (simp only [szvS34] at *; omega))) ?_) | (with_reducible refine Ev.bind (laws_heldIntS_ev _ _ (by first | assumption | omega | (dsimp only; omega) | (simp only [szvS34] at *; omega)) (by first | assumption | omega | (dsimp only; omega) | (simp only [szvS34] at *; omega))) ?_) | (with_reducible refine Ev.bind (laws_heldPreparedS_ev _ _ (by first | assumption | omega | (dsimp only; omega) | (simp only [szvS34] at *; omega)) (by first | assumption | omega | (dsimp only; omega) | (simp only [szvS34] at *; omega))) ?_) | (with_reducible refine Ev.bind (laws_heldSink_lv _ _ _ _ _ _ _ _ (by first | assumption | omega | (dsimp only; omega) | (simp only [szvS34] at *; omega)) (by first | assumption | omega | (dsimp only; omega) | (simp only [szvS34] at *; omega))) ?_) | (with_reducible refine Ev.pos rfl ?_) | (with_reducible refine Ev.neg (by first | omega | simp) ?_))
end Go.Proofs.Ytpbpglbldgpckaa.HFnExactNewSink
