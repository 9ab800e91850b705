/- What the helpers of the law FnExactEmptyTable compute, in plain words: printed by a program of this claim's own. No conditions. -/
import Derived.Test.YtcbikaoackbbjaaG7
import Derived.Test.YtcbikaoackbbjaaG8
import Derived.Test.YtcbikaoackbbjaaG17
import Derived.Test.YtcbikaoackbbjaaG18
import Derived.Test.YtcbikaoackbbjaaG20
import Derived.Test.YtcbikaoackbbjaaQBase
namespace Go.Proofs.Ytcbikaoackbbjaa.HFnExactEmptyTable
open Go.RowKit Go.Proofs.Ytcbikaoackbbjaa.G Go.Proofs.Ytcbikaoackbbjaa.X Go.Proofs.Ytcbikaoackbbjaa.Pure Go.Proofs.YtcbikaoackbbjaaW.PrintWords Go.Proofs.YtcbikaoackbbjaaW.PrintLast
set_option linter.unusedVariables false
set_option linter.unusedSimpArgs false

theorem laws_eqIntS_l (x : List Int) (h : x.length ≤ 1099511627776) (d : Nat) : ∀ (i : Nat), i + d = x.length → Ev (fun k => laws_eqIntS.l0 k x x (i : Int)) true := by
  have hx : x.length ≤ 1099511627776 := by exact h
  induction d with
  | zero =>
    intro i hi
    exact Ev.step (f := fun _ => some true) (fun k => by simp only [laws_eqIntS.l0]; rw [if_neg (by omega)]) (Ev.now _)
  | succ d ih =>
    intro i hi
    have hlt : i < x.length := by omega
    refine Ev.step (f := fun k => laws_eqIntS.l0 k x x ((i + 1 : Nat) : Int)) (fun k => ?_) (ih (i + 1) (by omega))
    simp only [laws_eqIntS.l0]
    rw [if_pos (by omega), if_pos (by omega), if_pos (by omega)]
    first | rw [if_pos trivial] | rw [if_pos rfl]
    rw [w64 (by omega) (by omega)]
    rfl
theorem laws_eqIntS_ev (x : List Int) (h : x.length ≤ 1099511627776) : Ev (fun k => laws_eqIntS.f k x x) true := by
  unfold laws_eqIntS.f
  exact Ev.pos rfl (laws_eqIntS_l x h x.length 0 (by omega))
def szvS26 (x : S26) : Nat := x.f0.length
theorem laws_eqRow_ev (x : S26) (h : szvS26 x ≤ 1099511627776) : Ev (fun k => laws_eqRow.f k x.f0 x.f0) true := by
  unfold laws_eqRow.f
  have hs : szvS26 x = x.f0.length := rfl
  repeat (first | (with_reducible exact Ev.now true) | (with_reducible refine Ev.pos rfl ?_) | (with_reducible refine Ev.neg (by simp; done) ?_) | (with_reducible refine Ev.bind (laws_eqIntS_ev _ (by omega)) ?_))
theorem laws_eqRow_lv (y0 : List Int) (h : y0.length ≤ 1099511627776) : Ev (fun k => laws_eqRow.f k y0 y0) true := laws_eqRow_ev (⟨y0⟩ : S26) h
def szvS126 (x : S126) : Nat := szvS26 x.f0
theorem laws_eqWeighted_ev (x : S126) (h : szvS126 x ≤ 1099511627776) : Ev (fun k => laws_eqWeighted.f k x.f0.f0 x.f1 x.f0.f0 x.f1) true := by
  unfold laws_eqWeighted.f
  have hs : szvS126 x = szvS26 x.f0 := rfl
  repeat (first | (with_reducible exact Ev.now true) | (with_reducible refine Ev.pos rfl ?_) | (with_reducible refine Ev.neg (by simp; done) ?_) | (with_reducible refine Ev.bind (laws_eqRow_ev (_) (by omega)) ?_))
theorem laws_eqWeighted_lv (y0 : List Int) (y1 : Int) (h : y0.length ≤ 1099511627776) : Ev (fun k => laws_eqWeighted.f k y0 y1 y0 y1) true := laws_eqWeighted_ev (⟨(⟨y0⟩ : S26), y1⟩ : S126) h
def szvLS126 (x : List (S126)) : Nat := x.length + (x.map fun y => szvS126 y).sum
theorem rd_T126_lt {l : List S126} {i : Nat} (h : i < l.length) : rd_T126 l (i : Int) = l[i] := by simp [rd_T126, h]
theorem laws_eqWeightedS_l (x : List (S126)) (h : szvLS126 x ≤ 1099511627776) (d : Nat) : ∀ (i : Nat), i + d = x.length → Ev (fun k => laws_eqWeightedS.l0 k x x (i : Int)) true := by
  have hx : x.length ≤ 1099511627776 := by unfold szvLS126 at h; omega
  induction d with
  | zero =>
    intro i hi
    exact Ev.step (f := fun _ => some true) (fun k => by simp only [laws_eqWeightedS.l0]; rw [if_neg (by omega)]) (Ev.now _)
  | succ d ih =>
    intro i hi
    have hlt : i < x.length := by omega
    refine Ev.step (f := fun k => (laws_eqWeighted.f k (x[i].f0.f0) (x[i].f1) (x[i].f0.f0) (x[i].f1)).bind fun t => if t = true then laws_eqWeightedS.l0 k x x ((i + 1 : Nat) : Int) else some false) (fun k => ?_) ?_
    · simp only [laws_eqWeightedS.l0]
      rw [if_pos (by omega), if_pos (by omega), if_pos (by omega), rd_T126_lt hlt, w64 (by omega) (by omega)]
      rfl
    refine Ev.bind (laws_eqWeighted_ev x[i] (by have := sum_mem (fun y => szvS126 y) x _ (List.getElem_mem hlt); unfold szvLS126 at h; omega)) ?_
    exact Ev.pos rfl (ih (i + 1) (by omega))
theorem laws_eqWeightedS_ev (x : List (S126)) (h : szvLS126 x ≤ 1099511627776) : Ev (fun k => laws_eqWeightedS.f k x x) true := by
  unfold laws_eqWeightedS.f
  exact Ev.pos rfl (laws_eqWeightedS_l x h x.length 0 (by omega))
def szvS41 (x : S41) : Nat := szvLS126 x.f1
theorem laws_eqTable_ev (x : S41) (h : szvS41 x ≤ 1099511627776) : Ev (fun k => laws_eqTable.f k x.f0 x.f1 x.f0 x.f1) true := by
  unfold laws_eqTable.f
  have hs : szvS41 x = szvLS126 x.f1 := rfl
  repeat (first | (with_reducible exact Ev.now true) | (with_reducible refine Ev.pos rfl ?_) | (with_reducible refine Ev.neg (by simp; done) ?_) | (with_reducible refine Ev.bind (laws_eqWeightedS_ev _ (by omega)) ?_))
theorem laws_eqTable_lv (y0 : Int) (y1 : List (S126)) (h : szvLS126 y1 ≤ 1099511627776) : Ev (fun k => laws_eqTable.f k y0 y1 y0 y1) true := laws_eqTable_ev (⟨y0, y1⟩ : S41) h
theorem laws_markIntS_l (n : Nat) (a : Int) (h0 : 0 ≤ a) (hb : a + ((1 * n : Nat) : Int) ≤ 4611686018427387904) (d : Nat) : ∀ (i : Nat) (z : List Int), i + d = n → z.length = n → z.take i = (marks a n).take i →
    Ev (fun k => laws_markIntS.l0 k z (a + 1 * (i : Int)) (i : Int)) (a + ((1 * n : Nat) : Int), marks a n) := by
  have hm := marks_length a n
  induction d with
  | zero =>
    intro i z hi hz ht
    refine Ev.step (f := fun _ => some (a + 1 * (i : Int), z)) (fun k => by simp only [laws_markIntS.l0]; rw [if_neg (by omega)]) ?_
    have : z = marks a n := by rw [← List.take_of_length_le (l := z) (i := i) (by omega), ht, List.take_of_length_le (by omega)]
    rw [this]
    refine Ev.eq (Ev.now _) ?_
    have e : a + 1 * (i : Int) = a + ((1 * n : Nat) : Int) := by omega
    rw [e]
  | succ d ih =>
    intro i z hi hz ht
    have hlt : i < z.length := by omega
    have hst := set_take (l := marks a n) (z := z) (i := i) (by omega) (by omega) ht
    rw [marks_get] at hst
    refine Ev.step (f := fun k => laws_markIntS.l0 k (z.set i (a + (i : Int))) (a + 1 * ((i + 1 : Nat) : Int)) ((i + 1 : Nat) : Int)) (fun k => ?_) (ih (i + 1) _ (by omega) (by simpa using hz) hst)
    simp only [laws_markIntS.l0]
    rw [if_pos (by omega), if_pos (by omega)]
    rw [w64 (by omega) (by omega), w64 (by omega) (by omega), show a + 1 * (i : Int) = a + (i : Int) from by omega, show a + (i : Int) + 1 = a + 1 * ((i + 1 : Nat) : Int) from by omega]
    rfl
theorem laws_markIntS_ev (x : List Int) (a : Int) (h0 : 0 ≤ a) (hb : a + ((x.length : Nat) : Int) ≤ 4611686018427387904) : Ev (fun k => laws_markIntS.f k x a) (a + ((x.length : Nat) : Int), marks (a) x.length) := by
  unfold laws_markIntS.f
  have := laws_markIntS_l x.length a h0 (by omega) x.length 0 x (by omega) rfl (by simp)
  simpa using this
def cnLS126 : List S126 → Nat
  | [] => 0
  | y :: ys => (1 + y.f0.f0.length) + cnLS126 ys
def mkLS126 : Int → List S126 → List S126
  | _, [] => []
  | a, y :: ys => (⟨(⟨marks (a) y.f0.f0.length⟩ : S26), a + (y.f0.f0.length : Int)⟩ : S126) :: mkLS126 (a + (y.f0.f0.length : Int) + 1) ys
theorem mkLS126_len : ∀ (x : List S126) (a : Int), (mkLS126 a x).length = x.length
  | [], _ => rfl
  | y :: ys, a => by show (mkLS126 (a + (y.f0.f0.length : Int) + 1) ys).length + 1 = _; rw [mkLS126_len ys]; rfl
theorem cnleLS126 : ∀ x : List S126, cnLS126 x + x.length ≤ 3 * szvLS126 x
  | [] => by simp [cnLS126]
  | y :: ys => by
    have ih := cnleLS126 ys
    have h : szvLS126 (y :: ys) = (szvS126 y) + 1 + szvLS126 ys := by unfold szvLS126; simp only [List.length_cons, List.map_cons, List.sum_cons]; omega
    have h2 : y.f0.f0.length ≤ szvS126 y := by first | exact Nat.le_refl _ | (simp only [szvS126, szvS26]; omega)
    have h3 : cnLS126 (y :: ys) = (1 + y.f0.f0.length) + cnLS126 ys := rfl
    rw [h, h3, List.length_cons]
    omega
theorem laws_markWeightedS_ev : ∀ (x : List (S126)) (a : Int) (h0 : 0 ≤ a) (hb : a + (((cnLS126 x + x.length) : Nat) : Int) ≤ 4611686018427387904), Ev (fun k => laws_markWeightedS.f k x a) (a + ((cnLS126 x : Nat) : Int), mkLS126 (a) x)
  | [], a, h0, hb => Ev.eq (Ev.const (o := some (a, [])) rfl) (by simp [cnLS126, mkLS126])
  | y :: ys, a, h0, hb => by
    have ih := laws_markWeightedS_ev ys
    have hc : cnLS126 (y :: ys) = (1 + y.f0.f0.length) + cnLS126 ys := rfl
    rw [hc, List.length_cons] at hb
    have e0_ : wrap64 (a + (y.f0.f0.length : Int) + 1) = a + (y.f0.f0.length : Int) + 1 := w64 (by omega) (by omega)
    simp only [laws_markWeightedS.f]
    (try simp only [e0_])
    refine Ev.bind (laws_markIntS_ev y.f0.f0 (a) (by omega) (by omega)) ?_
    (try dsimp only)
    (try simp only [e0_])
    refine Ev.eq (Ev.bind (ih (a + (y.f0.f0.length : Int) + 1) (by omega) (by omega)) (Ev.now _)) ?_
    refine Prod.ext ?_ rfl
    show (a + (y.f0.f0.length : Int) + 1) + ((cnLS126 ys : Nat) : Int) = a + ((cnLS126 (y :: ys) : Nat) : Int)
    rw [hc]
    omega
theorem laws_markTable_ev (x : S41) (a : Int) (h0 : 0 ≤ a) (hb : a + (((cnLS126 x.f1 + x.f1.length) : Nat) : Int) ≤ 4611686018427387904) : Ev (fun k => laws_markTable.f k x.f0 x.f1 a) (a + ((cnLS126 x.f1 : Nat) : Int), mkLS126 (a) x.f1) := by
  unfold laws_markTable.f
  refine Ev.bind (laws_markWeightedS_ev x.f1 (a) (by omega) (by omega)) ?_
  exact Ev.eq (Ev.now _) (by rfl)
theorem laws_markTable_lv (y0 : Int) (y1 : List (S126)) (a : Int) (h0 : 0 ≤ a) (hb : a + (((cnLS126 y1 + y1.length) : Nat) : Int) ≤ 4611686018427387904) : Ev (fun k => laws_markTable.f k y0 y1 a) (a + ((cnLS126 y1 : Nat) : Int), (mkLS126 (a) y1)) := laws_markTable_ev (⟨y0, y1⟩ : S41) a h0 hb
theorem laws_heldIntS_l (n : Nat) (a : Int) (h0 : 0 ≤ a) (hb : a + ((1 * n : Nat) : Int) ≤ 4611686018427387904) (d : Nat) : ∀ (i : Nat), i + d = n → Ev (fun k => laws_heldIntS.l0 k (marks a n) (a + 1 * (i : Int)) (i : Int)) (a + ((1 * n : Nat) : Int)) := by
  have hm := marks_length a n
  induction d with
  | zero =>
    intro i hi
    exact Ev.step (f := fun _ => some (a + 1 * (i : Int))) (fun k => by simp only [laws_heldIntS.l0]; rw [if_neg (by omega)]) (Ev.eq (Ev.now _) (by omega))
  | succ d ih =>
    intro i hi
    have hlt : i < (marks a n).length := by omega
    refine Ev.step (f := fun k => laws_heldIntS.l0 k (marks a n) (a + 1 * ((i + 1 : Nat) : Int)) ((i + 1 : Nat) : Int)) (fun k => ?_) (ih (i + 1) (by omega))
    simp only [laws_heldIntS.l0]
    rw [if_pos (by omega), if_pos (by omega)]
    rw [rd_lt hlt, marks_get, if_pos (by omega), w64 (by omega) (by omega), w64 (by omega) (by omega), show a + 1 * (i : Int) + 1 = a + 1 * ((i + 1 : Nat) : Int) from by omega]
    rfl
theorem laws_heldIntS_ev (x : List Int) (a : Int) (h0 : 0 ≤ a) (hb : a + ((x.length : Nat) : Int) ≤ 4611686018427387904) : Ev (fun k => laws_heldIntS.f k (marks (a) x.length) a) (a + ((x.length : Nat) : Int)) := by
  unfold laws_heldIntS.f
  have := laws_heldIntS_l x.length a h0 (by omega) x.length 0 (by omega)
  simpa using this
theorem laws_heldWeightedS_l (z : List (S126)) (hz : (z.length : Int) ≤ 4611686018427387904) : ∀ (x : List (S126)) (a : Int) (i : Nat) (h0 : 0 ≤ a) (hb : a + (((cnLS126 x + x.length) : Nat) : Int) ≤ 4611686018427387904) (hd : z.drop i = mkLS126 (a) x) (hi : i ≤ z.length), Ev (fun k => laws_heldWeightedS.l0 k z a (i : Int)) (a + ((cnLS126 x : Nat) : Int))
  | [], a, i, h0, hb, hd, hi => by
    have hl : z.length ≤ i := List.drop_eq_nil_iff.1 hd
    refine Ev.eq (r := a) (Ev.step (f := fun _ => some a) (fun k => by simp only [laws_heldWeightedS.l0]; rw [if_neg (by omega)]) (Ev.now _)) (by simp [cnLS126])
  | y :: ys, a, i, h0, hb, hd, hi => by
    have ih := laws_heldWeightedS_l z hz ys
    have hc : cnLS126 (y :: ys) = (1 + y.f0.f0.length) + cnLS126 ys := rfl
    rw [hc, List.length_cons] at hb
    have hlt : i < z.length := by rcases Nat.lt_or_ge i z.length with h | h; exact h; rw [List.drop_eq_nil_iff.2 h] at hd; cases hd
    rw [drop_cons hlt] at hd
    have hd2 : z[i] :: z.drop (i + 1) = (⟨(⟨marks (a) y.f0.f0.length⟩ : S26), a + (y.f0.f0.length : Int)⟩ : S126) :: mkLS126 (a + (y.f0.f0.length : Int) + 1) ys := hd
    injection hd2 with hx_ hd3
    have e0_ : wrap64 (a + (y.f0.f0.length : Int) + 1) = a + (y.f0.f0.length : Int) + 1 := w64 (by omega) (by omega)
    have ei_ : wrap64 ((i : Int) + 1) = ((i + 1 : Nat) : Int) := by rw [w64 (by omega) (by omega)]; rfl
    refine Ev.step (f := ?f_) ?h_ ?_
    case h_ => intro k; simp only [laws_heldWeightedS.l0]; exact rfl
    refine Ev.pos (by omega) (Ev.pos (by omega) ?_)
    simp only [rd_T126_lt hlt, hx_]
    (try simp only [ei_, e0_])
    repeat (first | (with_reducible refine Ev.pos rfl ?_) | (refine Ev.bind (laws_heldIntS_ev y.f0.f0 (a) (by omega) (by omega)) ?_; (try dsimp only); (try simp only [ei_, e0_])) | (with_reducible refine Ev.neg (by omega) ?_))
    exact Ev.eq (ih (a + (y.f0.f0.length : Int) + 1) (i + 1) (by omega) (by omega) hd3 (by omega)) (by rw [hc]; omega)
theorem laws_heldWeightedS_ev (x : List (S126)) (a : Int) (h0 : 0 ≤ a) (hb : a + (((cnLS126 x + x.length) : Nat) : Int) ≤ 4611686018427387904) : Ev (fun k => laws_heldWeightedS.f k (mkLS126 (a) x) a) (a + ((cnLS126 x : Nat) : Int)) := by
  unfold laws_heldWeightedS.f
  exact laws_heldWeightedS_l (mkLS126 a x) (by rw [mkLS126_len]; omega) x a 0 h0 hb (by simp) (Nat.zero_le _)
theorem laws_heldTable_ev (x : S41) (a : Int) (h0 : 0 ≤ a) (hb : a + (((cnLS126 x.f1 + x.f1.length) : Nat) : Int) ≤ 4611686018427387904) : Ev (fun k => laws_heldTable.f k x.f0 (mkLS126 (a) x.f1) a) (a + ((cnLS126 x.f1 : Nat) : Int)) := by
  unfold laws_heldTable.f
  refine Ev.bind (laws_heldWeightedS_ev x.f1 (a) (by omega) (by omega)) ?_
  refine Ev.neg (by omega) ?_
  exact Ev.eq (Ev.now _) (by omega)
theorem laws_heldTable_lv (y0 : Int) (y1 : List (S126)) (a : Int) (h0 : 0 ≤ a) (hb : a + (((cnLS126 y1 + y1.length) : Nat) : Int) ≤ 4611686018427387904) : Ev (fun k => laws_heldTable.f k y0 (mkLS126 (a) y1) a) (a + ((cnLS126 y1 : Nat) : Int)) := laws_heldTable_ev (⟨y0, y1⟩ : S41) a h0 hb
/-- What is left to show: the program's function and the reference answer alike. -/
def Core : Prop := ∀ x0 : Int, (-9223372036854775808 ≤ x0 ∧ x0 ≤ 9223372036854775807) → ∃ v : Int × (List (S126)) × Bool, Ev (fun k => spec_EmptyTable.f k x0) v ∧ Ev (fun k => impl_EmptyTable.f x0) v ∧ szvLS126 v.2.1 ≤ 1099511627776
theorem law (core : Core) : laws_FnExactEmptyTable.Pure := by
  intro x0 hwx0
  apply Ev.rounds
  unfold laws_FnExactEmptyTable.f
  obtain ⟨v, hs, hi, hv1⟩ := core x0 hwx0
  have := cnleLS126 v.2.1
  repeat (first | (with_reducible exact Ev.now true) | (with_reducible refine Ev.bind hs ?_) | (with_reducible refine Ev.bind hi ?_) | (with_reducible refine Ev.bind (laws_eqIntS_ev _ (by first | assumption | omega | (dsimp only; omega) | (simp only [szvS41] at *; omega))) ?_) | (with_reducible refine Ev.bind (laws_eqRow_lv _ (by first | assumption | omega | (dsimp only; omega) | (simp only [szvS41] at *; omega))) ?_) | (with_reducible refine Ev.bind (laws_eqWeighted_lv _ _ (by first | assumption | omega | (dsimp only; omega) | (simp only [szvS41] at *; omega))) ?_) | (with_reducible refine Ev.bind (laws_eqWeightedS_ev _ (by first | assumption | omega | (dsimp only; omega) | (simp only [szvS41] at *; omega))) ?_) | (with_reducible refine Ev.bind (laws_eqTable_lv _ _ (by first | assumption | omega | (dsimp only; omega) | (simp only [szvS41] at *; omega))) ?_) | (with_reducible refine Ev.bind (laws_markIntS_ev _ _ (by first | assumption | omega | (dsimp only; omega) | (simp only [szvS41] at *; omega)) (by first | assumption | omega | (dsimp only; omega) | (simp only [szvS41] at *; omega))) ?_) | (with_reducible refine Ev.bind (laws_markWeightedS_ev _ _ (by first | assumption | omega | (dsimp only; omega) | (simp only [szvS41] at *; omega)) (by first | assumption | omega | (dsimp only; omega) | (simp only [szvS41] at *; omega))) ?_) | (with_reducible refine Ev.bind (laws_markTable_lv _ _ _ (by first | assumption | omega | (dsimp only; omega) | (simp only [szvS41] at *; omega)) (by first | assumption | omega | (dsimp only; omega) | (simp only [szvS41] at *; omega))) ?_) | (with_reducible refine Ev.bind (laws_heldIntS_ev _ _ (by first | assumption | omega | (dsimp only; omega) | (simp only [szvS41] at *; omega)) (by first | assumption | omega | (dsimp only; omega) | (simp only [szvS41] at *; omega))) ?_) | (with_reducible refine Ev.bind (laws_heldWeightedS_ev _ _ (by first | assumption | omega | (dsimp only; omega) | (simp only [szvS41] at *; omega)) (by first | assumption | omega | (dsimp only; omega) | (simp only [szvS41] at *; omega))) ?_) | (with_reducible refine Ev.bind (laws_heldTable_lv _ _ _ (by first | assumption | omega | (dsimp only; omega) | (simp only [szvS41] at *; omega)) (by first | assumption | omega | (dsimp only; omega) | (simp only [szvS41] at *; omega))) ?_) | (with_reducible refine Ev.pos rfl ?_) | (with_reducible refine Ev.neg (by first | omega | simp) ?_))
end Go.Proofs.Ytcbikaoackbbjaa.HFnExactEmptyTable
