/- What the helpers of the law FnExactJoinRows compute, in plain words: printed by a program of this claim's own. No conditions. -/
import Derived.Test.YtcbikaoackbbjaaG1
import Derived.Test.YtcbikaoackbbjaaG2
import Derived.Test.YtcbikaoackbbjaaG4
import Derived.Test.YtcbikaoackbbjaaG8
import Derived.Test.YtcbikaoackbbjaaG9
import Derived.Test.YtcbikaoackbbjaaG10
import Derived.Test.YtcbikaoackbbjaaQBase
namespace Go.Proofs.Ytcbikaoackbbjaa.HFnExactJoinRows
open Go.RowKit Go.Proofs.Ytcbikaoackbbjaa.G Go.Proofs.Ytcbikaoackbbjaa.X Go.Proofs.Ytcbikaoackbbjaa.Pure Go.Proofs.YtcbikaoackbbjaaW.PrintWords Go.Proofs.YtcbikaoackbbjaaW.PrintLast
set_option linter.unusedVariables false
set_option linter.unusedSimpArgs false

theorem laws_szIntS_ev (x : List Int) (a : Int) (hw : (x.length ≤ 9223372036854775807 ∧ ∀ x0_ ∈ x, (-9223372036854775808 ≤ x0_ ∧ x0_ ≤ 9223372036854775807))) (h0 : 0 ≤ a) (h1 : a ≤ 1048576) : Ev (fun k => laws_szIntS.f x a) (if ((x.length : Nat) : Int) ≤ a then a - ((x.length : Nat) : Int) else -1) := by
  have hx := hw.1
  refine Ev.const ?_
  unfold laws_szIntS.f
  rw [w64 (by omega) (by omega)]
  by_cases h : (x.length : Int) ≤ a
  · rw [if_neg (by omega), if_pos h]
  · rw [if_pos (by omega), if_neg h]
def szvS24 (x : S24) : Nat := x.f0.length
theorem laws_szRow_ev (x : S24) (a : Int) (hw : wf24 x) (h0 : 0 ≤ a) (h1 : a ≤ 1048576) : Ev (fun k => laws_szRow.f x.f0 a) (if ((szvS24 x : Nat) : Int) ≤ a then a - ((szvS24 x : Nat) : Int) else -1) := by
  unfold wf24 at hw
  have w0 := hw
  unfold laws_szRow.f
  have hs : szvS24 x = x.f0.length := rfl
  refine Ev.bind (laws_szIntS_ev x.f0 (a) w0 (by omega) (by omega)) ?_
  by_cases c0 : ((x.f0.length : Nat) : Int) ≤ a
  case neg =>
    rw [if_neg c0]
    exact Ev.pos (by omega) (Ev.eq (Ev.now _) (by rw [if_neg (by omega)]))
  rw [if_pos c0]
  refine Ev.neg (by omega) ?_
  exact Ev.eq (Ev.now _) (by rw [if_pos (by omega)]; omega)
theorem laws_toIntS_l (x : List Int) (h : x.length ≤ 1048576) (d : Nat) : ∀ (i : Nat) (z : List Int), i + d = x.length → z.length = x.length → z.take i = (x).take i →
    Ev (fun k => laws_toIntS.l0 k x z (i : Int)) (x) := by
  have hx : x.length ≤ 1048576 := by exact h
  have hL : (x).length = x.length := by simp
  induction d with
  | zero =>
    intro i z hi hz ht
    refine Ev.step (f := fun _ => some z) (fun k => by simp only [laws_toIntS.l0]; rw [if_neg (by omega)]) ?_
    have : z = x := by rw [← List.take_of_length_le (l := z) (i := i) (by omega), ht, List.take_of_length_le (by omega)]
    rw [this]
    exact Ev.now _
  | succ d ih =>
    intro i z hi hz ht
    have hlt : i < x.length := by omega
    have hg : (x)[i]'(by omega) = x[i] := by simp
    have hst := set_take (l := x) (z := z) (i := i) (by omega) (by omega) ht
    rw [hg] at hst
    refine Ev.step (f := fun k => laws_toIntS.l0 k x (z.set i (x[i])) ((i + 1 : Nat) : Int)) (fun k => ?_) (ih (i + 1) _ (by omega) (by simpa using hz) hst)
    simp only [laws_toIntS.l0]
    rw [if_pos (by omega), if_pos (by omega), if_pos (by omega), rd_lt hlt, w64 (by omega) (by omega)]
    rfl
theorem laws_toIntS_ev (x : List Int) (h : x.length ≤ 1048576) : Ev (fun k => laws_toIntS.f k x) (x) := by
  have hx : x.length ≤ 1048576 := by exact h
  unfold laws_toIntS.f
  refine Ev.pos (by omega) (Ev.pos (by omega) ?_)
  exact laws_toIntS_l x h x.length 0 _ (by omega) (by simp) (by simp)
abbrev cvS24_S26 (x : S24) : S26 := ⟨x.f0⟩
def szvS26 (x : S26) : Nat := x.f0.length
theorem szcvS24_S26 (x : S24) : szvS26 (cvS24_S26 x) = szvS24 x := by simp [Function.comp_def, List.map_map, cvS24_S26, szvS24, szvS26]
theorem laws_toRow_ev (x : S24) (h : szvS24 x ≤ 1048576) : Ev (fun k => laws_toRow.f k x.f0) (x.f0) := by
  unfold laws_toRow.f
  have hs : szvS24 x = x.f0.length := rfl
  refine Ev.bind (laws_toIntS_ev x.f0 (by omega)) ?_
  exact Ev.now _
theorem laws_eqIntS_l (x : List Int) (h : x.length ≤ 1099511627776) (d : Nat) : ∀ (i : Nat), i + d = x.length → Ev (fun k => laws_eqIntS.l0 k x x (i : Int)) true := by
  have hx : x.length ≤ 1099511627776 := by exact h
  induction d with
  | zero =>
    intro i hi
    exact Ev.step (f := fun _ => some true) (fun k => by simp only [laws_eqIntS.l0]; rw [if_neg (by omega)]) (Ev.now _)
  | succ d ih =>
    intro i hi
    have hlt : i < x.length := by omega
    refine Ev.step (f := fun k => laws_eqIntS.l0 k x x ((i + 1 : Nat) : Int)) (fun k => ?_) (ih (i + 1) (by omega))
    simp only [laws_eqIntS.l0]
    rw [if_pos (by omega), if_pos (by omega), if_pos (by omega)]
    first | rw [if_pos trivial] | rw [if_pos rfl]
    rw [w64 (by omega) (by omega)]
    rfl
theorem laws_eqIntS_ev (x : List Int) (h : x.length ≤ 1099511627776) : Ev (fun k => laws_eqIntS.f k x x) true := by
  unfold laws_eqIntS.f
  exact Ev.pos rfl (laws_eqIntS_l x h x.length 0 (by omega))
theorem laws_eqRow_ev (x : S26) (h : szvS26 x ≤ 1099511627776) : Ev (fun k => laws_eqRow.f k x.f0 x.f0) true := by
  unfold laws_eqRow.f
  have hs : szvS26 x = x.f0.length := rfl
  repeat (first | (with_reducible exact Ev.now true) | (with_reducible refine Ev.pos rfl ?_) | (with_reducible refine Ev.neg (by simp; done) ?_) | (with_reducible refine Ev.bind (laws_eqIntS_ev _ (by omega)) ?_))
theorem laws_eqRow_lv (y0 : List Int) (h : y0.length ≤ 1099511627776) : Ev (fun k => laws_eqRow.f k y0 y0) true := laws_eqRow_ev (⟨y0⟩ : S26) h
theorem laws_markIntS_l (n : Nat) (a : Int) (h0 : 0 ≤ a) (hb : a + ((1 * n : Nat) : Int) ≤ 4611686018427387904) (d : Nat) : ∀ (i : Nat) (z : List Int), i + d = n → z.length = n → z.take i = (marks a n).take i →
    Ev (fun k => laws_markIntS.l0 k z (a + 1 * (i : Int)) (i : Int)) (a + ((1 * n : Nat) : Int), marks a n) := by
  have hm := marks_length a n
  induction d with
  | zero =>
    intro i z hi hz ht
    refine Ev.step (f := fun _ => some (a + 1 * (i : Int), z)) (fun k => by simp only [laws_markIntS.l0]; rw [if_neg (by omega)]) ?_
    have : z = marks a n := by rw [← List.take_of_length_le (l := z) (i := i) (by omega), ht, List.take_of_length_le (by omega)]
    rw [this]
    refine Ev.eq (Ev.now _) ?_
    have e : a + 1 * (i : Int) = a + ((1 * n : Nat) : Int) := by omega
    rw [e]
  | succ d ih =>
    intro i z hi hz ht
    have hlt : i < z.length := by omega
    have hst := set_take (l := marks a n) (z := z) (i := i) (by omega) (by omega) ht
    rw [marks_get] at hst
    refine Ev.step (f := fun k => laws_markIntS.l0 k (z.set i (a + (i : Int))) (a + 1 * ((i + 1 : Nat) : Int)) ((i + 1 : Nat) : Int)) (fun k => ?_) (ih (i + 1) _ (by omega) (by simpa using hz) hst)
    simp only [laws_markIntS.l0]
    rw [if_pos (by omega), if_pos (by omega)]
    rw [w64 (by omega) (by omega), w64 (by omega) (by omega), show a + 1 * (i : Int) = a + (i : Int) from by omega, show a + (i : Int) + 1 = a + 1 * ((i + 1 : Nat) : Int) from by omega]
    rfl
theorem laws_markIntS_ev (x : List Int) (a : Int) (h0 : 0 ≤ a) (hb : a + ((x.length : Nat) : Int) ≤ 4611686018427387904) : Ev (fun k => laws_markIntS.f k x a) (a + ((x.length : Nat) : Int), marks (a) x.length) := by
  unfold laws_markIntS.f
  have := laws_markIntS_l x.length a h0 (by omega) x.length 0 x (by omega) rfl (by simp)
  simpa using this
theorem laws_markRow_ev (x : S26) (a : Int) (h0 : 0 ≤ a) (hb : a + ((x.f0.length : Nat) : Int) ≤ 4611686018427387904) : Ev (fun k => laws_markRow.f k x.f0 a) (a + ((x.f0.length : Nat) : Int), marks (a) x.f0.length) := by
  unfold laws_markRow.f
  refine Ev.bind (laws_markIntS_ev x.f0 (a) (by omega) (by omega)) ?_
  exact Ev.eq (Ev.now _) (by rfl)
theorem laws_markRow_lv (y0 : List Int) (a : Int) (h0 : 0 ≤ a) (hb : a + ((y0.length : Nat) : Int) ≤ 4611686018427387904) : Ev (fun k => laws_markRow.f k y0 a) (a + ((y0.length : Nat) : Int), (marks (a) y0.length)) := laws_markRow_ev (⟨y0⟩ : S26) a h0 hb
theorem laws_heldIntS_l (n : Nat) (a : Int) (h0 : 0 ≤ a) (hb : a + ((1 * n : Nat) : Int) ≤ 4611686018427387904) (d : Nat) : ∀ (i : Nat), i + d = n → Ev (fun k => laws_heldIntS.l0 k (marks a n) (a + 1 * (i : Int)) (i : Int)) (a + ((1 * n : Nat) : Int)) := by
  have hm := marks_length a n
  induction d with
  | zero =>
    intro i hi
    exact Ev.step (f := fun _ => some (a + 1 * (i : Int))) (fun k => by simp only [laws_heldIntS.l0]; rw [if_neg (by omega)]) (Ev.eq (Ev.now _) (by omega))
  | succ d ih =>
    intro i hi
    have hlt : i < (marks a n).length := by omega
    refine Ev.step (f := fun k => laws_heldIntS.l0 k (marks a n) (a + 1 * ((i + 1 : Nat) : Int)) ((i + 1 : Nat) : Int)) (fun k => ?_) (ih (i + 1) (by omega))
    simp only [laws_heldIntS.l0]
    rw [if_pos (by omega), if_pos (by omega)]
    rw [rd_lt hlt, marks_get, if_pos (by omega), w64 (by omega) (by omega), w64 (by omega) (by omega), show a + 1 * (i : Int) + 1 = a + 1 * ((i + 1 : Nat) : Int) from by omega]
    rfl
theorem laws_heldIntS_ev (x : List Int) (a : Int) (h0 : 0 ≤ a) (hb : a + ((x.length : Nat) : Int) ≤ 4611686018427387904) : Ev (fun k => laws_heldIntS.f k (marks (a) x.length) a) (a + ((x.length : Nat) : Int)) := by
  unfold laws_heldIntS.f
  have := laws_heldIntS_l x.length a h0 (by omega) x.length 0 (by omega)
  simpa using this
theorem laws_heldRow_ev (x : S26) (a : Int) (h0 : 0 ≤ a) (hb : a + ((x.f0.length : Nat) : Int) ≤ 4611686018427387904) : Ev (fun k => laws_heldRow.f k (marks (a) x.f0.length) a) (a + ((x.f0.length : Nat) : Int)) := by
  unfold laws_heldRow.f
  refine Ev.bind (laws_heldIntS_ev x.f0 (a) (by omega) (by omega)) ?_
  refine Ev.neg (by omega) ?_
  exact Ev.eq (Ev.now _) (by omega)
theorem laws_heldRow_lv (y0 : List Int) (a : Int) (h0 : 0 ≤ a) (hb : a + ((y0.length : Nat) : Int) ≤ 4611686018427387904) : Ev (fun k => laws_heldRow.f k (marks (a) y0.length) a) (a + ((y0.length : Nat) : Int)) := laws_heldRow_ev (⟨y0⟩ : S26) a h0 hb
def szvLLInt (x : List (List Int)) : Nat := x.length + (x.map fun y => y.length).sum
theorem rd_L1_lt {l : List (List Int)} {i : Nat} (h : i < l.length) : rd_L1 l (i : Int) = l[i] := by simp [rd_L1, h]
theorem laws_szIntSS_l (x : List (List Int)) (hw : (x.length ≤ 9223372036854775807 ∧ ∀ x0_ ∈ x, (x0_.length ≤ 9223372036854775807 ∧ ∀ x1_ ∈ x0_, (-9223372036854775808 ≤ x1_ ∧ x1_ ≤ 9223372036854775807)))) (d : Nat) : ∀ (i : Nat) (a : Int), i + d = x.length → 0 ≤ a → a ≤ 1048576 →
    Ev (fun k => laws_szIntSS.l0 k x a (i : Int)) (if ((((x.drop i).map fun y => y.length).sum : Nat) : Int) ≤ a then a - ((((x.drop i).map fun y => y.length).sum : Nat) : Int) else -1) := by
  have hx := hw.1
  induction d with
  | zero =>
    intro i a hi h0 h1
    refine Ev.step (f := fun _ => some a) (fun k => by simp only [laws_szIntSS.l0]; rw [if_neg (by omega)]) (Ev.eq (Ev.now _) ?_)
    rw [List.drop_of_length_le (by omega)]
    simp; omega
  | succ d ih =>
    intro i a hi h0 h1
    have hlt : i < x.length := by omega
    have hs : ((x.drop i).map fun y => y.length).sum = (x[i]).length + ((x.drop (i + 1)).map fun y => y.length).sum := by rw [drop_cons hlt, List.map_cons, List.sum_cons]
    refine Ev.step (f := fun k => (laws_szIntS.f (x[i]) a).bind fun t => if t < 0 then some (-1) else laws_szIntSS.l0 k x t ((i + 1 : Nat) : Int)) (fun k => ?_) ?_
    · simp only [laws_szIntSS.l0]
      rw [if_pos (by omega), if_pos (by omega), rd_L1_lt hlt, w64 (by omega) (by omega)]
      rfl
    refine Ev.bind (laws_szIntS_ev x[i] a (hw.2 _ (List.getElem_mem hlt)) h0 h1) ?_
    by_cases c : (((x[i]).length : Nat) : Int) ≤ a
    · rw [if_pos c]
      refine Ev.neg (by omega) (Ev.eq (ih (i + 1) (a - (((x[i]).length : Nat) : Int)) (by omega) (by omega) (by omega)) ?_)
      rw [hs]
      by_cases c2 : (((x[i]).length + ((x.drop (i + 1)).map fun y => y.length).sum : Nat) : Int) ≤ a
      · rw [if_pos c2, if_pos (by omega)]; omega
      · rw [if_neg c2, if_neg (by omega)]
    · rw [if_neg c]
      refine Ev.pos (by omega) (Ev.eq (Ev.now _) ?_)
      rw [hs, if_neg (by omega)]
theorem laws_szIntSS_ev (x : List (List Int)) (a : Int) (hw : (x.length ≤ 9223372036854775807 ∧ ∀ x0_ ∈ x, (x0_.length ≤ 9223372036854775807 ∧ ∀ x1_ ∈ x0_, (-9223372036854775808 ≤ x1_ ∧ x1_ ≤ 9223372036854775807)))) (h0 : 0 ≤ a) (h1 : a ≤ 1048576) : Ev (fun k => laws_szIntSS.f k x a) (if ((szvLLInt x : Nat) : Int) ≤ a then a - ((szvLLInt x : Nat) : Int) else -1) := by
  have hx := hw.1
  unfold laws_szIntSS.f
  rw [w64 (by omega) (by omega)]
  by_cases c : (x.length : Int) ≤ a
  · refine Ev.neg (by omega) (Ev.eq (laws_szIntSS_l x hw x.length 0 (a - x.length) (by omega) (by omega) (by omega)) ?_)
    simp only [List.drop_zero]
    have hs : szvLLInt x = x.length + (x.map fun y => y.length).sum := rfl
    by_cases c2 : ((szvLLInt x : Nat) : Int) ≤ a
    · rw [if_pos c2, if_pos (by omega)]; omega
    · rw [if_neg c2, if_neg (by omega)]
  · refine Ev.pos (by omega) (Ev.eq (Ev.now _) ?_)
    have hs : szvLLInt x = x.length + (x.map fun y => y.length).sum := rfl
    rw [if_neg (by omega)]
theorem laws_toIntSS_l (x : List (List Int)) (h : szvLLInt x ≤ 1048576) (d : Nat) : ∀ (i : Nat) (z : List (List Int)), i + d = x.length → z.length = x.length → z.take i = (x).take i →
    Ev (fun k => laws_toIntSS.l0 k x z (i : Int)) (x) := by
  have hx : x.length ≤ 1048576 := by unfold szvLLInt at h; omega
  have hL : (x).length = x.length := by simp
  induction d with
  | zero =>
    intro i z hi hz ht
    refine Ev.step (f := fun _ => some z) (fun k => by simp only [laws_toIntSS.l0]; rw [if_neg (by omega)]) ?_
    have : z = x := by rw [← List.take_of_length_le (l := z) (i := i) (by omega), ht, List.take_of_length_le (by omega)]
    rw [this]
    exact Ev.now _
  | succ d ih =>
    intro i z hi hz ht
    have hlt : i < x.length := by omega
    have hg : (x)[i]'(by omega) = x[i] := by simp
    have hst := set_take (l := x) (z := z) (i := i) (by omega) (by omega) ht
    rw [hg] at hst
    refine Ev.step (f := fun k => (laws_toIntS.f k (x[i])).bind fun t => laws_toIntSS.l0 k x (z.set i t) ((i + 1 : Nat) : Int)) (fun k => ?_) ?_
    · simp only [laws_toIntSS.l0]
      rw [if_pos (by omega), if_pos (by omega), rd_L1_lt hlt]
      have e1 : wrap64 ((i : Int) + 1) = ((i + 1 : Nat) : Int) := by rw [w64 (by omega) (by omega)]; rfl
      rw [e1]
      simp only [show (i : Int) < (z.length : Int) from by omega, if_true, Int.toNat_natCast]
    refine Ev.bind (laws_toIntS_ev x[i] (by have := sum_mem (fun y => y.length) x _ (List.getElem_mem hlt); unfold szvLLInt at h; omega)) ?_
    exact ih (i + 1) _ (by omega) (by simpa using hz) hst
theorem laws_toIntSS_ev (x : List (List Int)) (h : szvLLInt x ≤ 1048576) : Ev (fun k => laws_toIntSS.f k x) (x) := by
  have hx : x.length ≤ 1048576 := by unfold szvLLInt at h; omega
  unfold laws_toIntSS.f
  refine Ev.pos (by omega) (Ev.pos (by omega) ?_)
  exact laws_toIntSS_l x h x.length 0 _ (by omega) (by simp) (by simp)
theorem laws_eqIntSS_l (x : List (List Int)) (h : szvLLInt x ≤ 1099511627776) (d : Nat) : ∀ (i : Nat), i + d = x.length → Ev (fun k => laws_eqIntSS.l0 k x x (i : Int)) true := by
  have hx : x.length ≤ 1099511627776 := by unfold szvLLInt at h; omega
  induction d with
  | zero =>
    intro i hi
    exact Ev.step (f := fun _ => some true) (fun k => by simp only [laws_eqIntSS.l0]; rw [if_neg (by omega)]) (Ev.now _)
  | succ d ih =>
    intro i hi
    have hlt : i < x.length := by omega
    refine Ev.step (f := fun k => (laws_eqIntS.f k (x[i]) (x[i])).bind fun t => if t = true then laws_eqIntSS.l0 k x x ((i + 1 : Nat) : Int) else some false) (fun k => ?_) ?_
    · simp only [laws_eqIntSS.l0]
      rw [if_pos (by omega), if_pos (by omega), if_pos (by omega), rd_L1_lt hlt, w64 (by omega) (by omega)]
      rfl
    refine Ev.bind (laws_eqIntS_ev x[i] (by have := sum_mem (fun y => y.length) x _ (List.getElem_mem hlt); unfold szvLLInt at h; omega)) ?_
    exact Ev.pos rfl (ih (i + 1) (by omega))
theorem laws_eqIntSS_ev (x : List (List Int)) (h : szvLLInt x ≤ 1099511627776) : Ev (fun k => laws_eqIntSS.f k x x) true := by
  unfold laws_eqIntSS.f
  exact Ev.pos rfl (laws_eqIntSS_l x h x.length 0 (by omega))
def cnLLInt : List (List Int) → Nat
  | [] => 0
  | y :: ys => (0 + y.length) + cnLLInt ys
def mkLLInt : Int → List (List Int) → List (List Int)
  | _, [] => []
  | a, y :: ys => marks (a) y.length :: mkLLInt (a + (y.length : Int)) ys
theorem mkLLInt_len : ∀ (x : List (List Int)) (a : Int), (mkLLInt a x).length = x.length
  | [], _ => rfl
  | y :: ys, a => by show (mkLLInt (a + (y.length : Int)) ys).length + 1 = _; rw [mkLLInt_len ys]; rfl
theorem cnleLLInt : ∀ x : List (List Int), cnLLInt x + x.length ≤ 2 * szvLLInt x
  | [] => by simp [cnLLInt]
  | y :: ys => by
    have ih := cnleLLInt ys
    have h : szvLLInt (y :: ys) = (y.length) + 1 + szvLLInt ys := by unfold szvLLInt; simp only [List.length_cons, List.map_cons, List.sum_cons]; omega
    have h2 : y.length ≤ y.length := by first | exact Nat.le_refl _ | (simp only [Nat.add_zero]; omega)
    have h3 : cnLLInt (y :: ys) = (0 + y.length) + cnLLInt ys := rfl
    rw [h, h3, List.length_cons]
    omega
theorem laws_markIntSS_ev : ∀ (x : List (List Int)) (a : Int) (h0 : 0 ≤ a) (hb : a + (((cnLLInt x + x.length) : Nat) : Int) ≤ 4611686018427387904), Ev (fun k => laws_markIntSS.f k x a) (a + ((cnLLInt x : Nat) : Int), mkLLInt (a) x)
  | [], a, h0, hb => Ev.eq (Ev.const (o := some (a, [])) rfl) (by simp [cnLLInt, mkLLInt])
  | y :: ys, a, h0, hb => by
    have ih := laws_markIntSS_ev ys
    have hc : cnLLInt (y :: ys) = (0 + y.length) + cnLLInt ys := rfl
    rw [hc, List.length_cons] at hb
    simp only [laws_markIntSS.f]
    skip
    refine Ev.bind (laws_markIntS_ev y (a) (by omega) (by omega)) ?_
    (try dsimp only)
    skip
    refine Ev.eq (Ev.bind (ih (a + (y.length : Int)) (by omega) (by omega)) (Ev.now _)) ?_
    refine Prod.ext ?_ rfl
    show (a + (y.length : Int)) + ((cnLLInt ys : Nat) : Int) = a + ((cnLLInt (y :: ys) : Nat) : Int)
    rw [hc]
    omega
/-- What is left to show: the program's function and the reference answer alike. -/
def Core : Prop := ∀ x0 : S26, szvS26 x0 ≤ 1048576 → ∀ x1 : S26, szvS26 x1 ≤ 1048576 → ∀ x2 : List (List Int), szvLLInt x2 ≤ 1048576 → ∃ v : (List Int) × Bool, Ev (fun k => spec_JoinRows.f k x0.f0 x1.f0 x2) v ∧ Ev (fun k => impl_JoinRows.f k x0.f0 x1.f0 x2) v ∧ v.1.length ≤ 1099511627776
theorem law (core : Core) : laws_FnExactJoinRows.Pure := by
  intro x0 hwx0 x1 hwx1 x2 hwx2
  apply Ev.rounds
  unfold laws_FnExactJoinRows.f
  refine Ev.bind (laws_szRow_ev x0 (1048576) hwx0 (by omega) (by omega)) ?_
  by_cases g0 : ((szvS24 x0 : Nat) : Int) ≤ 1048576
  case neg =>
    rw [if_neg g0]
    exact Ev.pos (by omega) (Ev.now true)
  rw [if_pos g0]
  refine Ev.neg (by omega) ?_
  refine Ev.bind (laws_szRow_ev x1 (1048576 - ((szvS24 x0 : Nat) : Int)) hwx1 (by omega) (by omega)) ?_
  by_cases g1 : ((szvS24 x1 : Nat) : Int) ≤ 1048576 - ((szvS24 x0 : Nat) : Int)
  case neg =>
    rw [if_neg g1]
    exact Ev.pos (by omega) (Ev.now true)
  rw [if_pos g1]
  refine Ev.neg (by omega) ?_
  refine Ev.bind (laws_szIntSS_ev x2 (1048576 - ((szvS24 x0 : Nat) : Int) - ((szvS24 x1 : Nat) : Int)) hwx2 (by omega) (by omega)) ?_
  by_cases g2 : ((szvLLInt x2 : Nat) : Int) ≤ 1048576 - ((szvS24 x0 : Nat) : Int) - ((szvS24 x1 : Nat) : Int)
  case neg =>
    rw [if_neg g2]
    exact Ev.pos (by omega) (Ev.now true)
  rw [if_pos g2]
  refine Ev.neg (by omega) ?_
  have zx0 : szvS26 (cvS24_S26 x0) ≤ 1048576 := by rw [szcvS24_S26]; omega
  have zx1 : szvS26 (cvS24_S26 x1) ≤ 1048576 := by rw [szcvS24_S26]; omega
  have zx2 : szvLLInt x2 ≤ 1048576 := by omega
  have yx0 : szvS24 x0 ≤ 1048576 := by omega
  have yx1 : szvS24 x1 ≤ 1048576 := by omega
  have yx2 : szvLLInt x2 ≤ 1048576 := by omega
  obtain ⟨v, hs, hi, hv0⟩ := core (cvS24_S26 x0) zx0 (cvS24_S26 x1) zx1 x2 zx2
  have := cnleLLInt (x2)
  repeat (first | (with_reducible exact Ev.now true) | (with_reducible refine Ev.bind hs ?_) | (with_reducible refine Ev.bind hi ?_) | (with_reducible refine Ev.bind (laws_toIntS_ev _ (by first | assumption | omega)) ?_) | (with_reducible refine Ev.bind (laws_toRow_ev _ (by first | assumption | omega)) ?_) | (with_reducible refine Ev.bind (laws_eqIntS_ev _ (by first | assumption | omega | (dsimp only; omega) | (simp only [szvLLInt, szvS24, szvS26] at *; omega))) ?_) | (with_reducible refine Ev.bind (laws_eqRow_lv _ (by first | assumption | omega | (dsimp only; omega) | (simp only [szvLLInt, szvS24, szvS26] at *; omega))) ?_) | (with_reducible refine Ev.bind (laws_toIntSS_ev _ (by first | assumption | omega)) ?_) | (with_reducible refine Ev.bind (laws_eqIntSS_ev _ (by first | assumption | omega | (dsimp only; omega) | (simp only [szvLLInt, szvS24, szvS26] at *; omega))) ?_) | (with_reducible refine Ev.bind (laws_markIntS_ev _ _ (by first | assumption | omega | (dsimp only; omega) | (simp only [szvLLInt, szvS24, szvS26] at *; omega)) (by first | assumption | omega | (dsimp only; omega) | (simp only [szvLLInt, szvS24, szvS26] at *; omega))) ?_) | (with_reducible refine Ev.bind (laws_markRow_lv _ _ (by first | assumption | omega | (dsimp only; omega) | (simp only [szvLLInt, szvS24, szvS26] at *; omega)) (by first | assumption | omega | (dsimp only; omega) | (simp only [szvLLInt, szvS24, szvS26] at *; omega))) ?_) | (with_reducible refine Ev.bind (laws_heldIntS_ev _ _ (by first | assumption | omega | (dsimp only; omega) | (simp only [szvLLInt, szvS24, szvS26] at *; omega)) (by first | assumption | omega | (dsimp only; omega) | (simp only [szvLLInt, szvS24, szvS26] at *; omega))) ?_) | (with_reducible refine Ev.bind (laws_heldRow_lv _ _ (by first | assumption | omega | (dsimp only; omega) | (simp only [szvLLInt, szvS24, szvS26] at *; omega)) (by first | assumption | omega | (dsimp only; omega) | (simp only [szvLLInt, szvS24, szvS26] at *; omega))) ?_) | (with_reducible refine Ev.bind (laws_markIntSS_ev _ _ (by first | assumption | omega | (dsimp only; omega) | (simp only [szvLLInt, szvS24, szvS26] at *; omega)) (by first | assumption | omega | (dsimp only; omega) | (simp only [szvLLInt, szvS24, szvS26] at *; omega))) ?_) | (with_reducible refine Ev.pos rfl ?_) | (with_reducible refine Ev.neg (by first | omega | simp) ?_))
end Go.Proofs.Ytcbikaoackbbjaa.HFnExactJoinRows
