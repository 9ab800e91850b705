/- What the helpers of the law FnExactNewSnap compute, in plain words: printed by a program of this claim's own. No conditions. -/
import Derived.Test.YtpbpglbldgpckaaG1
import Derived.Test.YtpbpglbldgpckaaG2
import Derived.Test.YtpbpglbldgpckaaG3
import Derived.Test.YtpbpglbldgpckaaG5
import Derived.Test.YtpbpglbldgpckaaG7
import Derived.Test.YtpbpglbldgpckaaG8
import Derived.Test.YtpbpglbldgpckaaQBase
namespace Go.Proofs.Ytpbpglbldgpckaa.HFnExactNewSnap
open Go.RowKit Go.Proofs.Ytpbpglbldgpckaa.G Go.Proofs.Ytpbpglbldgpckaa.X Go.Proofs.Ytpbpglbldgpckaa.Pure Go.Proofs.YtpbpglbldgpckaaW.PrintWords Go.Proofs.YtpbpglbldgpckaaW.PrintLast
set_option linter.unusedVariables false
set_option linter.unusedSimpArgs false

theorem laws_toIntS_l (x : List Int) (h : x.length ≤ 1048576) (d : Nat) : ∀ (i : Nat) (z : List Int), i + d = x.length → z.length = x.length → z.take i = (x).take i →
    Ev (fun k => laws_toIntS.l0 k x z (i : Int)) (x) := by
  have hx : x.length ≤ 1048576 := by exact h
  have hL : (x).length = x.length := by simp
  induction d with
  | zero =>
    intro i z hi hz ht
    refine Ev.step (f := fun _ => some z) (fun k => by simp only [laws_toIntS.l0]; rw [if_neg (by omega)]) ?_
    have : z = x := by rw [← List.take_of_length_le (l := z) (i := i) (by omega), ht, List.take_of_length_le (by omega)]
    rw [this]
    exact Ev.now _
  | succ d ih =>
    intro i z hi hz ht
    have hlt : i < x.length := by omega
    have hg : (x)[i]'(by omega) = x[i] := by simp
    have hst := set_take (l := x) (z := z) (i := i) (by omega) (by omega) ht
    rw [hg] at hst
    refine Ev.step (f := fun k => laws_toIntS.l0 k x (z.set i (x[i])) ((i + 1 : Nat) : Int)) (fun k => ?_) (ih (i + 1) _ (by omega) (by simpa using hz) hst)
    simp only [laws_toIntS.l0]
    rw [if_pos (by omega), if_pos (by omega), if_pos (by omega), rd_lt hlt, w64 (by omega) (by omega)]
    rfl
theorem laws_toIntS_ev (x : List Int) (h : x.length ≤ 1048576) : Ev (fun k => laws_toIntS.f k x) (x) := by
  have hx : x.length ≤ 1048576 := by exact h
  unfold laws_toIntS.f
  refine Ev.pos (by omega) (Ev.pos (by omega) ?_)
  exact laws_toIntS_l x h x.length 0 _ (by omega) (by simp) (by simp)
theorem laws_eqIntS_l (x : List Int) (h : x.length ≤ 1099511627776) (d : Nat) : ∀ (i : Nat), i + d = x.length → Ev (fun k => laws_eqIntS.l0 k x x (i : Int)) true := by
  have hx : x.length ≤ 1099511627776 := by exact h
  induction d with
  | zero =>
    intro i hi
    exact Ev.step (f := fun _ => some true) (fun k => by simp only [laws_eqIntS.l0]; rw [if_neg (by omega)]) (Ev.now _)
  | succ d ih =>
    intro i hi
    have hlt : i < x.length := by omega
    refine Ev.step (f := fun k => laws_eqIntS.l0 k x x ((i + 1 : Nat) : Int)) (fun k => ?_) (ih (i + 1) (by omega))
    simp only [laws_eqIntS.l0]
    rw [if_pos (by omega), if_pos (by omega), if_pos (by omega)]
    first | rw [if_pos trivial] | rw [if_pos rfl]
    rw [w64 (by omega) (by omega)]
    rfl
theorem laws_eqIntS_ev (x : List Int) (h : x.length ≤ 1099511627776) : Ev (fun k => laws_eqIntS.f k x x) true := by
  unfold laws_eqIntS.f
  exact Ev.pos rfl (laws_eqIntS_l x h x.length 0 (by omega))
theorem laws_markIntS_l (n : Nat) (a : Int) (h0 : 0 ≤ a) (hb : a + ((1 * n : Nat) : Int) ≤ 4611686018427387904) (d : Nat) : ∀ (i : Nat) (z : List Int), i + d = n → z.length = n → z.take i = (marks a n).take i →
    Ev (fun k => laws_markIntS.l0 k z (a + 1 * (i : Int)) (i : Int)) (a + ((1 * n : Nat) : Int), marks a n) := by
  have hm := marks_length a n
  induction d with
  | zero =>
    intro i z hi hz ht
    refine Ev.step (f := fun _ => some (a + 1 * (i : Int), z)) (fun k => by simp only [laws_markIntS.l0]; rw [if_neg (by omega)]) ?_
    have : z = marks a n := by rw [← List.take_of_length_le (l := z) (i := i) (by omega), ht, List.take_of_length_le (by omega)]
    rw [this]
    refine Ev.eq (Ev.now _) ?_
    have e : a + 1 * (i : Int) = a + ((1 * n : Nat) : Int) := by omega
    rw [e]
  | succ d ih =>
    intro i z hi hz ht
    have hlt : i < z.length := by omega
    have hst := set_take (l := marks a n) (z := z) (i := i) (by omega) (by omega) ht
    rw [marks_get] at hst
    refine Ev.step (f := fun k => laws_markIntS.l0 k (z.set i (a + (i : Int))) (a + 1 * ((i + 1 : Nat) : Int)) ((i + 1 : Nat) : Int)) (fun k => ?_) (ih (i + 1) _ (by omega) (by simpa using hz) hst)
    simp only [laws_markIntS.l0]
    rw [if_pos (by omega), if_pos (by omega)]
    rw [w64 (by omega) (by omega), w64 (by omega) (by omega), show a + 1 * (i : Int) = a + (i : Int) from by omega, show a + (i : Int) + 1 = a + 1 * ((i + 1 : Nat) : Int) from by omega]
    rfl
theorem laws_markIntS_ev (x : List Int) (a : Int) (h0 : 0 ≤ a) (hb : a + ((x.length : Nat) : Int) ≤ 4611686018427387904) : Ev (fun k => laws_markIntS.f k x a) (a + ((x.length : Nat) : Int), marks (a) x.length) := by
  unfold laws_markIntS.f
  have := laws_markIntS_l x.length a h0 (by omega) x.length 0 x (by omega) rfl (by simp)
  simpa using this
theorem laws_eqProc_ev (x : S138) : Ev (fun k => laws_eqProc.f x.f0 x.f1 x.f2 x.f0 x.f1 x.f2) true := by
  unfold laws_eqProc.f
  repeat (first | (with_reducible exact Ev.now true) | (with_reducible refine Ev.pos rfl ?_) | (with_reducible refine Ev.neg (by simp; done) ?_))
theorem laws_eqProc_lv (y0 : Int) (y1 : Int) (y2 : Bool) : Ev (fun k => laws_eqProc.f y0 y1 y2 y0 y1 y2) true := laws_eqProc_ev (⟨y0, y1, y2⟩ : S138)
theorem rd_T138_lt {l : List S138} {i : Nat} (h : i < l.length) : rd_T138 l (i : Int) = l[i] := by simp [rd_T138, h]
theorem laws_eqProcS_l (x : List (S138)) (h : x.length ≤ 1099511627776) (d : Nat) : ∀ (i : Nat), i + d = x.length → Ev (fun k => laws_eqProcS.l0 k x x (i : Int)) true := by
  have hx : x.length ≤ 1099511627776 := by exact h
  induction d with
  | zero =>
    intro i hi
    exact Ev.step (f := fun _ => some true) (fun k => by simp only [laws_eqProcS.l0]; rw [if_neg (by omega)]) (Ev.now _)
  | succ d ih =>
    intro i hi
    have hlt : i < x.length := by omega
    refine Ev.step (f := fun k => (laws_eqProc.f (x[i].f0) (x[i].f1) (x[i].f2) (x[i].f0) (x[i].f1) (x[i].f2)).bind fun t => if t = true then laws_eqProcS.l0 k x x ((i + 1 : Nat) : Int) else some false) (fun k => ?_) ?_
    · simp only [laws_eqProcS.l0]
      rw [if_pos (by omega), if_pos (by omega), if_pos (by omega), rd_T138_lt hlt, w64 (by omega) (by omega)]
      rfl
    refine Ev.bind (laws_eqProc_ev x[i]) ?_
    exact Ev.pos rfl (ih (i + 1) (by omega))
theorem laws_eqProcS_ev (x : List (S138)) (h : x.length ≤ 1099511627776) : Ev (fun k => laws_eqProcS.f k x x) true := by
  unfold laws_eqProcS.f
  exact Ev.pos rfl (laws_eqProcS_l x h x.length 0 (by omega))
def szvS140 (x : S140) : Nat := x.f0.length + x.f1.length
theorem laws_eqWire_ev (x : S140) (h : szvS140 x ≤ 1099511627776) : Ev (fun k => laws_eqWire.f k x.f0 x.f1 x.f2 x.f0 x.f1 x.f2) true := by
  unfold laws_eqWire.f
  have hs : szvS140 x = x.f0.length + x.f1.length := rfl
  repeat (first | (with_reducible exact Ev.now true) | (with_reducible refine Ev.pos rfl ?_) | (with_reducible refine Ev.neg (by simp; done) ?_) | (with_reducible refine Ev.bind (laws_eqIntS_ev _ (by omega)) ?_))
theorem laws_eqWire_lv (y0 : List Int) (y1 : List Int) (y2 : Bool) (h : y0.length + y1.length ≤ 1099511627776) : Ev (fun k => laws_eqWire.f k y0 y1 y2 y0 y1 y2) true := laws_eqWire_ev (⟨y0, y1, y2⟩ : S140) h
def szvLS140 (x : List (S140)) : Nat := x.length + (x.map fun y => szvS140 y).sum
theorem rd_T140_lt {l : List S140} {i : Nat} (h : i < l.length) : rd_T140 l (i : Int) = l[i] := by simp [rd_T140, h]
theorem laws_eqWireS_l (x : List (S140)) (h : szvLS140 x ≤ 1099511627776) (d : Nat) : ∀ (i : Nat), i + d = x.length → Ev (fun k => laws_eqWireS.l0 k x x (i : Int)) true := by
  have hx : x.length ≤ 1099511627776 := by unfold szvLS140 at h; omega
  induction d with
  | zero =>
    intro i hi
    exact Ev.step (f := fun _ => some true) (fun k => by simp only [laws_eqWireS.l0]; rw [if_neg (by omega)]) (Ev.now _)
  | succ d ih =>
    intro i hi
    have hlt : i < x.length := by omega
    refine Ev.step (f := fun k => (laws_eqWire.f k (x[i].f0) (x[i].f1) (x[i].f2) (x[i].f0) (x[i].f1) (x[i].f2)).bind fun t => if t = true then laws_eqWireS.l0 k x x ((i + 1 : Nat) : Int) else some false) (fun k => ?_) ?_
    · simp only [laws_eqWireS.l0]
      rw [if_pos (by omega), if_pos (by omega), if_pos (by omega), rd_T140_lt hlt, w64 (by omega) (by omega)]
      rfl
    refine Ev.bind (laws_eqWire_ev x[i] (by have := sum_mem (fun y => szvS140 y) x _ (List.getElem_mem hlt); unfold szvLS140 at h; omega)) ?_
    exact Ev.pos rfl (ih (i + 1) (by omega))
theorem laws_eqWireS_ev (x : List (S140)) (h : szvLS140 x ≤ 1099511627776) : Ev (fun k => laws_eqWireS.f k x x) true := by
  unfold laws_eqWireS.f
  exact Ev.pos rfl (laws_eqWireS_l x h x.length 0 (by omega))
def szvS85 (x : S85) : Nat := x.f0.length + szvLS140 x.f1
theorem laws_eqSnap_ev (x : S85) (h : szvS85 x ≤ 1099511627776) : Ev (fun k => laws_eqSnap.f k x.f0 x.f1 x.f0 x.f1) true := by
  unfold laws_eqSnap.f
  have hs : szvS85 x = x.f0.length + szvLS140 x.f1 := rfl
  repeat (first | (with_reducible exact Ev.now true) | (with_reducible refine Ev.pos rfl ?_) | (with_reducible refine Ev.neg (by simp; done) ?_) | (with_reducible refine Ev.bind (laws_eqProcS_ev _ (by omega)) ?_) | (with_reducible refine Ev.bind (laws_eqWireS_ev _ (by omega)) ?_))
theorem laws_eqSnap_lv (y0 : List (S138)) (y1 : List (S140)) (h : y0.length + szvLS140 y1 ≤ 1099511627776) : Ev (fun k => laws_eqSnap.f k y0 y1 y0 y1) true := laws_eqSnap_ev (⟨y0, y1⟩ : S85) h
theorem laws_heldIntS_l (n : Nat) (a : Int) (h0 : 0 ≤ a) (hb : a + ((1 * n : Nat) : Int) ≤ 4611686018427387904) (d : Nat) : ∀ (i : Nat), i + d = n → Ev (fun k => laws_heldIntS.l0 k (marks a n) (a + 1 * (i : Int)) (i : Int)) (a + ((1 * n : Nat) : Int)) := by
  have hm := marks_length a n
  induction d with
  | zero =>
    intro i hi
    exact Ev.step (f := fun _ => some (a + 1 * (i : Int))) (fun k => by simp only [laws_heldIntS.l0]; rw [if_neg (by omega)]) (Ev.eq (Ev.now _) (by omega))
  | succ d ih =>
    intro i hi
    have hlt : i < (marks a n).length := by omega
    refine Ev.step (f := fun k => laws_heldIntS.l0 k (marks a n) (a + 1 * ((i + 1 : Nat) : Int)) ((i + 1 : Nat) : Int)) (fun k => ?_) (ih (i + 1) (by omega))
    simp only [laws_heldIntS.l0]
    rw [if_pos (by omega), if_pos (by omega)]
    rw [rd_lt hlt, marks_get, if_pos (by omega), w64 (by omega) (by omega), w64 (by omega) (by omega), show a + 1 * (i : Int) + 1 = a + 1 * ((i + 1 : Nat) : Int) from by omega]
    rfl
theorem laws_heldIntS_ev (x : List Int) (a : Int) (h0 : 0 ≤ a) (hb : a + ((x.length : Nat) : Int) ≤ 4611686018427387904) : Ev (fun k => laws_heldIntS.f k (marks (a) x.length) a) (a + ((x.length : Nat) : Int)) := by
  unfold laws_heldIntS.f
  have := laws_heldIntS_l x.length a h0 (by omega) x.length 0 (by omega)
  simpa using this
end Go.Proofs.Ytpbpglbldgpckaa.HFnExactNewSnap
