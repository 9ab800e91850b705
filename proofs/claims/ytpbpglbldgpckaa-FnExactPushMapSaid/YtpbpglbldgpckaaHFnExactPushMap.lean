/- What the helpers of the law FnExactPushMap compute, in plain words: printed by a program of this claim's own. No conditions. -/
import Derived.Test.YtpbpglbldgpckaaG2
import Derived.Test.YtpbpglbldgpckaaG3
import Derived.Test.YtpbpglbldgpckaaG4
import Derived.Test.YtpbpglbldgpckaaG5
import Derived.Test.YtpbpglbldgpckaaG8
import Derived.Test.YtpbpglbldgpckaaG12
import Derived.Test.YtpbpglbldgpckaaG13
import Derived.Test.YtpbpglbldgpckaaQBase
namespace Go.Proofs.Ytpbpglbldgpckaa.HFnExactPushMap
open Go.RowKit Go.Proofs.Ytpbpglbldgpckaa.G Go.Proofs.Ytpbpglbldgpckaa.X Go.Proofs.Ytpbpglbldgpckaa.Pure Go.Proofs.YtpbpglbldgpckaaW.PrintWords Go.Proofs.YtpbpglbldgpckaaW.PrintLast
set_option linter.unusedVariables false
set_option linter.unusedSimpArgs false

theorem laws_szMapS_ev (x : List (S45)) (a : Int) (hw : (x.length ≤ 9223372036854775807 ∧ ∀ x0_ ∈ x, wf45 x0_)) (h0 : 0 ≤ a) (h1 : a ≤ 1048576) : Ev (fun k => laws_szMapS.f x a) (if ((x.length : Nat) : Int) ≤ a then a - ((x.length : Nat) : Int) else -1) := by
  have hx := hw.1
  refine Ev.const ?_
  unfold laws_szMapS.f
  rw [w64 (by omega) (by omega)]
  by_cases h : (x.length : Int) ≤ a
  · rw [if_neg (by omega), if_pos h]
  · rw [if_pos (by omega), if_neg h]
def szvS47 (x : S47) : Nat := x.f0.length + x.f1.length + x.f2.length
theorem laws_szWindow_ev (x : S47) (a : Int) (hw : wf47 x) (h0 : 0 ≤ a) (h1 : a ≤ 1048576) : Ev (fun k => laws_szWindow.f x.f0 x.f1 x.f2 x.f3.f0 x.f3.f1 a) (if ((szvS47 x : Nat) : Int) ≤ a then a - ((szvS47 x : Nat) : Int) else -1) := by
  unfold wf47 at hw
  obtain ⟨w0, w1, w2, w3⟩ := hw
  unfold laws_szWindow.f
  have hs : szvS47 x = x.f0.length + x.f1.length + x.f2.length := rfl
  refine Ev.bind (laws_szMapS_ev x.f0 (a) w0 (by omega) (by omega)) ?_
  by_cases c0 : ((x.f0.length : Nat) : Int) ≤ a
  case neg =>
    rw [if_neg c0]
    exact Ev.pos (by omega) (Ev.eq (Ev.now _) (by rw [if_neg (by omega)]))
  rw [if_pos c0]
  refine Ev.neg (by omega) ?_
  refine Ev.bind (laws_szMapS_ev x.f1 (a - ((x.f0.length : Nat) : Int)) w1 (by omega) (by omega)) ?_
  by_cases c1 : ((x.f1.length : Nat) : Int) ≤ a - ((x.f0.length : Nat) : Int)
  case neg =>
    rw [if_neg c1]
    exact Ev.pos (by omega) (Ev.eq (Ev.now _) (by rw [if_neg (by omega)]))
  rw [if_pos c1]
  refine Ev.neg (by omega) ?_
  refine Ev.bind (laws_szMapS_ev x.f2 (a - ((x.f0.length : Nat) : Int) - ((x.f1.length : Nat) : Int)) w2 (by omega) (by omega)) ?_
  by_cases c2 : ((x.f2.length : Nat) : Int) ≤ a - ((x.f0.length : Nat) : Int) - ((x.f1.length : Nat) : Int)
  case neg =>
    rw [if_neg c2]
    exact Ev.pos (by omega) (Ev.eq (Ev.now _) (by rw [if_neg (by omega)]))
  rw [if_pos c2]
  refine Ev.neg (by omega) ?_
  exact Ev.eq (Ev.now _) (by rw [if_pos (by omega)]; omega)
abbrev cvS45_S51 (x : S45) : S51 := ⟨x.f0, x.f1⟩
theorem laws_toMap_ev (x : S45) : Ev (fun k => laws_toMap.f x.f0 x.f1) (x.f0, x.f1) := by
  unfold laws_toMap.f
  exact Ev.now _
theorem szcvLS45_LS51 (x : List (S45)) : (x.map cvS45_S51).length = x.length := by simp [Function.comp_def, List.map_map]
theorem rd_T45_lt {l : List S45} {i : Nat} (h : i < l.length) : rd_T45 l (i : Int) = l[i] := by simp [rd_T45, h]
theorem laws_toMapS_l (x : List (S45)) (h : x.length ≤ 1048576) (d : Nat) : ∀ (i : Nat) (z : List (S51)), i + d = x.length → z.length = x.length → z.take i = (x.map cvS45_S51).take i →
    Ev (fun k => laws_toMapS.l0 k x z (i : Int)) (x.map cvS45_S51) := by
  have hx : x.length ≤ 1048576 := by exact h
  have hL : (x.map cvS45_S51).length = x.length := by simp
  induction d with
  | zero =>
    intro i z hi hz ht
    refine Ev.step (f := fun _ => some z) (fun k => by simp only [laws_toMapS.l0]; rw [if_neg (by omega)]) ?_
    have : z = x.map cvS45_S51 := by rw [← List.take_of_length_le (l := z) (i := i) (by omega), ht, List.take_of_length_le (by omega)]
    rw [this]
    exact Ev.now _
  | succ d ih =>
    intro i z hi hz ht
    have hlt : i < x.length := by omega
    have hg : (x.map cvS45_S51)[i]'(by omega) = cvS45_S51 (x[i]) := by simp
    have hst := set_take (l := x.map cvS45_S51) (z := z) (i := i) (by omega) (by omega) ht
    rw [hg] at hst
    refine Ev.step (f := fun k => (laws_toMap.f (x[i].f0) (x[i].f1)).bind fun t => laws_toMapS.l0 k x (z.set i (⟨t.1, t.2⟩ : S51)) ((i + 1 : Nat) : Int)) (fun k => ?_) ?_
    · simp only [laws_toMapS.l0]
      rw [if_pos (by omega), if_pos (by omega), rd_T45_lt hlt]
      have e1 : wrap64 ((i : Int) + 1) = ((i + 1 : Nat) : Int) := by rw [w64 (by omega) (by omega)]; rfl
      rw [e1]
      simp only [show (i : Int) < (z.length : Int) from by omega, if_true, Int.toNat_natCast]
    refine Ev.bind (laws_toMap_ev x[i]) ?_
    exact ih (i + 1) _ (by omega) (by simpa using hz) hst
theorem laws_toMapS_ev (x : List (S45)) (h : x.length ≤ 1048576) : Ev (fun k => laws_toMapS.f k x) (x.map cvS45_S51) := by
  have hx : x.length ≤ 1048576 := by exact h
  unfold laws_toMapS.f
  refine Ev.pos (by omega) (Ev.pos (by omega) ?_)
  exact laws_toMapS_l x h x.length 0 _ (by omega) (by simp) (by simp)
abbrev cvS47_S53 (x : S47) : S53 := ⟨x.f0.map cvS45_S51, x.f1.map cvS45_S51, x.f2.map cvS45_S51, cvS45_S51 x.f3⟩
def szvS53 (x : S53) : Nat := x.f0.length + x.f1.length + x.f2.length
theorem szcvS47_S53 (x : S47) : szvS53 (cvS47_S53 x) = szvS47 x := by simp [Function.comp_def, List.map_map, cvS47_S53, szcvLS45_LS51, szvS47, szvS53]
theorem laws_toWindow_ev (x : S47) (h : szvS47 x ≤ 1048576) : Ev (fun k => laws_toWindow.f k x.f0 x.f1 x.f2 x.f3.f0 x.f3.f1) (x.f0.map cvS45_S51, x.f1.map cvS45_S51, x.f2.map cvS45_S51, x.f3.f0, x.f3.f1) := by
  unfold laws_toWindow.f
  have hs : szvS47 x = x.f0.length + x.f1.length + x.f2.length := rfl
  refine Ev.bind (laws_toMapS_ev x.f0 (by omega)) ?_
  refine Ev.bind (laws_toMapS_ev x.f1 (by omega)) ?_
  refine Ev.bind (laws_toMapS_ev x.f2 (by omega)) ?_
  refine Ev.bind (laws_toMap_ev x.f3) ?_
  exact Ev.now _
theorem laws_eqMap_ev (x : S51) : Ev (fun k => laws_eqMap.f x.f0 x.f1 x.f0 x.f1) true := by
  unfold laws_eqMap.f
  repeat (first | (with_reducible exact Ev.now true) | (with_reducible refine Ev.pos rfl ?_) | (with_reducible refine Ev.neg (by simp; done) ?_))
theorem laws_eqMap_lv (y0 : Int) (y1 : Int) : Ev (fun k => laws_eqMap.f y0 y1 y0 y1) true := laws_eqMap_ev (⟨y0, y1⟩ : S51)
theorem rd_T51_lt {l : List S51} {i : Nat} (h : i < l.length) : rd_T51 l (i : Int) = l[i] := by simp [rd_T51, h]
theorem laws_eqMapS_l (x : List (S51)) (h : x.length ≤ 1099511627776) (d : Nat) : ∀ (i : Nat), i + d = x.length → Ev (fun k => laws_eqMapS.l0 k x x (i : Int)) true := by
  have hx : x.length ≤ 1099511627776 := by exact h
  induction d with
  | zero =>
    intro i hi
    exact Ev.step (f := fun _ => some true) (fun k => by simp only [laws_eqMapS.l0]; rw [if_neg (by omega)]) (Ev.now _)
  | succ d ih =>
    intro i hi
    have hlt : i < x.length := by omega
    refine Ev.step (f := fun k => (laws_eqMap.f (x[i].f0) (x[i].f1) (x[i].f0) (x[i].f1)).bind fun t => if t = true then laws_eqMapS.l0 k x x ((i + 1 : Nat) : Int) else some false) (fun k => ?_) ?_
    · simp only [laws_eqMapS.l0]
      rw [if_pos (by omega), if_pos (by omega), if_pos (by omega), rd_T51_lt hlt, w64 (by omega) (by omega)]
      rfl
    refine Ev.bind (laws_eqMap_ev x[i]) ?_
    exact Ev.pos rfl (ih (i + 1) (by omega))
theorem laws_eqMapS_ev (x : List (S51)) (h : x.length ≤ 1099511627776) : Ev (fun k => laws_eqMapS.f k x x) true := by
  unfold laws_eqMapS.f
  exact Ev.pos rfl (laws_eqMapS_l x h x.length 0 (by omega))
theorem laws_eqWindow_ev (x : S53) (h : szvS53 x ≤ 1099511627776) : Ev (fun k => laws_eqWindow.f k x.f0 x.f1 x.f2 x.f3.f0 x.f3.f1 x.f0 x.f1 x.f2 x.f3.f0 x.f3.f1) true := by
  unfold laws_eqWindow.f
  have hs : szvS53 x = x.f0.length + x.f1.length + x.f2.length := rfl
  repeat (first | (with_reducible exact Ev.now true) | (with_reducible refine Ev.pos rfl ?_) | (with_reducible refine Ev.neg (by simp; done) ?_) | (with_reducible refine Ev.bind (laws_eqMapS_ev _ (by omega)) ?_) | (with_reducible refine Ev.bind (laws_eqMap_ev (_)) ?_))
theorem laws_eqWindow_lv (y0 : List (S51)) (y1 : List (S51)) (y2 : List (S51)) (y3 : Int) (y4 : Int) (h : y0.length + y1.length + y2.length ≤ 1099511627776) : Ev (fun k => laws_eqWindow.f k y0 y1 y2 y3 y4 y0 y1 y2 y3 y4) true := laws_eqWindow_ev (⟨y0, y1, y2, (⟨y3, y4⟩ : S51)⟩ : S53) h
def mkLS51 (a : Int) (n : Nat) : List (S51) := (List.range n).map fun j : Nat => (⟨a + 2 * (j : Int) + 0, a + 2 * (j : Int) + 1⟩ : S51)
theorem mkLS51_len (a : Int) (n : Nat) : (mkLS51 a n).length = n := by simp [mkLS51]
theorem mkLS51_get (a : Int) (n : Nat) (j : Nat) (h : j < (mkLS51 a n).length) : (mkLS51 a n)[j] = (⟨a + 2 * (j : Int) + 0, a + 2 * (j : Int) + 1⟩ : S51) := by simp [mkLS51]
theorem rd_T51_set {l : List (S51)} {i : Nat} (v : S51) (h : i < l.length) : rd_T51 (l.set i v) (i : Int) = v := by simp [rd_T51, h]
theorem laws_markMapS_l (n : Nat) (a : Int) (h0 : 0 ≤ a) (hb : a + ((2 * n : Nat) : Int) ≤ 4611686018427387904) (d : Nat) : ∀ (i : Nat) (z : List (S51)), i + d = n → z.length = n → z.take i = (mkLS51 a n).take i →
    Ev (fun k => laws_markMapS.l0 k z (a + 2 * (i : Int)) (i : Int)) (a + ((2 * n : Nat) : Int), mkLS51 a n) := by
  have hm := mkLS51_len a n
  induction d with
  | zero =>
    intro i z hi hz ht
    refine Ev.step (f := fun _ => some (a + 2 * (i : Int), z)) (fun k => by simp only [laws_markMapS.l0]; rw [if_neg (by omega)]) ?_
    have : z = mkLS51 a n := by rw [← List.take_of_length_le (l := z) (i := i) (by omega), ht, List.take_of_length_le (by omega)]
    rw [this]
    refine Ev.eq (Ev.now _) ?_
    have e : a + 2 * (i : Int) = a + ((2 * n : Nat) : Int) := by omega
    rw [e]
  | succ d ih =>
    intro i z hi hz ht
    have hlt : i < z.length := by omega
    have hst := set_take (l := mkLS51 a n) (z := z) (i := i) (by omega) (by omega) ht
    rw [mkLS51_get] at hst
    refine Ev.step (f := fun k => laws_markMapS.l0 k (z.set i ((⟨a + 2 * (i : Int) + 0, a + 2 * (i : Int) + 1⟩ : S51))) (a + 2 * ((i + 1 : Nat) : Int)) ((i + 1 : Nat) : Int)) (fun k => ?_) (ih (i + 1) _ (by omega) (by simpa using hz) hst)
    simp only [laws_markMapS.l0]
    rw [if_pos (by omega), if_pos (by omega)]
    have e0 : wrap64 ((i : Int) + 1) = ((i + 1 : Nat) : Int) := by rw [w64 (by omega) (by omega)]; rfl
    have e1 : wrap64 (a + 2 * (i : Int) + 1) = a + 2 * (i : Int) + 1 := by rw [w64 (by omega) (by omega)]
    have e2 : wrap64 (a + 2 * (i : Int) + 1 + 1) = a + 2 * (i : Int) + 2 := by rw [w64 (by omega) (by omega)]; omega
    have e9 : a + 2 * (i : Int) + 2 = a + 2 * ((i + 1 : Nat) : Int) := by omega
    simp only [Option.bind_some, Int.toNat_natCast, e0, e1, e2, rd_T51_set _ hlt, List.set_set, Int.add_zero]
    rw [e9]
theorem laws_markMapS_ev (x : List (S51)) (a : Int) (h0 : 0 ≤ a) (hb : a + ((2 * x.length : Nat) : Int) ≤ 4611686018427387904) : Ev (fun k => laws_markMapS.f k x a) (a + ((2 * x.length : Nat) : Int), mkLS51 (a) x.length) := by
  unfold laws_markMapS.f
  have := laws_markMapS_l x.length a h0 (by omega) x.length 0 x (by omega) rfl (by simp)
  simpa using this
theorem laws_markWindow_ev (x : S53) (a : Int) (h0 : 0 ≤ a) (hb : a + ((2 * x.f0.length + 2 * x.f1.length + 2 * x.f2.length : Nat) : Int) ≤ 4611686018427387904) : Ev (fun k => laws_markWindow.f k x.f0 x.f1 x.f2 x.f3.f0 x.f3.f1 a) (a + ((2 * x.f0.length + 2 * x.f1.length + 2 * x.f2.length : Nat) : Int), mkLS51 (a) x.f0.length, mkLS51 (a + ((2 * x.f0.length : Nat) : Int)) x.f1.length, mkLS51 (a + ((2 * x.f0.length : Nat) : Int) + ((2 * x.f1.length : Nat) : Int)) x.f2.length) := by
  unfold laws_markWindow.f
  refine Ev.bind (laws_markMapS_ev x.f0 (a) (by omega) (by omega)) ?_
  refine Ev.bind (laws_markMapS_ev x.f1 (a + ((2 * x.f0.length : Nat) : Int)) (by omega) (by omega)) ?_
  refine Ev.bind (laws_markMapS_ev x.f2 (a + ((2 * x.f0.length : Nat) : Int) + ((2 * x.f1.length : Nat) : Int)) (by omega) (by omega)) ?_
  exact Ev.eq (Ev.now _) (by simp only [Prod.mk.injEq, and_true]; omega)
theorem laws_markWindow_lv (y0 : List (S51)) (y1 : List (S51)) (y2 : List (S51)) (y3 : Int) (y4 : Int) (a : Int) (h0 : 0 ≤ a) (hb : a + ((2 * y0.length + 2 * y1.length + 2 * y2.length : Nat) : Int) ≤ 4611686018427387904) : Ev (fun k => laws_markWindow.f k y0 y1 y2 y3 y4 a) (a + ((2 * y0.length + 2 * y1.length + 2 * y2.length : Nat) : Int), (mkLS51 (a) y0.length), (mkLS51 (a + ((2 * y0.length : Nat) : Int)) y1.length), (mkLS51 (a + ((2 * y0.length : Nat) : Int) + ((2 * y1.length : Nat) : Int)) y2.length)) := laws_markWindow_ev (⟨y0, y1, y2, (⟨y3, y4⟩ : S51)⟩ : S53) a h0 hb
theorem laws_heldMapS_l (n : Nat) (a : Int) (h0 : 0 ≤ a) (hb : a + ((2 * n : Nat) : Int) ≤ 4611686018427387904) (d : Nat) : ∀ (i : Nat), i + d = n → Ev (fun k => laws_heldMapS.l0 k (mkLS51 a n) (a + 2 * (i : Int)) (i : Int)) (a + ((2 * n : Nat) : Int)) := by
  have hm := mkLS51_len a n
  induction d with
  | zero =>
    intro i hi
    exact Ev.step (f := fun _ => some (a + 2 * (i : Int))) (fun k => by simp only [laws_heldMapS.l0]; rw [if_neg (by omega)]) (Ev.eq (Ev.now _) (by omega))
  | succ d ih =>
    intro i hi
    have hlt : i < (mkLS51 a n).length := by omega
    refine Ev.step (f := fun k => laws_heldMapS.l0 k (mkLS51 a n) (a + 2 * ((i + 1 : Nat) : Int)) ((i + 1 : Nat) : Int)) (fun k => ?_) (ih (i + 1) (by omega))
    simp only [laws_heldMapS.l0]
    rw [if_pos (by omega), if_pos (by omega)]
    have e0 : wrap64 ((i : Int) + 1) = ((i + 1 : Nat) : Int) := by rw [w64 (by omega) (by omega)]; rfl
    have e1 : wrap64 (a + 2 * (i : Int) + 1) = a + 2 * (i : Int) + 1 := by rw [w64 (by omega) (by omega)]
    have e2 : wrap64 (a + 2 * (i : Int) + 1 + 1) = a + 2 * (i : Int) + 2 := by rw [w64 (by omega) (by omega)]; omega
    have e9 : a + 2 * (i : Int) + 2 = a + 2 * ((i + 1 : Nat) : Int) := by omega
    simp only [rd_T51_lt hlt, mkLS51_get, e0, e1, e2, Int.add_zero, if_true]
    rw [e9]
theorem laws_heldMapS_ev (x : List (S51)) (a : Int) (h0 : 0 ≤ a) (hb : a + ((2 * x.length : Nat) : Int) ≤ 4611686018427387904) : Ev (fun k => laws_heldMapS.f k (mkLS51 (a) x.length) a) (a + ((2 * x.length : Nat) : Int)) := by
  unfold laws_heldMapS.f
  have := laws_heldMapS_l x.length a h0 (by omega) x.length 0 (by omega)
  simpa using this
theorem laws_heldWindow_ev (x : S53) (a : Int) (h0 : 0 ≤ a) (hb : a + ((2 * x.f0.length + 2 * x.f1.length + 2 * x.f2.length : Nat) : Int) ≤ 4611686018427387904) : Ev (fun k => laws_heldWindow.f k (mkLS51 (a) x.f0.length) (mkLS51 (a + ((2 * x.f0.length : Nat) : Int)) x.f1.length) (mkLS51 (a + ((2 * x.f0.length : Nat) : Int) + ((2 * x.f1.length : Nat) : Int)) x.f2.length) x.f3.f0 x.f3.f1 a) (a + ((2 * x.f0.length + 2 * x.f1.length + 2 * x.f2.length : Nat) : Int)) := by
  unfold laws_heldWindow.f
  refine Ev.bind (laws_heldMapS_ev x.f0 (a) (by omega) (by omega)) ?_
  refine Ev.neg (by omega) ?_
  refine Ev.bind (laws_heldMapS_ev x.f1 (a + ((2 * x.f0.length : Nat) : Int)) (by omega) (by omega)) ?_
  refine Ev.neg (by omega) ?_
  refine Ev.bind (laws_heldMapS_ev x.f2 (a + ((2 * x.f0.length : Nat) : Int) + ((2 * x.f1.length : Nat) : Int)) (by omega) (by omega)) ?_
  refine Ev.neg (by omega) ?_
  exact Ev.eq (Ev.now _) (by omega)
theorem laws_heldWindow_lv (y0 : List (S51)) (y1 : List (S51)) (y2 : List (S51)) (y3 : Int) (y4 : Int) (a : Int) (h0 : 0 ≤ a) (hb : a + ((2 * y0.length + 2 * y1.length + 2 * y2.length : Nat) : Int) ≤ 4611686018427387904) : Ev (fun k => laws_heldWindow.f k (mkLS51 (a) y0.length) (mkLS51 (a + ((2 * y0.length : Nat) : Int)) y1.length) (mkLS51 (a + ((2 * y0.length : Nat) : Int) + ((2 * y1.length : Nat) : Int)) y2.length) y3 y4 a) (a + ((2 * y0.length + 2 * y1.length + 2 * y2.length : Nat) : Int)) := laws_heldWindow_ev (⟨y0, y1, y2, (⟨y3, y4⟩ : S51)⟩ : S53) a h0 hb
/-- What is left to show: the program's function and the reference answer alike. -/
def Core : Prop := ∀ x0 : S53, szvS53 x0 ≤ 1048576 → ∀ x1 : S51, ∃ v : (List (S51)) × (List (S51)) × (List (S51)) × Int × Int × Bool, Ev (fun k => spec_PushMap.f k x0.f0 x0.f1 x0.f2 x0.f3.f0 x0.f3.f1 x1.f0 x1.f1) v ∧ Ev (fun k => impl_PushMap.f k x0.f0 x0.f1 x0.f2 x0.f3.f0 x0.f3.f1 x1.f0 x1.f1) v ∧ v.1.length ≤ 137438953472 ∧ v.2.1.length ≤ 137438953472 ∧ v.2.2.1.length ≤ 137438953472
theorem law (core : Core) : laws_FnExactPushMap.Pure := by
  intro x0 hwx0 x1 hwx1
  apply Ev.rounds
  unfold laws_FnExactPushMap.f
  refine Ev.bind (laws_szWindow_ev x0 (1048576) hwx0 (by omega) (by omega)) ?_
  by_cases g0 : ((szvS47 x0 : Nat) : Int) ≤ 1048576
  case neg =>
    rw [if_neg g0]
    exact Ev.pos (by omega) (Ev.now true)
  rw [if_pos g0]
  refine Ev.neg (by omega) ?_
  have zx0 : szvS53 (cvS47_S53 x0) ≤ 1048576 := by rw [szcvS47_S53]; omega
  have yx0 : szvS47 x0 ≤ 1048576 := by omega
  obtain ⟨v, hs, hi, hv0, hv1, hv2⟩ := core (cvS47_S53 x0) zx0 (cvS45_S51 x1)
  repeat (first | (with_reducible exact Ev.now true) | (with_reducible refine Ev.bind hs ?_) | (with_reducible refine Ev.bind hi ?_) | (with_reducible refine Ev.bind (laws_toMap_ev _) ?_) | (with_reducible refine Ev.bind (laws_toMapS_ev _ (by first | assumption | omega)) ?_) | (with_reducible refine Ev.bind (laws_toWindow_ev _ (by first | assumption | omega)) ?_) | (with_reducible refine Ev.bind (laws_eqMap_lv _ _) ?_) | (with_reducible refine Ev.bind (laws_eqMapS_ev _ (by first | assumption | omega | (dsimp only; omega) | (simp only [szvS47, szvS53] at *; omega))) ?_) | (with_reducible refine Ev.bind (laws_eqWindow_lv _ _ _ _ _ (by first | assumption | omega | (dsimp only; omega) | (simp only [szvS47, szvS53] at *; omega))) ?_) | (with_reducible refine Ev.bind (laws_markMapS_ev _ _ (by first | assumption | omega | (dsimp only; omega) | (simp only [szvS47, szvS53] at *; omega)) (by first | assumption | omega | (dsimp only; omega) | (simp only [szvS47, szvS53] at *; omega))) ?_) | (with_reducible refine Ev.bind (laws_markWindow_lv _ _ _ _ _ _ (by first | assumption | omega | (dsimp only; omega) | (simp only [szvS47, szvS53] at *; omega)) (by first | assumption | omega | (dsimp only; omega) | (simp only [szvS47, szvS53] at *; omega))) ?_) | (with_reducible refine Ev.bind (laws_heldMapS_ev _ _ (by first | assumption | omega | (dsimp only; omega) | (simp only [szvS47, szvS53] at *; omega)) (by first | assumption | omega | (dsimp only; omega) | (simp only [szvS47, szvS53] at *; omega))) ?_) | (with_reducible refine Ev.bind (laws_heldWindow_lv _ _ _ _ _ _ (by first | assumption | omega | (dsimp only; omega) | (simp only [szvS47, szvS53] at *; omega)) (by first | assumption | omega | (dsimp only; omega) | (simp only [szvS47, szvS53] at *; omega))) ?_) | (with_reducible refine Ev.pos rfl ?_) | (with_reducible refine Ev.neg (by first | omega | simp) ?_))
end Go.Proofs.Ytpbpglbldgpckaa.HFnExactPushMap
