/- What the helpers of the law FnExactHoldsIn compute, in plain words: printed by a program of this claim's own. No conditions. -/
import Derived.Test.YtmelechhnimlnacG1
import Derived.Test.YtmelechhnimlnacG6
import Derived.Test.YtmelechhnimlnacG10
import Derived.Test.YtmelechhnimlnacG11
import Derived.Test.YtmelechhnimlnacG12
import Derived.Test.YtmelechhnimlnacG13
import Derived.Test.YtmelechhnimlnacQBase
namespace Go.Proofs.Ytmelechhnimlnac.HFnExactHoldsIn
open Go.RowKit Go.Proofs.Ytmelechhnimlnac.G Go.Proofs.Ytmelechhnimlnac.X Go.Proofs.Ytmelechhnimlnac.Pure Go.Proofs.YtmelechhnimlnacW.PrintWords Go.Proofs.YtmelechhnimlnacW.PrintLast
set_option linter.unusedVariables false
set_option linter.unusedSimpArgs false

theorem laws_szIntS_ev (x : List Int) (a : Int) (hw : (x.length ≤ 9223372036854775807 ∧ ∀ x0_ ∈ x, (-9223372036854775808 ≤ x0_ ∧ x0_ ≤ 9223372036854775807))) (h0 : 0 ≤ a) (h1 : a ≤ 1048576) : Ev (fun k => laws_szIntS.f x a) (if ((x.length : Nat) : Int) ≤ a then a - ((x.length : Nat) : Int) else -1) := by
  have hx := hw.1
  refine Ev.const ?_
  unfold laws_szIntS.f
  rw [w64 (by omega) (by omega)]
  by_cases h : (x.length : Int) ≤ a
  · rw [if_neg (by omega), if_pos h]
  · rw [if_pos (by omega), if_neg h]
def szvS59 (x : S59) : Nat := x.f0.length
theorem laws_szRow_ev (x : S59) (a : Int) (hw : wf59 x) (h0 : 0 ≤ a) (h1 : a ≤ 1048576) : Ev (fun k => laws_szRow.f x.f0 a) (if ((szvS59 x : Nat) : Int) ≤ a then a - ((szvS59 x : Nat) : Int) else -1) := by
  unfold wf59 at hw
  have w0 := hw
  unfold laws_szRow.f
  have hs : szvS59 x = x.f0.length := rfl
  refine Ev.bind (laws_szIntS_ev x.f0 (a) w0 (by omega) (by omega)) ?_
  by_cases c0 : ((x.f0.length : Nat) : Int) ≤ a
  case neg =>
    rw [if_neg c0]
    exact Ev.pos (by omega) (Ev.eq (Ev.now _) (by rw [if_neg (by omega)]))
  rw [if_pos c0]
  refine Ev.neg (by omega) ?_
  exact Ev.eq (Ev.now _) (by rw [if_pos (by omega)]; omega)
def szvS61 (x : S61) : Nat := szvS59 x.f0
theorem laws_szWeighted_ev (x : S61) (a : Int) (hw : wf61 x) (h0 : 0 ≤ a) (h1 : a ≤ 1048576) : Ev (fun k => laws_szWeighted.f x.f0.f0 x.f1 a) (if ((szvS61 x : Nat) : Int) ≤ a then a - ((szvS61 x : Nat) : Int) else -1) := by
  unfold wf61 at hw
  obtain ⟨w0, w1⟩ := hw
  unfold laws_szWeighted.f
  have hs : szvS61 x = szvS59 x.f0 := rfl
  refine Ev.bind (laws_szRow_ev x.f0 (a) w0 (by omega) (by omega)) ?_
  by_cases c0 : ((szvS59 x.f0 : Nat) : Int) ≤ a
  case neg =>
    rw [if_neg c0]
    exact Ev.pos (by omega) (Ev.eq (Ev.now _) (by rw [if_neg (by omega)]))
  rw [if_pos c0]
  refine Ev.neg (by omega) ?_
  exact Ev.eq (Ev.now _) (by rw [if_pos (by omega)]; omega)
def szvLS61 (x : List (S61)) : Nat := x.length + (x.map fun y => szvS61 y).sum
theorem rd_T61_lt {l : List S61} {i : Nat} (h : i < l.length) : rd_T61 l (i : Int) = l[i] := by simp [rd_T61, h]
theorem laws_szWeightedS_l (x : List (S61)) (hw : (x.length ≤ 9223372036854775807 ∧ ∀ x0_ ∈ x, wf61 x0_)) (d : Nat) : ∀ (i : Nat) (a : Int), i + d = x.length → 0 ≤ a → a ≤ 1048576 →
    Ev (fun k => laws_szWeightedS.l0 k x a (i : Int)) (if ((((x.drop i).map fun y => szvS61 y).sum : Nat) : Int) ≤ a then a - ((((x.drop i).map fun y => szvS61 y).sum : Nat) : Int) else -1) := by
  have hx := hw.1
  induction d with
  | zero =>
    intro i a hi h0 h1
    refine Ev.step (f := fun _ => some a) (fun k => by simp only [laws_szWeightedS.l0]; rw [if_neg (by omega)]) (Ev.eq (Ev.now _) ?_)
    rw [List.drop_of_length_le (by omega)]
    simp; omega
  | succ d ih =>
    intro i a hi h0 h1
    have hlt : i < x.length := by omega
    have hs : ((x.drop i).map fun y => szvS61 y).sum = szvS61 (x[i]) + ((x.drop (i + 1)).map fun y => szvS61 y).sum := by rw [drop_cons hlt, List.map_cons, List.sum_cons]
    refine Ev.step (f := fun k => (laws_szWeighted.f (x[i].f0.f0) (x[i].f1) a).bind fun t => if t < 0 then some (-1) else laws_szWeightedS.l0 k x t ((i + 1 : Nat) : Int)) (fun k => ?_) ?_
    · simp only [laws_szWeightedS.l0]
      rw [if_pos (by omega), if_pos (by omega), rd_T61_lt hlt, w64 (by omega) (by omega)]
      rfl
    refine Ev.bind (laws_szWeighted_ev x[i] a (hw.2 _ (List.getElem_mem hlt)) h0 h1) ?_
    by_cases c : ((szvS61 (x[i]) : Nat) : Int) ≤ a
    · rw [if_pos c]
      refine Ev.neg (by omega) (Ev.eq (ih (i + 1) (a - ((szvS61 (x[i]) : Nat) : Int)) (by omega) (by omega) (by omega)) ?_)
      rw [hs]
      by_cases c2 : ((szvS61 (x[i]) + ((x.drop (i + 1)).map fun y => szvS61 y).sum : Nat) : Int) ≤ a
      · rw [if_pos c2, if_pos (by omega)]; omega
      · rw [if_neg c2, if_neg (by omega)]
    · rw [if_neg c]
      refine Ev.pos (by omega) (Ev.eq (Ev.now _) ?_)
      rw [hs, if_neg (by omega)]
theorem laws_szWeightedS_ev (x : List (S61)) (a : Int) (hw : (x.length ≤ 9223372036854775807 ∧ ∀ x0_ ∈ x, wf61 x0_)) (h0 : 0 ≤ a) (h1 : a ≤ 1048576) : Ev (fun k => laws_szWeightedS.f k x a) (if ((szvLS61 x : Nat) : Int) ≤ a then a - ((szvLS61 x : Nat) : Int) else -1) := by
  have hx := hw.1
  unfold laws_szWeightedS.f
  rw [w64 (by omega) (by omega)]
  by_cases c : (x.length : Int) ≤ a
  · refine Ev.neg (by omega) (Ev.eq (laws_szWeightedS_l x hw x.length 0 (a - x.length) (by omega) (by omega) (by omega)) ?_)
    simp only [List.drop_zero]
    have hs : szvLS61 x = x.length + (x.map fun y => szvS61 y).sum := rfl
    by_cases c2 : ((szvLS61 x : Nat) : Int) ≤ a
    · rw [if_pos c2, if_pos (by omega)]; omega
    · rw [if_neg c2, if_neg (by omega)]
  · refine Ev.pos (by omega) (Ev.eq (Ev.now _) ?_)
    have hs : szvLS61 x = x.length + (x.map fun y => szvS61 y).sum := rfl
    rw [if_neg (by omega)]
def szvS24 (x : S24) : Nat := szvLS61 x.f1
theorem laws_szTable_ev (x : S24) (a : Int) (hw : wf24 x) (h0 : 0 ≤ a) (h1 : a ≤ 1048576) : Ev (fun k => laws_szTable.f k x.f0 x.f1 a) (if ((szvS24 x : Nat) : Int) ≤ a then a - ((szvS24 x : Nat) : Int) else -1) := by
  unfold wf24 at hw
  obtain ⟨w0, w1⟩ := hw
  unfold laws_szTable.f
  have hs : szvS24 x = szvLS61 x.f1 := rfl
  refine Ev.bind (laws_szWeightedS_ev x.f1 (a) w1 (by omega) (by omega)) ?_
  by_cases c1 : ((szvLS61 x.f1 : Nat) : Int) ≤ a
  case neg =>
    rw [if_neg c1]
    exact Ev.pos (by omega) (Ev.eq (Ev.now _) (by rw [if_neg (by omega)]))
  rw [if_pos c1]
  refine Ev.neg (by omega) ?_
  exact Ev.eq (Ev.now _) (by rw [if_pos (by omega)]; omega)
def szvS27 (x : S27) : Nat := x.f0.length + x.f1.length
theorem laws_szDepend_ev (x : S27) (a : Int) (hw : wf27 x) (h0 : 0 ≤ a) (h1 : a ≤ 1048576) : Ev (fun k => laws_szDepend.f x.f0 x.f1 a) (if ((szvS27 x : Nat) : Int) ≤ a then a - ((szvS27 x : Nat) : Int) else -1) := by
  unfold wf27 at hw
  obtain ⟨w0, w1⟩ := hw
  unfold laws_szDepend.f
  have hs : szvS27 x = x.f0.length + x.f1.length := rfl
  refine Ev.bind (laws_szIntS_ev x.f0 (a) w0 (by omega) (by omega)) ?_
  by_cases c0 : ((x.f0.length : Nat) : Int) ≤ a
  case neg =>
    rw [if_neg c0]
    exact Ev.pos (by omega) (Ev.eq (Ev.now _) (by rw [if_neg (by omega)]))
  rw [if_pos c0]
  refine Ev.neg (by omega) ?_
  refine Ev.bind (laws_szIntS_ev x.f1 (a - ((x.f0.length : Nat) : Int)) w1 (by omega) (by omega)) ?_
  by_cases c1 : ((x.f1.length : Nat) : Int) ≤ a - ((x.f0.length : Nat) : Int)
  case neg =>
    rw [if_neg c1]
    exact Ev.pos (by omega) (Ev.eq (Ev.now _) (by rw [if_neg (by omega)]))
  rw [if_pos c1]
  refine Ev.neg (by omega) ?_
  exact Ev.eq (Ev.now _) (by rw [if_pos (by omega)]; omega)
theorem laws_toIntS_l (x : List Int) (h : x.length ≤ 1048576) (d : Nat) : ∀ (i : Nat) (z : List Int), i + d = x.length → z.length = x.length → z.take i = (x).take i →
    Ev (fun k => laws_toIntS.l0 k x z (i : Int)) (x) := by
  have hx : x.length ≤ 1048576 := by exact h
  have hL : (x).length = x.length := by simp
  induction d with
  | zero =>
    intro i z hi hz ht
    refine Ev.step (f := fun _ => some z) (fun k => by simp only [laws_toIntS.l0]; rw [if_neg (by omega)]) ?_
    have : z = x := by rw [← List.take_of_length_le (l := z) (i := i) (by omega), ht, List.take_of_length_le (by omega)]
    rw [this]
    exact Ev.now _
  | succ d ih =>
    intro i z hi hz ht
    have hlt : i < x.length := by omega
    have hg : (x)[i]'(by omega) = x[i] := by simp
    have hst := set_take (l := x) (z := z) (i := i) (by omega) (by omega) ht
    rw [hg] at hst
    refine Ev.step (f := fun k => laws_toIntS.l0 k x (z.set i (x[i])) ((i + 1 : Nat) : Int)) (fun k => ?_) (ih (i + 1) _ (by omega) (by simpa using hz) hst)
    simp only [laws_toIntS.l0]
    rw [if_pos (by omega), if_pos (by omega), if_pos (by omega), rd_lt hlt, w64 (by omega) (by omega)]
    rfl
theorem laws_toIntS_ev (x : List Int) (h : x.length ≤ 1048576) : Ev (fun k => laws_toIntS.f k x) (x) := by
  have hx : x.length ≤ 1048576 := by exact h
  unfold laws_toIntS.f
  refine Ev.pos (by omega) (Ev.pos (by omega) ?_)
  exact laws_toIntS_l x h x.length 0 _ (by omega) (by simp) (by simp)
abbrev cvS59_S50 (x : S59) : S50 := ⟨x.f0⟩
def szvS50 (x : S50) : Nat := x.f0.length
theorem szcvS59_S50 (x : S59) : szvS50 (cvS59_S50 x) = szvS59 x := by simp [Function.comp_def, List.map_map, cvS59_S50, szvS50, szvS59]
theorem laws_toRow_ev (x : S59) (h : szvS59 x ≤ 1048576) : Ev (fun k => laws_toRow.f k x.f0) (x.f0) := by
  unfold laws_toRow.f
  have hs : szvS59 x = x.f0.length := rfl
  refine Ev.bind (laws_toIntS_ev x.f0 (by omega)) ?_
  exact Ev.now _
abbrev cvS61_S52 (x : S61) : S52 := ⟨cvS59_S50 x.f0, x.f1⟩
def szvS52 (x : S52) : Nat := szvS50 x.f0
theorem szcvS61_S52 (x : S61) : szvS52 (cvS61_S52 x) = szvS61 x := by simp [Function.comp_def, List.map_map, cvS61_S52, szcvS59_S50, szvS52, szvS61]
theorem laws_toWeighted_ev (x : S61) (h : szvS61 x ≤ 1048576) : Ev (fun k => laws_toWeighted.f k x.f0.f0 x.f1) (x.f0.f0, x.f1) := by
  unfold laws_toWeighted.f
  have hs : szvS61 x = szvS59 x.f0 := rfl
  refine Ev.bind (laws_toRow_ev x.f0 (by omega)) ?_
  exact Ev.now _
def szvLS52 (x : List (S52)) : Nat := x.length + (x.map fun y => szvS52 y).sum
theorem szcvLS61_LS52 (x : List (S61)) : szvLS52 (x.map cvS61_S52) = szvLS61 x := by simp [Function.comp_def, List.map_map, szcvS61_S52, szvLS52, szvLS61]
theorem laws_toWeightedS_l (x : List (S61)) (h : szvLS61 x ≤ 1048576) (d : Nat) : ∀ (i : Nat) (z : List (S52)), i + d = x.length → z.length = x.length → z.take i = (x.map cvS61_S52).take i →
    Ev (fun k => laws_toWeightedS.l0 k x z (i : Int)) (x.map cvS61_S52) := by
  have hx : x.length ≤ 1048576 := by unfold szvLS61 at h; omega
  have hL : (x.map cvS61_S52).length = x.length := by simp
  induction d with
  | zero =>
    intro i z hi hz ht
    refine Ev.step (f := fun _ => some z) (fun k => by simp only [laws_toWeightedS.l0]; rw [if_neg (by omega)]) ?_
    have : z = x.map cvS61_S52 := by rw [← List.take_of_length_le (l := z) (i := i) (by omega), ht, List.take_of_length_le (by omega)]
    rw [this]
    exact Ev.now _
  | succ d ih =>
    intro i z hi hz ht
    have hlt : i < x.length := by omega
    have hg : (x.map cvS61_S52)[i]'(by omega) = cvS61_S52 (x[i]) := by simp
    have hst := set_take (l := x.map cvS61_S52) (z := z) (i := i) (by omega) (by omega) ht
    rw [hg] at hst
    refine Ev.step (f := fun k => (laws_toWeighted.f k (x[i].f0.f0) (x[i].f1)).bind fun t => laws_toWeightedS.l0 k x (z.set i (⟨(⟨t.1⟩ : S50), t.2⟩ : S52)) ((i + 1 : Nat) : Int)) (fun k => ?_) ?_
    · simp only [laws_toWeightedS.l0]
      rw [if_pos (by omega), if_pos (by omega), rd_T61_lt hlt]
      have e1 : wrap64 ((i : Int) + 1) = ((i + 1 : Nat) : Int) := by rw [w64 (by omega) (by omega)]; rfl
      rw [e1]
      simp only [show (i : Int) < (z.length : Int) from by omega, if_true, Int.toNat_natCast]
    refine Ev.bind (laws_toWeighted_ev x[i] (by have := sum_mem (fun y => szvS61 y) x _ (List.getElem_mem hlt); unfold szvLS61 at h; omega)) ?_
    exact ih (i + 1) _ (by omega) (by simpa using hz) hst
theorem laws_toWeightedS_ev (x : List (S61)) (h : szvLS61 x ≤ 1048576) : Ev (fun k => laws_toWeightedS.f k x) (x.map cvS61_S52) := by
  have hx : x.length ≤ 1048576 := by unfold szvLS61 at h; omega
  unfold laws_toWeightedS.f
  refine Ev.pos (by omega) (Ev.pos (by omega) ?_)
  exact laws_toWeightedS_l x h x.length 0 _ (by omega) (by simp) (by simp)
abbrev cvS24_S34 (x : S24) : S34 := ⟨x.f0, x.f1.map cvS61_S52⟩
def szvS34 (x : S34) : Nat := szvLS52 x.f1
theorem szcvS24_S34 (x : S24) : szvS34 (cvS24_S34 x) = szvS24 x := by simp [Function.comp_def, List.map_map, cvS24_S34, szcvLS61_LS52, szvS24, szvS34]
theorem laws_toTable_ev (x : S24) (h : szvS24 x ≤ 1048576) : Ev (fun k => laws_toTable.f k x.f0 x.f1) (x.f0, x.f1.map cvS61_S52) := by
  unfold laws_toTable.f
  have hs : szvS24 x = szvLS61 x.f1 := rfl
  refine Ev.bind (laws_toWeightedS_ev x.f1 (by omega)) ?_
  exact Ev.now _
abbrev cvS27_S36 (x : S27) : S36 := ⟨x.f0, x.f1⟩
def szvS36 (x : S36) : Nat := x.f0.length + x.f1.length
theorem szcvS27_S36 (x : S27) : szvS36 (cvS27_S36 x) = szvS27 x := by simp [Function.comp_def, List.map_map, cvS27_S36, szvS27, szvS36]
theorem laws_toDepend_ev (x : S27) (h : szvS27 x ≤ 1048576) : Ev (fun k => laws_toDepend.f k x.f0 x.f1) (x.f0, x.f1) := by
  unfold laws_toDepend.f
  have hs : szvS27 x = x.f0.length + x.f1.length := rfl
  refine Ev.bind (laws_toIntS_ev x.f0 (by omega)) ?_
  refine Ev.bind (laws_toIntS_ev x.f1 (by omega)) ?_
  exact Ev.now _
theorem laws_eqIntS_l (x : List Int) (h : x.length ≤ 1099511627776) (d : Nat) : ∀ (i : Nat), i + d = x.length → Ev (fun k => laws_eqIntS.l0 k x x (i : Int)) true := by
  have hx : x.length ≤ 1099511627776 := by exact h
  induction d with
  | zero =>
    intro i hi
    exact Ev.step (f := fun _ => some true) (fun k => by simp only [laws_eqIntS.l0]; rw [if_neg (by omega)]) (Ev.now _)
  | succ d ih =>
    intro i hi
    have hlt : i < x.length := by omega
    refine Ev.step (f := fun k => laws_eqIntS.l0 k x x ((i + 1 : Nat) : Int)) (fun k => ?_) (ih (i + 1) (by omega))
    simp only [laws_eqIntS.l0]
    rw [if_pos (by omega), if_pos (by omega), if_pos (by omega)]
    first | rw [if_pos trivial] | rw [if_pos rfl]
    rw [w64 (by omega) (by omega)]
    rfl
theorem laws_eqIntS_ev (x : List Int) (h : x.length ≤ 1099511627776) : Ev (fun k => laws_eqIntS.f k x x) true := by
  unfold laws_eqIntS.f
  exact Ev.pos rfl (laws_eqIntS_l x h x.length 0 (by omega))
theorem laws_eqRow_ev (x : S50) (h : szvS50 x ≤ 1099511627776) : Ev (fun k => laws_eqRow.f k x.f0 x.f0) true := by
  unfold laws_eqRow.f
  have hs : szvS50 x = x.f0.length := rfl
  repeat (first | (with_reducible exact Ev.now true) | (with_reducible refine Ev.pos rfl ?_) | (with_reducible refine Ev.neg (by simp; done) ?_) | (with_reducible refine Ev.bind (laws_eqIntS_ev _ (by omega)) ?_))
theorem laws_eqRow_lv (y0 : List Int) (h : y0.length ≤ 1099511627776) : Ev (fun k => laws_eqRow.f k y0 y0) true := laws_eqRow_ev (⟨y0⟩ : S50) h
theorem laws_eqWeighted_ev (x : S52) (h : szvS52 x ≤ 1099511627776) : Ev (fun k => laws_eqWeighted.f k x.f0.f0 x.f1 x.f0.f0 x.f1) true := by
  unfold laws_eqWeighted.f
  have hs : szvS52 x = szvS50 x.f0 := rfl
  repeat (first | (with_reducible exact Ev.now true) | (with_reducible refine Ev.pos rfl ?_) | (with_reducible refine Ev.neg (by simp; done) ?_) | (with_reducible refine Ev.bind (laws_eqRow_ev (_) (by omega)) ?_))
theorem laws_eqWeighted_lv (y0 : List Int) (y1 : Int) (h : y0.length ≤ 1099511627776) : Ev (fun k => laws_eqWeighted.f k y0 y1 y0 y1) true := laws_eqWeighted_ev (⟨(⟨y0⟩ : S50), y1⟩ : S52) h
theorem rd_T52_lt {l : List S52} {i : Nat} (h : i < l.length) : rd_T52 l (i : Int) = l[i] := by simp [rd_T52, h]
theorem laws_eqWeightedS_l (x : List (S52)) (h : szvLS52 x ≤ 1099511627776) (d : Nat) : ∀ (i : Nat), i + d = x.length → Ev (fun k => laws_eqWeightedS.l0 k x x (i : Int)) true := by
  have hx : x.length ≤ 1099511627776 := by unfold szvLS52 at h; omega
  induction d with
  | zero =>
    intro i hi
    exact Ev.step (f := fun _ => some true) (fun k => by simp only [laws_eqWeightedS.l0]; rw [if_neg (by omega)]) (Ev.now _)
  | succ d ih =>
    intro i hi
    have hlt : i < x.length := by omega
    refine Ev.step (f := fun k => (laws_eqWeighted.f k (x[i].f0.f0) (x[i].f1) (x[i].f0.f0) (x[i].f1)).bind fun t => if t = true then laws_eqWeightedS.l0 k x x ((i + 1 : Nat) : Int) else some false) (fun k => ?_) ?_
    · simp only [laws_eqWeightedS.l0]
      rw [if_pos (by omega), if_pos (by omega), if_pos (by omega), rd_T52_lt hlt, w64 (by omega) (by omega)]
      rfl
    refine Ev.bind (laws_eqWeighted_ev x[i] (by have := sum_mem (fun y => szvS52 y) x _ (List.getElem_mem hlt); unfold szvLS52 at h; omega)) ?_
    exact Ev.pos rfl (ih (i + 1) (by omega))
theorem laws_eqWeightedS_ev (x : List (S52)) (h : szvLS52 x ≤ 1099511627776) : Ev (fun k => laws_eqWeightedS.f k x x) true := by
  unfold laws_eqWeightedS.f
  exact Ev.pos rfl (laws_eqWeightedS_l x h x.length 0 (by omega))
theorem laws_eqTable_ev (x : S34) (h : szvS34 x ≤ 1099511627776) : Ev (fun k => laws_eqTable.f k x.f0 x.f1 x.f0 x.f1) true := by
  unfold laws_eqTable.f
  have hs : szvS34 x = szvLS52 x.f1 := rfl
  repeat (first | (with_reducible exact Ev.now true) | (with_reducible refine Ev.pos rfl ?_) | (with_reducible refine Ev.neg (by simp; done) ?_) | (with_reducible refine Ev.bind (laws_eqWeightedS_ev _ (by omega)) ?_))
theorem laws_eqTable_lv (y0 : Int) (y1 : List (S52)) (h : szvLS52 y1 ≤ 1099511627776) : Ev (fun k => laws_eqTable.f k y0 y1 y0 y1) true := laws_eqTable_ev (⟨y0, y1⟩ : S34) h
theorem laws_eqDepend_ev (x : S36) (h : szvS36 x ≤ 1099511627776) : Ev (fun k => laws_eqDepend.f k x.f0 x.f1 x.f0 x.f1) true := by
  unfold laws_eqDepend.f
  have hs : szvS36 x = x.f0.length + x.f1.length := rfl
  repeat (first | (with_reducible exact Ev.now true) | (with_reducible refine Ev.pos rfl ?_) | (with_reducible refine Ev.neg (by simp; done) ?_) | (with_reducible refine Ev.bind (laws_eqIntS_ev _ (by omega)) ?_))
theorem laws_eqDepend_lv (y0 : List Int) (y1 : List Int) (h : y0.length + y1.length ≤ 1099511627776) : Ev (fun k => laws_eqDepend.f k y0 y1 y0 y1) true := laws_eqDepend_ev (⟨y0, y1⟩ : S36) h
/-- What is left to show: the program's function and the reference answer alike. -/
def Core : Prop := ∀ x0 : S34, szvS34 x0 ≤ 1048576 → ∀ x1 : S36, szvS36 x1 ≤ 1048576 → ∃ v : Bool × Bool, Ev (fun k => spec_HoldsIn.f k x0.f0 x0.f1 x1.f0 x1.f1) v ∧ Ev (fun k => impl_HoldsIn.f k x0.f0 x0.f1 x1.f0 x1.f1) v
theorem law (core : Core) : laws_FnExactHoldsIn.Pure := by
  intro x0 hwx0 x1 hwx1
  apply Ev.rounds
  unfold laws_FnExactHoldsIn.f
  refine Ev.bind (laws_szTable_ev x0 (1048576) hwx0 (by omega) (by omega)) ?_
  by_cases g0 : ((szvS24 x0 : Nat) : Int) ≤ 1048576
  case neg =>
    rw [if_neg g0]
    exact Ev.pos (by omega) (Ev.now true)
  rw [if_pos g0]
  refine Ev.neg (by omega) ?_
  refine Ev.bind (laws_szDepend_ev x1 (1048576 - ((szvS24 x0 : Nat) : Int)) hwx1 (by omega) (by omega)) ?_
  by_cases g1 : ((szvS27 x1 : Nat) : Int) ≤ 1048576 - ((szvS24 x0 : Nat) : Int)
  case neg =>
    rw [if_neg g1]
    exact Ev.pos (by omega) (Ev.now true)
  rw [if_pos g1]
  refine Ev.neg (by omega) ?_
  have zx0 : szvS34 (cvS24_S34 x0) ≤ 1048576 := by rw [szcvS24_S34]; omega
  have zx1 : szvS36 (cvS27_S36 x1) ≤ 1048576 := by rw [szcvS27_S36]; omega
  have yx0 : szvS24 x0 ≤ 1048576 := by omega
  have yx1 : szvS27 x1 ≤ 1048576 := by omega
  obtain ⟨v, hs, hi⟩ := core (cvS24_S34 x0) zx0 (cvS27_S36 x1) zx1
  repeat (first | (with_reducible exact Ev.now true) | (with_reducible refine Ev.bind hs ?_) | (with_reducible refine Ev.bind hi ?_) | (with_reducible refine Ev.bind (laws_toIntS_ev _ (by first | assumption | omega)) ?_) | (with_reducible refine Ev.bind (laws_toRow_ev _ (by first | assumption | omega)) ?_) | (with_reducible refine Ev.bind (laws_toWeighted_ev _ (by first | assumption | omega)) ?_) | (with_reducible refine Ev.bind (laws_toWeightedS_ev _ (by first | assumption | omega)) ?_) | (with_reducible refine Ev.bind (laws_toTable_ev _ (by first | assumption | omega)) ?_) | (with_reducible refine Ev.bind (laws_toDepend_ev _ (by first | assumption | omega)) ?_) | (with_reducible refine Ev.bind (laws_eqIntS_ev _ (by first | assumption | omega | (dsimp only; omega) | (simp only [szvS24, szvS27, szvS34, szvS36] at *; omega))) ?_) | (with_reducible refine Ev.bind (laws_eqRow_lv _ (by first | assumption | omega | (dsimp only; omega) | (simp only [szvS24, szvS27, szvS34, szvS36] at *; omega))) ?_) | (with_reducible refine Ev.bind (laws_eqWeighted_lv _ _ (by first | assumption | omega | (dsimp only; omega) | (simp only [szvS24, szvS27, szvS34, szvS36] at *; omega))) ?_) | (with_reducible refine Ev.bind (laws_eqWeightedS_ev _ (by first | assumption | omega | (dsimp only; omega) | (simp only [szvS24, szvS27, szvS34, szvS36] at *; omega))) ?_) | (with_reducible refine Ev.bind (laws_eqTable_lv _ _ (by first | assumption | omega | (dsimp only; omega) | (simp only [szvS24, szvS27, szvS34, szvS36] at *; omega))) ?_) | (with_reducible refine Ev.bind (laws_eqDepend_lv _ _ (by first | assumption | omega | (dsimp only; omega) | (simp only [szvS24, szvS27, szvS34, szvS36] at *; omega))) ?_) | (with_reducible refine Ev.pos rfl ?_) | (with_reducible refine Ev.neg (by first | omega | simp) ?_))
end Go.Proofs.Ytmelechhnimlnac.HFnExactHoldsIn
