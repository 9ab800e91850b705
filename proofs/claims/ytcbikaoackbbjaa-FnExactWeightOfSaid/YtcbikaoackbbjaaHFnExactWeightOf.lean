/- What the helpers of the law FnExactWeightOf compute, in plain words: printed by a program of this claim's own. No conditions. -/
import Derived.Test.YtcbikaoackbbjaaG1
import Derived.Test.YtcbikaoackbbjaaG7
import Derived.Test.YtcbikaoackbbjaaG17
import Derived.Test.YtcbikaoackbbjaaG25
import Derived.Test.YtcbikaoackbbjaaG45
import Derived.Test.YtcbikaoackbbjaaG46
import Derived.Test.YtcbikaoackbbjaaG47
import Derived.Test.YtcbikaoackbbjaaQBase
namespace Go.Proofs.Ytcbikaoackbbjaa.HFnExactWeightOf
open Go.RowKit Go.Proofs.Ytcbikaoackbbjaa.G Go.Proofs.Ytcbikaoackbbjaa.X Go.Proofs.Ytcbikaoackbbjaa.Pure Go.Proofs.YtcbikaoackbbjaaW.PrintWords Go.Proofs.YtcbikaoackbbjaaW.PrintLast
set_option linter.unusedVariables false
set_option linter.unusedSimpArgs false

theorem laws_szIntS_ev (x : List Int) (a : Int) (hw : (x.length ≤ 9223372036854775807 ∧ ∀ x0_ ∈ x, (-9223372036854775808 ≤ x0_ ∧ x0_ ≤ 9223372036854775807))) (h0 : 0 ≤ a) (h1 : a ≤ 1048576) : Ev (fun k => laws_szIntS.f x a) (if ((x.length : Nat) : Int) ≤ a then a - ((x.length : Nat) : Int) else -1) := by
  have hx := hw.1
  refine Ev.const ?_
  unfold laws_szIntS.f
  rw [w64 (by omega) (by omega)]
  by_cases h : (x.length : Int) ≤ a
  · rw [if_neg (by omega), if_pos h]
  · rw [if_pos (by omega), if_neg h]
def szvS24 (x : S24) : Nat := x.f0.length
theorem laws_szRow_ev (x : S24) (a : Int) (hw : wf24 x) (h0 : 0 ≤ a) (h1 : a ≤ 1048576) : Ev (fun k => laws_szRow.f x.f0 a) (if ((szvS24 x : Nat) : Int) ≤ a then a - ((szvS24 x : Nat) : Int) else -1) := by
  unfold wf24 at hw
  have w0 := hw
  unfold laws_szRow.f
  have hs : szvS24 x = x.f0.length := rfl
  refine Ev.bind (laws_szIntS_ev x.f0 (a) w0 (by omega) (by omega)) ?_
  by_cases c0 : ((x.f0.length : Nat) : Int) ≤ a
  case neg =>
    rw [if_neg c0]
    exact Ev.pos (by omega) (Ev.eq (Ev.now _) (by rw [if_neg (by omega)]))
  rw [if_pos c0]
  refine Ev.neg (by omega) ?_
  exact Ev.eq (Ev.now _) (by rw [if_pos (by omega)]; omega)
theorem laws_toIntS_l (x : List Int) (h : x.length ≤ 1048576) (d : Nat) : ∀ (i : Nat) (z : List Int), i + d = x.length → z.length = x.length → z.take i = (x).take i →
    Ev (fun k => laws_toIntS.l0 k x z (i : Int)) (x) := by
  have hx : x.length ≤ 1048576 := by exact h
  have hL : (x).length = x.length := by simp
  induction d with
  | zero =>
    intro i z hi hz ht
    refine Ev.step (f := fun _ => some z) (fun k => by simp only [laws_toIntS.l0]; rw [if_neg (by omega)]) ?_
    have : z = x := by rw [← List.take_of_length_le (l := z) (i := i) (by omega), ht, List.take_of_length_le (by omega)]
    rw [this]
    exact Ev.now _
  | succ d ih =>
    intro i z hi hz ht
    have hlt : i < x.length := by omega
    have hg : (x)[i]'(by omega) = x[i] := by simp
    have hst := set_take (l := x) (z := z) (i := i) (by omega) (by omega) ht
    rw [hg] at hst
    refine Ev.step (f := fun k => laws_toIntS.l0 k x (z.set i (x[i])) ((i + 1 : Nat) : Int)) (fun k => ?_) (ih (i + 1) _ (by omega) (by simpa using hz) hst)
    simp only [laws_toIntS.l0]
    rw [if_pos (by omega), if_pos (by omega), if_pos (by omega), rd_lt hlt, w64 (by omega) (by omega)]
    rfl
theorem laws_toIntS_ev (x : List Int) (h : x.length ≤ 1048576) : Ev (fun k => laws_toIntS.f k x) (x) := by
  have hx : x.length ≤ 1048576 := by exact h
  unfold laws_toIntS.f
  refine Ev.pos (by omega) (Ev.pos (by omega) ?_)
  exact laws_toIntS_l x h x.length 0 _ (by omega) (by simp) (by simp)
abbrev cvS24_S26 (x : S24) : S26 := ⟨x.f0⟩
def szvS26 (x : S26) : Nat := x.f0.length
theorem szcvS24_S26 (x : S24) : szvS26 (cvS24_S26 x) = szvS24 x := by simp [Function.comp_def, List.map_map, cvS24_S26, szvS24, szvS26]
theorem laws_toRow_ev (x : S24) (h : szvS24 x ≤ 1048576) : Ev (fun k => laws_toRow.f k x.f0) (x.f0) := by
  unfold laws_toRow.f
  have hs : szvS24 x = x.f0.length := rfl
  refine Ev.bind (laws_toIntS_ev x.f0 (by omega)) ?_
  exact Ev.now _
theorem laws_eqIntS_l (x : List Int) (h : x.length ≤ 1099511627776) (d : Nat) : ∀ (i : Nat), i + d = x.length → Ev (fun k => laws_eqIntS.l0 k x x (i : Int)) true := by
  have hx : x.length ≤ 1099511627776 := by exact h
  induction d with
  | zero =>
    intro i hi
    exact Ev.step (f := fun _ => some true) (fun k => by simp only [laws_eqIntS.l0]; rw [if_neg (by omega)]) (Ev.now _)
  | succ d ih =>
    intro i hi
    have hlt : i < x.length := by omega
    refine Ev.step (f := fun k => laws_eqIntS.l0 k x x ((i + 1 : Nat) : Int)) (fun k => ?_) (ih (i + 1) (by omega))
    simp only [laws_eqIntS.l0]
    rw [if_pos (by omega), if_pos (by omega), if_pos (by omega)]
    first | rw [if_pos trivial] | rw [if_pos rfl]
    rw [w64 (by omega) (by omega)]
    rfl
theorem laws_eqIntS_ev (x : List Int) (h : x.length ≤ 1099511627776) : Ev (fun k => laws_eqIntS.f k x x) true := by
  unfold laws_eqIntS.f
  exact Ev.pos rfl (laws_eqIntS_l x h x.length 0 (by omega))
theorem laws_eqRow_ev (x : S26) (h : szvS26 x ≤ 1099511627776) : Ev (fun k => laws_eqRow.f k x.f0 x.f0) true := by
  unfold laws_eqRow.f
  have hs : szvS26 x = x.f0.length := rfl
  repeat (first | (with_reducible exact Ev.now true) | (with_reducible refine Ev.pos rfl ?_) | (with_reducible refine Ev.neg (by simp; done) ?_) | (with_reducible refine Ev.bind (laws_eqIntS_ev _ (by omega)) ?_))
theorem laws_eqRow_lv (y0 : List Int) (h : y0.length ≤ 1099511627776) : Ev (fun k => laws_eqRow.f k y0 y0) true := laws_eqRow_ev (⟨y0⟩ : S26) h
def szvS126 (x : S126) : Nat := szvS26 x.f0
theorem laws_eqWeighted_ev (x : S126) (h : szvS126 x ≤ 1099511627776) : Ev (fun k => laws_eqWeighted.f k x.f0.f0 x.f1 x.f0.f0 x.f1) true := by
  unfold laws_eqWeighted.f
  have hs : szvS126 x = szvS26 x.f0 := rfl
  repeat (first | (with_reducible exact Ev.now true) | (with_reducible refine Ev.pos rfl ?_) | (with_reducible refine Ev.neg (by simp; done) ?_) | (with_reducible refine Ev.bind (laws_eqRow_ev (_) (by omega)) ?_))
theorem laws_eqWeighted_lv (y0 : List Int) (y1 : Int) (h : y0.length ≤ 1099511627776) : Ev (fun k => laws_eqWeighted.f k y0 y1 y0 y1) true := laws_eqWeighted_ev (⟨(⟨y0⟩ : S26), y1⟩ : S126) h
def szvLS126 (x : List (S126)) : Nat := x.length + (x.map fun y => szvS126 y).sum
theorem rd_T126_lt {l : List S126} {i : Nat} (h : i < l.length) : rd_T126 l (i : Int) = l[i] := by simp [rd_T126, h]
theorem laws_eqWeightedS_l (x : List (S126)) (h : szvLS126 x ≤ 1099511627776) (d : Nat) : ∀ (i : Nat), i + d = x.length → Ev (fun k => laws_eqWeightedS.l0 k x x (i : Int)) true := by
  have hx : x.length ≤ 1099511627776 := by unfold szvLS126 at h; omega
  induction d with
  | zero =>
    intro i hi
    exact Ev.step (f := fun _ => some true) (fun k => by simp only [laws_eqWeightedS.l0]; rw [if_neg (by omega)]) (Ev.now _)
  | succ d ih =>
    intro i hi
    have hlt : i < x.length := by omega
    refine Ev.step (f := fun k => (laws_eqWeighted.f k (x[i].f0.f0) (x[i].f1) (x[i].f0.f0) (x[i].f1)).bind fun t => if t = true then laws_eqWeightedS.l0 k x x ((i + 1 : Nat) : Int) else some false) (fun k => ?_) ?_
    · simp only [laws_eqWeightedS.l0]
      rw [if_pos (by omega), if_pos (by omega), if_pos (by omega), rd_T126_lt hlt, w64 (by omega) (by omega)]
      rfl
    refine Ev.bind (laws_eqWeighted_ev x[i] (by have := sum_mem (fun y => szvS126 y) x _ (List.getElem_mem hlt); unfold szvLS126 at h; omega)) ?_
    exact Ev.pos rfl (ih (i + 1) (by omega))
theorem laws_eqWeightedS_ev (x : List (S126)) (h : szvLS126 x ≤ 1099511627776) : Ev (fun k => laws_eqWeightedS.f k x x) true := by
  unfold laws_eqWeightedS.f
  exact Ev.pos rfl (laws_eqWeightedS_l x h x.length 0 (by omega))
def szvS41 (x : S41) : Nat := szvLS126 x.f1
theorem laws_eqTable_ev (x : S41) (h : szvS41 x ≤ 1099511627776) : Ev (fun k => laws_eqTable.f k x.f0 x.f1 x.f0 x.f1) true := by
  unfold laws_eqTable.f
  have hs : szvS41 x = szvLS126 x.f1 := rfl
  repeat (first | (with_reducible exact Ev.now true) | (with_reducible refine Ev.pos rfl ?_) | (with_reducible refine Ev.neg (by simp; done) ?_) | (with_reducible refine Ev.bind (laws_eqWeightedS_ev _ (by omega)) ?_))
theorem laws_eqTable_lv (y0 : Int) (y1 : List (S126)) (h : szvLS126 y1 ≤ 1099511627776) : Ev (fun k => laws_eqTable.f k y0 y1 y0 y1) true := laws_eqTable_ev (⟨y0, y1⟩ : S41) h
def szvS160 (x : S160) : Nat := szvS24 x.f0
theorem laws_szWeighted_ev (x : S160) (a : Int) (hw : wf160 x) (h0 : 0 ≤ a) (h1 : a ≤ 1048576) : Ev (fun k => laws_szWeighted.f x.f0.f0 x.f1 a) (if ((szvS160 x : Nat) : Int) ≤ a then a - ((szvS160 x : Nat) : Int) else -1) := by
  unfold wf160 at hw
  obtain ⟨w0, w1⟩ := hw
  unfold laws_szWeighted.f
  have hs : szvS160 x = szvS24 x.f0 := rfl
  refine Ev.bind (laws_szRow_ev x.f0 (a) w0 (by omega) (by omega)) ?_
  by_cases c0 : ((szvS24 x.f0 : Nat) : Int) ≤ a
  case neg =>
    rw [if_neg c0]
    exact Ev.pos (by omega) (Ev.eq (Ev.now _) (by rw [if_neg (by omega)]))
  rw [if_pos c0]
  refine Ev.neg (by omega) ?_
  exact Ev.eq (Ev.now _) (by rw [if_pos (by omega)]; omega)
def szvLS160 (x : List (S160)) : Nat := x.length + (x.map fun y => szvS160 y).sum
theorem rd_T160_lt {l : List S160} {i : Nat} (h : i < l.length) : rd_T160 l (i : Int) = l[i] := by simp [rd_T160, h]
theorem laws_szWeightedS_l (x : List (S160)) (hw : (x.length ≤ 9223372036854775807 ∧ ∀ x0_ ∈ x, wf160 x0_)) (d : Nat) : ∀ (i : Nat) (a : Int), i + d = x.length → 0 ≤ a → a ≤ 1048576 →
    Ev (fun k => laws_szWeightedS.l0 k x a (i : Int)) (if ((((x.drop i).map fun y => szvS160 y).sum : Nat) : Int) ≤ a then a - ((((x.drop i).map fun y => szvS160 y).sum : Nat) : Int) else -1) := by
  have hx := hw.1
  induction d with
  | zero =>
    intro i a hi h0 h1
    refine Ev.step (f := fun _ => some a) (fun k => by simp only [laws_szWeightedS.l0]; rw [if_neg (by omega)]) (Ev.eq (Ev.now _) ?_)
    rw [List.drop_of_length_le (by omega)]
    simp; omega
  | succ d ih =>
    intro i a hi h0 h1
    have hlt : i < x.length := by omega
    have hs : ((x.drop i).map fun y => szvS160 y).sum = szvS160 (x[i]) + ((x.drop (i + 1)).map fun y => szvS160 y).sum := by rw [drop_cons hlt, List.map_cons, List.sum_cons]
    refine Ev.step (f := fun k => (laws_szWeighted.f (x[i].f0.f0) (x[i].f1) a).bind fun t => if t < 0 then some (-1) else laws_szWeightedS.l0 k x t ((i + 1 : Nat) : Int)) (fun k => ?_) ?_
    · simp only [laws_szWeightedS.l0]
      rw [if_pos (by omega), if_pos (by omega), rd_T160_lt hlt, w64 (by omega) (by omega)]
      rfl
    refine Ev.bind (laws_szWeighted_ev x[i] a (hw.2 _ (List.getElem_mem hlt)) h0 h1) ?_
    by_cases c : ((szvS160 (x[i]) : Nat) : Int) ≤ a
    · rw [if_pos c]
      refine Ev.neg (by omega) (Ev.eq (ih (i + 1) (a - ((szvS160 (x[i]) : Nat) : Int)) (by omega) (by omega) (by omega)) ?_)
      rw [hs]
      by_cases c2 : ((szvS160 (x[i]) + ((x.drop (i + 1)).map fun y => szvS160 y).sum : Nat) : Int) ≤ a
      · rw [if_pos c2, if_pos (by omega)]; omega
      · rw [if_neg c2, if_neg (by omega)]
    · rw [if_neg c]
      refine Ev.pos (by omega) (Ev.eq (Ev.now _) ?_)
      rw [hs, if_neg (by omega)]
theorem laws_szWeightedS_ev (x : List (S160)) (a : Int) (hw : (x.length ≤ 9223372036854775807 ∧ ∀ x0_ ∈ x, wf160 x0_)) (h0 : 0 ≤ a) (h1 : a ≤ 1048576) : Ev (fun k => laws_szWeightedS.f k x a) (if ((szvLS160 x : Nat) : Int) ≤ a then a - ((szvLS160 x : Nat) : Int) else -1) := by
  have hx := hw.1
  unfold laws_szWeightedS.f
  rw [w64 (by omega) (by omega)]
  by_cases c : (x.length : Int) ≤ a
  · refine Ev.neg (by omega) (Ev.eq (laws_szWeightedS_l x hw x.length 0 (a - x.length) (by omega) (by omega) (by omega)) ?_)
    simp only [List.drop_zero]
    have hs : szvLS160 x = x.length + (x.map fun y => szvS160 y).sum := rfl
    by_cases c2 : ((szvLS160 x : Nat) : Int) ≤ a
    · rw [if_pos c2, if_pos (by omega)]; omega
    · rw [if_neg c2, if_neg (by omega)]
  · refine Ev.pos (by omega) (Ev.eq (Ev.now _) ?_)
    have hs : szvLS160 x = x.length + (x.map fun y => szvS160 y).sum := rfl
    rw [if_neg (by omega)]
def szvS56 (x : S56) : Nat := szvLS160 x.f1
theorem laws_szTable_ev (x : S56) (a : Int) (hw : wf56 x) (h0 : 0 ≤ a) (h1 : a ≤ 1048576) : Ev (fun k => laws_szTable.f k x.f0 x.f1 a) (if ((szvS56 x : Nat) : Int) ≤ a then a - ((szvS56 x : Nat) : Int) else -1) := by
  unfold wf56 at hw
  obtain ⟨w0, w1⟩ := hw
  unfold laws_szTable.f
  have hs : szvS56 x = szvLS160 x.f1 := rfl
  refine Ev.bind (laws_szWeightedS_ev x.f1 (a) w1 (by omega) (by omega)) ?_
  by_cases c1 : ((szvLS160 x.f1 : Nat) : Int) ≤ a
  case neg =>
    rw [if_neg c1]
    exact Ev.pos (by omega) (Ev.eq (Ev.now _) (by rw [if_neg (by omega)]))
  rw [if_pos c1]
  refine Ev.neg (by omega) ?_
  exact Ev.eq (Ev.now _) (by rw [if_pos (by omega)]; omega)
abbrev cvS160_S126 (x : S160) : S126 := ⟨cvS24_S26 x.f0, x.f1⟩
theorem szcvS160_S126 (x : S160) : szvS126 (cvS160_S126 x) = szvS160 x := by simp [Function.comp_def, List.map_map, cvS160_S126, szcvS24_S26, szvS126, szvS160]
theorem laws_toWeighted_ev (x : S160) (h : szvS160 x ≤ 1048576) : Ev (fun k => laws_toWeighted.f k x.f0.f0 x.f1) (x.f0.f0, x.f1) := by
  unfold laws_toWeighted.f
  have hs : szvS160 x = szvS24 x.f0 := rfl
  refine Ev.bind (laws_toRow_ev x.f0 (by omega)) ?_
  exact Ev.now _
theorem szcvLS160_LS126 (x : List (S160)) : szvLS126 (x.map cvS160_S126) = szvLS160 x := by simp [Function.comp_def, List.map_map, szcvS160_S126, szvLS126, szvLS160]
theorem laws_toWeightedS_l (x : List (S160)) (h : szvLS160 x ≤ 1048576) (d : Nat) : ∀ (i : Nat) (z : List (S126)), i + d = x.length → z.length = x.length → z.take i = (x.map cvS160_S126).take i →
    Ev (fun k => laws_toWeightedS.l0 k x z (i : Int)) (x.map cvS160_S126) := by
  have hx : x.length ≤ 1048576 := by unfold szvLS160 at h; omega
  have hL : (x.map cvS160_S126).length = x.length := by simp
  induction d with
  | zero =>
    intro i z hi hz ht
    refine Ev.step (f := fun _ => some z) (fun k => by simp only [laws_toWeightedS.l0]; rw [if_neg (by omega)]) ?_
    have : z = x.map cvS160_S126 := by rw [← List.take_of_length_le (l := z) (i := i) (by omega), ht, List.take_of_length_le (by omega)]
    rw [this]
    exact Ev.now _
  | succ d ih =>
    intro i z hi hz ht
    have hlt : i < x.length := by omega
    have hg : (x.map cvS160_S126)[i]'(by omega) = cvS160_S126 (x[i]) := by simp
    have hst := set_take (l := x.map cvS160_S126) (z := z) (i := i) (by omega) (by omega) ht
    rw [hg] at hst
    refine Ev.step (f := fun k => (laws_toWeighted.f k (x[i].f0.f0) (x[i].f1)).bind fun t => laws_toWeightedS.l0 k x (z.set i (⟨(⟨t.1⟩ : S26), t.2⟩ : S126)) ((i + 1 : Nat) : Int)) (fun k => ?_) ?_
    · simp only [laws_toWeightedS.l0]
      rw [if_pos (by omega), if_pos (by omega), rd_T160_lt hlt]
      have e1 : wrap64 ((i : Int) + 1) = ((i + 1 : Nat) : Int) := by rw [w64 (by omega) (by omega)]; rfl
      rw [e1]
      simp only [show (i : Int) < (z.length : Int) from by omega, if_true, Int.toNat_natCast]
    refine Ev.bind (laws_toWeighted_ev x[i] (by have := sum_mem (fun y => szvS160 y) x _ (List.getElem_mem hlt); unfold szvLS160 at h; omega)) ?_
    exact ih (i + 1) _ (by omega) (by simpa using hz) hst
theorem laws_toWeightedS_ev (x : List (S160)) (h : szvLS160 x ≤ 1048576) : Ev (fun k => laws_toWeightedS.f k x) (x.map cvS160_S126) := by
  have hx : x.length ≤ 1048576 := by unfold szvLS160 at h; omega
  unfold laws_toWeightedS.f
  refine Ev.pos (by omega) (Ev.pos (by omega) ?_)
  exact laws_toWeightedS_l x h x.length 0 _ (by omega) (by simp) (by simp)
abbrev cvS56_S41 (x : S56) : S41 := ⟨x.f0, x.f1.map cvS160_S126⟩
theorem szcvS56_S41 (x : S56) : szvS41 (cvS56_S41 x) = szvS56 x := by simp [Function.comp_def, List.map_map, cvS56_S41, szcvLS160_LS126, szvS41, szvS56]
theorem laws_toTable_ev (x : S56) (h : szvS56 x ≤ 1048576) : Ev (fun k => laws_toTable.f k x.f0 x.f1) (x.f0, x.f1.map cvS160_S126) := by
  unfold laws_toTable.f
  have hs : szvS56 x = szvLS160 x.f1 := rfl
  refine Ev.bind (laws_toWeightedS_ev x.f1 (by omega)) ?_
  exact Ev.now _
/-- What is left to show: the program's function and the reference answer alike. -/
def Core : Prop := ∀ x0 : S41, szvS41 x0 ≤ 1048576 → ∀ x1 : S26, szvS26 x1 ≤ 1048576 → ∃ v : Int × Bool, Ev (fun k => spec_WeightOf.f k x0.f0 x0.f1 x1.f0) v ∧ Ev (fun k => impl_WeightOf.f k x0.f0 x0.f1 x1.f0) v
theorem law (core : Core) : laws_FnExactWeightOf.Pure := by
  intro x0 hwx0 x1 hwx1
  apply Ev.rounds
  unfold laws_FnExactWeightOf.f
  refine Ev.bind (laws_szTable_ev x0 (1048576) hwx0 (by omega) (by omega)) ?_
  by_cases g0 : ((szvS56 x0 : Nat) : Int) ≤ 1048576
  case neg =>
    rw [if_neg g0]
    exact Ev.pos (by omega) (Ev.now true)
  rw [if_pos g0]
  refine Ev.neg (by omega) ?_
  refine Ev.bind (laws_szRow_ev x1 (1048576 - ((szvS56 x0 : Nat) : Int)) hwx1 (by omega) (by omega)) ?_
  by_cases g1 : ((szvS24 x1 : Nat) : Int) ≤ 1048576 - ((szvS56 x0 : Nat) : Int)
  case neg =>
    rw [if_neg g1]
    exact Ev.pos (by omega) (Ev.now true)
  rw [if_pos g1]
  refine Ev.neg (by omega) ?_
  have zx0 : szvS41 (cvS56_S41 x0) ≤ 1048576 := by rw [szcvS56_S41]; omega
  have zx1 : szvS26 (cvS24_S26 x1) ≤ 1048576 := by rw [szcvS24_S26]; omega
  have yx0 : szvS56 x0 ≤ 1048576 := by omega
  have yx1 : szvS24 x1 ≤ 1048576 := by omega
  obtain ⟨v, hs, hi⟩ := core (cvS56_S41 x0) zx0 (cvS24_S26 x1) zx1
  repeat (first | (with_reducible exact Ev.now true) | (with_reducible refine Ev.bind hs ?_) | (with_reducible refine Ev.bind hi ?_) | (with_reducible refine Ev.bind (laws_toIntS_ev _ (by first | assumption | omega)) ?_) | (with_reducible refine Ev.bind (laws_toRow_ev _ (by first | assumption | omega)) ?_) | (with_reducible refine Ev.bind (laws_eqIntS_ev _ (by first | assumption | omega | (dsimp only; omega) | (simp only [szvS24, szvS26, szvS41, szvS56] at *; omega))) ?_) | (with_reducible refine Ev.bind (laws_eqRow_lv _ (by first | assumption | omega | (dsimp only; omega) | (simp only [szvS24, szvS26, szvS41, szvS56] at *; omega))) ?_) | (with_reducible refine Ev.bind (laws_eqWeighted_lv _ _ (by first | assumption | omega | (dsimp only; omega) | (simp only [szvS24, szvS26, szvS41, szvS56] at *; omega))) ?_) | (with_reducible refine Ev.bind (laws_eqWeightedS_ev _ (by first | assumption | omega | (dsimp only; omega) | (simp only [szvS24, szvS26, szvS41, szvS56] at *; omega))) ?_) | (with_reducible refine Ev.bind (laws_eqTable_lv _ _ (by first | assumption | omega | (dsimp only; omega) | (simp only [szvS24, szvS26, szvS41, szvS56] at *; omega))) ?_) | (with_reducible refine Ev.bind (laws_toWeighted_ev _ (by first | assumption | omega)) ?_) | (with_reducible refine Ev.bind (laws_toWeightedS_ev _ (by first | assumption | omega)) ?_) | (with_reducible refine Ev.bind (laws_toTable_ev _ (by first | assumption | omega)) ?_) | (with_reducible refine Ev.pos rfl ?_) | (with_reducible refine Ev.neg (by first | omega | simp) ?_))
end Go.Proofs.Ytcbikaoackbbjaa.HFnExactWeightOf
