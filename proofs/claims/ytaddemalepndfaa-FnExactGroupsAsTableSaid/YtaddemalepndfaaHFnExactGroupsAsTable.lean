/- What the helpers of the law FnExactGroupsAsTable compute, in plain words: printed by a program of this claim's own. No conditions. -/
import Derived.Test.YtaddemalepndfaaG1
import Derived.Test.YtaddemalepndfaaG6
import Derived.Test.YtaddemalepndfaaG7
import Derived.Test.YtaddemalepndfaaG10
import Derived.Test.YtaddemalepndfaaG11
import Derived.Test.YtaddemalepndfaaG12
import Derived.Test.YtaddemalepndfaaG13
import Derived.Test.YtaddemalepndfaaG14
import Derived.Test.YtaddemalepndfaaQBase
namespace Go.Proofs.Ytaddemalepndfaa.HFnExactGroupsAsTable
open Go.RowKit Go.Proofs.Ytaddemalepndfaa.G Go.Proofs.Ytaddemalepndfaa.X Go.Proofs.Ytaddemalepndfaa.Pure Go.Proofs.YtaddemalepndfaaW.PrintWords Go.Proofs.YtaddemalepndfaaW.PrintLast
set_option linter.unusedVariables false
set_option linter.unusedSimpArgs false

theorem laws_szIntS_ev (x : List Int) (a : Int) (hw : (x.length ≤ 9223372036854775807 ∧ ∀ x0_ ∈ x, (-9223372036854775808 ≤ x0_ ∧ x0_ ≤ 9223372036854775807))) (h0 : 0 ≤ a) (h1 : a ≤ 1048576) : Ev (fun k => laws_szIntS.f x a) (if ((x.length : Nat) : Int) ≤ a then a - ((x.length : Nat) : Int) else -1) := by
  have hx := hw.1
  refine Ev.const ?_
  unfold laws_szIntS.f
  rw [w64 (by omega) (by omega)]
  by_cases h : (x.length : Int) ≤ a
  · rw [if_neg (by omega), if_pos h]
  · rw [if_pos (by omega), if_neg h]
def szvS39 (x : S39) : Nat := x.f0.length
theorem laws_szRow_ev (x : S39) (a : Int) (hw : wf39 x) (h0 : 0 ≤ a) (h1 : a ≤ 1048576) : Ev (fun k => laws_szRow.f x.f0 a) (if ((szvS39 x : Nat) : Int) ≤ a then a - ((szvS39 x : Nat) : Int) else -1) := by
  unfold wf39 at hw
  have w0 := hw
  unfold laws_szRow.f
  have hs : szvS39 x = x.f0.length := rfl
  refine Ev.bind (laws_szIntS_ev x.f0 (a) w0 (by omega) (by omega)) ?_
  by_cases c0 : ((x.f0.length : Nat) : Int) ≤ a
  case neg =>
    rw [if_neg c0]
    exact Ev.pos (by omega) (Ev.eq (Ev.now _) (by rw [if_neg (by omega)]))
  rw [if_pos c0]
  refine Ev.neg (by omega) ?_
  exact Ev.eq (Ev.now _) (by rw [if_pos (by omega)]; omega)
def szvS41 (x : S41) : Nat := szvS39 x.f0
theorem laws_szGroup_ev (x : S41) (a : Int) (hw : wf41 x) (h0 : 0 ≤ a) (h1 : a ≤ 1048576) : Ev (fun k => laws_szGroup.f x.f0.f0 x.f1 x.f2 a) (if ((szvS41 x : Nat) : Int) ≤ a then a - ((szvS41 x : Nat) : Int) else -1) := by
  unfold wf41 at hw
  obtain ⟨w0, w1, w2⟩ := hw
  unfold laws_szGroup.f
  have hs : szvS41 x = szvS39 x.f0 := rfl
  refine Ev.bind (laws_szRow_ev x.f0 (a) w0 (by omega) (by omega)) ?_
  by_cases c0 : ((szvS39 x.f0 : Nat) : Int) ≤ a
  case neg =>
    rw [if_neg c0]
    exact Ev.pos (by omega) (Ev.eq (Ev.now _) (by rw [if_neg (by omega)]))
  rw [if_pos c0]
  refine Ev.neg (by omega) ?_
  exact Ev.eq (Ev.now _) (by rw [if_pos (by omega)]; omega)
def szvLS41 (x : List (S41)) : Nat := x.length + (x.map fun y => szvS41 y).sum
theorem rd_T41_lt {l : List S41} {i : Nat} (h : i < l.length) : rd_T41 l (i : Int) = l[i] := by simp [rd_T41, h]
theorem laws_szGroupS_l (x : List (S41)) (hw : (x.length ≤ 9223372036854775807 ∧ ∀ x0_ ∈ x, wf41 x0_)) (d : Nat) : ∀ (i : Nat) (a : Int), i + d = x.length → 0 ≤ a → a ≤ 1048576 →
    Ev (fun k => laws_szGroupS.l0 k x a (i : Int)) (if ((((x.drop i).map fun y => szvS41 y).sum : Nat) : Int) ≤ a then a - ((((x.drop i).map fun y => szvS41 y).sum : Nat) : Int) else -1) := by
  have hx := hw.1
  induction d with
  | zero =>
    intro i a hi h0 h1
    refine Ev.step (f := fun _ => some a) (fun k => by simp only [laws_szGroupS.l0]; rw [if_neg (by omega)]) (Ev.eq (Ev.now _) ?_)
    rw [List.drop_of_length_le (by omega)]
    simp; omega
  | succ d ih =>
    intro i a hi h0 h1
    have hlt : i < x.length := by omega
    have hs : ((x.drop i).map fun y => szvS41 y).sum = szvS41 (x[i]) + ((x.drop (i + 1)).map fun y => szvS41 y).sum := by rw [drop_cons hlt, List.map_cons, List.sum_cons]
    refine Ev.step (f := fun k => (laws_szGroup.f (x[i].f0.f0) (x[i].f1) (x[i].f2) a).bind fun t => if t < 0 then some (-1) else laws_szGroupS.l0 k x t ((i + 1 : Nat) : Int)) (fun k => ?_) ?_
    · simp only [laws_szGroupS.l0]
      rw [if_pos (by omega), if_pos (by omega), rd_T41_lt hlt, w64 (by omega) (by omega)]
      rfl
    refine Ev.bind (laws_szGroup_ev x[i] a (hw.2 _ (List.getElem_mem hlt)) h0 h1) ?_
    by_cases c : ((szvS41 (x[i]) : Nat) : Int) ≤ a
    · rw [if_pos c]
      refine Ev.neg (by omega) (Ev.eq (ih (i + 1) (a - ((szvS41 (x[i]) : Nat) : Int)) (by omega) (by omega) (by omega)) ?_)
      rw [hs]
      by_cases c2 : ((szvS41 (x[i]) + ((x.drop (i + 1)).map fun y => szvS41 y).sum : Nat) : Int) ≤ a
      · rw [if_pos c2, if_pos (by omega)]; omega
      · rw [if_neg c2, if_neg (by omega)]
    · rw [if_neg c]
      refine Ev.pos (by omega) (Ev.eq (Ev.now _) ?_)
      rw [hs, if_neg (by omega)]
theorem laws_szGroupS_ev (x : List (S41)) (a : Int) (hw : (x.length ≤ 9223372036854775807 ∧ ∀ x0_ ∈ x, wf41 x0_)) (h0 : 0 ≤ a) (h1 : a ≤ 1048576) : Ev (fun k => laws_szGroupS.f k x a) (if ((szvLS41 x : Nat) : Int) ≤ a then a - ((szvLS41 x : Nat) : Int) else -1) := by
  have hx := hw.1
  unfold laws_szGroupS.f
  rw [w64 (by omega) (by omega)]
  by_cases c : (x.length : Int) ≤ a
  · refine Ev.neg (by omega) (Ev.eq (laws_szGroupS_l x hw x.length 0 (a - x.length) (by omega) (by omega) (by omega)) ?_)
    simp only [List.drop_zero]
    have hs : szvLS41 x = x.length + (x.map fun y => szvS41 y).sum := rfl
    by_cases c2 : ((szvLS41 x : Nat) : Int) ≤ a
    · rw [if_pos c2, if_pos (by omega)]; omega
    · rw [if_neg c2, if_neg (by omega)]
  · refine Ev.pos (by omega) (Ev.eq (Ev.now _) ?_)
    have hs : szvLS41 x = x.length + (x.map fun y => szvS41 y).sum := rfl
    rw [if_neg (by omega)]
theorem laws_toIntS_l (x : List Int) (h : x.length ≤ 1048576) (d : Nat) : ∀ (i : Nat) (z : List Int), i + d = x.length → z.length = x.length → z.take i = (x).take i →
    Ev (fun k => laws_toIntS.l0 k x z (i : Int)) (x) := by
  have hx : x.length ≤ 1048576 := by exact h
  have hL : (x).length = x.length := by simp
  induction d with
  | zero =>
    intro i z hi hz ht
    refine Ev.step (f := fun _ => some z) (fun k => by simp only [laws_toIntS.l0]; rw [if_neg (by omega)]) ?_
    have : z = x := by rw [← List.take_of_length_le (l := z) (i := i) (by omega), ht, List.take_of_length_le (by omega)]
    rw [this]
    exact Ev.now _
  | succ d ih =>
    intro i z hi hz ht
    have hlt : i < x.length := by omega
    have hg : (x)[i]'(by omega) = x[i] := by simp
    have hst := set_take (l := x) (z := z) (i := i) (by omega) (by omega) ht
    rw [hg] at hst
    refine Ev.step (f := fun k => laws_toIntS.l0 k x (z.set i (x[i])) ((i + 1 : Nat) : Int)) (fun k => ?_) (ih (i + 1) _ (by omega) (by simpa using hz) hst)
    simp only [laws_toIntS.l0]
    rw [if_pos (by omega), if_pos (by omega), if_pos (by omega), rd_lt hlt, w64 (by omega) (by omega)]
    rfl
theorem laws_toIntS_ev (x : List Int) (h : x.length ≤ 1048576) : Ev (fun k => laws_toIntS.f k x) (x) := by
  have hx : x.length ≤ 1048576 := by exact h
  unfold laws_toIntS.f
  refine Ev.pos (by omega) (Ev.pos (by omega) ?_)
  exact laws_toIntS_l x h x.length 0 _ (by omega) (by simp) (by simp)
abbrev cvS39_S43 (x : S39) : S43 := ⟨x.f0⟩
def szvS43 (x : S43) : Nat := x.f0.length
theorem szcvS39_S43 (x : S39) : szvS43 (cvS39_S43 x) = szvS39 x := by simp [Function.comp_def, List.map_map, cvS39_S43, szvS39, szvS43]
theorem laws_toRow_ev (x : S39) (h : szvS39 x ≤ 1048576) : Ev (fun k => laws_toRow.f k x.f0) (x.f0) := by
  unfold laws_toRow.f
  have hs : szvS39 x = x.f0.length := rfl
  refine Ev.bind (laws_toIntS_ev x.f0 (by omega)) ?_
  exact Ev.now _
abbrev cvS41_S45 (x : S41) : S45 := ⟨cvS39_S43 x.f0, x.f1, x.f2⟩
def szvS45 (x : S45) : Nat := szvS43 x.f0
theorem szcvS41_S45 (x : S41) : szvS45 (cvS41_S45 x) = szvS41 x := by simp [Function.comp_def, List.map_map, cvS41_S45, szcvS39_S43, szvS41, szvS45]
theorem laws_toGroup_ev (x : S41) (h : szvS41 x ≤ 1048576) : Ev (fun k => laws_toGroup.f k x.f0.f0 x.f1 x.f2) (x.f0.f0, x.f1, x.f2) := by
  unfold laws_toGroup.f
  have hs : szvS41 x = szvS39 x.f0 := rfl
  refine Ev.bind (laws_toRow_ev x.f0 (by omega)) ?_
  exact Ev.now _
def szvLS45 (x : List (S45)) : Nat := x.length + (x.map fun y => szvS45 y).sum
theorem szcvLS41_LS45 (x : List (S41)) : szvLS45 (x.map cvS41_S45) = szvLS41 x := by simp [Function.comp_def, List.map_map, szcvS41_S45, szvLS41, szvLS45]
theorem laws_toGroupS_l (x : List (S41)) (h : szvLS41 x ≤ 1048576) (d : Nat) : ∀ (i : Nat) (z : List (S45)), i + d = x.length → z.length = x.length → z.take i = (x.map cvS41_S45).take i →
    Ev (fun k => laws_toGroupS.l0 k x z (i : Int)) (x.map cvS41_S45) := by
  have hx : x.length ≤ 1048576 := by unfold szvLS41 at h; omega
  have hL : (x.map cvS41_S45).length = x.length := by simp
  induction d with
  | zero =>
    intro i z hi hz ht
    refine Ev.step (f := fun _ => some z) (fun k => by simp only [laws_toGroupS.l0]; rw [if_neg (by omega)]) ?_
    have : z = x.map cvS41_S45 := by rw [← List.take_of_length_le (l := z) (i := i) (by omega), ht, List.take_of_length_le (by omega)]
    rw [this]
    exact Ev.now _
  | succ d ih =>
    intro i z hi hz ht
    have hlt : i < x.length := by omega
    have hg : (x.map cvS41_S45)[i]'(by omega) = cvS41_S45 (x[i]) := by simp
    have hst := set_take (l := x.map cvS41_S45) (z := z) (i := i) (by omega) (by omega) ht
    rw [hg] at hst
    refine Ev.step (f := fun k => (laws_toGroup.f k (x[i].f0.f0) (x[i].f1) (x[i].f2)).bind fun t => laws_toGroupS.l0 k x (z.set i (⟨(⟨t.1⟩ : S43), t.2.1, t.2.2⟩ : S45)) ((i + 1 : Nat) : Int)) (fun k => ?_) ?_
    · simp only [laws_toGroupS.l0]
      rw [if_pos (by omega), if_pos (by omega), rd_T41_lt hlt]
      have e1 : wrap64 ((i : Int) + 1) = ((i + 1 : Nat) : Int) := by rw [w64 (by omega) (by omega)]; rfl
      rw [e1]
      simp only [show (i : Int) < (z.length : Int) from by omega, if_true, Int.toNat_natCast]
    refine Ev.bind (laws_toGroup_ev x[i] (by have := sum_mem (fun y => szvS41 y) x _ (List.getElem_mem hlt); unfold szvLS41 at h; omega)) ?_
    exact ih (i + 1) _ (by omega) (by simpa using hz) hst
theorem laws_toGroupS_ev (x : List (S41)) (h : szvLS41 x ≤ 1048576) : Ev (fun k => laws_toGroupS.f k x) (x.map cvS41_S45) := by
  have hx : x.length ≤ 1048576 := by unfold szvLS41 at h; omega
  unfold laws_toGroupS.f
  refine Ev.pos (by omega) (Ev.pos (by omega) ?_)
  exact laws_toGroupS_l x h x.length 0 _ (by omega) (by simp) (by simp)
theorem laws_eqIntS_l (x : List Int) (h : x.length ≤ 1099511627776) (d : Nat) : ∀ (i : Nat), i + d = x.length → Ev (fun k => laws_eqIntS.l0 k x x (i : Int)) true := by
  have hx : x.length ≤ 1099511627776 := by exact h
  induction d with
  | zero =>
    intro i hi
    exact Ev.step (f := fun _ => some true) (fun k => by simp only [laws_eqIntS.l0]; rw [if_neg (by omega)]) (Ev.now _)
  | succ d ih =>
    intro i hi
    have hlt : i < x.length := by omega
    refine Ev.step (f := fun k => laws_eqIntS.l0 k x x ((i + 1 : Nat) : Int)) (fun k => ?_) (ih (i + 1) (by omega))
    simp only [laws_eqIntS.l0]
    rw [if_pos (by omega), if_pos (by omega), if_pos (by omega)]
    first | rw [if_pos trivial] | rw [if_pos rfl]
    rw [w64 (by omega) (by omega)]
    rfl
theorem laws_eqIntS_ev (x : List Int) (h : x.length ≤ 1099511627776) : Ev (fun k => laws_eqIntS.f k x x) true := by
  unfold laws_eqIntS.f
  exact Ev.pos rfl (laws_eqIntS_l x h x.length 0 (by omega))
theorem laws_eqRow_ev (x : S43) (h : szvS43 x ≤ 1099511627776) : Ev (fun k => laws_eqRow.f k x.f0 x.f0) true := by
  unfold laws_eqRow.f
  have hs : szvS43 x = x.f0.length := rfl
  repeat (first | (with_reducible exact Ev.now true) | (with_reducible refine Ev.pos rfl ?_) | (with_reducible refine Ev.neg (by simp; done) ?_) | (with_reducible refine Ev.bind (laws_eqIntS_ev _ (by omega)) ?_))
theorem laws_eqRow_lv (y0 : List Int) (h : y0.length ≤ 1099511627776) : Ev (fun k => laws_eqRow.f k y0 y0) true := laws_eqRow_ev (⟨y0⟩ : S43) h
def szvS47 (x : S47) : Nat := szvS43 x.f0
theorem laws_eqWeighted_ev (x : S47) (h : szvS47 x ≤ 1099511627776) : Ev (fun k => laws_eqWeighted.f k x.f0.f0 x.f1 x.f0.f0 x.f1) true := by
  unfold laws_eqWeighted.f
  have hs : szvS47 x = szvS43 x.f0 := rfl
  repeat (first | (with_reducible exact Ev.now true) | (with_reducible refine Ev.pos rfl ?_) | (with_reducible refine Ev.neg (by simp; done) ?_) | (with_reducible refine Ev.bind (laws_eqRow_ev (_) (by omega)) ?_))
theorem laws_eqWeighted_lv (y0 : List Int) (y1 : Int) (h : y0.length ≤ 1099511627776) : Ev (fun k => laws_eqWeighted.f k y0 y1 y0 y1) true := laws_eqWeighted_ev (⟨(⟨y0⟩ : S43), y1⟩ : S47) h
def szvLS47 (x : List (S47)) : Nat := x.length + (x.map fun y => szvS47 y).sum
theorem rd_T47_lt {l : List S47} {i : Nat} (h : i < l.length) : rd_T47 l (i : Int) = l[i] := by simp [rd_T47, h]
theorem laws_eqWeightedS_l (x : List (S47)) (h : szvLS47 x ≤ 1099511627776) (d : Nat) : ∀ (i : Nat), i + d = x.length → Ev (fun k => laws_eqWeightedS.l0 k x x (i : Int)) true := by
  have hx : x.length ≤ 1099511627776 := by unfold szvLS47 at h; omega
  induction d with
  | zero =>
    intro i hi
    exact Ev.step (f := fun _ => some true) (fun k => by simp only [laws_eqWeightedS.l0]; rw [if_neg (by omega)]) (Ev.now _)
  | succ d ih =>
    intro i hi
    have hlt : i < x.length := by omega
    refine Ev.step (f := fun k => (laws_eqWeighted.f k (x[i].f0.f0) (x[i].f1) (x[i].f0.f0) (x[i].f1)).bind fun t => if t = true then laws_eqWeightedS.l0 k x x ((i + 1 : Nat) : Int) else some false) (fun k => ?_) ?_
    · simp only [laws_eqWeightedS.l0]
      rw [if_pos (by omega), if_pos (by omega), if_pos (by omega), rd_T47_lt hlt, w64 (by omega) (by omega)]
      rfl
    refine Ev.bind (laws_eqWeighted_ev x[i] (by have := sum_mem (fun y => szvS47 y) x _ (List.getElem_mem hlt); unfold szvLS47 at h; omega)) ?_
    exact Ev.pos rfl (ih (i + 1) (by omega))
theorem laws_eqWeightedS_ev (x : List (S47)) (h : szvLS47 x ≤ 1099511627776) : Ev (fun k => laws_eqWeightedS.f k x x) true := by
  unfold laws_eqWeightedS.f
  exact Ev.pos rfl (laws_eqWeightedS_l x h x.length 0 (by omega))
def szvS26 (x : S26) : Nat := szvLS47 x.f1
theorem laws_eqTable_ev (x : S26) (h : szvS26 x ≤ 1099511627776) : Ev (fun k => laws_eqTable.f k x.f0 x.f1 x.f0 x.f1) true := by
  unfold laws_eqTable.f
  have hs : szvS26 x = szvLS47 x.f1 := rfl
  repeat (first | (with_reducible exact Ev.now true) | (with_reducible refine Ev.pos rfl ?_) | (with_reducible refine Ev.neg (by simp; done) ?_) | (with_reducible refine Ev.bind (laws_eqWeightedS_ev _ (by omega)) ?_))
theorem laws_eqTable_lv (y0 : Int) (y1 : List (S47)) (h : szvLS47 y1 ≤ 1099511627776) : Ev (fun k => laws_eqTable.f k y0 y1 y0 y1) true := laws_eqTable_ev (⟨y0, y1⟩ : S26) h
theorem laws_eqGroup_ev (x : S45) (h : szvS45 x ≤ 1099511627776) : Ev (fun k => laws_eqGroup.f k x.f0.f0 x.f1 x.f2 x.f0.f0 x.f1 x.f2) true := by
  unfold laws_eqGroup.f
  have hs : szvS45 x = szvS43 x.f0 := rfl
  repeat (first | (with_reducible exact Ev.now true) | (with_reducible refine Ev.pos rfl ?_) | (with_reducible refine Ev.neg (by simp; done) ?_) | (with_reducible refine Ev.bind (laws_eqRow_ev (_) (by omega)) ?_))
theorem laws_eqGroup_lv (y0 : List Int) (y1 : Int) (y2 : Int) (h : y0.length ≤ 1099511627776) : Ev (fun k => laws_eqGroup.f k y0 y1 y2 y0 y1 y2) true := laws_eqGroup_ev (⟨(⟨y0⟩ : S43), y1, y2⟩ : S45) h
theorem rd_T45_lt {l : List S45} {i : Nat} (h : i < l.length) : rd_T45 l (i : Int) = l[i] := by simp [rd_T45, h]
theorem laws_eqGroupS_l (x : List (S45)) (h : szvLS45 x ≤ 1099511627776) (d : Nat) : ∀ (i : Nat), i + d = x.length → Ev (fun k => laws_eqGroupS.l0 k x x (i : Int)) true := by
  have hx : x.length ≤ 1099511627776 := by unfold szvLS45 at h; omega
  induction d with
  | zero =>
    intro i hi
    exact Ev.step (f := fun _ => some true) (fun k => by simp only [laws_eqGroupS.l0]; rw [if_neg (by omega)]) (Ev.now _)
  | succ d ih =>
    intro i hi
    have hlt : i < x.length := by omega
    refine Ev.step (f := fun k => (laws_eqGroup.f k (x[i].f0.f0) (x[i].f1) (x[i].f2) (x[i].f0.f0) (x[i].f1) (x[i].f2)).bind fun t => if t = true then laws_eqGroupS.l0 k x x ((i + 1 : Nat) : Int) else some false) (fun k => ?_) ?_
    · simp only [laws_eqGroupS.l0]
      rw [if_pos (by omega), if_pos (by omega), if_pos (by omega), rd_T45_lt hlt, w64 (by omega) (by omega)]
      rfl
    refine Ev.bind (laws_eqGroup_ev x[i] (by have := sum_mem (fun y => szvS45 y) x _ (List.getElem_mem hlt); unfold szvLS45 at h; omega)) ?_
    exact Ev.pos rfl (ih (i + 1) (by omega))
theorem laws_eqGroupS_ev (x : List (S45)) (h : szvLS45 x ≤ 1099511627776) : Ev (fun k => laws_eqGroupS.f k x x) true := by
  unfold laws_eqGroupS.f
  exact Ev.pos rfl (laws_eqGroupS_l x h x.length 0 (by omega))
theorem laws_markIntS_l (n : Nat) (a : Int) (h0 : 0 ≤ a) (hb : a + ((1 * n : Nat) : Int) ≤ 4611686018427387904) (d : Nat) : ∀ (i : Nat) (z : List Int), i + d = n → z.length = n → z.take i = (marks a n).take i →
    Ev (fun k => laws_markIntS.l0 k z (a + 1 * (i : Int)) (i : Int)) (a + ((1 * n : Nat) : Int), marks a n) := by
  have hm := marks_length a n
  induction d with
  | zero =>
    intro i z hi hz ht
    refine Ev.step (f := fun _ => some (a + 1 * (i : Int), z)) (fun k => by simp only [laws_markIntS.l0]; rw [if_neg (by omega)]) ?_
    have : z = marks a n := by rw [← List.take_of_length_le (l := z) (i := i) (by omega), ht, List.take_of_length_le (by omega)]
    rw [this]
    refine Ev.eq (Ev.now _) ?_
    have e : a + 1 * (i : Int) = a + ((1 * n : Nat) : Int) := by omega
    rw [e]
  | succ d ih =>
    intro i z hi hz ht
    have hlt : i < z.length := by omega
    have hst := set_take (l := marks a n) (z := z) (i := i) (by omega) (by omega) ht
    rw [marks_get] at hst
    refine Ev.step (f := fun k => laws_markIntS.l0 k (z.set i (a + (i : Int))) (a + 1 * ((i + 1 : Nat) : Int)) ((i + 1 : Nat) : Int)) (fun k => ?_) (ih (i + 1) _ (by omega) (by simpa using hz) hst)
    simp only [laws_markIntS.l0]
    rw [if_pos (by omega), if_pos (by omega)]
    rw [w64 (by omega) (by omega), w64 (by omega) (by omega), show a + 1 * (i : Int) = a + (i : Int) from by omega, show a + (i : Int) + 1 = a + 1 * ((i + 1 : Nat) : Int) from by omega]
    rfl
theorem laws_markIntS_ev (x : List Int) (a : Int) (h0 : 0 ≤ a) (hb : a + ((x.length : Nat) : Int) ≤ 4611686018427387904) : Ev (fun k => laws_markIntS.f k x a) (a + ((x.length : Nat) : Int), marks (a) x.length) := by
  unfold laws_markIntS.f
  have := laws_markIntS_l x.length a h0 (by omega) x.length 0 x (by omega) rfl (by simp)
  simpa using this
def cnLS45 : List S45 → Nat
  | [] => 0
  | y :: ys => (2 + y.f0.f0.length) + cnLS45 ys
def mkLS45 : Int → List S45 → List S45
  | _, [] => []
  | a, y :: ys => (⟨(⟨marks (a) y.f0.f0.length⟩ : S43), a + (y.f0.f0.length : Int), a + (y.f0.f0.length : Int) + 1⟩ : S45) :: mkLS45 (a + (y.f0.f0.length : Int) + 1 + 1) ys
theorem mkLS45_len : ∀ (x : List S45) (a : Int), (mkLS45 a x).length = x.length
  | [], _ => rfl
  | y :: ys, a => by show (mkLS45 (a + (y.f0.f0.length : Int) + 1 + 1) ys).length + 1 = _; rw [mkLS45_len ys]; rfl
theorem cnleLS45 : ∀ x : List S45, cnLS45 x + x.length ≤ 4 * szvLS45 x
  | [] => by simp [cnLS45]
  | y :: ys => by
    have ih := cnleLS45 ys
    have h : szvLS45 (y :: ys) = (szvS45 y) + 1 + szvLS45 ys := by unfold szvLS45; simp only [List.length_cons, List.map_cons, List.sum_cons]; omega
    have h2 : y.f0.f0.length ≤ szvS45 y := by first | exact Nat.le_refl _ | (simp only [szvS43, szvS45]; omega)
    have h3 : cnLS45 (y :: ys) = (2 + y.f0.f0.length) + cnLS45 ys := rfl
    rw [h, h3, List.length_cons]
    omega
theorem laws_markGroupS_ev : ∀ (x : List (S45)) (a : Int) (h0 : 0 ≤ a) (hb : a + (((cnLS45 x + x.length) : Nat) : Int) ≤ 4611686018427387904), Ev (fun k => laws_markGroupS.f k x a) (a + ((cnLS45 x : Nat) : Int), mkLS45 (a) x)
  | [], a, h0, hb => Ev.eq (Ev.const (o := some (a, [])) rfl) (by simp [cnLS45, mkLS45])
  | y :: ys, a, h0, hb => by
    have ih := laws_markGroupS_ev ys
    have hc : cnLS45 (y :: ys) = (2 + y.f0.f0.length) + cnLS45 ys := rfl
    rw [hc, List.length_cons] at hb
    have e0_ : wrap64 (a + (y.f0.f0.length : Int) + 1) = a + (y.f0.f0.length : Int) + 1 := w64 (by omega) (by omega)
    have e1_ : wrap64 (a + (y.f0.f0.length : Int) + 1 + 1) = a + (y.f0.f0.length : Int) + 1 + 1 := w64 (by omega) (by omega)
    simp only [laws_markGroupS.f]
    (try simp only [e0_, e1_])
    refine Ev.bind (laws_markIntS_ev y.f0.f0 (a) (by omega) (by omega)) ?_
    (try dsimp only)
    (try simp only [e0_, e1_])
    refine Ev.eq (Ev.bind (ih (a + (y.f0.f0.length : Int) + 1 + 1) (by omega) (by omega)) (Ev.now _)) ?_
    refine Prod.ext ?_ rfl
    show (a + (y.f0.f0.length : Int) + 1 + 1) + ((cnLS45 ys : Nat) : Int) = a + ((cnLS45 (y :: ys) : Nat) : Int)
    rw [hc]
    omega
def cnLS47 : List S47 → Nat
  | [] => 0
  | y :: ys => (1 + y.f0.f0.length) + cnLS47 ys
def mkLS47 : Int → List S47 → List S47
  | _, [] => []
  | a, y :: ys => (⟨(⟨marks (a) y.f0.f0.length⟩ : S43), a + (y.f0.f0.length : Int)⟩ : S47) :: mkLS47 (a + (y.f0.f0.length : Int) + 1) ys
theorem mkLS47_len : ∀ (x : List S47) (a : Int), (mkLS47 a x).length = x.length
  | [], _ => rfl
  | y :: ys, a => by show (mkLS47 (a + (y.f0.f0.length : Int) + 1) ys).length + 1 = _; rw [mkLS47_len ys]; rfl
theorem cnleLS47 : ∀ x : List S47, cnLS47 x + x.length ≤ 3 * szvLS47 x
  | [] => by simp [cnLS47]
  | y :: ys => by
    have ih := cnleLS47 ys
    have h : szvLS47 (y :: ys) = (szvS47 y) + 1 + szvLS47 ys := by unfold szvLS47; simp only [List.length_cons, List.map_cons, List.sum_cons]; omega
    have h2 : y.f0.f0.length ≤ szvS47 y := by first | exact Nat.le_refl _ | (simp only [szvS43, szvS47]; omega)
    have h3 : cnLS47 (y :: ys) = (1 + y.f0.f0.length) + cnLS47 ys := rfl
    rw [h, h3, List.length_cons]
    omega
theorem laws_markWeightedS_ev : ∀ (x : List (S47)) (a : Int) (h0 : 0 ≤ a) (hb : a + (((cnLS47 x + x.length) : Nat) : Int) ≤ 4611686018427387904), Ev (fun k => laws_markWeightedS.f k x a) (a + ((cnLS47 x : Nat) : Int), mkLS47 (a) x)
  | [], a, h0, hb => Ev.eq (Ev.const (o := some (a, [])) rfl) (by simp [cnLS47, mkLS47])
  | y :: ys, a, h0, hb => by
    have ih := laws_markWeightedS_ev ys
    have hc : cnLS47 (y :: ys) = (1 + y.f0.f0.length) + cnLS47 ys := rfl
    rw [hc, List.length_cons] at hb
    have e0_ : wrap64 (a + (y.f0.f0.length : Int) + 1) = a + (y.f0.f0.length : Int) + 1 := w64 (by omega) (by omega)
    simp only [laws_markWeightedS.f]
    (try simp only [e0_])
    refine Ev.bind (laws_markIntS_ev y.f0.f0 (a) (by omega) (by omega)) ?_
    (try dsimp only)
    (try simp only [e0_])
    refine Ev.eq (Ev.bind (ih (a + (y.f0.f0.length : Int) + 1) (by omega) (by omega)) (Ev.now _)) ?_
    refine Prod.ext ?_ rfl
    show (a + (y.f0.f0.length : Int) + 1) + ((cnLS47 ys : Nat) : Int) = a + ((cnLS47 (y :: ys) : Nat) : Int)
    rw [hc]
    omega
theorem laws_markTable_ev (x : S26) (a : Int) (h0 : 0 ≤ a) (hb : a + (((cnLS47 x.f1 + x.f1.length) : Nat) : Int) ≤ 4611686018427387904) : Ev (fun k => laws_markTable.f k x.f0 x.f1 a) (a + ((cnLS47 x.f1 : Nat) : Int), mkLS47 (a) x.f1) := by
  unfold laws_markTable.f
  refine Ev.bind (laws_markWeightedS_ev x.f1 (a) (by omega) (by omega)) ?_
  exact Ev.eq (Ev.now _) (by rfl)
theorem laws_markTable_lv (y0 : Int) (y1 : List (S47)) (a : Int) (h0 : 0 ≤ a) (hb : a + (((cnLS47 y1 + y1.length) : Nat) : Int) ≤ 4611686018427387904) : Ev (fun k => laws_markTable.f k y0 y1 a) (a + ((cnLS47 y1 : Nat) : Int), (mkLS47 (a) y1)) := laws_markTable_ev (⟨y0, y1⟩ : S26) a h0 hb
theorem laws_heldIntS_l (n : Nat) (a : Int) (h0 : 0 ≤ a) (hb : a + ((1 * n : Nat) : Int) ≤ 4611686018427387904) (d : Nat) : ∀ (i : Nat), i + d = n → Ev (fun k => laws_heldIntS.l0 k (marks a n) (a + 1 * (i : Int)) (i : Int)) (a + ((1 * n : Nat) : Int)) := by
  have hm := marks_length a n
  induction d with
  | zero =>
    intro i hi
    exact Ev.step (f := fun _ => some (a + 1 * (i : Int))) (fun k => by simp only [laws_heldIntS.l0]; rw [if_neg (by omega)]) (Ev.eq (Ev.now _) (by omega))
  | succ d ih =>
    intro i hi
    have hlt : i < (marks a n).length := by omega
    refine Ev.step (f := fun k => laws_heldIntS.l0 k (marks a n) (a + 1 * ((i + 1 : Nat) : Int)) ((i + 1 : Nat) : Int)) (fun k => ?_) (ih (i + 1) (by omega))
    simp only [laws_heldIntS.l0]
    rw [if_pos (by omega), if_pos (by omega)]
    rw [rd_lt hlt, marks_get, if_pos (by omega), w64 (by omega) (by omega), w64 (by omega) (by omega), show a + 1 * (i : Int) + 1 = a + 1 * ((i + 1 : Nat) : Int) from by omega]
    rfl
theorem laws_heldIntS_ev (x : List Int) (a : Int) (h0 : 0 ≤ a) (hb : a + ((x.length : Nat) : Int) ≤ 4611686018427387904) : Ev (fun k => laws_heldIntS.f k (marks (a) x.length) a) (a + ((x.length : Nat) : Int)) := by
  unfold laws_heldIntS.f
  have := laws_heldIntS_l x.length a h0 (by omega) x.length 0 (by omega)
  simpa using this
theorem laws_heldWeightedS_l (z : List (S47)) (hz : (z.length : Int) ≤ 4611686018427387904) : ∀ (x : List (S47)) (a : Int) (i : Nat) (h0 : 0 ≤ a) (hb : a + (((cnLS47 x + x.length) : Nat) : Int) ≤ 4611686018427387904) (hd : z.drop i = mkLS47 (a) x) (hi : i ≤ z.length), Ev (fun k => laws_heldWeightedS.l0 k z a (i : Int)) (a + ((cnLS47 x : Nat) : Int))
  | [], a, i, h0, hb, hd, hi => by
    have hl : z.length ≤ i := List.drop_eq_nil_iff.1 hd
    refine Ev.eq (r := a) (Ev.step (f := fun _ => some a) (fun k => by simp only [laws_heldWeightedS.l0]; rw [if_neg (by omega)]) (Ev.now _)) (by simp [cnLS47])
  | y :: ys, a, i, h0, hb, hd, hi => by
    have ih := laws_heldWeightedS_l z hz ys
    have hc : cnLS47 (y :: ys) = (1 + y.f0.f0.length) + cnLS47 ys := rfl
    rw [hc, List.length_cons] at hb
    have hlt : i < z.length := by rcases Nat.lt_or_ge i z.length with h | h; exact h; rw [List.drop_eq_nil_iff.2 h] at hd; cases hd
    rw [drop_cons hlt] at hd
    have hd2 : z[i] :: z.drop (i + 1) = (⟨(⟨marks (a) y.f0.f0.length⟩ : S43), a + (y.f0.f0.length : Int)⟩ : S47) :: mkLS47 (a + (y.f0.f0.length : Int) + 1) ys := hd
    injection hd2 with hx_ hd3
    have e0_ : wrap64 (a + (y.f0.f0.length : Int) + 1) = a + (y.f0.f0.length : Int) + 1 := w64 (by omega) (by omega)
    have ei_ : wrap64 ((i : Int) + 1) = ((i + 1 : Nat) : Int) := by rw [w64 (by omega) (by omega)]; rfl
    refine Ev.step (f := ?f_) ?h_ ?_
    case h_ => intro k; simp only [laws_heldWeightedS.l0]; exact rfl
    refine Ev.pos (by omega) (Ev.pos (by omega) ?_)
    simp only [rd_T47_lt hlt, hx_]
    (try simp only [ei_, e0_])
    repeat (first | (with_reducible refine Ev.pos rfl ?_) | (refine Ev.bind (laws_heldIntS_ev y.f0.f0 (a) (by omega) (by omega)) ?_; (try dsimp only); (try simp only [ei_, e0_])) | (with_reducible refine Ev.neg (by omega) ?_))
    exact Ev.eq (ih (a + (y.f0.f0.length : Int) + 1) (i + 1) (by omega) (by omega) hd3 (by omega)) (by rw [hc]; omega)
theorem laws_heldWeightedS_ev (x : List (S47)) (a : Int) (h0 : 0 ≤ a) (hb : a + (((cnLS47 x + x.length) : Nat) : Int) ≤ 4611686018427387904) : Ev (fun k => laws_heldWeightedS.f k (mkLS47 (a) x) a) (a + ((cnLS47 x : Nat) : Int)) := by
  unfold laws_heldWeightedS.f
  exact laws_heldWeightedS_l (mkLS47 a x) (by rw [mkLS47_len]; omega) x a 0 h0 hb (by simp) (Nat.zero_le _)
theorem laws_heldTable_ev (x : S26) (a : Int) (h0 : 0 ≤ a) (hb : a + (((cnLS47 x.f1 + x.f1.length) : Nat) : Int) ≤ 4611686018427387904) : Ev (fun k => laws_heldTable.f k x.f0 (mkLS47 (a) x.f1) a) (a + ((cnLS47 x.f1 : Nat) : Int)) := by
  unfold laws_heldTable.f
  refine Ev.bind (laws_heldWeightedS_ev x.f1 (a) (by omega) (by omega)) ?_
  refine Ev.neg (by omega) ?_
  exact Ev.eq (Ev.now _) (by omega)
theorem laws_heldTable_lv (y0 : Int) (y1 : List (S47)) (a : Int) (h0 : 0 ≤ a) (hb : a + (((cnLS47 y1 + y1.length) : Nat) : Int) ≤ 4611686018427387904) : Ev (fun k => laws_heldTable.f k y0 (mkLS47 (a) y1) a) (a + ((cnLS47 y1 : Nat) : Int)) := laws_heldTable_ev (⟨y0, y1⟩ : S26) a h0 hb
/-- What is left to show: the program's function and the reference answer alike. -/
def Core : Prop := ∀ x0 : List (S45), szvLS45 x0 ≤ 1048576 → ∃ v : Int × (List (S47)) × Bool, Ev (fun k => spec_GroupsAsTable.f k x0) v ∧ Ev (fun k => impl_GroupsAsTable.f k x0) v ∧ szvLS47 v.2.1 ≤ 1099511627776
theorem law (core : Core) : laws_FnExactGroupsAsTable.Pure := by
  intro x0 hwx0
  apply Ev.rounds
  unfold laws_FnExactGroupsAsTable.f
  refine Ev.bind (laws_szGroupS_ev x0 (1048576) hwx0 (by omega) (by omega)) ?_
  by_cases g0 : ((szvLS41 x0 : Nat) : Int) ≤ 1048576
  case neg =>
    rw [if_neg g0]
    exact Ev.pos (by omega) (Ev.now true)
  rw [if_pos g0]
  refine Ev.neg (by omega) ?_
  have zx0 : szvLS45 (x0.map cvS41_S45) ≤ 1048576 := by rw [szcvLS41_LS45]; omega
  have yx0 : szvLS41 x0 ≤ 1048576 := by omega
  obtain ⟨v, hs, hi, hv1⟩ := core (x0.map cvS41_S45) zx0
  have := cnleLS47 v.2.1
  have := cnleLS45 (x0.map cvS41_S45)
  repeat (first | (with_reducible exact Ev.now true) | (with_reducible refine Ev.bind hs ?_) | (with_reducible refine Ev.bind hi ?_) | (with_reducible refine Ev.bind (laws_toIntS_ev _ (by first | assumption | omega)) ?_) | (with_reducible refine Ev.bind (laws_toRow_ev _ (by first | assumption | omega)) ?_) | (with_reducible refine Ev.bind (laws_toGroup_ev _ (by first | assumption | omega)) ?_) | (with_reducible refine Ev.bind (laws_toGroupS_ev _ (by first | assumption | omega)) ?_) | (with_reducible refine Ev.bind (laws_eqIntS_ev _ (by first | assumption | omega | (dsimp only; omega) | (simp only [szvLS41, szvLS45, szvS26] at *; omega))) ?_) | (with_reducible refine Ev.bind (laws_eqRow_lv _ (by first | assumption | omega | (dsimp only; omega) | (simp only [szvLS41, szvLS45, szvS26] at *; omega))) ?_) | (with_reducible refine Ev.bind (laws_eqWeighted_lv _ _ (by first | assumption | omega | (dsimp only; omega) | (simp only [szvLS41, szvLS45, szvS26] at *; omega))) ?_) | (with_reducible refine Ev.bind (laws_eqWeightedS_ev _ (by first | assumption | omega | (dsimp only; omega) | (simp only [szvLS41, szvLS45, szvS26] at *; omega))) ?_) | (with_reducible refine Ev.bind (laws_eqTable_lv _ _ (by first | assumption | omega | (dsimp only; omega) | (simp only [szvLS41, szvLS45, szvS26] at *; omega))) ?_) | (with_reducible refine Ev.bind (laws_eqGroup_lv _ _ _ (by first | assumption | omega | (dsimp only; omega) | (simp only [szvLS41, szvLS45, szvS26] at *; omega))) ?_) | (with_reducible refine Ev.bind (laws_eqGroupS_ev _ (by first | assumption | omega | (dsimp only; omega) | (simp only [szvLS41, szvLS45, szvS26] at *; omega))) ?_) | (with_reducible refine Ev.bind (laws_markIntS_ev _ _ (by first | assumption | omega | (dsimp only; omega) | (simp only [szvLS41, szvLS45, szvS26] at *; omega)) (by first | assumption | omega | (dsimp only; omega) | (simp only [szvLS41, szvLS45, szvS26] at *; omega))) ?_) | (with_reducible refine Ev.bind (laws_markGroupS_ev _ _ (by first | assumption | omega | (dsimp only; omega) | (simp only [szvLS41, szvLS45, szvS26] at *; omega)) (by first | assumption | omega | (dsimp only; omega) | (simp only [szvLS41, szvLS45, szvS26] at *; omega))) ?_) | (with_reducible refine Ev.bind (laws_markWeightedS_ev _ _ (by first | assumption | omega | (dsimp only; omega) | (simp only [szvLS41, szvLS45, szvS26] at *; omega)) (by first | assumption | omega | (dsimp only; omega) | (simp only [szvLS41, szvLS45, szvS26] at *; omega))) ?_) | (with_reducible refine Ev.bind (laws_markTable_lv _ _ _ (by first | assumption | omega | (dsimp only; omega) | (simp only [szvLS41, szvLS45, szvS26] at *; omega)) (by first | assumption | omega | (dsimp only; omega) | (simp only [szvLS41, szvLS45, szvS26] at *; omega))) ?_) | (with_reducible refine Ev.bind (laws_heldIntS_ev _ _ (by first | assumption | omega | (dsimp only; omega) | (simp only [szvLS41, szvLS45, szvS26] at *; omega)) (by first | assumption | omega | (dsimp only; omega) | (simp only [szvLS41, szvLS45, szvS26] at *; omega))) ?_) | (with_reducible refine Ev.bind (laws_heldWeightedS_ev _ _ (by first | assumption | omega | (dsimp only; omega) | (simp only [szvLS41, szvLS45, szvS26] at *; omega)) (by first | assumption | omega | (dsimp only; omega) | (simp only [szvLS41, szvLS45, szvS26] at *; omega))) ?_) | (with_reducible refine Ev.bind (laws_heldTable_lv _ _ _ (by first | assumption | omega | (dsimp only; omega) | (simp only [szvLS41, szvLS45, szvS26] at *; omega)) (by first | assumption | omega | (dsimp only; omega) | (simp only [szvLS41, szvLS45, szvS26] at *; omega))) ?_) | (with_reducible refine Ev.pos rfl ?_) | (with_reducible refine Ev.neg (by first | omega | simp) ?_))
end Go.Proofs.Ytaddemalepndfaa.HFnExactGroupsAsTable
