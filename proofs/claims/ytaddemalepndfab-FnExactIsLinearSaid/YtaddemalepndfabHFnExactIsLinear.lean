/- What the helpers of the law FnExactIsLinear compute, in plain words: printed by a program of this claim's own. No conditions. -/
import Derived.Test.YtaddemalepndfabG1
import Derived.Test.YtaddemalepndfabG6
import Derived.Test.YtaddemalepndfabG7
import Derived.Test.YtaddemalepndfabG13
import Derived.Test.YtaddemalepndfabG14
import Derived.Test.YtaddemalepndfabG15
import Derived.Test.YtaddemalepndfabG16
import Derived.Test.YtaddemalepndfabG17
import Derived.Test.YtaddemalepndfabQBase
namespace Go.Proofs.Ytaddemalepndfab.HFnExactIsLinear
open Go.RowKit Go.Proofs.Ytaddemalepndfab.G Go.Proofs.Ytaddemalepndfab.X Go.Proofs.Ytaddemalepndfab.Pure Go.Proofs.YtaddemalepndfabW.PrintWords Go.Proofs.YtaddemalepndfabW.PrintLast
set_option linter.unusedVariables false
set_option linter.unusedSimpArgs false

theorem laws_szIntS_ev (x : List Int) (a : Int) (hw : (x.length ≤ 9223372036854775807 ∧ ∀ x0_ ∈ x, (-9223372036854775808 ≤ x0_ ∧ x0_ ≤ 9223372036854775807))) (h0 : 0 ≤ a) (h1 : a ≤ 1048576) : Ev (fun k => laws_szIntS.f x a) (if ((x.length : Nat) : Int) ≤ a then a - ((x.length : Nat) : Int) else -1) := by
  have hx := hw.1
  refine Ev.const ?_
  unfold laws_szIntS.f
  rw [w64 (by omega) (by omega)]
  by_cases h : (x.length : Int) ≤ a
  · rw [if_neg (by omega), if_pos h]
  · rw [if_pos (by omega), if_neg h]
theorem laws_szTestS_ev (x : List (S75)) (a : Int) (hw : (x.length ≤ 9223372036854775807 ∧ ∀ x0_ ∈ x, wf75 x0_)) (h0 : 0 ≤ a) (h1 : a ≤ 1048576) : Ev (fun k => laws_szTestS.f x a) (if ((x.length : Nat) : Int) ≤ a then a - ((x.length : Nat) : Int) else -1) := by
  have hx := hw.1
  refine Ev.const ?_
  unfold laws_szTestS.f
  rw [w64 (by omega) (by omega)]
  by_cases h : (x.length : Int) ≤ a
  · rw [if_neg (by omega), if_pos h]
  · rw [if_pos (by omega), if_neg h]
def szvLLInt (x : List (List Int)) : Nat := x.length + (x.map fun y => y.length).sum
theorem rd_L2_lt {l : List (List Int)} {i : Nat} (h : i < l.length) : rd_L2 l (i : Int) = l[i] := by simp [rd_L2, h]
theorem laws_szIntSS_l (x : List (List Int)) (hw : (x.length ≤ 9223372036854775807 ∧ ∀ x0_ ∈ x, (x0_.length ≤ 9223372036854775807 ∧ ∀ x1_ ∈ x0_, (-9223372036854775808 ≤ x1_ ∧ x1_ ≤ 9223372036854775807)))) (d : Nat) : ∀ (i : Nat) (a : Int), i + d = x.length → 0 ≤ a → a ≤ 1048576 →
    Ev (fun k => laws_szIntSS.l0 k x a (i : Int)) (if ((((x.drop i).map fun y => y.length).sum : Nat) : Int) ≤ a then a - ((((x.drop i).map fun y => y.length).sum : Nat) : Int) else -1) := by
  have hx := hw.1
  induction d with
  | zero =>
    intro i a hi h0 h1
    refine Ev.step (f := fun _ => some a) (fun k => by simp only [laws_szIntSS.l0]; rw [if_neg (by omega)]) (Ev.eq (Ev.now _) ?_)
    rw [List.drop_of_length_le (by omega)]
    simp; omega
  | succ d ih =>
    intro i a hi h0 h1
    have hlt : i < x.length := by omega
    have hs : ((x.drop i).map fun y => y.length).sum = (x[i]).length + ((x.drop (i + 1)).map fun y => y.length).sum := by rw [drop_cons hlt, List.map_cons, List.sum_cons]
    refine Ev.step (f := fun k => (laws_szIntS.f (x[i]) a).bind fun t => if t < 0 then some (-1) else laws_szIntSS.l0 k x t ((i + 1 : Nat) : Int)) (fun k => ?_) ?_
    · simp only [laws_szIntSS.l0]
      rw [if_pos (by omega), if_pos (by omega), rd_L2_lt hlt, w64 (by omega) (by omega)]
      rfl
    refine Ev.bind (laws_szIntS_ev x[i] a (hw.2 _ (List.getElem_mem hlt)) h0 h1) ?_
    by_cases c : (((x[i]).length : Nat) : Int) ≤ a
    · rw [if_pos c]
      refine Ev.neg (by omega) (Ev.eq (ih (i + 1) (a - (((x[i]).length : Nat) : Int)) (by omega) (by omega) (by omega)) ?_)
      rw [hs]
      by_cases c2 : (((x[i]).length + ((x.drop (i + 1)).map fun y => y.length).sum : Nat) : Int) ≤ a
      · rw [if_pos c2, if_pos (by omega)]; omega
      · rw [if_neg c2, if_neg (by omega)]
    · rw [if_neg c]
      refine Ev.pos (by omega) (Ev.eq (Ev.now _) ?_)
      rw [hs, if_neg (by omega)]
theorem laws_szIntSS_ev (x : List (List Int)) (a : Int) (hw : (x.length ≤ 9223372036854775807 ∧ ∀ x0_ ∈ x, (x0_.length ≤ 9223372036854775807 ∧ ∀ x1_ ∈ x0_, (-9223372036854775808 ≤ x1_ ∧ x1_ ≤ 9223372036854775807)))) (h0 : 0 ≤ a) (h1 : a ≤ 1048576) : Ev (fun k => laws_szIntSS.f k x a) (if ((szvLLInt x : Nat) : Int) ≤ a then a - ((szvLLInt x : Nat) : Int) else -1) := by
  have hx := hw.1
  unfold laws_szIntSS.f
  rw [w64 (by omega) (by omega)]
  by_cases c : (x.length : Int) ≤ a
  · refine Ev.neg (by omega) (Ev.eq (laws_szIntSS_l x hw x.length 0 (a - x.length) (by omega) (by omega) (by omega)) ?_)
    simp only [List.drop_zero]
    have hs : szvLLInt x = x.length + (x.map fun y => y.length).sum := rfl
    by_cases c2 : ((szvLLInt x : Nat) : Int) ≤ a
    · rw [if_pos c2, if_pos (by omega)]; omega
    · rw [if_neg c2, if_neg (by omega)]
  · refine Ev.pos (by omega) (Ev.eq (Ev.now _) ?_)
    have hs : szvLLInt x = x.length + (x.map fun y => y.length).sum := rfl
    rw [if_neg (by omega)]
def szvS52 (x : S52) : Nat := x.f3.length + x.f4.length + szvLLInt x.f5
theorem laws_szPart_ev (x : S52) (a : Int) (hw : wf52 x) (h0 : 0 ≤ a) (h1 : a ≤ 1048576) : Ev (fun k => laws_szPart.f k x.f0 x.f1 x.f2 x.f3 x.f4 x.f5 a) (if ((szvS52 x : Nat) : Int) ≤ a then a - ((szvS52 x : Nat) : Int) else -1) := by
  unfold wf52 at hw
  obtain ⟨w0, w1, w2, w3, w4, w5⟩ := hw
  unfold laws_szPart.f
  have hs : szvS52 x = x.f3.length + x.f4.length + szvLLInt x.f5 := rfl
  refine Ev.bind (laws_szTestS_ev x.f3 (a) w3 (by omega) (by omega)) ?_
  by_cases c3 : ((x.f3.length : Nat) : Int) ≤ a
  case neg =>
    rw [if_neg c3]
    exact Ev.pos (by omega) (Ev.eq (Ev.now _) (by rw [if_neg (by omega)]))
  rw [if_pos c3]
  refine Ev.neg (by omega) ?_
  refine Ev.bind (laws_szIntS_ev x.f4 (a - ((x.f3.length : Nat) : Int)) w4 (by omega) (by omega)) ?_
  by_cases c4 : ((x.f4.length : Nat) : Int) ≤ a - ((x.f3.length : Nat) : Int)
  case neg =>
    rw [if_neg c4]
    exact Ev.pos (by omega) (Ev.eq (Ev.now _) (by rw [if_neg (by omega)]))
  rw [if_pos c4]
  refine Ev.neg (by omega) ?_
  refine Ev.bind (laws_szIntSS_ev x.f5 (a - ((x.f3.length : Nat) : Int) - ((x.f4.length : Nat) : Int)) w5 (by omega) (by omega)) ?_
  by_cases c5 : ((szvLLInt x.f5 : Nat) : Int) ≤ a - ((x.f3.length : Nat) : Int) - ((x.f4.length : Nat) : Int)
  case neg =>
    rw [if_neg c5]
    exact Ev.pos (by omega) (Ev.eq (Ev.now _) (by rw [if_neg (by omega)]))
  rw [if_pos c5]
  refine Ev.neg (by omega) ?_
  exact Ev.eq (Ev.now _) (by rw [if_pos (by omega)]; omega)
def szvLS52 (x : List (S52)) : Nat := x.length + (x.map fun y => szvS52 y).sum
theorem rd_T52_lt {l : List S52} {i : Nat} (h : i < l.length) : rd_T52 l (i : Int) = l[i] := by simp [rd_T52, h]
theorem laws_szPartS_l (x : List (S52)) (hw : (x.length ≤ 9223372036854775807 ∧ ∀ x0_ ∈ x, wf52 x0_)) (d : Nat) : ∀ (i : Nat) (a : Int), i + d = x.length → 0 ≤ a → a ≤ 1048576 →
    Ev (fun k => laws_szPartS.l0 k x a (i : Int)) (if ((((x.drop i).map fun y => szvS52 y).sum : Nat) : Int) ≤ a then a - ((((x.drop i).map fun y => szvS52 y).sum : Nat) : Int) else -1) := by
  have hx := hw.1
  induction d with
  | zero =>
    intro i a hi h0 h1
    refine Ev.step (f := fun _ => some a) (fun k => by simp only [laws_szPartS.l0]; rw [if_neg (by omega)]) (Ev.eq (Ev.now _) ?_)
    rw [List.drop_of_length_le (by omega)]
    simp; omega
  | succ d ih =>
    intro i a hi h0 h1
    have hlt : i < x.length := by omega
    have hs : ((x.drop i).map fun y => szvS52 y).sum = szvS52 (x[i]) + ((x.drop (i + 1)).map fun y => szvS52 y).sum := by rw [drop_cons hlt, List.map_cons, List.sum_cons]
    refine Ev.step (f := fun k => (laws_szPart.f k (x[i].f0) (x[i].f1) (x[i].f2) (x[i].f3) (x[i].f4) (x[i].f5) a).bind fun t => if t < 0 then some (-1) else laws_szPartS.l0 k x t ((i + 1 : Nat) : Int)) (fun k => ?_) ?_
    · simp only [laws_szPartS.l0]
      rw [if_pos (by omega), if_pos (by omega), rd_T52_lt hlt, w64 (by omega) (by omega)]
      rfl
    refine Ev.bind (laws_szPart_ev x[i] a (hw.2 _ (List.getElem_mem hlt)) h0 h1) ?_
    by_cases c : ((szvS52 (x[i]) : Nat) : Int) ≤ a
    · rw [if_pos c]
      refine Ev.neg (by omega) (Ev.eq (ih (i + 1) (a - ((szvS52 (x[i]) : Nat) : Int)) (by omega) (by omega) (by omega)) ?_)
      rw [hs]
      by_cases c2 : ((szvS52 (x[i]) + ((x.drop (i + 1)).map fun y => szvS52 y).sum : Nat) : Int) ≤ a
      · rw [if_pos c2, if_pos (by omega)]; omega
      · rw [if_neg c2, if_neg (by omega)]
    · rw [if_neg c]
      refine Ev.pos (by omega) (Ev.eq (Ev.now _) ?_)
      rw [hs, if_neg (by omega)]
theorem laws_szPartS_ev (x : List (S52)) (a : Int) (hw : (x.length ≤ 9223372036854775807 ∧ ∀ x0_ ∈ x, wf52 x0_)) (h0 : 0 ≤ a) (h1 : a ≤ 1048576) : Ev (fun k => laws_szPartS.f k x a) (if ((szvLS52 x : Nat) : Int) ≤ a then a - ((szvLS52 x : Nat) : Int) else -1) := by
  have hx := hw.1
  unfold laws_szPartS.f
  rw [w64 (by omega) (by omega)]
  by_cases c : (x.length : Int) ≤ a
  · refine Ev.neg (by omega) (Ev.eq (laws_szPartS_l x hw x.length 0 (a - x.length) (by omega) (by omega) (by omega)) ?_)
    simp only [List.drop_zero]
    have hs : szvLS52 x = x.length + (x.map fun y => szvS52 y).sum := rfl
    by_cases c2 : ((szvLS52 x : Nat) : Int) ≤ a
    · rw [if_pos c2, if_pos (by omega)]; omega
    · rw [if_neg c2, if_neg (by omega)]
  · refine Ev.pos (by omega) (Ev.eq (Ev.now _) ?_)
    have hs : szvLS52 x = x.length + (x.map fun y => szvS52 y).sum := rfl
    rw [if_neg (by omega)]
def szvS25 (x : S25) : Nat := x.f0.length + szvLS52 x.f1
theorem laws_szView_ev (x : S25) (a : Int) (hw : wf25 x) (h0 : 0 ≤ a) (h1 : a ≤ 1048576) : Ev (fun k => laws_szView.f k x.f0 x.f1 a) (if ((szvS25 x : Nat) : Int) ≤ a then a - ((szvS25 x : Nat) : Int) else -1) := by
  unfold wf25 at hw
  obtain ⟨w0, w1⟩ := hw
  unfold laws_szView.f
  have hs : szvS25 x = x.f0.length + szvLS52 x.f1 := rfl
  refine Ev.bind (laws_szIntS_ev x.f0 (a) w0 (by omega) (by omega)) ?_
  by_cases c0 : ((x.f0.length : Nat) : Int) ≤ a
  case neg =>
    rw [if_neg c0]
    exact Ev.pos (by omega) (Ev.eq (Ev.now _) (by rw [if_neg (by omega)]))
  rw [if_pos c0]
  refine Ev.neg (by omega) ?_
  refine Ev.bind (laws_szPartS_ev x.f1 (a - ((x.f0.length : Nat) : Int)) w1 (by omega) (by omega)) ?_
  by_cases c1 : ((szvLS52 x.f1 : Nat) : Int) ≤ a - ((x.f0.length : Nat) : Int)
  case neg =>
    rw [if_neg c1]
    exact Ev.pos (by omega) (Ev.eq (Ev.now _) (by rw [if_neg (by omega)]))
  rw [if_pos c1]
  refine Ev.neg (by omega) ?_
  exact Ev.eq (Ev.now _) (by rw [if_pos (by omega)]; omega)
theorem laws_toIntS_l (x : List Int) (h : x.length ≤ 1048576) (d : Nat) : ∀ (i : Nat) (z : List Int), i + d = x.length → z.length = x.length → z.take i = (x).take i →
    Ev (fun k => laws_toIntS.l0 k x z (i : Int)) (x) := by
  have hx : x.length ≤ 1048576 := by exact h
  have hL : (x).length = x.length := by simp
  induction d with
  | zero =>
    intro i z hi hz ht
    refine Ev.step (f := fun _ => some z) (fun k => by simp only [laws_toIntS.l0]; rw [if_neg (by omega)]) ?_
    have : z = x := by rw [← List.take_of_length_le (l := z) (i := i) (by omega), ht, List.take_of_length_le (by omega)]
    rw [this]
    exact Ev.now _
  | succ d ih =>
    intro i z hi hz ht
    have hlt : i < x.length := by omega
    have hg : (x)[i]'(by omega) = x[i] := by simp
    have hst := set_take (l := x) (z := z) (i := i) (by omega) (by omega) ht
    rw [hg] at hst
    refine Ev.step (f := fun k => laws_toIntS.l0 k x (z.set i (x[i])) ((i + 1 : Nat) : Int)) (fun k => ?_) (ih (i + 1) _ (by omega) (by simpa using hz) hst)
    simp only [laws_toIntS.l0]
    rw [if_pos (by omega), if_pos (by omega), if_pos (by omega), rd_lt hlt, w64 (by omega) (by omega)]
    rfl
theorem laws_toIntS_ev (x : List Int) (h : x.length ≤ 1048576) : Ev (fun k => laws_toIntS.f k x) (x) := by
  have hx : x.length ≤ 1048576 := by exact h
  unfold laws_toIntS.f
  refine Ev.pos (by omega) (Ev.pos (by omega) ?_)
  exact laws_toIntS_l x h x.length 0 _ (by omega) (by simp) (by simp)
abbrev cvS75_S73 (x : S75) : S73 := ⟨x.f0, x.f1, x.f2⟩
theorem laws_toTest_ev (x : S75) : Ev (fun k => laws_toTest.f x.f0 x.f1 x.f2) (x.f0, x.f1, x.f2) := by
  unfold laws_toTest.f
  exact Ev.now _
theorem szcvLS75_LS73 (x : List (S75)) : (x.map cvS75_S73).length = x.length := by simp [Function.comp_def, List.map_map]
theorem rd_T75_lt {l : List S75} {i : Nat} (h : i < l.length) : rd_T75 l (i : Int) = l[i] := by simp [rd_T75, h]
theorem laws_toTestS_l (x : List (S75)) (h : x.length ≤ 1048576) (d : Nat) : ∀ (i : Nat) (z : List (S73)), i + d = x.length → z.length = x.length → z.take i = (x.map cvS75_S73).take i →
    Ev (fun k => laws_toTestS.l0 k x z (i : Int)) (x.map cvS75_S73) := by
  have hx : x.length ≤ 1048576 := by exact h
  have hL : (x.map cvS75_S73).length = x.length := by simp
  induction d with
  | zero =>
    intro i z hi hz ht
    refine Ev.step (f := fun _ => some z) (fun k => by simp only [laws_toTestS.l0]; rw [if_neg (by omega)]) ?_
    have : z = x.map cvS75_S73 := by rw [← List.take_of_length_le (l := z) (i := i) (by omega), ht, List.take_of_length_le (by omega)]
    rw [this]
    exact Ev.now _
  | succ d ih =>
    intro i z hi hz ht
    have hlt : i < x.length := by omega
    have hg : (x.map cvS75_S73)[i]'(by omega) = cvS75_S73 (x[i]) := by simp
    have hst := set_take (l := x.map cvS75_S73) (z := z) (i := i) (by omega) (by omega) ht
    rw [hg] at hst
    refine Ev.step (f := fun k => (laws_toTest.f (x[i].f0) (x[i].f1) (x[i].f2)).bind fun t => laws_toTestS.l0 k x (z.set i (⟨t.1, t.2.1, t.2.2⟩ : S73)) ((i + 1 : Nat) : Int)) (fun k => ?_) ?_
    · simp only [laws_toTestS.l0]
      rw [if_pos (by omega), if_pos (by omega), rd_T75_lt hlt]
      have e1 : wrap64 ((i : Int) + 1) = ((i + 1 : Nat) : Int) := by rw [w64 (by omega) (by omega)]; rfl
      rw [e1]
      simp only [show (i : Int) < (z.length : Int) from by omega, if_true, Int.toNat_natCast]
    refine Ev.bind (laws_toTest_ev x[i]) ?_
    exact ih (i + 1) _ (by omega) (by simpa using hz) hst
theorem laws_toTestS_ev (x : List (S75)) (h : x.length ≤ 1048576) : Ev (fun k => laws_toTestS.f k x) (x.map cvS75_S73) := by
  have hx : x.length ≤ 1048576 := by exact h
  unfold laws_toTestS.f
  refine Ev.pos (by omega) (Ev.pos (by omega) ?_)
  exact laws_toTestS_l x h x.length 0 _ (by omega) (by simp) (by simp)
theorem laws_toIntSS_l (x : List (List Int)) (h : szvLLInt x ≤ 1048576) (d : Nat) : ∀ (i : Nat) (z : List (List Int)), i + d = x.length → z.length = x.length → z.take i = (x).take i →
    Ev (fun k => laws_toIntSS.l0 k x z (i : Int)) (x) := by
  have hx : x.length ≤ 1048576 := by unfold szvLLInt at h; omega
  have hL : (x).length = x.length := by simp
  induction d with
  | zero =>
    intro i z hi hz ht
    refine Ev.step (f := fun _ => some z) (fun k => by simp only [laws_toIntSS.l0]; rw [if_neg (by omega)]) ?_
    have : z = x := by rw [← List.take_of_length_le (l := z) (i := i) (by omega), ht, List.take_of_length_le (by omega)]
    rw [this]
    exact Ev.now _
  | succ d ih =>
    intro i z hi hz ht
    have hlt : i < x.length := by omega
    have hg : (x)[i]'(by omega) = x[i] := by simp
    have hst := set_take (l := x) (z := z) (i := i) (by omega) (by omega) ht
    rw [hg] at hst
    refine Ev.step (f := fun k => (laws_toIntS.f k (x[i])).bind fun t => laws_toIntSS.l0 k x (z.set i t) ((i + 1 : Nat) : Int)) (fun k => ?_) ?_
    · simp only [laws_toIntSS.l0]
      rw [if_pos (by omega), if_pos (by omega), rd_L2_lt hlt]
      have e1 : wrap64 ((i : Int) + 1) = ((i + 1 : Nat) : Int) := by rw [w64 (by omega) (by omega)]; rfl
      rw [e1]
      simp only [show (i : Int) < (z.length : Int) from by omega, if_true, Int.toNat_natCast]
    refine Ev.bind (laws_toIntS_ev x[i] (by have := sum_mem (fun y => y.length) x _ (List.getElem_mem hlt); unfold szvLLInt at h; omega)) ?_
    exact ih (i + 1) _ (by omega) (by simpa using hz) hst
theorem laws_toIntSS_ev (x : List (List Int)) (h : szvLLInt x ≤ 1048576) : Ev (fun k => laws_toIntSS.f k x) (x) := by
  have hx : x.length ≤ 1048576 := by unfold szvLLInt at h; omega
  unfold laws_toIntSS.f
  refine Ev.pos (by omega) (Ev.pos (by omega) ?_)
  exact laws_toIntSS_l x h x.length 0 _ (by omega) (by simp) (by simp)
abbrev cvS52_S42 (x : S52) : S42 := ⟨x.f0, x.f1, x.f2, x.f3.map cvS75_S73, x.f4, x.f5⟩
def szvS42 (x : S42) : Nat := x.f3.length + x.f4.length + szvLLInt x.f5
theorem szcvS52_S42 (x : S52) : szvS42 (cvS52_S42 x) = szvS52 x := by simp [Function.comp_def, List.map_map, cvS52_S42, szcvLS75_LS73, szvS42, szvS52]
theorem laws_toPart_ev (x : S52) (h : szvS52 x ≤ 1048576) : Ev (fun k => laws_toPart.f k x.f0 x.f1 x.f2 x.f3 x.f4 x.f5) (x.f0, x.f1, x.f2, x.f3.map cvS75_S73, x.f4, x.f5) := by
  unfold laws_toPart.f
  have hs : szvS52 x = x.f3.length + x.f4.length + szvLLInt x.f5 := rfl
  refine Ev.bind (laws_toTestS_ev x.f3 (by omega)) ?_
  refine Ev.bind (laws_toIntS_ev x.f4 (by omega)) ?_
  refine Ev.bind (laws_toIntSS_ev x.f5 (by omega)) ?_
  exact Ev.now _
def szvLS42 (x : List (S42)) : Nat := x.length + (x.map fun y => szvS42 y).sum
theorem szcvLS52_LS42 (x : List (S52)) : szvLS42 (x.map cvS52_S42) = szvLS52 x := by simp [Function.comp_def, List.map_map, szcvS52_S42, szvLS42, szvLS52]
theorem laws_toPartS_l (x : List (S52)) (h : szvLS52 x ≤ 1048576) (d : Nat) : ∀ (i : Nat) (z : List (S42)), i + d = x.length → z.length = x.length → z.take i = (x.map cvS52_S42).take i →
    Ev (fun k => laws_toPartS.l0 k x z (i : Int)) (x.map cvS52_S42) := by
  have hx : x.length ≤ 1048576 := by unfold szvLS52 at h; omega
  have hL : (x.map cvS52_S42).length = x.length := by simp
  induction d with
  | zero =>
    intro i z hi hz ht
    refine Ev.step (f := fun _ => some z) (fun k => by simp only [laws_toPartS.l0]; rw [if_neg (by omega)]) ?_
    have : z = x.map cvS52_S42 := by rw [← List.take_of_length_le (l := z) (i := i) (by omega), ht, List.take_of_length_le (by omega)]
    rw [this]
    exact Ev.now _
  | succ d ih =>
    intro i z hi hz ht
    have hlt : i < x.length := by omega
    have hg : (x.map cvS52_S42)[i]'(by omega) = cvS52_S42 (x[i]) := by simp
    have hst := set_take (l := x.map cvS52_S42) (z := z) (i := i) (by omega) (by omega) ht
    rw [hg] at hst
    refine Ev.step (f := fun k => (laws_toPart.f k (x[i].f0) (x[i].f1) (x[i].f2) (x[i].f3) (x[i].f4) (x[i].f5)).bind fun t => laws_toPartS.l0 k x (z.set i (⟨t.1, t.2.1, t.2.2.1, t.2.2.2.1, t.2.2.2.2.1, t.2.2.2.2.2⟩ : S42)) ((i + 1 : Nat) : Int)) (fun k => ?_) ?_
    · simp only [laws_toPartS.l0]
      rw [if_pos (by omega), if_pos (by omega), rd_T52_lt hlt]
      have e1 : wrap64 ((i : Int) + 1) = ((i + 1 : Nat) : Int) := by rw [w64 (by omega) (by omega)]; rfl
      rw [e1]
      simp only [show (i : Int) < (z.length : Int) from by omega, if_true, Int.toNat_natCast]
    refine Ev.bind (laws_toPart_ev x[i] (by have := sum_mem (fun y => szvS52 y) x _ (List.getElem_mem hlt); unfold szvLS52 at h; omega)) ?_
    exact ih (i + 1) _ (by omega) (by simpa using hz) hst
theorem laws_toPartS_ev (x : List (S52)) (h : szvLS52 x ≤ 1048576) : Ev (fun k => laws_toPartS.f k x) (x.map cvS52_S42) := by
  have hx : x.length ≤ 1048576 := by unfold szvLS52 at h; omega
  unfold laws_toPartS.f
  refine Ev.pos (by omega) (Ev.pos (by omega) ?_)
  exact laws_toPartS_l x h x.length 0 _ (by omega) (by simp) (by simp)
abbrev cvS25_S31 (x : S25) : S31 := ⟨x.f0, x.f1.map cvS52_S42⟩
def szvS31 (x : S31) : Nat := x.f0.length + szvLS42 x.f1
theorem szcvS25_S31 (x : S25) : szvS31 (cvS25_S31 x) = szvS25 x := by simp [Function.comp_def, List.map_map, cvS25_S31, szcvLS52_LS42, szvS25, szvS31]
theorem laws_toView_ev (x : S25) (h : szvS25 x ≤ 1048576) : Ev (fun k => laws_toView.f k x.f0 x.f1) (x.f0, x.f1.map cvS52_S42) := by
  unfold laws_toView.f
  have hs : szvS25 x = x.f0.length + szvLS52 x.f1 := rfl
  refine Ev.bind (laws_toIntS_ev x.f0 (by omega)) ?_
  refine Ev.bind (laws_toPartS_ev x.f1 (by omega)) ?_
  exact Ev.now _
theorem laws_eqIntS_l (x : List Int) (h : x.length ≤ 1099511627776) (d : Nat) : ∀ (i : Nat), i + d = x.length → Ev (fun k => laws_eqIntS.l0 k x x (i : Int)) true := by
  have hx : x.length ≤ 1099511627776 := by exact h
  induction d with
  | zero =>
    intro i hi
    exact Ev.step (f := fun _ => some true) (fun k => by simp only [laws_eqIntS.l0]; rw [if_neg (by omega)]) (Ev.now _)
  | succ d ih =>
    intro i hi
    have hlt : i < x.length := by omega
    refine Ev.step (f := fun k => laws_eqIntS.l0 k x x ((i + 1 : Nat) : Int)) (fun k => ?_) (ih (i + 1) (by omega))
    simp only [laws_eqIntS.l0]
    rw [if_pos (by omega), if_pos (by omega), if_pos (by omega)]
    first | rw [if_pos trivial] | rw [if_pos rfl]
    rw [w64 (by omega) (by omega)]
    rfl
theorem laws_eqIntS_ev (x : List Int) (h : x.length ≤ 1099511627776) : Ev (fun k => laws_eqIntS.f k x x) true := by
  unfold laws_eqIntS.f
  exact Ev.pos rfl (laws_eqIntS_l x h x.length 0 (by omega))
theorem laws_eqTest_ev (x : S73) : Ev (fun k => laws_eqTest.f x.f0 x.f1 x.f2 x.f0 x.f1 x.f2) true := by
  unfold laws_eqTest.f
  repeat (first | (with_reducible exact Ev.now true) | (with_reducible refine Ev.pos rfl ?_) | (with_reducible refine Ev.neg (by simp; done) ?_))
theorem laws_eqTest_lv (y0 : Int) (y1 : Int) (y2 : Int) : Ev (fun k => laws_eqTest.f y0 y1 y2 y0 y1 y2) true := laws_eqTest_ev (⟨y0, y1, y2⟩ : S73)
theorem rd_T73_lt {l : List S73} {i : Nat} (h : i < l.length) : rd_T73 l (i : Int) = l[i] := by simp [rd_T73, h]
theorem laws_eqTestS_l (x : List (S73)) (h : x.length ≤ 1099511627776) (d : Nat) : ∀ (i : Nat), i + d = x.length → Ev (fun k => laws_eqTestS.l0 k x x (i : Int)) true := by
  have hx : x.length ≤ 1099511627776 := by exact h
  induction d with
  | zero =>
    intro i hi
    exact Ev.step (f := fun _ => some true) (fun k => by simp only [laws_eqTestS.l0]; rw [if_neg (by omega)]) (Ev.now _)
  | succ d ih =>
    intro i hi
    have hlt : i < x.length := by omega
    refine Ev.step (f := fun k => (laws_eqTest.f (x[i].f0) (x[i].f1) (x[i].f2) (x[i].f0) (x[i].f1) (x[i].f2)).bind fun t => if t = true then laws_eqTestS.l0 k x x ((i + 1 : Nat) : Int) else some false) (fun k => ?_) ?_
    · simp only [laws_eqTestS.l0]
      rw [if_pos (by omega), if_pos (by omega), if_pos (by omega), rd_T73_lt hlt, w64 (by omega) (by omega)]
      rfl
    refine Ev.bind (laws_eqTest_ev x[i]) ?_
    exact Ev.pos rfl (ih (i + 1) (by omega))
theorem laws_eqTestS_ev (x : List (S73)) (h : x.length ≤ 1099511627776) : Ev (fun k => laws_eqTestS.f k x x) true := by
  unfold laws_eqTestS.f
  exact Ev.pos rfl (laws_eqTestS_l x h x.length 0 (by omega))
theorem laws_eqIntSS_l (x : List (List Int)) (h : szvLLInt x ≤ 1099511627776) (d : Nat) : ∀ (i : Nat), i + d = x.length → Ev (fun k => laws_eqIntSS.l0 k x x (i : Int)) true := by
  have hx : x.length ≤ 1099511627776 := by unfold szvLLInt at h; omega
  induction d with
  | zero =>
    intro i hi
    exact Ev.step (f := fun _ => some true) (fun k => by simp only [laws_eqIntSS.l0]; rw [if_neg (by omega)]) (Ev.now _)
  | succ d ih =>
    intro i hi
    have hlt : i < x.length := by omega
    refine Ev.step (f := fun k => (laws_eqIntS.f k (x[i]) (x[i])).bind fun t => if t = true then laws_eqIntSS.l0 k x x ((i + 1 : Nat) : Int) else some false) (fun k => ?_) ?_
    · simp only [laws_eqIntSS.l0]
      rw [if_pos (by omega), if_pos (by omega), if_pos (by omega), rd_L2_lt hlt, w64 (by omega) (by omega)]
      rfl
    refine Ev.bind (laws_eqIntS_ev x[i] (by have := sum_mem (fun y => y.length) x _ (List.getElem_mem hlt); unfold szvLLInt at h; omega)) ?_
    exact Ev.pos rfl (ih (i + 1) (by omega))
theorem laws_eqIntSS_ev (x : List (List Int)) (h : szvLLInt x ≤ 1099511627776) : Ev (fun k => laws_eqIntSS.f k x x) true := by
  unfold laws_eqIntSS.f
  exact Ev.pos rfl (laws_eqIntSS_l x h x.length 0 (by omega))
theorem laws_eqPart_ev (x : S42) (h : szvS42 x ≤ 1099511627776) : Ev (fun k => laws_eqPart.f k x.f0 x.f1 x.f2 x.f3 x.f4 x.f5 x.f0 x.f1 x.f2 x.f3 x.f4 x.f5) true := by
  unfold laws_eqPart.f
  have hs : szvS42 x = x.f3.length + x.f4.length + szvLLInt x.f5 := rfl
  repeat (first | (with_reducible exact Ev.now true) | (with_reducible refine Ev.pos rfl ?_) | (with_reducible refine Ev.neg (by simp; done) ?_) | (with_reducible refine Ev.bind (laws_eqIntS_ev _ (by omega)) ?_) | (with_reducible refine Ev.bind (laws_eqTestS_ev _ (by omega)) ?_) | (with_reducible refine Ev.bind (laws_eqIntSS_ev _ (by omega)) ?_))
theorem laws_eqPart_lv (y0 : Int) (y1 : Int) (y2 : Int) (y3 : List (S73)) (y4 : List Int) (y5 : List (List Int)) (h : y3.length + y4.length + szvLLInt y5 ≤ 1099511627776) : Ev (fun k => laws_eqPart.f k y0 y1 y2 y3 y4 y5 y0 y1 y2 y3 y4 y5) true := laws_eqPart_ev (⟨y0, y1, y2, y3, y4, y5⟩ : S42) h
theorem rd_T42_lt {l : List S42} {i : Nat} (h : i < l.length) : rd_T42 l (i : Int) = l[i] := by simp [rd_T42, h]
theorem laws_eqPartS_l (x : List (S42)) (h : szvLS42 x ≤ 1099511627776) (d : Nat) : ∀ (i : Nat), i + d = x.length → Ev (fun k => laws_eqPartS.l0 k x x (i : Int)) true := by
  have hx : x.length ≤ 1099511627776 := by unfold szvLS42 at h; omega
  induction d with
  | zero =>
    intro i hi
    exact Ev.step (f := fun _ => some true) (fun k => by simp only [laws_eqPartS.l0]; rw [if_neg (by omega)]) (Ev.now _)
  | succ d ih =>
    intro i hi
    have hlt : i < x.length := by omega
    refine Ev.step (f := fun k => (laws_eqPart.f k (x[i].f0) (x[i].f1) (x[i].f2) (x[i].f3) (x[i].f4) (x[i].f5) (x[i].f0) (x[i].f1) (x[i].f2) (x[i].f3) (x[i].f4) (x[i].f5)).bind fun t => if t = true then laws_eqPartS.l0 k x x ((i + 1 : Nat) : Int) else some false) (fun k => ?_) ?_
    · simp only [laws_eqPartS.l0]
      rw [if_pos (by omega), if_pos (by omega), if_pos (by omega), rd_T42_lt hlt, w64 (by omega) (by omega)]
      rfl
    refine Ev.bind (laws_eqPart_ev x[i] (by have := sum_mem (fun y => szvS42 y) x _ (List.getElem_mem hlt); unfold szvLS42 at h; omega)) ?_
    exact Ev.pos rfl (ih (i + 1) (by omega))
theorem laws_eqPartS_ev (x : List (S42)) (h : szvLS42 x ≤ 1099511627776) : Ev (fun k => laws_eqPartS.f k x x) true := by
  unfold laws_eqPartS.f
  exact Ev.pos rfl (laws_eqPartS_l x h x.length 0 (by omega))
theorem laws_eqView_ev (x : S31) (h : szvS31 x ≤ 1099511627776) : Ev (fun k => laws_eqView.f k x.f0 x.f1 x.f0 x.f1) true := by
  unfold laws_eqView.f
  have hs : szvS31 x = x.f0.length + szvLS42 x.f1 := rfl
  repeat (first | (with_reducible exact Ev.now true) | (with_reducible refine Ev.pos rfl ?_) | (with_reducible refine Ev.neg (by simp; done) ?_) | (with_reducible refine Ev.bind (laws_eqIntS_ev _ (by omega)) ?_) | (with_reducible refine Ev.bind (laws_eqPartS_ev _ (by omega)) ?_))
theorem laws_eqView_lv (y0 : List Int) (y1 : List (S42)) (h : y0.length + szvLS42 y1 ≤ 1099511627776) : Ev (fun k => laws_eqView.f k y0 y1 y0 y1) true := laws_eqView_ev (⟨y0, y1⟩ : S31) h
/-- What is left to show: the program's function and the reference answer alike. -/
def Core : Prop := ∀ x0 : S31, szvS31 x0 ≤ 1048576 → ∃ v : Bool × Bool, Ev (fun k => spec_IsLinear.f k x0.f0 x0.f1) v ∧ Ev (fun k => impl_IsLinear.f k x0.f0 x0.f1) v
theorem law (core : Core) : laws_FnExactIsLinear.Pure := by
  intro x0 hwx0
  apply Ev.rounds
  unfold laws_FnExactIsLinear.f
  refine Ev.bind (laws_szView_ev x0 (1048576) hwx0 (by omega) (by omega)) ?_
  by_cases g0 : ((szvS25 x0 : Nat) : Int) ≤ 1048576
  case neg =>
    rw [if_neg g0]
    exact Ev.pos (by omega) (Ev.now true)
  rw [if_pos g0]
  refine Ev.neg (by omega) ?_
  have zx0 : szvS31 (cvS25_S31 x0) ≤ 1048576 := by rw [szcvS25_S31]; omega
  have yx0 : szvS25 x0 ≤ 1048576 := by omega
  obtain ⟨v, hs, hi⟩ := core (cvS25_S31 x0) zx0
  repeat (first | (with_reducible exact Ev.now true) | (with_reducible refine Ev.bind hs ?_) | (with_reducible refine Ev.bind hi ?_) | (with_reducible refine Ev.bind (laws_toIntS_ev _ (by first | assumption | omega)) ?_) | (with_reducible refine Ev.bind (laws_toTest_ev _) ?_) | (with_reducible refine Ev.bind (laws_toTestS_ev _ (by first | assumption | omega)) ?_) | (with_reducible refine Ev.bind (laws_toIntSS_ev _ (by first | assumption | omega)) ?_) | (with_reducible refine Ev.bind (laws_toPart_ev _ (by first | assumption | omega)) ?_) | (with_reducible refine Ev.bind (laws_toPartS_ev _ (by first | assumption | omega)) ?_) | (with_reducible refine Ev.bind (laws_toView_ev _ (by first | assumption | omega)) ?_) | (with_reducible refine Ev.bind (laws_eqIntS_ev _ (by first | assumption | omega | (dsimp only; omega) | (simp only [szvS25, szvS31] at *; omega))) ?_) | (with_reducible refine Ev.bind (laws_eqTest_lv _ _ _) ?_) | (with_reducible refine Ev.bind (laws_eqTestS_ev _ (by first | assumption | omega | (dsimp only; omega) | (simp only [szvS25, szvS31] at *; omega))) ?_) | (with_reducible refine Ev.bind (laws_eqIntSS_ev _ (by first | assumption | omega | (dsimp only; omega) | (simp only [szvS25, szvS31] at *; omega))) ?_) | (with_reducible refine Ev.bind (laws_eqPart_lv _ _ _ _ _ _ (by first | assumption | omega | (dsimp only; omega) | (simp only [szvS25, szvS31] at *; omega))) ?_) | (with_reducible refine Ev.bind (laws_eqPartS_ev _ (by first | assumption | omega | (dsimp only; omega) | (simp only [szvS25, szvS31] at *; omega))) ?_) | (with_reducible refine Ev.bind (laws_eqView_lv _ _ (by first | assumption | omega | (dsimp only; omega) | (simp only [szvS25, szvS31] at *; omega))) ?_) | (with_reducible refine Ev.pos rfl ?_) | (with_reducible refine Ev.neg (by first | omega | simp) ?_))
end Go.Proofs.Ytaddemalepndfab.HFnExactIsLinear
