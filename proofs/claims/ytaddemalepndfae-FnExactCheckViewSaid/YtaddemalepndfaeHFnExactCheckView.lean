/- What the helpers of the law FnExactCheckView compute, in plain words: printed by a program of this claim's own. No conditions. -/
import Derived.Test.YtaddemalepndfaeG1
import Derived.Test.YtaddemalepndfaeG6
import Derived.Test.YtaddemalepndfaeG7
import Derived.Test.YtaddemalepndfaeG12
import Derived.Test.YtaddemalepndfaeG13
import Derived.Test.YtaddemalepndfaeG14
import Derived.Test.YtaddemalepndfaeG15
import Derived.Test.YtaddemalepndfaeG16
import Derived.Test.YtaddemalepndfaeG17
import Derived.Test.YtaddemalepndfaeG18
import Derived.Test.YtaddemalepndfaeQBase
namespace Go.Proofs.Ytaddemalepndfae.HFnExactCheckView
open Go.RowKit Go.Proofs.Ytaddemalepndfae.G Go.Proofs.Ytaddemalepndfae.X Go.Proofs.Ytaddemalepndfae.Pure Go.Proofs.YtaddemalepndfaeW.PrintWords Go.Proofs.YtaddemalepndfaeW.PrintLast
set_option linter.unusedVariables false
set_option linter.unusedSimpArgs false

theorem laws_szIntS_ev (x : List Int) (a : Int) (hw : (x.length ≤ 9223372036854775807 ∧ ∀ x0_ ∈ x, (-9223372036854775808 ≤ x0_ ∧ x0_ ≤ 9223372036854775807))) (h0 : 0 ≤ a) (h1 : a ≤ 1048576) : Ev (fun k => laws_szIntS.f x a) (if ((x.length : Nat) : Int) ≤ a then a - ((x.length : Nat) : Int) else -1) := by
  have hx := hw.1
  refine Ev.const ?_
  unfold laws_szIntS.f
  rw [w64 (by omega) (by omega)]
  by_cases h : (x.length : Int) ≤ a
  · rw [if_neg (by omega), if_pos h]
  · rw [if_pos (by omega), if_neg h]
theorem laws_szTestS_ev (x : List (S80)) (a : Int) (hw : (x.length ≤ 9223372036854775807 ∧ ∀ x0_ ∈ x, wf80 x0_)) (h0 : 0 ≤ a) (h1 : a ≤ 1048576) : Ev (fun k => laws_szTestS.f x a) (if ((x.length : Nat) : Int) ≤ a then a - ((x.length : Nat) : Int) else -1) := by
  have hx := hw.1
  refine Ev.const ?_
  unfold laws_szTestS.f
  rw [w64 (by omega) (by omega)]
  by_cases h : (x.length : Int) ≤ a
  · rw [if_neg (by omega), if_pos h]
  · rw [if_pos (by omega), if_neg h]
def szvLLInt (x : List (List Int)) : Nat := x.length + (x.map fun y => y.length).sum
theorem rd_L2_lt {l : List (List Int)} {i : Nat} (h : i < l.length) : rd_L2 l (i : Int) = l[i] := by simp [rd_L2, h]
theorem laws_szIntSS_l (x : List (List Int)) (hw : (x.length ≤ 9223372036854775807 ∧ ∀ x0_ ∈ x, (x0_.length ≤ 9223372036854775807 ∧ ∀ x1_ ∈ x0_, (-9223372036854775808 ≤ x1_ ∧ x1_ ≤ 9223372036854775807)))) (d : Nat) : ∀ (i : Nat) (a : Int), i + d = x.length → 0 ≤ a → a ≤ 1048576 →
    Ev (fun k => laws_szIntSS.l0 k x a (i : Int)) (if ((((x.drop i).map fun y => y.length).sum : Nat) : Int) ≤ a then a - ((((x.drop i).map fun y => y.length).sum : Nat) : Int) else -1) := by
  have hx := hw.1
  induction d with
  | zero =>
    intro i a hi h0 h1
    refine Ev.step (f := fun _ => some a) (fun k => by simp only [laws_szIntSS.l0]; rw [if_neg (by omega)]) (Ev.eq (Ev.now _) ?_)
    rw [List.drop_of_length_le (by omega)]
    simp; omega
  | succ d ih =>
    intro i a hi h0 h1
    have hlt : i < x.length := by omega
    have hs : ((x.drop i).map fun y => y.length).sum = (x[i]).length + ((x.drop (i + 1)).map fun y => y.length).sum := by rw [drop_cons hlt, List.map_cons, List.sum_cons]
    refine Ev.step (f := fun k => (laws_szIntS.f (x[i]) a).bind fun t => if t < 0 then some (-1) else laws_szIntSS.l0 k x t ((i + 1 : Nat) : Int)) (fun k => ?_) ?_
    · simp only [laws_szIntSS.l0]
      rw [if_pos (by omega), if_pos (by omega), rd_L2_lt hlt, w64 (by omega) (by omega)]
      rfl
    refine Ev.bind (laws_szIntS_ev x[i] a (hw.2 _ (List.getElem_mem hlt)) h0 h1) ?_
    by_cases c : (((x[i]).length : Nat) : Int) ≤ a
    · rw [if_pos c]
      refine Ev.neg (by omega) (Ev.eq (ih (i + 1) (a - (((x[i]).length : Nat) : Int)) (by omega) (by omega) (by omega)) ?_)
      rw [hs]
      by_cases c2 : (((x[i]).length + ((x.drop (i + 1)).map fun y => y.length).sum : Nat) : Int) ≤ a
      · rw [if_pos c2, if_pos (by omega)]; omega
      · rw [if_neg c2, if_neg (by omega)]
    · rw [if_neg c]
      refine Ev.pos (by omega) (Ev.eq (Ev.now _) ?_)
      rw [hs, if_neg (by omega)]
theorem laws_szIntSS_ev (x : List (List Int)) (a : Int) (hw : (x.length ≤ 9223372036854775807 ∧ ∀ x0_ ∈ x, (x0_.length ≤ 9223372036854775807 ∧ ∀ x1_ ∈ x0_, (-9223372036854775808 ≤ x1_ ∧ x1_ ≤ 9223372036854775807)))) (h0 : 0 ≤ a) (h1 : a ≤ 1048576) : Ev (fun k => laws_szIntSS.f k x a) (if ((szvLLInt x : Nat) : Int) ≤ a then a - ((szvLLInt x : Nat) : Int) else -1) := by
  have hx := hw.1
  unfold laws_szIntSS.f
  rw [w64 (by omega) (by omega)]
  by_cases c : (x.length : Int) ≤ a
  · refine Ev.neg (by omega) (Ev.eq (laws_szIntSS_l x hw x.length 0 (a - x.length) (by omega) (by omega) (by omega)) ?_)
    simp only [List.drop_zero]
    have hs : szvLLInt x = x.length + (x.map fun y => y.length).sum := rfl
    by_cases c2 : ((szvLLInt x : Nat) : Int) ≤ a
    · rw [if_pos c2, if_pos (by omega)]; omega
    · rw [if_neg c2, if_neg (by omega)]
  · refine Ev.pos (by omega) (Ev.eq (Ev.now _) ?_)
    have hs : szvLLInt x = x.length + (x.map fun y => y.length).sum := rfl
    rw [if_neg (by omega)]
def szvS56 (x : S56) : Nat := x.f3.length + x.f4.length + szvLLInt x.f5
theorem laws_szPart_ev (x : S56) (a : Int) (hw : wf56 x) (h0 : 0 ≤ a) (h1 : a ≤ 1048576) : Ev (fun k => laws_szPart.f k x.f0 x.f1 x.f2 x.f3 x.f4 x.f5 a) (if ((szvS56 x : Nat) : Int) ≤ a then a - ((szvS56 x : Nat) : Int) else -1) := by
  unfold wf56 at hw
  obtain ⟨w0, w1, w2, w3, w4, w5⟩ := hw
  unfold laws_szPart.f
  have hs : szvS56 x = x.f3.length + x.f4.length + szvLLInt x.f5 := rfl
  refine Ev.bind (laws_szTestS_ev x.f3 (a) w3 (by omega) (by omega)) ?_
  by_cases c3 : ((x.f3.length : Nat) : Int) ≤ a
  case neg =>
    rw [if_neg c3]
    exact Ev.pos (by omega) (Ev.eq (Ev.now _) (by rw [if_neg (by omega)]))
  rw [if_pos c3]
  refine Ev.neg (by omega) ?_
  refine Ev.bind (laws_szIntS_ev x.f4 (a - ((x.f3.length : Nat) : Int)) w4 (by omega) (by omega)) ?_
  by_cases c4 : ((x.f4.length : Nat) : Int) ≤ a - ((x.f3.length : Nat) : Int)
  case neg =>
    rw [if_neg c4]
    exact Ev.pos (by omega) (Ev.eq (Ev.now _) (by rw [if_neg (by omega)]))
  rw [if_pos c4]
  refine Ev.neg (by omega) ?_
  refine Ev.bind (laws_szIntSS_ev x.f5 (a - ((x.f3.length : Nat) : Int) - ((x.f4.length : Nat) : Int)) w5 (by omega) (by omega)) ?_
  by_cases c5 : ((szvLLInt x.f5 : Nat) : Int) ≤ a - ((x.f3.length : Nat) : Int) - ((x.f4.length : Nat) : Int)
  case neg =>
    rw [if_neg c5]
    exact Ev.pos (by omega) (Ev.eq (Ev.now _) (by rw [if_neg (by omega)]))
  rw [if_pos c5]
  refine Ev.neg (by omega) ?_
  exact Ev.eq (Ev.now _) (by rw [if_pos (by omega)]; omega)
def szvLS56 (x : List (S56)) : Nat := x.length + (x.map fun y => szvS56 y).sum
theorem rd_T56_lt {l : List S56} {i : Nat} (h : i < l.length) : rd_T56 l (i : Int) = l[i] := by simp [rd_T56, h]
theorem laws_szPartS_l (x : List (S56)) (hw : (x.length ≤ 9223372036854775807 ∧ ∀ x0_ ∈ x, wf56 x0_)) (d : Nat) : ∀ (i : Nat) (a : Int), i + d = x.length → 0 ≤ a → a ≤ 1048576 →
    Ev (fun k => laws_szPartS.l0 k x a (i : Int)) (if ((((x.drop i).map fun y => szvS56 y).sum : Nat) : Int) ≤ a then a - ((((x.drop i).map fun y => szvS56 y).sum : Nat) : Int) else -1) := by
  have hx := hw.1
  induction d with
  | zero =>
    intro i a hi h0 h1
    refine Ev.step (f := fun _ => some a) (fun k => by simp only [laws_szPartS.l0]; rw [if_neg (by omega)]) (Ev.eq (Ev.now _) ?_)
    rw [List.drop_of_length_le (by omega)]
    simp; omega
  | succ d ih =>
    intro i a hi h0 h1
    have hlt : i < x.length := by omega
    have hs : ((x.drop i).map fun y => szvS56 y).sum = szvS56 (x[i]) + ((x.drop (i + 1)).map fun y => szvS56 y).sum := by rw [drop_cons hlt, List.map_cons, List.sum_cons]
    refine Ev.step (f := fun k => (laws_szPart.f k (x[i].f0) (x[i].f1) (x[i].f2) (x[i].f3) (x[i].f4) (x[i].f5) a).bind fun t => if t < 0 then some (-1) else laws_szPartS.l0 k x t ((i + 1 : Nat) : Int)) (fun k => ?_) ?_
    · simp only [laws_szPartS.l0]
      rw [if_pos (by omega), if_pos (by omega), rd_T56_lt hlt, w64 (by omega) (by omega)]
      rfl
    refine Ev.bind (laws_szPart_ev x[i] a (hw.2 _ (List.getElem_mem hlt)) h0 h1) ?_
    by_cases c : ((szvS56 (x[i]) : Nat) : Int) ≤ a
    · rw [if_pos c]
      refine Ev.neg (by omega) (Ev.eq (ih (i + 1) (a - ((szvS56 (x[i]) : Nat) : Int)) (by omega) (by omega) (by omega)) ?_)
      rw [hs]
      by_cases c2 : ((szvS56 (x[i]) + ((x.drop (i + 1)).map fun y => szvS56 y).sum : Nat) : Int) ≤ a
      · rw [if_pos c2, if_pos (by omega)]; omega
      · rw [if_neg c2, if_neg (by omega)]
    · rw [if_neg c]
      refine Ev.pos (by omega) (Ev.eq (Ev.now _) ?_)
      rw [hs, if_neg (by omega)]
theorem laws_szPartS_ev (x : List (S56)) (a : Int) (hw : (x.length ≤ 9223372036854775807 ∧ ∀ x0_ ∈ x, wf56 x0_)) (h0 : 0 ≤ a) (h1 : a ≤ 1048576) : Ev (fun k => laws_szPartS.f k x a) (if ((szvLS56 x : Nat) : Int) ≤ a then a - ((szvLS56 x : Nat) : Int) else -1) := by
  have hx := hw.1
  unfold laws_szPartS.f
  rw [w64 (by omega) (by omega)]
  by_cases c : (x.length : Int) ≤ a
  · refine Ev.neg (by omega) (Ev.eq (laws_szPartS_l x hw x.length 0 (a - x.length) (by omega) (by omega) (by omega)) ?_)
    simp only [List.drop_zero]
    have hs : szvLS56 x = x.length + (x.map fun y => szvS56 y).sum := rfl
    by_cases c2 : ((szvLS56 x : Nat) : Int) ≤ a
    · rw [if_pos c2, if_pos (by omega)]; omega
    · rw [if_neg c2, if_neg (by omega)]
  · refine Ev.pos (by omega) (Ev.eq (Ev.now _) ?_)
    have hs : szvLS56 x = x.length + (x.map fun y => szvS56 y).sum := rfl
    rw [if_neg (by omega)]
def szvS25 (x : S25) : Nat := x.f0.length + szvLS56 x.f1
theorem laws_szView_ev (x : S25) (a : Int) (hw : wf25 x) (h0 : 0 ≤ a) (h1 : a ≤ 1048576) : Ev (fun k => laws_szView.f k x.f0 x.f1 a) (if ((szvS25 x : Nat) : Int) ≤ a then a - ((szvS25 x : Nat) : Int) else -1) := by
  unfold wf25 at hw
  obtain ⟨w0, w1⟩ := hw
  unfold laws_szView.f
  have hs : szvS25 x = x.f0.length + szvLS56 x.f1 := rfl
  refine Ev.bind (laws_szIntS_ev x.f0 (a) w0 (by omega) (by omega)) ?_
  by_cases c0 : ((x.f0.length : Nat) : Int) ≤ a
  case neg =>
    rw [if_neg c0]
    exact Ev.pos (by omega) (Ev.eq (Ev.now _) (by rw [if_neg (by omega)]))
  rw [if_pos c0]
  refine Ev.neg (by omega) ?_
  refine Ev.bind (laws_szPartS_ev x.f1 (a - ((x.f0.length : Nat) : Int)) w1 (by omega) (by omega)) ?_
  by_cases c1 : ((szvLS56 x.f1 : Nat) : Int) ≤ a - ((x.f0.length : Nat) : Int)
  case neg =>
    rw [if_neg c1]
    exact Ev.pos (by omega) (Ev.eq (Ev.now _) (by rw [if_neg (by omega)]))
  rw [if_pos c1]
  refine Ev.neg (by omega) ?_
  exact Ev.eq (Ev.now _) (by rw [if_pos (by omega)]; omega)
theorem laws_toIntS_l (x : List Int) (h : x.length ≤ 1048576) (d : Nat) : ∀ (i : Nat) (z : List Int), i + d = x.length → z.length = x.length → z.take i = (x).take i →
    Ev (fun k => laws_toIntS.l0 k x z (i : Int)) (x) := by
  have hx : x.length ≤ 1048576 := by exact h
  have hL : (x).length = x.length := by simp
  induction d with
  | zero =>
    intro i z hi hz ht
    refine Ev.step (f := fun _ => some z) (fun k => by simp only [laws_toIntS.l0]; rw [if_neg (by omega)]) ?_
    have : z = x := by rw [← List.take_of_length_le (l := z) (i := i) (by omega), ht, List.take_of_length_le (by omega)]
    rw [this]
    exact Ev.now _
  | succ d ih =>
    intro i z hi hz ht
    have hlt : i < x.length := by omega
    have hg : (x)[i]'(by omega) = x[i] := by simp
    have hst := set_take (l := x) (z := z) (i := i) (by omega) (by omega) ht
    rw [hg] at hst
    refine Ev.step (f := fun k => laws_toIntS.l0 k x (z.set i (x[i])) ((i + 1 : Nat) : Int)) (fun k => ?_) (ih (i + 1) _ (by omega) (by simpa using hz) hst)
    simp only [laws_toIntS.l0]
    rw [if_pos (by omega), if_pos (by omega), if_pos (by omega), rd_lt hlt, w64 (by omega) (by omega)]
    rfl
theorem laws_toIntS_ev (x : List Int) (h : x.length ≤ 1048576) : Ev (fun k => laws_toIntS.f k x) (x) := by
  have hx : x.length ≤ 1048576 := by exact h
  unfold laws_toIntS.f
  refine Ev.pos (by omega) (Ev.pos (by omega) ?_)
  exact laws_toIntS_l x h x.length 0 _ (by omega) (by simp) (by simp)
abbrev cvS80_S71 (x : S80) : S71 := ⟨x.f0, x.f1, x.f2⟩
theorem laws_toTest_ev (x : S80) : Ev (fun k => laws_toTest.f x.f0 x.f1 x.f2) (x.f0, x.f1, x.f2) := by
  unfold laws_toTest.f
  exact Ev.now _
theorem szcvLS80_LS71 (x : List (S80)) : (x.map cvS80_S71).length = x.length := by simp [Function.comp_def, List.map_map]
theorem rd_T80_lt {l : List S80} {i : Nat} (h : i < l.length) : rd_T80 l (i : Int) = l[i] := by simp [rd_T80, h]
theorem laws_toTestS_l (x : List (S80)) (h : x.length ≤ 1048576) (d : Nat) : ∀ (i : Nat) (z : List (S71)), i + d = x.length → z.length = x.length → z.take i = (x.map cvS80_S71).take i →
    Ev (fun k => laws_toTestS.l0 k x z (i : Int)) (x.map cvS80_S71) := by
  have hx : x.length ≤ 1048576 := by exact h
  have hL : (x.map cvS80_S71).length = x.length := by simp
  induction d with
  | zero =>
    intro i z hi hz ht
    refine Ev.step (f := fun _ => some z) (fun k => by simp only [laws_toTestS.l0]; rw [if_neg (by omega)]) ?_
    have : z = x.map cvS80_S71 := by rw [← List.take_of_length_le (l := z) (i := i) (by omega), ht, List.take_of_length_le (by omega)]
    rw [this]
    exact Ev.now _
  | succ d ih =>
    intro i z hi hz ht
    have hlt : i < x.length := by omega
    have hg : (x.map cvS80_S71)[i]'(by omega) = cvS80_S71 (x[i]) := by simp
    have hst := set_take (l := x.map cvS80_S71) (z := z) (i := i) (by omega) (by omega) ht
    rw [hg] at hst
    refine Ev.step (f := fun k => (laws_toTest.f (x[i].f0) (x[i].f1) (x[i].f2)).bind fun t => laws_toTestS.l0 k x (z.set i (⟨t.1, t.2.1, t.2.2⟩ : S71)) ((i + 1 : Nat) : Int)) (fun k => ?_) ?_
    · simp only [laws_toTestS.l0]
      rw [if_pos (by omega), if_pos (by omega), rd_T80_lt hlt]
      have e1 : wrap64 ((i : Int) + 1) = ((i + 1 : Nat) : Int) := by rw [w64 (by omega) (by omega)]; rfl
      rw [e1]
      simp only [show (i : Int) < (z.length : Int) from by omega, if_true, Int.toNat_natCast]
    refine Ev.bind (laws_toTest_ev x[i]) ?_
    exact ih (i + 1) _ (by omega) (by simpa using hz) hst
theorem laws_toTestS_ev (x : List (S80)) (h : x.length ≤ 1048576) : Ev (fun k => laws_toTestS.f k x) (x.map cvS80_S71) := by
  have hx : x.length ≤ 1048576 := by exact h
  unfold laws_toTestS.f
  refine Ev.pos (by omega) (Ev.pos (by omega) ?_)
  exact laws_toTestS_l x h x.length 0 _ (by omega) (by simp) (by simp)
theorem laws_toIntSS_l (x : List (List Int)) (h : szvLLInt x ≤ 1048576) (d : Nat) : ∀ (i : Nat) (z : List (List Int)), i + d = x.length → z.length = x.length → z.take i = (x).take i →
    Ev (fun k => laws_toIntSS.l0 k x z (i : Int)) (x) := by
  have hx : x.length ≤ 1048576 := by unfold szvLLInt at h; omega
  have hL : (x).length = x.length := by simp
  induction d with
  | zero =>
    intro i z hi hz ht
    refine Ev.step (f := fun _ => some z) (fun k => by simp only [laws_toIntSS.l0]; rw [if_neg (by omega)]) ?_
    have : z = x := by rw [← List.take_of_length_le (l := z) (i := i) (by omega), ht, List.take_of_length_le (by omega)]
    rw [this]
    exact Ev.now _
  | succ d ih =>
    intro i z hi hz ht
    have hlt : i < x.length := by omega
    have hg : (x)[i]'(by omega) = x[i] := by simp
    have hst := set_take (l := x) (z := z) (i := i) (by omega) (by omega) ht
    rw [hg] at hst
    refine Ev.step (f := fun k => (laws_toIntS.f k (x[i])).bind fun t => laws_toIntSS.l0 k x (z.set i t) ((i + 1 : Nat) : Int)) (fun k => ?_) ?_
    · simp only [laws_toIntSS.l0]
      rw [if_pos (by omega), if_pos (by omega), rd_L2_lt hlt]
      have e1 : wrap64 ((i : Int) + 1) = ((i + 1 : Nat) : Int) := by rw [w64 (by omega) (by omega)]; rfl
      rw [e1]
      simp only [show (i : Int) < (z.length : Int) from by omega, if_true, Int.toNat_natCast]
    refine Ev.bind (laws_toIntS_ev x[i] (by have := sum_mem (fun y => y.length) x _ (List.getElem_mem hlt); unfold szvLLInt at h; omega)) ?_
    exact ih (i + 1) _ (by omega) (by simpa using hz) hst
theorem laws_toIntSS_ev (x : List (List Int)) (h : szvLLInt x ≤ 1048576) : Ev (fun k => laws_toIntSS.f k x) (x) := by
  have hx : x.length ≤ 1048576 := by unfold szvLLInt at h; omega
  unfold laws_toIntSS.f
  refine Ev.pos (by omega) (Ev.pos (by omega) ?_)
  exact laws_toIntSS_l x h x.length 0 _ (by omega) (by simp) (by simp)
abbrev cvS56_S47 (x : S56) : S47 := ⟨x.f0, x.f1, x.f2, x.f3.map cvS80_S71, x.f4, x.f5⟩
def szvS47 (x : S47) : Nat := x.f3.length + x.f4.length + szvLLInt x.f5
theorem szcvS56_S47 (x : S56) : szvS47 (cvS56_S47 x) = szvS56 x := by simp [Function.comp_def, List.map_map, cvS56_S47, szcvLS80_LS71, szvS47, szvS56]
theorem laws_toPart_ev (x : S56) (h : szvS56 x ≤ 1048576) : Ev (fun k => laws_toPart.f k x.f0 x.f1 x.f2 x.f3 x.f4 x.f5) (x.f0, x.f1, x.f2, x.f3.map cvS80_S71, x.f4, x.f5) := by
  unfold laws_toPart.f
  have hs : szvS56 x = x.f3.length + x.f4.length + szvLLInt x.f5 := rfl
  refine Ev.bind (laws_toTestS_ev x.f3 (by omega)) ?_
  refine Ev.bind (laws_toIntS_ev x.f4 (by omega)) ?_
  refine Ev.bind (laws_toIntSS_ev x.f5 (by omega)) ?_
  exact Ev.now _
def szvLS47 (x : List (S47)) : Nat := x.length + (x.map fun y => szvS47 y).sum
theorem szcvLS56_LS47 (x : List (S56)) : szvLS47 (x.map cvS56_S47) = szvLS56 x := by simp [Function.comp_def, List.map_map, szcvS56_S47, szvLS47, szvLS56]
theorem laws_toPartS_l (x : List (S56)) (h : szvLS56 x ≤ 1048576) (d : Nat) : ∀ (i : Nat) (z : List (S47)), i + d = x.length → z.length = x.length → z.take i = (x.map cvS56_S47).take i →
    Ev (fun k => laws_toPartS.l0 k x z (i : Int)) (x.map cvS56_S47) := by
  have hx : x.length ≤ 1048576 := by unfold szvLS56 at h; omega
  have hL : (x.map cvS56_S47).length = x.length := by simp
  induction d with
  | zero =>
    intro i z hi hz ht
    refine Ev.step (f := fun _ => some z) (fun k => by simp only [laws_toPartS.l0]; rw [if_neg (by omega)]) ?_
    have : z = x.map cvS56_S47 := by rw [← List.take_of_length_le (l := z) (i := i) (by omega), ht, List.take_of_length_le (by omega)]
    rw [this]
    exact Ev.now _
  | succ d ih =>
    intro i z hi hz ht
    have hlt : i < x.length := by omega
    have hg : (x.map cvS56_S47)[i]'(by omega) = cvS56_S47 (x[i]) := by simp
    have hst := set_take (l := x.map cvS56_S47) (z := z) (i := i) (by omega) (by omega) ht
    rw [hg] at hst
    refine Ev.step (f := fun k => (laws_toPart.f k (x[i].f0) (x[i].f1) (x[i].f2) (x[i].f3) (x[i].f4) (x[i].f5)).bind fun t => laws_toPartS.l0 k x (z.set i (⟨t.1, t.2.1, t.2.2.1, t.2.2.2.1, t.2.2.2.2.1, t.2.2.2.2.2⟩ : S47)) ((i + 1 : Nat) : Int)) (fun k => ?_) ?_
    · simp only [laws_toPartS.l0]
      rw [if_pos (by omega), if_pos (by omega), rd_T56_lt hlt]
      have e1 : wrap64 ((i : Int) + 1) = ((i + 1 : Nat) : Int) := by rw [w64 (by omega) (by omega)]; rfl
      rw [e1]
      simp only [show (i : Int) < (z.length : Int) from by omega, if_true, Int.toNat_natCast]
    refine Ev.bind (laws_toPart_ev x[i] (by have := sum_mem (fun y => szvS56 y) x _ (List.getElem_mem hlt); unfold szvLS56 at h; omega)) ?_
    exact ih (i + 1) _ (by omega) (by simpa using hz) hst
theorem laws_toPartS_ev (x : List (S56)) (h : szvLS56 x ≤ 1048576) : Ev (fun k => laws_toPartS.f k x) (x.map cvS56_S47) := by
  have hx : x.length ≤ 1048576 := by unfold szvLS56 at h; omega
  unfold laws_toPartS.f
  refine Ev.pos (by omega) (Ev.pos (by omega) ?_)
  exact laws_toPartS_l x h x.length 0 _ (by omega) (by simp) (by simp)
abbrev cvS25_S31 (x : S25) : S31 := ⟨x.f0, x.f1.map cvS56_S47⟩
def szvS31 (x : S31) : Nat := x.f0.length + szvLS47 x.f1
theorem szcvS25_S31 (x : S25) : szvS31 (cvS25_S31 x) = szvS25 x := by simp [Function.comp_def, List.map_map, cvS25_S31, szcvLS56_LS47, szvS25, szvS31]
theorem laws_toView_ev (x : S25) (h : szvS25 x ≤ 1048576) : Ev (fun k => laws_toView.f k x.f0 x.f1) (x.f0, x.f1.map cvS56_S47) := by
  unfold laws_toView.f
  have hs : szvS25 x = x.f0.length + szvLS56 x.f1 := rfl
  refine Ev.bind (laws_toIntS_ev x.f0 (by omega)) ?_
  refine Ev.bind (laws_toPartS_ev x.f1 (by omega)) ?_
  exact Ev.now _
theorem laws_eqIntS_l (x : List Int) (h : x.length ≤ 1099511627776) (d : Nat) : ∀ (i : Nat), i + d = x.length → Ev (fun k => laws_eqIntS.l0 k x x (i : Int)) true := by
  have hx : x.length ≤ 1099511627776 := by exact h
  induction d with
  | zero =>
    intro i hi
    exact Ev.step (f := fun _ => some true) (fun k => by simp only [laws_eqIntS.l0]; rw [if_neg (by omega)]) (Ev.now _)
  | succ d ih =>
    intro i hi
    have hlt : i < x.length := by omega
    refine Ev.step (f := fun k => laws_eqIntS.l0 k x x ((i + 1 : Nat) : Int)) (fun k => ?_) (ih (i + 1) (by omega))
    simp only [laws_eqIntS.l0]
    rw [if_pos (by omega), if_pos (by omega), if_pos (by omega)]
    first | rw [if_pos trivial] | rw [if_pos rfl]
    rw [w64 (by omega) (by omega)]
    rfl
theorem laws_eqIntS_ev (x : List Int) (h : x.length ≤ 1099511627776) : Ev (fun k => laws_eqIntS.f k x x) true := by
  unfold laws_eqIntS.f
  exact Ev.pos rfl (laws_eqIntS_l x h x.length 0 (by omega))
theorem laws_eqTest_ev (x : S71) : Ev (fun k => laws_eqTest.f x.f0 x.f1 x.f2 x.f0 x.f1 x.f2) true := by
  unfold laws_eqTest.f
  repeat (first | (with_reducible exact Ev.now true) | (with_reducible refine Ev.pos rfl ?_) | (with_reducible refine Ev.neg (by simp; done) ?_))
theorem laws_eqTest_lv (y0 : Int) (y1 : Int) (y2 : Int) : Ev (fun k => laws_eqTest.f y0 y1 y2 y0 y1 y2) true := laws_eqTest_ev (⟨y0, y1, y2⟩ : S71)
theorem rd_T71_lt {l : List S71} {i : Nat} (h : i < l.length) : rd_T71 l (i : Int) = l[i] := by simp [rd_T71, h]
theorem laws_eqTestS_l (x : List (S71)) (h : x.length ≤ 1099511627776) (d : Nat) : ∀ (i : Nat), i + d = x.length → Ev (fun k => laws_eqTestS.l0 k x x (i : Int)) true := by
  have hx : x.length ≤ 1099511627776 := by exact h
  induction d with
  | zero =>
    intro i hi
    exact Ev.step (f := fun _ => some true) (fun k => by simp only [laws_eqTestS.l0]; rw [if_neg (by omega)]) (Ev.now _)
  | succ d ih =>
    intro i hi
    have hlt : i < x.length := by omega
    refine Ev.step (f := fun k => (laws_eqTest.f (x[i].f0) (x[i].f1) (x[i].f2) (x[i].f0) (x[i].f1) (x[i].f2)).bind fun t => if t = true then laws_eqTestS.l0 k x x ((i + 1 : Nat) : Int) else some false) (fun k => ?_) ?_
    · simp only [laws_eqTestS.l0]
      rw [if_pos (by omega), if_pos (by omega), if_pos (by omega), rd_T71_lt hlt, w64 (by omega) (by omega)]
      rfl
    refine Ev.bind (laws_eqTest_ev x[i]) ?_
    exact Ev.pos rfl (ih (i + 1) (by omega))
theorem laws_eqTestS_ev (x : List (S71)) (h : x.length ≤ 1099511627776) : Ev (fun k => laws_eqTestS.f k x x) true := by
  unfold laws_eqTestS.f
  exact Ev.pos rfl (laws_eqTestS_l x h x.length 0 (by omega))
theorem laws_eqIntSS_l (x : List (List Int)) (h : szvLLInt x ≤ 1099511627776) (d : Nat) : ∀ (i : Nat), i + d = x.length → Ev (fun k => laws_eqIntSS.l0 k x x (i : Int)) true := by
  have hx : x.length ≤ 1099511627776 := by unfold szvLLInt at h; omega
  induction d with
  | zero =>
    intro i hi
    exact Ev.step (f := fun _ => some true) (fun k => by simp only [laws_eqIntSS.l0]; rw [if_neg (by omega)]) (Ev.now _)
  | succ d ih =>
    intro i hi
    have hlt : i < x.length := by omega
    refine Ev.step (f := fun k => (laws_eqIntS.f k (x[i]) (x[i])).bind fun t => if t = true then laws_eqIntSS.l0 k x x ((i + 1 : Nat) : Int) else some false) (fun k => ?_) ?_
    · simp only [laws_eqIntSS.l0]
      rw [if_pos (by omega), if_pos (by omega), if_pos (by omega), rd_L2_lt hlt, w64 (by omega) (by omega)]
      rfl
    refine Ev.bind (laws_eqIntS_ev x[i] (by have := sum_mem (fun y => y.length) x _ (List.getElem_mem hlt); unfold szvLLInt at h; omega)) ?_
    exact Ev.pos rfl (ih (i + 1) (by omega))
theorem laws_eqIntSS_ev (x : List (List Int)) (h : szvLLInt x ≤ 1099511627776) : Ev (fun k => laws_eqIntSS.f k x x) true := by
  unfold laws_eqIntSS.f
  exact Ev.pos rfl (laws_eqIntSS_l x h x.length 0 (by omega))
theorem laws_eqPart_ev (x : S47) (h : szvS47 x ≤ 1099511627776) : Ev (fun k => laws_eqPart.f k x.f0 x.f1 x.f2 x.f3 x.f4 x.f5 x.f0 x.f1 x.f2 x.f3 x.f4 x.f5) true := by
  unfold laws_eqPart.f
  have hs : szvS47 x = x.f3.length + x.f4.length + szvLLInt x.f5 := rfl
  repeat (first | (with_reducible exact Ev.now true) | (with_reducible refine Ev.pos rfl ?_) | (with_reducible refine Ev.neg (by simp; done) ?_) | (with_reducible refine Ev.bind (laws_eqIntS_ev _ (by omega)) ?_) | (with_reducible refine Ev.bind (laws_eqIntSS_ev _ (by omega)) ?_) | (with_reducible refine Ev.bind (laws_eqTestS_ev _ (by omega)) ?_))
theorem laws_eqPart_lv (y0 : Int) (y1 : Int) (y2 : Int) (y3 : List (S71)) (y4 : List Int) (y5 : List (List Int)) (h : y3.length + y4.length + szvLLInt y5 ≤ 1099511627776) : Ev (fun k => laws_eqPart.f k y0 y1 y2 y3 y4 y5 y0 y1 y2 y3 y4 y5) true := laws_eqPart_ev (⟨y0, y1, y2, y3, y4, y5⟩ : S47) h
theorem rd_T47_lt {l : List S47} {i : Nat} (h : i < l.length) : rd_T47 l (i : Int) = l[i] := by simp [rd_T47, h]
theorem laws_eqPartS_l (x : List (S47)) (h : szvLS47 x ≤ 1099511627776) (d : Nat) : ∀ (i : Nat), i + d = x.length → Ev (fun k => laws_eqPartS.l0 k x x (i : Int)) true := by
  have hx : x.length ≤ 1099511627776 := by unfold szvLS47 at h; omega
  induction d with
  | zero =>
    intro i hi
    exact Ev.step (f := fun _ => some true) (fun k => by simp only [laws_eqPartS.l0]; rw [if_neg (by omega)]) (Ev.now _)
  | succ d ih =>
    intro i hi
    have hlt : i < x.length := by omega
    refine Ev.step (f := fun k => (laws_eqPart.f k (x[i].f0) (x[i].f1) (x[i].f2) (x[i].f3) (x[i].f4) (x[i].f5) (x[i].f0) (x[i].f1) (x[i].f2) (x[i].f3) (x[i].f4) (x[i].f5)).bind fun t => if t = true then laws_eqPartS.l0 k x x ((i + 1 : Nat) : Int) else some false) (fun k => ?_) ?_
    · simp only [laws_eqPartS.l0]
      rw [if_pos (by omega), if_pos (by omega), if_pos (by omega), rd_T47_lt hlt, w64 (by omega) (by omega)]
      rfl
    refine Ev.bind (laws_eqPart_ev x[i] (by have := sum_mem (fun y => szvS47 y) x _ (List.getElem_mem hlt); unfold szvLS47 at h; omega)) ?_
    exact Ev.pos rfl (ih (i + 1) (by omega))
theorem laws_eqPartS_ev (x : List (S47)) (h : szvLS47 x ≤ 1099511627776) : Ev (fun k => laws_eqPartS.f k x x) true := by
  unfold laws_eqPartS.f
  exact Ev.pos rfl (laws_eqPartS_l x h x.length 0 (by omega))
theorem laws_eqView_ev (x : S31) (h : szvS31 x ≤ 1099511627776) : Ev (fun k => laws_eqView.f k x.f0 x.f1 x.f0 x.f1) true := by
  unfold laws_eqView.f
  have hs : szvS31 x = x.f0.length + szvLS47 x.f1 := rfl
  repeat (first | (with_reducible exact Ev.now true) | (with_reducible refine Ev.pos rfl ?_) | (with_reducible refine Ev.neg (by simp; done) ?_) | (with_reducible refine Ev.bind (laws_eqIntS_ev _ (by omega)) ?_) | (with_reducible refine Ev.bind (laws_eqPartS_ev _ (by omega)) ?_))
theorem laws_eqView_lv (y0 : List Int) (y1 : List (S47)) (h : y0.length + szvLS47 y1 ≤ 1099511627776) : Ev (fun k => laws_eqView.f k y0 y1 y0 y1) true := laws_eqView_ev (⟨y0, y1⟩ : S31) h
theorem laws_markIntS_l (n : Nat) (a : Int) (h0 : 0 ≤ a) (hb : a + ((1 * n : Nat) : Int) ≤ 4611686018427387904) (d : Nat) : ∀ (i : Nat) (z : List Int), i + d = n → z.length = n → z.take i = (marks a n).take i →
    Ev (fun k => laws_markIntS.l0 k z (a + 1 * (i : Int)) (i : Int)) (a + ((1 * n : Nat) : Int), marks a n) := by
  have hm := marks_length a n
  induction d with
  | zero =>
    intro i z hi hz ht
    refine Ev.step (f := fun _ => some (a + 1 * (i : Int), z)) (fun k => by simp only [laws_markIntS.l0]; rw [if_neg (by omega)]) ?_
    have : z = marks a n := by rw [← List.take_of_length_le (l := z) (i := i) (by omega), ht, List.take_of_length_le (by omega)]
    rw [this]
    refine Ev.eq (Ev.now _) ?_
    have e : a + 1 * (i : Int) = a + ((1 * n : Nat) : Int) := by omega
    rw [e]
  | succ d ih =>
    intro i z hi hz ht
    have hlt : i < z.length := by omega
    have hst := set_take (l := marks a n) (z := z) (i := i) (by omega) (by omega) ht
    rw [marks_get] at hst
    refine Ev.step (f := fun k => laws_markIntS.l0 k (z.set i (a + (i : Int))) (a + 1 * ((i + 1 : Nat) : Int)) ((i + 1 : Nat) : Int)) (fun k => ?_) (ih (i + 1) _ (by omega) (by simpa using hz) hst)
    simp only [laws_markIntS.l0]
    rw [if_pos (by omega), if_pos (by omega)]
    rw [w64 (by omega) (by omega), w64 (by omega) (by omega), show a + 1 * (i : Int) = a + (i : Int) from by omega, show a + (i : Int) + 1 = a + 1 * ((i + 1 : Nat) : Int) from by omega]
    rfl
theorem laws_markIntS_ev (x : List Int) (a : Int) (h0 : 0 ≤ a) (hb : a + ((x.length : Nat) : Int) ≤ 4611686018427387904) : Ev (fun k => laws_markIntS.f k x a) (a + ((x.length : Nat) : Int), marks (a) x.length) := by
  unfold laws_markIntS.f
  have := laws_markIntS_l x.length a h0 (by omega) x.length 0 x (by omega) rfl (by simp)
  simpa using this
def mkLS71 (a : Int) (n : Nat) : List (S71) := (List.range n).map fun j : Nat => (⟨a + 3 * (j : Int) + 0, a + 3 * (j : Int) + 1, a + 3 * (j : Int) + 2⟩ : S71)
theorem mkLS71_len (a : Int) (n : Nat) : (mkLS71 a n).length = n := by simp [mkLS71]
theorem mkLS71_get (a : Int) (n : Nat) (j : Nat) (h : j < (mkLS71 a n).length) : (mkLS71 a n)[j] = (⟨a + 3 * (j : Int) + 0, a + 3 * (j : Int) + 1, a + 3 * (j : Int) + 2⟩ : S71) := by simp [mkLS71]
theorem rd_T71_set {l : List (S71)} {i : Nat} (v : S71) (h : i < l.length) : rd_T71 (l.set i v) (i : Int) = v := by simp [rd_T71, h]
theorem laws_markTestS_l (n : Nat) (a : Int) (h0 : 0 ≤ a) (hb : a + ((3 * n : Nat) : Int) ≤ 4611686018427387904) (d : Nat) : ∀ (i : Nat) (z : List (S71)), i + d = n → z.length = n → z.take i = (mkLS71 a n).take i →
    Ev (fun k => laws_markTestS.l0 k z (a + 3 * (i : Int)) (i : Int)) (a + ((3 * n : Nat) : Int), mkLS71 a n) := by
  have hm := mkLS71_len a n
  induction d with
  | zero =>
    intro i z hi hz ht
    refine Ev.step (f := fun _ => some (a + 3 * (i : Int), z)) (fun k => by simp only [laws_markTestS.l0]; rw [if_neg (by omega)]) ?_
    have : z = mkLS71 a n := by rw [← List.take_of_length_le (l := z) (i := i) (by omega), ht, List.take_of_length_le (by omega)]
    rw [this]
    refine Ev.eq (Ev.now _) ?_
    have e : a + 3 * (i : Int) = a + ((3 * n : Nat) : Int) := by omega
    rw [e]
  | succ d ih =>
    intro i z hi hz ht
    have hlt : i < z.length := by omega
    have hst := set_take (l := mkLS71 a n) (z := z) (i := i) (by omega) (by omega) ht
    rw [mkLS71_get] at hst
    refine Ev.step (f := fun k => laws_markTestS.l0 k (z.set i ((⟨a + 3 * (i : Int) + 0, a + 3 * (i : Int) + 1, a + 3 * (i : Int) + 2⟩ : S71))) (a + 3 * ((i + 1 : Nat) : Int)) ((i + 1 : Nat) : Int)) (fun k => ?_) (ih (i + 1) _ (by omega) (by simpa using hz) hst)
    simp only [laws_markTestS.l0]
    rw [if_pos (by omega), if_pos (by omega)]
    have e0 : wrap64 ((i : Int) + 1) = ((i + 1 : Nat) : Int) := by rw [w64 (by omega) (by omega)]; rfl
    have e1 : wrap64 (a + 3 * (i : Int) + 1) = a + 3 * (i : Int) + 1 := by rw [w64 (by omega) (by omega)]
    have e2 : wrap64 (a + 3 * (i : Int) + 1 + 1) = a + 3 * (i : Int) + 2 := by rw [w64 (by omega) (by omega)]; omega
    have e3 : wrap64 (a + 3 * (i : Int) + 2 + 1) = a + 3 * (i : Int) + 3 := by rw [w64 (by omega) (by omega)]; omega
    have e9 : a + 3 * (i : Int) + 3 = a + 3 * ((i + 1 : Nat) : Int) := by omega
    simp only [Option.bind_some, Int.toNat_natCast, e0, e1, e2, e3, rd_T71_set _ hlt, List.set_set, Int.add_zero]
    rw [e9]
theorem laws_markTestS_ev (x : List (S71)) (a : Int) (h0 : 0 ≤ a) (hb : a + ((3 * x.length : Nat) : Int) ≤ 4611686018427387904) : Ev (fun k => laws_markTestS.f k x a) (a + ((3 * x.length : Nat) : Int), mkLS71 (a) x.length) := by
  unfold laws_markTestS.f
  have := laws_markTestS_l x.length a h0 (by omega) x.length 0 x (by omega) rfl (by simp)
  simpa using this
def cnLLInt : List (List Int) → Nat
  | [] => 0
  | y :: ys => (0 + y.length) + cnLLInt ys
def mkLLInt : Int → List (List Int) → List (List Int)
  | _, [] => []
  | a, y :: ys => marks (a) y.length :: mkLLInt (a + (y.length : Int)) ys
theorem mkLLInt_len : ∀ (x : List (List Int)) (a : Int), (mkLLInt a x).length = x.length
  | [], _ => rfl
  | y :: ys, a => by show (mkLLInt (a + (y.length : Int)) ys).length + 1 = _; rw [mkLLInt_len ys]; rfl
theorem cnleLLInt : ∀ x : List (List Int), cnLLInt x + x.length ≤ 2 * szvLLInt x
  | [] => by simp [cnLLInt]
  | y :: ys => by
    have ih := cnleLLInt ys
    have h : szvLLInt (y :: ys) = (y.length) + 1 + szvLLInt ys := by unfold szvLLInt; simp only [List.length_cons, List.map_cons, List.sum_cons]; omega
    have h2 : y.length ≤ y.length := by first | exact Nat.le_refl _ | (simp only [Nat.add_zero]; omega)
    have h3 : cnLLInt (y :: ys) = (0 + y.length) + cnLLInt ys := rfl
    rw [h, h3, List.length_cons]
    omega
theorem laws_markIntSS_ev : ∀ (x : List (List Int)) (a : Int) (h0 : 0 ≤ a) (hb : a + (((cnLLInt x + x.length) : Nat) : Int) ≤ 4611686018427387904), Ev (fun k => laws_markIntSS.f k x a) (a + ((cnLLInt x : Nat) : Int), mkLLInt (a) x)
  | [], a, h0, hb => Ev.eq (Ev.const (o := some (a, [])) rfl) (by simp [cnLLInt, mkLLInt])
  | y :: ys, a, h0, hb => by
    have ih := laws_markIntSS_ev ys
    have hc : cnLLInt (y :: ys) = (0 + y.length) + cnLLInt ys := rfl
    rw [hc, List.length_cons] at hb
    simp only [laws_markIntSS.f]
    skip
    refine Ev.bind (laws_markIntS_ev y (a) (by omega) (by omega)) ?_
    (try dsimp only)
    skip
    refine Ev.eq (Ev.bind (ih (a + (y.length : Int)) (by omega) (by omega)) (Ev.now _)) ?_
    refine Prod.ext ?_ rfl
    show (a + (y.length : Int)) + ((cnLLInt ys : Nat) : Int) = a + ((cnLLInt (y :: ys) : Nat) : Int)
    rw [hc]
    omega
def cnLS47 : List S47 → Nat
  | [] => 0
  | y :: ys => (3 + 3 * y.f3.length + y.f4.length + cnLLInt y.f5) + cnLS47 ys
def chLS47 : List S47 → Nat
  | [] => 0
  | y :: ys => (3 + 3 * y.f3.length + y.f4.length + (cnLLInt y.f5 + y.f5.length)) + 1 + chLS47 ys
def mkLS47 : Int → List S47 → List S47
  | _, [] => []
  | a, y :: ys => (⟨a, a + 1, a + 1 + 1, mkLS71 (a + 1 + 1 + 1) y.f3.length, marks (a + 1 + 1 + 1 + ((3 * y.f3.length : Nat) : Int)) y.f4.length, mkLLInt (a + 1 + 1 + 1 + ((3 * y.f3.length : Nat) : Int) + ((y.f4.length : Nat) : Int)) y.f5⟩ : S47) :: mkLS47 (a + 1 + 1 + 1 + ((3 * y.f3.length : Nat) : Int) + ((y.f4.length : Nat) : Int) + ((cnLLInt y.f5 : Nat) : Int)) ys
theorem mkLS47_len : ∀ (x : List S47) (a : Int), (mkLS47 a x).length = x.length
  | [], _ => rfl
  | y :: ys, a => by show (mkLS47 (a + 1 + 1 + 1 + ((3 * y.f3.length : Nat) : Int) + ((y.f4.length : Nat) : Int) + ((cnLLInt y.f5 : Nat) : Int)) ys).length + 1 = _; rw [mkLS47_len ys]; rfl
theorem cnleLS47 : ∀ x : List S47, cnLS47 x ≤ chLS47 x ∧ chLS47 x ≤ 7 * szvLS47 x
  | [] => by simp [cnLS47, chLS47]
  | y :: ys => by
    have ih := cnleLS47 ys
    have i2 := cnleLLInt y.f5
    have h : szvLS47 (y :: ys) = (szvS47 y) + 1 + szvLS47 ys := by unfold szvLS47; simp only [List.length_cons, List.map_cons, List.sum_cons]; omega
    have h3 : cnLS47 (y :: ys) = (3 + 3 * y.f3.length + y.f4.length + cnLLInt y.f5) + cnLS47 ys := rfl
    have h4 : chLS47 (y :: ys) = (3 + 3 * y.f3.length + y.f4.length + (cnLLInt y.f5 + y.f5.length)) + 1 + chLS47 ys := rfl
    have h5 : szvS47 y = y.f3.length + y.f4.length + szvLLInt y.f5 := by first | rfl | (simp only [szvLLInt, szvS47])
    rw [h, h3, h4, h5]
    omega
theorem laws_markPartS_ev : ∀ (x : List (S47)) (a : Int) (h0 : 0 ≤ a) (hb : a + ((chLS47 x : Nat) : Int) ≤ 4611686018427387904), Ev (fun k => laws_markPartS.f k x a) (a + ((cnLS47 x : Nat) : Int), mkLS47 a x)
  | [], a, h0, hb => Ev.eq (Ev.const (o := some (a, [])) rfl) (by simp [cnLS47, mkLS47])
  | y :: ys, a, h0, hb => by
    have ih := laws_markPartS_ev ys
    have hn := cnleLS47 ys
    have hc : cnLS47 (y :: ys) = (3 + 3 * y.f3.length + y.f4.length + cnLLInt y.f5) + cnLS47 ys := rfl
    have hh : chLS47 (y :: ys) = (3 + 3 * y.f3.length + y.f4.length + (cnLLInt y.f5 + y.f5.length)) + 1 + chLS47 ys := rfl
    rw [hh] at hb
    have e0_ : wrap64 (a + 1) = a + 1 := w64 (by omega) (by omega)
    have e1_ : wrap64 (a + 1 + 1) = a + 1 + 1 := w64 (by omega) (by omega)
    have e2_ : wrap64 (a + 1 + 1 + 1) = a + 1 + 1 + 1 := w64 (by omega) (by omega)
    simp only [laws_markPartS.f]
    (try simp only [e0_, e1_, e2_])
    refine Ev.bind (laws_markTestS_ev y.f3 (a + 1 + 1 + 1) (by omega) (by omega)) ?_
    (try dsimp only)
    (try simp only [e0_, e1_, e2_])
    refine Ev.bind (laws_markIntS_ev y.f4 (a + 1 + 1 + 1 + ((3 * y.f3.length : Nat) : Int)) (by omega) (by omega)) ?_
    (try dsimp only)
    (try simp only [e0_, e1_, e2_])
    refine Ev.bind (laws_markIntSS_ev y.f5 (a + 1 + 1 + 1 + ((3 * y.f3.length : Nat) : Int) + ((y.f4.length : Nat) : Int)) (by omega) (by omega)) ?_
    (try dsimp only)
    (try simp only [e0_, e1_, e2_])
    refine Ev.eq (Ev.bind (ih (a + 1 + 1 + 1 + ((3 * y.f3.length : Nat) : Int) + ((y.f4.length : Nat) : Int) + ((cnLLInt y.f5 : Nat) : Int)) (by omega) (by omega)) (Ev.now _)) ?_
    refine Prod.ext ?_ rfl
    show (a + 1 + 1 + 1 + ((3 * y.f3.length : Nat) : Int) + ((y.f4.length : Nat) : Int) + ((cnLLInt y.f5 : Nat) : Int)) + ((cnLS47 ys : Nat) : Int) = a + ((cnLS47 (y :: ys) : Nat) : Int)
    rw [hc]
    omega
theorem laws_markView_ev (x : S31) (a : Int) (h0 : 0 ≤ a) (hb : a + ((x.f0.length + chLS47 x.f1 : Nat) : Int) ≤ 4611686018427387904) : Ev (fun k => laws_markView.f k x.f0 x.f1 a) (a + ((x.f0.length + cnLS47 x.f1 : Nat) : Int), marks (a) x.f0.length, mkLS47 (a + ((x.f0.length : Nat) : Int)) x.f1) := by
  unfold laws_markView.f
  refine Ev.bind (laws_markIntS_ev x.f0 (a) (by omega) (by omega)) ?_
  refine Ev.bind (laws_markPartS_ev x.f1 (a + ((x.f0.length : Nat) : Int)) (by omega) (by omega)) ?_
  exact Ev.eq (Ev.now _) (by simp only [Prod.mk.injEq, and_true]; omega)
theorem laws_markView_lv (y0 : List Int) (y1 : List (S47)) (a : Int) (h0 : 0 ≤ a) (hb : a + ((y0.length + chLS47 y1 : Nat) : Int) ≤ 4611686018427387904) : Ev (fun k => laws_markView.f k y0 y1 a) (a + ((y0.length + cnLS47 y1 : Nat) : Int), (marks (a) y0.length), (mkLS47 (a + ((y0.length : Nat) : Int)) y1)) := laws_markView_ev (⟨y0, y1⟩ : S31) a h0 hb
theorem laws_heldIntS_l (n : Nat) (a : Int) (h0 : 0 ≤ a) (hb : a + ((1 * n : Nat) : Int) ≤ 4611686018427387904) (d : Nat) : ∀ (i : Nat), i + d = n → Ev (fun k => laws_heldIntS.l0 k (marks a n) (a + 1 * (i : Int)) (i : Int)) (a + ((1 * n : Nat) : Int)) := by
  have hm := marks_length a n
  induction d with
  | zero =>
    intro i hi
    exact Ev.step (f := fun _ => some (a + 1 * (i : Int))) (fun k => by simp only [laws_heldIntS.l0]; rw [if_neg (by omega)]) (Ev.eq (Ev.now _) (by omega))
  | succ d ih =>
    intro i hi
    have hlt : i < (marks a n).length := by omega
    refine Ev.step (f := fun k => laws_heldIntS.l0 k (marks a n) (a + 1 * ((i + 1 : Nat) : Int)) ((i + 1 : Nat) : Int)) (fun k => ?_) (ih (i + 1) (by omega))
    simp only [laws_heldIntS.l0]
    rw [if_pos (by omega), if_pos (by omega)]
    rw [rd_lt hlt, marks_get, if_pos (by omega), w64 (by omega) (by omega), w64 (by omega) (by omega), show a + 1 * (i : Int) + 1 = a + 1 * ((i + 1 : Nat) : Int) from by omega]
    rfl
theorem laws_heldIntS_ev (x : List Int) (a : Int) (h0 : 0 ≤ a) (hb : a + ((x.length : Nat) : Int) ≤ 4611686018427387904) : Ev (fun k => laws_heldIntS.f k (marks (a) x.length) a) (a + ((x.length : Nat) : Int)) := by
  unfold laws_heldIntS.f
  have := laws_heldIntS_l x.length a h0 (by omega) x.length 0 (by omega)
  simpa using this
/-- What is left to show: the program's function and the reference answer alike. -/
def Core : Prop := ∀ x0 : S31, szvS31 x0 ≤ 1048576 → ∃ v : (List Int) × Bool, Ev (fun k => spec_CheckView.f k x0.f0 x0.f1) v ∧ Ev (fun k => impl_CheckView.f k x0.f0 x0.f1) v ∧ v.1.length ≤ 1099511627776
theorem law (core : Core) : laws_FnExactCheckView.Pure := by
  intro x0 hwx0
  apply Ev.rounds
  unfold laws_FnExactCheckView.f
  refine Ev.bind (laws_szView_ev x0 (1048576) hwx0 (by omega) (by omega)) ?_
  by_cases g0 : ((szvS25 x0 : Nat) : Int) ≤ 1048576
  case neg =>
    rw [if_neg g0]
    exact Ev.pos (by omega) (Ev.now true)
  rw [if_pos g0]
  refine Ev.neg (by omega) ?_
  have zx0 : szvS31 (cvS25_S31 x0) ≤ 1048576 := by rw [szcvS25_S31]; omega
  have yx0 : szvS25 x0 ≤ 1048576 := by omega
  obtain ⟨v, hs, hi, hv0⟩ := core (cvS25_S31 x0) zx0
  have := cnleLS47 ((cvS25_S31 x0).f1)
  repeat (first | (with_reducible exact Ev.now true) | (with_reducible refine Ev.bind hs ?_) | (with_reducible refine Ev.bind hi ?_) | (with_reducible refine Ev.bind (laws_toIntS_ev _ (by first | assumption | omega)) ?_) | (with_reducible refine Ev.bind (laws_toTest_ev _) ?_) | (with_reducible refine Ev.bind (laws_toTestS_ev _ (by first | assumption | omega)) ?_) | (with_reducible refine Ev.bind (laws_toIntSS_ev _ (by first | assumption | omega)) ?_) | (with_reducible refine Ev.bind (laws_toPart_ev _ (by first | assumption | omega)) ?_) | (with_reducible refine Ev.bind (laws_toPartS_ev _ (by first | assumption | omega)) ?_) | (with_reducible refine Ev.bind (laws_toView_ev _ (by first | assumption | omega)) ?_) | (with_reducible refine Ev.bind (laws_eqIntS_ev _ (by first | assumption | omega | (dsimp only; omega) | (simp only [szvS25, szvS31] at *; omega))) ?_) | (with_reducible refine Ev.bind (laws_eqTest_lv _ _ _) ?_) | (with_reducible refine Ev.bind (laws_eqTestS_ev _ (by first | assumption | omega | (dsimp only; omega) | (simp only [szvS25, szvS31] at *; omega))) ?_) | (with_reducible refine Ev.bind (laws_eqIntSS_ev _ (by first | assumption | omega | (dsimp only; omega) | (simp only [szvS25, szvS31] at *; omega))) ?_) | (with_reducible refine Ev.bind (laws_eqPart_lv _ _ _ _ _ _ (by first | assumption | omega | (dsimp only; omega) | (simp only [szvS25, szvS31] at *; omega))) ?_) | (with_reducible refine Ev.bind (laws_eqPartS_ev _ (by first | assumption | omega | (dsimp only; omega) | (simp only [szvS25, szvS31] at *; omega))) ?_) | (with_reducible refine Ev.bind (laws_eqView_lv _ _ (by first | assumption | omega | (dsimp only; omega) | (simp only [szvS25, szvS31] at *; omega))) ?_) | (with_reducible refine Ev.bind (laws_markIntS_ev _ _ (by first | assumption | omega | (dsimp only; omega) | (simp only [szvS25, szvS31] at *; omega)) (by first | assumption | omega | (dsimp only; omega) | (simp only [szvS25, szvS31] at *; omega))) ?_) | (with_reducible refine Ev.bind (laws_markTestS_ev _ _ (by first | assumption | omega | (dsimp only; omega) | (simp only [szvS25, szvS31] at *; omega)) (by first | assumption | omega | (dsimp only; omega) | (simp only [szvS25, szvS31] at *; omega))) ?_) | (with_reducible refine Ev.bind (laws_markIntSS_ev _ _ (by first | assumption | omega | (dsimp only; omega) | (simp only [szvS25, szvS31] at *; omega)) (by first | assumption | omega | (dsimp only; omega) | (simp only [szvS25, szvS31] at *; omega))) ?_) | (with_reducible refine Ev.bind (laws_markPartS_ev _ _ (by first | assumption | omega | (dsimp only; omega) | (simp only [szvS25, szvS31] at *; omega)) (by first | assumption | omega | (dsimp only; omega) | (simp only [szvS25, szvS31] at *; omega))) ?_) | (with_reducible refine Ev.bind (laws_markView_lv _ _ _ (by first | assumption | omega | (dsimp only; omega) | (simp only [szvS25, szvS31] at *; omega)) (by first | assumption | omega | (dsimp only; omega) | (simp only [szvS25, szvS31] at *; omega))) ?_) | (with_reducible refine Ev.bind (laws_heldIntS_ev _ _ (by first | assumption | omega | (dsimp only; omega) | (simp only [szvS25, szvS31] at *; omega)) (by first | assumption | omega | (dsimp only; omega) | (simp only [szvS25, szvS31] at *; omega))) ?_) | (with_reducible refine Ev.pos rfl ?_) | (with_reducible refine Ev.neg (by first | omega | simp) ?_))
end Go.Proofs.Ytaddemalepndfae.HFnExactCheckView
