/- What the helpers of the law FnExactWitnessFor compute, in plain words: printed by a program of this claim's own. No conditions. -/
import Derived.Test.YtaddemalepndfahG1
import Derived.Test.YtaddemalepndfahG7
import Derived.Test.YtaddemalepndfahG8
import Derived.Test.YtaddemalepndfahG12
import Derived.Test.YtaddemalepndfahG13
import Derived.Test.YtaddemalepndfahG14
import Derived.Test.YtaddemalepndfahG15
import Derived.Test.YtaddemalepndfahG16
import Derived.Test.YtaddemalepndfahQBase
namespace Go.Proofs.Ytaddemalepndfah.HFnExactWitnessFor
open Go.RowKit Go.Proofs.Ytaddemalepndfah.G Go.Proofs.Ytaddemalepndfah.X Go.Proofs.Ytaddemalepndfah.Pure Go.Proofs.YtaddemalepndfahW.PrintWords Go.Proofs.YtaddemalepndfahW.PrintLast
set_option linter.unusedVariables false
set_option linter.unusedSimpArgs false

theorem laws_szIntS_ev (x : List Int) (a : Int) (hw : (x.length ≤ 9223372036854775807 ∧ ∀ x0_ ∈ x, (-9223372036854775808 ≤ x0_ ∧ x0_ ≤ 9223372036854775807))) (h0 : 0 ≤ a) (h1 : a ≤ 1048576) : Ev (fun k => laws_szIntS.f x a) (if ((x.length : Nat) : Int) ≤ a then a - ((x.length : Nat) : Int) else -1) := by
  have hx := hw.1
  refine Ev.const ?_
  unfold laws_szIntS.f
  rw [w64 (by omega) (by omega)]
  by_cases h : (x.length : Int) ≤ a
  · rw [if_neg (by omega), if_pos h]
  · rw [if_pos (by omega), if_neg h]
def szvS25 (x : S25) : Nat := x.f0.length + x.f1.length
theorem laws_szDepend_ev (x : S25) (a : Int) (hw : wf25 x) (h0 : 0 ≤ a) (h1 : a ≤ 1048576) : Ev (fun k => laws_szDepend.f x.f0 x.f1 a) (if ((szvS25 x : Nat) : Int) ≤ a then a - ((szvS25 x : Nat) : Int) else -1) := by
  unfold wf25 at hw
  obtain ⟨w0, w1⟩ := hw
  unfold laws_szDepend.f
  have hs : szvS25 x = x.f0.length + x.f1.length := rfl
  refine Ev.bind (laws_szIntS_ev x.f0 (a) w0 (by omega) (by omega)) ?_
  by_cases c0 : ((x.f0.length : Nat) : Int) ≤ a
  case neg =>
    rw [if_neg c0]
    exact Ev.pos (by omega) (Ev.eq (Ev.now _) (by rw [if_neg (by omega)]))
  rw [if_pos c0]
  refine Ev.neg (by omega) ?_
  refine Ev.bind (laws_szIntS_ev x.f1 (a - ((x.f0.length : Nat) : Int)) w1 (by omega) (by omega)) ?_
  by_cases c1 : ((x.f1.length : Nat) : Int) ≤ a - ((x.f0.length : Nat) : Int)
  case neg =>
    rw [if_neg c1]
    exact Ev.pos (by omega) (Ev.eq (Ev.now _) (by rw [if_neg (by omega)]))
  rw [if_pos c1]
  refine Ev.neg (by omega) ?_
  exact Ev.eq (Ev.now _) (by rw [if_pos (by omega)]; omega)
def szvLS25 (x : List (S25)) : Nat := x.length + (x.map fun y => szvS25 y).sum
theorem rd_T25_lt {l : List S25} {i : Nat} (h : i < l.length) : rd_T25 l (i : Int) = l[i] := by simp [rd_T25, h]
theorem laws_szDependS_l (x : List (S25)) (hw : (x.length ≤ 9223372036854775807 ∧ ∀ x0_ ∈ x, wf25 x0_)) (d : Nat) : ∀ (i : Nat) (a : Int), i + d = x.length → 0 ≤ a → a ≤ 1048576 →
    Ev (fun k => laws_szDependS.l0 k x a (i : Int)) (if ((((x.drop i).map fun y => szvS25 y).sum : Nat) : Int) ≤ a then a - ((((x.drop i).map fun y => szvS25 y).sum : Nat) : Int) else -1) := by
  have hx := hw.1
  induction d with
  | zero =>
    intro i a hi h0 h1
    refine Ev.step (f := fun _ => some a) (fun k => by simp only [laws_szDependS.l0]; rw [if_neg (by omega)]) (Ev.eq (Ev.now _) ?_)
    rw [List.drop_of_length_le (by omega)]
    simp; omega
  | succ d ih =>
    intro i a hi h0 h1
    have hlt : i < x.length := by omega
    have hs : ((x.drop i).map fun y => szvS25 y).sum = szvS25 (x[i]) + ((x.drop (i + 1)).map fun y => szvS25 y).sum := by rw [drop_cons hlt, List.map_cons, List.sum_cons]
    refine Ev.step (f := fun k => (laws_szDepend.f (x[i].f0) (x[i].f1) a).bind fun t => if t < 0 then some (-1) else laws_szDependS.l0 k x t ((i + 1 : Nat) : Int)) (fun k => ?_) ?_
    · simp only [laws_szDependS.l0]
      rw [if_pos (by omega), if_pos (by omega), rd_T25_lt hlt, w64 (by omega) (by omega)]
      rfl
    refine Ev.bind (laws_szDepend_ev x[i] a (hw.2 _ (List.getElem_mem hlt)) h0 h1) ?_
    by_cases c : ((szvS25 (x[i]) : Nat) : Int) ≤ a
    · rw [if_pos c]
      refine Ev.neg (by omega) (Ev.eq (ih (i + 1) (a - ((szvS25 (x[i]) : Nat) : Int)) (by omega) (by omega) (by omega)) ?_)
      rw [hs]
      by_cases c2 : ((szvS25 (x[i]) + ((x.drop (i + 1)).map fun y => szvS25 y).sum : Nat) : Int) ≤ a
      · rw [if_pos c2, if_pos (by omega)]; omega
      · rw [if_neg c2, if_neg (by omega)]
    · rw [if_neg c]
      refine Ev.pos (by omega) (Ev.eq (Ev.now _) ?_)
      rw [hs, if_neg (by omega)]
theorem laws_szDependS_ev (x : List (S25)) (a : Int) (hw : (x.length ≤ 9223372036854775807 ∧ ∀ x0_ ∈ x, wf25 x0_)) (h0 : 0 ≤ a) (h1 : a ≤ 1048576) : Ev (fun k => laws_szDependS.f k x a) (if ((szvLS25 x : Nat) : Int) ≤ a then a - ((szvLS25 x : Nat) : Int) else -1) := by
  have hx := hw.1
  unfold laws_szDependS.f
  rw [w64 (by omega) (by omega)]
  by_cases c : (x.length : Int) ≤ a
  · refine Ev.neg (by omega) (Ev.eq (laws_szDependS_l x hw x.length 0 (a - x.length) (by omega) (by omega) (by omega)) ?_)
    simp only [List.drop_zero]
    have hs : szvLS25 x = x.length + (x.map fun y => szvS25 y).sum := rfl
    by_cases c2 : ((szvLS25 x : Nat) : Int) ≤ a
    · rw [if_pos c2, if_pos (by omega)]; omega
    · rw [if_neg c2, if_neg (by omega)]
  · refine Ev.pos (by omega) (Ev.eq (Ev.now _) ?_)
    have hs : szvLS25 x = x.length + (x.map fun y => szvS25 y).sum := rfl
    rw [if_neg (by omega)]
theorem laws_toIntS_l (x : List Int) (h : x.length ≤ 1048576) (d : Nat) : ∀ (i : Nat) (z : List Int), i + d = x.length → z.length = x.length → z.take i = (x).take i →
    Ev (fun k => laws_toIntS.l0 k x z (i : Int)) (x) := by
  have hx : x.length ≤ 1048576 := by exact h
  have hL : (x).length = x.length := by simp
  induction d with
  | zero =>
    intro i z hi hz ht
    refine Ev.step (f := fun _ => some z) (fun k => by simp only [laws_toIntS.l0]; rw [if_neg (by omega)]) ?_
    have : z = x := by rw [← List.take_of_length_le (l := z) (i := i) (by omega), ht, List.take_of_length_le (by omega)]
    rw [this]
    exact Ev.now _
  | succ d ih =>
    intro i z hi hz ht
    have hlt : i < x.length := by omega
    have hg : (x)[i]'(by omega) = x[i] := by simp
    have hst := set_take (l := x) (z := z) (i := i) (by omega) (by omega) ht
    rw [hg] at hst
    refine Ev.step (f := fun k => laws_toIntS.l0 k x (z.set i (x[i])) ((i + 1 : Nat) : Int)) (fun k => ?_) (ih (i + 1) _ (by omega) (by simpa using hz) hst)
    simp only [laws_toIntS.l0]
    rw [if_pos (by omega), if_pos (by omega), if_pos (by omega), rd_lt hlt, w64 (by omega) (by omega)]
    rfl
theorem laws_toIntS_ev (x : List Int) (h : x.length ≤ 1048576) : Ev (fun k => laws_toIntS.f k x) (x) := by
  have hx : x.length ≤ 1048576 := by exact h
  unfold laws_toIntS.f
  refine Ev.pos (by omega) (Ev.pos (by omega) ?_)
  exact laws_toIntS_l x h x.length 0 _ (by omega) (by simp) (by simp)
abbrev cvS25_S35 (x : S25) : S35 := ⟨x.f0, x.f1⟩
def szvS35 (x : S35) : Nat := x.f0.length + x.f1.length
theorem szcvS25_S35 (x : S25) : szvS35 (cvS25_S35 x) = szvS25 x := by simp [Function.comp_def, List.map_map, cvS25_S35, szvS25, szvS35]
theorem laws_toDepend_ev (x : S25) (h : szvS25 x ≤ 1048576) : Ev (fun k => laws_toDepend.f k x.f0 x.f1) (x.f0, x.f1) := by
  unfold laws_toDepend.f
  have hs : szvS25 x = x.f0.length + x.f1.length := rfl
  refine Ev.bind (laws_toIntS_ev x.f0 (by omega)) ?_
  refine Ev.bind (laws_toIntS_ev x.f1 (by omega)) ?_
  exact Ev.now _
def szvLS35 (x : List (S35)) : Nat := x.length + (x.map fun y => szvS35 y).sum
theorem szcvLS25_LS35 (x : List (S25)) : szvLS35 (x.map cvS25_S35) = szvLS25 x := by simp [Function.comp_def, List.map_map, szcvS25_S35, szvLS25, szvLS35]
theorem laws_toDependS_l (x : List (S25)) (h : szvLS25 x ≤ 1048576) (d : Nat) : ∀ (i : Nat) (z : List (S35)), i + d = x.length → z.length = x.length → z.take i = (x.map cvS25_S35).take i →
    Ev (fun k => laws_toDependS.l0 k x z (i : Int)) (x.map cvS25_S35) := by
  have hx : x.length ≤ 1048576 := by unfold szvLS25 at h; omega
  have hL : (x.map cvS25_S35).length = x.length := by simp
  induction d with
  | zero =>
    intro i z hi hz ht
    refine Ev.step (f := fun _ => some z) (fun k => by simp only [laws_toDependS.l0]; rw [if_neg (by omega)]) ?_
    have : z = x.map cvS25_S35 := by rw [← List.take_of_length_le (l := z) (i := i) (by omega), ht, List.take_of_length_le (by omega)]
    rw [this]
    exact Ev.now _
  | succ d ih =>
    intro i z hi hz ht
    have hlt : i < x.length := by omega
    have hg : (x.map cvS25_S35)[i]'(by omega) = cvS25_S35 (x[i]) := by simp
    have hst := set_take (l := x.map cvS25_S35) (z := z) (i := i) (by omega) (by omega) ht
    rw [hg] at hst
    refine Ev.step (f := fun k => (laws_toDepend.f k (x[i].f0) (x[i].f1)).bind fun t => laws_toDependS.l0 k x (z.set i (⟨t.1, t.2⟩ : S35)) ((i + 1 : Nat) : Int)) (fun k => ?_) ?_
    · simp only [laws_toDependS.l0]
      rw [if_pos (by omega), if_pos (by omega), rd_T25_lt hlt]
      have e1 : wrap64 ((i : Int) + 1) = ((i + 1 : Nat) : Int) := by rw [w64 (by omega) (by omega)]; rfl
      rw [e1]
      simp only [show (i : Int) < (z.length : Int) from by omega, if_true, Int.toNat_natCast]
    refine Ev.bind (laws_toDepend_ev x[i] (by have := sum_mem (fun y => szvS25 y) x _ (List.getElem_mem hlt); unfold szvLS25 at h; omega)) ?_
    exact ih (i + 1) _ (by omega) (by simpa using hz) hst
theorem laws_toDependS_ev (x : List (S25)) (h : szvLS25 x ≤ 1048576) : Ev (fun k => laws_toDependS.f k x) (x.map cvS25_S35) := by
  have hx : x.length ≤ 1048576 := by unfold szvLS25 at h; omega
  unfold laws_toDependS.f
  refine Ev.pos (by omega) (Ev.pos (by omega) ?_)
  exact laws_toDependS_l x h x.length 0 _ (by omega) (by simp) (by simp)
theorem laws_eqIntS_l (x : List Int) (h : x.length ≤ 1099511627776) (d : Nat) : ∀ (i : Nat), i + d = x.length → Ev (fun k => laws_eqIntS.l0 k x x (i : Int)) true := by
  have hx : x.length ≤ 1099511627776 := by exact h
  induction d with
  | zero =>
    intro i hi
    exact Ev.step (f := fun _ => some true) (fun k => by simp only [laws_eqIntS.l0]; rw [if_neg (by omega)]) (Ev.now _)
  | succ d ih =>
    intro i hi
    have hlt : i < x.length := by omega
    refine Ev.step (f := fun k => laws_eqIntS.l0 k x x ((i + 1 : Nat) : Int)) (fun k => ?_) (ih (i + 1) (by omega))
    simp only [laws_eqIntS.l0]
    rw [if_pos (by omega), if_pos (by omega), if_pos (by omega)]
    first | rw [if_pos trivial] | rw [if_pos rfl]
    rw [w64 (by omega) (by omega)]
    rfl
theorem laws_eqIntS_ev (x : List Int) (h : x.length ≤ 1099511627776) : Ev (fun k => laws_eqIntS.f k x x) true := by
  unfold laws_eqIntS.f
  exact Ev.pos rfl (laws_eqIntS_l x h x.length 0 (by omega))
def szvS49 (x : S49) : Nat := x.f0.length
theorem laws_eqRow_ev (x : S49) (h : szvS49 x ≤ 1099511627776) : Ev (fun k => laws_eqRow.f k x.f0 x.f0) true := by
  unfold laws_eqRow.f
  have hs : szvS49 x = x.f0.length := rfl
  repeat (first | (with_reducible exact Ev.now true) | (with_reducible refine Ev.pos rfl ?_) | (with_reducible refine Ev.neg (by simp; done) ?_) | (with_reducible refine Ev.bind (laws_eqIntS_ev _ (by omega)) ?_))
theorem laws_eqRow_lv (y0 : List Int) (h : y0.length ≤ 1099511627776) : Ev (fun k => laws_eqRow.f k y0 y0) true := laws_eqRow_ev (⟨y0⟩ : S49) h
def szvS53 (x : S53) : Nat := szvS49 x.f0
theorem laws_eqWeighted_ev (x : S53) (h : szvS53 x ≤ 1099511627776) : Ev (fun k => laws_eqWeighted.f k x.f0.f0 x.f1 x.f0.f0 x.f1) true := by
  unfold laws_eqWeighted.f
  have hs : szvS53 x = szvS49 x.f0 := rfl
  repeat (first | (with_reducible exact Ev.now true) | (with_reducible refine Ev.pos rfl ?_) | (with_reducible refine Ev.neg (by simp; done) ?_) | (with_reducible refine Ev.bind (laws_eqRow_ev (_) (by omega)) ?_))
theorem laws_eqWeighted_lv (y0 : List Int) (y1 : Int) (h : y0.length ≤ 1099511627776) : Ev (fun k => laws_eqWeighted.f k y0 y1 y0 y1) true := laws_eqWeighted_ev (⟨(⟨y0⟩ : S49), y1⟩ : S53) h
def szvLS53 (x : List (S53)) : Nat := x.length + (x.map fun y => szvS53 y).sum
theorem rd_T53_lt {l : List S53} {i : Nat} (h : i < l.length) : rd_T53 l (i : Int) = l[i] := by simp [rd_T53, h]
theorem laws_eqWeightedS_l (x : List (S53)) (h : szvLS53 x ≤ 1099511627776) (d : Nat) : ∀ (i : Nat), i + d = x.length → Ev (fun k => laws_eqWeightedS.l0 k x x (i : Int)) true := by
  have hx : x.length ≤ 1099511627776 := by unfold szvLS53 at h; omega
  induction d with
  | zero =>
    intro i hi
    exact Ev.step (f := fun _ => some true) (fun k => by simp only [laws_eqWeightedS.l0]; rw [if_neg (by omega)]) (Ev.now _)
  | succ d ih =>
    intro i hi
    have hlt : i < x.length := by omega
    refine Ev.step (f := fun k => (laws_eqWeighted.f k (x[i].f0.f0) (x[i].f1) (x[i].f0.f0) (x[i].f1)).bind fun t => if t = true then laws_eqWeightedS.l0 k x x ((i + 1 : Nat) : Int) else some false) (fun k => ?_) ?_
    · simp only [laws_eqWeightedS.l0]
      rw [if_pos (by omega), if_pos (by omega), if_pos (by omega), rd_T53_lt hlt, w64 (by omega) (by omega)]
      rfl
    refine Ev.bind (laws_eqWeighted_ev x[i] (by have := sum_mem (fun y => szvS53 y) x _ (List.getElem_mem hlt); unfold szvLS53 at h; omega)) ?_
    exact Ev.pos rfl (ih (i + 1) (by omega))
theorem laws_eqWeightedS_ev (x : List (S53)) (h : szvLS53 x ≤ 1099511627776) : Ev (fun k => laws_eqWeightedS.f k x x) true := by
  unfold laws_eqWeightedS.f
  exact Ev.pos rfl (laws_eqWeightedS_l x h x.length 0 (by omega))
def szvS30 (x : S30) : Nat := szvLS53 x.f1
theorem laws_eqTable_ev (x : S30) (h : szvS30 x ≤ 1099511627776) : Ev (fun k => laws_eqTable.f k x.f0 x.f1 x.f0 x.f1) true := by
  unfold laws_eqTable.f
  have hs : szvS30 x = szvLS53 x.f1 := rfl
  repeat (first | (with_reducible exact Ev.now true) | (with_reducible refine Ev.pos rfl ?_) | (with_reducible refine Ev.neg (by simp; done) ?_) | (with_reducible refine Ev.bind (laws_eqWeightedS_ev _ (by omega)) ?_))
theorem laws_eqTable_lv (y0 : Int) (y1 : List (S53)) (h : szvLS53 y1 ≤ 1099511627776) : Ev (fun k => laws_eqTable.f k y0 y1 y0 y1) true := laws_eqTable_ev (⟨y0, y1⟩ : S30) h
theorem laws_eqDepend_ev (x : S35) (h : szvS35 x ≤ 1099511627776) : Ev (fun k => laws_eqDepend.f k x.f0 x.f1 x.f0 x.f1) true := by
  unfold laws_eqDepend.f
  have hs : szvS35 x = x.f0.length + x.f1.length := rfl
  repeat (first | (with_reducible exact Ev.now true) | (with_reducible refine Ev.pos rfl ?_) | (with_reducible refine Ev.neg (by simp; done) ?_) | (with_reducible refine Ev.bind (laws_eqIntS_ev _ (by omega)) ?_))
theorem laws_eqDepend_lv (y0 : List Int) (y1 : List Int) (h : y0.length + y1.length ≤ 1099511627776) : Ev (fun k => laws_eqDepend.f k y0 y1 y0 y1) true := laws_eqDepend_ev (⟨y0, y1⟩ : S35) h
theorem rd_T35_lt {l : List S35} {i : Nat} (h : i < l.length) : rd_T35 l (i : Int) = l[i] := by simp [rd_T35, h]
theorem laws_eqDependS_l (x : List (S35)) (h : szvLS35 x ≤ 1099511627776) (d : Nat) : ∀ (i : Nat), i + d = x.length → Ev (fun k => laws_eqDependS.l0 k x x (i : Int)) true := by
  have hx : x.length ≤ 1099511627776 := by unfold szvLS35 at h; omega
  induction d with
  | zero =>
    intro i hi
    exact Ev.step (f := fun _ => some true) (fun k => by simp only [laws_eqDependS.l0]; rw [if_neg (by omega)]) (Ev.now _)
  | succ d ih =>
    intro i hi
    have hlt : i < x.length := by omega
    refine Ev.step (f := fun k => (laws_eqDepend.f k (x[i].f0) (x[i].f1) (x[i].f0) (x[i].f1)).bind fun t => if t = true then laws_eqDependS.l0 k x x ((i + 1 : Nat) : Int) else some false) (fun k => ?_) ?_
    · simp only [laws_eqDependS.l0]
      rw [if_pos (by omega), if_pos (by omega), if_pos (by omega), rd_T35_lt hlt, w64 (by omega) (by omega)]
      rfl
    refine Ev.bind (laws_eqDepend_ev x[i] (by have := sum_mem (fun y => szvS35 y) x _ (List.getElem_mem hlt); unfold szvLS35 at h; omega)) ?_
    exact Ev.pos rfl (ih (i + 1) (by omega))
theorem laws_eqDependS_ev (x : List (S35)) (h : szvLS35 x ≤ 1099511627776) : Ev (fun k => laws_eqDependS.f k x x) true := by
  unfold laws_eqDependS.f
  exact Ev.pos rfl (laws_eqDependS_l x h x.length 0 (by omega))
theorem laws_markIntS_l (n : Nat) (a : Int) (h0 : 0 ≤ a) (hb : a + ((1 * n : Nat) : Int) ≤ 4611686018427387904) (d : Nat) : ∀ (i : Nat) (z : List Int), i + d = n → z.length = n → z.take i = (marks a n).take i →
    Ev (fun k => laws_markIntS.l0 k z (a + 1 * (i : Int)) (i : Int)) (a + ((1 * n : Nat) : Int), marks a n) := by
  have hm := marks_length a n
  induction d with
  | zero =>
    intro i z hi hz ht
    refine Ev.step (f := fun _ => some (a + 1 * (i : Int), z)) (fun k => by simp only [laws_markIntS.l0]; rw [if_neg (by omega)]) ?_
    have : z = marks a n := by rw [← List.take_of_length_le (l := z) (i := i) (by omega), ht, List.take_of_length_le (by omega)]
    rw [this]
    refine Ev.eq (Ev.now _) ?_
    have e : a + 1 * (i : Int) = a + ((1 * n : Nat) : Int) := by omega
    rw [e]
  | succ d ih =>
    intro i z hi hz ht
    have hlt : i < z.length := by omega
    have hst := set_take (l := marks a n) (z := z) (i := i) (by omega) (by omega) ht
    rw [marks_get] at hst
    refine Ev.step (f := fun k => laws_markIntS.l0 k (z.set i (a + (i : Int))) (a + 1 * ((i + 1 : Nat) : Int)) ((i + 1 : Nat) : Int)) (fun k => ?_) (ih (i + 1) _ (by omega) (by simpa using hz) hst)
    simp only [laws_markIntS.l0]
    rw [if_pos (by omega), if_pos (by omega)]
    rw [w64 (by omega) (by omega), w64 (by omega) (by omega), show a + 1 * (i : Int) = a + (i : Int) from by omega, show a + (i : Int) + 1 = a + 1 * ((i + 1 : Nat) : Int) from by omega]
    rfl
theorem laws_markIntS_ev (x : List Int) (a : Int) (h0 : 0 ≤ a) (hb : a + ((x.length : Nat) : Int) ≤ 4611686018427387904) : Ev (fun k => laws_markIntS.f k x a) (a + ((x.length : Nat) : Int), marks (a) x.length) := by
  unfold laws_markIntS.f
  have := laws_markIntS_l x.length a h0 (by omega) x.length 0 x (by omega) rfl (by simp)
  simpa using this
def cnLS35 : List S35 → Nat
  | [] => 0
  | y :: ys => (0 + y.f0.length + y.f1.length) + cnLS35 ys
def chLS35 : List S35 → Nat
  | [] => 0
  | y :: ys => (0 + y.f0.length + y.f1.length) + 1 + chLS35 ys
def mkLS35 : Int → List S35 → List S35
  | _, [] => []
  | a, y :: ys => (⟨marks (a) y.f0.length, marks (a + ((y.f0.length : Nat) : Int)) y.f1.length⟩ : S35) :: mkLS35 (a + ((y.f0.length : Nat) : Int) + ((y.f1.length : Nat) : Int)) ys
theorem mkLS35_len : ∀ (x : List S35) (a : Int), (mkLS35 a x).length = x.length
  | [], _ => rfl
  | y :: ys, a => by show (mkLS35 (a + ((y.f0.length : Nat) : Int) + ((y.f1.length : Nat) : Int)) ys).length + 1 = _; rw [mkLS35_len ys]; rfl
theorem cnleLS35 : ∀ x : List S35, cnLS35 x ≤ chLS35 x ∧ chLS35 x ≤ 4 * szvLS35 x
  | [] => by simp [cnLS35, chLS35]
  | y :: ys => by
    have ih := cnleLS35 ys
    have h : szvLS35 (y :: ys) = (szvS35 y) + 1 + szvLS35 ys := by unfold szvLS35; simp only [List.length_cons, List.map_cons, List.sum_cons]; omega
    have h3 : cnLS35 (y :: ys) = (0 + y.f0.length + y.f1.length) + cnLS35 ys := rfl
    have h4 : chLS35 (y :: ys) = (0 + y.f0.length + y.f1.length) + 1 + chLS35 ys := rfl
    have h5 : szvS35 y = y.f0.length + y.f1.length := by first | rfl | (simp only [szvS35])
    rw [h, h3, h4, h5]
    omega
theorem laws_markDependS_ev : ∀ (x : List (S35)) (a : Int) (h0 : 0 ≤ a) (hb : a + ((chLS35 x : Nat) : Int) ≤ 4611686018427387904), Ev (fun k => laws_markDependS.f k x a) (a + ((cnLS35 x : Nat) : Int), mkLS35 a x)
  | [], a, h0, hb => Ev.eq (Ev.const (o := some (a, [])) rfl) (by simp [cnLS35, mkLS35])
  | y :: ys, a, h0, hb => by
    have ih := laws_markDependS_ev ys
    have hn := cnleLS35 ys
    have hc : cnLS35 (y :: ys) = (0 + y.f0.length + y.f1.length) + cnLS35 ys := rfl
    have hh : chLS35 (y :: ys) = (0 + y.f0.length + y.f1.length) + 1 + chLS35 ys := rfl
    rw [hh] at hb
    simp only [laws_markDependS.f]
    skip
    refine Ev.bind (laws_markIntS_ev y.f0 (a) (by omega) (by omega)) ?_
    (try dsimp only)
    skip
    refine Ev.bind (laws_markIntS_ev y.f1 (a + ((y.f0.length : Nat) : Int)) (by omega) (by omega)) ?_
    (try dsimp only)
    skip
    refine Ev.eq (Ev.bind (ih (a + ((y.f0.length : Nat) : Int) + ((y.f1.length : Nat) : Int)) (by omega) (by omega)) (Ev.now _)) ?_
    refine Prod.ext ?_ rfl
    show (a + ((y.f0.length : Nat) : Int) + ((y.f1.length : Nat) : Int)) + ((cnLS35 ys : Nat) : Int) = a + ((cnLS35 (y :: ys) : Nat) : Int)
    rw [hc]
    omega
theorem laws_markDepend_ev (x : S35) (a : Int) (h0 : 0 ≤ a) (hb : a + ((x.f0.length + x.f1.length : Nat) : Int) ≤ 4611686018427387904) : Ev (fun k => laws_markDepend.f k x.f0 x.f1 a) (a + ((x.f0.length + x.f1.length : Nat) : Int), marks (a) x.f0.length, marks (a + ((x.f0.length : Nat) : Int)) x.f1.length) := by
  unfold laws_markDepend.f
  refine Ev.bind (laws_markIntS_ev x.f0 (a) (by omega) (by omega)) ?_
  refine Ev.bind (laws_markIntS_ev x.f1 (a + ((x.f0.length : Nat) : Int)) (by omega) (by omega)) ?_
  exact Ev.eq (Ev.now _) (by simp only [Prod.mk.injEq, and_true]; omega)
theorem laws_markDepend_lv (y0 : List Int) (y1 : List Int) (a : Int) (h0 : 0 ≤ a) (hb : a + ((y0.length + y1.length : Nat) : Int) ≤ 4611686018427387904) : Ev (fun k => laws_markDepend.f k y0 y1 a) (a + ((y0.length + y1.length : Nat) : Int), (marks (a) y0.length), (marks (a + ((y0.length : Nat) : Int)) y1.length)) := laws_markDepend_ev (⟨y0, y1⟩ : S35) a h0 hb
def cnLS53 : List S53 → Nat
  | [] => 0
  | y :: ys => (1 + y.f0.f0.length) + cnLS53 ys
def mkLS53 : Int → List S53 → List S53
  | _, [] => []
  | a, y :: ys => (⟨(⟨marks (a) y.f0.f0.length⟩ : S49), a + (y.f0.f0.length : Int)⟩ : S53) :: mkLS53 (a + (y.f0.f0.length : Int) + 1) ys
theorem mkLS53_len : ∀ (x : List S53) (a : Int), (mkLS53 a x).length = x.length
  | [], _ => rfl
  | y :: ys, a => by show (mkLS53 (a + (y.f0.f0.length : Int) + 1) ys).length + 1 = _; rw [mkLS53_len ys]; rfl
theorem cnleLS53 : ∀ x : List S53, cnLS53 x + x.length ≤ 3 * szvLS53 x
  | [] => by simp [cnLS53]
  | y :: ys => by
    have ih := cnleLS53 ys
    have h : szvLS53 (y :: ys) = (szvS53 y) + 1 + szvLS53 ys := by unfold szvLS53; simp only [List.length_cons, List.map_cons, List.sum_cons]; omega
    have h2 : y.f0.f0.length ≤ szvS53 y := by first | exact Nat.le_refl _ | (simp only [szvS49, szvS53]; omega)
    have h3 : cnLS53 (y :: ys) = (1 + y.f0.f0.length) + cnLS53 ys := rfl
    rw [h, h3, List.length_cons]
    omega
theorem laws_markWeightedS_ev : ∀ (x : List (S53)) (a : Int) (h0 : 0 ≤ a) (hb : a + (((cnLS53 x + x.length) : Nat) : Int) ≤ 4611686018427387904), Ev (fun k => laws_markWeightedS.f k x a) (a + ((cnLS53 x : Nat) : Int), mkLS53 (a) x)
  | [], a, h0, hb => Ev.eq (Ev.const (o := some (a, [])) rfl) (by simp [cnLS53, mkLS53])
  | y :: ys, a, h0, hb => by
    have ih := laws_markWeightedS_ev ys
    have hc : cnLS53 (y :: ys) = (1 + y.f0.f0.length) + cnLS53 ys := rfl
    rw [hc, List.length_cons] at hb
    have e0_ : wrap64 (a + (y.f0.f0.length : Int) + 1) = a + (y.f0.f0.length : Int) + 1 := w64 (by omega) (by omega)
    simp only [laws_markWeightedS.f]
    (try simp only [e0_])
    refine Ev.bind (laws_markIntS_ev y.f0.f0 (a) (by omega) (by omega)) ?_
    (try dsimp only)
    (try simp only [e0_])
    refine Ev.eq (Ev.bind (ih (a + (y.f0.f0.length : Int) + 1) (by omega) (by omega)) (Ev.now _)) ?_
    refine Prod.ext ?_ rfl
    show (a + (y.f0.f0.length : Int) + 1) + ((cnLS53 ys : Nat) : Int) = a + ((cnLS53 (y :: ys) : Nat) : Int)
    rw [hc]
    omega
theorem laws_markTable_ev (x : S30) (a : Int) (h0 : 0 ≤ a) (hb : a + (((cnLS53 x.f1 + x.f1.length) : Nat) : Int) ≤ 4611686018427387904) : Ev (fun k => laws_markTable.f k x.f0 x.f1 a) (a + ((cnLS53 x.f1 : Nat) : Int), mkLS53 (a) x.f1) := by
  unfold laws_markTable.f
  refine Ev.bind (laws_markWeightedS_ev x.f1 (a) (by omega) (by omega)) ?_
  exact Ev.eq (Ev.now _) (by rfl)
theorem laws_markTable_lv (y0 : Int) (y1 : List (S53)) (a : Int) (h0 : 0 ≤ a) (hb : a + (((cnLS53 y1 + y1.length) : Nat) : Int) ≤ 4611686018427387904) : Ev (fun k => laws_markTable.f k y0 y1 a) (a + ((cnLS53 y1 : Nat) : Int), (mkLS53 (a) y1)) := laws_markTable_ev (⟨y0, y1⟩ : S30) a h0 hb
theorem laws_heldIntS_l (n : Nat) (a : Int) (h0 : 0 ≤ a) (hb : a + ((1 * n : Nat) : Int) ≤ 4611686018427387904) (d : Nat) : ∀ (i : Nat), i + d = n → Ev (fun k => laws_heldIntS.l0 k (marks a n) (a + 1 * (i : Int)) (i : Int)) (a + ((1 * n : Nat) : Int)) := by
  have hm := marks_length a n
  induction d with
  | zero =>
    intro i hi
    exact Ev.step (f := fun _ => some (a + 1 * (i : Int))) (fun k => by simp only [laws_heldIntS.l0]; rw [if_neg (by omega)]) (Ev.eq (Ev.now _) (by omega))
  | succ d ih =>
    intro i hi
    have hlt : i < (marks a n).length := by omega
    refine Ev.step (f := fun k => laws_heldIntS.l0 k (marks a n) (a + 1 * ((i + 1 : Nat) : Int)) ((i + 1 : Nat) : Int)) (fun k => ?_) (ih (i + 1) (by omega))
    simp only [laws_heldIntS.l0]
    rw [if_pos (by omega), if_pos (by omega)]
    rw [rd_lt hlt, marks_get, if_pos (by omega), w64 (by omega) (by omega), w64 (by omega) (by omega), show a + 1 * (i : Int) + 1 = a + 1 * ((i + 1 : Nat) : Int) from by omega]
    rfl
theorem laws_heldIntS_ev (x : List Int) (a : Int) (h0 : 0 ≤ a) (hb : a + ((x.length : Nat) : Int) ≤ 4611686018427387904) : Ev (fun k => laws_heldIntS.f k (marks (a) x.length) a) (a + ((x.length : Nat) : Int)) := by
  unfold laws_heldIntS.f
  have := laws_heldIntS_l x.length a h0 (by omega) x.length 0 (by omega)
  simpa using this
theorem laws_heldWeightedS_l (z : List (S53)) (hz : (z.length : Int) ≤ 4611686018427387904) : ∀ (x : List (S53)) (a : Int) (i : Nat) (h0 : 0 ≤ a) (hb : a + (((cnLS53 x + x.length) : Nat) : Int) ≤ 4611686018427387904) (hd : z.drop i = mkLS53 (a) x) (hi : i ≤ z.length), Ev (fun k => laws_heldWeightedS.l0 k z a (i : Int)) (a + ((cnLS53 x : Nat) : Int))
  | [], a, i, h0, hb, hd, hi => by
    have hl : z.length ≤ i := List.drop_eq_nil_iff.1 hd
    refine Ev.eq (r := a) (Ev.step (f := fun _ => some a) (fun k => by simp only [laws_heldWeightedS.l0]; rw [if_neg (by omega)]) (Ev.now _)) (by simp [cnLS53])
  | y :: ys, a, i, h0, hb, hd, hi => by
    have ih := laws_heldWeightedS_l z hz ys
    have hc : cnLS53 (y :: ys) = (1 + y.f0.f0.length) + cnLS53 ys := rfl
    rw [hc, List.length_cons] at hb
    have hlt : i < z.length := by rcases Nat.lt_or_ge i z.length with h | h; exact h; rw [List.drop_eq_nil_iff.2 h] at hd; cases hd
    rw [drop_cons hlt] at hd
    have hd2 : z[i] :: z.drop (i + 1) = (⟨(⟨marks (a) y.f0.f0.length⟩ : S49), a + (y.f0.f0.length : Int)⟩ : S53) :: mkLS53 (a + (y.f0.f0.length : Int) + 1) ys := hd
    injection hd2 with hx_ hd3
    have e0_ : wrap64 (a + (y.f0.f0.length : Int) + 1) = a + (y.f0.f0.length : Int) + 1 := w64 (by omega) (by omega)
    have ei_ : wrap64 ((i : Int) + 1) = ((i + 1 : Nat) : Int) := by rw [w64 (by omega) (by omega)]; rfl
    refine Ev.step (f := ?f_) ?h_ ?_
    case h_ => intro k; simp only [laws_heldWeightedS.l0]; exact rfl
    refine Ev.pos (by omega) (Ev.pos (by omega) ?_)
    simp only [rd_T53_lt hlt, hx_]
    (try simp only [ei_, e0_])
    repeat (first | (with_reducible refine Ev.pos rfl ?_) | (refine Ev.bind (laws_heldIntS_ev y.f0.f0 (a) (by omega) (by omega)) ?_; (try dsimp only); (try simp only [ei_, e0_])) | (with_reducible refine Ev.neg (by omega) ?_))
    exact Ev.eq (ih (a + (y.f0.f0.length : Int) + 1) (i + 1) (by omega) (by omega) hd3 (by omega)) (by rw [hc]; omega)
theorem laws_heldWeightedS_ev (x : List (S53)) (a : Int) (h0 : 0 ≤ a) (hb : a + (((cnLS53 x + x.length) : Nat) : Int) ≤ 4611686018427387904) : Ev (fun k => laws_heldWeightedS.f k (mkLS53 (a) x) a) (a + ((cnLS53 x : Nat) : Int)) := by
  unfold laws_heldWeightedS.f
  exact laws_heldWeightedS_l (mkLS53 a x) (by rw [mkLS53_len]; omega) x a 0 h0 hb (by simp) (Nat.zero_le _)
theorem laws_heldTable_ev (x : S30) (a : Int) (h0 : 0 ≤ a) (hb : a + (((cnLS53 x.f1 + x.f1.length) : Nat) : Int) ≤ 4611686018427387904) : Ev (fun k => laws_heldTable.f k x.f0 (mkLS53 (a) x.f1) a) (a + ((cnLS53 x.f1 : Nat) : Int)) := by
  unfold laws_heldTable.f
  refine Ev.bind (laws_heldWeightedS_ev x.f1 (a) (by omega) (by omega)) ?_
  refine Ev.neg (by omega) ?_
  exact Ev.eq (Ev.now _) (by omega)
theorem laws_heldTable_lv (y0 : Int) (y1 : List (S53)) (a : Int) (h0 : 0 ≤ a) (hb : a + (((cnLS53 y1 + y1.length) : Nat) : Int) ≤ 4611686018427387904) : Ev (fun k => laws_heldTable.f k y0 (mkLS53 (a) y1) a) (a + ((cnLS53 y1 : Nat) : Int)) := laws_heldTable_ev (⟨y0, y1⟩ : S30) a h0 hb
/-- What is left to show: the program's function and the reference answer alike. -/
def Core : Prop := ∀ x0 : List (S35), szvLS35 x0 ≤ 1048576 → ∀ x1 : Int, (-9223372036854775808 ≤ x1 ∧ x1 ≤ 9223372036854775807) → ∀ x2 : S35, szvS35 x2 ≤ 1048576 → ∃ v : Int × (List (S53)) × Bool, Ev (fun k => spec_WitnessFor.f k x0 x1 x2.f0 x2.f1) v ∧ Ev (fun k => impl_WitnessFor.f k x0 x1 x2.f0 x2.f1) v ∧ szvLS53 v.2.1 ≤ 1099511627776
theorem law (core : Core) : laws_FnExactWitnessFor.Pure := by
  intro x0 hwx0 x1 hwx1 x2 hwx2
  apply Ev.rounds
  unfold laws_FnExactWitnessFor.f
  refine Ev.bind (laws_szDependS_ev x0 (1048576) hwx0 (by omega) (by omega)) ?_
  by_cases g0 : ((szvLS25 x0 : Nat) : Int) ≤ 1048576
  case neg =>
    rw [if_neg g0]
    exact Ev.pos (by omega) (Ev.now true)
  rw [if_pos g0]
  refine Ev.neg (by omega) ?_
  refine Ev.bind (laws_szDepend_ev x2 (1048576 - ((szvLS25 x0 : Nat) : Int)) hwx2 (by omega) (by omega)) ?_
  by_cases g1 : ((szvS25 x2 : Nat) : Int) ≤ 1048576 - ((szvLS25 x0 : Nat) : Int)
  case neg =>
    rw [if_neg g1]
    exact Ev.pos (by omega) (Ev.now true)
  rw [if_pos g1]
  refine Ev.neg (by omega) ?_
  have zx0 : szvLS35 (x0.map cvS25_S35) ≤ 1048576 := by rw [szcvLS25_LS35]; omega
  have zx2 : szvS35 (cvS25_S35 x2) ≤ 1048576 := by rw [szcvS25_S35]; omega
  have yx0 : szvLS25 x0 ≤ 1048576 := by omega
  have yx2 : szvS25 x2 ≤ 1048576 := by omega
  obtain ⟨v, hs, hi, hv1⟩ := core (x0.map cvS25_S35) zx0 x1 hwx1 (cvS25_S35 x2) zx2
  have := cnleLS53 v.2.1
  have := cnleLS35 (x0.map cvS25_S35)
  repeat (first | (with_reducible exact Ev.now true) | (with_reducible refine Ev.bind hs ?_) | (with_reducible refine Ev.bind hi ?_) | (with_reducible refine Ev.bind (laws_toIntS_ev _ (by first | assumption | omega)) ?_) | (with_reducible refine Ev.bind (laws_toDepend_ev _ (by first | assumption | omega)) ?_) | (with_reducible refine Ev.bind (laws_toDependS_ev _ (by first | assumption | omega)) ?_) | (with_reducible refine Ev.bind (laws_eqIntS_ev _ (by first | assumption | omega | (dsimp only; omega) | (simp only [szvLS25, szvLS35, szvS25, szvS30, szvS35] at *; omega))) ?_) | (with_reducible refine Ev.bind (laws_eqRow_lv _ (by first | assumption | omega | (dsimp only; omega) | (simp only [szvLS25, szvLS35, szvS25, szvS30, szvS35] at *; omega))) ?_) | (with_reducible refine Ev.bind (laws_eqWeighted_lv _ _ (by first | assumption | omega | (dsimp only; omega) | (simp only [szvLS25, szvLS35, szvS25, szvS30, szvS35] at *; omega))) ?_) | (with_reducible refine Ev.bind (laws_eqWeightedS_ev _ (by first | assumption | omega | (dsimp only; omega) | (simp only [szvLS25, szvLS35, szvS25, szvS30, szvS35] at *; omega))) ?_) | (with_reducible refine Ev.bind (laws_eqTable_lv _ _ (by first | assumption | omega | (dsimp only; omega) | (simp only [szvLS25, szvLS35, szvS25, szvS30, szvS35] at *; omega))) ?_) | (with_reducible refine Ev.bind (laws_eqDepend_lv _ _ (by first | assumption | omega | (dsimp only; omega) | (simp only [szvLS25, szvLS35, szvS25, szvS30, szvS35] at *; omega))) ?_) | (with_reducible refine Ev.bind (laws_eqDependS_ev _ (by first | assumption | omega | (dsimp only; omega) | (simp only [szvLS25, szvLS35, szvS25, szvS30, szvS35] at *; omega))) ?_) | (with_reducible refine Ev.bind (laws_markIntS_ev _ _ (by first | assumption | omega | (dsimp only; omega) | (simp only [szvLS25, szvLS35, szvS25, szvS30, szvS35] at *; omega)) (by first | assumption | omega | (dsimp only; omega) | (simp only [szvLS25, szvLS35, szvS25, szvS30, szvS35] at *; omega))) ?_) | (with_reducible refine Ev.bind (laws_markDependS_ev _ _ (by first | assumption | omega | (dsimp only; omega) | (simp only [szvLS25, szvLS35, szvS25, szvS30, szvS35] at *; omega)) (by first | assumption | omega | (dsimp only; omega) | (simp only [szvLS25, szvLS35, szvS25, szvS30, szvS35] at *; omega))) ?_) | (with_reducible refine Ev.bind (laws_markDepend_lv _ _ _ (by first | assumption | omega | (dsimp only; omega) | (simp only [szvLS25, szvLS35, szvS25, szvS30, szvS35] at *; omega)) (by first | assumption | omega | (dsimp only; omega) | (simp only [szvLS25, szvLS35, szvS25, szvS30, szvS35] at *; omega))) ?_) | (with_reducible refine Ev.bind (laws_markWeightedS_ev _ _ (by first | assumption | omega | (dsimp only; omega) | (simp only [szvLS25, szvLS35, szvS25, szvS30, szvS35] at *; omega)) (by first | assumption | omega | (dsimp only; omega) | (simp only [szvLS25, szvLS35, szvS25, szvS30, szvS35] at *; omega))) ?_) | (with_reducible refine Ev.bind (laws_markTable_lv _ _ _ (by first | assumption | omega | (dsimp only; omega) | (simp only [szvLS25, szvLS35, szvS25, szvS30, szvS35] at *; omega)) (by first | assumption | omega | (dsimp only; omega) | (simp only [szvLS25, szvLS35, szvS25, szvS30, szvS35] at *; omega))) ?_) | (with_reducible refine Ev.bind (laws_heldIntS_ev _ _ (by first | assumption | omega | (dsimp only; omega) | (simp only [szvLS25, szvLS35, szvS25, szvS30, szvS35] at *; omega)) (by first | assumption | omega | (dsimp only; omega) | (simp only [szvLS25, szvLS35, szvS25, szvS30, szvS35] at *; omega))) ?_) | (with_reducible refine Ev.bind (laws_heldWeightedS_ev _ _ (by first | assumption | omega | (dsimp only; omega) | (simp only [szvLS25, szvLS35, szvS25, szvS30, szvS35] at *; omega)) (by first | assumption | omega | (dsimp only; omega) | (simp only [szvLS25, szvLS35, szvS25, szvS30, szvS35] at *; omega))) ?_) | (with_reducible refine Ev.bind (laws_heldTable_lv _ _ _ (by first | assumption | omega | (dsimp only; omega) | (simp only [szvLS25, szvLS35, szvS25, szvS30, szvS35] at *; omega)) (by first | assumption | omega | (dsimp only; omega) | (simp only [szvLS25, szvLS35, szvS25, szvS30, szvS35] at *; omega))) ?_) | (with_reducible refine Ev.pos rfl ?_) | (with_reducible refine Ev.neg (by first | omega | simp) ?_))
end Go.Proofs.Ytaddemalepndfah.HFnExactWitnessFor
