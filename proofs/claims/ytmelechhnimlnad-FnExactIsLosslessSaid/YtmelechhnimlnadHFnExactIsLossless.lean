/- What the helpers of the law FnExactIsLossless compute, in plain words: printed by a program of this claim's own. No conditions. -/
import Derived.Test.YtmelechhnimlnadG1
import Derived.Test.YtmelechhnimlnadG8
import Derived.Test.YtmelechhnimlnadG9
import Derived.Test.YtmelechhnimlnadG14
import Derived.Test.YtmelechhnimlnadG15
import Derived.Test.YtmelechhnimlnadG16
import Derived.Test.YtmelechhnimlnadQBase
namespace Go.Proofs.Ytmelechhnimlnad.HFnExactIsLossless
open Go.RowKit Go.Proofs.Ytmelechhnimlnad.G Go.Proofs.Ytmelechhnimlnad.X Go.Proofs.Ytmelechhnimlnad.Pure Go.Proofs.YtmelechhnimlnadW.PrintWords Go.Proofs.YtmelechhnimlnadW.PrintLast
set_option linter.unusedVariables false
set_option linter.unusedSimpArgs false

theorem laws_szIntS_ev (x : List Int) (a : Int) (hw : (x.length ≤ 9223372036854775807 ∧ ∀ x0_ ∈ x, (-9223372036854775808 ≤ x0_ ∧ x0_ ≤ 9223372036854775807))) (h0 : 0 ≤ a) (h1 : a ≤ 1048576) : Ev (fun k => laws_szIntS.f x a) (if ((x.length : Nat) : Int) ≤ a then a - ((x.length : Nat) : Int) else -1) := by
  have hx := hw.1
  refine Ev.const ?_
  unfold laws_szIntS.f
  rw [w64 (by omega) (by omega)]
  by_cases h : (x.length : Int) ≤ a
  · rw [if_neg (by omega), if_pos h]
  · rw [if_pos (by omega), if_neg h]
def szvS37 (x : S37) : Nat := x.f0.length + x.f1.length
theorem laws_szDepend_ev (x : S37) (a : Int) (hw : wf37 x) (h0 : 0 ≤ a) (h1 : a ≤ 1048576) : Ev (fun k => laws_szDepend.f x.f0 x.f1 a) (if ((szvS37 x : Nat) : Int) ≤ a then a - ((szvS37 x : Nat) : Int) else -1) := by
  unfold wf37 at hw
  obtain ⟨w0, w1⟩ := hw
  unfold laws_szDepend.f
  have hs : szvS37 x = x.f0.length + x.f1.length := rfl
  refine Ev.bind (laws_szIntS_ev x.f0 (a) w0 (by omega) (by omega)) ?_
  by_cases c0 : ((x.f0.length : Nat) : Int) ≤ a
  case neg =>
    rw [if_neg c0]
    exact Ev.pos (by omega) (Ev.eq (Ev.now _) (by rw [if_neg (by omega)]))
  rw [if_pos c0]
  refine Ev.neg (by omega) ?_
  refine Ev.bind (laws_szIntS_ev x.f1 (a - ((x.f0.length : Nat) : Int)) w1 (by omega) (by omega)) ?_
  by_cases c1 : ((x.f1.length : Nat) : Int) ≤ a - ((x.f0.length : Nat) : Int)
  case neg =>
    rw [if_neg c1]
    exact Ev.pos (by omega) (Ev.eq (Ev.now _) (by rw [if_neg (by omega)]))
  rw [if_pos c1]
  refine Ev.neg (by omega) ?_
  exact Ev.eq (Ev.now _) (by rw [if_pos (by omega)]; omega)
def szvLS37 (x : List (S37)) : Nat := x.length + (x.map fun y => szvS37 y).sum
theorem rd_T37_lt {l : List S37} {i : Nat} (h : i < l.length) : rd_T37 l (i : Int) = l[i] := by simp [rd_T37, h]
theorem laws_szDependS_l (x : List (S37)) (hw : (x.length ≤ 9223372036854775807 ∧ ∀ x0_ ∈ x, wf37 x0_)) (d : Nat) : ∀ (i : Nat) (a : Int), i + d = x.length → 0 ≤ a → a ≤ 1048576 →
    Ev (fun k => laws_szDependS.l0 k x a (i : Int)) (if ((((x.drop i).map fun y => szvS37 y).sum : Nat) : Int) ≤ a then a - ((((x.drop i).map fun y => szvS37 y).sum : Nat) : Int) else -1) := by
  have hx := hw.1
  induction d with
  | zero =>
    intro i a hi h0 h1
    refine Ev.step (f := fun _ => some a) (fun k => by simp only [laws_szDependS.l0]; rw [if_neg (by omega)]) (Ev.eq (Ev.now _) ?_)
    rw [List.drop_of_length_le (by omega)]
    simp; omega
  | succ d ih =>
    intro i a hi h0 h1
    have hlt : i < x.length := by omega
    have hs : ((x.drop i).map fun y => szvS37 y).sum = szvS37 (x[i]) + ((x.drop (i + 1)).map fun y => szvS37 y).sum := by rw [drop_cons hlt, List.map_cons, List.sum_cons]
    refine Ev.step (f := fun k => (laws_szDepend.f (x[i].f0) (x[i].f1) a).bind fun t => if t < 0 then some (-1) else laws_szDependS.l0 k x t ((i + 1 : Nat) : Int)) (fun k => ?_) ?_
    · simp only [laws_szDependS.l0]
      rw [if_pos (by omega), if_pos (by omega), rd_T37_lt hlt, w64 (by omega) (by omega)]
      rfl
    refine Ev.bind (laws_szDepend_ev x[i] a (hw.2 _ (List.getElem_mem hlt)) h0 h1) ?_
    by_cases c : ((szvS37 (x[i]) : Nat) : Int) ≤ a
    · rw [if_pos c]
      refine Ev.neg (by omega) (Ev.eq (ih (i + 1) (a - ((szvS37 (x[i]) : Nat) : Int)) (by omega) (by omega) (by omega)) ?_)
      rw [hs]
      by_cases c2 : ((szvS37 (x[i]) + ((x.drop (i + 1)).map fun y => szvS37 y).sum : Nat) : Int) ≤ a
      · rw [if_pos c2, if_pos (by omega)]; omega
      · rw [if_neg c2, if_neg (by omega)]
    · rw [if_neg c]
      refine Ev.pos (by omega) (Ev.eq (Ev.now _) ?_)
      rw [hs, if_neg (by omega)]
theorem laws_szDependS_ev (x : List (S37)) (a : Int) (hw : (x.length ≤ 9223372036854775807 ∧ ∀ x0_ ∈ x, wf37 x0_)) (h0 : 0 ≤ a) (h1 : a ≤ 1048576) : Ev (fun k => laws_szDependS.f k x a) (if ((szvLS37 x : Nat) : Int) ≤ a then a - ((szvLS37 x : Nat) : Int) else -1) := by
  have hx := hw.1
  unfold laws_szDependS.f
  rw [w64 (by omega) (by omega)]
  by_cases c : (x.length : Int) ≤ a
  · refine Ev.neg (by omega) (Ev.eq (laws_szDependS_l x hw x.length 0 (a - x.length) (by omega) (by omega) (by omega)) ?_)
    simp only [List.drop_zero]
    have hs : szvLS37 x = x.length + (x.map fun y => szvS37 y).sum := rfl
    by_cases c2 : ((szvLS37 x : Nat) : Int) ≤ a
    · rw [if_pos c2, if_pos (by omega)]; omega
    · rw [if_neg c2, if_neg (by omega)]
  · refine Ev.pos (by omega) (Ev.eq (Ev.now _) ?_)
    have hs : szvLS37 x = x.length + (x.map fun y => szvS37 y).sum := rfl
    rw [if_neg (by omega)]
def szvLLInt (x : List (List Int)) : Nat := x.length + (x.map fun y => y.length).sum
theorem rd_L1_lt {l : List (List Int)} {i : Nat} (h : i < l.length) : rd_L1 l (i : Int) = l[i] := by simp [rd_L1, h]
theorem laws_szIntSS_l (x : List (List Int)) (hw : (x.length ≤ 9223372036854775807 ∧ ∀ x0_ ∈ x, (x0_.length ≤ 9223372036854775807 ∧ ∀ x1_ ∈ x0_, (-9223372036854775808 ≤ x1_ ∧ x1_ ≤ 9223372036854775807)))) (d : Nat) : ∀ (i : Nat) (a : Int), i + d = x.length → 0 ≤ a → a ≤ 1048576 →
    Ev (fun k => laws_szIntSS.l0 k x a (i : Int)) (if ((((x.drop i).map fun y => y.length).sum : Nat) : Int) ≤ a then a - ((((x.drop i).map fun y => y.length).sum : Nat) : Int) else -1) := by
  have hx := hw.1
  induction d with
  | zero =>
    intro i a hi h0 h1
    refine Ev.step (f := fun _ => some a) (fun k => by simp only [laws_szIntSS.l0]; rw [if_neg (by omega)]) (Ev.eq (Ev.now _) ?_)
    rw [List.drop_of_length_le (by omega)]
    simp; omega
  | succ d ih =>
    intro i a hi h0 h1
    have hlt : i < x.length := by omega
    have hs : ((x.drop i).map fun y => y.length).sum = (x[i]).length + ((x.drop (i + 1)).map fun y => y.length).sum := by rw [drop_cons hlt, List.map_cons, List.sum_cons]
    refine Ev.step (f := fun k => (laws_szIntS.f (x[i]) a).bind fun t => if t < 0 then some (-1) else laws_szIntSS.l0 k x t ((i + 1 : Nat) : Int)) (fun k => ?_) ?_
    · simp only [laws_szIntSS.l0]
      rw [if_pos (by omega), if_pos (by omega), rd_L1_lt hlt, w64 (by omega) (by omega)]
      rfl
    refine Ev.bind (laws_szIntS_ev x[i] a (hw.2 _ (List.getElem_mem hlt)) h0 h1) ?_
    by_cases c : (((x[i]).length : Nat) : Int) ≤ a
    · rw [if_pos c]
      refine Ev.neg (by omega) (Ev.eq (ih (i + 1) (a - (((x[i]).length : Nat) : Int)) (by omega) (by omega) (by omega)) ?_)
      rw [hs]
      by_cases c2 : (((x[i]).length + ((x.drop (i + 1)).map fun y => y.length).sum : Nat) : Int) ≤ a
      · rw [if_pos c2, if_pos (by omega)]; omega
      · rw [if_neg c2, if_neg (by omega)]
    · rw [if_neg c]
      refine Ev.pos (by omega) (Ev.eq (Ev.now _) ?_)
      rw [hs, if_neg (by omega)]
theorem laws_szIntSS_ev (x : List (List Int)) (a : Int) (hw : (x.length ≤ 9223372036854775807 ∧ ∀ x0_ ∈ x, (x0_.length ≤ 9223372036854775807 ∧ ∀ x1_ ∈ x0_, (-9223372036854775808 ≤ x1_ ∧ x1_ ≤ 9223372036854775807)))) (h0 : 0 ≤ a) (h1 : a ≤ 1048576) : Ev (fun k => laws_szIntSS.f k x a) (if ((szvLLInt x : Nat) : Int) ≤ a then a - ((szvLLInt x : Nat) : Int) else -1) := by
  have hx := hw.1
  unfold laws_szIntSS.f
  rw [w64 (by omega) (by omega)]
  by_cases c : (x.length : Int) ≤ a
  · refine Ev.neg (by omega) (Ev.eq (laws_szIntSS_l x hw x.length 0 (a - x.length) (by omega) (by omega) (by omega)) ?_)
    simp only [List.drop_zero]
    have hs : szvLLInt x = x.length + (x.map fun y => y.length).sum := rfl
    by_cases c2 : ((szvLLInt x : Nat) : Int) ≤ a
    · rw [if_pos c2, if_pos (by omega)]; omega
    · rw [if_neg c2, if_neg (by omega)]
  · refine Ev.pos (by omega) (Ev.eq (Ev.now _) ?_)
    have hs : szvLLInt x = x.length + (x.map fun y => y.length).sum := rfl
    rw [if_neg (by omega)]
theorem laws_toIntS_l (x : List Int) (h : x.length ≤ 1048576) (d : Nat) : ∀ (i : Nat) (z : List Int), i + d = x.length → z.length = x.length → z.take i = (x).take i →
    Ev (fun k => laws_toIntS.l0 k x z (i : Int)) (x) := by
  have hx : x.length ≤ 1048576 := by exact h
  have hL : (x).length = x.length := by simp
  induction d with
  | zero =>
    intro i z hi hz ht
    refine Ev.step (f := fun _ => some z) (fun k => by simp only [laws_toIntS.l0]; rw [if_neg (by omega)]) ?_
    have : z = x := by rw [← List.take_of_length_le (l := z) (i := i) (by omega), ht, List.take_of_length_le (by omega)]
    rw [this]
    exact Ev.now _
  | succ d ih =>
    intro i z hi hz ht
    have hlt : i < x.length := by omega
    have hg : (x)[i]'(by omega) = x[i] := by simp
    have hst := set_take (l := x) (z := z) (i := i) (by omega) (by omega) ht
    rw [hg] at hst
    refine Ev.step (f := fun k => laws_toIntS.l0 k x (z.set i (x[i])) ((i + 1 : Nat) : Int)) (fun k => ?_) (ih (i + 1) _ (by omega) (by simpa using hz) hst)
    simp only [laws_toIntS.l0]
    rw [if_pos (by omega), if_pos (by omega), if_pos (by omega), rd_lt hlt, w64 (by omega) (by omega)]
    rfl
theorem laws_toIntS_ev (x : List Int) (h : x.length ≤ 1048576) : Ev (fun k => laws_toIntS.f k x) (x) := by
  have hx : x.length ≤ 1048576 := by exact h
  unfold laws_toIntS.f
  refine Ev.pos (by omega) (Ev.pos (by omega) ?_)
  exact laws_toIntS_l x h x.length 0 _ (by omega) (by simp) (by simp)
abbrev cvS37_S49 (x : S37) : S49 := ⟨x.f0, x.f1⟩
def szvS49 (x : S49) : Nat := x.f0.length + x.f1.length
theorem szcvS37_S49 (x : S37) : szvS49 (cvS37_S49 x) = szvS37 x := by simp [Function.comp_def, List.map_map, cvS37_S49, szvS37, szvS49]
theorem laws_toDepend_ev (x : S37) (h : szvS37 x ≤ 1048576) : Ev (fun k => laws_toDepend.f k x.f0 x.f1) (x.f0, x.f1) := by
  unfold laws_toDepend.f
  have hs : szvS37 x = x.f0.length + x.f1.length := rfl
  refine Ev.bind (laws_toIntS_ev x.f0 (by omega)) ?_
  refine Ev.bind (laws_toIntS_ev x.f1 (by omega)) ?_
  exact Ev.now _
def szvLS49 (x : List (S49)) : Nat := x.length + (x.map fun y => szvS49 y).sum
theorem szcvLS37_LS49 (x : List (S37)) : szvLS49 (x.map cvS37_S49) = szvLS37 x := by simp [Function.comp_def, List.map_map, szcvS37_S49, szvLS37, szvLS49]
theorem laws_toDependS_l (x : List (S37)) (h : szvLS37 x ≤ 1048576) (d : Nat) : ∀ (i : Nat) (z : List (S49)), i + d = x.length → z.length = x.length → z.take i = (x.map cvS37_S49).take i →
    Ev (fun k => laws_toDependS.l0 k x z (i : Int)) (x.map cvS37_S49) := by
  have hx : x.length ≤ 1048576 := by unfold szvLS37 at h; omega
  have hL : (x.map cvS37_S49).length = x.length := by simp
  induction d with
  | zero =>
    intro i z hi hz ht
    refine Ev.step (f := fun _ => some z) (fun k => by simp only [laws_toDependS.l0]; rw [if_neg (by omega)]) ?_
    have : z = x.map cvS37_S49 := by rw [← List.take_of_length_le (l := z) (i := i) (by omega), ht, List.take_of_length_le (by omega)]
    rw [this]
    exact Ev.now _
  | succ d ih =>
    intro i z hi hz ht
    have hlt : i < x.length := by omega
    have hg : (x.map cvS37_S49)[i]'(by omega) = cvS37_S49 (x[i]) := by simp
    have hst := set_take (l := x.map cvS37_S49) (z := z) (i := i) (by omega) (by omega) ht
    rw [hg] at hst
    refine Ev.step (f := fun k => (laws_toDepend.f k (x[i].f0) (x[i].f1)).bind fun t => laws_toDependS.l0 k x (z.set i (⟨t.1, t.2⟩ : S49)) ((i + 1 : Nat) : Int)) (fun k => ?_) ?_
    · simp only [laws_toDependS.l0]
      rw [if_pos (by omega), if_pos (by omega), rd_T37_lt hlt]
      have e1 : wrap64 ((i : Int) + 1) = ((i + 1 : Nat) : Int) := by rw [w64 (by omega) (by omega)]; rfl
      rw [e1]
      simp only [show (i : Int) < (z.length : Int) from by omega, if_true, Int.toNat_natCast]
    refine Ev.bind (laws_toDepend_ev x[i] (by have := sum_mem (fun y => szvS37 y) x _ (List.getElem_mem hlt); unfold szvLS37 at h; omega)) ?_
    exact ih (i + 1) _ (by omega) (by simpa using hz) hst
theorem laws_toDependS_ev (x : List (S37)) (h : szvLS37 x ≤ 1048576) : Ev (fun k => laws_toDependS.f k x) (x.map cvS37_S49) := by
  have hx : x.length ≤ 1048576 := by unfold szvLS37 at h; omega
  unfold laws_toDependS.f
  refine Ev.pos (by omega) (Ev.pos (by omega) ?_)
  exact laws_toDependS_l x h x.length 0 _ (by omega) (by simp) (by simp)
theorem laws_toIntSS_l (x : List (List Int)) (h : szvLLInt x ≤ 1048576) (d : Nat) : ∀ (i : Nat) (z : List (List Int)), i + d = x.length → z.length = x.length → z.take i = (x).take i →
    Ev (fun k => laws_toIntSS.l0 k x z (i : Int)) (x) := by
  have hx : x.length ≤ 1048576 := by unfold szvLLInt at h; omega
  have hL : (x).length = x.length := by simp
  induction d with
  | zero =>
    intro i z hi hz ht
    refine Ev.step (f := fun _ => some z) (fun k => by simp only [laws_toIntSS.l0]; rw [if_neg (by omega)]) ?_
    have : z = x := by rw [← List.take_of_length_le (l := z) (i := i) (by omega), ht, List.take_of_length_le (by omega)]
    rw [this]
    exact Ev.now _
  | succ d ih =>
    intro i z hi hz ht
    have hlt : i < x.length := by omega
    have hg : (x)[i]'(by omega) = x[i] := by simp
    have hst := set_take (l := x) (z := z) (i := i) (by omega) (by omega) ht
    rw [hg] at hst
    refine Ev.step (f := fun k => (laws_toIntS.f k (x[i])).bind fun t => laws_toIntSS.l0 k x (z.set i t) ((i + 1 : Nat) : Int)) (fun k => ?_) ?_
    · simp only [laws_toIntSS.l0]
      rw [if_pos (by omega), if_pos (by omega), rd_L1_lt hlt]
      have e1 : wrap64 ((i : Int) + 1) = ((i + 1 : Nat) : Int) := by rw [w64 (by omega) (by omega)]; rfl
      rw [e1]
      simp only [show (i : Int) < (z.length : Int) from by omega, if_true, Int.toNat_natCast]
    refine Ev.bind (laws_toIntS_ev x[i] (by have := sum_mem (fun y => y.length) x _ (List.getElem_mem hlt); unfold szvLLInt at h; omega)) ?_
    exact ih (i + 1) _ (by omega) (by simpa using hz) hst
theorem laws_toIntSS_ev (x : List (List Int)) (h : szvLLInt x ≤ 1048576) : Ev (fun k => laws_toIntSS.f k x) (x) := by
  have hx : x.length ≤ 1048576 := by unfold szvLLInt at h; omega
  unfold laws_toIntSS.f
  refine Ev.pos (by omega) (Ev.pos (by omega) ?_)
  exact laws_toIntSS_l x h x.length 0 _ (by omega) (by simp) (by simp)
theorem laws_eqIntS_l (x : List Int) (h : x.length ≤ 1099511627776) (d : Nat) : ∀ (i : Nat), i + d = x.length → Ev (fun k => laws_eqIntS.l0 k x x (i : Int)) true := by
  have hx : x.length ≤ 1099511627776 := by exact h
  induction d with
  | zero =>
    intro i hi
    exact Ev.step (f := fun _ => some true) (fun k => by simp only [laws_eqIntS.l0]; rw [if_neg (by omega)]) (Ev.now _)
  | succ d ih =>
    intro i hi
    have hlt : i < x.length := by omega
    refine Ev.step (f := fun k => laws_eqIntS.l0 k x x ((i + 1 : Nat) : Int)) (fun k => ?_) (ih (i + 1) (by omega))
    simp only [laws_eqIntS.l0]
    rw [if_pos (by omega), if_pos (by omega), if_pos (by omega)]
    first | rw [if_pos trivial] | rw [if_pos rfl]
    rw [w64 (by omega) (by omega)]
    rfl
theorem laws_eqIntS_ev (x : List Int) (h : x.length ≤ 1099511627776) : Ev (fun k => laws_eqIntS.f k x x) true := by
  unfold laws_eqIntS.f
  exact Ev.pos rfl (laws_eqIntS_l x h x.length 0 (by omega))
theorem laws_eqDepend_ev (x : S49) (h : szvS49 x ≤ 1099511627776) : Ev (fun k => laws_eqDepend.f k x.f0 x.f1 x.f0 x.f1) true := by
  unfold laws_eqDepend.f
  have hs : szvS49 x = x.f0.length + x.f1.length := rfl
  repeat (first | (with_reducible exact Ev.now true) | (with_reducible refine Ev.pos rfl ?_) | (with_reducible refine Ev.neg (by simp; done) ?_) | (with_reducible refine Ev.bind (laws_eqIntS_ev _ (by omega)) ?_))
theorem laws_eqDepend_lv (y0 : List Int) (y1 : List Int) (h : y0.length + y1.length ≤ 1099511627776) : Ev (fun k => laws_eqDepend.f k y0 y1 y0 y1) true := laws_eqDepend_ev (⟨y0, y1⟩ : S49) h
theorem rd_T49_lt {l : List S49} {i : Nat} (h : i < l.length) : rd_T49 l (i : Int) = l[i] := by simp [rd_T49, h]
theorem laws_eqDependS_l (x : List (S49)) (h : szvLS49 x ≤ 1099511627776) (d : Nat) : ∀ (i : Nat), i + d = x.length → Ev (fun k => laws_eqDependS.l0 k x x (i : Int)) true := by
  have hx : x.length ≤ 1099511627776 := by unfold szvLS49 at h; omega
  induction d with
  | zero =>
    intro i hi
    exact Ev.step (f := fun _ => some true) (fun k => by simp only [laws_eqDependS.l0]; rw [if_neg (by omega)]) (Ev.now _)
  | succ d ih =>
    intro i hi
    have hlt : i < x.length := by omega
    refine Ev.step (f := fun k => (laws_eqDepend.f k (x[i].f0) (x[i].f1) (x[i].f0) (x[i].f1)).bind fun t => if t = true then laws_eqDependS.l0 k x x ((i + 1 : Nat) : Int) else some false) (fun k => ?_) ?_
    · simp only [laws_eqDependS.l0]
      rw [if_pos (by omega), if_pos (by omega), if_pos (by omega), rd_T49_lt hlt, w64 (by omega) (by omega)]
      rfl
    refine Ev.bind (laws_eqDepend_ev x[i] (by have := sum_mem (fun y => szvS49 y) x _ (List.getElem_mem hlt); unfold szvLS49 at h; omega)) ?_
    exact Ev.pos rfl (ih (i + 1) (by omega))
theorem laws_eqDependS_ev (x : List (S49)) (h : szvLS49 x ≤ 1099511627776) : Ev (fun k => laws_eqDependS.f k x x) true := by
  unfold laws_eqDependS.f
  exact Ev.pos rfl (laws_eqDependS_l x h x.length 0 (by omega))
theorem laws_eqIntSS_l (x : List (List Int)) (h : szvLLInt x ≤ 1099511627776) (d : Nat) : ∀ (i : Nat), i + d = x.length → Ev (fun k => laws_eqIntSS.l0 k x x (i : Int)) true := by
  have hx : x.length ≤ 1099511627776 := by unfold szvLLInt at h; omega
  induction d with
  | zero =>
    intro i hi
    exact Ev.step (f := fun _ => some true) (fun k => by simp only [laws_eqIntSS.l0]; rw [if_neg (by omega)]) (Ev.now _)
  | succ d ih =>
    intro i hi
    have hlt : i < x.length := by omega
    refine Ev.step (f := fun k => (laws_eqIntS.f k (x[i]) (x[i])).bind fun t => if t = true then laws_eqIntSS.l0 k x x ((i + 1 : Nat) : Int) else some false) (fun k => ?_) ?_
    · simp only [laws_eqIntSS.l0]
      rw [if_pos (by omega), if_pos (by omega), if_pos (by omega), rd_L1_lt hlt, w64 (by omega) (by omega)]
      rfl
    refine Ev.bind (laws_eqIntS_ev x[i] (by have := sum_mem (fun y => y.length) x _ (List.getElem_mem hlt); unfold szvLLInt at h; omega)) ?_
    exact Ev.pos rfl (ih (i + 1) (by omega))
theorem laws_eqIntSS_ev (x : List (List Int)) (h : szvLLInt x ≤ 1099511627776) : Ev (fun k => laws_eqIntSS.f k x x) true := by
  unfold laws_eqIntSS.f
  exact Ev.pos rfl (laws_eqIntSS_l x h x.length 0 (by omega))
/-- What is left to show: the program's function and the reference answer alike. -/
def Core : Prop := ∀ x0 : List (S49), szvLS49 x0 ≤ 1048576 → ∀ x1 : List (List Int), szvLLInt x1 ≤ 1048576 → ∀ x2 : Int, (-9223372036854775808 ≤ x2 ∧ x2 ≤ 9223372036854775807) → ∃ v : Bool × Bool, Ev (fun k => spec_IsLossless.f k x0 x1 x2) v ∧ Ev (fun k => impl_IsLossless.f k x0 x1 x2) v
theorem law (core : Core) : laws_FnExactIsLossless.Pure := by
  intro x0 hwx0 x1 hwx1 x2 hwx2
  apply Ev.rounds
  unfold laws_FnExactIsLossless.f
  refine Ev.bind (laws_szDependS_ev x0 (1048576) hwx0 (by omega) (by omega)) ?_
  by_cases g0 : ((szvLS37 x0 : Nat) : Int) ≤ 1048576
  case neg =>
    rw [if_neg g0]
    exact Ev.pos (by omega) (Ev.now true)
  rw [if_pos g0]
  refine Ev.neg (by omega) ?_
  refine Ev.bind (laws_szIntSS_ev x1 (1048576 - ((szvLS37 x0 : Nat) : Int)) hwx1 (by omega) (by omega)) ?_
  by_cases g1 : ((szvLLInt x1 : Nat) : Int) ≤ 1048576 - ((szvLS37 x0 : Nat) : Int)
  case neg =>
    rw [if_neg g1]
    exact Ev.pos (by omega) (Ev.now true)
  rw [if_pos g1]
  refine Ev.neg (by omega) ?_
  have zx0 : szvLS49 (x0.map cvS37_S49) ≤ 1048576 := by rw [szcvLS37_LS49]; omega
  have zx1 : szvLLInt x1 ≤ 1048576 := by omega
  have yx0 : szvLS37 x0 ≤ 1048576 := by omega
  have yx1 : szvLLInt x1 ≤ 1048576 := by omega
  obtain ⟨v, hs, hi⟩ := core (x0.map cvS37_S49) zx0 x1 zx1 x2 hwx2
  repeat (first | (with_reducible exact Ev.now true) | (with_reducible refine Ev.bind hs ?_) | (with_reducible refine Ev.bind hi ?_) | (with_reducible refine Ev.bind (laws_toIntS_ev _ (by first | assumption | omega)) ?_) | (with_reducible refine Ev.bind (laws_toDepend_ev _ (by first | assumption | omega)) ?_) | (with_reducible refine Ev.bind (laws_toDependS_ev _ (by first | assumption | omega)) ?_) | (with_reducible refine Ev.bind (laws_toIntSS_ev _ (by first | assumption | omega)) ?_) | (with_reducible refine Ev.bind (laws_eqIntS_ev _ (by first | assumption | omega | (dsimp only; omega) | (simp only [szvLLInt, szvLS37, szvLS49] at *; omega))) ?_) | (with_reducible refine Ev.bind (laws_eqDepend_lv _ _ (by first | assumption | omega | (dsimp only; omega) | (simp only [szvLLInt, szvLS37, szvLS49] at *; omega))) ?_) | (with_reducible refine Ev.bind (laws_eqDependS_ev _ (by first | assumption | omega | (dsimp only; omega) | (simp only [szvLLInt, szvLS37, szvLS49] at *; omega))) ?_) | (with_reducible refine Ev.bind (laws_eqIntSS_ev _ (by first | assumption | omega | (dsimp only; omega) | (simp only [szvLLInt, szvLS37, szvLS49] at *; omega))) ?_) | (with_reducible refine Ev.pos rfl ?_) | (with_reducible refine Ev.neg (by first | omega | simp) ?_))
end Go.Proofs.Ytmelechhnimlnad.HFnExactIsLossless
