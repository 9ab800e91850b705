/- What the helpers of the law FnExactIsOrder compute, in plain words: printed by a program of this claim's own. No conditions. -/
import Derived.Test.YtfbomhedhfkcpaaG1
import Derived.Test.YtfbomhedhfkcpaaG5
import Derived.Test.YtfbomhedhfkcpaaG45
import Derived.Test.YtfbomhedhfkcpaaG46
import Derived.Test.YtfbomhedhfkcpaaG47
import Derived.Test.YtfbomhedhfkcpaaG48
import Derived.Test.YtfbomhedhfkcpaaQBase
namespace Go.Proofs.Ytfbomhedhfkcpaa.HFnExactIsOrder
open Go.RowKit Go.Proofs.Ytfbomhedhfkcpaa.G Go.Proofs.Ytfbomhedhfkcpaa.X Go.Proofs.Ytfbomhedhfkcpaa.Pure Go.Proofs.YtfbomhedhfkcpaaW.PrintWords Go.Proofs.YtfbomhedhfkcpaaW.PrintLast
set_option linter.unusedVariables false
set_option linter.unusedSimpArgs false

theorem laws_eqIntS_l (x : List Int) (h : x.length ≤ 1099511627776) (d : Nat) : ∀ (i : Nat), i + d = x.length → Ev (fun k => laws_eqIntS.l0 k x x (i : Int)) true := by
  have hx : x.length ≤ 1099511627776 := by exact h
  induction d with
  | zero =>
    intro i hi
    exact Ev.step (f := fun _ => some true) (fun k => by simp only [laws_eqIntS.l0]; rw [if_neg (by omega)]) (Ev.now _)
  | succ d ih =>
    intro i hi
    have hlt : i < x.length := by omega
    refine Ev.step (f := fun k => laws_eqIntS.l0 k x x ((i + 1 : Nat) : Int)) (fun k => ?_) (ih (i + 1) (by omega))
    simp only [laws_eqIntS.l0]
    rw [if_pos (by omega), if_pos (by omega), if_pos (by omega)]
    first | rw [if_pos trivial] | rw [if_pos rfl]
    rw [w64 (by omega) (by omega)]
    rfl
theorem laws_eqIntS_ev (x : List Int) (h : x.length ≤ 1099511627776) : Ev (fun k => laws_eqIntS.f k x x) true := by
  unfold laws_eqIntS.f
  exact Ev.pos rfl (laws_eqIntS_l x h x.length 0 (by omega))
theorem laws_szIntS_ev (x : List Int) (a : Int) (hw : (x.length ≤ 9223372036854775807 ∧ ∀ x0_ ∈ x, (-9223372036854775808 ≤ x0_ ∧ x0_ ≤ 9223372036854775807))) (h0 : 0 ≤ a) (h1 : a ≤ 1048576) : Ev (fun k => laws_szIntS.f x a) (if ((x.length : Nat) : Int) ≤ a then a - ((x.length : Nat) : Int) else -1) := by
  have hx := hw.1
  refine Ev.const ?_
  unfold laws_szIntS.f
  rw [w64 (by omega) (by omega)]
  by_cases h : (x.length : Int) ≤ a
  · rw [if_neg (by omega), if_pos h]
  · rw [if_pos (by omega), if_neg h]
def szvLLInt (x : List (List Int)) : Nat := x.length + (x.map fun y => y.length).sum
theorem rd_L1_lt {l : List (List Int)} {i : Nat} (h : i < l.length) : rd_L1 l (i : Int) = l[i] := by simp [rd_L1, h]
theorem laws_szIntSS_l (x : List (List Int)) (hw : (x.length ≤ 9223372036854775807 ∧ ∀ x0_ ∈ x, (x0_.length ≤ 9223372036854775807 ∧ ∀ x1_ ∈ x0_, (-9223372036854775808 ≤ x1_ ∧ x1_ ≤ 9223372036854775807)))) (d : Nat) : ∀ (i : Nat) (a : Int), i + d = x.length → 0 ≤ a → a ≤ 1048576 →
    Ev (fun k => laws_szIntSS.l0 k x a (i : Int)) (if ((((x.drop i).map fun y => y.length).sum : Nat) : Int) ≤ a then a - ((((x.drop i).map fun y => y.length).sum : Nat) : Int) else -1) := by
  have hx := hw.1
  induction d with
  | zero =>
    intro i a hi h0 h1
    refine Ev.step (f := fun _ => some a) (fun k => by simp only [laws_szIntSS.l0]; rw [if_neg (by omega)]) (Ev.eq (Ev.now _) ?_)
    rw [List.drop_of_length_le (by omega)]
    simp; omega
  | succ d ih =>
    intro i a hi h0 h1
    have hlt : i < x.length := by omega
    have hs : ((x.drop i).map fun y => y.length).sum = (x[i]).length + ((x.drop (i + 1)).map fun y => y.length).sum := by rw [drop_cons hlt, List.map_cons, List.sum_cons]
    refine Ev.step (f := fun k => (laws_szIntS.f (x[i]) a).bind fun t => if t < 0 then some (-1) else laws_szIntSS.l0 k x t ((i + 1 : Nat) : Int)) (fun k => ?_) ?_
    · simp only [laws_szIntSS.l0]
      rw [if_pos (by omega), if_pos (by omega), rd_L1_lt hlt, w64 (by omega) (by omega)]
      rfl
    refine Ev.bind (laws_szIntS_ev x[i] a (hw.2 _ (List.getElem_mem hlt)) h0 h1) ?_
    by_cases c : (((x[i]).length : Nat) : Int) ≤ a
    · rw [if_pos c]
      refine Ev.neg (by omega) (Ev.eq (ih (i + 1) (a - (((x[i]).length : Nat) : Int)) (by omega) (by omega) (by omega)) ?_)
      rw [hs]
      by_cases c2 : (((x[i]).length + ((x.drop (i + 1)).map fun y => y.length).sum : Nat) : Int) ≤ a
      · rw [if_pos c2, if_pos (by omega)]; omega
      · rw [if_neg c2, if_neg (by omega)]
    · rw [if_neg c]
      refine Ev.pos (by omega) (Ev.eq (Ev.now _) ?_)
      rw [hs, if_neg (by omega)]
theorem laws_szIntSS_ev (x : List (List Int)) (a : Int) (hw : (x.length ≤ 9223372036854775807 ∧ ∀ x0_ ∈ x, (x0_.length ≤ 9223372036854775807 ∧ ∀ x1_ ∈ x0_, (-9223372036854775808 ≤ x1_ ∧ x1_ ≤ 9223372036854775807)))) (h0 : 0 ≤ a) (h1 : a ≤ 1048576) : Ev (fun k => laws_szIntSS.f k x a) (if ((szvLLInt x : Nat) : Int) ≤ a then a - ((szvLLInt x : Nat) : Int) else -1) := by
  have hx := hw.1
  unfold laws_szIntSS.f
  rw [w64 (by omega) (by omega)]
  by_cases c : (x.length : Int) ≤ a
  · refine Ev.neg (by omega) (Ev.eq (laws_szIntSS_l x hw x.length 0 (a - x.length) (by omega) (by omega) (by omega)) ?_)
    simp only [List.drop_zero]
    have hs : szvLLInt x = x.length + (x.map fun y => y.length).sum := rfl
    by_cases c2 : ((szvLLInt x : Nat) : Int) ≤ a
    · rw [if_pos c2, if_pos (by omega)]; omega
    · rw [if_neg c2, if_neg (by omega)]
  · refine Ev.pos (by omega) (Ev.eq (Ev.now _) ?_)
    have hs : szvLLInt x = x.length + (x.map fun y => y.length).sum := rfl
    rw [if_neg (by omega)]
def szvS65 (x : S65) : Nat := x.f0.length + szvLLInt x.f1
theorem laws_szStats_ev (x : S65) (a : Int) (hw : wf65 x) (h0 : 0 ≤ a) (h1 : a ≤ 1048576) : Ev (fun k => laws_szStats.f k x.f0 x.f1 a) (if ((szvS65 x : Nat) : Int) ≤ a then a - ((szvS65 x : Nat) : Int) else -1) := by
  unfold wf65 at hw
  obtain ⟨w0, w1⟩ := hw
  unfold laws_szStats.f
  have hs : szvS65 x = x.f0.length + szvLLInt x.f1 := rfl
  refine Ev.bind (laws_szIntS_ev x.f0 (a) w0 (by omega) (by omega)) ?_
  by_cases c0 : ((x.f0.length : Nat) : Int) ≤ a
  case neg =>
    rw [if_neg c0]
    exact Ev.pos (by omega) (Ev.eq (Ev.now _) (by rw [if_neg (by omega)]))
  rw [if_pos c0]
  refine Ev.neg (by omega) ?_
  refine Ev.bind (laws_szIntSS_ev x.f1 (a - ((x.f0.length : Nat) : Int)) w1 (by omega) (by omega)) ?_
  by_cases c1 : ((szvLLInt x.f1 : Nat) : Int) ≤ a - ((x.f0.length : Nat) : Int)
  case neg =>
    rw [if_neg c1]
    exact Ev.pos (by omega) (Ev.eq (Ev.now _) (by rw [if_neg (by omega)]))
  rw [if_pos c1]
  refine Ev.neg (by omega) ?_
  exact Ev.eq (Ev.now _) (by rw [if_pos (by omega)]; omega)
theorem laws_toIntS_l (x : List Int) (h : x.length ≤ 1048576) (d : Nat) : ∀ (i : Nat) (z : List Int), i + d = x.length → z.length = x.length → z.take i = (x).take i →
    Ev (fun k => laws_toIntS.l0 k x z (i : Int)) (x) := by
  have hx : x.length ≤ 1048576 := by exact h
  have hL : (x).length = x.length := by simp
  induction d with
  | zero =>
    intro i z hi hz ht
    refine Ev.step (f := fun _ => some z) (fun k => by simp only [laws_toIntS.l0]; rw [if_neg (by omega)]) ?_
    have : z = x := by rw [← List.take_of_length_le (l := z) (i := i) (by omega), ht, List.take_of_length_le (by omega)]
    rw [this]
    exact Ev.now _
  | succ d ih =>
    intro i z hi hz ht
    have hlt : i < x.length := by omega
    have hg : (x)[i]'(by omega) = x[i] := by simp
    have hst := set_take (l := x) (z := z) (i := i) (by omega) (by omega) ht
    rw [hg] at hst
    refine Ev.step (f := fun k => laws_toIntS.l0 k x (z.set i (x[i])) ((i + 1 : Nat) : Int)) (fun k => ?_) (ih (i + 1) _ (by omega) (by simpa using hz) hst)
    simp only [laws_toIntS.l0]
    rw [if_pos (by omega), if_pos (by omega), if_pos (by omega), rd_lt hlt, w64 (by omega) (by omega)]
    rfl
theorem laws_toIntS_ev (x : List Int) (h : x.length ≤ 1048576) : Ev (fun k => laws_toIntS.f k x) (x) := by
  have hx : x.length ≤ 1048576 := by exact h
  unfold laws_toIntS.f
  refine Ev.pos (by omega) (Ev.pos (by omega) ?_)
  exact laws_toIntS_l x h x.length 0 _ (by omega) (by simp) (by simp)
theorem laws_toIntSS_l (x : List (List Int)) (h : szvLLInt x ≤ 1048576) (d : Nat) : ∀ (i : Nat) (z : List (List Int)), i + d = x.length → z.length = x.length → z.take i = (x).take i →
    Ev (fun k => laws_toIntSS.l0 k x z (i : Int)) (x) := by
  have hx : x.length ≤ 1048576 := by unfold szvLLInt at h; omega
  have hL : (x).length = x.length := by simp
  induction d with
  | zero =>
    intro i z hi hz ht
    refine Ev.step (f := fun _ => some z) (fun k => by simp only [laws_toIntSS.l0]; rw [if_neg (by omega)]) ?_
    have : z = x := by rw [← List.take_of_length_le (l := z) (i := i) (by omega), ht, List.take_of_length_le (by omega)]
    rw [this]
    exact Ev.now _
  | succ d ih =>
    intro i z hi hz ht
    have hlt : i < x.length := by omega
    have hg : (x)[i]'(by omega) = x[i] := by simp
    have hst := set_take (l := x) (z := z) (i := i) (by omega) (by omega) ht
    rw [hg] at hst
    refine Ev.step (f := fun k => (laws_toIntS.f k (x[i])).bind fun t => laws_toIntSS.l0 k x (z.set i t) ((i + 1 : Nat) : Int)) (fun k => ?_) ?_
    · simp only [laws_toIntSS.l0]
      rw [if_pos (by omega), if_pos (by omega), rd_L1_lt hlt]
      have e1 : wrap64 ((i : Int) + 1) = ((i + 1 : Nat) : Int) := by rw [w64 (by omega) (by omega)]; rfl
      rw [e1]
      simp only [show (i : Int) < (z.length : Int) from by omega, if_true, Int.toNat_natCast]
    refine Ev.bind (laws_toIntS_ev x[i] (by have := sum_mem (fun y => y.length) x _ (List.getElem_mem hlt); unfold szvLLInt at h; omega)) ?_
    exact ih (i + 1) _ (by omega) (by simpa using hz) hst
theorem laws_toIntSS_ev (x : List (List Int)) (h : szvLLInt x ≤ 1048576) : Ev (fun k => laws_toIntSS.f k x) (x) := by
  have hx : x.length ≤ 1048576 := by unfold szvLLInt at h; omega
  unfold laws_toIntSS.f
  refine Ev.pos (by omega) (Ev.pos (by omega) ?_)
  exact laws_toIntSS_l x h x.length 0 _ (by omega) (by simp) (by simp)
abbrev cvS65_S68 (x : S65) : S68 := ⟨x.f0, x.f1⟩
def szvS68 (x : S68) : Nat := x.f0.length + szvLLInt x.f1
theorem szcvS65_S68 (x : S65) : szvS68 (cvS65_S68 x) = szvS65 x := by simp [Function.comp_def, List.map_map, cvS65_S68, szvS65, szvS68]
theorem laws_toStats_ev (x : S65) (h : szvS65 x ≤ 1048576) : Ev (fun k => laws_toStats.f k x.f0 x.f1) (x.f0, x.f1) := by
  unfold laws_toStats.f
  have hs : szvS65 x = x.f0.length + szvLLInt x.f1 := rfl
  refine Ev.bind (laws_toIntS_ev x.f0 (by omega)) ?_
  refine Ev.bind (laws_toIntSS_ev x.f1 (by omega)) ?_
  exact Ev.now _
theorem laws_eqIntSS_l (x : List (List Int)) (h : szvLLInt x ≤ 1099511627776) (d : Nat) : ∀ (i : Nat), i + d = x.length → Ev (fun k => laws_eqIntSS.l0 k x x (i : Int)) true := by
  have hx : x.length ≤ 1099511627776 := by unfold szvLLInt at h; omega
  induction d with
  | zero =>
    intro i hi
    exact Ev.step (f := fun _ => some true) (fun k => by simp only [laws_eqIntSS.l0]; rw [if_neg (by omega)]) (Ev.now _)
  | succ d ih =>
    intro i hi
    have hlt : i < x.length := by omega
    refine Ev.step (f := fun k => (laws_eqIntS.f k (x[i]) (x[i])).bind fun t => if t = true then laws_eqIntSS.l0 k x x ((i + 1 : Nat) : Int) else some false) (fun k => ?_) ?_
    · simp only [laws_eqIntSS.l0]
      rw [if_pos (by omega), if_pos (by omega), if_pos (by omega), rd_L1_lt hlt, w64 (by omega) (by omega)]
      rfl
    refine Ev.bind (laws_eqIntS_ev x[i] (by have := sum_mem (fun y => y.length) x _ (List.getElem_mem hlt); unfold szvLLInt at h; omega)) ?_
    exact Ev.pos rfl (ih (i + 1) (by omega))
theorem laws_eqIntSS_ev (x : List (List Int)) (h : szvLLInt x ≤ 1099511627776) : Ev (fun k => laws_eqIntSS.f k x x) true := by
  unfold laws_eqIntSS.f
  exact Ev.pos rfl (laws_eqIntSS_l x h x.length 0 (by omega))
theorem laws_eqStats_ev (x : S68) (h : szvS68 x ≤ 1099511627776) : Ev (fun k => laws_eqStats.f k x.f0 x.f1 x.f0 x.f1) true := by
  unfold laws_eqStats.f
  have hs : szvS68 x = x.f0.length + szvLLInt x.f1 := rfl
  repeat (first | (with_reducible exact Ev.now true) | (with_reducible refine Ev.pos rfl ?_) | (with_reducible refine Ev.neg (by simp; done) ?_) | (with_reducible refine Ev.bind (laws_eqIntS_ev _ (by omega)) ?_) | (with_reducible refine Ev.bind (laws_eqIntSS_ev _ (by omega)) ?_))
theorem laws_eqStats_lv (y0 : List Int) (y1 : List (List Int)) (h : y0.length + szvLLInt y1 ≤ 1099511627776) : Ev (fun k => laws_eqStats.f k y0 y1 y0 y1) true := laws_eqStats_ev (⟨y0, y1⟩ : S68) h
/-- What is left to show: the program's function and the reference answer alike. -/
def Core : Prop := ∀ x0 : S68, szvS68 x0 ≤ 1048576 → ∀ x1 : List Int, x1.length ≤ 1048576 → ∃ v : Bool, Ev (fun k => spec_IsOrder.f k x0.f0 x0.f1 x1) v ∧ Ev (fun k => impl_IsOrder.f k x0.f0 x0.f1 x1) v
theorem law (core : Core) : laws_FnExactIsOrder.Pure := by
  intro x0 hwx0 x1 hwx1
  apply Ev.rounds
  unfold laws_FnExactIsOrder.f
  by_cases g0 : (x1.length : Int) > 1048576
  case pos => exact Ev.pos g0 (Ev.now true)
  refine Ev.neg g0 ?_
  refine Ev.bind (laws_szStats_ev x0 (1048576) hwx0 (by omega) (by omega)) ?_
  by_cases g1 : ((szvS65 x0 : Nat) : Int) ≤ 1048576
  case neg =>
    rw [if_neg g1]
    exact Ev.pos (by omega) (Ev.now true)
  rw [if_pos g1]
  refine Ev.neg (by omega) ?_
  have zx0 : szvS68 (cvS65_S68 x0) ≤ 1048576 := by rw [szcvS65_S68]; omega
  have zx1 : x1.length ≤ 1048576 := by omega
  have yx0 : szvS65 x0 ≤ 1048576 := by omega
  have yx1 : x1.length ≤ 1048576 := by omega
  obtain ⟨v, hs, hi⟩ := core (cvS65_S68 x0) zx0 x1 zx1
  repeat (first | (with_reducible exact Ev.now true) | (with_reducible refine Ev.bind hs ?_) | (with_reducible refine Ev.bind hi ?_) | (with_reducible refine Ev.bind (laws_eqIntS_ev _ (by first | assumption | omega | (dsimp only; omega) | (simp only [szvS65, szvS68] at *; omega))) ?_) | (with_reducible refine Ev.bind (laws_toIntS_ev _ (by first | assumption | omega)) ?_) | (with_reducible refine Ev.bind (laws_toIntSS_ev _ (by first | assumption | omega)) ?_) | (with_reducible refine Ev.bind (laws_toStats_ev _ (by first | assumption | omega)) ?_) | (with_reducible refine Ev.bind (laws_eqIntSS_ev _ (by first | assumption | omega | (dsimp only; omega) | (simp only [szvS65, szvS68] at *; omega))) ?_) | (with_reducible refine Ev.bind (laws_eqStats_lv _ _ (by first | assumption | omega | (dsimp only; omega) | (simp only [szvS65, szvS68] at *; omega))) ?_) | (with_reducible refine Ev.pos rfl ?_) | (with_reducible refine Ev.neg (by first | omega | simp) ?_))
end Go.Proofs.Ytfbomhedhfkcpaa.HFnExactIsOrder
