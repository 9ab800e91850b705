/- What the helpers of the law FnExactSameRuns compute, in plain words: printed by a program of this claim's own. No conditions. -/
import Derived.Test.YtmelechhnimlnabG3
import Derived.Test.YtmelechhnimlnabG5
import Derived.Test.YtmelechhnimlnabG6
import Derived.Test.YtmelechhnimlnabG9
import Derived.Test.YtmelechhnimlnabG10
import Derived.Test.YtmelechhnimlnabQBase
namespace Go.Proofs.Ytmelechhnimlnab.HFnExactSameRuns
open Go.RowKit Go.Proofs.Ytmelechhnimlnab.G Go.Proofs.Ytmelechhnimlnab.X Go.Proofs.Ytmelechhnimlnab.Pure Go.Proofs.YtmelechhnimlnabW.PrintWords Go.Proofs.YtmelechhnimlnabW.PrintLast
set_option linter.unusedVariables false
set_option linter.unusedSimpArgs false

theorem laws_szStepS_ev (x : List (S36)) (a : Int) (hw : (x.length ≤ 9223372036854775807 ∧ ∀ x0_ ∈ x, wf36 x0_)) (h0 : 0 ≤ a) (h1 : a ≤ 1048576) : Ev (fun k => laws_szStepS.f x a) (if ((x.length : Nat) : Int) ≤ a then a - ((x.length : Nat) : Int) else -1) := by
  have hx := hw.1
  refine Ev.const ?_
  unfold laws_szStepS.f
  rw [w64 (by omega) (by omega)]
  by_cases h : (x.length : Int) ≤ a
  · rw [if_neg (by omega), if_pos h]
  · rw [if_pos (by omega), if_neg h]
abbrev cvS36_S32 (x : S36) : S32 := ⟨x.f0, x.f1, x.f2⟩
theorem laws_toStep_ev (x : S36) : Ev (fun k => laws_toStep.f x.f0 x.f1 x.f2) (x.f0, x.f1, x.f2) := by
  unfold laws_toStep.f
  exact Ev.now _
theorem szcvLS36_LS32 (x : List (S36)) : (x.map cvS36_S32).length = x.length := by simp [Function.comp_def, List.map_map]
theorem rd_T36_lt {l : List S36} {i : Nat} (h : i < l.length) : rd_T36 l (i : Int) = l[i] := by simp [rd_T36, h]
theorem laws_toStepS_l (x : List (S36)) (h : x.length ≤ 1048576) (d : Nat) : ∀ (i : Nat) (z : List (S32)), i + d = x.length → z.length = x.length → z.take i = (x.map cvS36_S32).take i →
    Ev (fun k => laws_toStepS.l0 k x z (i : Int)) (x.map cvS36_S32) := by
  have hx : x.length ≤ 1048576 := by exact h
  have hL : (x.map cvS36_S32).length = x.length := by simp
  induction d with
  | zero =>
    intro i z hi hz ht
    refine Ev.step (f := fun _ => some z) (fun k => by simp only [laws_toStepS.l0]; rw [if_neg (by omega)]) ?_
    have : z = x.map cvS36_S32 := by rw [← List.take_of_length_le (l := z) (i := i) (by omega), ht, List.take_of_length_le (by omega)]
    rw [this]
    exact Ev.now _
  | succ d ih =>
    intro i z hi hz ht
    have hlt : i < x.length := by omega
    have hg : (x.map cvS36_S32)[i]'(by omega) = cvS36_S32 (x[i]) := by simp
    have hst := set_take (l := x.map cvS36_S32) (z := z) (i := i) (by omega) (by omega) ht
    rw [hg] at hst
    refine Ev.step (f := fun k => (laws_toStep.f (x[i].f0) (x[i].f1) (x[i].f2)).bind fun t => laws_toStepS.l0 k x (z.set i (⟨t.1, t.2.1, t.2.2⟩ : S32)) ((i + 1 : Nat) : Int)) (fun k => ?_) ?_
    · simp only [laws_toStepS.l0]
      rw [if_pos (by omega), if_pos (by omega), rd_T36_lt hlt]
      have e1 : wrap64 ((i : Int) + 1) = ((i + 1 : Nat) : Int) := by rw [w64 (by omega) (by omega)]; rfl
      rw [e1]
      simp only [show (i : Int) < (z.length : Int) from by omega, if_true, Int.toNat_natCast]
    refine Ev.bind (laws_toStep_ev x[i]) ?_
    exact ih (i + 1) _ (by omega) (by simpa using hz) hst
theorem laws_toStepS_ev (x : List (S36)) (h : x.length ≤ 1048576) : Ev (fun k => laws_toStepS.f k x) (x.map cvS36_S32) := by
  have hx : x.length ≤ 1048576 := by exact h
  unfold laws_toStepS.f
  refine Ev.pos (by omega) (Ev.pos (by omega) ?_)
  exact laws_toStepS_l x h x.length 0 _ (by omega) (by simp) (by simp)
theorem laws_eqStep_ev (x : S32) : Ev (fun k => laws_eqStep.f x.f0 x.f1 x.f2 x.f0 x.f1 x.f2) true := by
  unfold laws_eqStep.f
  repeat (first | (with_reducible exact Ev.now true) | (with_reducible refine Ev.pos rfl ?_) | (with_reducible refine Ev.neg (by simp; done) ?_))
theorem laws_eqStep_lv (y0 : Int) (y1 : Int) (y2 : Int) : Ev (fun k => laws_eqStep.f y0 y1 y2 y0 y1 y2) true := laws_eqStep_ev (⟨y0, y1, y2⟩ : S32)
theorem rd_T32_lt {l : List S32} {i : Nat} (h : i < l.length) : rd_T32 l (i : Int) = l[i] := by simp [rd_T32, h]
theorem laws_eqStepS_l (x : List (S32)) (h : x.length ≤ 1099511627776) (d : Nat) : ∀ (i : Nat), i + d = x.length → Ev (fun k => laws_eqStepS.l0 k x x (i : Int)) true := by
  have hx : x.length ≤ 1099511627776 := by exact h
  induction d with
  | zero =>
    intro i hi
    exact Ev.step (f := fun _ => some true) (fun k => by simp only [laws_eqStepS.l0]; rw [if_neg (by omega)]) (Ev.now _)
  | succ d ih =>
    intro i hi
    have hlt : i < x.length := by omega
    refine Ev.step (f := fun k => (laws_eqStep.f (x[i].f0) (x[i].f1) (x[i].f2) (x[i].f0) (x[i].f1) (x[i].f2)).bind fun t => if t = true then laws_eqStepS.l0 k x x ((i + 1 : Nat) : Int) else some false) (fun k => ?_) ?_
    · simp only [laws_eqStepS.l0]
      rw [if_pos (by omega), if_pos (by omega), if_pos (by omega), rd_T32_lt hlt, w64 (by omega) (by omega)]
      rfl
    refine Ev.bind (laws_eqStep_ev x[i]) ?_
    exact Ev.pos rfl (ih (i + 1) (by omega))
theorem laws_eqStepS_ev (x : List (S32)) (h : x.length ≤ 1099511627776) : Ev (fun k => laws_eqStepS.f k x x) true := by
  unfold laws_eqStepS.f
  exact Ev.pos rfl (laws_eqStepS_l x h x.length 0 (by omega))
/-- What is left to show: the program's function and the reference answer alike. -/
def Core : Prop := ∀ x0 : List (S32), x0.length ≤ 1048576 → ∀ x1 : List (S32), x1.length ≤ 1048576 → ∃ v : Bool × Bool, Ev (fun k => spec_SameRuns.f k x0 x1) v ∧ Ev (fun k => impl_SameRuns.f k x0 x1) v
theorem law (core : Core) : laws_FnExactSameRuns.Pure := by
  intro x0 hwx0 x1 hwx1
  apply Ev.rounds
  unfold laws_FnExactSameRuns.f
  refine Ev.bind (laws_szStepS_ev x0 (1048576) hwx0 (by omega) (by omega)) ?_
  by_cases g0 : ((x0.length : Nat) : Int) ≤ 1048576
  case neg =>
    rw [if_neg g0]
    exact Ev.pos (by omega) (Ev.now true)
  rw [if_pos g0]
  refine Ev.neg (by omega) ?_
  refine Ev.bind (laws_szStepS_ev x1 (1048576 - ((x0.length : Nat) : Int)) hwx1 (by omega) (by omega)) ?_
  by_cases g1 : ((x1.length : Nat) : Int) ≤ 1048576 - ((x0.length : Nat) : Int)
  case neg =>
    rw [if_neg g1]
    exact Ev.pos (by omega) (Ev.now true)
  rw [if_pos g1]
  refine Ev.neg (by omega) ?_
  have zx0 : (x0.map cvS36_S32).length ≤ 1048576 := by rw [szcvLS36_LS32]; omega
  have zx1 : (x1.map cvS36_S32).length ≤ 1048576 := by rw [szcvLS36_LS32]; omega
  have yx0 : x0.length ≤ 1048576 := by omega
  have yx1 : x1.length ≤ 1048576 := by omega
  obtain ⟨v, hs, hi⟩ := core (x0.map cvS36_S32) zx0 (x1.map cvS36_S32) zx1
  repeat (first | (with_reducible exact Ev.now true) | (with_reducible refine Ev.bind hs ?_) | (with_reducible refine Ev.bind hi ?_) | (with_reducible refine Ev.bind (laws_toStep_ev _) ?_) | (with_reducible refine Ev.bind (laws_toStepS_ev _ (by first | assumption | omega)) ?_) | (with_reducible refine Ev.bind (laws_eqStep_lv _ _ _) ?_) | (with_reducible refine Ev.bind (laws_eqStepS_ev _ (by first | assumption | omega | (dsimp only; omega))) ?_) | (with_reducible refine Ev.pos rfl ?_) | (with_reducible refine Ev.neg (by first | omega | simp) ?_))
end Go.Proofs.Ytmelechhnimlnab.HFnExactSameRuns
