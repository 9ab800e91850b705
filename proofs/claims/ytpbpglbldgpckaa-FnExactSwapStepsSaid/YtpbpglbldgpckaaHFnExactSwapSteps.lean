/- What the helpers of the law FnExactSwapSteps compute, in plain words: printed by a program of this claim's own. No conditions. -/
import Derived.Test.YtpbpglbldgpckaaG4
import Derived.Test.YtpbpglbldgpckaaG5
import Derived.Test.YtpbpglbldgpckaaG8
import Derived.Test.YtpbpglbldgpckaaG10
import Derived.Test.YtpbpglbldgpckaaG11
import Derived.Test.YtpbpglbldgpckaaG12
import Derived.Test.YtpbpglbldgpckaaG14
import Derived.Test.YtpbpglbldgpckaaQBase
namespace Go.Proofs.Ytpbpglbldgpckaa.HFnExactSwapSteps
open Go.RowKit Go.Proofs.Ytpbpglbldgpckaa.G Go.Proofs.Ytpbpglbldgpckaa.X Go.Proofs.Ytpbpglbldgpckaa.Pure Go.Proofs.YtpbpglbldgpckaaW.PrintWords Go.Proofs.YtpbpglbldgpckaaW.PrintLast
set_option linter.unusedVariables false
set_option linter.unusedSimpArgs false

theorem laws_szStepS_ev (x : List (S114)) (a : Int) (hw : (x.length ≤ 9223372036854775807 ∧ ∀ x0_ ∈ x, wf114 x0_)) (h0 : 0 ≤ a) (h1 : a ≤ 1048576) : Ev (fun k => laws_szStepS.f x a) (if ((x.length : Nat) : Int) ≤ a then a - ((x.length : Nat) : Int) else -1) := by
  have hx := hw.1
  refine Ev.const ?_
  unfold laws_szStepS.f
  rw [w64 (by omega) (by omega)]
  by_cases h : (x.length : Int) ≤ a
  · rw [if_neg (by omega), if_pos h]
  · rw [if_pos (by omega), if_neg h]
abbrev cvS114_S111 (x : S114) : S111 := ⟨x.f0, x.f1, x.f2⟩
theorem laws_toStep_ev (x : S114) : Ev (fun k => laws_toStep.f x.f0 x.f1 x.f2) (x.f0, x.f1, x.f2) := by
  unfold laws_toStep.f
  exact Ev.now _
theorem szcvLS114_LS111 (x : List (S114)) : (x.map cvS114_S111).length = x.length := by simp [Function.comp_def, List.map_map]
theorem rd_T114_lt {l : List S114} {i : Nat} (h : i < l.length) : rd_T114 l (i : Int) = l[i] := by simp [rd_T114, h]
theorem laws_toStepS_l (x : List (S114)) (h : x.length ≤ 1048576) (d : Nat) : ∀ (i : Nat) (z : List (S111)), i + d = x.length → z.length = x.length → z.take i = (x.map cvS114_S111).take i →
    Ev (fun k => laws_toStepS.l0 k x z (i : Int)) (x.map cvS114_S111) := by
  have hx : x.length ≤ 1048576 := by exact h
  have hL : (x.map cvS114_S111).length = x.length := by simp
  induction d with
  | zero =>
    intro i z hi hz ht
    refine Ev.step (f := fun _ => some z) (fun k => by simp only [laws_toStepS.l0]; rw [if_neg (by omega)]) ?_
    have : z = x.map cvS114_S111 := by rw [← List.take_of_length_le (l := z) (i := i) (by omega), ht, List.take_of_length_le (by omega)]
    rw [this]
    exact Ev.now _
  | succ d ih =>
    intro i z hi hz ht
    have hlt : i < x.length := by omega
    have hg : (x.map cvS114_S111)[i]'(by omega) = cvS114_S111 (x[i]) := by simp
    have hst := set_take (l := x.map cvS114_S111) (z := z) (i := i) (by omega) (by omega) ht
    rw [hg] at hst
    refine Ev.step (f := fun k => (laws_toStep.f (x[i].f0) (x[i].f1) (x[i].f2)).bind fun t => laws_toStepS.l0 k x (z.set i (⟨t.1, t.2.1, t.2.2⟩ : S111)) ((i + 1 : Nat) : Int)) (fun k => ?_) ?_
    · simp only [laws_toStepS.l0]
      rw [if_pos (by omega), if_pos (by omega), rd_T114_lt hlt]
      have e1 : wrap64 ((i : Int) + 1) = ((i + 1 : Nat) : Int) := by rw [w64 (by omega) (by omega)]; rfl
      rw [e1]
      simp only [show (i : Int) < (z.length : Int) from by omega, if_true, Int.toNat_natCast]
    refine Ev.bind (laws_toStep_ev x[i]) ?_
    exact ih (i + 1) _ (by omega) (by simpa using hz) hst
theorem laws_toStepS_ev (x : List (S114)) (h : x.length ≤ 1048576) : Ev (fun k => laws_toStepS.f k x) (x.map cvS114_S111) := by
  have hx : x.length ≤ 1048576 := by exact h
  unfold laws_toStepS.f
  refine Ev.pos (by omega) (Ev.pos (by omega) ?_)
  exact laws_toStepS_l x h x.length 0 _ (by omega) (by simp) (by simp)
theorem laws_eqStep_ev (x : S111) : Ev (fun k => laws_eqStep.f x.f0 x.f1 x.f2 x.f0 x.f1 x.f2) true := by
  unfold laws_eqStep.f
  repeat (first | (with_reducible exact Ev.now true) | (with_reducible refine Ev.pos rfl ?_) | (with_reducible refine Ev.neg (by simp; done) ?_))
theorem laws_eqStep_lv (y0 : Int) (y1 : Int) (y2 : Int) : Ev (fun k => laws_eqStep.f y0 y1 y2 y0 y1 y2) true := laws_eqStep_ev (⟨y0, y1, y2⟩ : S111)
theorem rd_T111_lt {l : List S111} {i : Nat} (h : i < l.length) : rd_T111 l (i : Int) = l[i] := by simp [rd_T111, h]
theorem laws_eqStepS_l (x : List (S111)) (h : x.length ≤ 1099511627776) (d : Nat) : ∀ (i : Nat), i + d = x.length → Ev (fun k => laws_eqStepS.l0 k x x (i : Int)) true := by
  have hx : x.length ≤ 1099511627776 := by exact h
  induction d with
  | zero =>
    intro i hi
    exact Ev.step (f := fun _ => some true) (fun k => by simp only [laws_eqStepS.l0]; rw [if_neg (by omega)]) (Ev.now _)
  | succ d ih =>
    intro i hi
    have hlt : i < x.length := by omega
    refine Ev.step (f := fun k => (laws_eqStep.f (x[i].f0) (x[i].f1) (x[i].f2) (x[i].f0) (x[i].f1) (x[i].f2)).bind fun t => if t = true then laws_eqStepS.l0 k x x ((i + 1 : Nat) : Int) else some false) (fun k => ?_) ?_
    · simp only [laws_eqStepS.l0]
      rw [if_pos (by omega), if_pos (by omega), if_pos (by omega), rd_T111_lt hlt, w64 (by omega) (by omega)]
      rfl
    refine Ev.bind (laws_eqStep_ev x[i]) ?_
    exact Ev.pos rfl (ih (i + 1) (by omega))
theorem laws_eqStepS_ev (x : List (S111)) (h : x.length ≤ 1099511627776) : Ev (fun k => laws_eqStepS.f k x x) true := by
  unfold laws_eqStepS.f
  exact Ev.pos rfl (laws_eqStepS_l x h x.length 0 (by omega))
def mkLS111 (a : Int) (n : Nat) : List (S111) := (List.range n).map fun j : Nat => (⟨a + 3 * (j : Int) + 0, a + 3 * (j : Int) + 1, a + 3 * (j : Int) + 2⟩ : S111)
theorem mkLS111_len (a : Int) (n : Nat) : (mkLS111 a n).length = n := by simp [mkLS111]
theorem mkLS111_get (a : Int) (n : Nat) (j : Nat) (h : j < (mkLS111 a n).length) : (mkLS111 a n)[j] = (⟨a + 3 * (j : Int) + 0, a + 3 * (j : Int) + 1, a + 3 * (j : Int) + 2⟩ : S111) := by simp [mkLS111]
theorem rd_T111_set {l : List (S111)} {i : Nat} (v : S111) (h : i < l.length) : rd_T111 (l.set i v) (i : Int) = v := by simp [rd_T111, h]
theorem laws_markStepS_l (n : Nat) (a : Int) (h0 : 0 ≤ a) (hb : a + ((3 * n : Nat) : Int) ≤ 4611686018427387904) (d : Nat) : ∀ (i : Nat) (z : List (S111)), i + d = n → z.length = n → z.take i = (mkLS111 a n).take i →
    Ev (fun k => laws_markStepS.l0 k z (a + 3 * (i : Int)) (i : Int)) (a + ((3 * n : Nat) : Int), mkLS111 a n) := by
  have hm := mkLS111_len a n
  induction d with
  | zero =>
    intro i z hi hz ht
    refine Ev.step (f := fun _ => some (a + 3 * (i : Int), z)) (fun k => by simp only [laws_markStepS.l0]; rw [if_neg (by omega)]) ?_
    have : z = mkLS111 a n := by rw [← List.take_of_length_le (l := z) (i := i) (by omega), ht, List.take_of_length_le (by omega)]
    rw [this]
    refine Ev.eq (Ev.now _) ?_
    have e : a + 3 * (i : Int) = a + ((3 * n : Nat) : Int) := by omega
    rw [e]
  | succ d ih =>
    intro i z hi hz ht
    have hlt : i < z.length := by omega
    have hst := set_take (l := mkLS111 a n) (z := z) (i := i) (by omega) (by omega) ht
    rw [mkLS111_get] at hst
    refine Ev.step (f := fun k => laws_markStepS.l0 k (z.set i ((⟨a + 3 * (i : Int) + 0, a + 3 * (i : Int) + 1, a + 3 * (i : Int) + 2⟩ : S111))) (a + 3 * ((i + 1 : Nat) : Int)) ((i + 1 : Nat) : Int)) (fun k => ?_) (ih (i + 1) _ (by omega) (by simpa using hz) hst)
    simp only [laws_markStepS.l0]
    rw [if_pos (by omega), if_pos (by omega)]
    have e0 : wrap64 ((i : Int) + 1) = ((i + 1 : Nat) : Int) := by rw [w64 (by omega) (by omega)]; rfl
    have e1 : wrap64 (a + 3 * (i : Int) + 1) = a + 3 * (i : Int) + 1 := by rw [w64 (by omega) (by omega)]
    have e2 : wrap64 (a + 3 * (i : Int) + 1 + 1) = a + 3 * (i : Int) + 2 := by rw [w64 (by omega) (by omega)]; omega
    have e3 : wrap64 (a + 3 * (i : Int) + 2 + 1) = a + 3 * (i : Int) + 3 := by rw [w64 (by omega) (by omega)]; omega
    have e9 : a + 3 * (i : Int) + 3 = a + 3 * ((i + 1 : Nat) : Int) := by omega
    simp only [Option.bind_some, Int.toNat_natCast, e0, e1, e2, e3, rd_T111_set _ hlt, List.set_set, Int.add_zero]
    rw [e9]
theorem laws_markStepS_ev (x : List (S111)) (a : Int) (h0 : 0 ≤ a) (hb : a + ((3 * x.length : Nat) : Int) ≤ 4611686018427387904) : Ev (fun k => laws_markStepS.f k x a) (a + ((3 * x.length : Nat) : Int), mkLS111 (a) x.length) := by
  unfold laws_markStepS.f
  have := laws_markStepS_l x.length a h0 (by omega) x.length 0 x (by omega) rfl (by simp)
  simpa using this
theorem laws_heldStepS_l (n : Nat) (a : Int) (h0 : 0 ≤ a) (hb : a + ((3 * n : Nat) : Int) ≤ 4611686018427387904) (d : Nat) : ∀ (i : Nat), i + d = n → Ev (fun k => laws_heldStepS.l0 k (mkLS111 a n) (a + 3 * (i : Int)) (i : Int)) (a + ((3 * n : Nat) : Int)) := by
  have hm := mkLS111_len a n
  induction d with
  | zero =>
    intro i hi
    exact Ev.step (f := fun _ => some (a + 3 * (i : Int))) (fun k => by simp only [laws_heldStepS.l0]; rw [if_neg (by omega)]) (Ev.eq (Ev.now _) (by omega))
  | succ d ih =>
    intro i hi
    have hlt : i < (mkLS111 a n).length := by omega
    refine Ev.step (f := fun k => laws_heldStepS.l0 k (mkLS111 a n) (a + 3 * ((i + 1 : Nat) : Int)) ((i + 1 : Nat) : Int)) (fun k => ?_) (ih (i + 1) (by omega))
    simp only [laws_heldStepS.l0]
    rw [if_pos (by omega), if_pos (by omega)]
    have e0 : wrap64 ((i : Int) + 1) = ((i + 1 : Nat) : Int) := by rw [w64 (by omega) (by omega)]; rfl
    have e1 : wrap64 (a + 3 * (i : Int) + 1) = a + 3 * (i : Int) + 1 := by rw [w64 (by omega) (by omega)]
    have e2 : wrap64 (a + 3 * (i : Int) + 1 + 1) = a + 3 * (i : Int) + 2 := by rw [w64 (by omega) (by omega)]; omega
    have e3 : wrap64 (a + 3 * (i : Int) + 2 + 1) = a + 3 * (i : Int) + 3 := by rw [w64 (by omega) (by omega)]; omega
    have e9 : a + 3 * (i : Int) + 3 = a + 3 * ((i + 1 : Nat) : Int) := by omega
    simp only [rd_T111_lt hlt, mkLS111_get, e0, e1, e2, e3, Int.add_zero, if_true]
    rw [e9]
theorem laws_heldStepS_ev (x : List (S111)) (a : Int) (h0 : 0 ≤ a) (hb : a + ((3 * x.length : Nat) : Int) ≤ 4611686018427387904) : Ev (fun k => laws_heldStepS.f k (mkLS111 (a) x.length) a) (a + ((3 * x.length : Nat) : Int)) := by
  unfold laws_heldStepS.f
  have := laws_heldStepS_l x.length a h0 (by omega) x.length 0 (by omega)
  simpa using this
/-- What is left to show: the program's function and the reference answer alike. -/
def Core : Prop := ∀ x0 : List (S111), x0.length ≤ 1048576 → ∀ x1 : Int, (-9223372036854775808 ≤ x1 ∧ x1 ≤ 9223372036854775807) → ∃ v : (List (S111)) × Bool, Ev (fun k => spec_SwapSteps.f k x0 x1) v ∧ Ev (fun k => impl_SwapSteps.f k x0 x1) v ∧ v.1.length ≤ 1099511627776
theorem law (core : Core) : laws_FnExactSwapSteps.Pure := by
  intro x0 hwx0 x1 hwx1
  apply Ev.rounds
  unfold laws_FnExactSwapSteps.f
  refine Ev.bind (laws_szStepS_ev x0 (1048576) hwx0 (by omega) (by omega)) ?_
  by_cases g0 : ((x0.length : Nat) : Int) ≤ 1048576
  case neg =>
    rw [if_neg g0]
    exact Ev.pos (by omega) (Ev.now true)
  rw [if_pos g0]
  refine Ev.neg (by omega) ?_
  have zx0 : (x0.map cvS114_S111).length ≤ 1048576 := by rw [szcvLS114_LS111]; omega
  have yx0 : x0.length ≤ 1048576 := by omega
  obtain ⟨v, hs, hi, hv0⟩ := core (x0.map cvS114_S111) zx0 x1 hwx1
  repeat (first | (with_reducible exact Ev.now true) | (with_reducible refine Ev.bind hs ?_) | (with_reducible refine Ev.bind hi ?_) | (with_reducible refine Ev.bind (laws_toStep_ev _) ?_) | (with_reducible refine Ev.bind (laws_toStepS_ev _ (by first | assumption | omega)) ?_) | (with_reducible refine Ev.bind (laws_eqStep_lv _ _ _) ?_) | (with_reducible refine Ev.bind (laws_eqStepS_ev _ (by first | assumption | omega | (dsimp only; omega))) ?_) | (with_reducible refine Ev.bind (laws_markStepS_ev _ _ (by first | assumption | omega | (dsimp only; omega)) (by first | assumption | omega | (dsimp only; omega))) ?_) | (with_reducible refine Ev.bind (laws_heldStepS_ev _ _ (by first | assumption | omega | (dsimp only; omega)) (by first | assumption | omega | (dsimp only; omega))) ?_) | (with_reducible refine Ev.pos rfl ?_) | (with_reducible refine Ev.neg (by first | omega | simp) ?_))
end Go.Proofs.Ytpbpglbldgpckaa.HFnExactSwapSteps
