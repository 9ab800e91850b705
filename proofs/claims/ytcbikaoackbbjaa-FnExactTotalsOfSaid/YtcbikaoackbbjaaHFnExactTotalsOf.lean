/- What the helpers of the law FnExactTotalsOf compute, in plain words: printed by a program of this claim's own. No conditions. -/
import Derived.Test.YtcbikaoackbbjaaG1
import Derived.Test.YtcbikaoackbbjaaG7
import Derived.Test.YtcbikaoackbbjaaG21
import Derived.Test.YtcbikaoackbbjaaG23
import Derived.Test.YtcbikaoackbbjaaG25
import Derived.Test.YtcbikaoackbbjaaG44
import Derived.Test.YtcbikaoackbbjaaQBase
namespace Go.Proofs.Ytcbikaoackbbjaa.HFnExactTotalsOf
open Go.RowKit Go.Proofs.Ytcbikaoackbbjaa.G Go.Proofs.Ytcbikaoackbbjaa.X Go.Proofs.Ytcbikaoackbbjaa.Pure Go.Proofs.YtcbikaoackbbjaaW.PrintWords Go.Proofs.YtcbikaoackbbjaaW.PrintLast
set_option linter.unusedVariables false
set_option linter.unusedSimpArgs false

theorem laws_szIntS_ev (x : List Int) (a : Int) (hw : (x.length ≤ 9223372036854775807 ∧ ∀ x0_ ∈ x, (-9223372036854775808 ≤ x0_ ∧ x0_ ≤ 9223372036854775807))) (h0 : 0 ≤ a) (h1 : a ≤ 1048576) : Ev (fun k => laws_szIntS.f x a) (if ((x.length : Nat) : Int) ≤ a then a - ((x.length : Nat) : Int) else -1) := by
  have hx := hw.1
  refine Ev.const ?_
  unfold laws_szIntS.f
  rw [w64 (by omega) (by omega)]
  by_cases h : (x.length : Int) ≤ a
  · rw [if_neg (by omega), if_pos h]
  · rw [if_pos (by omega), if_neg h]
def szvS24 (x : S24) : Nat := x.f0.length
theorem laws_szRow_ev (x : S24) (a : Int) (hw : wf24 x) (h0 : 0 ≤ a) (h1 : a ≤ 1048576) : Ev (fun k => laws_szRow.f x.f0 a) (if ((szvS24 x : Nat) : Int) ≤ a then a - ((szvS24 x : Nat) : Int) else -1) := by
  unfold wf24 at hw
  have w0 := hw
  unfold laws_szRow.f
  have hs : szvS24 x = x.f0.length := rfl
  refine Ev.bind (laws_szIntS_ev x.f0 (a) w0 (by omega) (by omega)) ?_
  by_cases c0 : ((x.f0.length : Nat) : Int) ≤ a
  case neg =>
    rw [if_neg c0]
    exact Ev.pos (by omega) (Ev.eq (Ev.now _) (by rw [if_neg (by omega)]))
  rw [if_pos c0]
  refine Ev.neg (by omega) ?_
  exact Ev.eq (Ev.now _) (by rw [if_pos (by omega)]; omega)
def szvS117 (x : S117) : Nat := szvS24 x.f0
theorem laws_szGroup_ev (x : S117) (a : Int) (hw : wf117 x) (h0 : 0 ≤ a) (h1 : a ≤ 1048576) : Ev (fun k => laws_szGroup.f x.f0.f0 x.f1 x.f2 a) (if ((szvS117 x : Nat) : Int) ≤ a then a - ((szvS117 x : Nat) : Int) else -1) := by
  unfold wf117 at hw
  obtain ⟨w0, w1, w2⟩ := hw
  unfold laws_szGroup.f
  have hs : szvS117 x = szvS24 x.f0 := rfl
  refine Ev.bind (laws_szRow_ev x.f0 (a) w0 (by omega) (by omega)) ?_
  by_cases c0 : ((szvS24 x.f0 : Nat) : Int) ≤ a
  case neg =>
    rw [if_neg c0]
    exact Ev.pos (by omega) (Ev.eq (Ev.now _) (by rw [if_neg (by omega)]))
  rw [if_pos c0]
  refine Ev.neg (by omega) ?_
  exact Ev.eq (Ev.now _) (by rw [if_pos (by omega)]; omega)
def szvLS117 (x : List (S117)) : Nat := x.length + (x.map fun y => szvS117 y).sum
theorem rd_T117_lt {l : List S117} {i : Nat} (h : i < l.length) : rd_T117 l (i : Int) = l[i] := by simp [rd_T117, h]
theorem laws_szGroupS_l (x : List (S117)) (hw : (x.length ≤ 9223372036854775807 ∧ ∀ x0_ ∈ x, wf117 x0_)) (d : Nat) : ∀ (i : Nat) (a : Int), i + d = x.length → 0 ≤ a → a ≤ 1048576 →
    Ev (fun k => laws_szGroupS.l0 k x a (i : Int)) (if ((((x.drop i).map fun y => szvS117 y).sum : Nat) : Int) ≤ a then a - ((((x.drop i).map fun y => szvS117 y).sum : Nat) : Int) else -1) := by
  have hx := hw.1
  induction d with
  | zero =>
    intro i a hi h0 h1
    refine Ev.step (f := fun _ => some a) (fun k => by simp only [laws_szGroupS.l0]; rw [if_neg (by omega)]) (Ev.eq (Ev.now _) ?_)
    rw [List.drop_of_length_le (by omega)]
    simp; omega
  | succ d ih =>
    intro i a hi h0 h1
    have hlt : i < x.length := by omega
    have hs : ((x.drop i).map fun y => szvS117 y).sum = szvS117 (x[i]) + ((x.drop (i + 1)).map fun y => szvS117 y).sum := by rw [drop_cons hlt, List.map_cons, List.sum_cons]
    refine Ev.step (f := fun k => (laws_szGroup.f (x[i].f0.f0) (x[i].f1) (x[i].f2) a).bind fun t => if t < 0 then some (-1) else laws_szGroupS.l0 k x t ((i + 1 : Nat) : Int)) (fun k => ?_) ?_
    · simp only [laws_szGroupS.l0]
      rw [if_pos (by omega), if_pos (by omega), rd_T117_lt hlt, w64 (by omega) (by omega)]
      rfl
    refine Ev.bind (laws_szGroup_ev x[i] a (hw.2 _ (List.getElem_mem hlt)) h0 h1) ?_
    by_cases c : ((szvS117 (x[i]) : Nat) : Int) ≤ a
    · rw [if_pos c]
      refine Ev.neg (by omega) (Ev.eq (ih (i + 1) (a - ((szvS117 (x[i]) : Nat) : Int)) (by omega) (by omega) (by omega)) ?_)
      rw [hs]
      by_cases c2 : ((szvS117 (x[i]) + ((x.drop (i + 1)).map fun y => szvS117 y).sum : Nat) : Int) ≤ a
      · rw [if_pos c2, if_pos (by omega)]; omega
      · rw [if_neg c2, if_neg (by omega)]
    · rw [if_neg c]
      refine Ev.pos (by omega) (Ev.eq (Ev.now _) ?_)
      rw [hs, if_neg (by omega)]
theorem laws_szGroupS_ev (x : List (S117)) (a : Int) (hw : (x.length ≤ 9223372036854775807 ∧ ∀ x0_ ∈ x, wf117 x0_)) (h0 : 0 ≤ a) (h1 : a ≤ 1048576) : Ev (fun k => laws_szGroupS.f k x a) (if ((szvLS117 x : Nat) : Int) ≤ a then a - ((szvLS117 x : Nat) : Int) else -1) := by
  have hx := hw.1
  unfold laws_szGroupS.f
  rw [w64 (by omega) (by omega)]
  by_cases c : (x.length : Int) ≤ a
  · refine Ev.neg (by omega) (Ev.eq (laws_szGroupS_l x hw x.length 0 (a - x.length) (by omega) (by omega) (by omega)) ?_)
    simp only [List.drop_zero]
    have hs : szvLS117 x = x.length + (x.map fun y => szvS117 y).sum := rfl
    by_cases c2 : ((szvLS117 x : Nat) : Int) ≤ a
    · rw [if_pos c2, if_pos (by omega)]; omega
    · rw [if_neg c2, if_neg (by omega)]
  · refine Ev.pos (by omega) (Ev.eq (Ev.now _) ?_)
    have hs : szvLS117 x = x.length + (x.map fun y => szvS117 y).sum := rfl
    rw [if_neg (by omega)]
theorem laws_toIntS_l (x : List Int) (h : x.length ≤ 1048576) (d : Nat) : ∀ (i : Nat) (z : List Int), i + d = x.length → z.length = x.length → z.take i = (x).take i →
    Ev (fun k => laws_toIntS.l0 k x z (i : Int)) (x) := by
  have hx : x.length ≤ 1048576 := by exact h
  have hL : (x).length = x.length := by simp
  induction d with
  | zero =>
    intro i z hi hz ht
    refine Ev.step (f := fun _ => some z) (fun k => by simp only [laws_toIntS.l0]; rw [if_neg (by omega)]) ?_
    have : z = x := by rw [← List.take_of_length_le (l := z) (i := i) (by omega), ht, List.take_of_length_le (by omega)]
    rw [this]
    exact Ev.now _
  | succ d ih =>
    intro i z hi hz ht
    have hlt : i < x.length := by omega
    have hg : (x)[i]'(by omega) = x[i] := by simp
    have hst := set_take (l := x) (z := z) (i := i) (by omega) (by omega) ht
    rw [hg] at hst
    refine Ev.step (f := fun k => laws_toIntS.l0 k x (z.set i (x[i])) ((i + 1 : Nat) : Int)) (fun k => ?_) (ih (i + 1) _ (by omega) (by simpa using hz) hst)
    simp only [laws_toIntS.l0]
    rw [if_pos (by omega), if_pos (by omega), if_pos (by omega), rd_lt hlt, w64 (by omega) (by omega)]
    rfl
theorem laws_toIntS_ev (x : List Int) (h : x.length ≤ 1048576) : Ev (fun k => laws_toIntS.f k x) (x) := by
  have hx : x.length ≤ 1048576 := by exact h
  unfold laws_toIntS.f
  refine Ev.pos (by omega) (Ev.pos (by omega) ?_)
  exact laws_toIntS_l x h x.length 0 _ (by omega) (by simp) (by simp)
abbrev cvS24_S26 (x : S24) : S26 := ⟨x.f0⟩
def szvS26 (x : S26) : Nat := x.f0.length
theorem szcvS24_S26 (x : S24) : szvS26 (cvS24_S26 x) = szvS24 x := by simp [Function.comp_def, List.map_map, cvS24_S26, szvS24, szvS26]
theorem laws_toRow_ev (x : S24) (h : szvS24 x ≤ 1048576) : Ev (fun k => laws_toRow.f k x.f0) (x.f0) := by
  unfold laws_toRow.f
  have hs : szvS24 x = x.f0.length := rfl
  refine Ev.bind (laws_toIntS_ev x.f0 (by omega)) ?_
  exact Ev.now _
abbrev cvS117_S119 (x : S117) : S119 := ⟨cvS24_S26 x.f0, x.f1, x.f2⟩
def szvS119 (x : S119) : Nat := szvS26 x.f0
theorem szcvS117_S119 (x : S117) : szvS119 (cvS117_S119 x) = szvS117 x := by simp [Function.comp_def, List.map_map, cvS117_S119, szcvS24_S26, szvS117, szvS119]
theorem laws_toGroup_ev (x : S117) (h : szvS117 x ≤ 1048576) : Ev (fun k => laws_toGroup.f k x.f0.f0 x.f1 x.f2) (x.f0.f0, x.f1, x.f2) := by
  unfold laws_toGroup.f
  have hs : szvS117 x = szvS24 x.f0 := rfl
  refine Ev.bind (laws_toRow_ev x.f0 (by omega)) ?_
  exact Ev.now _
def szvLS119 (x : List (S119)) : Nat := x.length + (x.map fun y => szvS119 y).sum
theorem szcvLS117_LS119 (x : List (S117)) : szvLS119 (x.map cvS117_S119) = szvLS117 x := by simp [Function.comp_def, List.map_map, szcvS117_S119, szvLS117, szvLS119]
theorem laws_toGroupS_l (x : List (S117)) (h : szvLS117 x ≤ 1048576) (d : Nat) : ∀ (i : Nat) (z : List (S119)), i + d = x.length → z.length = x.length → z.take i = (x.map cvS117_S119).take i →
    Ev (fun k => laws_toGroupS.l0 k x z (i : Int)) (x.map cvS117_S119) := by
  have hx : x.length ≤ 1048576 := by unfold szvLS117 at h; omega
  have hL : (x.map cvS117_S119).length = x.length := by simp
  induction d with
  | zero =>
    intro i z hi hz ht
    refine Ev.step (f := fun _ => some z) (fun k => by simp only [laws_toGroupS.l0]; rw [if_neg (by omega)]) ?_
    have : z = x.map cvS117_S119 := by rw [← List.take_of_length_le (l := z) (i := i) (by omega), ht, List.take_of_length_le (by omega)]
    rw [this]
    exact Ev.now _
  | succ d ih =>
    intro i z hi hz ht
    have hlt : i < x.length := by omega
    have hg : (x.map cvS117_S119)[i]'(by omega) = cvS117_S119 (x[i]) := by simp
    have hst := set_take (l := x.map cvS117_S119) (z := z) (i := i) (by omega) (by omega) ht
    rw [hg] at hst
    refine Ev.step (f := fun k => (laws_toGroup.f k (x[i].f0.f0) (x[i].f1) (x[i].f2)).bind fun t => laws_toGroupS.l0 k x (z.set i (⟨(⟨t.1⟩ : S26), t.2.1, t.2.2⟩ : S119)) ((i + 1 : Nat) : Int)) (fun k => ?_) ?_
    · simp only [laws_toGroupS.l0]
      rw [if_pos (by omega), if_pos (by omega), rd_T117_lt hlt]
      have e1 : wrap64 ((i : Int) + 1) = ((i + 1 : Nat) : Int) := by rw [w64 (by omega) (by omega)]; rfl
      rw [e1]
      simp only [show (i : Int) < (z.length : Int) from by omega, if_true, Int.toNat_natCast]
    refine Ev.bind (laws_toGroup_ev x[i] (by have := sum_mem (fun y => szvS117 y) x _ (List.getElem_mem hlt); unfold szvLS117 at h; omega)) ?_
    exact ih (i + 1) _ (by omega) (by simpa using hz) hst
theorem laws_toGroupS_ev (x : List (S117)) (h : szvLS117 x ≤ 1048576) : Ev (fun k => laws_toGroupS.f k x) (x.map cvS117_S119) := by
  have hx : x.length ≤ 1048576 := by unfold szvLS117 at h; omega
  unfold laws_toGroupS.f
  refine Ev.pos (by omega) (Ev.pos (by omega) ?_)
  exact laws_toGroupS_l x h x.length 0 _ (by omega) (by simp) (by simp)
theorem laws_eqIntS_l (x : List Int) (h : x.length ≤ 1099511627776) (d : Nat) : ∀ (i : Nat), i + d = x.length → Ev (fun k => laws_eqIntS.l0 k x x (i : Int)) true := by
  have hx : x.length ≤ 1099511627776 := by exact h
  induction d with
  | zero =>
    intro i hi
    exact Ev.step (f := fun _ => some true) (fun k => by simp only [laws_eqIntS.l0]; rw [if_neg (by omega)]) (Ev.now _)
  | succ d ih =>
    intro i hi
    have hlt : i < x.length := by omega
    refine Ev.step (f := fun k => laws_eqIntS.l0 k x x ((i + 1 : Nat) : Int)) (fun k => ?_) (ih (i + 1) (by omega))
    simp only [laws_eqIntS.l0]
    rw [if_pos (by omega), if_pos (by omega), if_pos (by omega)]
    first | rw [if_pos trivial] | rw [if_pos rfl]
    rw [w64 (by omega) (by omega)]
    rfl
theorem laws_eqIntS_ev (x : List Int) (h : x.length ≤ 1099511627776) : Ev (fun k => laws_eqIntS.f k x x) true := by
  unfold laws_eqIntS.f
  exact Ev.pos rfl (laws_eqIntS_l x h x.length 0 (by omega))
theorem laws_eqRow_ev (x : S26) (h : szvS26 x ≤ 1099511627776) : Ev (fun k => laws_eqRow.f k x.f0 x.f0) true := by
  unfold laws_eqRow.f
  have hs : szvS26 x = x.f0.length := rfl
  repeat (first | (with_reducible exact Ev.now true) | (with_reducible refine Ev.pos rfl ?_) | (with_reducible refine Ev.neg (by simp; done) ?_) | (with_reducible refine Ev.bind (laws_eqIntS_ev _ (by omega)) ?_))
theorem laws_eqRow_lv (y0 : List Int) (h : y0.length ≤ 1099511627776) : Ev (fun k => laws_eqRow.f k y0 y0) true := laws_eqRow_ev (⟨y0⟩ : S26) h
theorem laws_eqGroup_ev (x : S119) (h : szvS119 x ≤ 1099511627776) : Ev (fun k => laws_eqGroup.f k x.f0.f0 x.f1 x.f2 x.f0.f0 x.f1 x.f2) true := by
  unfold laws_eqGroup.f
  have hs : szvS119 x = szvS26 x.f0 := rfl
  repeat (first | (with_reducible exact Ev.now true) | (with_reducible refine Ev.pos rfl ?_) | (with_reducible refine Ev.neg (by simp; done) ?_) | (with_reducible refine Ev.bind (laws_eqRow_ev (_) (by omega)) ?_))
theorem laws_eqGroup_lv (y0 : List Int) (y1 : Int) (y2 : Int) (h : y0.length ≤ 1099511627776) : Ev (fun k => laws_eqGroup.f k y0 y1 y2 y0 y1 y2) true := laws_eqGroup_ev (⟨(⟨y0⟩ : S26), y1, y2⟩ : S119) h
theorem rd_T119_lt {l : List S119} {i : Nat} (h : i < l.length) : rd_T119 l (i : Int) = l[i] := by simp [rd_T119, h]
theorem laws_eqGroupS_l (x : List (S119)) (h : szvLS119 x ≤ 1099511627776) (d : Nat) : ∀ (i : Nat), i + d = x.length → Ev (fun k => laws_eqGroupS.l0 k x x (i : Int)) true := by
  have hx : x.length ≤ 1099511627776 := by unfold szvLS119 at h; omega
  induction d with
  | zero =>
    intro i hi
    exact Ev.step (f := fun _ => some true) (fun k => by simp only [laws_eqGroupS.l0]; rw [if_neg (by omega)]) (Ev.now _)
  | succ d ih =>
    intro i hi
    have hlt : i < x.length := by omega
    refine Ev.step (f := fun k => (laws_eqGroup.f k (x[i].f0.f0) (x[i].f1) (x[i].f2) (x[i].f0.f0) (x[i].f1) (x[i].f2)).bind fun t => if t = true then laws_eqGroupS.l0 k x x ((i + 1 : Nat) : Int) else some false) (fun k => ?_) ?_
    · simp only [laws_eqGroupS.l0]
      rw [if_pos (by omega), if_pos (by omega), if_pos (by omega), rd_T119_lt hlt, w64 (by omega) (by omega)]
      rfl
    refine Ev.bind (laws_eqGroup_ev x[i] (by have := sum_mem (fun y => szvS119 y) x _ (List.getElem_mem hlt); unfold szvLS119 at h; omega)) ?_
    exact Ev.pos rfl (ih (i + 1) (by omega))
theorem laws_eqGroupS_ev (x : List (S119)) (h : szvLS119 x ≤ 1099511627776) : Ev (fun k => laws_eqGroupS.f k x x) true := by
  unfold laws_eqGroupS.f
  exact Ev.pos rfl (laws_eqGroupS_l x h x.length 0 (by omega))
/-- What is left to show: the program's function and the reference answer alike. -/
def Core : Prop := ∀ x0 : List (S119), szvLS119 x0 ≤ 1048576 → ∃ v : Int × Int × Bool, Ev (fun k => spec_TotalsOf.f k x0) v ∧ Ev (fun k => impl_TotalsOf.f k x0) v
theorem law (core : Core) : laws_FnExactTotalsOf.Pure := by
  intro x0 hwx0
  apply Ev.rounds
  unfold laws_FnExactTotalsOf.f
  refine Ev.bind (laws_szGroupS_ev x0 (1048576) hwx0 (by omega) (by omega)) ?_
  by_cases g0 : ((szvLS117 x0 : Nat) : Int) ≤ 1048576
  case neg =>
    rw [if_neg g0]
    exact Ev.pos (by omega) (Ev.now true)
  rw [if_pos g0]
  refine Ev.neg (by omega) ?_
  have zx0 : szvLS119 (x0.map cvS117_S119) ≤ 1048576 := by rw [szcvLS117_LS119]; omega
  have yx0 : szvLS117 x0 ≤ 1048576 := by omega
  obtain ⟨v, hs, hi⟩ := core (x0.map cvS117_S119) zx0
  repeat (first | (with_reducible exact Ev.now true) | (with_reducible refine Ev.bind hs ?_) | (with_reducible refine Ev.bind hi ?_) | (with_reducible refine Ev.bind (laws_toIntS_ev _ (by first | assumption | omega)) ?_) | (with_reducible refine Ev.bind (laws_toRow_ev _ (by first | assumption | omega)) ?_) | (with_reducible refine Ev.bind (laws_toGroup_ev _ (by first | assumption | omega)) ?_) | (with_reducible refine Ev.bind (laws_toGroupS_ev _ (by first | assumption | omega)) ?_) | (with_reducible refine Ev.bind (laws_eqIntS_ev _ (by first | assumption | omega | (dsimp only; omega) | (simp only [szvLS117, szvLS119] at *; omega))) ?_) | (with_reducible refine Ev.bind (laws_eqRow_lv _ (by first | assumption | omega | (dsimp only; omega) | (simp only [szvLS117, szvLS119] at *; omega))) ?_) | (with_reducible refine Ev.bind (laws_eqGroup_lv _ _ _ (by first | assumption | omega | (dsimp only; omega) | (simp only [szvLS117, szvLS119] at *; omega))) ?_) | (with_reducible refine Ev.bind (laws_eqGroupS_ev _ (by first | assumption | omega | (dsimp only; omega) | (simp only [szvLS117, szvLS119] at *; omega))) ?_) | (with_reducible refine Ev.pos rfl ?_) | (with_reducible refine Ev.neg (by first | omega | simp) ?_))
end Go.Proofs.Ytcbikaoackbbjaa.HFnExactTotalsOf
