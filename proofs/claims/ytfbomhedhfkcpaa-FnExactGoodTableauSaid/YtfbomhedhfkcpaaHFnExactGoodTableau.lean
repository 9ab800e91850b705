/- What the helpers of the law FnExactGoodTableau compute, in plain words: printed by a program of this claim's own. No conditions. -/
import Derived.Test.YtfbomhedhfkcpaaG1
import Derived.Test.YtfbomhedhfkcpaaG22
import Derived.Test.YtfbomhedhfkcpaaG23
import Derived.Test.YtfbomhedhfkcpaaG24
import Derived.Test.YtfbomhedhfkcpaaG27
import Derived.Test.YtfbomhedhfkcpaaG28
import Derived.Test.YtfbomhedhfkcpaaQBase
namespace Go.Proofs.Ytfbomhedhfkcpaa.HFnExactGoodTableau
open Go.RowKit Go.Proofs.Ytfbomhedhfkcpaa.G Go.Proofs.Ytfbomhedhfkcpaa.X Go.Proofs.Ytfbomhedhfkcpaa.Pure Go.Proofs.YtfbomhedhfkcpaaW.PrintWords Go.Proofs.YtfbomhedhfkcpaaW.PrintLast
set_option linter.unusedVariables false
set_option linter.unusedSimpArgs false

theorem laws_szIntS_ev (x : List Int) (a : Int) (hw : (x.length ≤ 9223372036854775807 ∧ ∀ x0_ ∈ x, (-9223372036854775808 ≤ x0_ ∧ x0_ ≤ 9223372036854775807))) (h0 : 0 ≤ a) (h1 : a ≤ 1048576) : Ev (fun k => laws_szIntS.f x a) (if ((x.length : Nat) : Int) ≤ a then a - ((x.length : Nat) : Int) else -1) := by
  have hx := hw.1
  refine Ev.const ?_
  unfold laws_szIntS.f
  rw [w64 (by omega) (by omega)]
  by_cases h : (x.length : Int) ≤ a
  · rw [if_neg (by omega), if_pos h]
  · rw [if_pos (by omega), if_neg h]
def szvS151 (x : S151) : Nat := x.f0.length
theorem laws_szRow_ev (x : S151) (a : Int) (hw : wf151 x) (h0 : 0 ≤ a) (h1 : a ≤ 1048576) : Ev (fun k => laws_szRow.f x.f0 a) (if ((szvS151 x : Nat) : Int) ≤ a then a - ((szvS151 x : Nat) : Int) else -1) := by
  unfold wf151 at hw
  have w0 := hw
  unfold laws_szRow.f
  have hs : szvS151 x = x.f0.length := rfl
  refine Ev.bind (laws_szIntS_ev x.f0 (a) w0 (by omega) (by omega)) ?_
  by_cases c0 : ((x.f0.length : Nat) : Int) ≤ a
  case neg =>
    rw [if_neg c0]
    exact Ev.pos (by omega) (Ev.eq (Ev.now _) (by rw [if_neg (by omega)]))
  rw [if_pos c0]
  refine Ev.neg (by omega) ?_
  exact Ev.eq (Ev.now _) (by rw [if_pos (by omega)]; omega)
def szvLS151 (x : List (S151)) : Nat := x.length + (x.map fun y => szvS151 y).sum
theorem rd_T151_lt {l : List S151} {i : Nat} (h : i < l.length) : rd_T151 l (i : Int) = l[i] := by simp [rd_T151, h]
theorem laws_szRowS_l (x : List (S151)) (hw : (x.length ≤ 9223372036854775807 ∧ ∀ x0_ ∈ x, wf151 x0_)) (d : Nat) : ∀ (i : Nat) (a : Int), i + d = x.length → 0 ≤ a → a ≤ 1048576 →
    Ev (fun k => laws_szRowS.l0 k x a (i : Int)) (if ((((x.drop i).map fun y => szvS151 y).sum : Nat) : Int) ≤ a then a - ((((x.drop i).map fun y => szvS151 y).sum : Nat) : Int) else -1) := by
  have hx := hw.1
  induction d with
  | zero =>
    intro i a hi h0 h1
    refine Ev.step (f := fun _ => some a) (fun k => by simp only [laws_szRowS.l0]; rw [if_neg (by omega)]) (Ev.eq (Ev.now _) ?_)
    rw [List.drop_of_length_le (by omega)]
    simp; omega
  | succ d ih =>
    intro i a hi h0 h1
    have hlt : i < x.length := by omega
    have hs : ((x.drop i).map fun y => szvS151 y).sum = szvS151 (x[i]) + ((x.drop (i + 1)).map fun y => szvS151 y).sum := by rw [drop_cons hlt, List.map_cons, List.sum_cons]
    refine Ev.step (f := fun k => (laws_szRow.f (x[i].f0) a).bind fun t => if t < 0 then some (-1) else laws_szRowS.l0 k x t ((i + 1 : Nat) : Int)) (fun k => ?_) ?_
    · simp only [laws_szRowS.l0]
      rw [if_pos (by omega), if_pos (by omega), rd_T151_lt hlt, w64 (by omega) (by omega)]
      rfl
    refine Ev.bind (laws_szRow_ev x[i] a (hw.2 _ (List.getElem_mem hlt)) h0 h1) ?_
    by_cases c : ((szvS151 (x[i]) : Nat) : Int) ≤ a
    · rw [if_pos c]
      refine Ev.neg (by omega) (Ev.eq (ih (i + 1) (a - ((szvS151 (x[i]) : Nat) : Int)) (by omega) (by omega) (by omega)) ?_)
      rw [hs]
      by_cases c2 : ((szvS151 (x[i]) + ((x.drop (i + 1)).map fun y => szvS151 y).sum : Nat) : Int) ≤ a
      · rw [if_pos c2, if_pos (by omega)]; omega
      · rw [if_neg c2, if_neg (by omega)]
    · rw [if_neg c]
      refine Ev.pos (by omega) (Ev.eq (Ev.now _) ?_)
      rw [hs, if_neg (by omega)]
theorem laws_szRowS_ev (x : List (S151)) (a : Int) (hw : (x.length ≤ 9223372036854775807 ∧ ∀ x0_ ∈ x, wf151 x0_)) (h0 : 0 ≤ a) (h1 : a ≤ 1048576) : Ev (fun k => laws_szRowS.f k x a) (if ((szvLS151 x : Nat) : Int) ≤ a then a - ((szvLS151 x : Nat) : Int) else -1) := by
  have hx := hw.1
  unfold laws_szRowS.f
  rw [w64 (by omega) (by omega)]
  by_cases c : (x.length : Int) ≤ a
  · refine Ev.neg (by omega) (Ev.eq (laws_szRowS_l x hw x.length 0 (a - x.length) (by omega) (by omega) (by omega)) ?_)
    simp only [List.drop_zero]
    have hs : szvLS151 x = x.length + (x.map fun y => szvS151 y).sum := rfl
    by_cases c2 : ((szvLS151 x : Nat) : Int) ≤ a
    · rw [if_pos c2, if_pos (by omega)]; omega
    · rw [if_neg c2, if_neg (by omega)]
  · refine Ev.pos (by omega) (Ev.eq (Ev.now _) ?_)
    have hs : szvLS151 x = x.length + (x.map fun y => szvS151 y).sum := rfl
    rw [if_neg (by omega)]
def szvS39 (x : S39) : Nat := szvLS151 x.f1
theorem laws_szTableau_ev (x : S39) (a : Int) (hw : wf39 x) (h0 : 0 ≤ a) (h1 : a ≤ 1048576) : Ev (fun k => laws_szTableau.f k x.f0 x.f1 a) (if ((szvS39 x : Nat) : Int) ≤ a then a - ((szvS39 x : Nat) : Int) else -1) := by
  unfold wf39 at hw
  obtain ⟨w0, w1⟩ := hw
  unfold laws_szTableau.f
  have hs : szvS39 x = szvLS151 x.f1 := rfl
  refine Ev.bind (laws_szRowS_ev x.f1 (a) w1 (by omega) (by omega)) ?_
  by_cases c1 : ((szvLS151 x.f1 : Nat) : Int) ≤ a
  case neg =>
    rw [if_neg c1]
    exact Ev.pos (by omega) (Ev.eq (Ev.now _) (by rw [if_neg (by omega)]))
  rw [if_pos c1]
  refine Ev.neg (by omega) ?_
  exact Ev.eq (Ev.now _) (by rw [if_pos (by omega)]; omega)
theorem laws_toIntS_l (x : List Int) (h : x.length ≤ 1048576) (d : Nat) : ∀ (i : Nat) (z : List Int), i + d = x.length → z.length = x.length → z.take i = (x).take i →
    Ev (fun k => laws_toIntS.l0 k x z (i : Int)) (x) := by
  have hx : x.length ≤ 1048576 := by exact h
  have hL : (x).length = x.length := by simp
  induction d with
  | zero =>
    intro i z hi hz ht
    refine Ev.step (f := fun _ => some z) (fun k => by simp only [laws_toIntS.l0]; rw [if_neg (by omega)]) ?_
    have : z = x := by rw [← List.take_of_length_le (l := z) (i := i) (by omega), ht, List.take_of_length_le (by omega)]
    rw [this]
    exact Ev.now _
  | succ d ih =>
    intro i z hi hz ht
    have hlt : i < x.length := by omega
    have hg : (x)[i]'(by omega) = x[i] := by simp
    have hst := set_take (l := x) (z := z) (i := i) (by omega) (by omega) ht
    rw [hg] at hst
    refine Ev.step (f := fun k => laws_toIntS.l0 k x (z.set i (x[i])) ((i + 1 : Nat) : Int)) (fun k => ?_) (ih (i + 1) _ (by omega) (by simpa using hz) hst)
    simp only [laws_toIntS.l0]
    rw [if_pos (by omega), if_pos (by omega), if_pos (by omega), rd_lt hlt, w64 (by omega) (by omega)]
    rfl
theorem laws_toIntS_ev (x : List Int) (h : x.length ≤ 1048576) : Ev (fun k => laws_toIntS.f k x) (x) := by
  have hx : x.length ≤ 1048576 := by exact h
  unfold laws_toIntS.f
  refine Ev.pos (by omega) (Ev.pos (by omega) ?_)
  exact laws_toIntS_l x h x.length 0 _ (by omega) (by simp) (by simp)
abbrev cvS151_S99 (x : S151) : S99 := ⟨x.f0⟩
def szvS99 (x : S99) : Nat := x.f0.length
theorem szcvS151_S99 (x : S151) : szvS99 (cvS151_S99 x) = szvS151 x := by simp [Function.comp_def, List.map_map, cvS151_S99, szvS151, szvS99]
theorem laws_toRow_ev (x : S151) (h : szvS151 x ≤ 1048576) : Ev (fun k => laws_toRow.f k x.f0) (x.f0) := by
  unfold laws_toRow.f
  have hs : szvS151 x = x.f0.length := rfl
  refine Ev.bind (laws_toIntS_ev x.f0 (by omega)) ?_
  exact Ev.now _
def szvLS99 (x : List (S99)) : Nat := x.length + (x.map fun y => szvS99 y).sum
theorem szcvLS151_LS99 (x : List (S151)) : szvLS99 (x.map cvS151_S99) = szvLS151 x := by simp [Function.comp_def, List.map_map, szcvS151_S99, szvLS151, szvLS99]
theorem laws_toRowS_l (x : List (S151)) (h : szvLS151 x ≤ 1048576) (d : Nat) : ∀ (i : Nat) (z : List (S99)), i + d = x.length → z.length = x.length → z.take i = (x.map cvS151_S99).take i →
    Ev (fun k => laws_toRowS.l0 k x z (i : Int)) (x.map cvS151_S99) := by
  have hx : x.length ≤ 1048576 := by unfold szvLS151 at h; omega
  have hL : (x.map cvS151_S99).length = x.length := by simp
  induction d with
  | zero =>
    intro i z hi hz ht
    refine Ev.step (f := fun _ => some z) (fun k => by simp only [laws_toRowS.l0]; rw [if_neg (by omega)]) ?_
    have : z = x.map cvS151_S99 := by rw [← List.take_of_length_le (l := z) (i := i) (by omega), ht, List.take_of_length_le (by omega)]
    rw [this]
    exact Ev.now _
  | succ d ih =>
    intro i z hi hz ht
    have hlt : i < x.length := by omega
    have hg : (x.map cvS151_S99)[i]'(by omega) = cvS151_S99 (x[i]) := by simp
    have hst := set_take (l := x.map cvS151_S99) (z := z) (i := i) (by omega) (by omega) ht
    rw [hg] at hst
    refine Ev.step (f := fun k => (laws_toRow.f k (x[i].f0)).bind fun t => laws_toRowS.l0 k x (z.set i (⟨t⟩ : S99)) ((i + 1 : Nat) : Int)) (fun k => ?_) ?_
    · simp only [laws_toRowS.l0]
      rw [if_pos (by omega), if_pos (by omega), rd_T151_lt hlt]
      have e1 : wrap64 ((i : Int) + 1) = ((i + 1 : Nat) : Int) := by rw [w64 (by omega) (by omega)]; rfl
      rw [e1]
      simp only [show (i : Int) < (z.length : Int) from by omega, if_true, Int.toNat_natCast]
    refine Ev.bind (laws_toRow_ev x[i] (by have := sum_mem (fun y => szvS151 y) x _ (List.getElem_mem hlt); unfold szvLS151 at h; omega)) ?_
    exact ih (i + 1) _ (by omega) (by simpa using hz) hst
theorem laws_toRowS_ev (x : List (S151)) (h : szvLS151 x ≤ 1048576) : Ev (fun k => laws_toRowS.f k x) (x.map cvS151_S99) := by
  have hx : x.length ≤ 1048576 := by unfold szvLS151 at h; omega
  unfold laws_toRowS.f
  refine Ev.pos (by omega) (Ev.pos (by omega) ?_)
  exact laws_toRowS_l x h x.length 0 _ (by omega) (by simp) (by simp)
abbrev cvS39_S44 (x : S39) : S44 := ⟨x.f0, x.f1.map cvS151_S99⟩
def szvS44 (x : S44) : Nat := szvLS99 x.f1
theorem szcvS39_S44 (x : S39) : szvS44 (cvS39_S44 x) = szvS39 x := by simp [Function.comp_def, List.map_map, cvS39_S44, szcvLS151_LS99, szvS39, szvS44]
theorem laws_toTableau_ev (x : S39) (h : szvS39 x ≤ 1048576) : Ev (fun k => laws_toTableau.f k x.f0 x.f1) (x.f0, x.f1.map cvS151_S99) := by
  unfold laws_toTableau.f
  have hs : szvS39 x = szvLS151 x.f1 := rfl
  refine Ev.bind (laws_toRowS_ev x.f1 (by omega)) ?_
  exact Ev.now _
theorem laws_eqIntS_l (x : List Int) (h : x.length ≤ 1099511627776) (d : Nat) : ∀ (i : Nat), i + d = x.length → Ev (fun k => laws_eqIntS.l0 k x x (i : Int)) true := by
  have hx : x.length ≤ 1099511627776 := by exact h
  induction d with
  | zero =>
    intro i hi
    exact Ev.step (f := fun _ => some true) (fun k => by simp only [laws_eqIntS.l0]; rw [if_neg (by omega)]) (Ev.now _)
  | succ d ih =>
    intro i hi
    have hlt : i < x.length := by omega
    refine Ev.step (f := fun k => laws_eqIntS.l0 k x x ((i + 1 : Nat) : Int)) (fun k => ?_) (ih (i + 1) (by omega))
    simp only [laws_eqIntS.l0]
    rw [if_pos (by omega), if_pos (by omega), if_pos (by omega)]
    first | rw [if_pos trivial] | rw [if_pos rfl]
    rw [w64 (by omega) (by omega)]
    rfl
theorem laws_eqIntS_ev (x : List Int) (h : x.length ≤ 1099511627776) : Ev (fun k => laws_eqIntS.f k x x) true := by
  unfold laws_eqIntS.f
  exact Ev.pos rfl (laws_eqIntS_l x h x.length 0 (by omega))
theorem laws_eqRow_ev (x : S99) (h : szvS99 x ≤ 1099511627776) : Ev (fun k => laws_eqRow.f k x.f0 x.f0) true := by
  unfold laws_eqRow.f
  have hs : szvS99 x = x.f0.length := rfl
  repeat (first | (with_reducible exact Ev.now true) | (with_reducible refine Ev.pos rfl ?_) | (with_reducible refine Ev.neg (by simp; done) ?_) | (with_reducible refine Ev.bind (laws_eqIntS_ev _ (by omega)) ?_))
theorem laws_eqRow_lv (y0 : List Int) (h : y0.length ≤ 1099511627776) : Ev (fun k => laws_eqRow.f k y0 y0) true := laws_eqRow_ev (⟨y0⟩ : S99) h
theorem rd_T99_lt {l : List S99} {i : Nat} (h : i < l.length) : rd_T99 l (i : Int) = l[i] := by simp [rd_T99, h]
theorem laws_eqRowS_l (x : List (S99)) (h : szvLS99 x ≤ 1099511627776) (d : Nat) : ∀ (i : Nat), i + d = x.length → Ev (fun k => laws_eqRowS.l0 k x x (i : Int)) true := by
  have hx : x.length ≤ 1099511627776 := by unfold szvLS99 at h; omega
  induction d with
  | zero =>
    intro i hi
    exact Ev.step (f := fun _ => some true) (fun k => by simp only [laws_eqRowS.l0]; rw [if_neg (by omega)]) (Ev.now _)
  | succ d ih =>
    intro i hi
    have hlt : i < x.length := by omega
    refine Ev.step (f := fun k => (laws_eqRow.f k (x[i].f0) (x[i].f0)).bind fun t => if t = true then laws_eqRowS.l0 k x x ((i + 1 : Nat) : Int) else some false) (fun k => ?_) ?_
    · simp only [laws_eqRowS.l0]
      rw [if_pos (by omega), if_pos (by omega), if_pos (by omega), rd_T99_lt hlt, w64 (by omega) (by omega)]
      rfl
    refine Ev.bind (laws_eqRow_ev x[i] (by have := sum_mem (fun y => szvS99 y) x _ (List.getElem_mem hlt); unfold szvLS99 at h; omega)) ?_
    exact Ev.pos rfl (ih (i + 1) (by omega))
theorem laws_eqRowS_ev (x : List (S99)) (h : szvLS99 x ≤ 1099511627776) : Ev (fun k => laws_eqRowS.f k x x) true := by
  unfold laws_eqRowS.f
  exact Ev.pos rfl (laws_eqRowS_l x h x.length 0 (by omega))
theorem laws_eqTableau_ev (x : S44) (h : szvS44 x ≤ 1099511627776) : Ev (fun k => laws_eqTableau.f k x.f0 x.f1 x.f0 x.f1) true := by
  unfold laws_eqTableau.f
  have hs : szvS44 x = szvLS99 x.f1 := rfl
  repeat (first | (with_reducible exact Ev.now true) | (with_reducible refine Ev.pos rfl ?_) | (with_reducible refine Ev.neg (by simp; done) ?_) | (with_reducible refine Ev.bind (laws_eqRowS_ev _ (by omega)) ?_))
theorem laws_eqTableau_lv (y0 : Int) (y1 : List (S99)) (h : szvLS99 y1 ≤ 1099511627776) : Ev (fun k => laws_eqTableau.f k y0 y1 y0 y1) true := laws_eqTableau_ev (⟨y0, y1⟩ : S44) h
/-- What is left to show: the program's function and the reference answer alike. -/
def Core : Prop := ∀ x0 : S44, szvS44 x0 ≤ 1048576 → ∃ v : Bool, Ev (fun k => spec_GoodTableau.f k x0.f0 x0.f1) v ∧ Ev (fun k => impl_GoodTableau.f x0.f0 x0.f1) v
theorem law (core : Core) : laws_FnExactGoodTableau.Pure := by
  intro x0 hwx0
  apply Ev.rounds
  unfold laws_FnExactGoodTableau.f
  refine Ev.bind (laws_szTableau_ev x0 (1048576) hwx0 (by omega) (by omega)) ?_
  by_cases g0 : ((szvS39 x0 : Nat) : Int) ≤ 1048576
  case neg =>
    rw [if_neg g0]
    exact Ev.pos (by omega) (Ev.now true)
  rw [if_pos g0]
  refine Ev.neg (by omega) ?_
  have zx0 : szvS44 (cvS39_S44 x0) ≤ 1048576 := by rw [szcvS39_S44]; omega
  have yx0 : szvS39 x0 ≤ 1048576 := by omega
  obtain ⟨v, hs, hi⟩ := core (cvS39_S44 x0) zx0
  repeat (first | (with_reducible exact Ev.now true) | (with_reducible refine Ev.bind hs ?_) | (with_reducible refine Ev.bind hi ?_) | (with_reducible refine Ev.bind (laws_toIntS_ev _ (by first | assumption | omega)) ?_) | (with_reducible refine Ev.bind (laws_toRow_ev _ (by first | assumption | omega)) ?_) | (with_reducible refine Ev.bind (laws_toRowS_ev _ (by first | assumption | omega)) ?_) | (with_reducible refine Ev.bind (laws_toTableau_ev _ (by first | assumption | omega)) ?_) | (with_reducible refine Ev.bind (laws_eqIntS_ev _ (by first | assumption | omega | (dsimp only; omega) | (simp only [szvS39, szvS44] at *; omega))) ?_) | (with_reducible refine Ev.bind (laws_eqRow_lv _ (by first | assumption | omega | (dsimp only; omega) | (simp only [szvS39, szvS44] at *; omega))) ?_) | (with_reducible refine Ev.bind (laws_eqRowS_ev _ (by first | assumption | omega | (dsimp only; omega) | (simp only [szvS39, szvS44] at *; omega))) ?_) | (with_reducible refine Ev.bind (laws_eqTableau_lv _ _ (by first | assumption | omega | (dsimp only; omega) | (simp only [szvS39, szvS44] at *; omega))) ?_) | (with_reducible refine Ev.pos rfl ?_) | (with_reducible refine Ev.neg (by first | omega | simp) ?_))
end Go.Proofs.Ytfbomhedhfkcpaa.HFnExactGoodTableau
