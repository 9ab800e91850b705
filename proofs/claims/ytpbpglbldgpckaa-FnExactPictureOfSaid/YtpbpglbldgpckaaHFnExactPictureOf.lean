/- What the helpers of the law FnExactPictureOf compute, in plain words: printed by a program of this claim's own. No conditions. -/
import Derived.Test.YtpbpglbldgpckaaG16
import Derived.Test.YtpbpglbldgpckaaG18
import Derived.Test.YtpbpglbldgpckaaG35
import Derived.Test.YtpbpglbldgpckaaG46
import Derived.Test.YtpbpglbldgpckaaG51
import Derived.Test.YtpbpglbldgpckaaG52
import Derived.Test.YtpbpglbldgpckaaG68
import Derived.Test.YtpbpglbldgpckaaG69
import Derived.Test.YtpbpglbldgpckaaQBase
namespace Go.Proofs.Ytpbpglbldgpckaa.HFnExactPictureOf
open Go.RowKit Go.Proofs.Ytpbpglbldgpckaa.G Go.Proofs.Ytpbpglbldgpckaa.X Go.Proofs.Ytpbpglbldgpckaa.Pure Go.Proofs.YtpbpglbldgpckaaW.PrintWords Go.Proofs.YtpbpglbldgpckaaW.PrintLast
set_option linter.unusedVariables false
set_option linter.unusedSimpArgs false

theorem laws_szProcS_ev (x : List (S181)) (a : Int) (hw : (x.length ≤ 9223372036854775807 ∧ ∀ x0_ ∈ x, wf181 x0_)) (h0 : 0 ≤ a) (h1 : a ≤ 1048576) : Ev (fun k => laws_szProcS.f x a) (if ((x.length : Nat) : Int) ≤ a then a - ((x.length : Nat) : Int) else -1) := by
  have hx := hw.1
  refine Ev.const ?_
  unfold laws_szProcS.f
  rw [w64 (by omega) (by omega)]
  by_cases h : (x.length : Int) ≤ a
  · rw [if_neg (by omega), if_pos h]
  · rw [if_pos (by omega), if_neg h]
theorem laws_szIntS_ev (x : List Int) (a : Int) (hw : (x.length ≤ 9223372036854775807 ∧ ∀ x0_ ∈ x, (-9223372036854775808 ≤ x0_ ∧ x0_ ≤ 9223372036854775807))) (h0 : 0 ≤ a) (h1 : a ≤ 1048576) : Ev (fun k => laws_szIntS.f x a) (if ((x.length : Nat) : Int) ≤ a then a - ((x.length : Nat) : Int) else -1) := by
  have hx := hw.1
  refine Ev.const ?_
  unfold laws_szIntS.f
  rw [w64 (by omega) (by omega)]
  by_cases h : (x.length : Int) ≤ a
  · rw [if_neg (by omega), if_pos h]
  · rw [if_pos (by omega), if_neg h]
def szvS179 (x : S179) : Nat := x.f0.length + x.f1.length
theorem laws_szWire_ev (x : S179) (a : Int) (hw : wf179 x) (h0 : 0 ≤ a) (h1 : a ≤ 1048576) : Ev (fun k => laws_szWire.f x.f0 x.f1 x.f2 a) (if ((szvS179 x : Nat) : Int) ≤ a then a - ((szvS179 x : Nat) : Int) else -1) := by
  unfold wf179 at hw
  obtain ⟨w0, w1, w2⟩ := hw
  unfold laws_szWire.f
  have hs : szvS179 x = x.f0.length + x.f1.length := rfl
  refine Ev.bind (laws_szIntS_ev x.f0 (a) w0 (by omega) (by omega)) ?_
  by_cases c0 : ((x.f0.length : Nat) : Int) ≤ a
  case neg =>
    rw [if_neg c0]
    exact Ev.pos (by omega) (Ev.eq (Ev.now _) (by rw [if_neg (by omega)]))
  rw [if_pos c0]
  refine Ev.neg (by omega) ?_
  refine Ev.bind (laws_szIntS_ev x.f1 (a - ((x.f0.length : Nat) : Int)) w1 (by omega) (by omega)) ?_
  by_cases c1 : ((x.f1.length : Nat) : Int) ≤ a - ((x.f0.length : Nat) : Int)
  case neg =>
    rw [if_neg c1]
    exact Ev.pos (by omega) (Ev.eq (Ev.now _) (by rw [if_neg (by omega)]))
  rw [if_pos c1]
  refine Ev.neg (by omega) ?_
  exact Ev.eq (Ev.now _) (by rw [if_pos (by omega)]; omega)
def szvLS179 (x : List (S179)) : Nat := x.length + (x.map fun y => szvS179 y).sum
theorem rd_T179_lt {l : List S179} {i : Nat} (h : i < l.length) : rd_T179 l (i : Int) = l[i] := by simp [rd_T179, h]
theorem laws_szWireS_l (x : List (S179)) (hw : (x.length ≤ 9223372036854775807 ∧ ∀ x0_ ∈ x, wf179 x0_)) (d : Nat) : ∀ (i : Nat) (a : Int), i + d = x.length → 0 ≤ a → a ≤ 1048576 →
    Ev (fun k => laws_szWireS.l0 k x a (i : Int)) (if ((((x.drop i).map fun y => szvS179 y).sum : Nat) : Int) ≤ a then a - ((((x.drop i).map fun y => szvS179 y).sum : Nat) : Int) else -1) := by
  have hx := hw.1
  induction d with
  | zero =>
    intro i a hi h0 h1
    refine Ev.step (f := fun _ => some a) (fun k => by simp only [laws_szWireS.l0]; rw [if_neg (by omega)]) (Ev.eq (Ev.now _) ?_)
    rw [List.drop_of_length_le (by omega)]
    simp; omega
  | succ d ih =>
    intro i a hi h0 h1
    have hlt : i < x.length := by omega
    have hs : ((x.drop i).map fun y => szvS179 y).sum = szvS179 (x[i]) + ((x.drop (i + 1)).map fun y => szvS179 y).sum := by rw [drop_cons hlt, List.map_cons, List.sum_cons]
    refine Ev.step (f := fun k => (laws_szWire.f (x[i].f0) (x[i].f1) (x[i].f2) a).bind fun t => if t < 0 then some (-1) else laws_szWireS.l0 k x t ((i + 1 : Nat) : Int)) (fun k => ?_) ?_
    · simp only [laws_szWireS.l0]
      rw [if_pos (by omega), if_pos (by omega), rd_T179_lt hlt, w64 (by omega) (by omega)]
      rfl
    refine Ev.bind (laws_szWire_ev x[i] a (hw.2 _ (List.getElem_mem hlt)) h0 h1) ?_
    by_cases c : ((szvS179 (x[i]) : Nat) : Int) ≤ a
    · rw [if_pos c]
      refine Ev.neg (by omega) (Ev.eq (ih (i + 1) (a - ((szvS179 (x[i]) : Nat) : Int)) (by omega) (by omega) (by omega)) ?_)
      rw [hs]
      by_cases c2 : ((szvS179 (x[i]) + ((x.drop (i + 1)).map fun y => szvS179 y).sum : Nat) : Int) ≤ a
      · rw [if_pos c2, if_pos (by omega)]; omega
      · rw [if_neg c2, if_neg (by omega)]
    · rw [if_neg c]
      refine Ev.pos (by omega) (Ev.eq (Ev.now _) ?_)
      rw [hs, if_neg (by omega)]
theorem laws_szWireS_ev (x : List (S179)) (a : Int) (hw : (x.length ≤ 9223372036854775807 ∧ ∀ x0_ ∈ x, wf179 x0_)) (h0 : 0 ≤ a) (h1 : a ≤ 1048576) : Ev (fun k => laws_szWireS.f k x a) (if ((szvLS179 x : Nat) : Int) ≤ a then a - ((szvLS179 x : Nat) : Int) else -1) := by
  have hx := hw.1
  unfold laws_szWireS.f
  rw [w64 (by omega) (by omega)]
  by_cases c : (x.length : Int) ≤ a
  · refine Ev.neg (by omega) (Ev.eq (laws_szWireS_l x hw x.length 0 (a - x.length) (by omega) (by omega) (by omega)) ?_)
    simp only [List.drop_zero]
    have hs : szvLS179 x = x.length + (x.map fun y => szvS179 y).sum := rfl
    by_cases c2 : ((szvLS179 x : Nat) : Int) ≤ a
    · rw [if_pos c2, if_pos (by omega)]; omega
    · rw [if_neg c2, if_neg (by omega)]
  · refine Ev.pos (by omega) (Ev.eq (Ev.now _) ?_)
    have hs : szvLS179 x = x.length + (x.map fun y => szvS179 y).sum := rfl
    rw [if_neg (by omega)]
def szvS79 (x : S79) : Nat := x.f0.length + szvLS179 x.f1
theorem laws_szSnap_ev (x : S79) (a : Int) (hw : wf79 x) (h0 : 0 ≤ a) (h1 : a ≤ 1048576) : Ev (fun k => laws_szSnap.f k x.f0 x.f1 a) (if ((szvS79 x : Nat) : Int) ≤ a then a - ((szvS79 x : Nat) : Int) else -1) := by
  unfold wf79 at hw
  obtain ⟨w0, w1⟩ := hw
  unfold laws_szSnap.f
  have hs : szvS79 x = x.f0.length + szvLS179 x.f1 := rfl
  refine Ev.bind (laws_szProcS_ev x.f0 (a) w0 (by omega) (by omega)) ?_
  by_cases c0 : ((x.f0.length : Nat) : Int) ≤ a
  case neg =>
    rw [if_neg c0]
    exact Ev.pos (by omega) (Ev.eq (Ev.now _) (by rw [if_neg (by omega)]))
  rw [if_pos c0]
  refine Ev.neg (by omega) ?_
  refine Ev.bind (laws_szWireS_ev x.f1 (a - ((x.f0.length : Nat) : Int)) w1 (by omega) (by omega)) ?_
  by_cases c1 : ((szvLS179 x.f1 : Nat) : Int) ≤ a - ((x.f0.length : Nat) : Int)
  case neg =>
    rw [if_neg c1]
    exact Ev.pos (by omega) (Ev.eq (Ev.now _) (by rw [if_neg (by omega)]))
  rw [if_pos c1]
  refine Ev.neg (by omega) ?_
  exact Ev.eq (Ev.now _) (by rw [if_pos (by omega)]; omega)
abbrev cvS181_S138 (x : S181) : S138 := ⟨x.f0, x.f1, x.f2⟩
theorem laws_toProc_ev (x : S181) : Ev (fun k => laws_toProc.f x.f0 x.f1 x.f2) (x.f0, x.f1, x.f2) := by
  unfold laws_toProc.f
  exact Ev.now _
theorem szcvLS181_LS138 (x : List (S181)) : (x.map cvS181_S138).length = x.length := by simp [Function.comp_def, List.map_map]
theorem rd_T181_lt {l : List S181} {i : Nat} (h : i < l.length) : rd_T181 l (i : Int) = l[i] := by simp [rd_T181, h]
theorem laws_toProcS_l (x : List (S181)) (h : x.length ≤ 1048576) (d : Nat) : ∀ (i : Nat) (z : List (S138)), i + d = x.length → z.length = x.length → z.take i = (x.map cvS181_S138).take i →
    Ev (fun k => laws_toProcS.l0 k x z (i : Int)) (x.map cvS181_S138) := by
  have hx : x.length ≤ 1048576 := by exact h
  have hL : (x.map cvS181_S138).length = x.length := by simp
  induction d with
  | zero =>
    intro i z hi hz ht
    refine Ev.step (f := fun _ => some z) (fun k => by simp only [laws_toProcS.l0]; rw [if_neg (by omega)]) ?_
    have : z = x.map cvS181_S138 := by rw [← List.take_of_length_le (l := z) (i := i) (by omega), ht, List.take_of_length_le (by omega)]
    rw [this]
    exact Ev.now _
  | succ d ih =>
    intro i z hi hz ht
    have hlt : i < x.length := by omega
    have hg : (x.map cvS181_S138)[i]'(by omega) = cvS181_S138 (x[i]) := by simp
    have hst := set_take (l := x.map cvS181_S138) (z := z) (i := i) (by omega) (by omega) ht
    rw [hg] at hst
    refine Ev.step (f := fun k => (laws_toProc.f (x[i].f0) (x[i].f1) (x[i].f2)).bind fun t => laws_toProcS.l0 k x (z.set i (⟨t.1, t.2.1, t.2.2⟩ : S138)) ((i + 1 : Nat) : Int)) (fun k => ?_) ?_
    · simp only [laws_toProcS.l0]
      rw [if_pos (by omega), if_pos (by omega), rd_T181_lt hlt]
      have e1 : wrap64 ((i : Int) + 1) = ((i + 1 : Nat) : Int) := by rw [w64 (by omega) (by omega)]; rfl
      rw [e1]
      simp only [show (i : Int) < (z.length : Int) from by omega, if_true, Int.toNat_natCast]
    refine Ev.bind (laws_toProc_ev x[i]) ?_
    exact ih (i + 1) _ (by omega) (by simpa using hz) hst
theorem laws_toProcS_ev (x : List (S181)) (h : x.length ≤ 1048576) : Ev (fun k => laws_toProcS.f k x) (x.map cvS181_S138) := by
  have hx : x.length ≤ 1048576 := by exact h
  unfold laws_toProcS.f
  refine Ev.pos (by omega) (Ev.pos (by omega) ?_)
  exact laws_toProcS_l x h x.length 0 _ (by omega) (by simp) (by simp)
theorem laws_toIntS_l (x : List Int) (h : x.length ≤ 1048576) (d : Nat) : ∀ (i : Nat) (z : List Int), i + d = x.length → z.length = x.length → z.take i = (x).take i →
    Ev (fun k => laws_toIntS.l0 k x z (i : Int)) (x) := by
  have hx : x.length ≤ 1048576 := by exact h
  have hL : (x).length = x.length := by simp
  induction d with
  | zero =>
    intro i z hi hz ht
    refine Ev.step (f := fun _ => some z) (fun k => by simp only [laws_toIntS.l0]; rw [if_neg (by omega)]) ?_
    have : z = x := by rw [← List.take_of_length_le (l := z) (i := i) (by omega), ht, List.take_of_length_le (by omega)]
    rw [this]
    exact Ev.now _
  | succ d ih =>
    intro i z hi hz ht
    have hlt : i < x.length := by omega
    have hg : (x)[i]'(by omega) = x[i] := by simp
    have hst := set_take (l := x) (z := z) (i := i) (by omega) (by omega) ht
    rw [hg] at hst
    refine Ev.step (f := fun k => laws_toIntS.l0 k x (z.set i (x[i])) ((i + 1 : Nat) : Int)) (fun k => ?_) (ih (i + 1) _ (by omega) (by simpa using hz) hst)
    simp only [laws_toIntS.l0]
    rw [if_pos (by omega), if_pos (by omega), if_pos (by omega), rd_lt hlt, w64 (by omega) (by omega)]
    rfl
theorem laws_toIntS_ev (x : List Int) (h : x.length ≤ 1048576) : Ev (fun k => laws_toIntS.f k x) (x) := by
  have hx : x.length ≤ 1048576 := by exact h
  unfold laws_toIntS.f
  refine Ev.pos (by omega) (Ev.pos (by omega) ?_)
  exact laws_toIntS_l x h x.length 0 _ (by omega) (by simp) (by simp)
abbrev cvS179_S140 (x : S179) : S140 := ⟨x.f0, x.f1, x.f2⟩
def szvS140 (x : S140) : Nat := x.f0.length + x.f1.length
theorem szcvS179_S140 (x : S179) : szvS140 (cvS179_S140 x) = szvS179 x := by simp [Function.comp_def, List.map_map, cvS179_S140, szvS140, szvS179]
theorem laws_toWire_ev (x : S179) (h : szvS179 x ≤ 1048576) : Ev (fun k => laws_toWire.f k x.f0 x.f1 x.f2) (x.f0, x.f1, x.f2) := by
  unfold laws_toWire.f
  have hs : szvS179 x = x.f0.length + x.f1.length := rfl
  refine Ev.bind (laws_toIntS_ev x.f0 (by omega)) ?_
  refine Ev.bind (laws_toIntS_ev x.f1 (by omega)) ?_
  exact Ev.now _
def szvLS140 (x : List (S140)) : Nat := x.length + (x.map fun y => szvS140 y).sum
theorem szcvLS179_LS140 (x : List (S179)) : szvLS140 (x.map cvS179_S140) = szvLS179 x := by simp [Function.comp_def, List.map_map, szcvS179_S140, szvLS140, szvLS179]
theorem laws_toWireS_l (x : List (S179)) (h : szvLS179 x ≤ 1048576) (d : Nat) : ∀ (i : Nat) (z : List (S140)), i + d = x.length → z.length = x.length → z.take i = (x.map cvS179_S140).take i →
    Ev (fun k => laws_toWireS.l0 k x z (i : Int)) (x.map cvS179_S140) := by
  have hx : x.length ≤ 1048576 := by unfold szvLS179 at h; omega
  have hL : (x.map cvS179_S140).length = x.length := by simp
  induction d with
  | zero =>
    intro i z hi hz ht
    refine Ev.step (f := fun _ => some z) (fun k => by simp only [laws_toWireS.l0]; rw [if_neg (by omega)]) ?_
    have : z = x.map cvS179_S140 := by rw [← List.take_of_length_le (l := z) (i := i) (by omega), ht, List.take_of_length_le (by omega)]
    rw [this]
    exact Ev.now _
  | succ d ih =>
    intro i z hi hz ht
    have hlt : i < x.length := by omega
    have hg : (x.map cvS179_S140)[i]'(by omega) = cvS179_S140 (x[i]) := by simp
    have hst := set_take (l := x.map cvS179_S140) (z := z) (i := i) (by omega) (by omega) ht
    rw [hg] at hst
    refine Ev.step (f := fun k => (laws_toWire.f k (x[i].f0) (x[i].f1) (x[i].f2)).bind fun t => laws_toWireS.l0 k x (z.set i (⟨t.1, t.2.1, t.2.2⟩ : S140)) ((i + 1 : Nat) : Int)) (fun k => ?_) ?_
    · simp only [laws_toWireS.l0]
      rw [if_pos (by omega), if_pos (by omega), rd_T179_lt hlt]
      have e1 : wrap64 ((i : Int) + 1) = ((i + 1 : Nat) : Int) := by rw [w64 (by omega) (by omega)]; rfl
      rw [e1]
      simp only [show (i : Int) < (z.length : Int) from by omega, if_true, Int.toNat_natCast]
    refine Ev.bind (laws_toWire_ev x[i] (by have := sum_mem (fun y => szvS179 y) x _ (List.getElem_mem hlt); unfold szvLS179 at h; omega)) ?_
    exact ih (i + 1) _ (by omega) (by simpa using hz) hst
theorem laws_toWireS_ev (x : List (S179)) (h : szvLS179 x ≤ 1048576) : Ev (fun k => laws_toWireS.f k x) (x.map cvS179_S140) := by
  have hx : x.length ≤ 1048576 := by unfold szvLS179 at h; omega
  unfold laws_toWireS.f
  refine Ev.pos (by omega) (Ev.pos (by omega) ?_)
  exact laws_toWireS_l x h x.length 0 _ (by omega) (by simp) (by simp)
abbrev cvS79_S85 (x : S79) : S85 := ⟨x.f0.map cvS181_S138, x.f1.map cvS179_S140⟩
def szvS85 (x : S85) : Nat := x.f0.length + szvLS140 x.f1
theorem szcvS79_S85 (x : S79) : szvS85 (cvS79_S85 x) = szvS79 x := by simp [Function.comp_def, List.map_map, cvS79_S85, szcvLS179_LS140, szcvLS181_LS138, szvS79, szvS85]
theorem laws_toSnap_ev (x : S79) (h : szvS79 x ≤ 1048576) : Ev (fun k => laws_toSnap.f k x.f0 x.f1) (x.f0.map cvS181_S138, x.f1.map cvS179_S140) := by
  unfold laws_toSnap.f
  have hs : szvS79 x = x.f0.length + szvLS179 x.f1 := rfl
  refine Ev.bind (laws_toProcS_ev x.f0 (by omega)) ?_
  refine Ev.bind (laws_toWireS_ev x.f1 (by omega)) ?_
  exact Ev.now _
theorem laws_eqProc_ev (x : S138) : Ev (fun k => laws_eqProc.f x.f0 x.f1 x.f2 x.f0 x.f1 x.f2) true := by
  unfold laws_eqProc.f
  repeat (first | (with_reducible exact Ev.now true) | (with_reducible refine Ev.pos rfl ?_) | (with_reducible refine Ev.neg (by simp; done) ?_))
theorem laws_eqProc_lv (y0 : Int) (y1 : Int) (y2 : Bool) : Ev (fun k => laws_eqProc.f y0 y1 y2 y0 y1 y2) true := laws_eqProc_ev (⟨y0, y1, y2⟩ : S138)
theorem rd_T138_lt {l : List S138} {i : Nat} (h : i < l.length) : rd_T138 l (i : Int) = l[i] := by simp [rd_T138, h]
theorem laws_eqProcS_l (x : List (S138)) (h : x.length ≤ 1099511627776) (d : Nat) : ∀ (i : Nat), i + d = x.length → Ev (fun k => laws_eqProcS.l0 k x x (i : Int)) true := by
  have hx : x.length ≤ 1099511627776 := by exact h
  induction d with
  | zero =>
    intro i hi
    exact Ev.step (f := fun _ => some true) (fun k => by simp only [laws_eqProcS.l0]; rw [if_neg (by omega)]) (Ev.now _)
  | succ d ih =>
    intro i hi
    have hlt : i < x.length := by omega
    refine Ev.step (f := fun k => (laws_eqProc.f (x[i].f0) (x[i].f1) (x[i].f2) (x[i].f0) (x[i].f1) (x[i].f2)).bind fun t => if t = true then laws_eqProcS.l0 k x x ((i + 1 : Nat) : Int) else some false) (fun k => ?_) ?_
    · simp only [laws_eqProcS.l0]
      rw [if_pos (by omega), if_pos (by omega), if_pos (by omega), rd_T138_lt hlt, w64 (by omega) (by omega)]
      rfl
    refine Ev.bind (laws_eqProc_ev x[i]) ?_
    exact Ev.pos rfl (ih (i + 1) (by omega))
theorem laws_eqProcS_ev (x : List (S138)) (h : x.length ≤ 1099511627776) : Ev (fun k => laws_eqProcS.f k x x) true := by
  unfold laws_eqProcS.f
  exact Ev.pos rfl (laws_eqProcS_l x h x.length 0 (by omega))
theorem laws_eqIntS_l (x : List Int) (h : x.length ≤ 1099511627776) (d : Nat) : ∀ (i : Nat), i + d = x.length → Ev (fun k => laws_eqIntS.l0 k x x (i : Int)) true := by
  have hx : x.length ≤ 1099511627776 := by exact h
  induction d with
  | zero =>
    intro i hi
    exact Ev.step (f := fun _ => some true) (fun k => by simp only [laws_eqIntS.l0]; rw [if_neg (by omega)]) (Ev.now _)
  | succ d ih =>
    intro i hi
    have hlt : i < x.length := by omega
    refine Ev.step (f := fun k => laws_eqIntS.l0 k x x ((i + 1 : Nat) : Int)) (fun k => ?_) (ih (i + 1) (by omega))
    simp only [laws_eqIntS.l0]
    rw [if_pos (by omega), if_pos (by omega), if_pos (by omega)]
    first | rw [if_pos trivial] | rw [if_pos rfl]
    rw [w64 (by omega) (by omega)]
    rfl
theorem laws_eqIntS_ev (x : List Int) (h : x.length ≤ 1099511627776) : Ev (fun k => laws_eqIntS.f k x x) true := by
  unfold laws_eqIntS.f
  exact Ev.pos rfl (laws_eqIntS_l x h x.length 0 (by omega))
theorem laws_eqWire_ev (x : S140) (h : szvS140 x ≤ 1099511627776) : Ev (fun k => laws_eqWire.f k x.f0 x.f1 x.f2 x.f0 x.f1 x.f2) true := by
  unfold laws_eqWire.f
  have hs : szvS140 x = x.f0.length + x.f1.length := rfl
  repeat (first | (with_reducible exact Ev.now true) | (with_reducible refine Ev.pos rfl ?_) | (with_reducible refine Ev.neg (by simp; done) ?_) | (with_reducible refine Ev.bind (laws_eqIntS_ev _ (by omega)) ?_))
theorem laws_eqWire_lv (y0 : List Int) (y1 : List Int) (y2 : Bool) (h : y0.length + y1.length ≤ 1099511627776) : Ev (fun k => laws_eqWire.f k y0 y1 y2 y0 y1 y2) true := laws_eqWire_ev (⟨y0, y1, y2⟩ : S140) h
theorem rd_T140_lt {l : List S140} {i : Nat} (h : i < l.length) : rd_T140 l (i : Int) = l[i] := by simp [rd_T140, h]
theorem laws_eqWireS_l (x : List (S140)) (h : szvLS140 x ≤ 1099511627776) (d : Nat) : ∀ (i : Nat), i + d = x.length → Ev (fun k => laws_eqWireS.l0 k x x (i : Int)) true := by
  have hx : x.length ≤ 1099511627776 := by unfold szvLS140 at h; omega
  induction d with
  | zero =>
    intro i hi
    exact Ev.step (f := fun _ => some true) (fun k => by simp only [laws_eqWireS.l0]; rw [if_neg (by omega)]) (Ev.now _)
  | succ d ih =>
    intro i hi
    have hlt : i < x.length := by omega
    refine Ev.step (f := fun k => (laws_eqWire.f k (x[i].f0) (x[i].f1) (x[i].f2) (x[i].f0) (x[i].f1) (x[i].f2)).bind fun t => if t = true then laws_eqWireS.l0 k x x ((i + 1 : Nat) : Int) else some false) (fun k => ?_) ?_
    · simp only [laws_eqWireS.l0]
      rw [if_pos (by omega), if_pos (by omega), if_pos (by omega), rd_T140_lt hlt, w64 (by omega) (by omega)]
      rfl
    refine Ev.bind (laws_eqWire_ev x[i] (by have := sum_mem (fun y => szvS140 y) x _ (List.getElem_mem hlt); unfold szvLS140 at h; omega)) ?_
    exact Ev.pos rfl (ih (i + 1) (by omega))
theorem laws_eqWireS_ev (x : List (S140)) (h : szvLS140 x ≤ 1099511627776) : Ev (fun k => laws_eqWireS.f k x x) true := by
  unfold laws_eqWireS.f
  exact Ev.pos rfl (laws_eqWireS_l x h x.length 0 (by omega))
theorem laws_eqSnap_ev (x : S85) (h : szvS85 x ≤ 1099511627776) : Ev (fun k => laws_eqSnap.f k x.f0 x.f1 x.f0 x.f1) true := by
  unfold laws_eqSnap.f
  have hs : szvS85 x = x.f0.length + szvLS140 x.f1 := rfl
  repeat (first | (with_reducible exact Ev.now true) | (with_reducible refine Ev.pos rfl ?_) | (with_reducible refine Ev.neg (by simp; done) ?_) | (with_reducible refine Ev.bind (laws_eqProcS_ev _ (by omega)) ?_) | (with_reducible refine Ev.bind (laws_eqWireS_ev _ (by omega)) ?_))
theorem laws_eqSnap_lv (y0 : List (S138)) (y1 : List (S140)) (h : y0.length + szvLS140 y1 ≤ 1099511627776) : Ev (fun k => laws_eqSnap.f k y0 y1 y0 y1) true := laws_eqSnap_ev (⟨y0, y1⟩ : S85) h
/-- What is left to show: the program's function and the reference answer alike. -/
def Core : Prop := ∀ x0 : S85, szvS85 x0 ≤ 1048576 → ∃ v : Int × Bool, Ev (fun k => spec_PictureOf.f k x0.f0 x0.f1) v ∧ Ev (fun k => impl_PictureOf.f k x0.f0 x0.f1) v
theorem law (core : Core) : laws_FnExactPictureOf.Pure := by
  intro x0 hwx0
  apply Ev.rounds
  unfold laws_FnExactPictureOf.f
  refine Ev.bind (laws_szSnap_ev x0 (1048576) hwx0 (by omega) (by omega)) ?_
  by_cases g0 : ((szvS79 x0 : Nat) : Int) ≤ 1048576
  case neg =>
    rw [if_neg g0]
    exact Ev.pos (by omega) (Ev.now true)
  rw [if_pos g0]
  refine Ev.neg (by omega) ?_
  have zx0 : szvS85 (cvS79_S85 x0) ≤ 1048576 := by rw [szcvS79_S85]; omega
  have yx0 : szvS79 x0 ≤ 1048576 := by omega
  obtain ⟨v, hs, hi⟩ := core (cvS79_S85 x0) zx0
  repeat (first | (with_reducible exact Ev.now true) | (with_reducible refine Ev.bind hs ?_) | (with_reducible refine Ev.bind hi ?_) | (with_reducible refine Ev.bind (laws_toProc_ev _) ?_) | (with_reducible refine Ev.bind (laws_toProcS_ev _ (by first | assumption | omega)) ?_) | (with_reducible refine Ev.bind (laws_toIntS_ev _ (by first | assumption | omega)) ?_) | (with_reducible refine Ev.bind (laws_toWire_ev _ (by first | assumption | omega)) ?_) | (with_reducible refine Ev.bind (laws_toWireS_ev _ (by first | assumption | omega)) ?_) | (with_reducible refine Ev.bind (laws_toSnap_ev _ (by first | assumption | omega)) ?_) | (with_reducible refine Ev.bind (laws_eqProc_lv _ _ _) ?_) | (with_reducible refine Ev.bind (laws_eqProcS_ev _ (by first | assumption | omega | (dsimp only; omega) | (simp only [szvS79, szvS85] at *; omega))) ?_) | (with_reducible refine Ev.bind (laws_eqIntS_ev _ (by first | assumption | omega | (dsimp only; omega) | (simp only [szvS79, szvS85] at *; omega))) ?_) | (with_reducible refine Ev.bind (laws_eqWire_lv _ _ _ (by first | assumption | omega | (dsimp only; omega) | (simp only [szvS79, szvS85] at *; omega))) ?_) | (with_reducible refine Ev.bind (laws_eqWireS_ev _ (by first | assumption | omega | (dsimp only; omega) | (simp only [szvS79, szvS85] at *; omega))) ?_) | (with_reducible refine Ev.bind (laws_eqSnap_lv _ _ (by first | assumption | omega | (dsimp only; omega) | (simp only [szvS79, szvS85] at *; omega))) ?_) | (with_reducible refine Ev.pos rfl ?_) | (with_reducible refine Ev.neg (by first | omega | simp) ?_))
end Go.Proofs.Ytpbpglbldgpckaa.HFnExactPictureOf
