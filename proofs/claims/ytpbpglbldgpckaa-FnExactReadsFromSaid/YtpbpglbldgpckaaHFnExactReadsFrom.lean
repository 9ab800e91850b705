/- What the helpers of the law FnExactReadsFrom compute, in plain words: printed by a program of this claim's own. No conditions. -/
import Derived.Test.YtpbpglbldgpckaaG4
import Derived.Test.YtpbpglbldgpckaaG5
import Derived.Test.YtpbpglbldgpckaaG14
import Derived.Test.YtpbpglbldgpckaaG19
import Derived.Test.YtpbpglbldgpckaaG22
import Derived.Test.YtpbpglbldgpckaaG58
import Derived.Test.YtpbpglbldgpckaaG59
import Derived.Test.YtpbpglbldgpckaaG60
import Derived.Test.YtpbpglbldgpckaaQBase
namespace Go.Proofs.Ytpbpglbldgpckaa.HFnExactReadsFrom
open Go.RowKit Go.Proofs.Ytpbpglbldgpckaa.G Go.Proofs.Ytpbpglbldgpckaa.X Go.Proofs.Ytpbpglbldgpckaa.Pure Go.Proofs.YtpbpglbldgpckaaW.PrintWords Go.Proofs.YtpbpglbldgpckaaW.PrintLast
set_option linter.unusedVariables false
set_option linter.unusedSimpArgs false

theorem laws_szStepS_ev (x : List (S114)) (a : Int) (hw : (x.length ≤ 9223372036854775807 ∧ ∀ x0_ ∈ x, wf114 x0_)) (h0 : 0 ≤ a) (h1 : a ≤ 1048576) : Ev (fun k => laws_szStepS.f x a) (if ((x.length : Nat) : Int) ≤ a then a - ((x.length : Nat) : Int) else -1) := by
  have hx := hw.1
  refine Ev.const ?_
  unfold laws_szStepS.f
  rw [w64 (by omega) (by omega)]
  by_cases h : (x.length : Int) ≤ a
  · rw [if_neg (by omega), if_pos h]
  · rw [if_pos (by omega), if_neg h]
abbrev cvS114_S111 (x : S114) : S111 := ⟨x.f0, x.f1, x.f2⟩
theorem laws_toStep_ev (x : S114) : Ev (fun k => laws_toStep.f x.f0 x.f1 x.f2) (x.f0, x.f1, x.f2) := by
  unfold laws_toStep.f
  exact Ev.now _
theorem szcvLS114_LS111 (x : List (S114)) : (x.map cvS114_S111).length = x.length := by simp [Function.comp_def, List.map_map]
theorem rd_T114_lt {l : List S114} {i : Nat} (h : i < l.length) : rd_T114 l (i : Int) = l[i] := by simp [rd_T114, h]
theorem laws_toStepS_l (x : List (S114)) (h : x.length ≤ 1048576) (d : Nat) : ∀ (i : Nat) (z : List (S111)), i + d = x.length → z.length = x.length → z.take i = (x.map cvS114_S111).take i →
    Ev (fun k => laws_toStepS.l0 k x z (i : Int)) (x.map cvS114_S111) := by
  have hx : x.length ≤ 1048576 := by exact h
  have hL : (x.map cvS114_S111).length = x.length := by simp
  induction d with
  | zero =>
    intro i z hi hz ht
    refine Ev.step (f := fun _ => some z) (fun k => by simp only [laws_toStepS.l0]; rw [if_neg (by omega)]) ?_
    have : z = x.map cvS114_S111 := by rw [← List.take_of_length_le (l := z) (i := i) (by omega), ht, List.take_of_length_le (by omega)]
    rw [this]
    exact Ev.now _
  | succ d ih =>
    intro i z hi hz ht
    have hlt : i < x.length := by omega
    have hg : (x.map cvS114_S111)[i]'(by omega) = cvS114_S111 (x[i]) := by simp
    have hst := set_take (l := x.map cvS114_S111) (z := z) (i := i) (by omega) (by omega) ht
    rw [hg] at hst
    refine Ev.step (f := fun k => (laws_toStep.f (x[i].f0) (x[i].f1) (x[i].f2)).bind fun t => laws_toStepS.l0 k x (z.set i (⟨t.1, t.2.1, t.2.2⟩ : S111)) ((i + 1 : Nat) : Int)) (fun k => ?_) ?_
    · simp only [laws_toStepS.l0]
      rw [if_pos (by omega), if_pos (by omega), rd_T114_lt hlt]
      have e1 : wrap64 ((i : Int) + 1) = ((i + 1 : Nat) : Int) := by rw [w64 (by omega) (by omega)]; rfl
      rw [e1]
      simp only [show (i : Int) < (z.length : Int) from by omega, if_true, Int.toNat_natCast]
    refine Ev.bind (laws_toStep_ev x[i]) ?_
    exact ih (i + 1) _ (by omega) (by simpa using hz) hst
theorem laws_toStepS_ev (x : List (S114)) (h : x.length ≤ 1048576) : Ev (fun k => laws_toStepS.f k x) (x.map cvS114_S111) := by
  have hx : x.length ≤ 1048576 := by exact h
  unfold laws_toStepS.f
  refine Ev.pos (by omega) (Ev.pos (by omega) ?_)
  exact laws_toStepS_l x h x.length 0 _ (by omega) (by simp) (by simp)
theorem laws_eqStep_ev (x : S111) : Ev (fun k => laws_eqStep.f x.f0 x.f1 x.f2 x.f0 x.f1 x.f2) true := by
  unfold laws_eqStep.f
  repeat (first | (with_reducible exact Ev.now true) | (with_reducible refine Ev.pos rfl ?_) | (with_reducible refine Ev.neg (by simp; done) ?_))
theorem laws_eqStep_lv (y0 : Int) (y1 : Int) (y2 : Int) : Ev (fun k => laws_eqStep.f y0 y1 y2 y0 y1 y2) true := laws_eqStep_ev (⟨y0, y1, y2⟩ : S111)
theorem rd_T111_lt {l : List S111} {i : Nat} (h : i < l.length) : rd_T111 l (i : Int) = l[i] := by simp [rd_T111, h]
theorem laws_eqStepS_l (x : List (S111)) (h : x.length ≤ 1099511627776) (d : Nat) : ∀ (i : Nat), i + d = x.length → Ev (fun k => laws_eqStepS.l0 k x x (i : Int)) true := by
  have hx : x.length ≤ 1099511627776 := by exact h
  induction d with
  | zero =>
    intro i hi
    exact Ev.step (f := fun _ => some true) (fun k => by simp only [laws_eqStepS.l0]; rw [if_neg (by omega)]) (Ev.now _)
  | succ d ih =>
    intro i hi
    have hlt : i < x.length := by omega
    refine Ev.step (f := fun k => (laws_eqStep.f (x[i].f0) (x[i].f1) (x[i].f2) (x[i].f0) (x[i].f1) (x[i].f2)).bind fun t => if t = true then laws_eqStepS.l0 k x x ((i + 1 : Nat) : Int) else some false) (fun k => ?_) ?_
    · simp only [laws_eqStepS.l0]
      rw [if_pos (by omega), if_pos (by omega), if_pos (by omega), rd_T111_lt hlt, w64 (by omega) (by omega)]
      rfl
    refine Ev.bind (laws_eqStep_ev x[i]) ?_
    exact Ev.pos rfl (ih (i + 1) (by omega))
theorem laws_eqStepS_ev (x : List (S111)) (h : x.length ≤ 1099511627776) : Ev (fun k => laws_eqStepS.f k x x) true := by
  unfold laws_eqStepS.f
  exact Ev.pos rfl (laws_eqStepS_l x h x.length 0 (by omega))
def mkLS111 (a : Int) (n : Nat) : List (S111) := (List.range n).map fun j : Nat => (⟨a + 3 * (j : Int) + 0, a + 3 * (j : Int) + 1, a + 3 * (j : Int) + 2⟩ : S111)
theorem mkLS111_len (a : Int) (n : Nat) : (mkLS111 a n).length = n := by simp [mkLS111]
theorem mkLS111_get (a : Int) (n : Nat) (j : Nat) (h : j < (mkLS111 a n).length) : (mkLS111 a n)[j] = (⟨a + 3 * (j : Int) + 0, a + 3 * (j : Int) + 1, a + 3 * (j : Int) + 2⟩ : S111) := by simp [mkLS111]
theorem rd_T111_set {l : List (S111)} {i : Nat} (v : S111) (h : i < l.length) : rd_T111 (l.set i v) (i : Int) = v := by simp [rd_T111, h]
theorem laws_markStepS_l (n : Nat) (a : Int) (h0 : 0 ≤ a) (hb : a + ((3 * n : Nat) : Int) ≤ 4611686018427387904) (d : Nat) : ∀ (i : Nat) (z : List (S111)), i + d = n → z.length = n → z.take i = (mkLS111 a n).take i →
    Ev (fun k => laws_markStepS.l0 k z (a + 3 * (i : Int)) (i : Int)) (a + ((3 * n : Nat) : Int), mkLS111 a n) := by
  have hm := mkLS111_len a n
  induction d with
  | zero =>
    intro i z hi hz ht
    refine Ev.step (f := fun _ => some (a + 3 * (i : Int), z)) (fun k => by simp only [laws_markStepS.l0]; rw [if_neg (by omega)]) ?_
    have : z = mkLS111 a n := by rw [← List.take_of_length_le (l := z) (i := i) (by omega), ht, List.take_of_length_le (by omega)]
    rw [this]
    refine Ev.eq (Ev.now _) ?_
    have e : a + 3 * (i : Int) = a + ((3 * n : Nat) : Int) := by omega
    rw [e]
  | succ d ih =>
    intro i z hi hz ht
    have hlt : i < z.length := by omega
    have hst := set_take (l := mkLS111 a n) (z := z) (i := i) (by omega) (by omega) ht
    rw [mkLS111_get] at hst
    refine Ev.step (f := fun k => laws_markStepS.l0 k (z.set i ((⟨a + 3 * (i : Int) + 0, a + 3 * (i : Int) + 1, a + 3 * (i : Int) + 2⟩ : S111))) (a + 3 * ((i + 1 : Nat) : Int)) ((i + 1 : Nat) : Int)) (fun k => ?_) (ih (i + 1) _ (by omega) (by simpa using hz) hst)
    simp only [laws_markStepS.l0]
    rw [if_pos (by omega), if_pos (by omega)]
    have e0 : wrap64 ((i : Int) + 1) = ((i + 1 : Nat) : Int) := by rw [w64 (by omega) (by omega)]; rfl
    have e1 : wrap64 (a + 3 * (i : Int) + 1) = a + 3 * (i : Int) + 1 := by rw [w64 (by omega) (by omega)]
    have e2 : wrap64 (a + 3 * (i : Int) + 1 + 1) = a + 3 * (i : Int) + 2 := by rw [w64 (by omega) (by omega)]; omega
    have e3 : wrap64 (a + 3 * (i : Int) + 2 + 1) = a + 3 * (i : Int) + 3 := by rw [w64 (by omega) (by omega)]; omega
    have e9 : a + 3 * (i : Int) + 3 = a + 3 * ((i + 1 : Nat) : Int) := by omega
    simp only [Option.bind_some, Int.toNat_natCast, e0, e1, e2, e3, rd_T111_set _ hlt, List.set_set, Int.add_zero]
    rw [e9]
theorem laws_markStepS_ev (x : List (S111)) (a : Int) (h0 : 0 ≤ a) (hb : a + ((3 * x.length : Nat) : Int) ≤ 4611686018427387904) : Ev (fun k => laws_markStepS.f k x a) (a + ((3 * x.length : Nat) : Int), mkLS111 (a) x.length) := by
  unfold laws_markStepS.f
  have := laws_markStepS_l x.length a h0 (by omega) x.length 0 x (by omega) rfl (by simp)
  simpa using this
theorem laws_eqIntS_l (x : List Int) (h : x.length ≤ 1099511627776) (d : Nat) : ∀ (i : Nat), i + d = x.length → Ev (fun k => laws_eqIntS.l0 k x x (i : Int)) true := by
  have hx : x.length ≤ 1099511627776 := by exact h
  induction d with
  | zero =>
    intro i hi
    exact Ev.step (f := fun _ => some true) (fun k => by simp only [laws_eqIntS.l0]; rw [if_neg (by omega)]) (Ev.now _)
  | succ d ih =>
    intro i hi
    have hlt : i < x.length := by omega
    refine Ev.step (f := fun k => laws_eqIntS.l0 k x x ((i + 1 : Nat) : Int)) (fun k => ?_) (ih (i + 1) (by omega))
    simp only [laws_eqIntS.l0]
    rw [if_pos (by omega), if_pos (by omega), if_pos (by omega)]
    first | rw [if_pos trivial] | rw [if_pos rfl]
    rw [w64 (by omega) (by omega)]
    rfl
theorem laws_eqIntS_ev (x : List Int) (h : x.length ≤ 1099511627776) : Ev (fun k => laws_eqIntS.f k x x) true := by
  unfold laws_eqIntS.f
  exact Ev.pos rfl (laws_eqIntS_l x h x.length 0 (by omega))
theorem laws_markIntS_l (n : Nat) (a : Int) (h0 : 0 ≤ a) (hb : a + ((1 * n : Nat) : Int) ≤ 4611686018427387904) (d : Nat) : ∀ (i : Nat) (z : List Int), i + d = n → z.length = n → z.take i = (marks a n).take i →
    Ev (fun k => laws_markIntS.l0 k z (a + 1 * (i : Int)) (i : Int)) (a + ((1 * n : Nat) : Int), marks a n) := by
  have hm := marks_length a n
  induction d with
  | zero =>
    intro i z hi hz ht
    refine Ev.step (f := fun _ => some (a + 1 * (i : Int), z)) (fun k => by simp only [laws_markIntS.l0]; rw [if_neg (by omega)]) ?_
    have : z = marks a n := by rw [← List.take_of_length_le (l := z) (i := i) (by omega), ht, List.take_of_length_le (by omega)]
    rw [this]
    refine Ev.eq (Ev.now _) ?_
    have e : a + 1 * (i : Int) = a + ((1 * n : Nat) : Int) := by omega
    rw [e]
  | succ d ih =>
    intro i z hi hz ht
    have hlt : i < z.length := by omega
    have hst := set_take (l := marks a n) (z := z) (i := i) (by omega) (by omega) ht
    rw [marks_get] at hst
    refine Ev.step (f := fun k => laws_markIntS.l0 k (z.set i (a + (i : Int))) (a + 1 * ((i + 1 : Nat) : Int)) ((i + 1 : Nat) : Int)) (fun k => ?_) (ih (i + 1) _ (by omega) (by simpa using hz) hst)
    simp only [laws_markIntS.l0]
    rw [if_pos (by omega), if_pos (by omega)]
    rw [w64 (by omega) (by omega), w64 (by omega) (by omega), show a + 1 * (i : Int) = a + (i : Int) from by omega, show a + (i : Int) + 1 = a + 1 * ((i + 1 : Nat) : Int) from by omega]
    rfl
theorem laws_markIntS_ev (x : List Int) (a : Int) (h0 : 0 ≤ a) (hb : a + ((x.length : Nat) : Int) ≤ 4611686018427387904) : Ev (fun k => laws_markIntS.f k x a) (a + ((x.length : Nat) : Int), marks (a) x.length) := by
  unfold laws_markIntS.f
  have := laws_markIntS_l x.length a h0 (by omega) x.length 0 x (by omega) rfl (by simp)
  simpa using this
theorem laws_heldIntS_l (n : Nat) (a : Int) (h0 : 0 ≤ a) (hb : a + ((1 * n : Nat) : Int) ≤ 4611686018427387904) (d : Nat) : ∀ (i : Nat), i + d = n → Ev (fun k => laws_heldIntS.l0 k (marks a n) (a + 1 * (i : Int)) (i : Int)) (a + ((1 * n : Nat) : Int)) := by
  have hm := marks_length a n
  induction d with
  | zero =>
    intro i hi
    exact Ev.step (f := fun _ => some (a + 1 * (i : Int))) (fun k => by simp only [laws_heldIntS.l0]; rw [if_neg (by omega)]) (Ev.eq (Ev.now _) (by omega))
  | succ d ih =>
    intro i hi
    have hlt : i < (marks a n).length := by omega
    refine Ev.step (f := fun k => laws_heldIntS.l0 k (marks a n) (a + 1 * ((i + 1 : Nat) : Int)) ((i + 1 : Nat) : Int)) (fun k => ?_) (ih (i + 1) (by omega))
    simp only [laws_heldIntS.l0]
    rw [if_pos (by omega), if_pos (by omega)]
    rw [rd_lt hlt, marks_get, if_pos (by omega), w64 (by omega) (by omega), w64 (by omega) (by omega), show a + 1 * (i : Int) + 1 = a + 1 * ((i + 1 : Nat) : Int) from by omega]
    rfl
theorem laws_heldIntS_ev (x : List Int) (a : Int) (h0 : 0 ≤ a) (hb : a + ((x.length : Nat) : Int) ≤ 4611686018427387904) : Ev (fun k => laws_heldIntS.f k (marks (a) x.length) a) (a + ((x.length : Nat) : Int)) := by
  unfold laws_heldIntS.f
  have := laws_heldIntS_l x.length a h0 (by omega) x.length 0 (by omega)
  simpa using this
theorem laws_eqSource_ev (x : S151) : Ev (fun k => laws_eqSource.f x.f0 x.f1 x.f0 x.f1) true := by
  unfold laws_eqSource.f
  repeat (first | (with_reducible exact Ev.now true) | (with_reducible refine Ev.pos rfl ?_) | (with_reducible refine Ev.neg (by simp; done) ?_))
theorem laws_eqSource_lv (y0 : Int) (y1 : Int) : Ev (fun k => laws_eqSource.f y0 y1 y0 y1) true := laws_eqSource_ev (⟨y0, y1⟩ : S151)
theorem rd_T151_lt {l : List S151} {i : Nat} (h : i < l.length) : rd_T151 l (i : Int) = l[i] := by simp [rd_T151, h]
theorem laws_eqSourceS_l (x : List (S151)) (h : x.length ≤ 1099511627776) (d : Nat) : ∀ (i : Nat), i + d = x.length → Ev (fun k => laws_eqSourceS.l0 k x x (i : Int)) true := by
  have hx : x.length ≤ 1099511627776 := by exact h
  induction d with
  | zero =>
    intro i hi
    exact Ev.step (f := fun _ => some true) (fun k => by simp only [laws_eqSourceS.l0]; rw [if_neg (by omega)]) (Ev.now _)
  | succ d ih =>
    intro i hi
    have hlt : i < x.length := by omega
    refine Ev.step (f := fun k => (laws_eqSource.f (x[i].f0) (x[i].f1) (x[i].f0) (x[i].f1)).bind fun t => if t = true then laws_eqSourceS.l0 k x x ((i + 1 : Nat) : Int) else some false) (fun k => ?_) ?_
    · simp only [laws_eqSourceS.l0]
      rw [if_pos (by omega), if_pos (by omega), if_pos (by omega), rd_T151_lt hlt, w64 (by omega) (by omega)]
      rfl
    refine Ev.bind (laws_eqSource_ev x[i]) ?_
    exact Ev.pos rfl (ih (i + 1) (by omega))
theorem laws_eqSourceS_ev (x : List (S151)) (h : x.length ≤ 1099511627776) : Ev (fun k => laws_eqSourceS.f k x x) true := by
  unfold laws_eqSourceS.f
  exact Ev.pos rfl (laws_eqSourceS_l x h x.length 0 (by omega))
def mkLS151 (a : Int) (n : Nat) : List (S151) := (List.range n).map fun j : Nat => (⟨a + 2 * (j : Int) + 0, a + 2 * (j : Int) + 1⟩ : S151)
theorem mkLS151_len (a : Int) (n : Nat) : (mkLS151 a n).length = n := by simp [mkLS151]
theorem mkLS151_get (a : Int) (n : Nat) (j : Nat) (h : j < (mkLS151 a n).length) : (mkLS151 a n)[j] = (⟨a + 2 * (j : Int) + 0, a + 2 * (j : Int) + 1⟩ : S151) := by simp [mkLS151]
theorem rd_T151_set {l : List (S151)} {i : Nat} (v : S151) (h : i < l.length) : rd_T151 (l.set i v) (i : Int) = v := by simp [rd_T151, h]
theorem laws_markSourceS_l (n : Nat) (a : Int) (h0 : 0 ≤ a) (hb : a + ((2 * n : Nat) : Int) ≤ 4611686018427387904) (d : Nat) : ∀ (i : Nat) (z : List (S151)), i + d = n → z.length = n → z.take i = (mkLS151 a n).take i →
    Ev (fun k => laws_markSourceS.l0 k z (a + 2 * (i : Int)) (i : Int)) (a + ((2 * n : Nat) : Int), mkLS151 a n) := by
  have hm := mkLS151_len a n
  induction d with
  | zero =>
    intro i z hi hz ht
    refine Ev.step (f := fun _ => some (a + 2 * (i : Int), z)) (fun k => by simp only [laws_markSourceS.l0]; rw [if_neg (by omega)]) ?_
    have : z = mkLS151 a n := by rw [← List.take_of_length_le (l := z) (i := i) (by omega), ht, List.take_of_length_le (by omega)]
    rw [this]
    refine Ev.eq (Ev.now _) ?_
    have e : a + 2 * (i : Int) = a + ((2 * n : Nat) : Int) := by omega
    rw [e]
  | succ d ih =>
    intro i z hi hz ht
    have hlt : i < z.length := by omega
    have hst := set_take (l := mkLS151 a n) (z := z) (i := i) (by omega) (by omega) ht
    rw [mkLS151_get] at hst
    refine Ev.step (f := fun k => laws_markSourceS.l0 k (z.set i ((⟨a + 2 * (i : Int) + 0, a + 2 * (i : Int) + 1⟩ : S151))) (a + 2 * ((i + 1 : Nat) : Int)) ((i + 1 : Nat) : Int)) (fun k => ?_) (ih (i + 1) _ (by omega) (by simpa using hz) hst)
    simp only [laws_markSourceS.l0]
    rw [if_pos (by omega), if_pos (by omega)]
    have e0 : wrap64 ((i : Int) + 1) = ((i + 1 : Nat) : Int) := by rw [w64 (by omega) (by omega)]; rfl
    have e1 : wrap64 (a + 2 * (i : Int) + 1) = a + 2 * (i : Int) + 1 := by rw [w64 (by omega) (by omega)]
    have e2 : wrap64 (a + 2 * (i : Int) + 1 + 1) = a + 2 * (i : Int) + 2 := by rw [w64 (by omega) (by omega)]; omega
    have e9 : a + 2 * (i : Int) + 2 = a + 2 * ((i + 1 : Nat) : Int) := by omega
    simp only [Option.bind_some, Int.toNat_natCast, e0, e1, e2, rd_T151_set _ hlt, List.set_set, Int.add_zero]
    rw [e9]
theorem laws_markSourceS_ev (x : List (S151)) (a : Int) (h0 : 0 ≤ a) (hb : a + ((2 * x.length : Nat) : Int) ≤ 4611686018427387904) : Ev (fun k => laws_markSourceS.f k x a) (a + ((2 * x.length : Nat) : Int), mkLS151 (a) x.length) := by
  unfold laws_markSourceS.f
  have := laws_markSourceS_l x.length a h0 (by omega) x.length 0 x (by omega) rfl (by simp)
  simpa using this
theorem laws_heldSourceS_l (n : Nat) (a : Int) (h0 : 0 ≤ a) (hb : a + ((2 * n : Nat) : Int) ≤ 4611686018427387904) (d : Nat) : ∀ (i : Nat), i + d = n → Ev (fun k => laws_heldSourceS.l0 k (mkLS151 a n) (a + 2 * (i : Int)) (i : Int)) (a + ((2 * n : Nat) : Int)) := by
  have hm := mkLS151_len a n
  induction d with
  | zero =>
    intro i hi
    exact Ev.step (f := fun _ => some (a + 2 * (i : Int))) (fun k => by simp only [laws_heldSourceS.l0]; rw [if_neg (by omega)]) (Ev.eq (Ev.now _) (by omega))
  | succ d ih =>
    intro i hi
    have hlt : i < (mkLS151 a n).length := by omega
    refine Ev.step (f := fun k => laws_heldSourceS.l0 k (mkLS151 a n) (a + 2 * ((i + 1 : Nat) : Int)) ((i + 1 : Nat) : Int)) (fun k => ?_) (ih (i + 1) (by omega))
    simp only [laws_heldSourceS.l0]
    rw [if_pos (by omega), if_pos (by omega)]
    have e0 : wrap64 ((i : Int) + 1) = ((i + 1 : Nat) : Int) := by rw [w64 (by omega) (by omega)]; rfl
    have e1 : wrap64 (a + 2 * (i : Int) + 1) = a + 2 * (i : Int) + 1 := by rw [w64 (by omega) (by omega)]
    have e2 : wrap64 (a + 2 * (i : Int) + 1 + 1) = a + 2 * (i : Int) + 2 := by rw [w64 (by omega) (by omega)]; omega
    have e9 : a + 2 * (i : Int) + 2 = a + 2 * ((i + 1 : Nat) : Int) := by omega
    simp only [rd_T151_lt hlt, mkLS151_get, e0, e1, e2, Int.add_zero, if_true]
    rw [e9]
theorem laws_heldSourceS_ev (x : List (S151)) (a : Int) (h0 : 0 ≤ a) (hb : a + ((2 * x.length : Nat) : Int) ≤ 4611686018427387904) : Ev (fun k => laws_heldSourceS.f k (mkLS151 (a) x.length) a) (a + ((2 * x.length : Nat) : Int)) := by
  unfold laws_heldSourceS.f
  have := laws_heldSourceS_l x.length a h0 (by omega) x.length 0 (by omega)
  simpa using this
/-- What is left to show: the program's function and the reference answer alike. -/
def Core : Prop := ∀ x0 : List (S111), x0.length ≤ 1048576 → ∃ v : (List (S151)) × (List Int) × Bool, Ev (fun k => spec_ReadsFrom.f k x0) v ∧ Ev (fun k => impl_ReadsFrom.f k x0) v ∧ v.1.length ≤ 137438953472 ∧ v.2.1.length ≤ 137438953472
theorem law (core : Core) : laws_FnExactReadsFrom.Pure := by
  intro x0 hwx0
  apply Ev.rounds
  unfold laws_FnExactReadsFrom.f
  refine Ev.bind (laws_szStepS_ev x0 (1048576) hwx0 (by omega) (by omega)) ?_
  by_cases g0 : ((x0.length : Nat) : Int) ≤ 1048576
  case neg =>
    rw [if_neg g0]
    exact Ev.pos (by omega) (Ev.now true)
  rw [if_pos g0]
  refine Ev.neg (by omega) ?_
  have zx0 : (x0.map cvS114_S111).length ≤ 1048576 := by rw [szcvLS114_LS111]; omega
  have yx0 : x0.length ≤ 1048576 := by omega
  obtain ⟨v, hs, hi, hv0, hv1⟩ := core (x0.map cvS114_S111) zx0
  repeat (first | (with_reducible exact Ev.now true) | (with_reducible refine Ev.bind hs ?_) | (with_reducible refine Ev.bind hi ?_) | (with_reducible refine Ev.bind (laws_toStep_ev _) ?_) | (with_reducible refine Ev.bind (laws_toStepS_ev _ (by first | assumption | omega)) ?_) | (with_reducible refine Ev.bind (laws_eqStep_lv _ _ _) ?_) | (with_reducible refine Ev.bind (laws_eqStepS_ev _ (by first | assumption | omega | (dsimp only; omega))) ?_) | (with_reducible refine Ev.bind (laws_eqIntS_ev _ (by first | assumption | omega | (dsimp only; omega))) ?_) | (with_reducible refine Ev.bind (laws_eqSource_lv _ _) ?_) | (with_reducible refine Ev.bind (laws_eqSourceS_ev _ (by first | assumption | omega | (dsimp only; omega))) ?_) | (with_reducible refine Ev.bind (laws_markStepS_ev _ _ (by first | assumption | omega | (dsimp only; omega)) (by first | assumption | omega | (dsimp only; omega))) ?_) | (with_reducible refine Ev.bind (laws_markIntS_ev _ _ (by first | assumption | omega | (dsimp only; omega)) (by first | assumption | omega | (dsimp only; omega))) ?_) | (with_reducible refine Ev.bind (laws_heldIntS_ev _ _ (by first | assumption | omega | (dsimp only; omega)) (by first | assumption | omega | (dsimp only; omega))) ?_) | (with_reducible refine Ev.bind (laws_markSourceS_ev _ _ (by first | assumption | omega | (dsimp only; omega)) (by first | assumption | omega | (dsimp only; omega))) ?_) | (with_reducible refine Ev.bind (laws_heldSourceS_ev _ _ (by first | assumption | omega | (dsimp only; omega)) (by first | assumption | omega | (dsimp only; omega))) ?_) | (with_reducible refine Ev.pos rfl ?_) | (with_reducible refine Ev.neg (by first | omega | simp) ?_))
end Go.Proofs.Ytpbpglbldgpckaa.HFnExactReadsFrom
