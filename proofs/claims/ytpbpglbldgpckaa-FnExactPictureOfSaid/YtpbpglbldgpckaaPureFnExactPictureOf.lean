/- The plain law of PictureOf: both functions answer alike. No conditions. -/
import Derived.Test.YtpbpglbldgpckaaHFnExactPictureOf
import Derived.Test.YtpbpglbldgpckaaQSnap
import Derived.Test.YtpbpglbldgpckaaG68
import Derived.Test.YtpbpglbldgpckaaG69
namespace Go.Proofs.Ytpbpglbldgpckaa.Pure
open Go.RowKit Go.Proofs.Ytpbpglbldgpckaa.G Go.Proofs.Ytpbpglbldgpckaa.X Go.Proofs.YtpbpglbldgpckaaW.PrintWords Go.Proofs.Ytpbpglbldgpckaa.HFnExactPictureOf
set_option linter.unusedVariables false

def picW : List S140 → Int → Int × Bool
  | [], acc => (acc, true)
  | w :: ws, acc => if w.f2 = true then (0, false) else picW ws (acc + tot w.f1)
def picP (W : List S140) : List S138 → Int → Int × Bool
  | [], acc => picW W acc
  | p :: ps, acc => if p.f2 = true then picP W ps (acc + p.f1) else (0, false)
def okR (W : List S140) : Prop := ∀ w ∈ W, w.f1.length ≤ 200 ∧ w.f1.all amtB = true
theorem po_l2 (W : List S140) (N j : Int) (ws : List Int) (hws : ws.length ≤ 200) (r : Int × Bool) (d : Nat) : ∀ (i : Nat) (acc : Int), i + d = ws.length → (ws.drop i).all amtB = true → 0 ≤ acc → acc + 1000000 * (d : Int) ≤ 1000000000000000 →
    Ev (fun k => spec_PictureOf.l1 k (acc + tot (ws.drop i)) W N (wrap64 (j + 1))) r → Ev (fun k => spec_PictureOf.l2 k acc W N j ws (ws.length : Int) (i : Int)) r := by
  induction d with
  | zero =>
    intro i acc hi ha h0 h1 h
    rw [List.drop_of_length_le (by omega), show tot [] = 0 from rfl, Int.add_zero] at h
    exact Ev.step (fun k => by rw [spec_PictureOf.l2]) (Ev.neg (by omega) h)
  | succ d ih =>
    intro i acc hi ha h0 h1 h
    have hlt : i < ws.length := by omega
    rw [drop_cons hlt, List.all_cons, Bool.and_eq_true] at ha
    have hx := of_decide_eq_true ha.1
    rw [drop_cons hlt, show tot (ws[i] :: ws.drop (i + 1)) = ws[i] + tot (ws.drop (i + 1)) from rfl, ← Int.add_assoc] at h
    refine Ev.step (fun k => by rw [spec_PictureOf.l2]) (Ev.pos (by omega) (Ev.pos (by omega) (Ev.pos (by omega) ?_)))
    rw [rd_lt hlt, w64 (x := (i : Int) + 1) (by omega) (by omega), w64 (x := acc + ws[i]) (by omega) (by omega)]
    exact ih (i + 1) _ (by omega) ha.2 (by omega) (by omega) h
theorem po_l1 (W : List S140) (hW : W.length ≤ 16) (hl : okR W) (d : Nat) : ∀ (i : Nat) (acc : Int), i + d = W.length → 0 ≤ acc → acc + 200000000 * (d : Int) ≤ 10000000000000 →
    Ev (fun k => spec_PictureOf.l1 k acc W (W.length : Int) (i : Int)) (picW (W.drop i) acc) := by
  induction d with
  | zero =>
    intro i acc hi h0 h1
    rw [List.drop_of_length_le (by omega)]
    exact Ev.step (fun k => by rw [spec_PictureOf.l1]) (Ev.neg (by omega) (Ev.eq (Ev.now (acc, true)) rfl))
  | succ d ih =>
    intro i acc hi h0 h1
    have hlt : i < W.length := by omega
    have hw := hl _ (List.getElem_mem hlt)
    have hb := tot_bound _ hw.2
    rw [drop_cons hlt]
    unfold picW
    refine Ev.step (fun k => by rw [spec_PictureOf.l1]) (Ev.pos (by omega) (Ev.pos (by omega) (Ev.pos (by omega) ?_)))
    rw [rdWi_lt hlt]
    refine Ev.ite (fun _ => Ev.now _) (fun _ => ?_)
    refine po_l2 W _ _ W[i].f1 hw.1 _ W[i].f1.length 0 acc (by omega) (by rw [List.drop_zero]; exact hw.2) h0 (by omega) ?_
    rw [List.drop_zero, w64 (x := (i : Int) + 1) (by omega) (by omega)]
    exact ih (i + 1) _ (by omega) (by omega) (by omega)
theorem po_l0 (P : List S138) (hP : P.length ≤ 4) (hp : ∀ p ∈ P, 0 ≤ p.f1 ∧ p.f1 ≤ 2000000000) (W : List S140) (hW : W.length ≤ 16) (hl : okR W) (d : Nat) : ∀ (i : Nat) (acc : Int), i + d = P.length → 0 ≤ acc → acc + 2000000000 * (d : Int) ≤ 1000000000000 →
    Ev (fun k => spec_PictureOf.l0 k acc P (P.length : Int) (i : Int) P W) (picP W (P.drop i) acc) := by
  induction d with
  | zero =>
    intro i acc hi h0 h1
    rw [List.drop_of_length_le (by omega)]
    have hz : Ev (fun k => spec_PictureOf.l1 k acc W (W.length : Int) 0) (picW W acc) := po_l1 W hW hl W.length 0 acc (by omega) h0 (by omega)
    exact Ev.step (fun k => by rw [spec_PictureOf.l0]) (Ev.neg (by omega) hz)
  | succ d ih =>
    intro i acc hi h0 h1
    have hlt : i < P.length := by omega
    have hw := hp _ (List.getElem_mem hlt)
    rw [drop_cons hlt]
    unfold picP
    refine Ev.step (fun k => by rw [spec_PictureOf.l0]) (Ev.pos (by omega) (Ev.pos (by omega) (Ev.pos (by omega) ?_)))
    rw [rdPr_lt hlt, w64 (x := (i : Int) + 1) (by omega) (by omega), w64 (x := acc + P[i].f1) (by omega) (by omega)]
    exact Ev.ite (fun _ => ih (i + 1) _ (by omega) (by omega) (by omega)) (fun _ => Ev.now _)
theorem pm_l1 (W : List S140) (hW : W.length ≤ 16) (hl : okR W) (d : Nat) : ∀ (i : Nat) (acc : Int), i + d = W.length → 0 ≤ acc → acc + 200000000 * (d : Int) ≤ 10000000000000 →
    Ev (fun k => impl_Snap_picture.l1 k acc W (W.length : Int) (i : Int)) (picW (W.drop i) acc) := by
  induction d with
  | zero =>
    intro i acc hi h0 h1
    rw [List.drop_of_length_le (by omega)]
    exact Ev.step (fun k => by rw [impl_Snap_picture.l1]) (Ev.neg (by omega) (Ev.eq (Ev.now (acc, true)) rfl))
  | succ d ih =>
    intro i acc hi h0 h1
    have hlt : i < W.length := by omega
    have hw := hl _ (List.getElem_mem hlt)
    have hb := tot_bound _ hw.2
    rw [drop_cons hlt]
    unfold picW
    refine Ev.step (fun k => by rw [impl_Snap_picture.l1]) (Ev.pos (by omega) (Ev.pos (by omega) (Ev.pos (by omega) ?_)))
    rw [rdWi_lt hlt, w64 (x := (i : Int) + 1) (by omega) (by omega)]
    refine Ev.ite (fun _ => Ev.now _) (fun _ => Ev.bind (sumOf_ev _ (by omega) hw.2) ?_)
    rw [w64 (x := acc + tot W[i].f1) (by omega) (by omega)]
    exact ih (i + 1) _ (by omega) (by omega) (by omega)
theorem pm_l0 (P : List S138) (hP : P.length ≤ 4) (hp : ∀ p ∈ P, 0 ≤ p.f1 ∧ p.f1 ≤ 2000000000) (W : List S140) (hW : W.length ≤ 16) (hl : okR W) (d : Nat) : ∀ (i : Nat) (acc : Int), i + d = P.length → 0 ≤ acc → acc + 2000000000 * (d : Int) ≤ 1000000000000 →
    Ev (fun k => impl_Snap_picture.l0 k acc P (P.length : Int) (i : Int) P W) (picP W (P.drop i) acc) := by
  induction d with
  | zero =>
    intro i acc hi h0 h1
    rw [List.drop_of_length_le (by omega)]
    have hz : Ev (fun k => impl_Snap_picture.l1 k acc W (W.length : Int) 0) (picW W acc) := pm_l1 W hW hl W.length 0 acc (by omega) h0 (by omega)
    exact Ev.step (fun k => by rw [impl_Snap_picture.l0]) (Ev.neg (by omega) hz)
  | succ d ih =>
    intro i acc hi h0 h1
    have hlt : i < P.length := by omega
    have hw := hp _ (List.getElem_mem hlt)
    rw [drop_cons hlt]
    unfold picP
    refine Ev.step (fun k => by rw [impl_Snap_picture.l0]) (Ev.pos (by omega) (Ev.pos (by omega) (Ev.pos (by omega) ?_)))
    rw [rdPr_lt hlt, w64 (x := (i : Int) + 1) (by omega) (by omega), w64 (x := acc + P[i].f1) (by omega) (by omega)]
    exact Ev.ite (fun _ => ih (i + 1) _ (by omega) (by omega) (by omega)) (fun _ => Ev.now _)

theorem FnExactPictureOf : laws_FnExactPictureOf.Pure := law fun x0 h0 => by
  have k0 : x0.f1.length + (x0.f1.map fun y => y.f0.length + y.f1.length).sum ≤ 1048576 := by
    have := h0; unfold szvS85 at this
    have e : (x0.f1.map fun y => szvS140 y) = (x0.f1.map fun y => y.f0.length + y.f1.length) := rfl
    simp only [szvLS140, e] at this
    omega
  have hl : ∀ w ∈ x0.f1, w.f0.length ≤ 1048576 ∧ w.f1.length ≤ 1048576 := fun w hw => by have := sum_mem (fun y : S140 => y.f0.length + y.f1.length) x0.f1 w hw; exact ⟨by omega, by omega⟩
  have g1 := snap_spec x0.f0 x0.f1 (by unfold remW; omega) hl (by omega)
  have g2 := snap_impl x0.f0 x0.f1 (by unfold remW; omega) hl (by omega)
  by_cases hg : goodSnap x0.f0 x0.f1 = true
  · obtain ⟨hP, hW, hp, hw⟩ := goodSnap_ok hg
    have hp2 : ∀ p ∈ x0.f0, 0 ≤ p.f1 ∧ p.f1 ≤ 2000000000 := fun p hm => by
      have := List.all_eq_true.1 hp p hm
      unfold procB at this
      rw [Bool.and_eq_true, Bool.and_eq_true, decide_eq_true_eq, decide_eq_true_eq] at this
      exact this.2.1
    have hw2 : okR x0.f1 := fun w hm => ⟨(hw w hm).2.2.1, pos_amt (hw w hm).2.2.2⟩
    refine ⟨picP x0.f1 x0.f0 0, ?_, ?_⟩
    · unfold spec_PictureOf.f
      exact Ev.bind g1 (Ev.pos hg (po_l0 x0.f0 hP hp2 x0.f1 hW hw2 x0.f0.length 0 0 (by omega) (by omega) (by omega)))
    · unfold impl_PictureOf.f impl_Snap_picture.f
      exact Ev.bind g2 (Ev.pos hg (Ev.bind (pm_l0 x0.f0 hP hp2 x0.f1 hW hw2 x0.f0.length 0 0 (by omega) (by omega) (by omega)) (Ev.now _)))
  · refine ⟨(0, false), ?_, ?_⟩
    · unfold spec_PictureOf.f
      exact Ev.bind g1 (Ev.neg hg (Ev.now _))
    · unfold impl_PictureOf.f
      exact Ev.bind g2 (Ev.neg hg (Ev.now _))

end Go.Proofs.Ytpbpglbldgpckaa.Pure
