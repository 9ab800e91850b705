/- The plain law of TotalIn: both functions answer alike. No conditions. -/
import Derived.Test.YtpbpglbldgpckaaHFnExactTotalIn
import Derived.Test.YtpbpglbldgpckaaQSnap
import Derived.Test.YtpbpglbldgpckaaG61
namespace Go.Proofs.Ytpbpglbldgpckaa.Pure
open Go.RowKit Go.Proofs.Ytpbpglbldgpckaa.G Go.Proofs.Ytpbpglbldgpckaa.X Go.Proofs.YtpbpglbldgpckaaW.PrintWords Go.Proofs.Ytpbpglbldgpckaa.HFnExactTotalIn
set_option linter.unusedVariables false

def totA : List S138 → Int
  | [] => 0
  | p :: ps => p.f0 + totA ps
def totF : List S140 → Int
  | [] => 0
  | w :: ws => tot w.f0 + totF ws
def okW (W : List S140) : Prop := ∀ w ∈ W, w.f0.length ≤ 12 ∧ w.f0.all amtB = true
theorem ti_l2 (W : List S140) (N j : Int) (ws : List Int) (hws : ws.length ≤ 12) (r : Int × Bool) (d : Nat) : ∀ (i : Nat) (acc : Int), i + d = ws.length → (ws.drop i).all amtB = true → 0 ≤ acc → acc + 1000000 * (d : Int) ≤ 1000000000000000 →
    Ev (fun k => spec_TotalIn.l1 k (acc + tot (ws.drop i)) W N (wrap64 (j + 1))) r → Ev (fun k => spec_TotalIn.l2 k acc W N j ws (ws.length : Int) (i : Int)) r := by
  induction d with
  | zero =>
    intro i acc hi ha h0 h1 h
    rw [List.drop_of_length_le (by omega), show tot [] = 0 from rfl, Int.add_zero] at h
    exact Ev.step (fun k => by rw [spec_TotalIn.l2]) (Ev.neg (by omega) h)
  | succ d ih =>
    intro i acc hi ha h0 h1 h
    have hlt : i < ws.length := by omega
    rw [drop_cons hlt, List.all_cons, Bool.and_eq_true] at ha
    have hx := of_decide_eq_true ha.1
    rw [drop_cons hlt, show tot (ws[i] :: ws.drop (i + 1)) = ws[i] + tot (ws.drop (i + 1)) from rfl, ← Int.add_assoc] at h
    refine Ev.step (fun k => by rw [spec_TotalIn.l2]) (Ev.pos (by omega) (Ev.pos (by omega) (Ev.pos (by omega) ?_)))
    rw [rd_lt hlt, w64 (x := (i : Int) + 1) (by omega) (by omega), w64 (x := acc + ws[i]) (by omega) (by omega)]
    exact ih (i + 1) _ (by omega) ha.2 (by omega) (by omega) h
theorem ti_l1 (W : List S140) (hW : W.length ≤ 16) (hl : okW W) (d : Nat) : ∀ (i : Nat) (acc : Int), i + d = W.length → 0 ≤ acc → acc + 12000000 * (d : Int) ≤ 10000000000000 →
    Ev (fun k => spec_TotalIn.l1 k acc W (W.length : Int) (i : Int)) (acc + totF (W.drop i), true) := by
  induction d with
  | zero =>
    intro i acc hi h0 h1
    rw [List.drop_of_length_le (by omega), show totF [] = 0 from rfl, Int.add_zero]
    exact Ev.step (fun k => by rw [spec_TotalIn.l1]) (Ev.neg (by omega) (Ev.now _))
  | succ d ih =>
    intro i acc hi h0 h1
    have hlt : i < W.length := by omega
    have hw := hl _ (List.getElem_mem hlt)
    have hb := tot_bound _ hw.2
    rw [drop_cons hlt, show totF (W[i] :: W.drop (i + 1)) = tot W[i].f0 + totF (W.drop (i + 1)) from rfl, ← Int.add_assoc]
    refine Ev.step (fun k => by rw [spec_TotalIn.l1]) (Ev.pos (by omega) (Ev.pos (by omega) (Ev.pos (by omega) ?_)))
    rw [rdWi_lt hlt]
    refine ti_l2 W _ _ W[i].f0 hw.1 _ W[i].f0.length 0 acc (by omega) (by rw [List.drop_zero]; exact hw.2) h0 (by omega) ?_
    rw [List.drop_zero, w64 (x := (i : Int) + 1) (by omega) (by omega)]
    exact ih (i + 1) _ (by omega) (by omega) (by omega)
theorem ti_l0 (P : List S138) (hP : P.length ≤ 4) (hp : ∀ p ∈ P, 0 ≤ p.f0 ∧ p.f0 ≤ 2000000000) (W : List S140) (hW : W.length ≤ 16) (hl : okW W) (d : Nat) : ∀ (i : Nat) (acc : Int), i + d = P.length → 0 ≤ acc → acc + 2000000000 * (d : Int) ≤ 1000000000000 →
    Ev (fun k => spec_TotalIn.l0 k acc P (P.length : Int) (i : Int) P W) (acc + totA (P.drop i) + totF W, true) := by
  induction d with
  | zero =>
    intro i acc hi h0 h1
    rw [List.drop_of_length_le (by omega), show totA [] = 0 from rfl, Int.add_zero]
    have hz : Ev (fun k => spec_TotalIn.l1 k acc W (W.length : Int) 0) (acc + totF W, true) := ti_l1 W hW hl W.length 0 acc (by omega) h0 (by omega)
    exact Ev.step (fun k => by rw [spec_TotalIn.l0]) (Ev.neg (by omega) hz)
  | succ d ih =>
    intro i acc hi h0 h1
    have hlt : i < P.length := by omega
    have hw := hp _ (List.getElem_mem hlt)
    rw [drop_cons hlt, show totA (P[i] :: P.drop (i + 1)) = P[i].f0 + totA (P.drop (i + 1)) from rfl, ← Int.add_assoc]
    refine Ev.step (fun k => by rw [spec_TotalIn.l0]) (Ev.pos (by omega) (Ev.pos (by omega) (Ev.pos (by omega) ?_)))
    rw [rdPr_lt hlt, w64 (x := (i : Int) + 1) (by omega) (by omega), w64 (x := acc + P[i].f0) (by omega) (by omega)]
    exact ih (i + 1) _ (by omega) (by omega) (by omega)
theorem tm_l1 (W : List S140) (hW : W.length ≤ 16) (hl : okW W) (d : Nat) : ∀ (i : Nat) (acc : Int), i + d = W.length → 0 ≤ acc → acc + 12000000 * (d : Int) ≤ 10000000000000 →
    Ev (fun k => impl_TotalIn.l1 k acc W (W.length : Int) (i : Int)) (acc + totF (W.drop i), true) := by
  induction d with
  | zero =>
    intro i acc hi h0 h1
    rw [List.drop_of_length_le (by omega), show totF [] = 0 from rfl, Int.add_zero]
    exact Ev.step (fun k => by rw [impl_TotalIn.l1]) (Ev.neg (by omega) (Ev.now _))
  | succ d ih =>
    intro i acc hi h0 h1
    have hlt : i < W.length := by omega
    have hw := hl _ (List.getElem_mem hlt)
    have hb := tot_bound _ hw.2
    rw [drop_cons hlt, show totF (W[i] :: W.drop (i + 1)) = tot W[i].f0 + totF (W.drop (i + 1)) from rfl, ← Int.add_assoc]
    refine Ev.step (fun k => by rw [impl_TotalIn.l1]) (Ev.pos (by omega) (Ev.pos (by omega) (Ev.pos (by omega) ?_)))
    rw [rdWi_lt hlt, w64 (x := (i : Int) + 1) (by omega) (by omega)]
    refine Ev.bind (sumOf_ev _ (by omega) hw.2) ?_
    rw [w64 (x := acc + tot W[i].f0) (by omega) (by omega)]
    exact ih (i + 1) _ (by omega) (by omega) (by omega)
theorem tm_l0 (P : List S138) (hP : P.length ≤ 4) (hp : ∀ p ∈ P, 0 ≤ p.f0 ∧ p.f0 ≤ 2000000000) (W : List S140) (hW : W.length ≤ 16) (hl : okW W) (d : Nat) : ∀ (i : Nat) (acc : Int), i + d = P.length → 0 ≤ acc → acc + 2000000000 * (d : Int) ≤ 1000000000000 →
    Ev (fun k => impl_TotalIn.l0 k acc P (P.length : Int) (i : Int) P W) (acc + totA (P.drop i) + totF W, true) := by
  induction d with
  | zero =>
    intro i acc hi h0 h1
    rw [List.drop_of_length_le (by omega), show totA [] = 0 from rfl, Int.add_zero]
    have hz : Ev (fun k => impl_TotalIn.l1 k acc W (W.length : Int) 0) (acc + totF W, true) := tm_l1 W hW hl W.length 0 acc (by omega) h0 (by omega)
    exact Ev.step (fun k => by rw [impl_TotalIn.l0]) (Ev.neg (by omega) hz)
  | succ d ih =>
    intro i acc hi h0 h1
    have hlt : i < P.length := by omega
    have hw := hp _ (List.getElem_mem hlt)
    rw [drop_cons hlt, show totA (P[i] :: P.drop (i + 1)) = P[i].f0 + totA (P.drop (i + 1)) from rfl, ← Int.add_assoc]
    refine Ev.step (fun k => by rw [impl_TotalIn.l0]) (Ev.pos (by omega) (Ev.pos (by omega) (Ev.pos (by omega) ?_)))
    rw [rdPr_lt hlt, w64 (x := (i : Int) + 1) (by omega) (by omega), w64 (x := acc + P[i].f0) (by omega) (by omega)]
    exact ih (i + 1) _ (by omega) (by omega) (by omega)

theorem FnExactTotalIn : laws_FnExactTotalIn.Pure := law fun x0 h0 => by
  have k0 : x0.f1.length + (x0.f1.map fun y => y.f0.length + y.f1.length).sum ≤ 1048576 := by
    have := h0; unfold szvS85 at this
    have e : (x0.f1.map fun y => szvS140 y) = (x0.f1.map fun y => y.f0.length + y.f1.length) := rfl
    simp only [szvLS140, e] at this
    omega
  have hl : ∀ w ∈ x0.f1, w.f0.length ≤ 1048576 ∧ w.f1.length ≤ 1048576 := fun w hw => by have := sum_mem (fun y : S140 => y.f0.length + y.f1.length) x0.f1 w hw; exact ⟨by omega, by omega⟩
  have g1 := snap_spec x0.f0 x0.f1 (by unfold remW; omega) hl (by omega)
  have g2 := snap_impl x0.f0 x0.f1 (by unfold remW; omega) hl (by omega)
  by_cases hg : goodSnap x0.f0 x0.f1 = true
  · obtain ⟨hP, hW, hp, hw⟩ := goodSnap_ok hg
    have hp2 : ∀ p ∈ x0.f0, 0 ≤ p.f0 ∧ p.f0 ≤ 2000000000 := fun p hm => by
      have := List.all_eq_true.1 hp p hm
      unfold procB at this
      rw [Bool.and_eq_true, decide_eq_true_eq] at this
      exact this.1
    have hw2 : okW x0.f1 := fun w hm => ⟨(hw w hm).1, (hw w hm).2.1⟩
    refine ⟨(0 + totA x0.f0 + totF x0.f1, true), ?_, ?_⟩
    · unfold spec_TotalIn.f
      exact Ev.bind g1 (Ev.pos hg (ti_l0 x0.f0 hP hp2 x0.f1 hW hw2 x0.f0.length 0 0 (by omega) (by omega) (by omega)))
    · unfold impl_TotalIn.f
      exact Ev.bind g2 (Ev.pos hg (tm_l0 x0.f0 hP hp2 x0.f1 hW hw2 x0.f0.length 0 0 (by omega) (by omega) (by omega)))
  · refine ⟨(0, false), ?_, ?_⟩
    · unfold spec_TotalIn.f
      exact Ev.bind g1 (Ev.neg hg (Ev.now _))
    · unfold impl_TotalIn.f
      exact Ev.bind g2 (Ev.neg hg (Ev.now _))

end Go.Proofs.Ytpbpglbldgpckaa.Pure
