/- Pictures: both ask the same of good ones. No conditions. -/
import Derived.Test.YtpbpglbldgpckaaG4
import Derived.Test.YtpbpglbldgpckaaG6
import Derived.Test.YtpbpglbldgpckaaG3
import Derived.Test.YtpbpglbldgpckaaG5
import Derived.Test.YtpbpglbldgpckaaQBase
namespace Go.Proofs.Ytpbpglbldgpckaa.Pure
open Go.RowKit Go.Proofs.Ytpbpglbldgpckaa.G Go.Proofs.Ytpbpglbldgpckaa.X Go.Proofs.YtpbpglbldgpckaaW.PrintWords Go.Proofs.YtpbpglbldgpckaaW.PrintLast
set_option linter.unusedVariables false

theorem inS_spec (a b c : Int) : spec_l1In.f a b c = some (decide (b ≤ a ∧ a ≤ c)) := by
  unfold spec_l1In.f
  by_cases h : a ≥ b
  · rw [if_pos h]; simp [h]
  · rw [if_neg h]; simp; omega
theorem inS_impl (a b c : Int) : impl_within.f a b c = some (decide (b ≤ a ∧ a ≤ c)) := by
  unfold impl_within.f
  by_cases h : b ≤ a
  · rw [if_pos h]; simp [h]
  · rw [if_neg h]; simp [h]
theorem rdPr_lt {l : List S138} {i : Nat} (h : i < l.length) : rd_T138 l (i : Int) = l[i] := by simp [rd_T138, h]
theorem rdWi_lt {l : List S140} {i : Nat} (h : i < l.length) : rd_T140 l (i : Int) = l[i] := by simp [rd_T140, h]
def amtB (x : Int) : Bool := decide (0 ≤ x ∧ x ≤ 1000000)
def posB (x : Int) : Bool := decide (1 ≤ x ∧ x ≤ 1000000)
theorem amt_spec (x : Int) : spec_l15Amount.f x = some (amtB x) := by
  unfold spec_l15Amount.f amtB
  rw [inS_spec]; rfl
theorem pos_impl (x : Int) : impl_isAmountWord.f x = some (posB x) := by
  unfold impl_isAmountWord.f posB
  rw [inS_impl]; rfl
theorem amt_impl (x : Int) : impl_Wire_isWire_1.f x = some (amtB x) := by
  unfold impl_Wire_isWire_1.f
  rw [pos_impl]
  by_cases h : x = 0
  · rw [if_pos h, h]; rfl
  · rw [if_neg h, Option.bind_some]
    congr 1
    unfold amtB posB
    rw [decide_eq_decide]; omega
def tot : List Int → Int
  | [] => 0
  | x :: xs => x + tot xs
theorem pos_amt {l : List Int} (h : l.all posB = true) : l.all amtB = true := by
  rw [List.all_eq_true] at h ⊢
  intro x hx
  have := of_decide_eq_true (h x hx)
  exact decide_eq_true (by omega)
theorem tot_bound : ∀ l : List Int, l.all amtB = true → 0 ≤ tot l ∧ tot l ≤ 1000000 * (l.length : Int)
  | [], _ => by simp [tot]
  | x :: xs, h => by
    rw [List.all_cons, Bool.and_eq_true] at h
    have h1 := of_decide_eq_true h.1
    have h2 := tot_bound xs h.2
    have e : tot (x :: xs) = x + tot xs := rfl
    rw [e, List.length_cons]
    omega
theorem sumOf_l (l : List Int) (hl : l.length ≤ 1048576) (d : Nat) : ∀ (i : Nat) (s : Int), i + d = l.length → (l.drop i).all amtB = true → 0 ≤ s → s + 1000000 * (d : Int) ≤ 1152921504606846976 →
    Ev (fun k => impl_sumOf.l0 k s l (l.length : Int) (i : Int)) (s + tot (l.drop i)) := by
  induction d with
  | zero =>
    intro i s hi ha h0 h1
    rw [List.drop_of_length_le (by omega)]
    exact Ev.step (fun k => by rw [impl_sumOf.l0]) (Ev.neg (by omega) (Ev.eq (Ev.now s) (by simp [tot])))
  | succ d ih =>
    intro i s hi ha h0 h1
    have hlt : i < l.length := by omega
    rw [drop_cons hlt, List.all_cons, Bool.and_eq_true] at ha
    have hx := of_decide_eq_true ha.1
    rw [drop_cons hlt]
    refine Ev.step (fun k => by rw [impl_sumOf.l0]) (Ev.pos (by omega) (Ev.pos (by omega) (Ev.pos (by omega) ?_)))
    rw [rd_lt hlt, w64 (x := (i : Int) + 1) (by omega) (by omega), w64 (x := s + l[i]) (by omega) (by omega)]
    refine Ev.eq (ih (i + 1) (s + l[i]) (by omega) ha.2 (by omega) (by omega)) ?_
    show s + l[i] + tot _ = s + (l[i] + tot _)
    omega
theorem sumOf_ev (l : List Int) (hl : l.length ≤ 1048576) (ha : l.all amtB = true) : Ev (fun k => impl_sumOf.f k l) (tot l) := by
  unfold impl_sumOf.f
  exact Ev.eq (sumOf_l l hl l.length 0 0 (by omega) ha (by omega) (by omega)) (by simp)

/-- What is asked of a wire: of its parts, of the process's picture, of its place. -/
def wireB (A B C D dn op z0 z1 dg : Bool) : Bool := A && (B && (C && (D && ((dn || (!op && z1)) && (!dg || (z0 && (z1 && !op)))))))
def doneAt (P : List S138) (k : Nat) : Bool := (rd_T138 P ((k % P.length : Nat) : Int)).f2
def wireOK (P : List S138) (k : Nat) (w : S140) : Bool :=
  wireB (decide (w.f0.length ≤ 12)) (w.f0.all amtB) (decide (w.f1.length ≤ 200)) (w.f1.all posB) (doneAt P k) w.f2 (decide (w.f0.length = 0)) (decide (w.f1.length = 0)) (decide (k / P.length = k % P.length))
def snapFrom (P : List S138) : Nat → List S140 → Int → Bool
  | _, [], acc => decide (acc ≤ 2000000000)
  | k, w :: ws, acc => wireOK P k w && snapFrom P (k + 1) ws (acc + (tot w.f0 + tot w.f1))
def remW (ws : List S140) : Nat := (ws.map fun w => w.f0.length + w.f1.length).sum
theorem remW_cons (w : S140) (ws : List S140) : remW (w :: ws) = w.f0.length + w.f1.length + remW ws := by simp [remW]

theorem l3_loop (x3 x7 : Int) (x64 : List S140) (x65 x66 : Int) (P : List S138) (W' : List S140) (ws rs : List Int) (op : Bool) (hrs : rs.length ≤ 1048576) (r : Bool) (d : Nat) : ∀ (i : Nat) (acc : Int), i + d = rs.length → 0 ≤ acc → acc + 1000000 * (d : Int) ≤ 1152921504606846976 →
    ((rs.drop i).all posB = true → Ev (fun k => spec_GoodSnap.l3 k x3 (acc + tot (rs.drop i)) x7 x64 x65 x66 rs (rs.length : Int) (rs.length : Int) P W' ws rs op) r) →
    Ev (fun k => spec_GoodSnap.l3 k x3 acc x7 x64 x65 x66 rs (rs.length : Int) (i : Int) P W' ws rs op) ((rs.drop i).all posB && r) := by
  induction d with
  | zero =>
    intro i acc hi h0 h1 h
    rw [List.drop_of_length_le (by omega)] at h ⊢
    have := h rfl
    rw [show tot [] = 0 from rfl, Int.add_zero, show (rs.length : Int) = (i : Int) by omega] at this
    rw [show (rs.length : Int) = (i : Int) by omega]
    exact Ev.eq this (by simp)
  | succ d ih =>
    intro i acc hi h0 h1 h
    have hlt : i < rs.length := by omega
    rw [drop_cons hlt, List.all_cons] at h ⊢
    refine Ev.step (fun k => by rw [spec_GoodSnap.l3]) (Ev.pos (by omega) (Ev.pos (by omega) (Ev.pos (by omega) ?_)))
    rw [rd_lt hlt, w64 (x := (i : Int) + 1) (by omega) (by omega)]
    by_cases hz : rs[i] = 0
    · exact Ev.pos hz (Ev.eq (Ev.now false) (by rw [show posB rs[i] = false from decide_eq_false (by omega)]; rfl))
    refine Ev.neg hz (Ev.cbind (amt_spec _) ?_)
    by_cases ha : amtB rs[i] = true
    · have hx := of_decide_eq_true ha
      have hp : posB rs[i] = true := decide_eq_true (by omega)
      refine Ev.pos ha ?_
      rw [w64 (x := acc + rs[i]) (by omega) (by omega), hp, Bool.true_and]
      refine ih (i + 1) (acc + rs[i]) (by omega) (by omega) (by omega) (fun hh => ?_)
      have := h (by rw [hp, hh]; rfl)
      rw [show acc + tot (rs[i] :: rs.drop (i + 1)) = acc + rs[i] + tot (rs.drop (i + 1)) by show acc + (rs[i] + tot _) = _; omega] at this
      exact this
    · have hp : posB rs[i] = false := decide_eq_false (fun c => ha (decide_eq_true (by omega)))
      exact Ev.neg ha (Ev.eq (Ev.now false) (by rw [hp]; rfl))
theorem l2_loop (x3 x7 : Int) (x64 : List S140) (x65 x66 : Int) (P : List S138) (W' : List S140) (ws rs : List Int) (op : Bool) (hws : ws.length ≤ 1048576) (r : Bool) (d : Nat) : ∀ (i : Nat) (acc : Int), i + d = ws.length → 0 ≤ acc → acc + 1000000 * (d : Int) ≤ 1152921504606846976 →
    ((ws.drop i).all amtB = true → Ev (fun k => spec_GoodSnap.l3 k x3 (acc + tot (ws.drop i)) x7 x64 x65 x66 rs (rs.length : Int) 0 P W' ws rs op) r) →
    Ev (fun k => spec_GoodSnap.l2 k x3 acc x7 x64 x65 x66 ws (ws.length : Int) (i : Int) P W' ws rs op) ((ws.drop i).all amtB && r) := by
  induction d with
  | zero =>
    intro i acc hi h0 h1 h
    rw [List.drop_of_length_le (by omega)] at h ⊢
    have := h rfl
    rw [show tot [] = 0 from rfl, Int.add_zero] at this
    exact Ev.step (fun k => by rw [spec_GoodSnap.l2]) (Ev.neg (by omega) (Ev.eq this (by simp)))
  | succ d ih =>
    intro i acc hi h0 h1 h
    have hlt : i < ws.length := by omega
    rw [drop_cons hlt, List.all_cons] at h ⊢
    refine Ev.step (fun k => by rw [spec_GoodSnap.l2]) (Ev.pos (by omega) (Ev.pos (by omega) (Ev.pos (by omega) (Ev.cbind (amt_spec _) ?_))))
    rw [rd_lt hlt, w64 (x := (i : Int) + 1) (by omega) (by omega)]
    by_cases ha : amtB ws[i] = true
    · have hx := of_decide_eq_true ha
      refine Ev.pos ha ?_
      rw [w64 (x := acc + ws[i]) (by omega) (by omega), ha, Bool.true_and]
      refine ih (i + 1) (acc + ws[i]) (by omega) (by omega) (by omega) (fun hh => ?_)
      have := h (by rw [ha, hh]; rfl)
      rw [show acc + tot (ws[i] :: ws.drop (i + 1)) = acc + ws[i] + tot (ws.drop (i + 1)) by show acc + (ws[i] + tot _) = _; omega] at this
      exact this
    · exact Ev.neg ha (Ev.eq (Ev.now false) (by rw [Bool.eq_false_iff.mpr ha]; rfl))
theorem l3_end (P : List S138) (hn : 2 ≤ P.length ∧ P.length ≤ 4) (acc : Int) (x64 : List S140) (x65 : Int) (i : Nat) (hi : i < 16) (W' : List S140) (w : S140) (hw0 : w.f0.length ≤ 1048576) (hw1 : w.f1.length ≤ 1048576) (B D : Bool) (hB : B = true) (hD : D = true) (r : Bool)
    (h : Ev (fun k => spec_GoodSnap.l1 k (P.length : Int) acc x64 x65 (wrap64 ((i : Int) + 1)) P W') r) :
    Ev (fun k => spec_GoodSnap.l3 k (P.length : Int) acc (i : Int) x64 x65 (i : Int) w.f1 (w.f1.length : Int) (w.f1.length : Int) P W' w.f0 w.f1 w.f2)
      (wireB (decide (w.f0.length ≤ 12)) B (decide (w.f1.length ≤ 200)) D (doneAt P i) w.f2 (decide (w.f0.length = 0)) (decide (w.f1.length = 0)) (decide (i / P.length = i % P.length)) && r) := by
  subst hB hD
  have em : Int.tmod (i : Int) (P.length : Int) = ((i % P.length : Nat) : Int) := rfl
  have ed : Int.tdiv (i : Int) (P.length : Int) = ((i / P.length : Nat) : Int) := rfl
  have hm := Nat.mod_lt i (show 0 < P.length by omega)
  have hd : i / P.length ≤ i := Nat.div_le_self _ _
  refine Ev.step (fun k => by rw [spec_GoodSnap.l3]) (Ev.neg (by omega) ?_)
  rw [em, ed, w64 (x := ((i / P.length : Nat) : Int)) (Int.le_trans (by decide) (Int.natCast_nonneg _)) (by omega)]
  by_cases h1 : w.f0.length ≤ 12
  case neg => exact Ev.pos (by omega) (Ev.eq (Ev.now false) (by simp [wireB, h1]))
  refine Ev.neg (by omega) ?_
  by_cases h2 : w.f1.length ≤ 200
  case neg => exact Ev.pos (by omega) (Ev.eq (Ev.now false) (by simp [wireB, h2]))
  refine Ev.neg (by omega) (Ev.neg (by omega) ?_)
  by_cases h3 : i / P.length = i % P.length
  · refine Ev.pos (by omega) ?_
    by_cases h4 : w.f0.length = 0
    case neg => exact Ev.pos (by omega) (Ev.eq (Ev.now false) (by unfold wireB; rw [decide_eq_true h3, decide_eq_false h4]; simp))
    refine Ev.neg (by omega) ?_
    by_cases h5 : w.f1.length = 0
    case neg => exact Ev.pos (by omega) (Ev.eq (Ev.now false) (by unfold wireB; rw [decide_eq_true h3, decide_eq_false h5]; simp))
    refine Ev.neg (by omega) ?_
    by_cases h6 : w.f2 = true
    · exact Ev.pos h6 (Ev.eq (Ev.now false) (by unfold wireB; rw [decide_eq_true h3, h6]; simp))
    refine Ev.neg h6 (Ev.pos (by omega) (Ev.pos (by omega) ?_))
    have hr : r = (wireB (decide (w.f0.length ≤ 12)) true (decide (w.f1.length ≤ 200)) true (doneAt P i) w.f2 (decide (w.f0.length = 0)) (decide (w.f1.length = 0)) (decide (i / P.length = i % P.length)) && r) := by
      unfold wireB; rw [decide_eq_true h1, decide_eq_true h2, decide_eq_true h3, decide_eq_true h4, decide_eq_true h5, Bool.eq_false_iff.mpr h6]; simp
    rw [← hr]
    by_cases h7 : doneAt P i = true
    · exact Ev.pos h7 h
    · exact Ev.neg h7 h
  · refine Ev.neg (by omega) (Ev.pos (by omega) (Ev.pos (by omega) ?_))
    by_cases h7 : doneAt P i = true
    · refine Ev.pos h7 (Ev.eq h ?_)
      unfold wireB; rw [decide_eq_true h1, decide_eq_true h2, decide_eq_false h3, h7]; simp
    refine Ev.neg h7 ?_
    by_cases h6 : w.f2 = true
    · exact Ev.pos h6 (Ev.eq (Ev.now false) (by unfold wireB; rw [h6, Bool.eq_false_iff.mpr h7]; simp))
    refine Ev.neg h6 ?_
    by_cases h5 : w.f1.length = 0
    · refine Ev.neg (by omega) (Ev.eq h ?_)
      unfold wireB; rw [decide_eq_true h1, decide_eq_true h2, decide_eq_false h3, decide_eq_true h5, Bool.eq_false_iff.mpr h6]; simp
    · exact Ev.pos (by omega) (Ev.eq (Ev.now false) (by unfold wireB; rw [decide_eq_false h5, Bool.eq_false_iff.mpr h7]; simp))
theorem wires_spec (P : List S138) (hn : 2 ≤ P.length ∧ P.length ≤ 4) (W W' : List S140) (hW : W.length ≤ 16) (hl : ∀ w ∈ W, w.f0.length ≤ 1048576 ∧ w.f1.length ≤ 1048576) (d : Nat) : ∀ (i : Nat) (acc : Int), i + d = W.length → 0 ≤ acc → acc + 1000000 * (remW (W.drop i) : Int) ≤ 1152921504606846976 →
    Ev (fun k => spec_GoodSnap.l1 k (P.length : Int) acc W (W.length : Int) (i : Int) P W') (snapFrom P i (W.drop i) acc) := by
  induction d with
  | zero =>
    intro i acc hi h0 h1
    rw [List.drop_of_length_le (by omega)]
    exact Ev.step (fun k => by rw [spec_GoodSnap.l1]) (Ev.neg (by omega) (Ev.eq (Ev.now (decide (acc ≤ 2000000000))) rfl))
  | succ d ih =>
    intro i acc hi h0 h1
    have hlt : i < W.length := by omega
    have hw := hl _ (List.getElem_mem hlt)
    rw [drop_cons hlt, remW_cons] at h1
    rw [drop_cons hlt]
    refine Ev.step (fun k => by rw [spec_GoodSnap.l1]) (Ev.pos (by omega) (Ev.pos (by omega) (Ev.pos (by omega) ?_)))
    rw [rdWi_lt hlt]
    have e : ∀ (a b c d e f g h j r : Bool), (b && (d && (wireB a true c true e f g h j && r))) = (wireB a b c d e f g h j && r) := by
      intro a b c d e f g h j r; cases b <;> cases d <;> simp [wireB]
    refine Ev.eq (l2_loop (P.length : Int) (i : Int) W (W.length : Int) (i : Int) P W' W[i].f0 W[i].f1 W[i].f2 hw.1 (W[i].f1.all posB && (wireB (decide (W[i].f0.length ≤ 12)) true (decide (W[i].f1.length ≤ 200)) true (doneAt P i) W[i].f2 (decide (W[i].f0.length = 0)) (decide (W[i].f1.length = 0)) (decide (i / P.length = i % P.length)) && snapFrom P (i + 1) (W.drop (i + 1)) (acc + (tot W[i].f0 + tot W[i].f1)))) W[i].f0.length 0 acc (by omega) h0 (by omega) (fun ha => ?_)) ?_
    · rw [List.drop_zero] at ha ⊢
      have hb := tot_bound _ ha
      refine l3_loop (P.length : Int) (i : Int) W (W.length : Int) (i : Int) P W' W[i].f0 W[i].f1 W[i].f2 hw.2 _ W[i].f1.length 0 (acc + tot W[i].f0) (by omega) (by omega) (by omega) (fun hp => ?_)
      rw [List.drop_zero] at hp ⊢
      have hb2 := tot_bound _ (pos_amt hp)
      refine l3_end P hn _ W _ i (by omega) W' W[i] hw.1 hw.2 true true rfl rfl _ ?_
      rw [w64 (x := (i : Int) + 1) (by omega) (by omega)]
      have := ih (i + 1) (acc + tot W[i].f0 + tot W[i].f1) (by omega) (by omega) (by omega)
      rw [show acc + tot W[i].f0 + tot W[i].f1 = acc + (tot W[i].f0 + tot W[i].f1) by omega] at this ⊢
      exact this
    · rw [List.drop_zero]
      exact e _ _ _ _ _ _ _ _ _ _

theorem wire_no : ∀ a b c d e f g h j r : Bool, (a && (b && (c && (d && (e || (!f && h)))))) = false → (wireB a b c d e f g h j && r) = false := by decide +kernel
theorem wire_yes : ∀ a b c d e f g h j r : Bool, (a && (b && (c && (d && (e || (!f && h)))))) = true → b = true ∧ d = true ∧ (wireB a b c d e f g h j && r) = ((!j || (g && (h && !f))) && r) := by decide +kernel
theorem isWire_eq (w : S140) (p : S138) : impl_Wire_isWire.f w.f0 w.f1 w.f2 p.f0 p.f1 p.f2 = some (decide (w.f0.length ≤ 12) && (w.f0.all amtB && (decide (w.f1.length ≤ 200) && (w.f1.all posB && (p.f2 || (!w.f2 && decide (w.f1.length = 0))))))) := by
  unfold impl_Wire_isWire.f impl_areAll_int__impl_Wire_isWire_1.f impl_areAll_int__impl_isAmountWord.f
  rw [allO_eq w.f0 (p := amtB) (fun x _ => amt_impl x), allO_eq w.f1 (p := posB) (fun x _ => pos_impl x)]
  by_cases h1 : w.f0.length ≤ 12
  case neg => rw [if_neg (by omega), decide_eq_false h1]; rfl
  rw [if_pos (by omega), decide_eq_true h1, Option.bind_some]
  by_cases h2 : w.f0.all amtB = true
  case neg => rw [if_neg h2, Bool.eq_false_iff.mpr h2]; rfl
  rw [if_pos h2, h2]
  by_cases h3 : w.f1.length ≤ 200
  case neg => rw [if_neg (by omega), decide_eq_false h3]; rfl
  rw [if_pos (by omega), decide_eq_true h3, Option.bind_some]
  by_cases h4 : w.f1.all posB = true
  case neg => rw [if_neg h4, Bool.eq_false_iff.mpr h4]; rfl
  rw [if_pos h4, h4]
  cases hp : p.f2
  · rw [if_neg (by simp)]
    cases ho : w.f2
    · rw [if_neg (by simp)]
      by_cases h5 : w.f1.length = 0
      · rw [decide_eq_true h5]; simp [List.length_eq_zero_iff.1 h5]
      · rw [decide_eq_false h5, show ((w.f1.length : Int) == 0) = false by rw [beq_eq_false_iff_ne]; omega]; rfl
    · rw [if_pos rfl]; rfl
  · rw [if_pos rfl]; rfl
theorem isNone_eq (w : S140) : impl_Wire_isNone.f w.f0 w.f1 w.f2 = some (decide (w.f0.length = 0) && (decide (w.f1.length = 0) && !w.f2)) := by
  unfold impl_Wire_isNone.f
  by_cases h1 : w.f0.length = 0
  case neg => rw [if_neg (by omega), decide_eq_false h1]; rfl
  rw [if_pos (by omega), decide_eq_true h1]
  by_cases h2 : w.f1.length = 0
  case neg => rw [if_neg (by omega), decide_eq_false h2]; rfl
  rw [if_pos (by omega), decide_eq_true h2]; rfl
theorem wires_impl (P : List S138) (hn : 2 ≤ P.length ∧ P.length ≤ 4) (W W' : List S140) (hW : W.length ≤ 16) (hl : ∀ w ∈ W, w.f0.length ≤ 1048576 ∧ w.f1.length ≤ 1048576) (d : Nat) : ∀ (i : Nat) (acc : Int), i + d = W.length → 0 ≤ acc → acc + 1000000 * (remW (W.drop i) : Int) ≤ 1152921504606846976 →
    Ev (fun k => impl_GoodSnap.l1 k (P.length : Int) acc W (W.length : Int) (i : Int) P W') (snapFrom P i (W.drop i) acc) := by
  induction d with
  | zero =>
    intro i acc hi h0 h1
    rw [List.drop_of_length_le (by omega)]
    exact Ev.step (fun k => by rw [impl_GoodSnap.l1]) (Ev.neg (by omega) (Ev.eq (Ev.now (decide (acc ≤ 2000000000))) rfl))
  | succ d ih =>
    intro i acc hi h0 h1
    have hlt : i < W.length := by omega
    have hw := hl _ (List.getElem_mem hlt)
    rw [drop_cons hlt, remW_cons] at h1
    rw [drop_cons hlt]
    have em : Int.tmod (i : Int) (P.length : Int) = ((i % P.length : Nat) : Int) := rfl
    have ed : Int.tdiv (i : Int) (P.length : Int) = ((i / P.length : Nat) : Int) := rfl
    have hm := Nat.mod_lt i (show 0 < P.length by omega)
    have hd : i / P.length ≤ i := Nat.div_le_self _ _
    have jt : Ev (fun k => impl_GoodSnap.j3 k (P.length : Int) acc W (W.length : Int) (i : Int) true P W' W[i].f0 W[i].f1 W[i].f2) false := Ev.step (fun k => by rw [impl_GoodSnap.j3]) (Ev.pos rfl (Ev.now _))
    have jf : W[i].f0.all amtB = true → W[i].f1.all posB = true → Ev (fun k => impl_GoodSnap.j3 k (P.length : Int) acc W (W.length : Int) (i : Int) false P W' W[i].f0 W[i].f1 W[i].f2) (snapFrom P (i + 1) (W.drop (i + 1)) (acc + (tot W[i].f0 + tot W[i].f1))) := by
      intro ha hp
      have hb := tot_bound _ ha
      have hb2 := tot_bound _ (pos_amt hp)
      refine Ev.step (fun k => by rw [impl_GoodSnap.j3]) (Ev.neg (by simp) (Ev.bind (sumOf_ev _ hw.1 ha) (Ev.bind (sumOf_ev _ hw.2 (pos_amt hp)) ?_)))
      rw [w64 (x := (i : Int) + 1) (by omega) (by omega), w64 (x := tot W[i].f0 + tot W[i].f1) (by omega) (by omega), w64 (x := acc + (tot W[i].f0 + tot W[i].f1)) (by omega) (by omega)]
      exact ih (i + 1) _ (by omega) (by omega) (by omega)
    refine Ev.step (fun k => by rw [impl_GoodSnap.l1]) (Ev.pos (by omega) (Ev.pos (by omega) (Ev.pos (by omega) (Ev.neg (by omega) ?_))))
    rw [em, ed, rdWi_lt hlt, w64 (x := ((i / P.length : Nat) : Int)) (Int.le_trans (by decide) (Int.natCast_nonneg _)) (by omega)]
    refine Ev.pos (by omega) (Ev.pos (by omega) (Ev.cbind (isWire_eq _ _) ?_))
    show Ev _ (wireOK P i W[i] && snapFrom P (i + 1) (W.drop (i + 1)) (acc + (tot W[i].f0 + tot W[i].f1)))
    unfold wireOK
    rw [show (rd_T138 P ((i % P.length : Nat) : Int)).f2 = doneAt P i from rfl]
    generalize snapFrom P (i + 1) (W.drop (i + 1)) (acc + (tot W[i].f0 + tot W[i].f1)) = R at jf ⊢
    have e1 := wire_no
    have e2 := wire_yes
    cases hc : (decide (W[i].f0.length ≤ 12) && (W[i].f0.all amtB && (decide (W[i].f1.length ≤ 200) && (W[i].f1.all posB && (doneAt P i || (!W[i].f2 && decide (W[i].f1.length = 0)))))))
    · rw [e1 _ _ _ _ _ _ _ _ _ _ hc]
      exact Ev.neg (by simp) jt
    · obtain ⟨hb, hd2, e3⟩ := e2 _ _ _ _ _ _ (decide (W[i].f0.length = 0)) _ (decide (i / P.length = i % P.length)) R hc
      rw [e3]
      refine Ev.pos rfl ?_
      by_cases h3 : i / P.length = i % P.length
      · refine Ev.pos (by omega) (Ev.cbind (isNone_eq _) ?_)
        rw [decide_eq_true h3]
        cases hz : (decide (W[i].f0.length = 0) && (decide (W[i].f1.length = 0) && !W[i].f2))
        · exact jt
        · exact Ev.eq (jf hb hd2) (by simp)
      · refine Ev.neg (by omega) ?_
        rw [decide_eq_false h3]
        exact Ev.eq (jf hb hd2) (by simp)

def procB (p : S138) : Bool := decide (0 ≤ p.f0 ∧ p.f0 ≤ 2000000000) && (decide (0 ≤ p.f1 ∧ p.f1 ≤ 2000000000) && (p.f2 || decide (p.f1 = 0)))
def totP : List S138 → Int
  | [] => 0
  | p :: ps => (p.f0 + p.f1) + totP ps
theorem totP_bound : ∀ l : List S138, l.all procB = true → 0 ≤ totP l ∧ totP l ≤ 4000000000 * (l.length : Int)
  | [], _ => by simp [totP]
  | p :: ps, h => by
    rw [List.all_cons, Bool.and_eq_true] at h
    have h0 := h.1
    unfold procB at h0
    rw [Bool.and_eq_true, Bool.and_eq_true, decide_eq_true_eq, decide_eq_true_eq] at h0
    have h2 := totP_bound ps h.2
    have e : totP (p :: ps) = (p.f0 + p.f1) + totP ps := rfl
    rw [e, List.length_cons]
    omega
theorem procs_spec (P : List S138) (hn : 2 ≤ P.length ∧ P.length ≤ 4) (W : List S140) (r : Bool) (d : Nat) : ∀ (i : Nat) (acc : Int), i + d = P.length → 0 ≤ acc → acc + 4000000000 * (d : Int) ≤ 1000000000000 →
    ((P.drop i).all procB = true → Ev (fun k => spec_GoodSnap.l1 k (P.length : Int) (acc + totP (P.drop i)) W (W.length : Int) 0 P W) r) →
    Ev (fun k => spec_GoodSnap.l0 k (P.length : Int) acc P (P.length : Int) (i : Int) P W) ((P.drop i).all procB && r) := by
  induction d with
  | zero =>
    intro i acc hi h0 h1 h
    rw [List.drop_of_length_le (by omega)] at h ⊢
    have := h rfl
    rw [show totP [] = 0 from rfl, Int.add_zero] at this
    exact Ev.step (fun k => by rw [spec_GoodSnap.l0]) (Ev.neg (by omega) (Ev.eq this (by simp)))
  | succ d ih =>
    intro i acc hi h0 h1 h
    have hlt : i < P.length := by omega
    rw [drop_cons hlt, List.all_cons] at h ⊢
    refine Ev.step (fun k => by rw [spec_GoodSnap.l0]) (Ev.pos (by omega) (Ev.pos (by omega) (Ev.pos (by omega) (Ev.cbind (inS_spec _ _ _) ?_))))
    rw [rdPr_lt hlt, w64 (x := (i : Int) + 1) (by omega) (by omega)]
    by_cases a1 : 0 ≤ P[i].f0 ∧ P[i].f0 ≤ 2000000000
    case neg => exact Ev.neg (by simpa using a1) (Ev.eq (Ev.now false) (by unfold procB; rw [decide_eq_false a1]; rfl))
    refine Ev.pos (decide_eq_true a1) (Ev.cbind (inS_spec _ _ _) ?_)
    by_cases a2 : 0 ≤ P[i].f1 ∧ P[i].f1 ≤ 2000000000
    case neg => exact Ev.neg (by simpa using a2) (Ev.eq (Ev.now false) (by unfold procB; rw [decide_eq_false a2]; simp))
    refine Ev.pos (decide_eq_true a2) ?_
    rw [w64 (x := P[i].f0 + P[i].f1) (by omega) (by omega), w64 (x := acc + (P[i].f0 + P[i].f1)) (by omega) (by omega)]
    have nx : procB P[i] = true → Ev (fun k => spec_GoodSnap.l0 k (P.length : Int) (acc + (P[i].f0 + P[i].f1)) P (P.length : Int) ((i : Int) + 1) P W) (procB P[i] && (P.drop (i + 1)).all procB && r) := by
      intro hp
      rw [hp, Bool.true_and]
      refine ih (i + 1) (acc + (P[i].f0 + P[i].f1)) (by omega) (by omega) (by omega) (fun hh => ?_)
      have := h (by rw [hp, hh]; rfl)
      rw [show acc + totP (P[i] :: P.drop (i + 1)) = acc + (P[i].f0 + P[i].f1) + totP (P.drop (i + 1)) by show acc + ((P[i].f0 + P[i].f1) + totP _) = _; omega] at this
      exact this
    by_cases a3 : P[i].f2 = true
    · exact Ev.pos a3 (nx (by unfold procB; rw [decide_eq_true a1, decide_eq_true a2, a3]; rfl))
    refine Ev.neg a3 ?_
    by_cases a4 : P[i].f1 = 0
    · exact Ev.pos a4 (nx (by unfold procB; rw [decide_eq_true a1, decide_eq_true a2, decide_eq_true a4]; simp))
    · exact Ev.neg a4 (Ev.eq (Ev.now false) (by unfold procB; rw [decide_eq_false a4, Bool.eq_false_iff.mpr a3]; simp))
theorem procs_impl (P : List S138) (hn : 2 ≤ P.length ∧ P.length ≤ 4) (W : List S140) (r : Bool) (d : Nat) : ∀ (i : Nat) (acc : Int), i + d = P.length → 0 ≤ acc → acc + 4000000000 * (d : Int) ≤ 1000000000000 →
    ((P.drop i).all procB = true → Ev (fun k => impl_GoodSnap.l1 k (P.length : Int) (acc + totP (P.drop i)) W (W.length : Int) 0 P W) r) →
    Ev (fun k => impl_GoodSnap.l0 k (P.length : Int) acc P (P.length : Int) (i : Int) P W) ((P.drop i).all procB && r) := by
  induction d with
  | zero =>
    intro i acc hi h0 h1 h
    rw [List.drop_of_length_le (by omega)] at h ⊢
    have := h rfl
    rw [show totP [] = 0 from rfl, Int.add_zero] at this
    exact Ev.step (fun k => by rw [impl_GoodSnap.l0]) (Ev.neg (by omega) (Ev.eq this (by simp)))
  | succ d ih =>
    intro i acc hi h0 h1 h
    have hlt : i < P.length := by omega
    rw [drop_cons hlt, List.all_cons] at h ⊢
    refine Ev.step (fun k => by rw [impl_GoodSnap.l0]) (Ev.pos (by omega) (Ev.pos (by omega) (Ev.pos (by omega) (Ev.cbind (inS_impl _ _ _) ?_))))
    rw [rdPr_lt hlt, w64 (x := (i : Int) + 1) (by omega) (by omega)]
    by_cases a1 : 0 ≤ P[i].f0 ∧ P[i].f0 ≤ 2000000000
    case neg => exact Ev.neg (by simpa using a1) (Ev.eq (Ev.now false) (by unfold procB; rw [decide_eq_false a1]; rfl))
    refine Ev.pos (decide_eq_true a1) (Ev.cbind (inS_impl _ _ _) ?_)
    by_cases a2 : 0 ≤ P[i].f1 ∧ P[i].f1 ≤ 2000000000
    case neg => exact Ev.neg (by simpa using a2) (Ev.eq (Ev.now false) (by unfold procB; rw [decide_eq_false a2]; simp))
    refine Ev.pos (decide_eq_true a2) ?_
    rw [w64 (x := P[i].f0 + P[i].f1) (by omega) (by omega), w64 (x := acc + (P[i].f0 + P[i].f1)) (by omega) (by omega)]
    have nx : procB P[i] = true → Ev (fun k => impl_GoodSnap.l0 k (P.length : Int) (acc + (P[i].f0 + P[i].f1)) P (P.length : Int) ((i : Int) + 1) P W) (procB P[i] && (P.drop (i + 1)).all procB && r) := by
      intro hp
      rw [hp, Bool.true_and]
      refine ih (i + 1) (acc + (P[i].f0 + P[i].f1)) (by omega) (by omega) (by omega) (fun hh => ?_)
      have := h (by rw [hp, hh]; rfl)
      rw [show acc + totP (P[i] :: P.drop (i + 1)) = acc + (P[i].f0 + P[i].f1) + totP (P.drop (i + 1)) by show acc + ((P[i].f0 + P[i].f1) + totP _) = _; omega] at this
      exact this
    by_cases a3 : P[i].f2 = true
    · exact Ev.pos a3 (nx (by unfold procB; rw [decide_eq_true a1, decide_eq_true a2, a3]; rfl))
    refine Ev.neg a3 ?_
    by_cases a4 : P[i].f1 = 0
    · exact Ev.pos a4 (nx (by unfold procB; rw [decide_eq_true a1, decide_eq_true a2, decide_eq_true a4]; simp))
    · exact Ev.neg a4 (Ev.eq (Ev.now false) (by unfold procB; rw [decide_eq_false a4, Bool.eq_false_iff.mpr a3]; simp))

def goodSnap (P : List S138) (W : List S140) : Bool := decide (2 ≤ P.length ∧ P.length ≤ 4) && (decide (W.length = P.length * P.length) && (P.all procB && snapFrom P 0 W (totP P)))
theorem sq_len {n : Nat} (h : 2 ≤ n ∧ n ≤ 4) : n * n ≤ 16 := by
  have : n = 2 ∨ n = 3 ∨ n = 4 := by omega
  rcases this with rfl | rfl | rfl <;> decide
theorem snap_spec (P : List S138) (W : List S140) (hr : remW W ≤ 1048576) (hl : ∀ w ∈ W, w.f0.length ≤ 1048576 ∧ w.f1.length ≤ 1048576) (hWl : W.length ≤ 1048576) : Ev (fun k => spec_GoodSnap.f k P W) (goodSnap P W) := by
  unfold spec_GoodSnap.f goodSnap
  have jt : Ev (fun k => spec_GoodSnap.j0 k (P.length : Int) true P W) false := Ev.step (fun k => by rw [spec_GoodSnap.j0]) (Ev.pos rfl (Ev.now _))
  refine Ev.cbind (inS_spec _ _ _) ?_
  by_cases hn : 2 ≤ P.length ∧ P.length ≤ 4
  case neg => exact Ev.neg (by rw [decide_eq_true_eq]; omega) (Ev.eq jt (by rw [decide_eq_false hn]; rfl))
  refine Ev.pos (decide_eq_true (by omega)) ?_
  have hsq := sq_len hn
  rw [show ((P.length : Int) * (P.length : Int)) = ((P.length * P.length : Nat) : Int) from (Int.natCast_mul _ _).symm, w64 (x := ((P.length * P.length : Nat) : Int)) (by omega) (by omega), decide_eq_true hn]
  by_cases hW : W.length = P.length * P.length
  case neg =>
    rw [show ((W.length : Int) != ((P.length * P.length : Nat) : Int)) = true by rw [bne_iff_ne]; omega, decide_eq_false hW]
    exact jt
  rw [show ((W.length : Int) != ((P.length * P.length : Nat) : Int)) = false by rw [bne_eq_false_iff_eq]; omega, decide_eq_true hW]
  refine Ev.step (f := fun k => spec_GoodSnap.l0 k (P.length : Int) 0 P (P.length : Int) 0 P W) (fun k => by rw [spec_GoodSnap.j0, if_neg (by simp)]) ?_
  refine Ev.eq (procs_spec P hn W (snapFrom P 0 W (totP P)) P.length 0 0 (by omega) (by omega) (by omega) (fun hp => ?_)) (by rw [List.drop_zero]; rfl)
  rw [List.drop_zero] at hp ⊢
  have hb := totP_bound P hp
  rw [Int.zero_add]
  exact wires_spec P hn W W (by omega) hl W.length 0 (totP P) (by omega) hb.1 (by rw [List.drop_zero]; omega)
theorem snap_impl (P : List S138) (W : List S140) (hr : remW W ≤ 1048576) (hl : ∀ w ∈ W, w.f0.length ≤ 1048576 ∧ w.f1.length ≤ 1048576) (hWl : W.length ≤ 1048576) : Ev (fun k => impl_GoodSnap.f k P W) (goodSnap P W) := by
  unfold impl_GoodSnap.f goodSnap
  have jt : Ev (fun k => impl_GoodSnap.j0 k (P.length : Int) true P W) false := Ev.step (fun k => by rw [impl_GoodSnap.j0]) (Ev.pos rfl (Ev.now _))
  refine Ev.cbind (inS_impl _ _ _) ?_
  by_cases hn : 2 ≤ P.length ∧ P.length ≤ 4
  case neg => exact Ev.neg (by rw [decide_eq_true_eq]; omega) (Ev.eq jt (by rw [decide_eq_false hn]; rfl))
  refine Ev.pos (decide_eq_true (by omega)) ?_
  have hsq := sq_len hn
  rw [show ((P.length : Int) * (P.length : Int)) = ((P.length * P.length : Nat) : Int) from (Int.natCast_mul _ _).symm, w64 (x := ((P.length * P.length : Nat) : Int)) (by omega) (by omega), decide_eq_true hn]
  by_cases hW : W.length = P.length * P.length
  case neg =>
    rw [show ((W.length : Int) != ((P.length * P.length : Nat) : Int)) = true by rw [bne_iff_ne]; omega, decide_eq_false hW]
    exact jt
  rw [show ((W.length : Int) != ((P.length * P.length : Nat) : Int)) = false by rw [bne_eq_false_iff_eq]; omega, decide_eq_true hW]
  refine Ev.step (f := fun k => impl_GoodSnap.l0 k (P.length : Int) 0 P (P.length : Int) 0 P W) (fun k => by rw [impl_GoodSnap.j0, if_neg (by simp)]) ?_
  refine Ev.eq (procs_impl P hn W (snapFrom P 0 W (totP P)) P.length 0 0 (by omega) (by omega) (by omega) (fun hp => ?_)) (by rw [List.drop_zero]; rfl)
  rw [List.drop_zero] at hp ⊢
  have hb := totP_bound P hp
  rw [Int.zero_add]
  exact wires_impl P hn W W (by omega) hl W.length 0 (totP P) (by omega) hb.1 (by rw [List.drop_zero]; omega)
/-- What a good picture's parts are. -/
theorem snapFrom_ok (P : List S138) : ∀ (W : List S140) (k : Nat) (acc : Int), snapFrom P k W acc = true → ∀ w ∈ W, w.f0.length ≤ 12 ∧ w.f0.all amtB = true ∧ w.f1.length ≤ 200 ∧ w.f1.all posB = true
  | [], _, _, _, w, hw => by simp at hw
  | v :: W, k, acc, h, w, hw => by
    have h' : (wireOK P k v && snapFrom P (k + 1) W (acc + (tot v.f0 + tot v.f1))) = true := h
    rw [Bool.and_eq_true] at h'
    rcases List.mem_cons.1 hw with rfl | hw
    · have := h'.1
      unfold wireOK wireB at this
      rw [Bool.and_eq_true, Bool.and_eq_true, Bool.and_eq_true, Bool.and_eq_true, decide_eq_true_eq, decide_eq_true_eq] at this
      exact ⟨this.1, this.2.1, this.2.2.1, this.2.2.2.1⟩
    · exact snapFrom_ok P W (k + 1) _ h'.2 w hw
theorem goodSnap_ok {P : List S138} {W : List S140} (h : goodSnap P W = true) : P.length ≤ 4 ∧ W.length ≤ 16 ∧ P.all procB = true ∧ ∀ w ∈ W, w.f0.length ≤ 12 ∧ w.f0.all amtB = true ∧ w.f1.length ≤ 200 ∧ w.f1.all posB = true := by
  unfold goodSnap at h
  rw [Bool.and_eq_true, Bool.and_eq_true, Bool.and_eq_true, decide_eq_true_eq, decide_eq_true_eq] at h
  have := sq_len h.1
  exact ⟨h.1.2, by omega, h.2.2.1, snapFrom_ok P W 0 _ h.2.2.2⟩

end Go.Proofs.Ytpbpglbldgpckaa.Pure
