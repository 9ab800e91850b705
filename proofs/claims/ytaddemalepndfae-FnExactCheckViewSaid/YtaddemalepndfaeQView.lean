/- Views: both tell the same columns of each part. No conditions. -/
import Derived.Test.YtaddemalepndfaeG5
import Derived.Test.YtaddemalepndfaeG4
import Derived.Test.YtaddemalepndfaeG2
import Derived.Test.YtaddemalepndfaeG3
import Derived.Test.YtaddemalepndfaeG12
import Derived.Test.YtaddemalepndfaeG9
import Derived.Test.YtaddemalepndfaeG10
import Derived.Test.YtaddemalepndfaeG7
import Derived.Test.YtaddemalepndfaeG8
import Derived.Test.YtaddemalepndfaeG11
import Derived.Test.YtaddemalepndfaeQIn
import Derived.Test.YtaddemalepndfaeQCols
import Derived.Test.YtaddemalepndfaeQPairs
namespace Go.Proofs.Ytaddemalepndfae.Pure
open Go.RowKit Go.Proofs.Ytaddemalepndfae.G Go.Proofs.Ytaddemalepndfae.X Go.Proofs.YtaddemalepndfaeW.PrintWords Go.Proofs.YtaddemalepndfaeW.PrintLast
set_option linter.unusedVariables false
set_option linter.unusedSimpArgs false

abbrev PT := S47
abbrev TS := S71
/-! ### tests -/
def testB (n : Int) (x : TS) : Bool := decide ((0 ≤ x.f1 ∧ x.f1 < n) ∧ (1 ≤ x.f0 ∧ x.f0 ≤ 4) ∧ (if x.f0 = 4 then 0 ≤ x.f2 ∧ x.f2 < n else -100000 ≤ x.f2 ∧ x.f2 ≤ 100000))
def testsB (n : Int) (l : List TS) : Bool := decide (l.length ≤ 8) && l.all (testB n)
theorem rdt_lt {l : List TS} {i : Nat} (h : i < l.length) : rd_T71 l (i : Int) = l[i] := by simp [rd_T71, h]
theorem tests_spec_l (n : Int) (hn : n ≤ 6) (l : List TS) (hl : l.length ≤ 1048576) (d : Nat) : ∀ (i : Nat), i + d = l.length →
    Ev (fun k => spec_GoodTests.l0 k l n l (l.length : Int) (i : Int)) (decide (l.length ≤ 8) && (l.drop i).all (testB n)) := by
  induction d with
  | zero =>
    intro i hi
    refine Ev.step (fun k => by rw [spec_GoodTests.l0]) (Ev.neg (by omega) (Ev.eq (Ev.now _) ?_))
    rw [List.drop_of_length_le (by omega)]
    show _ = (_ && true)
    rw [Bool.and_true, decide_eq_decide]; omega
  | succ d ih =>
    intro i hi
    have hlt : i < l.length := by omega
    have jt : Ev (fun k => spec_GoodTests.j1 k l n l (l.length : Int) (i : Int) true l[i].f0 l[i].f1 l[i].f2) false := Ev.step (fun k => by rw [spec_GoodTests.j1]) (Ev.pos rfl (Ev.now _))
    have no : testB n l[i] = false → false = (decide (l.length ≤ 8) && (testB n l[i] && (l.drop (i + 1)).all (testB n))) := fun h => by rw [h]; simp
    have yes : testB n l[i] = true → Ev (fun k => spec_GoodTests.l0 k l n l (l.length : Int) (wrap64 ((i : Int) + 1))) (decide (l.length ≤ 8) && (testB n l[i] && (l.drop (i + 1)).all (testB n))) := fun h => by
      rw [h, Bool.true_and, w64 (x := (i : Int) + 1) (by omega) (by omega)]
      exact ih (i + 1) (by omega)
    refine Ev.step (fun k => by rw [spec_GoodTests.l0]) (Ev.pos (by omega) (Ev.pos (by omega) (Ev.pos (by omega) ?_)))
    rw [rdt_lt hlt, drop_cons hlt, List.all_cons]
    by_cases h1 : l[i].f1 < 0
    · exact Ev.pos h1 (Ev.eq jt (no (decide_eq_false (fun h => by have := h.1; omega))))
    refine Ev.neg h1 ?_
    by_cases h2 : l[i].f1 ≥ n
    · exact Ev.pos h2 (Ev.eq jt (no (decide_eq_false (fun h => by have := h.1; omega))))
    refine Ev.neg h2 (Ev.cbind (in_spec _ _ _) ?_)
    by_cases h3 : 1 ≤ l[i].f0 ∧ l[i].f0 ≤ 4
    case neg =>
      rw [decide_eq_false h3]
      exact Ev.eq jt (no (decide_eq_false (fun h => h3 h.2.1)))
    rw [decide_eq_true h3]
    refine Ev.step (fun k => by rw [spec_GoodTests.j1]) (Ev.neg (by decide) ?_)
    by_cases h4 : l[i].f0 = 4
    · refine Ev.pos h4 ?_
      by_cases h5 : l[i].f2 < 0
      · exact Ev.pos h5 (Ev.eq (Ev.now _) (no (decide_eq_false (fun h => by have := h.2.2; rw [if_pos h4] at this; omega))))
      refine Ev.neg h5 ?_
      by_cases h6 : l[i].f2 ≥ n
      · exact Ev.pos h6 (Ev.eq (Ev.now _) (no (decide_eq_false (fun h => by have := h.2.2; rw [if_pos h4] at this; omega))))
      refine Ev.neg h6 (Ev.cbind (in_spec _ _ _) (Ev.pos (decide_eq_true (by omega)) (yes (decide_eq_true ⟨by omega, h3, by rw [if_pos h4]; omega⟩))))
    · refine Ev.neg h4 (Ev.cbind (in_spec _ _ _) ?_)
      by_cases h7 : -100000 ≤ l[i].f2 ∧ l[i].f2 ≤ 100000
      · exact Ev.pos (decide_eq_true h7) (yes (decide_eq_true ⟨by omega, h3, by rw [if_neg h4]; exact h7⟩))
      · exact Ev.neg (by rw [decide_eq_true_eq]; exact h7) (Ev.eq (Ev.now _) (no (decide_eq_false (fun h => by have := h.2.2; rw [if_neg h4] at this; exact h7 this))))
theorem tests_spec (n : Int) (hn : n ≤ 6) (l : List TS) (hl : l.length ≤ 1048576) : Ev (fun k => spec_GoodTests.f k l n) (testsB n l) := tests_spec_l n hn l hl l.length 0 (by omega)
theorem isTest_eq (n : Int) (x : TS) : impl_GoodTests_1.f x.f0 x.f1 x.f2 n = some (testB n x) := by
  unfold testB impl_GoodTests_1.f impl_isCell.f
  simp only [in_impl, place_eq, Option.bind_some]
  unfold placeB
  by_cases h : 0 ≤ x.f1 ∧ x.f1 < n
  · rw [if_pos (by simpa using h)]
    by_cases h1 : x.f0 = 4
    · rw [if_pos h1]; simp [h, h1]
    · rw [if_neg h1]
      by_cases h2 : 1 ≤ x.f0 ∧ x.f0 ≤ 3
      · rw [if_pos (by simpa using h2)]; simp [h, h1]; omega
      · rw [if_neg (by simpa using h2)]; simp; omega
  · rw [if_neg (by simpa using h)]; simp; omega
theorem tests_impl (n : Int) (l : List TS) : impl_GoodTests.f l n = some (testsB n l) := by
  have h1 : impl_areAll_impl_Test__impl_GoodTests_1.f l n = some (l.all (testB n)) := allO_eq l (fun x _ => isTest_eq n x)
  unfold impl_GoodTests.f testsB
  by_cases h : l.length ≤ 8
  · rw [if_pos (by omega), h1]; simp [h]
  · rw [if_neg (by omega)]; simp [h]
/-! ### the columns that are in no pair, counted -/
theorem left_in (l : List (List Int)) (hl : l.length ≤ 6) (hok : ∀ p ∈ l, p.length = 2) (n : Int) (c : Nat) (hc : c ≤ 6) (j : Nat) (hj : j < 6) (R : Int) (d : Nat) : ∀ (i : Nat) (x : Bool), i + d = l.length →
    ((x || (l.drop i).any fun p => rd p 1 == (j : Int)) = true → Ev (fun k => spec_l3Left.l0 k l n (c : Int) ((j + 1 : Nat) : Int)) R) →
    ((x || (l.drop i).any fun p => rd p 1 == (j : Int)) = false → Ev (fun k => spec_l3Left.l0 k l n ((c + 1 : Nat) : Int) ((j + 1 : Nat) : Int)) R) →
    Ev (fun k => spec_l3Left.l1 k l n (c : Int) (j : Int) x l (l.length : Int) (i : Int)) R := by
  have wj : wrap64 ((j : Int) + 1) = ((j + 1 : Nat) : Int) := w64 (by omega) (by omega)
  have wc : wrap64 ((c : Int) + 1) = ((c + 1 : Nat) : Int) := w64 (by omega) (by omega)
  induction d with
  | zero =>
    intro i x hi h1 h2
    obtain rfl : i = l.length := by omega
    refine Ev.step (fun k => by rw [spec_l3Left.l1]) (Ev.neg (by omega) ?_)
    rw [List.drop_length] at h1 h2
    rw [wj, wc]
    cases x with
    | true => exact Ev.pos rfl (h1 rfl)
    | false => exact Ev.neg (by decide) (h2 rfl)
  | succ d ih =>
    intro i x hi h1 h2
    have hlt : i < l.length := by omega
    have hp : l[i].length = 2 := hok _ (List.getElem_mem hlt)
    rw [drop_cons hlt, List.any_cons] at h1 h2
    refine Ev.step (fun k => by rw [spec_l3Left.l1]) (Ev.pos (by omega) (Ev.pos (by omega) (Ev.pos (by omega) ?_)))
    rw [rdl hlt, w64 (x := (i : Int) + 1) (by omega) (by omega)]
    cases x with
    | true => exact Ev.pos rfl (ih (i + 1) true (by omega) (fun _ => h1 rfl) (fun h => by cases h))
    | false =>
      refine Ev.neg (by decide) (Ev.pos (by omega) ?_)
      exact ih (i + 1) _ (by omega) (fun h => h1 (by simpa using h)) (fun h => h2 (by simpa using h))
theorem left_l (l : List (List Int)) (hl : l.length ≤ 6) (hok : ∀ p ∈ l, p.length = 2) (n : Nat) (hn : n ≤ 6) (d : Nat) : ∀ (j : Nat), j + d = n →
    Ev (fun k => spec_l3Left.l0 k l (n : Int) ((frees l j).length : Int) (j : Int)) ((frees l n).length : Int) := by
  induction d with
  | zero =>
    intro j hj
    obtain rfl : j = n := by omega
    exact Ev.step (fun k => by rw [spec_l3Left.l0]) (Ev.neg (by omega) (Ev.now _))
  | succ d ih =>
    intro j hj
    have hf := frees_len l j
    have h := ih (j + 1) (by omega)
    refine Ev.step (fun k => by rw [spec_l3Left.l0]) (Ev.pos (by omega) ?_)
    refine left_in l hl hok _ _ (by omega) j (by omega) _ l.length 0 false (by omega) (fun e => ?_) (fun e => ?_)
    · have e2 : hitB l (j : Int) = true := by simpa [hitB] using e
      rw [frees, if_pos e2] at h
      exact h
    · have e2 : ¬ hitB l (j : Int) = true := by rw [Bool.not_eq_true]; simpa [hitB] using e
      rw [frees, if_neg e2, List.length_append] at h
      exact h
/-! ### a part's columns -/
theorem rd_mem {l : List Int} {x : Int} (h0 : 0 ≤ x) (h1 : x < (l.length : Int)) : rd l x ∈ l := by
  obtain ⟨n, rfl⟩ := Int.eq_ofNat_of_zero_le h0
  rw [rd_lt (by omega)]
  exact List.getElem_mem _
def colR (a b : Int) (p : PT) : Int × Bool :=
  if p.f0 = 2 then (a, testsB a p.f3) else if p.f0 = 3 then ((p.f4.length : Int), colsB a p.f4) else if p.f0 = 4 then (if pairsB a b p.f5 = true then (a + ((frees p.f5 b.toNat).length : Int), decide (a + ((frees p.f5 b.toNat).length : Int) ≤ 6)) else (0, false)) else if p.f0 = 5 then (a, a == b) else if p.f0 = 6 then (a, a == b) else (a, p.f0 == 7)
/-- A part whose lists are of a size that can be. -/
def sizedP (p : PT) : Prop := p.f3.length ≤ 1048576 ∧ p.f4.length ≤ 1048576 ∧ p.f5.length ≤ 1048576
theorem pairs_two {a b : Int} {l : List (List Int)} (h : pairsB a b l = true) : l.length ≤ 6 ∧ ∀ p ∈ l, p.length = 2 := by
  unfold pairsB at h
  rw [Bool.and_eq_true, List.all_eq_true, decide_eq_true_eq] at h
  exact ⟨h.2, fun p hp => (ok_parts (h.1 p hp)).1⟩
theorem cols_s (p : PT) (hs : sizedP p) (out : List Int) (ho : ∀ x ∈ out, 0 ≤ x ∧ x ≤ 6) (hA : 0 ≤ p.f1 ∧ p.f1 < (out.length : Int)) (hB : 0 ≤ p.f2 ∧ p.f2 < (out.length : Int)) :
    Ev (fun k => spec_l6Columns.f k p.f0 p.f1 p.f2 p.f3 p.f4 p.f5 out) (colR (rd out p.f1) (rd out p.f2) p) := by
  obtain ⟨s3, s4, s5⟩ := hs
  have ha := ho _ (rd_mem hA.1 hA.2)
  have hb := ho _ (rd_mem hB.1 hB.2)
  unfold spec_l6Columns.f colR
  refine Ev.pos hA.1 (Ev.pos hA.2 ?_)
  generalize rd out p.f1 = a at ha
  obtain ⟨b, hbb⟩ : ∃ b, rd out p.f2 = b := ⟨_, rfl⟩
  rw [hbb] at hb ⊢
  by_cases h2 : p.f0 = 2
  · rw [if_pos h2]; exact Ev.pos h2 (Ev.bind (tests_spec a (by omega) p.f3 s3) (Ev.now _))
  rw [if_neg h2]
  refine Ev.neg h2 ?_
  by_cases h3 : p.f0 = 3
  · rw [if_pos h3]; exact Ev.pos h3 (Ev.bind (cols_spec a p.f4 (by omega)) (Ev.now _))
  rw [if_neg h3]
  refine Ev.neg h3 ?_
  by_cases h4 : p.f0 = 4
  · rw [if_pos h4]
    refine Ev.pos h4 (Ev.pos hB.1 (Ev.pos hB.2 (Ev.bind (pairs_spec a b p.f5 s5) ?_)))
    by_cases hp : pairsB a b p.f5 = true
    · rw [if_pos hp]
      obtain ⟨t1, t2⟩ := pairs_two hp
      obtain ⟨n, rfl⟩ := Int.eq_ofNat_of_zero_le hb.1
      have hf := frees_len p.f5 n
      refine Ev.pos hp (Ev.bind (left_l p.f5 t1 t2 n (by omega) n 0 (by omega)) ?_)
      rw [w64 (by omega) (by omega)]
      exact Ev.now _
    · rw [if_neg hp]; exact Ev.neg hp (Ev.now _)
  rw [if_neg h4]
  refine Ev.neg h4 ?_
  have jt : Ev (fun k => spec_l6Columns.j0 k out a true p.f0 p.f1 p.f2 p.f3 p.f4 p.f5) (a, a == b) := by
    refine Ev.step (fun k => by rw [spec_l6Columns.j0]) (Ev.pos rfl (Ev.pos hB.1 (Ev.pos hB.2 ?_)))
    rw [hbb]; exact Ev.now _
  by_cases h5 : p.f0 = 5
  · rw [if_pos h5]
    refine Ev.pos h5 ?_
    rw [show (p.f0 == 5) = true from beq_iff_eq.mpr h5]; exact jt
  rw [if_neg h5]
  refine Ev.neg h5 ?_
  by_cases h6 : p.f0 = 6
  · rw [if_pos h6, show (p.f0 == 6) = true from beq_iff_eq.mpr h6]; exact jt
  · rw [if_neg h6, show (p.f0 == 6) = false from beq_eq_false_iff_ne.mpr h6]
    exact Ev.step (fun k => by rw [spec_l6Columns.j0]) (Ev.neg (by decide) (Ev.now _))
def colI (src out : List Int) (p : PT) : Int × Bool :=
  if p.f0 = 1 then (if 0 ≤ p.f1 ∧ p.f1 < (src.length : Int) then (rd src p.f1, true) else (0, false))
  else if (0 ≤ p.f1 ∧ p.f1 < (out.length : Int)) ∧ 0 ≤ p.f2 ∧ p.f2 < (out.length : Int) then colR (rd out p.f1) (rd out p.f2) p else (0, false)
theorem joined_i (a : Int) (b : Nat) (l : List (List Int)) (ha : 0 ≤ a ∧ a ≤ 6) (hb : b ≤ 6) (h2 : ∀ p ∈ l, p.length = 2) : Ev (fun k => impl_joinedColumns.f k a (b : Int) l) (a + ((frees l b).length : Int)) := by
  have hf := frees_len l b
  unfold impl_joinedColumns.f impl_unpaired.f
  refine Ev.bind (unpaired_l l h2 b hb b 0 (by omega)) ?_
  rw [w64 (by omega) (by omega)]
  exact Ev.now _
theorem cols_i (src : List Int) (ps : List PT) (p : PT) (out : List Int) (hsl : src.length ≤ 1048576) (hol : out.length ≤ 1048576) (ho : ∀ x ∈ out, 0 ≤ x ∧ x ≤ 6) :
    Ev (fun k => impl_View_columnsOf.f k src ps p.f0 p.f1 p.f2 p.f3 p.f4 p.f5 out) (colI src out p) := by
  unfold impl_View_columnsOf.f colI
  by_cases h1 : p.f0 = 1
  · rw [if_pos h1]
    refine Ev.pos h1 (Ev.cbind (in_impl _ _ _) ?_)
    rw [w64 (x := (src.length : Int) - 1) (by omega) (by omega)]
    by_cases hA : 0 ≤ p.f1 ∧ p.f1 < (src.length : Int)
    · rw [if_pos hA]; exact Ev.pos (decide_eq_true (by omega)) (Ev.pos hA.1 (Ev.pos hA.2 (Ev.now _)))
    · rw [if_neg hA]; exact Ev.neg (by rw [decide_eq_true_eq]; omega) (Ev.now _)
  rw [if_neg h1]
  refine Ev.neg h1 (Ev.cbind (in_impl _ _ _) ?_)
  rw [w64 (x := (out.length : Int) - 1) (by omega) (by omega)]
  have jt : Ev (fun k => impl_View_columnsOf.j0 k out true p.f0 p.f1 p.f2 p.f3 p.f4 p.f5) (0, false) := Ev.step (fun k => by rw [impl_View_columnsOf.j0]) (Ev.pos rfl (Ev.now _))
  by_cases hA : 0 ≤ p.f1 ∧ p.f1 < (out.length : Int)
  case neg => rw [if_neg (fun h => hA h.1)]; exact Ev.neg (by rw [decide_eq_true_eq]; omega) jt
  refine Ev.pos (decide_eq_true (by omega)) (Ev.cbind (in_impl _ _ _) ?_)
  by_cases hB : 0 ≤ p.f2 ∧ p.f2 < (out.length : Int)
  case neg => rw [if_neg (fun h => hB h.2), decide_eq_false (by omega)]; exact jt
  rw [if_pos ⟨hA, hB⟩, decide_eq_true (by omega)]
  refine Ev.step (fun k => by rw [impl_View_columnsOf.j0]) (Ev.neg (by decide) (Ev.pos hA.1 (Ev.pos hA.2 (Ev.pos hB.1 (Ev.pos hB.2 ?_)))))
  have ha := ho _ (rd_mem hA.1 hA.2)
  have hb := ho _ (rd_mem hB.1 hB.2)
  generalize rd out p.f1 = a at ha
  generalize rd out p.f2 = b at hb
  unfold colR
  by_cases h2 : p.f0 = 2
  · rw [if_pos h2]; exact Ev.pos h2 (Ev.cbind (tests_impl a p.f3) (Ev.now _))
  rw [if_neg h2]
  refine Ev.neg h2 ?_
  by_cases h3 : p.f0 = 3
  · rw [if_pos h3]; exact Ev.pos h3 (Ev.cbind (cols_impl a p.f4) (Ev.now _))
  rw [if_neg h3]
  refine Ev.neg h3 ?_
  by_cases h4 : p.f0 = 4
  · rw [if_pos h4]
    refine Ev.pos h4 (Ev.cbind (pairs_impl a b p.f5) ?_)
    by_cases hp : pairsB a b p.f5 = true
    · rw [if_pos hp]
      obtain ⟨t1, t2⟩ := pairs_two hp
      obtain ⟨n, rfl⟩ := Int.eq_ofNat_of_zero_le hb.1
      have hf := frees_len p.f5 n
      refine Ev.pos hp (Ev.bind (joined_i a n p.f5 ha (by omega) t2) (Ev.cbind (a := decide (0 ≤ a + ((frees p.f5 n).length : Int) ∧ a + ((frees p.f5 n).length : Int) ≤ 6)) (by unfold impl_isColumns.f; rw [in_impl]; rfl) (Ev.eq (Ev.now _) ?_)))
      congr 1
      rw [decide_eq_decide]
      show _ ↔ a + ((frees p.f5 n).length : Int) ≤ 6
      omega
    · rw [if_neg hp]; exact Ev.neg hp (Ev.now _)
  rw [if_neg h4]
  refine Ev.neg h4 ?_
  have j1t : Ev (fun k => impl_View_columnsOf.j1 k a b true p.f0 p.f1 p.f2 p.f3 p.f4 p.f5) (a, a == b) := Ev.step (fun k => by rw [impl_View_columnsOf.j1]) (Ev.pos rfl (Ev.now _))
  by_cases h5 : p.f0 = 5
  · rw [if_pos h5]
    refine Ev.pos h5 ?_
    rw [show (p.f0 == 5) = true from beq_iff_eq.mpr h5]; exact j1t
  rw [if_neg h5]
  refine Ev.neg h5 ?_
  by_cases h6 : p.f0 = 6
  · rw [if_pos h6, show (p.f0 == 6) = true from beq_iff_eq.mpr h6]; exact j1t
  · rw [if_neg h6, show (p.f0 == 6) = false from beq_eq_false_iff_ne.mpr h6]
    exact Ev.step (fun k => by rw [impl_View_columnsOf.j1]) (Ev.neg (by decide) (Ev.now _))
/-! ### what a part may have -/
def twoB (p : PT) : Bool := p.f0 == 4 || (p.f0 == 5 || p.f0 == 6)
def usesB (p : PT) : Bool := (twoB p || p.f2 == 0) && ((p.f0 == 2 || p.f3.length == 0) && ((p.f0 == 3 || p.f4.length == 0) && (p.f0 == 4 || p.f5.length == 0)))
theorem len0 {α : Type} (l : List α) : ((l.length : Int) == 0) = (l.length == 0) := by rw [Bool.eq_iff_iff]; simp
theorem uses_i (p : PT) : impl_Part_uses.f p.f0 p.f1 p.f2 p.f3 p.f4 p.f5 = some (usesB p) := by
  obtain ⟨n3, e3⟩ : ∃ n, p.f3.length = n := ⟨_, rfl⟩
  obtain ⟨n4, e4⟩ : ∃ n, p.f4.length = n := ⟨_, rfl⟩
  obtain ⟨n5, e5⟩ : ∃ n, p.f5.length = n := ⟨_, rfl⟩
  unfold impl_Part_uses.f usesB twoB
  rw [e3, e4, e5]
  generalize p.f0 = x
  generalize p.f2 = y
  have q3 : ((n3 : Int) = 0) = (n3 = 0) := by apply propext; omega
  have q4 : ((n4 : Int) = 0) = (n4 = 0) := by apply propext; omega
  have q5 : ((n5 : Int) == 0) = (n5 == 0) := by rw [Bool.eq_iff_iff]; simp
  simp only [q3, q4, q5]
  by_cases h4 : x = 4
  · subst h4
    by_cases a : n3 = 0 <;> by_cases b : n4 = 0 <;> simp [a, b]
  by_cases h5 : x = 5
  · subst h5
    by_cases a : n3 = 0 <;> by_cases b : n4 = 0 <;> simp [a, b]
  by_cases h6 : x = 6
  · subst h6
    by_cases a : n3 = 0 <;> by_cases b : n4 = 0 <;> simp [a, b]
  rw [if_neg h4, if_neg h5, if_neg h6]
  by_cases hy : y = 0
  case neg => rw [if_neg hy]; simp [h4, h5, h6, hy]
  rw [if_pos hy]
  by_cases h2 : x = 2
  · subst h2
    by_cases b : n4 = 0 <;> simp [hy, b]
  rw [if_neg h2]
  by_cases h3 : x = 3
  · subst h3
    by_cases a : n3 = 0 <;> simp [hy, a]
  by_cases a : n3 = 0 <;> by_cases b : n4 = 0 <;> simp [h2, h3, h4, h5, h6, hy, a, b]
/-! ### the whole -/
def stepV (src out : List Int) (p : PT) : Option Int := if usesB p = true then (if (colI src out p).2 = true then some (colI src out p).1 else none) else none
def chk (src : List Int) : List PT → List Int → Option (List Int)
  | [], out => some out
  | p :: ps, out => (stepV src out p).bind fun n => chk src ps (out ++ [n])
def res : Option (List Int) → List Int × Bool
  | some o => (o, true)
  | none => ([], false)
theorem stepV_range {src out : List Int} (hs : ∀ x ∈ src, 0 ≤ x ∧ x ≤ 6) (ho : ∀ x ∈ out, 0 ≤ x ∧ x ≤ 6) {p : PT} {n : Int} (h : stepV src out p = some n) : 0 ≤ n ∧ n ≤ 6 := by
  unfold stepV at h
  split at h
  case isFalse => cases h
  split at h
  case isFalse => cases h
  rename_i h2
  obtain rfl := Option.some.inj h
  unfold colI at h2 ⊢
  by_cases h1 : p.f0 = 1
  · rw [if_pos h1] at h2 ⊢
    by_cases hA : 0 ≤ p.f1 ∧ p.f1 < (src.length : Int)
    · rw [if_pos hA]; exact hs _ (rd_mem hA.1 hA.2)
    · rw [if_neg hA] at h2; cases h2
  rw [if_neg h1] at h2 ⊢
  by_cases hA : (0 ≤ p.f1 ∧ p.f1 < (out.length : Int)) ∧ 0 ≤ p.f2 ∧ p.f2 < (out.length : Int)
  case neg => rw [if_neg hA] at h2; cases h2
  rw [if_pos hA] at h2 ⊢
  have ha := ho _ (rd_mem hA.1.1 hA.1.2)
  unfold colR at h2 ⊢
  by_cases e2 : p.f0 = 2
  · rw [if_pos e2]; exact ha
  rw [if_neg e2] at h2 ⊢
  by_cases e3 : p.f0 = 3
  · rw [if_pos e3] at h2 ⊢
    have := (colsB_mem h2).1
    show 0 ≤ (p.f4.length : Int) ∧ (p.f4.length : Int) ≤ 6
    omega
  rw [if_neg e3] at h2 ⊢
  by_cases e4 : p.f0 = 4
  · rw [if_pos e4] at h2 ⊢
    split at h2
    · rename_i hp
      rw [if_pos hp]
      have := of_decide_eq_true h2
      exact ⟨by show 0 ≤ _ + _; omega, this⟩
    · cases h2
  rw [if_neg e4] at h2 ⊢
  split
  · exact ha
  · split <;> exact ha
theorem out_snoc {out : List Int} {n : Int} (ho : ∀ x ∈ out, 0 ≤ x ∧ x ≤ 6) (hn : 0 ≤ n ∧ n ≤ 6) : ∀ x ∈ out ++ [n], 0 ≤ x ∧ x ≤ 6 := fun x hx => by
  rcases List.mem_append.1 hx with h | h
  · exact ho x h
  · rw [List.mem_singleton.1 h]; exact hn
theorem rdp_lt {l : List PT} {i : Nat} (h : i < l.length) : rd_T47 l (i : Int) = l[i] := by simp [rd_T47, h]
theorem chk_i (src : List Int) (ps : List PT) (hsl : src.length ≤ 1048576) (hs : ∀ x ∈ src, 0 ≤ x ∧ x ≤ 6) (hp : ps.length ≤ 12) (d : Nat) : ∀ (i : Nat) (out : List Int), i + d = ps.length → out.length = i → (∀ x ∈ out, 0 ≤ x ∧ x ≤ 6) →
    Ev (fun k => impl_CheckView.l0 k out ps (ps.length : Int) (i : Int) src ps) (res (chk src (ps.drop i) out)) := by
  induction d with
  | zero =>
    intro i out hi hl ho
    rw [List.drop_of_length_le (by omega)]
    show Ev _ (out, true)
    exact Ev.step (fun k => by rw [impl_CheckView.l0]) (Ev.neg (by omega) (Ev.now _))
  | succ d ih =>
    intro i out hi hl ho
    have hlt : i < ps.length := by omega
    rw [drop_cons hlt]
    refine Ev.step (fun k => by rw [impl_CheckView.l0]) (Ev.pos (by omega) (Ev.pos (by omega) (Ev.pos (by omega) ?_)))
    rw [rdp_lt hlt]
    refine Ev.bind (cols_i src ps ps[i] out hsl (by omega) ho) ?_
    show Ev _ (res ((stepV src out ps[i]).bind fun n => chk src (ps.drop (i + 1)) (out ++ [n])))
    obtain ⟨v, hv⟩ : ∃ v, stepV src out ps[i] = v := ⟨_, rfl⟩
    have hv2 := hv
    unfold stepV at hv
    by_cases c : (colI src out ps[i]).2 = true
    case neg =>
      rw [if_neg c] at hv
      have e : stepV src out ps[i] = none := by unfold stepV; rw [if_neg c]; split <;> rfl
      rw [e]
      exact Ev.neg c (Ev.now _)
    rw [if_pos c] at hv
    refine Ev.pos c (Ev.cbind (uses_i ps[i]) ?_)
    by_cases u : usesB ps[i] = true
    · rw [if_pos u] at hv
      subst hv
      have hr := stepV_range hs ho hv2
      rw [hv2, w64 (x := (i : Int) + 1) (by omega) (by omega)]
      exact Ev.pos u (Ev.pos (by omega) (ih (i + 1) _ (by omega) (by simp; omega) (out_snoc ho hr)))
    · have e : stepV src out ps[i] = none := by unfold stepV; rw [if_neg u]
      rw [e]
      exact Ev.neg u (Ev.now _)
def chkV (src : List Int) (ps : List PT) : Option (List Int) := if (src.all (fun x => decide (0 ≤ x ∧ x ≤ 6)) = true ∧ (1 ≤ (src.length : Int) ∧ (src.length : Int) ≤ 4) ∧ 1 ≤ (ps.length : Int) ∧ (ps.length : Int) ≤ 12) then chk src ps [] else none
theorem all_src {src : List Int} (h : src.all (fun x => decide (0 ≤ x ∧ x ≤ 6)) = true) : ∀ x ∈ src, 0 ≤ x ∧ x ≤ 6 := fun x hx => of_decide_eq_true (List.all_eq_true.1 h x hx)
theorem view_i (src : List Int) (ps : List PT) (hsl : src.length ≤ 1048576) : Ev (fun k => impl_CheckView.f k src ps) (res (chkV src ps)) := by
  unfold impl_CheckView.f chkV
  have jt : Ev (fun k => impl_CheckView.j0 k true src ps) ([], false) := Ev.step (fun k => by rw [impl_CheckView.j0]) (Ev.pos rfl (Ev.now _))
  have ha : impl_areAll_int__impl_isColumns.f src = some (src.all (fun x => decide (0 ≤ x ∧ x ≤ 6))) := allO_eq src (fun x _ => by unfold impl_isColumns.f; rw [in_impl]; rfl)
  refine Ev.cbind (in_impl _ _ _) ?_
  by_cases h1 : 1 ≤ (src.length : Int) ∧ (src.length : Int) ≤ 4
  case neg => rw [if_neg (fun h => h1 h.2.1)]; exact Ev.neg (by rw [decide_eq_true_eq]; exact h1) jt
  refine Ev.pos (decide_eq_true h1) (Ev.cbind ha ?_)
  by_cases h2 : src.all (fun x => decide (0 ≤ x ∧ x ≤ 6)) = true
  case neg => rw [if_neg (fun h => h2 h.1)]; exact Ev.neg h2 jt
  refine Ev.pos h2 (Ev.cbind (in_impl _ _ _) ?_)
  by_cases h3 : 1 ≤ (ps.length : Int) ∧ (ps.length : Int) ≤ 12
  case neg => rw [if_neg (fun h => h3 h.2.2), decide_eq_false h3]; exact jt
  rw [if_pos ⟨h2, h1, h3⟩, decide_eq_true h3]
  have hc : Ev (fun k => impl_CheckView.l0 k [] ps (ps.length : Int) 0 src ps) (res (chk src ps [])) := chk_i src ps hsl (all_src h2) (by omega) ps.length 0 [] (by omega) rfl (fun x hx => by cases hx)
  exact Ev.step (fun k => by rw [impl_CheckView.j0]) (Ev.neg (by decide) hc)
/-! ### the reference -/
theorem uses_j3 (src : List Int) (ps : List PT) (p : PT) (out : List Int) (i : Int) (R : List Int × Bool)
    (F : Ev (fun k => spec_l6Check.j4 k out i (twoB p) ps (ps.length : Int) i (!usesB p) src ps p.f0 p.f1 p.f2 p.f3 p.f4 p.f5) R) :
    Ev (fun k => spec_l6Check.j3 k out i (twoB p) ps (ps.length : Int) i src ps p.f0 p.f1 p.f2 p.f3 p.f4 p.f5) R := by
  have G : ∀ b, b = !usesB p → Ev (fun k => spec_l6Check.j4 k out i (twoB p) ps (ps.length : Int) i b src ps p.f0 p.f1 p.f2 p.f3 p.f4 p.f5) R := fun b e => by rw [e]; exact F
  clear F
  refine Ev.step (fun k => by rw [spec_l6Check.j3]) ?_
  have n3 : (p.f3.length : Int) > 0 ↔ ¬ p.f3.length = 0 := by omega
  have n4 : (p.f4.length : Int) > 0 ↔ ¬ p.f4.length = 0 := by omega
  have n5 : (p.f5.length : Int) > 0 ↔ ¬ p.f5.length = 0 := by omega
  have L : ∀ (c5 : p.f0 = 4 ∨ p.f5.length = 0), (p.f0 = 2 ∨ p.f3.length = 0) → (p.f0 = 3 ∨ p.f4.length = 0) →
      Ev (fun k => if twoB p = true then spec_l6Check.j4 k out i (twoB p) ps (ps.length : Int) i false src ps p.f0 p.f1 p.f2 p.f3 p.f4 p.f5 else spec_l6Check.j4 k out i (twoB p) ps (ps.length : Int) i (p.f2 != 0) src ps p.f0 p.f1 p.f2 p.f3 p.f4 p.f5) R := fun c5 c3 c4 => by
    by_cases t : twoB p = true
    · exact Ev.pos t (G _ (by unfold usesB; rw [t]; rcases c5 with a | a <;> rcases c3 with b | b <;> rcases c4 with c | c <;> first | omega | simp [a, b, c]))
    · rw [Bool.not_eq_true] at t
      exact Ev.neg (by rw [t]; decide) (G _ (by unfold usesB; rw [t]; rcases c5 with a | a <;> rcases c3 with b | b <;> rcases c4 with c | c <;> first | omega | simp [a, b, c, bne]))
  have B3 : ¬ p.f0 = 2 → ¬ p.f3.length = 0 → true = !usesB p := fun a b => by unfold usesB; simp [a, b]
  have B4 : ¬ p.f0 = 3 → ¬ p.f4.length = 0 → true = !usesB p := fun a b => by unfold usesB; simp [a, b]
  have B5 : ¬ p.f0 = 4 → ¬ p.f5.length = 0 → true = !usesB p := fun a b => by unfold usesB; simp [a, b]
  by_cases h2 : p.f0 = 2
  · have h3 : ¬ p.f0 = 3 := by omega
    have h4 : ¬ p.f0 = 4 := by omega
    refine Ev.pos h2 (Ev.neg h3 ?_)
    by_cases q4 : p.f4.length = 0
    case neg => exact Ev.pos (n4.2 q4) (G _ (B4 h3 q4))
    refine Ev.neg (fun h => n4.1 h q4) (Ev.neg h4 ?_)
    by_cases q5 : p.f5.length = 0
    case neg => exact Ev.pos (n5.2 q5) (G _ (B5 h4 q5))
    exact Ev.neg (fun h => n5.1 h q5) (L (.inr q5) (.inl h2) (.inr q4))
  refine Ev.neg h2 ?_
  by_cases q3 : p.f3.length = 0
  case neg => exact Ev.pos (n3.2 q3) (G _ (B3 h2 q3))
  refine Ev.neg (fun h => n3.1 h q3) ?_
  by_cases h3 : p.f0 = 3
  · have h4 : ¬ p.f0 = 4 := by omega
    refine Ev.pos h3 (Ev.neg h4 ?_)
    by_cases q5 : p.f5.length = 0
    case neg => exact Ev.pos (n5.2 q5) (G _ (B5 h4 q5))
    exact Ev.neg (fun h => n5.1 h q5) (L (.inr q5) (.inr q3) (.inl h3))
  refine Ev.neg h3 ?_
  by_cases q4 : p.f4.length = 0
  case neg => exact Ev.pos (n4.2 q4) (G _ (B4 h3 q4))
  refine Ev.neg (fun h => n4.1 h q4) ?_
  by_cases h4 : p.f0 = 4
  · exact Ev.pos h4 (L (.inl h4) (.inr q3) (.inr q4))
  refine Ev.neg h4 ?_
  by_cases q5 : p.f5.length = 0
  case neg => exact Ev.pos (n5.2 q5) (G _ (B5 h4 q5))
  exact Ev.neg (fun h => n5.1 h q5) (L (.inr q5) (.inr q3) (.inr q4))
theorem uses_b {p : PT} (h : usesB p = true) (t : twoB p = false) : p.f2 = 0 := by
  unfold usesB at h
  rw [t, Bool.false_or, Bool.and_eq_true, beq_iff_eq] at h
  exact h.1
theorem chk_s (src : List Int) (ps : List PT) (hz : ∀ p ∈ ps, sizedP p) (hsl : src.length ≤ 1048576) (hs : ∀ x ∈ src, 0 ≤ x ∧ x ≤ 6) (hp : ps.length ≤ 12) (d : Nat) : ∀ (i : Nat) (out : List Int), i + d = ps.length → out.length = i → (∀ x ∈ out, 0 ≤ x ∧ x ≤ 6) →
    Ev (fun k => spec_l6Check.l1 k out ps (ps.length : Int) (i : Int) src ps) (res (chk src (ps.drop i) out)) := by
  induction d with
  | zero =>
    intro i out hi hl ho
    rw [List.drop_of_length_le (by omega)]
    show Ev _ (out, true)
    exact Ev.step (fun k => by rw [spec_l6Check.l1]) (Ev.neg (by omega) (Ev.now _))
  | succ d ih =>
    intro i out hi hl ho
    have hlt : i < ps.length := by omega
    rw [drop_cons hlt]
    refine Ev.step (fun k => by rw [spec_l6Check.l1]) (Ev.pos (by omega) (Ev.pos (by omega) (Ev.pos (by omega) ?_)))
    have hz1 := hz _ (List.getElem_mem hlt)
    rw [rdp_lt hlt]
    show Ev _ (res ((stepV src out ps[i]).bind fun n => chk src (ps.drop (i + 1)) (out ++ [n])))
    generalize ps[i] = p at hz1
    have next : ∀ n, stepV src out p = some n → Ev (fun k => spec_l6Check.l1 k (out ++ [n]) ps (ps.length : Int) (wrap64 ((i : Int) + 1)) src ps) (res ((stepV src out p).bind fun n => chk src (ps.drop (i + 1)) (out ++ [n]))) := fun n e => by
      have hr := stepV_range hs ho e
      rw [e, w64 (x := (i : Int) + 1) (by omega) (by omega)]
      exact ih (i + 1) _ (by omega) (by simp; omega) (out_snoc ho hr)
    have bad : stepV src out p = none → ([], false) = res ((stepV src out p).bind fun n => chk src (ps.drop (i + 1)) (out ++ [n])) := fun e => by rw [e]; rfl
    have J5 : ∀ b : Bool, Ev (fun k => spec_l6Check.j5 k out ps (ps.length : Int) (i : Int) true src ps p.f0 p.f1 p.f2 p.f3 p.f4 p.f5) ([], false) := fun b => Ev.step (fun k => by rw [spec_l6Check.j5]) (Ev.pos rfl (Ev.now _))
    have J4 : Ev (fun k => spec_l6Check.j4 k out (i : Int) (twoB p) ps (ps.length : Int) (i : Int) (!usesB p) src ps p.f0 p.f1 p.f2 p.f3 p.f4 p.f5) (res ((stepV src out p).bind fun n => chk src (ps.drop (i + 1)) (out ++ [n]))) := by
      refine Ev.step (fun k => by rw [spec_l6Check.j4]) ?_
      by_cases u : usesB p = true
      case neg => exact Ev.pos (by rw [Bool.not_eq_true] at u; rw [u]; rfl) (Ev.eq (Ev.now _) (bad (by unfold stepV; rw [if_neg u])))
      refine Ev.neg (by rw [u]; decide) ?_
      have sv : stepV src out p = if (colI src out p).2 = true then some (colI src out p).1 else none := by unfold stepV; rw [if_pos u]
      by_cases h1 : p.f0 = 1
      · refine Ev.pos h1 ?_
        have ci : colI src out p = if 0 ≤ p.f1 ∧ p.f1 < (src.length : Int) then (rd src p.f1, true) else (0, false) := by unfold colI; rw [if_pos h1]
        by_cases a1 : p.f1 < 0
        · exact Ev.pos a1 (Ev.eq (Ev.now _) (bad (by rw [sv, ci, if_neg (show ¬ (0 ≤ p.f1 ∧ p.f1 < (src.length : Int)) by omega)]; rfl)))
        refine Ev.neg a1 ?_
        by_cases a2 : p.f1 ≥ (src.length : Int)
        · exact Ev.pos a2 (Ev.eq (Ev.now _) (bad (by rw [sv, ci, if_neg (show ¬ (0 ≤ p.f1 ∧ p.f1 < (src.length : Int)) by omega)]; rfl)))
        exact Ev.neg a2 (Ev.pos (by omega) (Ev.pos (by omega) (Ev.pos (by omega) (next _ (by rw [sv, ci, if_pos (show 0 ≤ p.f1 ∧ p.f1 < (src.length : Int) by omega)]; rfl)))))
      refine Ev.neg h1 ?_
      have ci : colI src out p = if (0 ≤ p.f1 ∧ p.f1 < (out.length : Int)) ∧ 0 ≤ p.f2 ∧ p.f2 < (out.length : Int) then colR (rd out p.f1) (rd out p.f2) p else (0, false) := by unfold colI; rw [if_neg h1]
      have no : ¬ ((0 ≤ p.f1 ∧ p.f1 < (out.length : Int)) ∧ 0 ≤ p.f2 ∧ p.f2 < (out.length : Int)) → stepV src out p = none := fun h => by rw [sv, ci, if_neg h]; rfl
      have go : ((0 ≤ p.f1 ∧ p.f1 < (out.length : Int)) ∧ 0 ≤ p.f2 ∧ p.f2 < (out.length : Int)) → Ev (fun k => spec_l6Check.j5 k out ps (ps.length : Int) (i : Int) false src ps p.f0 p.f1 p.f2 p.f3 p.f4 p.f5) (res ((stepV src out p).bind fun n => chk src (ps.drop (i + 1)) (out ++ [n]))) := fun h => by
        rw [if_pos h] at ci
        refine Ev.step (fun k => by rw [spec_l6Check.j5]) (Ev.neg (by decide) (Ev.bind (cols_s p hz1 out ho h.1 h.2) ?_))
        rw [← ci]
        by_cases c : (colI src out p).2 = true
        · exact Ev.pos c (Ev.pos (by omega) (next _ (by rw [sv, if_pos c])))
        · exact Ev.neg c (Ev.eq (Ev.now _) (bad (by rw [sv, if_neg c])))
      by_cases a1 : p.f1 < 0
      · exact Ev.pos a1 (Ev.eq (J5 true) (bad (no (by omega))))
      refine Ev.neg a1 ?_
      by_cases a2 : p.f1 ≥ (i : Int)
      · exact Ev.pos a2 (Ev.eq (J5 true) (bad (no (by omega))))
      refine Ev.neg a2 ?_
      by_cases t : twoB p = true
      · refine Ev.pos t ?_
        by_cases b1 : p.f2 < 0
        · exact Ev.pos b1 (Ev.eq (J5 true) (bad (no (by omega))))
        refine Ev.neg b1 ?_
        by_cases b2 : p.f2 ≥ (i : Int)
        · rw [decide_eq_true b2]; exact Ev.eq (J5 true) (bad (no (by omega)))
        · rw [decide_eq_false b2]; exact go (by omega)
      · have hb := uses_b u (by rw [Bool.not_eq_true] at t; exact t)
        exact Ev.neg t (go (by omega))
    have J3 := uses_j3 src ps p out (i : Int) _ J4
    by_cases h4 : p.f0 = 4
    · refine Ev.pos h4 ?_
      rw [show twoB p = true from by unfold twoB; rw [show (p.f0 == 4) = true from beq_iff_eq.mpr h4]; rfl] at J3
      exact J3
    refine Ev.neg h4 ?_
    by_cases h5 : p.f0 = 5
    · refine Ev.pos h5 ?_
      rw [show twoB p = true from by unfold twoB; rw [show (p.f0 == 5) = true from beq_iff_eq.mpr h5, Bool.true_or, Bool.or_true]] at J3
      exact J3
    · rw [show twoB p = (p.f0 == 6) from by unfold twoB; rw [show (p.f0 == 4) = false from beq_eq_false_iff_ne.mpr h4, show (p.f0 == 5) = false from beq_eq_false_iff_ne.mpr h5, Bool.false_or, Bool.false_or]] at J3
      exact Ev.neg h5 J3
theorem src_l (src : List Int) (ps : List PT) (hsl : src.length ≤ 1048576) (R : List Int × Bool) (H : (∀ x ∈ src, 0 ≤ x ∧ x ≤ 6) → Ev (fun k => (spec_l1In.f (src.length : Int) 1 4).bind fun t136 => (if t136 = true then ((spec_l1In.f (ps.length : Int) 1 12).bind fun t137 => (spec_l6Check.j1 k (!t137) src ps)) else (spec_l6Check.j1 k true src ps))) R) (hn : ¬ (∀ x ∈ src, 0 ≤ x ∧ x ≤ 6) → R = ([], false)) (d : Nat) : ∀ (i : Nat), i + d = src.length → (∀ x ∈ src.take i, 0 ≤ x ∧ x ≤ 6) →
    Ev (fun k => spec_l6Check.l0 k src (src.length : Int) (i : Int) src ps) R := by
  induction d with
  | zero =>
    intro i hi ht
    rw [List.take_of_length_le (by omega)] at ht
    exact Ev.step (fun k => by rw [spec_l6Check.l0]) (Ev.neg (by omega) (H ht))
  | succ d ih =>
    intro i hi ht
    have hlt : i < src.length := by omega
    refine Ev.step (fun k => by rw [spec_l6Check.l0]) (Ev.pos (by omega) (Ev.pos (by omega) (Ev.pos (by omega) (Ev.cbind (in_spec _ _ _) ?_))))
    rw [rd_lt hlt, w64 (x := (i : Int) + 1) (by omega) (by omega)]
    by_cases c : 0 ≤ src[i] ∧ src[i] ≤ 6
    · exact Ev.pos (decide_eq_true c) (ih (i + 1) (by omega) (by rw [take_snoc hlt]; exact out_snoc ht c))
    · exact Ev.neg (by rw [decide_eq_true_eq]; exact c) (Ev.eq (Ev.now _) (hn (fun h => c (h _ (List.getElem_mem hlt)))).symm)
theorem view_s (src : List Int) (ps : List PT) (hz : ∀ p ∈ ps, sizedP p) (hsl : src.length ≤ 1048576) : Ev (fun k => spec_l6Check.f k src ps) (res (chkV src ps)) := by
  have jt : Ev (fun k => spec_l6Check.j1 k true src ps) ([], false) := Ev.step (fun k => by rw [spec_l6Check.j1]) (Ev.pos rfl (Ev.now _))
  refine src_l src ps hsl _ (fun ha => ?_) (fun hn => ?_) src.length 0 (by omega) (fun x hx => by cases hx)
  · have ha2 : src.all (fun x => decide (0 ≤ x ∧ x ≤ 6)) = true := List.all_eq_true.2 (fun x hx => decide_eq_true (ha x hx))
    unfold chkV
    refine Ev.cbind (in_spec _ _ _) ?_
    by_cases h1 : 1 ≤ (src.length : Int) ∧ (src.length : Int) ≤ 4
    case neg => rw [if_neg (fun h => h1 h.2.1)]; exact Ev.neg (by rw [decide_eq_true_eq]; exact h1) jt
    refine Ev.pos (decide_eq_true h1) (Ev.cbind (in_spec _ _ _) ?_)
    by_cases h3 : 1 ≤ (ps.length : Int) ∧ (ps.length : Int) ≤ 12
    case neg => rw [if_neg (fun h => h3 h.2.2), decide_eq_false h3]; exact jt
    rw [if_pos ⟨ha2, h1, h3⟩, decide_eq_true h3]
    have hc : Ev (fun k => spec_l6Check.l1 k [] ps (ps.length : Int) 0 src ps) (res (chk src ps [])) := chk_s src ps hz hsl ha (by omega) ps.length 0 [] (by omega) rfl (fun x hx => by cases hx)
    exact Ev.step (fun k => by rw [spec_l6Check.j1]) (Ev.neg (by decide) hc)
  · unfold chkV
    rw [if_neg (fun h => hn (all_src h.1))]
    rfl

end Go.Proofs.Ytaddemalepndfae.Pure
