/- Joined rows: both functions answer alike, and what they answer. No conditions. -/
import Derived.Test.YtmelechhnimlnaaQRow
import Derived.Test.YtmelechhnimlnaaG9
import Derived.Test.YtmelechhnimlnaaG6
import Derived.Test.YtmelechhnimlnaaG5
import Derived.Test.YtmelechhnimlnaaG8
import Derived.Test.YtmelechhnimlnaaG4
import Derived.Test.YtmelechhnimlnaaG3
namespace Go.Proofs.Ytmelechhnimlnaa.Pure
open Go.RowKit Go.Proofs.Ytmelechhnimlnaa.G Go.Proofs.Ytmelechhnimlnaa.X Go.Proofs.YtmelechhnimlnaaW.PrintWords Go.Proofs.YtmelechhnimlnaaW.PrintLast
set_option linter.unusedVariables false

theorem rdl {l : List (List Int)} {i : Nat} (h : i < l.length) : rd_L2 l (i : Int) = l[i] := by simp [rd_L2, h]
def okB (A B : Int) (p : List Int) : Bool := decide (p.length = 2) && (decide (0 ≤ rd p 0 ∧ rd p 0 < A) && decide (0 ≤ rd p 1 ∧ rd p 1 < B))
def pairsB (A B : Int) (l : List (List Int)) : Bool := l.all (okB A B) && decide (l.length ≤ 6)
def sameB (a b p : List Int) : Bool := rd a (rd p 0) == rd b (rd p 1)
def hitB (l : List (List Int)) (x : Int) : Bool := l.any fun p => rd p 1 == x
def frees (l : List (List Int)) : Nat → List Int
  | 0 => []
  | n + 1 => if hitB l n = true then frees l n else frees l n ++ [(n : Int)]
theorem frees_len (l : List (List Int)) : ∀ n, (frees l n).length ≤ n
  | 0 => Nat.le_refl _
  | n + 1 => by unfold frees; have := frees_len l n; split <;> simp <;> omega
theorem frees_mem (l : List (List Int)) : ∀ n, ∀ x ∈ frees l n, 0 ≤ x ∧ x < (n : Int)
  | 0, x, h => by cases h
  | n + 1, x, h => by
    unfold frees at h
    split at h
    · have := frees_mem l n x h; omega
    · rcases List.mem_append.1 h with h | h
      · have := frees_mem l n x h; omega
      · rw [List.mem_singleton.1 h]; omega
theorem ok_parts {A B : Int} {p : List Int} (h : okB A B p = true) : p.length = 2 ∧ (0 ≤ rd p 0 ∧ rd p 0 < A) ∧ 0 ≤ rd p 1 ∧ rd p 1 < B := by
  unfold okB at h
  rw [Bool.and_eq_true, Bool.and_eq_true, decide_eq_true_eq, decide_eq_true_eq, decide_eq_true_eq] at h
  exact h
theorem ok_no {A B : Int} {p : List Int} (h : ¬ (p.length = 2 ∧ (0 ≤ rd p 0 ∧ rd p 0 < A) ∧ 0 ≤ rd p 1 ∧ rd p 1 < B)) : okB A B p = false := by
  cases e : okB A B p with
  | false => rfl
  | true => exact absurd (ok_parts e) h
theorem ok_yes {A B : Int} {p : List Int} (h : p.length = 2 ∧ (0 ≤ rd p 0 ∧ rd p 0 < A) ∧ 0 ≤ rd p 1 ∧ rd p 1 < B) : okB A B p = true := by
  unfold okB
  rw [Bool.and_eq_true, Bool.and_eq_true, decide_eq_true_eq, decide_eq_true_eq, decide_eq_true_eq]
  exact h
theorem pairs_spec_l (A B : Int) (l : List (List Int)) (hl : l.length ≤ 1048576) (d : Nat) : ∀ (i : Nat), i + d = l.length →
    Ev (fun k => spec_l1Pairs.l0 k l A B l (l.length : Int) (i : Int)) ((l.drop i).all (okB A B) && decide (l.length ≤ 6)) := by
  induction d with
  | zero =>
    intro i hi
    obtain rfl : i = l.length := by omega
    refine Ev.step (fun k => by rw [spec_l1Pairs.l0]) (Ev.neg (by omega) (Ev.eq (Ev.now _) ?_))
    rw [List.drop_length]
    show _ = (true && _)
    rw [Bool.true_and, decide_eq_decide]; omega
  | succ d ih =>
    intro i hi
    have hlt : i < l.length := by omega
    refine Ev.step (fun k => by rw [spec_l1Pairs.l0]) (Ev.pos (by omega) (Ev.pos (by omega) (Ev.pos (by omega) ?_)))
    rw [rdl hlt, drop_cons hlt, List.all_cons]
    have no : ¬ (l[i].length = 2 ∧ (0 ≤ rd l[i] 0 ∧ rd l[i] 0 < A) ∧ 0 ≤ rd l[i] 1 ∧ rd l[i] 1 < B) → false = (okB A B l[i] && (l.drop (i + 1)).all (okB A B) && decide (l.length ≤ 6)) := fun h => by rw [ok_no h]; rfl
    by_cases h2 : l[i].length = 2
    case neg => exact Ev.neg (by omega) (Ev.eq (Ev.now false) (no (fun h => h2 h.1)))
    refine Ev.pos (by omega) (Ev.pos (by omega) ?_)
    by_cases h3 : rd l[i] 0 < 0
    · exact Ev.pos h3 (Ev.eq (Ev.now false) (no (fun h => by omega)))
    refine Ev.neg h3 ?_
    by_cases h4 : rd l[i] 0 ≥ A
    · exact Ev.pos h4 (Ev.eq (Ev.now false) (no (fun h => by omega)))
    refine Ev.neg h4 (Ev.pos (by omega) ?_)
    by_cases h5 : rd l[i] 1 < 0
    · exact Ev.pos h5 (Ev.eq (Ev.now false) (no (fun h => by omega)))
    refine Ev.neg h5 ?_
    by_cases h6 : rd l[i] 1 ≥ B
    · exact Ev.pos h6 (Ev.eq (Ev.now false) (no (fun h => by omega)))
    refine Ev.neg h6 ?_
    rw [w64 (x := (i : Int) + 1) (by omega) (by omega), ok_yes (by omega), Bool.true_and]
    exact ih (i + 1) (by omega)
theorem pairs_spec (A B : Int) (l : List (List Int)) (hl : l.length ≤ 1048576) : Ev (fun k => spec_l1Pairs.f k l A B) (pairsB A B l) := pairs_spec_l A B l hl l.length 0 (by omega)
theorem placeJ_eq (x n : Int) : impl_isPlace.f x n = some (decide (0 ≤ x ∧ x < n)) := by
  unfold impl_isPlace.f
  by_cases h : 0 ≤ x
  · simp [h]
  · simp [h]
theorem pair_impl (A B : Int) (p : List Int) : impl_arePairs_1.f p A B = some (okB A B p) := by
  unfold impl_arePairs_1.f
  by_cases h2 : p.length = 2
  case neg => rw [if_neg (by omega), ok_no (fun h => h2 h.1)]
  rw [if_pos (by omega), if_pos (by omega), placeJ_eq, Option.bind_some]
  by_cases h3 : 0 ≤ rd p 0 ∧ rd p 0 < A
  case neg => rw [if_neg (by rw [decide_eq_true_eq]; exact h3), ok_no (fun h => h3 h.2.1)]
  rw [if_pos (by rw [decide_eq_true_eq]; exact h3), if_pos (by omega), placeJ_eq]
  show some _ = _
  unfold okB
  simp [h2, h3]
theorem pairs_impl (A B : Int) (l : List (List Int)) : impl_arePairs.f l A B = some (pairsB A B l) := by
  unfold impl_arePairs.f
  have e : impl_areAll_Lint__impl_arePairs_1.f l A B = some (l.all (okB A B)) := allO_eq l (fun x _ => pair_impl A B x)
  unfold pairsB
  by_cases h : l.length ≤ 6
  · rw [if_pos (by omega), e]; simp [h]
  · rw [if_neg (by omega)]; simp [h]
theorem join2 (a b : List Int) (l : List (List Int)) (hl : l.length ≤ 6) (hok : ∀ p ∈ l, p.length = 2) (j : Nat) (hj : j < 6) (c : Int) (o : List Int) (ho : o.length ≤ 12) (R : List Int × Bool)
    (d : Nat) : ∀ (i : Nat) (x : Bool), i + d = l.length →
    ((x || (l.drop i).any fun p => rd p 1 == (j : Int)) = true → Ev (fun k => spec_l1Join.l1 k l b (b.length : Int) ((j + 1 : Nat) : Int) o) R) →
    ((x || (l.drop i).any fun p => rd p 1 == (j : Int)) = false → Ev (fun k => spec_l1Join.l1 k l b (b.length : Int) ((j + 1 : Nat) : Int) (o ++ [c])) R) →
    Ev (fun k => spec_l1Join.l2 k l (j : Int) c x b (b.length : Int) (j : Int) l (l.length : Int) (i : Int) o) R := by
  have wj : wrap64 ((j : Int) + 1) = ((j + 1 : Nat) : Int) := w64 (by omega) (by omega)
  induction d with
  | zero =>
    intro i x hi h1 h2
    obtain rfl : i = l.length := by omega
    refine Ev.step (fun k => by rw [spec_l1Join.l2]) (Ev.neg (by omega) ?_)
    rw [List.drop_length] at h1 h2
    rw [wj]
    cases x with
    | true => exact Ev.pos rfl (h1 rfl)
    | false => exact Ev.neg (by decide) (Ev.pos (by omega) (h2 rfl))
  | succ d ih =>
    intro i x hi h1 h2
    have hlt : i < l.length := by omega
    have hp : l[i].length = 2 := hok _ (List.getElem_mem hlt)
    rw [drop_cons hlt, List.any_cons] at h1 h2
    refine Ev.step (fun k => by rw [spec_l1Join.l2]) (Ev.pos (by omega) (Ev.pos (by omega) (Ev.pos (by omega) ?_)))
    rw [rdl hlt, w64 (x := (i : Int) + 1) (by omega) (by omega)]
    cases x with
    | true => exact Ev.pos rfl (ih (i + 1) true (by omega) (fun _ => h1 rfl) (fun h => by cases h))
    | false =>
      refine Ev.neg (by decide) (Ev.pos (by omega) ?_)
      exact ih (i + 1) _ (by omega) (fun h => h1 (by simpa using h)) (fun h => h2 (by simpa using h))
theorem join1 (a b : List Int) (l : List (List Int)) (hl : l.length ≤ 6) (hok : ∀ p ∈ l, p.length = 2) (ha : a.length ≤ 6) (hb : b.length ≤ 6) (d : Nat) : ∀ (j : Nat), j + d = b.length →
    Ev (fun k => spec_l1Join.l1 k l b (b.length : Int) (j : Int) (a ++ (frees l j).map (rd b))) (a ++ (frees l b.length).map (rd b), decide ((a ++ (frees l b.length).map (rd b)).length ≤ 6)) := by
  induction d with
  | zero =>
    intro j hj
    obtain rfl : j = b.length := by omega
    refine Ev.step (fun k => by rw [spec_l1Join.l1]) (Ev.neg (by omega) (Ev.eq (Ev.now _) ?_))
    congr 1
    rw [decide_eq_decide]; omega
  | succ d ih =>
    intro j hj
    have hlt : j < b.length := by omega
    have hf := frees_len l j
    refine Ev.step (fun k => by rw [spec_l1Join.l1]) (Ev.pos (by omega) (Ev.pos (by omega) (Ev.pos (by omega) ?_)))
    have h := ih (j + 1) (by omega)
    refine join2 a b l hl hok j (by omega) _ _ (by rw [List.length_append, List.length_map]; omega) _ l.length 0 false (by omega) (fun e => ?_) (fun e => ?_)
    · have e2 : hitB l (j : Int) = true := by simpa [hitB] using e
      rw [frees, if_pos e2] at h
      exact h
    · have e2 : ¬ hitB l (j : Int) = true := by rw [Bool.not_eq_true]; simpa [hitB] using e
      rw [frees, if_neg e2, List.map_append, ← List.append_assoc] at h
      exact h
theorem join0 (a b o : List Int) (l : List (List Int)) (hl : l.length ≤ 6) (hok : ∀ p ∈ l, okB (a.length : Int) (b.length : Int) p = true) (R : List Int × Bool) (hR : Ev (fun k => spec_l1Join.l1 k l b (b.length : Int) 0 o) R) (d : Nat) : ∀ (i : Nat), i + d = l.length →
    Ev (fun k => spec_l1Join.l0 k l l (l.length : Int) (i : Int) a b o) (if (l.drop i).all (sameB a b) = true then R else ([], false)) := by
  induction d with
  | zero =>
    intro i hi
    obtain rfl : i = l.length := by omega
    refine Ev.step (fun k => by rw [spec_l1Join.l0]) (Ev.neg (by omega) ?_)
    rw [List.drop_length]
    exact hR
  | succ d ih =>
    intro i hi
    have hlt : i < l.length := by omega
    obtain ⟨h1, h2, h3⟩ := ok_parts (hok _ (List.getElem_mem hlt))
    refine Ev.step (fun k => by rw [spec_l1Join.l0]) (Ev.pos (by omega) (Ev.pos (by omega) (Ev.pos (by omega) ?_)))
    rw [rdl hlt, drop_cons hlt, List.all_cons, w64 (x := (i : Int) + 1) (by omega) (by omega)]
    refine Ev.pos (by omega) (Ev.pos h2.1 (Ev.pos h2.2 (Ev.pos (by omega) (Ev.pos h3.1 (Ev.pos h3.2 ?_)))))
    by_cases e : rd a (rd l[i] 0) = rd b (rd l[i] 1)
    · have e2 : sameB a b l[i] = true := by unfold sameB; rw [beq_iff_eq]; exact e
      rw [e2, Bool.true_and]
      exact Ev.pos e (ih (i + 1) (by omega))
    · have e2 : sameB a b l[i] = false := by unfold sameB; rw [beq_eq_false_iff_ne]; exact e
      rw [e2, Bool.false_and]
      exact Ev.neg e (Ev.now _)
theorem same_impl (a b p : List Int) (h : okB (a.length : Int) (b.length : Int) p = true) : impl_joined_1.f p a b = some (sameB a b p) := by
  obtain ⟨h1, h2, h3⟩ := ok_parts h
  unfold impl_joined_1.f
  rw [if_pos (by omega), if_pos h2.1, if_pos h2.2, if_pos (by omega), if_pos h3.1, if_pos h3.2]
  rfl
theorem unpaired_l (l : List (List Int)) (hok : ∀ p ∈ l, p.length = 2) (n : Nat) (hn : n ≤ 6) (d : Nat) : ∀ (i : Nat), i + d = n → Ev (fun k => impl_unpaired.l0 k l (frees l i) (n : Int) (i : Int)) (frees l n) := by
  induction d with
  | zero =>
    intro i hi
    obtain rfl : i = n := by omega
    exact Ev.step (fun k => by rw [impl_unpaired.l0]) (Ev.neg (by omega) (Ev.now _))
  | succ d ih =>
    intro i hi
    have hf := frees_len l i
    have e : slices_ContainsFunc_LLint_Lint__impl_unpaired_1.f l (i : Int) = some (hitB l (i : Int)) := anyO_eq l (fun p hp => by unfold impl_unpaired_1.f; rw [if_pos (by have := hok p hp; omega)])
    have h := ih (i + 1) (by omega)
    refine Ev.step (fun k => by rw [impl_unpaired.l0]) (Ev.pos (by omega) (Ev.cbind e ?_))
    rw [w64 (x := (i : Int) + 1) (by omega) (by omega)]
    by_cases c : hitB l (i : Int) = true
    · rw [frees, if_pos c] at h
      exact Ev.pos c h
    · rw [frees, if_neg c] at h
      exact Ev.neg c (Ev.pos (by omega) h)
theorem pickedJ_l (r l : List Int) (hl : l.length ≤ 1048576) (hp : ∀ x ∈ l, 0 ≤ x ∧ x < (r.length : Int)) (d : Nat) : ∀ (i : Nat), i + d = l.length →
    Ev (fun k => impl_Row_picked.l0 k l (l.length : Int) (i : Int) r ((l.take i).map (rd r))) (l.map (rd r)) := by
  induction d with
  | zero =>
    intro i hi
    obtain rfl : i = l.length := by omega
    exact Ev.step (fun k => by rw [impl_Row_picked.l0]) (Ev.neg (by omega) (Ev.eq (Ev.now _) (by rw [List.take_length])))
  | succ d ih =>
    intro i hi
    have hlt : i < l.length := by omega
    have h := hp _ (List.getElem_mem hlt)
    have hh := ih (i + 1) (by omega)
    rw [take_snoc hlt, List.map_append] at hh
    refine Ev.step (fun k => by rw [impl_Row_picked.l0]) (Ev.pos (by omega) (Ev.pos (by omega) (Ev.pos (by omega) ?_)))
    rw [rd_lt hlt, w64 (x := (i : Int) + 1) (by omega) (by omega)]
    exact Ev.pos h.1 (Ev.pos h.2 (Ev.pos (by rw [List.length_map, List.length_take]; omega) hh))
theorem concat_ev (a b : List Int) (ha : a.length ≤ 6) (hb : b.length ≤ 6) : Ev (fun k => slices_Concat_Lint_int.f k [a, b]) (a ++ b) := by
  have e0 : rd_L2 [a, b] 0 = a := rfl
  have e1 : rd_L2 [a, b] 1 = b := rfl
  have w1 : wrap64 (0 + (a.length : Int)) = (a.length : Int) := by rw [Int.zero_add]; exact w64 (by omega) (by omega)
  have w2 : wrap64 ((a.length : Int) + (b.length : Int)) = (a.length : Int) + (b.length : Int) := w64 (by omega) (by omega)
  have g : slices_Grow_Lint_int.f ([] : List Int) ((a.length : Int) + (b.length : Int)) = some [] := by
    unfold slices_Grow_Lint_int.f
    rw [if_pos (show ([] : List Int).length = 0 from rfl), if_pos (by omega), if_pos (by omega)]
  have v1 : wrap64 (0 + 1) = 1 := by unfold wrap64; omega
  have v2 : wrap64 (1 + 1) = 2 := by unfold wrap64; omega
  have l0 : (0 : Int) < (([a, b] : List (List Int)).length : Int) := by show (0 : Int) < 2; decide
  have l1 : (1 : Int) < (([a, b] : List (List Int)).length : Int) := by show (1 : Int) < 2; decide
  show Ev (fun k => slices_Concat_Lint_int.l0 k [a, b] 0 [a, b] 2 0) (a ++ b)
  refine Ev.step (fun k => by rw [slices_Concat_Lint_int.l0]) (Ev.pos (by decide) (Ev.pos (by decide) (Ev.pos l0 ?_)))
  rw [e0, w1, v1]
  refine Ev.neg (by omega) (Ev.step (fun k => by rw [slices_Concat_Lint_int.l0]) (Ev.pos (by decide) (Ev.pos (by decide) (Ev.pos l1 ?_))))
  rw [e1, w2, v2]
  refine Ev.neg (by omega) (Ev.step (fun k => by rw [slices_Concat_Lint_int.l0]) (Ev.neg (by decide) (Ev.cbind g ?_)))
  show Ev (fun k => slices_Concat_Lint_int.l1 k [] [a, b] 2 0) (a ++ b)
  refine Ev.step (fun k => by rw [slices_Concat_Lint_int.l1]) (Ev.pos (by decide) (Ev.pos (by decide) (Ev.pos l0 ?_)))
  rw [e0, v1]
  refine Ev.pos (by show 0 + a.length < _; omega) (Ev.step (fun k => by rw [slices_Concat_Lint_int.l1]) (Ev.pos (by decide) (Ev.pos (by decide) (Ev.pos l1 ?_))))
  rw [e1, v2, List.nil_append]
  exact Ev.pos (by omega) (Ev.step (fun k => by rw [slices_Concat_Lint_int.l1]) (Ev.neg (by decide) (Ev.now _)))
theorem good_join {a b : List Int} (ha : goodRow a = true) (hb : goodRow b = true) (l : List (List Int)) : goodRow (a ++ (frees l b.length).map (rd b)) = decide ((a ++ (frees l b.length).map (rd b)).length ≤ 6) := by
  unfold goodRow at ha hb ⊢
  rw [Bool.and_eq_true] at ha hb
  have hc : (a ++ (frees l b.length).map (rd b)).all cellB = true := by
    rw [List.all_append, ha.2, Bool.true_and, List.all_eq_true]
    intro x hx
    obtain ⟨y, hy, rfl⟩ := List.mem_map.1 hx
    have h := frees_mem l b.length y hy
    obtain ⟨n, rfl⟩ : ∃ n : Nat, y = (n : Int) := ⟨y.toNat, by omega⟩
    rw [rd_lt (by omega)]
    exact List.all_eq_true.1 hb.2 _ (List.getElem_mem _)
  rw [hc, Bool.and_true]
def joinV (a b : List Int) (l : List (List Int)) : List Int × Bool := if goodRow a = true ∧ goodRow b = true ∧ pairsB (a.length : Int) (b.length : Int) l = true ∧ l.all (sameB a b) = true ∧ (a ++ (frees l b.length).map (rd b)).length ≤ 6 then (a ++ (frees l b.length).map (rd b), true) else ([], false)
theorem join_both (a b : List Int) (l : List (List Int)) (hl : l.length ≤ 1048576) (ha : a.length ≤ 1048576) (hb : b.length ≤ 1048576) : Ev (fun k => spec_JoinRows.f k a b l) (joinV a b l) ∧ Ev (fun k => impl_JoinRows.f k a b l) (joinV a b l) := by
  have no_s : ∀ k, spec_JoinRows.j0 (k + 1) l true a b = some (([] : List Int), false) := fun k => by rw [spec_JoinRows.j0, if_pos rfl]
  have no_i : ∀ k, impl_JoinRows.j0 (k + 1) l true a b = some (([] : List Int), false) := fun k => by rw [impl_JoinRows.j0, if_pos rfl]
  have ga := goodRow_spec a (by omega)
  have gb := goodRow_spec b (by omega)
  unfold spec_JoinRows.f impl_JoinRows.f joinV
  by_cases h1 : goodRow a = true
  case neg =>
    rw [if_neg (fun q => h1 q.1)]
    exact ⟨Ev.bind ga (Ev.neg h1 (Ev.step no_s (Ev.now _))), Ev.cbind (goodRow_impl a) (Ev.neg h1 (Ev.step no_i (Ev.now _)))⟩
  by_cases h2 : goodRow b = true
  case neg =>
    rw [if_neg (fun q => h2 q.2.1)]
    exact ⟨Ev.bind ga (Ev.pos h1 (Ev.bind gb (Ev.neg h2 (Ev.step no_s (Ev.now _))))), Ev.cbind (goodRow_impl a) (Ev.pos h1 (Ev.cbind (goodRow_impl b) (Ev.neg h2 (Ev.step no_i (Ev.now _)))))⟩
  have ps := pairs_spec (a.length : Int) (b.length : Int) l hl
  have pi := pairs_impl (a.length : Int) (b.length : Int) l
  by_cases h3 : pairsB (a.length : Int) (b.length : Int) l = true
  case neg =>
    rw [if_neg (fun q => h3 q.2.2.1)]
    rw [Bool.not_eq_true] at h3
    rw [h3] at ps pi
    exact ⟨Ev.bind ga (Ev.pos h1 (Ev.bind gb (Ev.pos h2 (Ev.bind ps (Ev.step no_s (Ev.now _)))))), Ev.cbind (goodRow_impl a) (Ev.pos h1 (Ev.cbind (goodRow_impl b) (Ev.pos h2 (Ev.cbind pi (Ev.step no_i (Ev.now _))))))⟩
  have h3' := h3
  unfold pairsB at h3'
  rw [Bool.and_eq_true, decide_eq_true_eq, List.all_eq_true] at h3'
  obtain ⟨hok, hl6⟩ := h3'
  have ha6 : a.length ≤ 6 := by unfold goodRow at h1; rw [Bool.and_eq_true, decide_eq_true_eq] at h1; exact h1.1
  have hb6 : b.length ≤ 6 := by unfold goodRow at h2; rw [Bool.and_eq_true, decide_eq_true_eq] at h2; exact h2.1
  have hok2 : ∀ p ∈ l, p.length = 2 := fun p hp => (ok_parts (hok p hp)).1
  have hf := frees_len l b.length
  have hout : (a ++ (frees l b.length).map (rd b)).length ≤ 12 := by rw [List.length_append, List.length_map]; omega
  have hgd := good_join h1 h2 l
  have hj : Ev (fun k => spec_l1Join.f k a b l) (if l.all (sameB a b) = true then (a ++ (frees l b.length).map (rd b), decide ((a ++ (frees l b.length).map (rd b)).length ≤ 6)) else ([], false)) := by
    unfold spec_l1Join.f
    refine Ev.cbind rfl (Ev.pos (by show 0 + a.length < _; omega) ?_)
    have h := join1 a b l hl6 hok2 ha6 hb6 b.length 0 (by omega)
    have e : a ++ (frees l 0).map (rd b) = ([] : List Int) ++ a := List.append_nil a
    rw [e] at h
    exact join0 a b _ l hl6 hok _ h l.length 0 (by omega)
  have hi : Ev (fun k => impl_joined.f k a b l) (if l.all (sameB a b) = true then (a ++ (frees l b.length).map (rd b), true) else ([], false)) := by
    unfold impl_joined.f
    have e : impl_areAll_Lint__impl_joined_1.f l a b = some (l.all (sameB a b)) := allO_eq l (fun p hp => same_impl a b p (hok p hp))
    refine Ev.cbind e ?_
    by_cases c : l.all (sameB a b) = true
    · rw [if_pos c]
      refine Ev.pos c (Ev.bind (unpaired_l l hok2 b.length hb6 b.length 0 (by omega)) ?_)
      refine Ev.bind (pickedJ_l b (frees l b.length) (by omega) (frees_mem l b.length) (frees l b.length).length 0 (by omega)) ?_
      exact Ev.bind (concat_ev a ((frees l b.length).map (rd b)) ha6 (by rw [List.length_map]; omega)) (Ev.now _)
    · rw [if_neg c]
      exact Ev.neg c (Ev.now _)
  generalize a ++ (frees l b.length).map (rd b) = o at hj hi hgd hout
  refine ⟨?_, ?_⟩
  · refine Ev.bind ga (Ev.pos h1 (Ev.bind gb (Ev.pos h2 (Ev.bind ps ?_))))
    rw [h3]
    refine Ev.step (fun k => by rw [spec_JoinRows.j0]) (Ev.neg (by decide) (Ev.bind hj ?_))
    by_cases c : l.all (sameB a b) = true
    · rw [if_pos c]
      by_cases e : o.length ≤ 6
      · rw [if_pos (show goodRow a = true ∧ goodRow b = true ∧ true = true ∧ l.all (sameB a b) = true ∧ o.length ≤ 6 from ⟨h1, h2, rfl, c, e⟩)]; exact Ev.pos (decide_eq_true e) (Ev.now _)
      · rw [if_neg (show ¬ (goodRow a = true ∧ goodRow b = true ∧ true = true ∧ l.all (sameB a b) = true ∧ o.length ≤ 6) from fun q => e q.2.2.2.2)]; exact Ev.neg (by rw [decide_eq_true_eq]; exact e) (Ev.now _)
    · rw [if_neg c, if_neg (show ¬ (goodRow a = true ∧ goodRow b = true ∧ true = true ∧ l.all (sameB a b) = true ∧ o.length ≤ 6) from fun q => c q.2.2.2.1)]
      exact Ev.neg (by decide) (Ev.now _)
  · refine Ev.cbind (goodRow_impl a) (Ev.pos h1 (Ev.cbind (goodRow_impl b) (Ev.pos h2 (Ev.cbind pi ?_))))
    rw [h3]
    refine Ev.step (fun k => by rw [impl_JoinRows.j0]) (Ev.neg (by decide) (Ev.bind hi ?_))
    by_cases c : l.all (sameB a b) = true
    · rw [if_pos c]
      refine Ev.pos rfl (Ev.cbind (goodRow_impl o) ?_)
      rw [hgd]
      by_cases e : o.length ≤ 6
      · rw [if_pos (show goodRow a = true ∧ goodRow b = true ∧ true = true ∧ l.all (sameB a b) = true ∧ o.length ≤ 6 from ⟨h1, h2, rfl, c, e⟩)]; exact Ev.pos (decide_eq_true e) (Ev.now _)
      · rw [if_neg (show ¬ (goodRow a = true ∧ goodRow b = true ∧ true = true ∧ l.all (sameB a b) = true ∧ o.length ≤ 6) from fun q => e q.2.2.2.2)]; exact Ev.neg (by rw [decide_eq_true_eq]; exact e) (Ev.now _)
    · rw [if_neg c, if_neg (show ¬ (goodRow a = true ∧ goodRow b = true ∧ true = true ∧ l.all (sameB a b) = true ∧ o.length ≤ 6) from fun q => c q.2.2.2.1)]
      exact Ev.neg (by decide) (Ev.now _)
theorem joinV_true {a b : List Int} {l : List (List Int)} (h : (joinV a b l).2 = true) : goodRow a = true ∧ goodRow b = true ∧ l.length ≤ 6 ∧ (∀ p ∈ l, okB (a.length : Int) (b.length : Int) p = true ∧ sameB a b p = true) ∧ goodRow (joinV a b l).1 = true ∧ (joinV a b l).1.length ≤ a.length + b.length ∧ ∃ z, (joinV a b l).1 = a ++ z := by
  unfold joinV at h ⊢
  by_cases c : goodRow a = true ∧ goodRow b = true ∧ pairsB (a.length : Int) (b.length : Int) l = true ∧ l.all (sameB a b) = true ∧ (a ++ (frees l b.length).map (rd b)).length ≤ 6
  · rw [if_pos c]
    obtain ⟨h1, h2, h3, h4, h5⟩ := c
    unfold pairsB at h3
    rw [Bool.and_eq_true, decide_eq_true_eq, List.all_eq_true] at h3
    rw [List.all_eq_true] at h4
    have hf := frees_len l b.length
    refine ⟨h1, h2, h3.2, fun p hp => ⟨h3.1 p hp, h4 p hp⟩, ?_, ?_, _, rfl⟩
    · show goodRow (a ++ (frees l b.length).map (rd b)) = true
      rw [good_join h1 h2 l]; exact decide_eq_true h5
    · show (a ++ (frees l b.length).map (rd b)).length ≤ _
      rw [List.length_append, List.length_map]; omega
  · rw [if_neg c] at h; cases h
theorem joinV_len (a b : List Int) (l : List (List Int)) : (joinV a b l).1.length ≤ 6 := by
  unfold joinV
  split
  · rename_i c; exact c.2.2.2.2
  · exact Nat.zero_le _

end Go.Proofs.Ytmelechhnimlnaa.Pure
