/- The plain law of GroupsAsTable: both functions answer alike. No conditions. -/
import Derived.Test.YtaddemalepndfaaHFnExactGroupsAsTable
import Derived.Test.YtaddemalepndfaaQGroups
import Derived.Test.YtaddemalepndfaaQTableSpec
import Derived.Test.YtaddemalepndfaaG6
import Derived.Test.YtaddemalepndfaaG10
import Derived.Test.YtaddemalepndfaaG7
namespace Go.Proofs.Ytaddemalepndfaa.Pure
open Go.RowKit Go.Proofs.Ytaddemalepndfaa.G Go.Proofs.Ytaddemalepndfaa.X Go.Proofs.YtaddemalepndfaaW.PrintWords Go.Proofs.YtaddemalepndfaaW.PrintLast Go.Proofs.Ytaddemalepndfaa.HFnExactGroupsAsTable
set_option linter.unusedVariables false

abbrev G := S45
abbrev W := S47
/-- A group as a row with a weight. -/
def conv (g : G) : W := ⟨⟨g.f0.f0 ++ [g.f1, g.f2]⟩, 1⟩
theorem rdg_lt {l : List G} {i : Nat} (h : i < l.length) : rdG l (i : Int) = l[i] := by simp [rdG, rd_T45, h]
theorem concat_ev (a b : List Int) (ha : a.length ≤ 6) (hb : b.length ≤ 6) : Ev (fun k => slices_Concat_Lint_int.f k [a, b]) (a ++ b) := by
  have e0 : rd_L1 [a, b] 0 = a := rfl
  have e1 : rd_L1 [a, b] 1 = b := rfl
  have w1 : wrap64 (0 + (a.length : Int)) = (a.length : Int) := by rw [Int.zero_add]; exact w64 (by omega) (by omega)
  have w2 : wrap64 ((a.length : Int) + (b.length : Int)) = (a.length : Int) + (b.length : Int) := w64 (by omega) (by omega)
  have g : slices_Grow_Lint_int.f ([] : List Int) ((a.length : Int) + (b.length : Int)) = some [] := by
    unfold slices_Grow_Lint_int.f
    rw [if_pos (show ([] : List Int).length = 0 from rfl), if_pos (by omega), if_pos (by omega)]
  have v1 : wrap64 (0 + 1) = 1 := by unfold wrap64; omega
  have v2 : wrap64 (1 + 1) = 2 := by unfold wrap64; omega
  have l0 : (0 : Int) < (([a, b] : List (List Int)).length : Int) := by show (0 : Int) < 2; decide
  have l1 : (1 : Int) < (([a, b] : List (List Int)).length : Int) := by show (1 : Int) < 2; decide
  show Ev (fun k => slices_Concat_Lint_int.l0 k [a, b] 0 [a, b] 2 0) (a ++ b)
  refine Ev.step (fun k => by rw [slices_Concat_Lint_int.l0]) (Ev.pos (by decide) (Ev.pos (by decide) (Ev.pos l0 ?_)))
  rw [e0, w1, v1]
  refine Ev.neg (by omega) (Ev.step (fun k => by rw [slices_Concat_Lint_int.l0]) (Ev.pos (by decide) (Ev.pos (by decide) (Ev.pos l1 ?_))))
  rw [e1, w2, v2]
  refine Ev.neg (by omega) (Ev.step (fun k => by rw [slices_Concat_Lint_int.l0]) (Ev.neg (by decide) (Ev.cbind g ?_)))
  show Ev (fun k => slices_Concat_Lint_int.l1 k [] [a, b] 2 0) (a ++ b)
  refine Ev.step (fun k => by rw [slices_Concat_Lint_int.l1]) (Ev.pos (by decide) (Ev.pos (by decide) (Ev.pos l0 ?_)))
  rw [e0, v1]
  refine Ev.pos (by show 0 + a.length < _; omega) (Ev.step (fun k => by rw [slices_Concat_Lint_int.l1]) (Ev.pos (by decide) (Ev.pos (by decide) (Ev.pos l1 ?_))))
  rw [e1, v2, List.nil_append]
  exact Ev.pos (by omega) (Ev.step (fun k => by rw [slices_Concat_Lint_int.l1]) (Ev.neg (by decide) (Ev.now _)))
theorem cell_eq (x : Int) : impl_isCell.f x = some (cellB x) := by simp only [impl_isCell.f, in_impl, Option.bind_some]; rfl
theorem okG_parts {l : List G} {j : Nat} (h : okG l j = true) : goodRow (rdG l (j : Int)).f0.f0 = true ∧ ((rdG l (j : Int)).f0.f0.length : Int) = ((rdG l 0).f0.f0.length : Int) ∧ (j = 0 ∨ cmpL (rdG l ((j : Int) - 1)).f0.f0 (rdG l (j : Int)).f0.f0 < 0) := by
  unfold okG at h
  simp only [Bool.and_eq_true, Bool.or_eq_true, decide_eq_true_eq] at h
  exact ⟨h.1, h.2.1, h.2.2.2.2.2⟩
theorem okAt_iff {c : Int} {l : List W} {j : Nat} : okAt c l j = true ↔ goodRow (rd_T47 l (j : Int)).f0.f0 = true ∧ ((rd_T47 l (j : Int)).f0.f0.length : Int) = c ∧ (-1000000 ≤ (rd_T47 l (j : Int)).f1 ∧ (rd_T47 l (j : Int)).f1 ≤ 1000000) ∧ ¬ (rd_T47 l (j : Int)).f1 = 0 ∧ (j = 0 ∨ cmpL (rd_T47 l ((j : Int) - 1)).f0.f0 (rd_T47 l (j : Int)).f0.f0 < 0) := by
  unfold okAt
  simp only [Bool.and_eq_true, Bool.or_eq_true, decide_eq_true_eq, Bool.not_eq_true', decide_eq_false_iff_not]
theorem goodRow_app (k : List Int) (a b : Int) : goodRow (k ++ [a, b]) = true ↔ k.length + 2 ≤ 6 ∧ k.all cellB = true ∧ cellB a = true ∧ cellB b = true := by
  unfold goodRow
  simp only [Bool.and_eq_true, decide_eq_true_eq, List.all_append, List.length_append, List.all_cons, List.all_nil, Bool.and_true, List.length_cons, List.length_nil]
theorem cmp_app (x y : List Int) : ∀ (k1 k2 : List Int), k1.length = k2.length → cmpL k1 k2 < 0 → cmpL (k1 ++ x) (k2 ++ y) < 0
  | [], [], _, h => absurd h (by simp [cmpL])
  | [], _ :: _, h, _ => by cases h
  | _ :: _, [], h, _ => by cases h
  | a :: k1, b :: k2, hl, h => by
    have hl2 : k1.length = k2.length := by simpa using hl
    rw [List.cons_append, List.cons_append]
    unfold cmpL at h ⊢
    by_cases h1 : a < b
    · rw [if_pos h1]; decide
    · rw [if_neg h1] at h ⊢
      by_cases h2 : a > b
      · rw [if_pos h2] at h; omega
      · rw [if_neg h2] at h ⊢
        exact cmp_app x y k1 k2 hl2 h
/-- All counts and sums are cells. -/
def cellsB (l : List G) : Bool := l.all fun g => cellB g.f1 && cellB g.f2
theorem rdw_map {l : List G} {j : Nat} (h : j < l.length) : rd_T47 (l.map conv) (j : Int) = conv l[j] := by
  simp [rd_T47, h]
def colsOf (l : List G) (m : Nat) : Int := if l.length = 0 then 0 else (m : Int) + 2
theorem good_tab (l : List G) (m : Nat) (hg : goodGroups l = true) (hm : m ≤ 4) (hk : 0 < l.length → (rdG l 0).f0.f0.length = m) : goodTable (colsOf l m) (l.map conv) = cellsB l := by
  unfold goodGroups at hg
  rw [Bool.and_eq_true, List.all_eq_true, decide_eq_true_eq] at hg
  obtain ⟨ho, hn⟩ := hg
  have ok : ∀ j, j < l.length → okG l j = true := fun j hj => ho j (by rw [List.mem_range']; exact ⟨j, hj, by omega⟩)
  have hc : 0 ≤ colsOf l m ∧ colsOf l m ≤ 6 := by unfold colsOf; split <;> omega
  unfold goodTable
  rw [decide_eq_true hc, Bool.true_and, List.length_map, decide_eq_true hn, Bool.true_and, Bool.eq_iff_iff, List.all_eq_true]
  unfold cellsB
  rw [List.all_eq_true]
  constructor
  · intro h g hgl
    obtain ⟨j, hj, rfl⟩ := List.mem_iff_getElem.1 hgl
    have h1 := okAt_iff.1 (h j (by rw [List.mem_range']; exact ⟨j, hj, by omega⟩))
    rw [rdw_map hj] at h1
    have h2 := (goodRow_app _ _ _).1 h1.1
    rw [Bool.and_eq_true]
    exact ⟨h2.2.2.1, h2.2.2.2⟩
  · intro h j hj
    rw [List.mem_range'] at hj
    obtain ⟨j, hj, rfl⟩ := hj
    rw [Nat.zero_add, Nat.one_mul]
    obtain ⟨g1, g2, g3⟩ := okG_parts (ok j hj)
    rw [rdg_lt hj] at g1 g2 g3
    have h0 : 0 < l.length := by omega
    have hlen : l[j].f0.f0.length = m := by have := hk h0; omega
    have hcell := h _ (List.getElem_mem hj)
    rw [Bool.and_eq_true] at hcell
    unfold goodRow at g1
    rw [Bool.and_eq_true, decide_eq_true_eq] at g1
    refine okAt_iff.2 ?_
    rw [rdw_map hj]
    refine ⟨(goodRow_app _ _ _).2 ⟨by omega, g1.2, hcell.1, hcell.2⟩, ?_, ?_, ?_, ?_⟩
    · show ((l[j].f0.f0 ++ [l[j].f1, l[j].f2]).length : Int) = _
      rw [List.length_append, hlen]
      unfold colsOf
      rw [if_neg (by omega)]
      rfl
    · show (-1000000 : Int) ≤ 1 ∧ (1 : Int) ≤ 1000000
      decide
    · show ¬ (1 : Int) = 0
      decide
    · rcases g3 with g3 | g3
      · exact .inl g3
      · by_cases hz : j = 0
        · exact .inl hz
        · right
          have hj1 : j - 1 < l.length := by omega
          have e : (j : Int) - 1 = ((j - 1 : Nat) : Int) := by omega
          rw [e, rdg_lt hj1] at g3
          rw [e, rdw_map hj1]
          have hl1 : l[j - 1].f0.f0.length = m := by
            have := (okG_parts (ok (j - 1) hj1)).2.1
            rw [rdg_lt hj1] at this
            have := hk h0
            omega
          exact cmp_app _ _ _ _ (by omega) g3
theorem rows_short (l : List G) (hk : ∀ g ∈ l, g.f0.f0.length ≤ 6) (i : Int) : (rd_T47 (l.map conv) i).f0.f0.length ≤ 1048576 :=
  rd_rows _ 1048576 (fun x hx => by
    obtain ⟨g, hg, rfl⟩ := List.mem_map.1 hx
    have := hk g hg
    show (g.f0.f0 ++ [g.f1, g.f2]).length ≤ _
    rw [List.length_append]
    show g.f0.f0.length + 2 ≤ _
    omega) i
theorem spec_l (l : List G) (m : Nat) (hn : l.length ≤ 60) (hk : ∀ g ∈ l, g.f0.f0.length = m) (hm : m ≤ 6) (d : Nat) : ∀ (i : Nat), i + d = l.length →
    Ev (fun k => spec_GroupsAsTable.l0 k l (l.length : Int) (i : Int) (if i = 0 then 0 else (m : Int) + 2) ((l.take i).map conv)) (if goodTable (colsOf l m) (l.map conv) = true then (colsOf l m, l.map conv, true) else (0, [], false)) := by
  induction d with
  | zero =>
    intro i hi
    obtain rfl : i = l.length := by omega
    rw [List.take_length]
    have ht := table_spec (colsOf l m) (l.map conv) (by rw [List.length_map]; omega) (rows_short l (fun g hg => by have := hk g hg; omega))
    show Ev (fun k => spec_GroupsAsTable.l0 k l (l.length : Int) (l.length : Int) (colsOf l m) (l.map conv)) _
    refine Ev.step (fun k => by rw [spec_GroupsAsTable.l0]) (Ev.neg (by omega) (Ev.bind ht ?_))
    exact Ev.ite (fun _ => Ev.now _) (fun _ => Ev.now _)
  | succ d ih =>
    intro i hi
    have hlt : i < l.length := by omega
    have hki := hk _ (List.getElem_mem hlt)
    have hh := ih (i + 1) (by omega)
    rw [take_snoc hlt, List.map_append, if_neg (by omega : ¬ i + 1 = 0)] at hh
    refine Ev.step (fun k => by rw [spec_GroupsAsTable.l0]) (Ev.pos (by omega) (Ev.pos (by omega) (Ev.pos (by omega) (Ev.cbind rfl ?_))))
    have e : rd_T45 l (i : Int) = l[i] := rdg_lt hlt
    rw [e]
    refine Ev.pos (by show 0 + _ < _; omega) (Ev.cbind rfl (Ev.cbind rfl (Ev.pos ?_ (Ev.cbind rfl (Ev.pos ?_ ?_)))))
    · show ([] ++ l[i].f0.f0).length + 2 < _
      rw [List.nil_append]; omega
    · rw [List.length_map, List.length_take]; omega
    · rw [List.nil_append, w64 (x := (i : Int) + 1) (by omega) (by omega)]
      have e2 : (((l[i].f0.f0 ++ [l[i].f1, l[i].f2]).length : Nat) : Int) = (m : Int) + 2 := by rw [List.length_append, hki]; rfl
      rw [e2]
      exact hh
theorem impl_l (l : List G) (m : Nat) (hn : l.length ≤ 60) (hk : ∀ g ∈ l, g.f0.f0.length = m) (hm : m ≤ 4) (d : Nat) : ∀ (i : Nat), i + d = l.length →
    Ev (fun k => impl_GroupsAsTable.l0 k l (if i = 0 then 0 else (m : Int) + 2) ((l.take i).map conv) (i : Int)) (if cellsB (l.drop i) = true then (colsOf l m, l.map conv, true) else (0, [], false)) := by
  induction d with
  | zero =>
    intro i hi
    obtain rfl : i = l.length := by omega
    rw [List.take_length, List.drop_length]
    show Ev (fun k => impl_GroupsAsTable.l0 k l (colsOf l m) (l.map conv) (l.length : Int)) (colsOf l m, l.map conv, true)
    exact Ev.step (fun k => by rw [impl_GroupsAsTable.l0]) (Ev.neg (by omega) (Ev.now _))
  | succ d ih =>
    intro i hi
    have hlt : i < l.length := by omega
    have hki := hk _ (List.getElem_mem hlt)
    have hh := ih (i + 1) (by omega)
    rw [take_snoc hlt, List.map_append, if_neg (by omega : ¬ i + 1 = 0)] at hh
    have e : rd_T45 l (i : Int) = l[i] := rdg_lt hlt
    have hd : cellsB (l.drop i) = (cellB l[i].f1 && cellB l[i].f2 && cellsB (l.drop (i + 1))) := by unfold cellsB; rw [drop_cons hlt, List.all_cons]
    have k0 : (rdG l 0).f0.f0.length = m := by rw [show (0 : Int) = ((0 : Nat) : Int) from rfl, rdg_lt (by omega : 0 < l.length)]; exact hk _ (List.getElem_mem _)
    rw [hd]
    refine Ev.step (fun k => by rw [impl_GroupsAsTable.l0]) (Ev.pos (by omega) (Ev.pos (by omega) ?_))
    rw [e]
    refine Ev.cbind (cell_eq _) ?_
    by_cases c1 : cellB l[i].f1 = true
    case neg => rw [Bool.eq_false_iff.mpr c1, Bool.false_and, Bool.false_and]; exact Ev.neg (by decide) (Ev.now _)
    refine Ev.pos c1 (Ev.cbind (cell_eq _) ?_)
    by_cases c2 : cellB l[i].f2 = true
    case neg => rw [Bool.eq_false_iff.mpr c2, Bool.and_false, Bool.false_and]; exact Ev.neg (by decide) (Ev.now _)
    refine Ev.pos c2 (Ev.cbind (keyLength_eq (by omega)) (Ev.bind (concat_ev l[i].f0.f0 [l[i].f1, l[i].f2] (by omega) (by show 2 ≤ 6; decide)) (Ev.pos ?_ ?_)))
    · rw [List.length_map, List.length_take]; omega
    · rw [c1, c2, Bool.true_and, Bool.true_and, k0, w64 (x := (i : Int) + 1) (by omega) (by omega), w64 (x := (m : Int) + 2) (by omega) (by omega)]
      exact hh
theorem core : Core := fun x0 h0 => by
  have k0 : x0.length + (x0.map fun y => y.f0.f0.length).sum ≤ 1048576 := h0
  have hr := rd_keys x0 1048576 (fun y hy => by have := sum_mem (fun y : S45 => y.f0.f0.length) x0 y hy; omega)
  have gs := groups_spec x0 (by omega) hr
  have gi := groups_impl x0 (by omega) hr
  by_cases hg : goodGroups x0 = true
  case neg =>
    refine ⟨(0, [], false), Ev.bind gs (Ev.neg hg (Ev.now _)), Ev.bind gi (Ev.neg hg (Ev.now _)), ?_⟩
    show 0 + _ ≤ _
    simp
  have hg2 := hg
  unfold goodGroups at hg2
  rw [Bool.and_eq_true, List.all_eq_true, decide_eq_true_eq] at hg2
  obtain ⟨ho, hn⟩ := hg2
  have ok : ∀ j, j < x0.length → okG x0 j = true := fun j hj => ho j (by rw [List.mem_range']; exact ⟨j, hj, by omega⟩)
  by_cases hz : x0.length = 0
  · obtain rfl : x0 = [] := List.eq_nil_of_length_eq_zero hz
    have hs := spec_l [] 0 (by decide) (fun g hg => by cases hg) (by decide) 0 0 rfl
    have hi := impl_l [] 0 (by decide) (fun g hg => by cases hg) (by decide) 0 0 rfl
    refine ⟨(0, [], true), Ev.bind gs (Ev.pos hg ?_), Ev.bind gi (Ev.pos hg (Ev.cbind rfl (Ev.neg (by decide) ?_))), ?_⟩
    · exact Ev.eq hs rfl
    · exact Ev.eq hi rfl
    · show 0 + _ ≤ _
      simp
  have h0 : 0 < x0.length := by omega
  obtain ⟨m, hm⟩ : ∃ m, (rdG x0 0).f0.f0.length = m := ⟨_, rfl⟩
  have hk : ∀ g ∈ x0, g.f0.f0.length = m := fun g hgm => by
    obtain ⟨j, hj, rfl⟩ := List.mem_iff_getElem.1 hgm
    have := (okG_parts (ok j hj)).2.1
    rw [rdg_lt hj] at this
    omega
  have hm6 : m ≤ 6 := by
    have := (okG_parts (ok 0 h0)).1
    unfold goodRow at this
    rw [Bool.and_eq_true, decide_eq_true_eq] at this
    have h2 : (rdG x0 ((0 : Nat) : Int)).f0.f0.length = m := hm
    omega
  have hs := spec_l x0 m hn hk hm6 x0.length 0 (by omega)
  have kl : impl_keyLength.f x0 = some (m : Int) := by rw [keyLength_eq h0, hm]
  by_cases c4 : m ≤ 4
  · have hi := impl_l x0 m hn hk c4 x0.length 0 (by omega)
    rw [good_tab x0 m hg c4 (fun _ => hm)] at hs
    rw [List.drop_zero] at hi
    refine ⟨_, Ev.bind gs (Ev.pos hg hs), Ev.bind gi (Ev.pos hg (Ev.cbind kl (Ev.neg (by omega) hi))), ?_⟩
    by_cases c : cellsB x0 = true
    · rw [if_pos c]
      show (x0.map conv).length + ((x0.map conv).map fun y => y.f0.f0.length).sum ≤ 1099511627776
      have : ((x0.map conv).map fun y : W => y.f0.f0.length).sum ≤ 6 * (x0.map conv).length := by
        have key : ∀ (l : List W), (∀ y ∈ l, y.f0.f0.length ≤ 6) → (l.map fun y : W => y.f0.f0.length).sum ≤ 6 * l.length := by
          intro l
          induction l with
          | nil => intro _; simp
          | cons y ys ih =>
            intro h
            have h1 := h y List.mem_cons_self
            have h2 := ih (fun z hz => h z (List.mem_cons_of_mem _ hz))
            rw [List.map_cons, List.sum_cons, List.length_cons]
            omega
        refine key _ (fun y hy => ?_)
        obtain ⟨g, hgm, rfl⟩ := List.mem_map.1 hy
        show (g.f0.f0 ++ [g.f1, g.f2]).length ≤ 6
        rw [List.length_append, hk g hgm]
        show m + 2 ≤ 6
        omega
      rw [List.length_map] at this ⊢
      omega
    · rw [if_neg c]
      show 0 + _ ≤ _
      simp
  · have hf : goodTable (colsOf x0 m) (x0.map conv) = false := by
      unfold goodTable
      rw [decide_eq_false (by unfold colsOf; rw [if_neg (by omega)]; omega), Bool.false_and]
    rw [hf, if_neg (show ¬ (false = true) by decide)] at hs
    refine ⟨(0, [], false), Ev.bind gs (Ev.pos hg hs), Ev.bind gi (Ev.pos hg (Ev.cbind kl (Ev.pos (by omega) (Ev.now _)))), ?_⟩
    show 0 + _ ≤ _
    simp
theorem FnExactGroupsAsTable : laws_FnExactGroupsAsTable.Pure := law core

end Go.Proofs.Ytaddemalepndfaa.Pure
