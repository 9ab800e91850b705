/- Maps of places: they are equal where they give the same place for each. No conditions. -/
import Derived.Test.YtmelechhnimlnabXP
namespace Go.Proofs.Ytmelechhnimlnab.Pure
open Go.RowKit Go.Maps Go.Proofs.Ytmelechhnimlnab.X
set_option linter.unusedVariables false

def keysWf (ms : List (Pl × Pl)) : Prop := ∀ q ∈ ms, wfP q.1 = true
theorem mapP_is : ∀ ms, IsMap (mapP ms)
  | [] => isMap_empty
  | q :: ms => (mapP_is ms).put _ _
theorem mapP_tidy : ∀ ms, Tidy (mapP ms)
  | [] => tidy_empty
  | q :: ms => (mapP_tidy ms).put (klP_key q.1) _
theorem mapP_at : ∀ (ms : List (Pl × Pl)), keysWf ms → ∀ p, wfP p = true → Maps.has (mapP ms) (klP p) = (pget ms p).isSome ∧ ∀ z, (mapP ms).atKey (klP p) z = match pget ms p with
    | some v => deP v
    | none => z
  | [], _, p, _ => ⟨rfl, fun z => rfl⟩
  | q :: ms, hw, p, hp => by
    obtain ⟨h1, h2⟩ := mapP_at ms (fun x hx => hw x (List.mem_cons_of_mem _ hx)) p hp
    have hq := hw q List.mem_cons_self
    by_cases c : q.1 = p
    · subst c
      refine ⟨?_, fun z => ?_⟩
      · show Maps.has ((mapP ms).put (klP q.1) (deP q.2)) (klP q.1) = _
        rw [has_put_same (mapP_is ms) (klP_key q.1), pget, if_pos rfl]
        rfl
      · show ((mapP ms).put (klP q.1) (deP q.2)).atKey (klP q.1) z = _
        rw [atKey_put_same (mapP_is ms) (klP_key q.1), pget, if_pos rfl]
    · have hne : klP p ≠ klP q.1 := fun e => c (klP_inj hq hp e.symm)
      refine ⟨?_, fun z => ?_⟩
      · show Maps.has ((mapP ms).put (klP q.1) (deP q.2)) (klP p) = _
        rw [has_put_other hne, h1, pget, if_neg c]
      · show ((mapP ms).put (klP q.1) (deP q.2)).atKey (klP p) z = _
        rw [atKey_put_other hne, h2, pget, if_neg c]
theorem mapP_keys : ∀ (ms : List (Pl × Pl)), keysWf ms → ∀ k, Maps.has (mapP ms) k = true → ∃ p, wfP p = true ∧ k = klP p
  | [], _, k, h => by cases h
  | q :: ms, hw, k, h => by
    by_cases c : k = klP q.1
    · exact ⟨q.1, hw q List.mem_cons_self, c⟩
    · have h' : Maps.has ((mapP ms).put (klP q.1) (deP q.2)) k = true := h
      rw [has_put_other c] at h'
      exact mapP_keys ms (fun x hx => hw x (List.mem_cons_of_mem _ hx)) k h'
theorem pget_wf : ∀ (ms : List (Pl × Pl)), keysWf ms → ∀ p v, pget ms p = some v → wfP p = true
  | [], _, p, v, h => by cases h
  | q :: ms, hw, p, v, h => by
    by_cases c : q.1 = p
    · rw [← c]; exact hw q List.mem_cons_self
    · rw [pget, if_neg c] at h
      exact pget_wf ms (fun x hx => hw x (List.mem_cons_of_mem _ hx)) p v h
theorem mapP_lit : ∀ (ms : List (Pl × Pl)) (es : List (Lit × DataW Unit)), mapP ms = .map es → ∀ k d, (k, d) ∈ es → WideAt.IsKeyLit k
  | [], es, he, k, d, h => by
    have : es = [] := by
      have e2 : (DataW.map [] : DataW Unit) = .map es := he
      injection e2 with e2
      exact e2.symm
    rw [this] at h
    cases h
  | q :: ms, es, he, k, d, h => by
    obtain ⟨e0, h0⟩ := mapP_is ms
    have e2 : (mapP ms).put (klP q.1) (deP q.2) = .map es := he
    rw [h0, DataW.put_eq] at e2
    injection e2 with e2
    rw [← e2] at h
    unfold ChangeMaps.putKey at h
    rcases ChangeMaps.mem_insert_iff.1 h with h | h
    · injection h with h _
      rw [h]
      exact klP_key _
    · exact mapP_lit ms e0 h0 k d (List.mem_filter.1 h).1
theorem has_mem {es : List (Lit × DataW Unit)} {k : Lit} (h : Maps.has (.map es) k = true) : ∃ d, (k, d) ∈ es := by
  obtain ⟨p, hp, hs⟩ := List.any_eq_true.1 h
  have := WideAt.sameKey_eq hs
  exact ⟨p.2, by rw [← this]; exact hp⟩
theorem mem_has {es : List (Lit × DataW Unit)} {k : Lit} {d : DataW Unit} (hk : WideAt.IsKeyLit k) (h : (k, d) ∈ es) : Maps.has (.map es) k = true := List.any_eq_true.2 ⟨_, h, WideAt.sameKey_self hk⟩
/-- The entries of such a map. -/
theorem mapP_es (ms : List (Pl × Pl)) (hw : keysWf ms) : ∃ es, mapP ms = .map es ∧ (es.map (·.1)).Nodup ∧ (∀ k d, (k, d) ∈ es → ∃ p v, k = klP p ∧ d = deP v ∧ pget ms p = some v) ∧ ∀ p v, pget ms p = some v → (klP p, deP v) ∈ es := by
  obtain ⟨es, he, hap⟩ := mapP_tidy ms
  have hin : ∀ k d, (k, d) ∈ es → ∃ p v, k = klP p ∧ d = deP v ∧ pget ms p = some v := fun k d hm => by
    have hh : Maps.has (.map es) k = true := mem_has (mapP_lit ms es he k d hm) hm
    obtain ⟨p, hp, rfl⟩ := mapP_keys ms hw _ (by rw [he]; exact hh)
    obtain ⟨h1, h2⟩ := mapP_at ms hw p hp
    have h3 := WideAt.atKey_mem .nil (klP_key p) hap hm
    rw [he] at h1 h2
    have h4 : (pget ms p).isSome = true := by rw [← h1]; exact hh
    obtain ⟨v, hv⟩ := Option.isSome_iff_exists.1 h4
    refine ⟨p, v, rfl, ?_, hv⟩
    have h5 := h2 .nil
    rw [hv, h3] at h5
    exact h5
  refine ⟨es, he, List.pairwise_map.2 hap, hin, fun p v hv => ?_⟩
  have hp := pget_wf ms hw p v hv
  obtain ⟨h1, h2⟩ := mapP_at ms hw p hp
  rw [he, hv] at h1
  obtain ⟨d, hd⟩ := has_mem h1
  have h3 := WideAt.atKey_mem .nil (klP_key p) hap hd
  rw [he, hv] at h2
  have h4 : deP v = d := (h2 .nil).symm.trans h3
  rw [h4]
  exact hd
theorem eqM_iff (a b : List (Pl × Pl)) (ha : keysWf a) (hb : keysWf b) : eqM a b = true ↔ ∀ p, pget a p = pget b p := by
  obtain ⟨ea, hea, na, ia, oa⟩ := mapP_es a ha
  obtain ⟨eb, heb, nb, ib, ob⟩ := mapP_es b hb
  have kin : ∀ (e : List (Lit × DataW Unit)) (k : Lit), k ∈ e.map (·.1) ↔ ∃ d, (k, d) ∈ e := fun e k => by
    rw [List.mem_map]
    exact ⟨fun ⟨q, h1, h2⟩ => ⟨q.2, by rw [← h2]; exact h1⟩, fun ⟨d, h⟩ => ⟨_, h, rfl⟩⟩
  have good : ∀ p v, wfP p = true → (Lib.goodD eqP (mapP b) (klP p, deP v) = true ↔ pget b p = some v) := fun p v hp => by
    obtain ⟨h1, h2⟩ := mapP_at b hb p hp
    unfold Lib.goodD
    rw [h1, h2 .nil]
    cases hv : pget b p with
    | none => simp
    | some u =>
      show (true && eqP (deP v) (deP u)) = true ↔ _
      rw [Bool.true_and, eqP_iff]
      exact ⟨fun e => by rw [e], fun e => (Option.some.inj e).symm⟩
  have hdef : eqM a b = (decide (ea.length = eb.length) && ea.all (Lib.goodD eqP (mapP b))) := by
    unfold eqM Lib.equalFuncD
    rw [hea]
    show (decide (Maps.size (.map ea : DataW Unit) = Maps.size (mapP b)) && ea.all (Lib.goodD eqP (mapP b))) = _
    rw [show Maps.size (mapP b) = eb.length by rw [heb]; rfl]
    rfl
  rw [hdef, Bool.and_eq_true, decide_eq_true_eq, List.all_eq_true]
  have wfa : ∀ p v, pget a p = some v → wfP p = true := fun p v => pget_wf a ha p v
  have wfb : ∀ p v, pget b p = some v → wfP p = true := fun p v => pget_wf b hb p v
  constructor
  · rintro ⟨hs, hall⟩ p
    have sub : ∀ p v, pget a p = some v → pget b p = some v := fun p v hv => (good p v (wfa p v hv)).1 (hall _ (oa p v hv))
    cases hpa : pget a p with
    | some v => exact (sub p v hpa).symm
    | none =>
      cases hpb : pget b p with
      | none => rfl
      | some v =>
        exfalso
        have h1 : klP p ∉ ea.map (·.1) := fun h => by
          obtain ⟨d, hd⟩ := (kin _ _).1 h
          obtain ⟨p', v', e1, _, e3⟩ := ia _ _ hd
          have := klP_inj (wfb p v hpb) (wfa p' v' e3) e1
          rw [this, e3] at hpa
          cases hpa
        have h2 : (klP p :: ea.map (·.1)) ⊆ eb.map (·.1) := by
          intro k hk
          rcases List.mem_cons.1 hk with rfl | hk
          · exact (kin _ _).2 ⟨_, ob p v hpb⟩
          · obtain ⟨d, hd⟩ := (kin _ _).1 hk
            obtain ⟨p', v', e1, _, e3⟩ := ia _ _ hd
            rw [e1]
            exact (kin _ _).2 ⟨_, ob p' v' (sub p' v' e3)⟩
        have h3 := List.Nodup.length_le_of_subset (List.nodup_cons.2 ⟨h1, na⟩) h2
        simp only [List.length_cons, List.length_map] at h3
        omega
  · intro h
    have s1 : ea.map (·.1) ⊆ eb.map (·.1) := fun k hk => by
      obtain ⟨d, hd⟩ := (kin _ _).1 hk
      obtain ⟨p', v', e1, _, e3⟩ := ia _ _ hd
      rw [e1]
      exact (kin _ _).2 ⟨_, ob p' v' (by rw [← h]; exact e3)⟩
    have s2 : eb.map (·.1) ⊆ ea.map (·.1) := fun k hk => by
      obtain ⟨d, hd⟩ := (kin _ _).1 hk
      obtain ⟨p', v', e1, _, e3⟩ := ib _ _ hd
      rw [e1]
      exact (kin _ _).2 ⟨_, oa p' v' (by rw [h]; exact e3)⟩
    have l1 := List.Nodup.length_le_of_subset na s1
    have l2 := List.Nodup.length_le_of_subset nb s2
    simp only [List.length_map] at l1 l2
    refine ⟨by omega, fun q hq => ?_⟩
    obtain ⟨k, d⟩ := q
    obtain ⟨p, v, rfl, rfl, e3⟩ := ia _ _ hq
    exact (good p v (wfa p v e3)).2 (by rw [← h]; exact e3)

end Go.Proofs.Ytmelechhnimlnab.Pure
