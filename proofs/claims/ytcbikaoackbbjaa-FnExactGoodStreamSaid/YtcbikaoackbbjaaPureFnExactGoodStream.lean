/- The plain law of GoodStream: both functions answer alike. No conditions. -/
import Derived.Test.YtcbikaoackbbjaaHFnExactGoodStream
import Derived.Test.YtcbikaoackbbjaaQTable
import Derived.Test.YtcbikaoackbbjaaG46
import Derived.Test.YtcbikaoackbbjaaG47
namespace Go.Proofs.Ytcbikaoackbbjaa.Pure
open Go.RowKit Go.Proofs.Ytcbikaoackbbjaa.G Go.Proofs.Ytcbikaoackbbjaa.X Go.Proofs.YtcbikaoackbbjaaW.PrintWords Go.Proofs.Ytcbikaoackbbjaa.HFnExactGoodStream
set_option linter.unusedVariables false

def streamB (c : Int) (t : S41) : Bool := goodTable t.f0 t.f1 && decide (t.f0 = c)
def shortT (t : S41) : Prop := t.f1.length ≤ 1048576 ∧ ∀ i : Int, (rd_T126 t.f1 i).f0.f0.length ≤ 1048576
theorem stream_spec (c : Int) (l : List S41) (hl : l.length ≤ 1048576) (hs : ∀ t ∈ l, shortT t) (d : Nat) : ∀ (i : Nat), i + d = l.length → Ev (fun k => spec_GoodStream.l0 k l (l.length : Int) (i : Int) c l) ((l.drop i).all (streamB c) && (decide (0 ≤ c ∧ c ≤ 6) && decide (l.length ≤ 12))) := by
  induction d with
  | zero =>
    intro i hi
    rw [List.drop_of_length_le (by omega)]
    refine Ev.step (fun k => by rw [spec_GoodStream.l0]) (Ev.neg (by omega) (Ev.cbind (in_spec _ _ _) ?_))
    by_cases h : 0 ≤ c ∧ c ≤ 6
    · exact Ev.pos (by simpa using h) (Ev.eq (Ev.now _) (by simp [h]; omega))
    · exact Ev.neg (by simpa using h) (Ev.eq (Ev.now _) (by simp [h]))
  | succ d ih =>
    intro i hi
    have hlt : i < l.length := by omega
    rw [drop_cons hlt, List.all_cons]
    refine Ev.step (fun k => by rw [spec_GoodStream.l0]) (Ev.pos (by omega) (Ev.pos (by omega) (Ev.pos (by omega) ?_)))
    rw [w64 (x := (i : Int) + 1) (by omega) (by omega), rd_T41_lt hlt]
    obtain ⟨s1, s2⟩ := hs _ (List.getElem_mem hlt)
    refine Ev.bind (table_spec _ _ s1 s2) ?_
    by_cases h : goodTable l[i].f0 l[i].f1 = true
    · refine Ev.pos h ?_
      by_cases h2 : l[i].f0 = c
      · exact Ev.pos h2 (Ev.eq (ih (i + 1) (by omega)) (by rw [show streamB c l[i] = true by unfold streamB; rw [h, decide_eq_true h2]; rfl]; rfl))
      · exact Ev.neg h2 (Ev.eq (Ev.now _) (by rw [show streamB c l[i] = false by unfold streamB; rw [h, decide_eq_false h2]; rfl]; rfl))
    · exact Ev.neg h (Ev.eq (Ev.now _) (by rw [show streamB c l[i] = false by unfold streamB; rw [Bool.eq_false_iff.mpr h]; rfl]; rfl))

theorem FnExactGoodStream : laws_FnExactGoodStream.Pure := law fun x0 h0 => by
  have k0 : x0.f1.length + (x0.f1.map fun t => t.f1.length + (t.f1.map fun y => y.f0.f0.length).sum).sum ≤ 1048576 := h0
  have hs : ∀ t ∈ x0.f1, shortT t := fun t ht => by
    have h1 := sum_mem (fun t : S41 => t.f1.length + (t.f1.map fun y => y.f0.f0.length).sum) x0.f1 t ht
    refine ⟨by omega, rd_rows t.f1 1048576 (fun y hy => by have := sum_mem (fun y : S126 => y.f0.f0.length) t.f1 y hy; omega)⟩
  refine ⟨decide (0 ≤ x0.f0 ∧ x0.f0 ≤ 6) && (decide (x0.f1.length ≤ 12) && x0.f1.all (streamB x0.f0)), ?_, ?_⟩
  · unfold spec_GoodStream.f
    refine Ev.eq (stream_spec x0.f0 x0.f1 (by omega) hs x0.f1.length 0 (by omega)) ?_
    rw [List.drop_zero, Bool.and_comm, Bool.and_assoc]
  · unfold impl_GoodStream.f impl_isColumns.f impl_areAll_impl_Table__impl_GoodStream_1.f
    refine Ev.cbind (by rw [in_impl, Option.bind_some]) ?_
    by_cases h : 0 ≤ x0.f0 ∧ x0.f0 ≤ 6
    · refine Ev.pos (by simpa using h) ?_
      by_cases h2 : x0.f1.length ≤ 12
      · refine Ev.pos (by omega) (Ev.bind (allO_ev (p := streamB x0.f0) _ (fun t ht => ?_)) (Ev.eq (Ev.now _) (by simp [h, h2])))
        unfold impl_GoodStream_1.f streamB
        obtain ⟨s1, s2⟩ := hs t ht
        refine Ev.bind (table_impl _ _ s1 s2) ?_
        cases goodTable t.f0 t.f1
        · exact Ev.neg (by simp) (Ev.now _)
        · exact Ev.pos rfl (Ev.eq (Ev.now _) (by by_cases h3 : t.f0 = x0.f0 <;> simp [h3]))
      · exact Ev.neg (by omega) (Ev.eq (Ev.now _) (by simp [h2]))
    · exact Ev.neg (by simpa using h) (Ev.eq (Ev.now _) (by simp [h]))

end Go.Proofs.Ytcbikaoackbbjaa.Pure
