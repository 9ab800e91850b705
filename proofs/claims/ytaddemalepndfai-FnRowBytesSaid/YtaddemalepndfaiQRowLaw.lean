/- What FnRowBytes asks, told of rows of at most seven cells. No conditions. -/
import Derived.Test.YtaddemalepndfaiG4
import Derived.Test.YtaddemalepndfaiG3
import Derived.Test.YtaddemalepndfaiG5
import Derived.Test.YtaddemalepndfaiQCmp
import Derived.Test.YtaddemalepndfaiQBytes
namespace Go.Proofs.Ytaddemalepndfai.Pure
open Go.RowKit Go.Proofs.Ytaddemalepndfai.G Go.Proofs.Ytaddemalepndfai.X Go.Proofs.YtaddemalepndfaiW.PrintWords Go.Proofs.YtaddemalepndfaiW.PrintLast
set_option linter.unusedVariables false
set_option linter.unusedSimpArgs false

def cmpV (a b : List Int) : Int × Bool := if goodRow a = true then (if goodRow b = true then (cmpL a b, true) else (0, false)) else (0, false)
theorem compare_spec (a b : List Int) (ha : a.length ≤ 1048576) (hb : b.length ≤ 1048576) : Ev (fun k => spec_CompareRows.f k a b) (cmpV a b) := by
  unfold spec_CompareRows.f cmpV
  exact Ev.bind (goodRow_spec _ (by omega)) (Ev.ite (fun _ => Ev.bind (goodRow_spec _ (by omega)) (Ev.ite (fun _ => Ev.bind (cmp_spec _ _ (by omega)) (Ev.now _)) (fun _ => Ev.now _))) (fun _ => Ev.now _))
theorem compare_impl (a b : List Int) (ha : a.length ≤ 1048576) (hb : b.length ≤ 1048576) : Ev (fun k => impl_CompareRows.f k a b) (cmpV a b) := by
  unfold impl_CompareRows.f cmpV
  exact Ev.cbind (goodRow_impl _) (Ev.ite (fun _ => Ev.cbind (goodRow_impl _) (Ev.ite (fun _ => Ev.bind (cmp_impl _ _ (by omega)) (Ev.now _)) (fun _ => Ev.now _))) (fun _ => Ev.now _))
def bytesV (a : List Int) : ByteArray × Bool := if goodRow a = true then (strOfNums (rowNums a), true) else (⟨#[]⟩, false)
theorem specBytes_l : ∀ (k : Nat) (a b : List Int) (c d : Int), spec_RowBytes.l0 k a b c d = (impl_rowBytes.l0 k a b c d).map (fun s => (s, true))
  | 0, _, _, _, _ => rfl
  | k + 1, a, b, c, d => by
    simp only [spec_RowBytes.l0, impl_rowBytes.l0, specBytes_l k, Option.bind_some]
    repeat (split <;> try rfl)
theorem bytes_impl (a : List Int) (ha : a.length ≤ 1048576) : Ev (fun k => impl_RowBytes.f k a) (bytesV a) := by
  unfold impl_RowBytes.f bytesV
  exact Ev.cbind (goodRow_impl a) (Ev.ite (fun _ => Ev.bind (rowBytes_ev a ha) (Ev.now _)) (fun _ => Ev.now _))
theorem bytes_spec (a : List Int) (ha : a.length ≤ 1048576) : Ev (fun k => spec_RowBytes.f k a) (bytesV a) := by
  unfold spec_RowBytes.f bytesV
  refine Ev.bind (goodRow_spec a (by omega)) (Ev.ite (fun _ => ?_) (fun _ => Ev.now _))
  obtain ⟨K, hK⟩ := rowBytes_ev a ha
  refine ⟨K, fun k hk => ?_⟩
  have h1 : impl_rowBytes.f k a = _ := hK k hk
  unfold impl_rowBytes.f at h1
  show spec_RowBytes.l0 k _ _ _ _ = _
  rw [specBytes_l, h1]
  rfl
theorem same_l (a b : List Int) (hl : a.length = b.length) (hb : a.length ≤ 1048576) (d : Nat) : ∀ i : Nat, i + d = a.length →
    Ev (fun k => laws_sameInts.l0 k a b (a.length : Int) (i : Int)) (decide (a.drop i = b.drop i)) := by
  induction d with
  | zero =>
    intro i hi
    refine Ev.step (fun k => by rw [laws_sameInts.l0]) ?_
    refine Ev.neg (by omega) (Ev.eq (Ev.now _) ?_)
    rw [List.drop_eq_nil_of_le (by omega), List.drop_eq_nil_of_le (by omega)]
    rfl
  | succ d ih =>
    intro i hi
    have h1 : i < a.length := by omega
    have h2 : i < b.length := by omega
    refine Ev.step (fun k => by rw [laws_sameInts.l0]) ?_
    refine Ev.pos (by omega) ?_
    refine Ev.pos (by omega) ?_
    refine Ev.pos (by omega) ?_
    refine Ev.pos (by omega) ?_
    rw [rd_lt h1, rd_lt h2, w64 (x := (i : Int) + 1) (by omega) (by omega), drop_cons h1, drop_cons h2]
    by_cases c : a[i] = b[i]
    · exact Ev.pos c (Ev.eq (ih (i + 1) (by omega)) (decide_eq_decide.mpr ⟨fun h => by rw [c, h], fun h => (List.cons.inj h).2⟩))
    · exact Ev.neg c (Ev.eq (Ev.now _) (decide_eq_false (fun h => c (List.cons.inj h).1)).symm)
theorem same_ev (a b : List Int) (ha : a.length ≤ 1048576) : Ev (fun k => laws_sameRow.f k a b) (decide (a = b)) := by
  unfold laws_sameRow.f laws_sameInts.f
  by_cases c : a.length = b.length
  · refine Ev.bind (Ev.pos (by omega) ?_) (Ev.now _)
    have h := same_l a b c ha a.length 0 (by omega)
    rwa [List.drop_zero, List.drop_zero] at h
  · refine Ev.bind (Ev.neg (by omega) (Ev.now _)) (Ev.eq (Ev.now _) ?_)
    have : ¬ a = b := fun h => c (by rw [h])
    simp [this]
theorem cmpL_anti : ∀ a b : List Int, cmpL b a = -cmpL a b
  | [], [] => rfl
  | [], _ :: _ => rfl
  | _ :: _, [] => rfl
  | x :: xs, y :: ys => by
    unfold cmpL
    by_cases h1 : x < y
    · rw [if_neg (show ¬ y < x by omega), if_pos (show y > x from h1), if_pos h1]; rfl
    · by_cases h2 : x > y
      · rw [if_pos (show y < x from h2), if_neg h1, if_pos h2]
      · rw [if_neg (show ¬ y < x from h2), if_neg (show ¬ y > x from h1), if_neg h1, if_neg h2]
        exact cmpL_anti xs ys
theorem cmpL_zero : ∀ a b : List Int, (cmpL a b == 0) = decide (a = b)
  | [], [] => rfl
  | [], _ :: _ => by simp [cmpL]
  | _ :: _, [] => by simp [cmpL]
  | x :: xs, y :: ys => by
    unfold cmpL
    by_cases h1 : x < y
    · rw [if_pos h1]
      have : ¬ x = y := by omega
      simp [this]
    · by_cases h2 : x > y
      · rw [if_neg h1, if_pos h2]
        have : ¬ x = y := by omega
        simp [this]
      · rw [if_neg h1, if_neg h2, cmpL_zero xs ys]
        have : x = y := by omega
        simp [this]
theorem cmpL_small : ∀ a b : List Int, -1 ≤ cmpL a b ∧ cmpL a b ≤ 1
  | [], [] => by decide
  | [], _ :: _ => by unfold cmpL; omega
  | _ :: _, [] => by unfold cmpL; omega
  | x :: xs, y :: ys => by
    have h := cmpL_small xs ys
    unfold cmpL
    split
    · omega
    · split <;> omega

end Go.Proofs.Ytaddemalepndfai.Pure
