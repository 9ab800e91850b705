/- Runs: which write each read reads, and the last writes: what the loops compute. No conditions. -/
import Derived.Test.YtmelechhnimlnabQSteps
import Derived.Test.YtmelechhnimlnabG8
import Derived.Test.YtmelechhnimlnabG4
import Derived.Test.YtmelechhnimlnabG7
namespace Go.Proofs.Ytmelechhnimlnab.Pure
open Go.RowKit Go.Proofs.Ytmelechhnimlnab.G Go.Proofs.Ytmelechhnimlnab.X Go.Proofs.YtmelechhnimlnabW.PrintWords
set_option linter.unusedVariables false

abbrev rdS (l : List S32) (n : Nat) : S32 := rd_T32 l (n : Int)
/-- The last write of an item among the first n steps, -1 for none. -/
def lastW (l : List S32) (it : Int) : Nat → Int
  | 0 => -1
  | n + 1 => if (rdS l n).f1 = 2 ∧ (rdS l n).f2 = it then (n : Int) else lastW l it n
/-- The reads among the first n steps. -/
def srcF (l : List S32) : Nat → List S58
  | 0 => []
  | n + 1 => srcF l n ++ (if (rdS l n).f1 = 1 then [⟨(n : Int), lastW l (rdS l n).f2 n⟩] else [])
def lastL (l : List S32) (n : Nat) : List Int := [lastW l 0 n, lastW l 1 n, lastW l 2 n, lastW l 3 n]
theorem srcF_len (l : List S32) : ∀ n, (srcF l n).length ≤ n
  | 0 => by simp [srcF]
  | n + 1 => by
    have := srcF_len l n
    unfold srcF
    rw [List.length_append]
    split <;> simp <;> omega
theorem lastW_spec (l : List S32) (hl : l.length ≤ 1048576) (it : Int) : ∀ n : Nat, n ≤ l.length → Ev (fun k => spec_l13Last.l0 k l it ((n : Int) - 1)) (lastW l it n)
  | 0, _ => Ev.step (f := fun _ => some (-1)) (fun k => by simp only [spec_l13Last.l0]; rw [if_neg (by omega)]) (Ev.now _)
  | n + 1, hn => by
    have hlt : n < l.length := by omega
    have e : ((n + 1 : Nat) : Int) - 1 = (n : Int) := by omega
    have e1 : wrap64 ((n : Int) - 1) = (n : Int) - 1 := w64 (by omega) (by omega)
    rw [e]
    refine Ev.step (f := fun k => if (rdS l n).f1 = 2 then (if (rdS l n).f2 = it then some (n : Int) else spec_l13Last.l0 k l it ((n : Int) - 1)) else spec_l13Last.l0 k l it ((n : Int) - 1)) (fun k => ?_) ?_
    · simp only [spec_l13Last.l0]
      rw [if_pos (by omega), if_pos (by omega), if_pos (by omega), e1]
    · unfold lastW
      by_cases h1 : (rdS l n).f1 = 2
      · refine Ev.pos h1 ?_
        by_cases h2 : (rdS l n).f2 = it
        · rw [if_pos ⟨h1, h2⟩]; exact Ev.pos h2 (Ev.now _)
        · rw [if_neg (fun h => h2 h.2)]; exact Ev.neg h2 (lastW_spec l hl it n (by omega))
      · rw [if_neg (fun h => h1 h.1)]; exact Ev.neg h1 (lastW_spec l hl it n (by omega))
theorem lastW_specF (l : List S32) (hl : l.length ≤ 1048576) (it : Int) (n : Nat) (hn : n ≤ l.length) : Ev (fun k => spec_l13Last.f k l (n : Int) it) (lastW l it n) := by
  unfold spec_l13Last.f
  rw [w64 (x := (n : Int) - 1) (by omega) (by omega)]
  exact lastW_spec l hl it n hn
theorem lastL_read (l : List S32) (i : Nat) (h : (rdS l i).f1 = 1) : lastL l (i + 1) = lastL l i := by
  have : ∀ it, lastW l it (i + 1) = lastW l it i := fun it => by
    show (if (rdS l i).f1 = 2 ∧ (rdS l i).f2 = it then (i : Int) else lastW l it i) = _
    rw [if_neg (by omega)]
  unfold lastL
  rw [this, this, this, this]
theorem lastL_write (l : List S32) (i : Nat) (h : (rdS l i).f1 = 2) (h0 : 0 ≤ (rdS l i).f2) (h3 : (rdS l i).f2 ≤ 3) : lastL l (i + 1) = (lastL l i).set ((rdS l i).f2).toNat (i : Int) := by
  have : ∀ it, lastW l it (i + 1) = if (rdS l i).f2 = it then (i : Int) else lastW l it i := fun it => by
    show (if (rdS l i).f1 = 2 ∧ (rdS l i).f2 = it then (i : Int) else lastW l it i) = _
    simp only [h, true_and]
  unfold lastL
  rw [this, this, this, this]
  generalize (rdS l i).f2 = q at h0 h3
  obtain rfl | rfl | rfl | rfl : q = 0 ∨ q = 1 ∨ q = 2 ∨ q = 3 := by omega
  all_goals simp
theorem lastL_get (l : List S32) (n : Nat) (q : Int) (h0 : 0 ≤ q) (h3 : q ≤ 3) : rd (lastL l n) q = lastW l q n := by
  obtain rfl | rfl | rfl | rfl : q = 0 ∨ q = 1 ∨ q = 2 ∨ q = 3 := by omega
  all_goals rfl
theorem sources_l (l : List S32) (hl : l.length ≤ 1048576) (hg : ∀ x ∈ l, (0 ≤ x.f0 ∧ x.f0 ≤ 5) ∧ (1 ≤ x.f1 ∧ x.f1 ≤ 2) ∧ (0 ≤ x.f2 ∧ x.f2 ≤ 3)) (d : Nat) : ∀ (i : Nat), i + d = l.length →
    Ev (fun k => impl_sources.l0 k (lastL l i) (srcF l i) l (l.length : Int) (i : Int)) (srcF l l.length, lastL l l.length) := by
  induction d with
  | zero =>
    intro i hi
    obtain rfl : i = l.length := by omega
    exact Ev.step (f := fun _ => some (srcF l l.length, lastL l l.length)) (fun k => by simp only [impl_sources.l0]; rw [if_neg (by omega)]) (Ev.now _)
  | succ d ih =>
    intro i hi
    have hlt : i < l.length := by omega
    have hs := srcF_len l i
    have e1 : wrap64 ((i : Int) + 1) = ((i + 1 : Nat) : Int) := by rw [w64 (by omega) (by omega)]; rfl
    have hn : srcF l (i + 1) = srcF l i ++ (if (rdS l i).f1 = 1 then [⟨(i : Int), lastW l (rdS l i).f2 i⟩] else []) := rfl
    have hx := hg l[i] (List.getElem_mem hlt)
    have hr : rdS l i = l[i] := rdSt_lt hlt
    rw [← hr] at hx
    obtain ⟨_, ⟨ha, hb⟩, hc, hd⟩ := hx
    have h4 : ((lastL l i).length : Int) = 4 := rfl
    have hd' : (rdS l i).f2 < ((lastL l i).length : Int) := by rw [h4]; omega
    by_cases h1 : (rdS l i).f1 = 1
    · rw [if_pos h1] at hn
      refine Ev.step (f := fun k => impl_sources.l0 k (lastL l i) (srcF l (i + 1)) l (l.length : Int) ((i + 1 : Nat) : Int)) (fun k => ?_) ?_
      · simp only [impl_sources.l0]
        rw [if_pos (by omega), if_pos (by omega), if_pos (by omega), if_pos h1, if_pos hc, if_pos hd', if_pos (by omega), e1, hn, lastL_get l i _ hc hd]
      · rw [← lastL_read l i h1]; exact ih (i + 1) (by omega)
    · rw [if_neg h1, List.append_nil] at hn
      refine Ev.step (f := fun k => impl_sources.l0 k (lastL l (i + 1)) (srcF l (i + 1)) l (l.length : Int) ((i + 1 : Nat) : Int)) (fun k => ?_) (ih (i + 1) (by omega))
      simp only [impl_sources.l0]
      rw [if_pos (by omega), if_pos (by omega), if_pos (by omega), if_neg h1, if_pos hc, if_pos hd', e1, hn, lastL_write l i (by omega) hc hd]
theorem sources_impl (l : List S32) (hl : l.length ≤ 1048576) (hg : ∀ x ∈ l, (0 ≤ x.f0 ∧ x.f0 ≤ 5) ∧ (1 ≤ x.f1 ∧ x.f1 ≤ 2) ∧ (0 ≤ x.f2 ∧ x.f2 ≤ 3)) :
    Ev (fun k => impl_sources.f k l) (srcF l l.length, lastL l l.length) := by
  unfold impl_sources.f
  exact Ev.cbind (a := [-1, -1, -1, -1]) rfl (sources_l l hl hg l.length 0 (by omega))

end Go.Proofs.Ytmelechhnimlnab.Pure
