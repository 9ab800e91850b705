/- slices.Reverse over maps: the list turned round. No conditions. -/
import Derived.Test.YtpbpglbldgpckaaG35
import Derived.Test.YtpbpglbldgpckaaG49
import Derived.Test.YtpbpglbldgpckaaQWindow
namespace Go.Proofs.Ytpbpglbldgpckaa.Pure
open Go.RowKit Go.Proofs.Ytpbpglbldgpckaa.G Go.Proofs.Ytpbpglbldgpckaa.X Go.Proofs.YtpbpglbldgpckaaW.PrintWords Go.Proofs.YtpbpglbldgpckaaW.PrintLast
set_option linter.unusedVariables false

theorem reverse_l (n : Nat) (hn : n ≤ 1048576) (m : Nat) : ∀ (i : Nat) (j : Int) (x : List S51), x.length = n → (i : Int) + j = (n : Int) - 1 → j - i ≤ 2 * (m : Int) - 1 →
    ∃ y, Ev (fun k => slices_Reverse_Limpl_Map_impl_Map.l0 k x (i : Int) j) y ∧ y.length = n ∧ ∀ p : Nat, p < n → y[p]? = if (i : Int) ≤ p ∧ (p : Int) ≤ j then x[n - 1 - p]? else x[p]? := by
  induction m with
  | zero =>
    intro i j x hx hij hd
    refine ⟨x, Ev.step (fun k => by rw [slices_Reverse_Limpl_Map_impl_Map.l0]) (Ev.neg (by omega) (Ev.now _)), hx, fun p hp => ?_⟩
    rw [if_neg (by omega)]
  | succ m ih =>
    intro i j x hx hij hd
    by_cases h : (i : Int) < j
    · obtain ⟨jn, rfl⟩ : ∃ jn : Nat, j = (jn : Int) := ⟨j.toNat, by omega⟩
      have hi : i < x.length := by omega
      have hj : jn < x.length := by omega
      obtain ⟨y, hy, hl, hp⟩ := ih (i + 1) ((jn : Int) - 1) ((x.set i x[jn]).set jn x[i]) (by simp [hx]) (by omega) (by omega)
      refine ⟨y, ?_, hl, fun p hpn => ?_⟩
      · refine Ev.step (fun k => by rw [slices_Reverse_Limpl_Map_impl_Map.l0]) (Ev.pos h (Ev.pos (by omega) (Ev.pos (by omega) (Ev.pos (by omega) (Ev.pos (by omega) ?_)))))
        rw [rdM_lt hi, rdM_lt hj, w64 (x := (i : Int) + 1) (by omega) (by omega), w64 (x := (jn : Int) - 1) (by omega) (by omega)]
        exact hy
      · rw [hp p hpn]
        have hget : ∀ q : Nat, q < n → ((x.set i x[jn]).set jn x[i])[q]? = if q = jn then x[i]? else if q = i then x[jn]? else x[q]? := by
          intro q hq
          rw [List.getElem?_set, List.getElem?_set]
          by_cases e1 : jn = q
          · rw [if_pos e1, if_pos e1.symm, if_pos (by simp; omega), List.getElem?_eq_getElem hi]
          · rw [if_neg e1, if_neg (show ¬ q = jn from fun e => e1 e.symm)]
            by_cases e2 : i = q
            · rw [if_pos e2, if_pos e2.symm, if_pos (by omega), List.getElem?_eq_getElem hj]
            · rw [if_neg e2, if_neg (show ¬ q = i from fun e => e2 e.symm)]
        by_cases c1 : ((i + 1 : Nat) : Int) ≤ p ∧ (p : Int) ≤ (jn : Int) - 1
        · rw [if_pos c1, if_pos (by omega), hget _ (by omega), if_neg (by omega), if_neg (by omega)]
        · rw [if_neg c1, hget p hpn]
          by_cases c2 : p = jn
          · rw [if_pos c2, if_pos (by omega)]
            congr 1
            omega
          · rw [if_neg c2]
            by_cases c3 : p = i
            · rw [if_pos c3, if_pos (by omega)]
              congr 1
              omega
            · rw [if_neg c3, if_neg (by omega)]
    · refine ⟨x, Ev.step (fun k => by rw [slices_Reverse_Limpl_Map_impl_Map.l0]) (Ev.neg h (Ev.now _)), hx, fun p hp => ?_⟩
      by_cases c : (i : Int) ≤ p ∧ (p : Int) ≤ j
      · rw [if_pos c]
        congr 1
        omega
      · rw [if_neg c]
theorem reverse_ev (x : List S51) (hx : x.length ≤ 1048576) : Ev (fun k => slices_Reverse_Limpl_Map_impl_Map.f k x) x.reverse := by
  unfold slices_Reverse_Limpl_Map_impl_Map.f
  rw [w64 (by omega) (by omega)]
  obtain ⟨y, hy, hl, hp⟩ := reverse_l x.length hx x.length 0 ((x.length : Int) - 1) x rfl (by omega) (by omega)
  have e : y = x.reverse := by
    refine List.ext_getElem? fun p => ?_
    by_cases h : p < x.length
    · rw [hp p h, if_pos (by omega), List.getElem?_reverse h]
    · rw [List.getElem?_eq_none (by omega), List.getElem?_eq_none (by simp; omega)]
  rw [← e]
  exact hy
theorem cloneM (x : List S51) (hx : x.length ≤ 1048576) : slices_Clone_Limpl_Map_impl_Map.f x = some x := by
  unfold slices_Clone_Limpl_Map_impl_Map.f
  rw [if_pos (by omega)]

end Go.Proofs.Ytpbpglbldgpckaa.Pure
