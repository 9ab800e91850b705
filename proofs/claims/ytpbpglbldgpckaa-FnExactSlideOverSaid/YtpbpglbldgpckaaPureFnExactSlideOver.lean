/- The plain law of SlideOver: both functions answer alike. No conditions. -/
import Derived.Test.YtpbpglbldgpckaaHFnExactSlideOver
import Derived.Test.YtpbpglbldgpckaaQWindowGood
import Derived.Test.YtpbpglbldgpckaaQTurn
import Derived.Test.YtpbpglbldgpckaaG31
import Derived.Test.YtpbpglbldgpckaaG33
import Derived.Test.YtpbpglbldgpckaaG37
import Derived.Test.YtpbpglbldgpckaaG27
namespace Go.Proofs.Ytpbpglbldgpckaa.Pure
open Go.RowKit Go.Proofs.Ytpbpglbldgpckaa.G Go.Proofs.Ytpbpglbldgpckaa.X Go.Proofs.YtpbpglbldgpckaaW.PrintWords Go.Proofs.YtpbpglbldgpckaaW.PrintLast Go.Proofs.Ytpbpglbldgpckaa.HFnExactSlideOver
set_option linter.unusedVariables false

abbrev SM := S51
def toM (p : Int × Int) : SM := ⟨p.1, p.2⟩
/-- The last maps up to a place. -/
def lastsAt (l : List SM) (W n : Nat) : List SM := (l.take n).drop (n - W)
def ansL (l : List SM) (W : Nat) : Nat → List SM
  | 0 => []
  | n + 1 => ansL l W n ++ [toM (foldM (1, 0) (lastsAt l W (n + 1)))]
theorem ansL_len (l : List SM) (W : Nat) : ∀ n, (ansL l W n).length = n
  | 0 => rfl
  | n + 1 => by unfold ansL; rw [List.length_append, ansL_len]; rfl
theorem foldM_append : ∀ (x y : List SM) (s : Int × Int), foldM s (x ++ y) = foldM (foldM s x) y
  | [], _, _ => rfl
  | m :: x, y, s => foldM_append x y (thenM s (prM m))
theorem foldM_two {x y : List SM} (hx : ∀ m ∈ x, gm (prM m)) (hy : ∀ m ∈ y, gm (prM m)) : foldM (1, 0) (x ++ y) = thenM (foldM (1, 0) x) (foldM (1, 0) y) := by
  have h := foldM_then (s := foldM (1, 0) x) y (1, 0) (foldM_good x _ one_good hx) one_good hy
  rw [then_one (foldM_good x _ one_good hx)] at h
  rw [foldM_append, h]
theorem sumsL_take : ∀ (l : List SM) (n : Nat) (s : Int × Int), sumsL (l.take n) s = (sumsL l s).take n
  | [], n, s => by cases n <;> rfl
  | m :: l, 0, s => rfl
  | m :: l, n + 1, s => by show _ :: sumsL (l.take n) _ = _ :: (sumsL l _).take n; rw [sumsL_take l n]
/-- What the loop keeps of a window. -/
structure Inv (F S B : List SM) (a b : Int) (items : List SM) : Prop where
  it : F.reverse ++ B = items
  su : S = sumsL F (1, 0)
  sm : (a, b) = foldM (1, 0) B
  ok : ∀ m ∈ items, gm (prM m)
theorem tail_rev {x : SM} {B : List SM} : tailOf (x :: B).reverse = B.reverse := by
  unfold tailOf
  simp
theorem tail_cons {F : List SM} {x : SM} {G : List SM} (h : F.reverse = x :: G) : tailOf F = G.reverse := by
  have e : F = (x :: G).reverse := by rw [← h, List.reverse_reverse]
  rw [e, tail_rev]
theorem pop_ev {F S B : List SM} {a b : Int} {x : SM} {items : List SM} (h : Inv F S B a b (x :: items)) (hl : (x :: items).length ≤ 1048576) :
    ∃ F2 S2 B2 a2 b2, Ev (fun k => impl_SlideOver.pp k F S B a b) (F2, S2, B2, a2, b2) ∧ Inv F2 S2 B2 a2 b2 items := by
  unfold impl_SlideOver.pp
  by_cases hF : F.length = 0
  · obtain rfl : F = [] := List.eq_nil_of_length_eq_zero hF
    have hB : B = x :: items := h.it
    subst hB
    have hr := reverse_ev (x :: items) hl
    have hs := sums_ev (x :: items).reverse (by rw [List.length_reverse]; exact hl)
    refine ⟨tailOf (x :: items).reverse, tailOf (sumsL (x :: items).reverse (1, 0)), [], 1, 0, ?_, ?_⟩
    · exact Ev.pos hF (Ev.pos (by simp) (Ev.bind hr (Ev.bind hs (Ev.pos (sumsL_length _ _) (Ev.now _)))))
    · refine ⟨by rw [tail_rev]; simp, ?_, rfl, fun m hm => h.ok m (List.mem_cons_of_mem _ hm)⟩
      unfold tailOf
      rw [sumsL_length, sumsL_take]
  · have hS : S.length = F.length := by rw [h.su, sumsL_length]
    have hne : F.reverse ≠ [] := by simpa using hF
    obtain ⟨y, G, hG⟩ := List.exists_cons_of_ne_nil hne
    have hit := h.it
    rw [hG, List.cons_append] at hit
    injection hit with h1 h2
    refine ⟨tailOf F, tailOf S, B, a, b, Ev.neg hF (Ev.pos hS (Ev.now _)), ?_⟩
    refine ⟨by rw [tail_cons hG, List.reverse_reverse]; exact h2, ?_, h.sm, fun m hm => h.ok m (List.mem_cons_of_mem _ hm)⟩
    unfold tailOf
    rw [hS, h.su, sumsL_take]
theorem push_inv {F S B : List SM} {a b : Int} {items : List SM} (h : Inv F S B a b items) (m : SM) (hm : gm (prM m)) : Inv F S (B ++ [m]) (thenM (a, b) (prM m)).1 (thenM (a, b) (prM m)).2 (items ++ [m]) := by
  refine ⟨by rw [← List.append_assoc, h.it], h.su, ?_, fun x hx => ?_⟩
  · rw [foldM_append, ← h.sm]; rfl
  · rcases List.mem_append.1 hx with hx | hx
    · exact h.ok x hx
    · rw [List.mem_singleton.1 hx]; exact hm
theorem sum_inv {F S B : List SM} {a b : Int} {items : List SM} (h : Inv F S B a b items) (hl : items.length ≤ 1048576) : impl_Window_sum.f F S B a b = some (foldM (1, 0) items) := by
  have hS : S.length = F.length := by rw [h.su, sumsL_length]
  have hfl : F.length ≤ 1048576 := by have := congrArg List.length h.it; rw [List.length_append, List.length_reverse] at this; omega
  have hgF : ∀ m ∈ F.reverse, gm (prM m) := fun m hm => h.ok m (by rw [← h.it]; exact List.mem_append_left _ hm)
  have hgB : ∀ m ∈ B, gm (prM m) := fun m hm => h.ok m (by rw [← h.it]; exact List.mem_append_right _ hm)
  unfold impl_Window_sum.f
  rw [w64 (x := (S.length : Int) - 1) (by omega) (by omega)]
  by_cases hF : F.length = 0
  · rw [if_neg (by omega)]
    obtain rfl : F = [] := List.eq_nil_of_length_eq_zero hF
    have : B = items := h.it
    rw [← this, ← h.sm]
  · obtain ⟨n, hn⟩ : ∃ n, F.length = n + 1 := ⟨F.length - 1, by omega⟩
    have hlt : n < S.length := by omega
    have e : (S.length : Int) - 1 = (n : Int) := by omega
    rw [e, if_pos (by omega), if_pos (by omega), if_pos (by omega), rdM_lt hlt]
    have hS2 := h.su
    subst hS2
    have hat := sums_at F [] n hlt (fun m hm => hgF m (List.mem_reverse.2 hm)) (fun m hm => by cases hm)
    rw [List.append_nil, List.take_of_length_le (by omega)] at hat
    have h2 : impl_Map_then.f ((sumsL F (1, 0))[n]'hlt).f0 ((sumsL F (1, 0))[n]'hlt).f1 a b = some (thenM (foldM (1, 0) F.reverse) (a, b)) := by
      have := then_impl_eq (foldM (1, 0) F.reverse) (a, b)
      rw [← hat] at this ⊢
      exact this
    rw [h2, h.sm, ← h.it, foldM_two hgF hgB]
    rfl
theorem lasts_next {l : List SM} {W n : Nat} (hn : n < l.length) (hW : 1 ≤ W) : (if n < W then lastsAt l W n else (lastsAt l W n).tail) ++ [l[n]] = lastsAt l W (n + 1) := by
  unfold lastsAt
  rw [List.take_succ_eq_append_getElem hn]
  by_cases h : n < W
  · rw [if_pos h, show n - W = 0 by omega, show n + 1 - W = 0 by omega]; rfl
  · rw [if_neg h, List.tail_drop, show n - W + 1 = n + 1 - W by omega, List.drop_append_of_le_length (by rw [List.length_take]; omega)]
theorem lasts_len {l : List SM} {W n : Nat} (hn : n ≤ l.length) : (lastsAt l W n).length = min n W := by unfold lastsAt; rw [List.length_drop, List.length_take]; omega
theorem slide_l (l : List SM) (W : Nat) (hl : l.length ≤ 100) (hW : 1 ≤ W) (hg : l.all gmB = true) (d : Nat) : ∀ (i : Nat) (F S B : List SM) (a b : Int), i + d = l.length → Inv F S B a b (lastsAt l W i) →
    Ev (fun k => impl_SlideOver.l0 k l (W : Int) F S B a b (ansL l W i) (i : Int)) (ansL l W l.length, true) := by
  induction d with
  | zero =>
    intro i F S B a b hi hv
    obtain rfl : i = l.length := by omega
    exact Ev.step (fun k => by rw [impl_SlideOver.l0]) (Ev.neg (by omega) (Ev.now _))
  | succ d ih =>
    intro i F S B a b hi hv
    have hlt : i < l.length := by omega
    have hm : gm (prM l[i]) := gmB_gm (List.all_eq_true.1 hg _ (List.getElem_mem hlt))
    have hlen : F.length + B.length = min i W := by
      have := congrArg List.length hv.it
      rw [List.length_append, List.length_reverse, lasts_len (by omega)] at this
      exact this
    have hal := ansL_len l W i
    obtain ⟨F2, S2, B2, a2, b2, hpp, hv2⟩ : ∃ F2 S2 B2 a2 b2, Ev (fun k => if (wrap64 ((F.length : Int) + (B.length : Int)) == (W : Int)) = true then impl_SlideOver.pp k F S B a b else some (F, S, B, a, b)) (F2, S2, B2, a2, b2) ∧ Inv F2 S2 B2 a2 b2 (if i < W then lastsAt l W i else (lastsAt l W i).tail) := by
      rw [w64 (x := (F.length : Int) + (B.length : Int)) (by omega) (by omega)]
      by_cases h : i < W
      · rw [if_pos h]
        exact ⟨F, S, B, a, b, Ev.neg (by rw [beq_iff_eq]; omega) (Ev.now _), hv⟩
      · rw [if_neg h]
        have hll := lasts_len (W := W) (show i ≤ l.length by omega)
        obtain ⟨x, G, hx⟩ : ∃ x G, lastsAt l W i = x :: G := List.exists_cons_of_ne_nil (fun e => by rw [e] at hll; simp at hll; omega)
        rw [hx] at hv ⊢
        obtain ⟨F2, S2, B2, a2, b2, h1, h2⟩ := pop_ev hv (by rw [← hx, hll]; omega)
        exact ⟨F2, S2, B2, a2, b2, Ev.pos (by rw [beq_iff_eq]; omega) h1, h2⟩
    have hv3 := push_inv hv2 l[i] hm
    rw [lasts_next hlt hW] at hv3
    have hll := lasts_len (W := W) (show i + 1 ≤ l.length by omega)
    have hB2 : B2.length ≤ 1048576 := by
      have := congrArg List.length hv3.it
      rw [List.length_append, List.length_append, hll] at this
      omega
    have hsum := sum_inv hv3 (by rw [hll]; omega)
    have hth := then_impl_eq (a2, b2) (prM l[i])
    refine Ev.step (fun k => by rw [impl_SlideOver.l0]) (Ev.pos (by omega) (Ev.pos (by omega) (Ev.bind hpp ?_)))
    rw [rdM_lt hlt, w64 (x := (i : Int) + 1) (by omega) (by omega)]
    refine Ev.pos (by show B2.length < _; omega) (Ev.cbind hth (Ev.cbind hsum (Ev.pos (by rw [hal]; omega) ?_)))
    exact ih (i + 1) F2 S2 (B2 ++ [l[i]]) _ _ (by omega) hv3
theorem spec_slide_l (l : List SM) (W : Nat) (hl : l.length ≤ 100) (hW : 1 ≤ W ∧ W ≤ 60) (hg : l.all gmB = true) (d : Nat) : ∀ (i : Nat), i + d = l.length →
    Ev (fun k => spec_SlideOver.l0 k l (W : Int) (ansL l W i) l (l.length : Int) (i : Int)) (ansL l W l.length, true) := by
  induction d with
  | zero =>
    intro i hi
    obtain rfl : i = l.length := by omega
    exact Ev.step (fun k => by rw [spec_SlideOver.l0]) (Ev.neg (by omega) (Ev.now _))
  | succ d ih =>
    intro i hi
    have hlt : i < l.length := by omega
    have hm : gmB l[i] = true := List.all_eq_true.1 hg _ (List.getElem_mem hlt)
    have hal := ansL_len l W i
    refine Ev.step (fun k => by rw [spec_SlideOver.l0]) (Ev.pos (by omega) (Ev.pos (by omega) (Ev.pos (by omega) ?_)))
    rw [rdM_lt hlt, w64 (x := (i : Int) + 1) (by omega) (by omega), w64 (x := (i : Int) + 1 - (W : Int)) (by omega) (by omega), show ((i : Int) + 1).toNat = i + 1 by omega]
    refine Ev.cbind (goodMap_spec _ _) (Ev.pos hm ?_)
    by_cases h : (i : Int) + 1 - (W : Int) < 0
    · refine Ev.pos h (Ev.pos (by omega) (Ev.pos (by omega) ?_))
      have e : lastsAt l W (i + 1) = (l.take (i + 1)).drop 0 := by unfold lastsAt; rw [show i + 1 - W = 0 by omega]
      refine Ev.bind (all_spec _ (by rw [← e, lasts_len (by omega)]; omega)) (Ev.pos (by rw [hal]; omega) ?_)
      rw [← e]
      exact ih (i + 1) (by omega)
    · refine Ev.neg h (Ev.pos (by omega) (Ev.pos (by omega) (Ev.pos (by omega) ?_)))
      have e : lastsAt l W (i + 1) = (l.take (i + 1)).drop ((i : Int) + 1 - (W : Int)).toNat := by unfold lastsAt; congr 1; omega
      refine Ev.bind (all_spec _ (by rw [← e, lasts_len (by omega)]; omega)) (Ev.pos (by rw [hal]; omega) ?_)
      rw [← e]
      exact ih (i + 1) (by omega)
theorem spec_slide_bad (l : List SM) (W : Nat) (hl : l.length ≤ 100) (hW : 1 ≤ W ∧ W ≤ 60) (d : Nat) : ∀ (i : Nat) (o : List SM), i + d = l.length → o.length ≤ i → (l.drop i).all gmB = false →
    Ev (fun k => spec_SlideOver.l0 k l (W : Int) o l (l.length : Int) (i : Int)) ([], false) := by
  induction d with
  | zero =>
    intro i o hi ho hb
    rw [List.drop_of_length_le (by omega)] at hb
    cases hb
  | succ d ih =>
    intro i o hi ho hb
    have hlt : i < l.length := by omega
    rw [drop_cons hlt, List.all_cons] at hb
    refine Ev.step (fun k => by rw [spec_SlideOver.l0]) (Ev.pos (by omega) (Ev.pos (by omega) (Ev.pos (by omega) ?_)))
    rw [rdM_lt hlt, w64 (x := (i : Int) + 1) (by omega) (by omega), w64 (x := (i : Int) + 1 - (W : Int)) (by omega) (by omega), show ((i : Int) + 1).toNat = i + 1 by omega]
    refine Ev.cbind (goodMap_spec _ _) ?_
    by_cases hm : gmB l[i] = true
    case neg => exact Ev.neg hm (Ev.now _)
    rw [hm, Bool.true_and] at hb
    refine Ev.pos hm ?_
    by_cases h : (i : Int) + 1 - (W : Int) < 0
    · refine Ev.pos h (Ev.pos (by omega) (Ev.pos (by omega) ?_))
      refine Ev.bind (all_spec _ (by rw [List.length_drop, List.length_take]; omega)) (Ev.pos (by omega) ?_)
      exact ih (i + 1) _ (by omega) (by simp; omega) hb
    · refine Ev.neg h (Ev.pos (by omega) (Ev.pos (by omega) (Ev.pos (by omega) ?_)))
      refine Ev.bind (all_spec _ (by rw [List.length_drop, List.length_take]; omega)) (Ev.pos (by omega) ?_)
      exact ih (i + 1) _ (by omega) (by simp; omega) hb

theorem FnExactSlideOver : laws_FnExactSlideOver.Pure := law fun l hl a ha => by
  have no : Ev (fun k => spec_SlideOver.j0 k l a true) ([], false) := Ev.step (fun k => by rw [spec_SlideOver.j0]) (Ev.pos rfl (Ev.now _))
  have bd : (([] : List SM), false).1.length ≤ 1099511627776 := by simp
  by_cases h : (l.length : Int) > 100
  · refine ⟨([], false), ?_, ?_, bd⟩
    · unfold spec_SlideOver.f; exact Ev.pos h no
    · unfold impl_SlideOver.f; exact Ev.pos h (Ev.now _)
  by_cases hw : 1 ≤ a ∧ a ≤ 60
  case neg =>
    refine ⟨([], false), ?_, ?_, bd⟩
    · unfold spec_SlideOver.f; refine Ev.neg h (Ev.cbind (l1In_eq _ _ _) ?_); rw [decide_eq_false hw]; exact no
    · unfold impl_SlideOver.f
      refine Ev.neg h (Ev.cbind (allGood_impl l) (?_))
      by_cases hg : l.all gmB = true
      · exact Ev.pos hg (Ev.cbind (within_eq _ _ _) (Ev.neg (by rw [decide_eq_false hw]; simp) (Ev.now _)))
      · exact Ev.neg hg (Ev.now _)
  obtain ⟨W, rfl⟩ : ∃ W : Nat, a = (W : Int) := ⟨a.toNat, by omega⟩
  have hs0 : Ev (fun k => spec_SlideOver.f k l (W : Int)) (if l.all gmB = true then (ansL l W l.length, true) else ([], false)) := by
    unfold spec_SlideOver.f
    refine Ev.neg h (Ev.cbind (l1In_eq _ _ _) ?_)
    rw [decide_eq_true hw]
    refine Ev.step (fun k => by rw [spec_SlideOver.j0]) (Ev.neg (by decide) ?_)
    by_cases hg : l.all gmB = true
    · rw [if_pos hg]; exact spec_slide_l l W (by omega) (by omega) hg l.length 0 (by omega)
    · rw [if_neg hg]; exact spec_slide_bad l W (by omega) (by omega) l.length 0 [] (by omega) (by simp) (by rw [List.drop_zero]; exact Bool.eq_false_iff.mpr hg)
  have hi0 : Ev (fun k => impl_SlideOver.f k l (W : Int)) (if l.all gmB = true then (ansL l W l.length, true) else ([], false)) := by
    unfold impl_SlideOver.f
    refine Ev.neg h (Ev.cbind (allGood_impl l) ?_)
    by_cases hg : l.all gmB = true
    · rw [if_pos hg]
      refine Ev.pos hg (Ev.cbind (within_eq _ _ _) (Ev.pos (decide_eq_true hw) ?_))
      exact slide_l l W (by omega) (by omega) hg l.length 0 [] [] [] 1 0 (by omega) ⟨by unfold lastsAt; simp, rfl, rfl, fun m hm => by unfold lastsAt at hm; simp at hm⟩
    · rw [if_neg hg]; exact Ev.neg hg (Ev.now _)
  refine ⟨_, hs0, hi0, ?_⟩
  split
  · have := ansL_len l W l.length; show (ansL l W l.length).length ≤ _; omega
  · exact bd

end Go.Proofs.Ytpbpglbldgpckaa.Pure
