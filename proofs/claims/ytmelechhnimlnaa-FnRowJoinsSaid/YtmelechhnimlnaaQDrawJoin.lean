/- DrawJoinRows and DrawPickCells have answers. No conditions. -/
import Derived.Test.YtmelechhnimlnaaG2
import Derived.Test.YtmelechhnimlnaaG10
import Derived.Test.YtmelechhnimlnaaQDraw
namespace Go.Proofs.Ytmelechhnimlnaa.Pure
open Go.RowKit Go.Proofs.Ytmelechhnimlnaa.G Go.Proofs.Ytmelechhnimlnaa.X Go.Proofs.YtmelechhnimlnaaW.PrintWords Go.Proofs.YtmelechhnimlnaaW.PrintLast
set_option linter.unusedVariables false
set_option linter.unusedSimpArgs false

theorem pairs_j {l : List Int} (h : Byt l) (x y n : Int) (b : Bool) (a s : Int) (z : List (List Int)) (hz : z.length ≤ 4) (h0 : 0 ≤ a) (h1 : a ≤ 137438953472)
    (hn : b = true → ∀ a1 s1 p, 0 ≤ a1 → a1 ≤ a + 4 → ∃ r a2 s2, Ev (fun k => spec_l1Cur_pairs.l0 k x y (z ++ [p]) (wrap64 (n - 1)) l a1 s1) (r, a2, s2) ∧ r.length ≤ 5) :
    ∃ r a2 s2, Ev (fun k => spec_l1Cur_pairs.j1 k x y z n b l a s) (r, a2, s2) ∧ r.length ≤ 5 := by
  cases b with
  | true =>
    obtain ⟨p, a1, s1, e1, p0, p1, _⟩ := pick_ok h a s x h0 (by omega)
    obtain ⟨q, a2, s2, e2, q0, q1, _⟩ := pick_ok h a1 s1 y (by omega) (by omega)
    obtain ⟨r, a3, s3, e3, g⟩ := hn rfl a2 s2 [p, q] (by omega) (by omega)
    refine ⟨r, a3, s3, ?_, g⟩
    refine Ev.step (fun k => by rw [spec_l1Cur_pairs.j1]) (Ev.pos rfl ?_)
    refine Ev.cbind e1 ?_
    refine Ev.cbind e2 ?_
    exact Ev.pos (by omega) e3
  | false =>
    obtain ⟨o, a1, s1, e1, p0, p1⟩ := one_ok h a s 40 h0 (by omega)
    cases o with
    | true =>
      refine ⟨z ++ [[0]], a1, s1, ?_, by simp; omega⟩
      refine Ev.step (fun k => by rw [spec_l1Cur_pairs.j1]) (Ev.neg (by decide) ?_)
      refine Ev.cbind e1 ?_
      exact Ev.pos rfl (Ev.pos (by omega) (Ev.now _))
    | false =>
      refine ⟨z, a1, s1, ?_, by omega⟩
      refine Ev.step (fun k => by rw [spec_l1Cur_pairs.j1]) (Ev.neg (by decide) ?_)
      refine Ev.cbind e1 ?_
      exact Ev.neg (show ¬ (false = true) by decide) (Ev.now _)
theorem pairs_l {l : List Int} (h : Byt l) (x y : Int) : ∀ (n : Nat) (a s : Int) (z : List (List Int)), n ≤ 2 → z.length + n ≤ 4 → 0 ≤ a → a + 4 * n ≤ 68719476736 →
    ∃ r a2 s2, Ev (fun k => spec_l1Cur_pairs.l0 k x y z (n : Int) l a s) (r, a2, s2) ∧ r.length ≤ 5
  | 0, a, s, z, hn, hz, h0, h1 => by
    obtain ⟨r, a2, s2, e, g⟩ := pairs_j h x y ((0 : Nat) : Int) false a s z (by omega) h0 (by omega) (fun h => by cases h)
    exact ⟨r, a2, s2, Ev.step (fun k => by rw [spec_l1Cur_pairs.l0]) (Ev.neg (by omega) e), g⟩
  | n + 1, a, s, z, hn, hz, h0, h1 => by
    have w : wrap64 (((n + 1 : Nat) : Int) - 1) = (n : Int) := by rw [w64 (by omega) (by omega)]; omega
    have J : ∀ b : Bool, ∃ r a2 s2, Ev (fun k => spec_l1Cur_pairs.j1 k x y z ((n + 1 : Nat) : Int) b l a s) (r, a2, s2) ∧ r.length ≤ 5 := fun b => by
      refine pairs_j h x y _ b a s z (by omega) h0 (by omega) (fun _ a1 s1 p q0 q1 => ?_)
      rw [w]
      exact pairs_l h x y n a1 s1 (z ++ [p]) (by omega) (by simp; omega) q0 (by omega)
    by_cases c : x > 0
    · obtain ⟨r, a2, s2, e, g⟩ := J (decide (y > 0))
      exact ⟨r, a2, s2, Ev.step (fun k => by rw [spec_l1Cur_pairs.l0]) (Ev.pos (by omega) (Ev.pos c e)), g⟩
    · obtain ⟨r, a2, s2, e, g⟩ := J false
      exact ⟨r, a2, s2, Ev.step (fun k => by rw [spec_l1Cur_pairs.l0]) (Ev.pos (by omega) (Ev.neg c e)), g⟩
theorem pairs_ok {l : List Int} (h : Byt l) (a s x y : Int) (h0 : 0 ≤ a) (h1 : a ≤ 34359738368) : ∃ r a2 s2, Ev (fun k => spec_l1Cur_pairs.f k l a s x y) (r, a2, s2) ∧ r.length ≤ 5 := by
  obtain ⟨n, a1, s1, e1, p0, p1, p2, p3⟩ := pick_ok h a s 3 h0 (by omega)
  have p4 := p3 (by omega)
  obtain ⟨m, rfl⟩ := Int.eq_ofNat_of_zero_le p2
  obtain ⟨r, a2, s2, e2, g⟩ := pairs_l h x y m a1 s1 [] (by omega) (by simp; omega) (by omega) (by omega)
  refine ⟨r, a2, s2, ?_, g⟩
  unfold spec_l1Cur_pairs.f
  exact Ev.cbind e1 e2
theorem cols_e {l : List Int} (h : Byt l) (x a s : Int) (z : List Int) (hz : z.length ≤ 4) (h0 : 0 ≤ a) (h1 : a ≤ 137438953472) :
    ∃ r a2 s2, Ev (fun k => (spec_l1Cur_one.f l a s 30).bind fun t => (if t.1 = true then (if z.length < 17592186044416 then (some ((z ++ [x]), t.2.1, t.2.2)) else (none)) else (some (z, t.2.1, t.2.2)))) (r, a2, s2) ∧ r.length ≤ 5 := by
  obtain ⟨o, a1, s1, e1, p0, p1⟩ := one_ok h a s 30 h0 (by omega)
  cases o with
  | true => exact ⟨z ++ [x], a1, s1, Ev.cbind e1 (Ev.pos rfl (Ev.pos (by omega) (Ev.now _))), by simp; omega⟩
  | false => exact ⟨z, a1, s1, Ev.cbind e1 (Ev.neg (show ¬ (false = true) by decide) (Ev.now _)), by omega⟩
theorem cols_l {l : List Int} (h : Byt l) (x : Int) : ∀ (n : Nat) (a s : Int) (z : List Int), n ≤ 3 → z.length + n ≤ 4 → 0 ≤ a → a + 4 * n ≤ 68719476736 →
    ∃ r a2 s2, Ev (fun k => spec_l1Cur_columns.l0 k x z (n : Int) l a s) (r, a2, s2) ∧ r.length ≤ 5
  | 0, a, s, z, hn, hz, h0, h1 => by
    obtain ⟨r, a2, s2, e, g⟩ := cols_e h x a s z (by omega) h0 (by omega)
    exact ⟨r, a2, s2, Ev.step (fun k => by rw [spec_l1Cur_columns.l0]) (Ev.neg (by omega) e), g⟩
  | n + 1, a, s, z, hn, hz, h0, h1 => by
    have w : wrap64 (((n + 1 : Nat) : Int) - 1) = (n : Int) := by rw [w64 (by omega) (by omega)]; omega
    by_cases c : x > 0
    · obtain ⟨p, a1, s1, e1, p0, p1, _⟩ := pick_ok h a s x h0 (by omega)
      obtain ⟨r, a2, s2, e, g⟩ := cols_l h x n a1 s1 (z ++ [p]) (by omega) (by simp; omega) (by omega) (by omega)
      refine ⟨r, a2, s2, ?_, g⟩
      refine Ev.step (fun k => by rw [spec_l1Cur_columns.l0]) (Ev.pos (by omega) (Ev.pos c ?_))
      refine Ev.cbind e1 (Ev.pos (by omega) ?_)
      rw [w]
      exact e
    · obtain ⟨r, a2, s2, e, g⟩ := cols_e h x a s z (by omega) h0 (by omega)
      exact ⟨r, a2, s2, Ev.step (fun k => by rw [spec_l1Cur_columns.l0]) (Ev.pos (by omega) (Ev.neg c e)), g⟩
theorem cols_ok {l : List Int} (h : Byt l) (a s x : Int) (h0 : 0 ≤ a) (h1 : a ≤ 34359738368) : ∃ r a2 s2, Ev (fun k => spec_l1Cur_columns.f k l a s x) (r, a2, s2) ∧ r.length ≤ 5 := by
  obtain ⟨n, a1, s1, e1, p0, p1, p2, p3⟩ := pick_ok h a s 4 h0 (by omega)
  have p4 := p3 (by omega)
  obtain ⟨m, rfl⟩ := Int.eq_ofNat_of_zero_le p2
  obtain ⟨r, a2, s2, e2, g⟩ := cols_l h x m a1 s1 [] (by omega) (by simp; omega) (by omega) (by omega)
  refine ⟨r, a2, s2, ?_, g⟩
  unfold spec_l1Cur_columns.f
  exact Ev.cbind e1 e2
theorem drawJ {l : List Int} (h : Byt l) : ∃ (a b : List Int) (p : List (List Int)), Ev (fun k => spec_DrawJoinRows.f k l) (a, b, p) ∧ a.length ≤ 7 ∧ b.length ≤ 7 ∧ p.length ≤ 5 := by
  obtain ⟨x, a1, s1, e1, p0, p1, p2, p3⟩ := width_ok h 0 0 (by omega) (by omega)
  obtain ⟨u, a2, s2, e2, q0, q1, q2⟩ := row_ok h a1 s1 x ⟨p2, p3⟩ (by omega) (by omega)
  obtain ⟨y, a4, s4, e4, t0, t1, t2, t3⟩ := width_ok h a2 s2 (by omega) (by omega)
  obtain ⟨v, a5, s5, e5, w0, w1, w2⟩ := row_ok h a4 s4 y ⟨t2, t3⟩ (by omega) (by omega)
  obtain ⟨p, a6, s6, e6, g⟩ := pairs_ok h a5 s5 (u.length : Int) (v.length : Int) (by omega) (by omega)
  refine ⟨u, v, p, ?_, q0, w0, g⟩
  unfold spec_DrawJoinRows.f
  exact Ev.cbind e1 (Ev.bind e2 (Ev.cbind e4 (Ev.bind e5 (Ev.bind e6 (Ev.now _)))))
theorem drawP {l : List Int} (h : Byt l) : ∃ a p : List Int, Ev (fun k => spec_DrawPickCells.f k l) (a, p) ∧ a.length ≤ 7 ∧ p.length ≤ 5 := by
  obtain ⟨x, a1, s1, e1, p0, p1, p2, p3⟩ := width_ok h 0 0 (by omega) (by omega)
  obtain ⟨u, a2, s2, e2, q0, q1, q2⟩ := row_ok h a1 s1 x ⟨p2, p3⟩ (by omega) (by omega)
  obtain ⟨p, a6, s6, e6, g⟩ := cols_ok h a2 s2 (u.length : Int) (by omega) (by omega)
  refine ⟨u, p, ?_, q0, g⟩
  unfold spec_DrawPickCells.f
  exact Ev.cbind e1 (Ev.bind e2 (Ev.bind e6 (Ev.now _)))

end Go.Proofs.Ytmelechhnimlnaa.Pure
