/- What a cursor over bytes gives: its answers are there, and within bounds. No conditions. -/
import Derived.Test.YtmelechhnimlnaaG1
import Derived.Test.YtmelechhnimlnaaG2
import Derived.Test.YtmelechhnimlnaaQBase
namespace Go.Proofs.Ytmelechhnimlnaa.Pure
open Go.RowKit Go.Proofs.Ytmelechhnimlnaa.G Go.Proofs.Ytmelechhnimlnaa.X Go.Proofs.YtmelechhnimlnaaW.PrintWords Go.Proofs.YtmelechhnimlnaaW.PrintLast
set_option linter.unusedVariables false
set_option linter.unusedSimpArgs false

def Byt (l : List Int) : Prop := l.length ≤ 9223372036854775807 ∧ ∀ x ∈ l, 0 ≤ x ∧ x ≤ 255
theorem and255 (X : Int) : 0 ≤ Go.bits .and .u64 X 255 ∧ Go.bits .and .u64 X 255 ≤ 255 := by
  show 0 ≤ IntKind.u64.wrap (((BitVec.ofInt 64 X &&& BitVec.ofInt 64 255).toNat : Nat) : Int) ∧ IntKind.u64.wrap (((BitVec.ofInt 64 X &&& BitVec.ofInt 64 255).toNat : Nat) : Int) ≤ 255
  have h : (BitVec.ofInt 64 X &&& BitVec.ofInt 64 255).toNat ≤ 255 := by
    rw [BitVec.toNat_and]
    exact Nat.le_trans Nat.and_le_right (by decide)
  rw [IntKind.wrap_u64]
  omega
theorem rd_byte {l : List Int} (h : Byt l) (a : Int) (h0 : 0 ≤ a) (h1 : a < (l.length : Int)) : 0 ≤ rd l a ∧ rd l a ≤ 255 := by
  obtain ⟨n, rfl⟩ := Int.eq_ofNat_of_zero_le h0
  have hn : n < l.length := by omega
  rw [rd_lt hn]
  exact h.2 _ (List.getElem_mem hn)
theorem next_ok {l : List Int} (h : Byt l) (a s : Int) (h0 : 0 ≤ a) (h1 : a ≤ 1099511627776) : ∃ x s', spec_l1Cur_next.f l a s = some (x, a + 1, s') ∧ 0 ≤ x ∧ x ≤ 255 := by
  have e : wrap64 (a + 1) = a + 1 := w64 (by omega) (by omega)
  have hl := h.1
  unfold spec_l1Cur_next.f
  rw [e]
  by_cases c : a < (l.length : Int)
  · have hb := rd_byte h a h0 c
    rw [if_pos c, if_pos h0, if_pos (by omega), w64 (x := rd l a) (by omega) (by omega)]
    exact ⟨_, _, rfl, hb.1, hb.2⟩
  · rw [if_neg c, if_neg (by omega)]
    have hq := and255 ((IntKind.u64.wrap ((IntKind.u64.wrap (IntKind.u64.wrap (s * 6364136223846793005))) + 1442695040888963407)) / 1099511627776)
    refine ⟨_, _, rfl, ?_, ?_⟩
    · rw [w64 (by omega) (by omega)]; exact hq.1
    · rw [w64 (by omega) (by omega)]; exact hq.2
theorem pick_ok {l : List Int} (h : Byt l) (a s n : Int) (h0 : 0 ≤ a) (h1 : a ≤ 549755813888) : ∃ x a' s', spec_l1Cur_pick.f l a s n = some (x, a', s') ∧ a ≤ a' ∧ a' ≤ a + 2 ∧ 0 ≤ x ∧ (1 ≤ n → x < n) := by
  unfold spec_l1Cur_pick.f
  by_cases c : n ≤ 1
  · rw [if_pos c]
    exact ⟨0, a, s, rfl, by omega, by omega, by omega, fun _ => by omega⟩
  rw [if_neg c]
  obtain ⟨x, s1, e1, hx0, hx1⟩ := next_ok h a s h0 (by omega)
  rw [e1, Option.bind_some]
  by_cases d : n > 200
  · rw [if_pos d]
    obtain ⟨y, s2, e2, hy0, hy1⟩ := next_ok h (a + 1) s1 (by omega) (by omega)
    rw [show spec_l1Cur_next.f l (x, a + 1, s1).2.1 (x, a + 1, s1).2.2 = some (y, a + 1 + 1, s2) from e2, Option.bind_some, if_neg (by omega)]
    refine ⟨_, _, _, rfl, by show a ≤ a + 1 + 1; omega, by show a + 1 + 1 ≤ a + 2; omega, ?_, fun _ => ?_⟩
    · show 0 ≤ Int.tmod (wrap64 (wrap64 (x * 256) + y)) n
      rw [w64 (x := x * 256) (by omega) (by omega), w64 (by omega) (by omega)]
      exact Int.tmod_nonneg _ (by omega)
    · show Int.tmod (wrap64 (wrap64 (x * 256) + y)) n < n
      exact Int.tmod_lt_of_pos _ (by omega)
  · rw [if_neg d, if_neg (by omega)]
    exact ⟨_, _, _, rfl, by show a ≤ a + 1; omega, by show a + 1 ≤ a + 2; omega, Int.tmod_nonneg _ hx0, fun _ => Int.tmod_lt_of_pos _ (by omega)⟩
theorem one_ok {l : List Int} (h : Byt l) (a s n : Int) (h0 : 0 ≤ a) (h1 : a ≤ 549755813888) : ∃ b a' s', spec_l1Cur_one.f l a s n = some (b, a', s') ∧ a ≤ a' ∧ a' ≤ a + 2 := by
  unfold spec_l1Cur_one.f
  obtain ⟨x, a', s', e, q0, q1, _⟩ := pick_ok h a s n h0 h1
  rw [e, Option.bind_some]
  exact ⟨_, _, _, rfl, q0, q1⟩
theorem among_ok {l : List Int} (h : Byt l) (a s : Int) (m : List Int) (hm : 1 ≤ m.length) (h0 : 0 ≤ a) (h1 : a ≤ 549755813888) : ∃ x a' s', spec_l1Cur_among.f l a s m = some (x, a', s') ∧ a ≤ a' ∧ a' ≤ a + 2 ∧ x ∈ m := by
  unfold spec_l1Cur_among.f
  obtain ⟨x, a', s', e, q0, q1, q2, q3⟩ := pick_ok h a s (m.length : Int) h0 h1
  have q4 := q3 (by omega)
  rw [e, Option.bind_some, if_pos q2, if_pos q4]
  obtain ⟨n, rfl⟩ := Int.eq_ofNat_of_zero_le q2
  have hn : n < m.length := by omega
  refine ⟨_, _, _, rfl, q0, q1, ?_⟩
  show rd m (n : Int) ∈ m
  rw [rd_lt hn]
  exact List.getElem_mem hn
theorem cell_ok {l : List Int} (h : Byt l) (a s : Int) (h0 : 0 ≤ a) (h1 : a ≤ 274877906944) : ∃ x a' s', spec_l1Cur_cell.f l a s = some (x, a', s') ∧ a ≤ a' ∧ a' ≤ a + 4 := by
  unfold spec_l1Cur_cell.f
  obtain ⟨b, a1, s1, e1, q0, q1⟩ := one_ok h a s 30 h0 (by omega)
  rw [e1, Option.bind_some]
  cases b with
  | true =>
    obtain ⟨x, a2, s2, e2, r0, r1, _⟩ := among_ok h a1 s1 [(-100000), 100000, (-1), (-100001), 100001] (by decide) (by omega) (by omega)
    rw [if_pos rfl, show spec_l1Cur_among.f l (true, a1, s1).2.1 (true, a1, s1).2.2 [(-100000), 100000, (-1), (-100001), 100001] = _ from e2, Option.bind_some]
    exact ⟨_, _, _, rfl, by show a ≤ a2; omega, by show a2 ≤ a + 4; omega⟩
  | false =>
    obtain ⟨x, a2, s2, e2, r0, r1, _⟩ := pick_ok h a1 s1 4 (by omega) (by omega)
    rw [if_neg (show ¬ (false = true) by decide), show spec_l1Cur_pick.f l (false, a1, s1).2.1 (false, a1, s1).2.2 4 = _ from e2, Option.bind_some]
    exact ⟨_, _, _, rfl, by show a ≤ a2; omega, by show a2 ≤ a + 4; omega⟩
theorem width_ok {l : List Int} (h : Byt l) (a s : Int) (h0 : 0 ≤ a) (h1 : a ≤ 274877906944) : ∃ x a' s', spec_l1Cur_width.f l a s = some (x, a', s') ∧ a ≤ a' ∧ a' ≤ a + 4 ∧ 0 ≤ x ∧ x ≤ 7 := by
  unfold spec_l1Cur_width.f
  obtain ⟨b, a1, s1, e1, q0, q1⟩ := one_ok h a s 20 h0 (by omega)
  rw [e1, Option.bind_some]
  cases b with
  | true =>
    obtain ⟨x, a2, s2, e2, r0, r1, hx⟩ := among_ok h a1 s1 [0, 6, 7] (by decide) (by omega) (by omega)
    rw [if_pos rfl, show spec_l1Cur_among.f l (true, a1, s1).2.1 (true, a1, s1).2.2 [0, 6, 7] = _ from e2, Option.bind_some]
    have hx' : 0 ≤ x ∧ x ≤ 7 := by
      simp only [List.mem_cons, List.not_mem_nil, or_false] at hx
      omega
    exact ⟨_, _, _, rfl, by show a ≤ a2; omega, by show a2 ≤ a + 4; omega, hx'.1, hx'.2⟩
  | false =>
    obtain ⟨x, a2, s2, e2, r0, r1, r2, r3⟩ := pick_ok h a1 s1 3 (by omega) (by omega)
    have r4 := r3 (by omega)
    rw [if_neg (show ¬ (false = true) by decide), show spec_l1Cur_pick.f l (false, a1, s1).2.1 (false, a1, s1).2.2 3 = _ from e2, Option.bind_some]
    refine ⟨_, _, _, rfl, by show a ≤ a2; omega, by show a2 ≤ a + 4; omega, ?_, ?_⟩
    · show 0 ≤ wrap64 (1 + x); rw [w64 (by omega) (by omega)]; omega
    · show wrap64 (1 + x) ≤ 7; rw [w64 (by omega) (by omega)]; omega
theorem row_l {l : List Int} (h : Byt l) : ∀ (n : Nat) (a s : Int) (z : List Int), n ≤ 7 → z.length + n ≤ 7 → 0 ≤ a → a + 4 * n ≤ 274877906944 →
    ∃ r a' s', Ev (fun k => spec_l1Cur_row.l0 k (n : Int) l a s z) (r, a', s') ∧ r.length = z.length + n ∧ a ≤ a' ∧ a' ≤ a + 4 * n
  | 0, a, s, z, hn, hz, h0, h1 => ⟨z, a, s, Ev.step (fun k => by rw [spec_l1Cur_row.l0]) (Ev.neg (by decide) (Ev.now _)), by omega, by omega, by omega⟩
  | n + 1, a, s, z, hn, hz, h0, h1 => by
    obtain ⟨x, a1, s1, e1, q0, q1⟩ := cell_ok h a s h0 (by omega)
    obtain ⟨r, a2, s2, e2, g0, g1, g2⟩ := row_l h n a1 s1 (z ++ [x]) (by omega) (by simp; omega) (by omega) (by omega)
    refine ⟨r, a2, s2, ?_, by rw [g0]; simp; omega, by omega, by omega⟩
    refine Ev.step (fun k => by rw [spec_l1Cur_row.l0]) ?_
    refine Ev.pos (by omega) ?_
    refine Ev.cbind e1 ?_
    refine Ev.pos (by omega) ?_
    rw [show wrap64 (((n + 1 : Nat) : Int) - 1) = (n : Int) from by rw [w64 (by omega) (by omega)]; omega]
    exact e2
theorem row_ok {l : List Int} (h : Byt l) (a s x : Int) (hx : 0 ≤ x ∧ x ≤ 7) (h0 : 0 ≤ a) (h1 : a ≤ 137438953472) :
    ∃ r a' s', Ev (fun k => spec_l1Cur_row.f k l a s x) (r, a', s') ∧ r.length ≤ 7 ∧ a ≤ a' ∧ a' ≤ a + 28 := by
  obtain ⟨n, rfl⟩ := Int.eq_ofNat_of_zero_le hx.1
  obtain ⟨r, a', s', e, g0, g1, g2⟩ := row_l h n a s [] (by omega) (by simp; omega) h0 (by omega)
  refine ⟨r, a', s', ?_, by rw [g0]; simp; omega, g1, by omega⟩
  unfold spec_l1Cur_row.f
  exact e

end Go.Proofs.Ytmelechhnimlnaa.Pure
