/- DrawCompareRows and DrawReadRow have answers. No conditions. -/
import Derived.Test.YtaddemalepndfaiG2
import Derived.Test.YtaddemalepndfaiG8
import Derived.Test.YtaddemalepndfaiG7
import Derived.Test.YtaddemalepndfaiQDraw
import Derived.Test.YtaddemalepndfaiQRowLaw
namespace Go.Proofs.Ytaddemalepndfai.Pure
open Go.RowKit Go.Proofs.Ytaddemalepndfai.G Go.Proofs.Ytaddemalepndfai.X Go.Proofs.YtaddemalepndfaiW.PrintWords Go.Proofs.YtaddemalepndfaiW.PrintLast
set_option linter.unusedVariables false
set_option linter.unusedSimpArgs false

theorem drawC {l : List Int} (h : Byt l) : ∃ a b : List Int, Ev (fun k => spec_DrawCompareRows.f k l) (a, b) ∧ a.length ≤ 7 ∧ b.length ≤ 7 := by
  obtain ⟨x, a1, s1, e1, p0, p1, p2, p3⟩ := width_ok h 0 0 (by omega) (by omega)
  obtain ⟨u, a2, s2, e2, q0, q1, q2⟩ := row_ok h a1 s1 x ⟨p2, p3⟩ (by omega) (by omega)
  obtain ⟨o, a3, s3, e3, r0, r1⟩ := one_ok h a2 s2 4 (by omega) (by omega)
  obtain ⟨y, a4, s4, e4, t0, t1, t2, t3⟩ := width_ok h a3 s3 (by omega) (by omega)
  obtain ⟨v, a5, s5, e5, w0, w1, w2⟩ := row_ok h a4 s4 y ⟨t2, t3⟩ (by omega) (by omega)
  unfold spec_DrawCompareRows.f
  cases o with
  | true => exact ⟨u, u, Ev.cbind e1 (Ev.bind e2 (Ev.cbind e3 (Ev.pos rfl (Ev.now _)))), q0, q0⟩
  | false => exact ⟨u, v, Ev.cbind e1 (Ev.bind e2 (Ev.cbind e3 (Ev.neg (show ¬ (false = true) by decide) (Ev.cbind e4 (Ev.bind e5 (Ev.now _)))))), q0, w0⟩
theorem spoilt_l {l : List Int} (h : Byt l) (wt : ByteArray) (hw : wt.size = 3) : ∀ (n : Nat) (t : ByteArray) (a s : Int), n ≤ 2 → t.size + n ≤ 1048576 → 0 ≤ a → a + 6 * n ≤ 137438953472 →
    ∃ r a' s', Ev (fun k => spec_l1Cur_spoilt.l0 k t wt (n : Int) l a s) (r, a', s')
  | 0, t, a, s, hn, ht, h0, h1 => ⟨t, a, s, Ev.step (fun k => by rw [spec_l1Cur_spoilt.l0]) (Ev.neg (by decide) (Ev.step (fun k => by rw [spec_l1Cur_spoilt.j1]) (Ev.neg (by decide) (Ev.now _))))⟩
  | n + 1, t, a, s, hn, ht, h0, h1 => by
    by_cases hz : t.size = 0
    · refine ⟨t, a, s, Ev.step (fun k => by rw [spec_l1Cur_spoilt.l0]) (Ev.pos (by omega) (Ev.step (fun k => by rw [spec_l1Cur_spoilt.j1]) (Ev.neg ?_ (Ev.now _))))⟩
      rw [hz]; decide
    obtain ⟨i, a1, s1, e1, p0, p1, p2, p3⟩ := pick_ok h a s (t.size : Int) h0 (by omega)
    have p4 := p3 (by omega)
    obtain ⟨j, a2, s2, e2, q0, q1, q2, q3⟩ := pick_ok h a1 s1 (wt.size : Int) (by omega) (by omega)
    have q4 := q3 (by omega)
    obtain ⟨c, a3, s3, e3, r0, r1, r2, r3⟩ := pick_ok h a2 s2 3 (by omega) (by omega)
    have hi1 : wrap64 (i + 1) = i + 1 := w64 (by omega) (by omega)
    have hn1 : wrap64 (((n + 1 : Nat) : Int) - 1) = (n : Int) := by rw [w64 (by omega) (by omega)]; omega
    have hs1 : (strOfNums [bt wt j]).size = 1 := rfl
    have xA : (t.extract 0 i.toNat).size = i.toNat := by rw [ByteArray.size_extract]; omega
    have xB : (t.extract i.toNat t.size).size = t.size - i.toNat := by rw [ByteArray.size_extract]; omega
    have xC : (t.extract (wrap64 (i + 1)).toNat t.size).size = t.size - (i.toNat + 1) := by rw [hi1, ByteArray.size_extract]; omega
    by_cases c0 : c = 0
    · obtain ⟨r, a', s', e⟩ := spoilt_l h wt hw n ((t.extract 0 i.toNat ++ strOfNums [bt wt j]) ++ t.extract i.toNat t.size) a3 s3 (by omega) (by rw [ByteArray.size_append, ByteArray.size_append, xA, hs1, xB]; omega) (by omega) (by omega)
      refine ⟨r, a', s', ?_⟩
      refine Ev.step (fun k => by rw [spec_l1Cur_spoilt.l0]) ?_
      refine Ev.pos (by omega) ?_
      refine Ev.step (fun k => by rw [spec_l1Cur_spoilt.j1]) ?_
      refine Ev.pos (decide_eq_true (by omega)) ?_
      refine Ev.cbind e1 ?_
      refine Ev.cbind e2 ?_
      refine Ev.pos q2 ?_
      refine Ev.pos q4 ?_
      refine Ev.cbind rfl ?_
      refine Ev.cbind e3 ?_
      refine Ev.pos c0 ?_
      refine Ev.pos p2 ?_
      refine Ev.pos (Int.le_of_lt p4) ?_
      refine Ev.pos (by show (t.extract 0 i.toNat).size + (strOfNums [bt wt j]).size ≤ _; rw [xA, hs1]; omega) ?_
      refine Ev.pos (by show (t.extract 0 i.toNat ++ strOfNums [bt wt j]).size + (t.extract i.toNat t.size).size ≤ _; rw [ByteArray.size_append, xA, hs1, xB]; omega) ?_
      rw [hn1]
      exact e
    by_cases c1 : c = 1
    · obtain ⟨r, a', s', e⟩ := spoilt_l h wt hw n ((t.extract 0 i.toNat ++ strOfNums [bt wt j]) ++ t.extract (wrap64 (i + 1)).toNat t.size) a3 s3 (by omega) (by rw [ByteArray.size_append, ByteArray.size_append, xA, hs1, xC]; omega) (by omega) (by omega)
      refine ⟨r, a', s', ?_⟩
      refine Ev.step (fun k => by rw [spec_l1Cur_spoilt.l0]) ?_
      refine Ev.pos (by omega) ?_
      refine Ev.step (fun k => by rw [spec_l1Cur_spoilt.j1]) ?_
      refine Ev.pos (decide_eq_true (by omega)) ?_
      refine Ev.cbind e1 ?_
      refine Ev.cbind e2 ?_
      refine Ev.pos q2 ?_
      refine Ev.pos q4 ?_
      refine Ev.cbind rfl ?_
      refine Ev.cbind e3 ?_
      refine Ev.neg c0 ?_
      refine Ev.pos c1 ?_
      refine Ev.pos p2 ?_
      refine Ev.pos (Int.le_of_lt p4) ?_
      refine Ev.pos (by show (t.extract 0 i.toNat).size + (strOfNums [bt wt j]).size ≤ _; rw [xA, hs1]; omega) ?_
      refine Ev.pos (by show 0 ≤ wrap64 (i + 1); rw [hi1]; omega) ?_
      refine Ev.pos (by show wrap64 (i + 1) ≤ _; rw [hi1]; omega) ?_
      refine Ev.pos (by show (t.extract 0 i.toNat ++ strOfNums [bt wt j]).size + (t.extract (wrap64 (i + 1)).toNat t.size).size ≤ _; rw [ByteArray.size_append, xA, hs1, xC]; omega) ?_
      rw [hn1]
      exact e
    · obtain ⟨r, a', s', e⟩ := spoilt_l h wt hw n (t.extract 0 i.toNat ++ t.extract (wrap64 (i + 1)).toNat t.size) a3 s3 (by omega) (by rw [ByteArray.size_append, xA, xC]; omega) (by omega) (by omega)
      refine ⟨r, a', s', ?_⟩
      refine Ev.step (fun k => by rw [spec_l1Cur_spoilt.l0]) ?_
      refine Ev.pos (by omega) ?_
      refine Ev.step (fun k => by rw [spec_l1Cur_spoilt.j1]) ?_
      refine Ev.pos (decide_eq_true (by omega)) ?_
      refine Ev.cbind e1 ?_
      refine Ev.cbind e2 ?_
      refine Ev.pos q2 ?_
      refine Ev.pos q4 ?_
      refine Ev.cbind rfl ?_
      refine Ev.cbind e3 ?_
      refine Ev.neg c0 ?_
      refine Ev.neg c1 ?_
      refine Ev.pos p2 ?_
      refine Ev.pos (Int.le_of_lt p4) ?_
      refine Ev.pos (by show 0 ≤ wrap64 (i + 1); rw [hi1]; omega) ?_
      refine Ev.pos (by show wrap64 (i + 1) ≤ _; rw [hi1]; omega) ?_
      refine Ev.pos (by show (t.extract 0 i.toNat).size + (t.extract (wrap64 (i + 1)).toNat t.size).size ≤ _; rw [xA, xC]; omega) ?_
      rw [hn1]
      exact e
theorem rowNums_len (l : List Int) : (rowNums l).length = 1 + 3 * l.length := by
  unfold rowNums
  rw [List.length_cons, enc3_len]
  omega
theorem drawR {l : List Int} (h : Byt l) : ∃ t : ByteArray, Ev (fun k => spec_DrawReadRow.f k l) t := by
  obtain ⟨x, a1, s1, e1, p0, p1, p2, p3⟩ := width_ok h 0 0 (by omega) (by omega)
  obtain ⟨u, a2, s2, e2, q0, q1, q2⟩ := row_ok h a1 s1 x ⟨p2, p3⟩ (by omega) (by omega)
  obtain ⟨o, a3, s3, e3, r0, r1⟩ := one_ok h a2 s2 3 (by omega) (by omega)
  have eb := bytes_spec u (by omega)
  have hs : (bytesV u).1.size ≤ 1048000 := by
    unfold bytesV
    split
    · show (strOfNums _).size ≤ _
      rw [strOfNums_size, rowNums_len]; omega
    · decide
  obtain ⟨n, a4, s4, e4, t0, t1, t2, t3⟩ := pick_ok h a3 s3 3 (by omega) (by omega)
  have t4 := t3 (by omega)
  obtain ⟨m, rfl⟩ := Int.eq_ofNat_of_zero_le t2
  obtain ⟨v, a5, s5, e5⟩ := spoilt_l h ⟨#[0, 1, 255]⟩ rfl m (bytesV u).1 a4 s4 (by omega) (by omega) (by omega) (by omega)
  unfold spec_DrawReadRow.f
  cases o with
  | true =>
    refine ⟨v, ?_⟩
    refine Ev.cbind e1 ?_
    refine Ev.bind e2 ?_
    refine Ev.bind eb ?_
    refine Ev.cbind e3 ?_
    refine Ev.pos rfl ?_
    refine Ev.bind (a := (v, a5, s5)) ?_ (Ev.now _)
    unfold spec_l1Cur_spoilt.f
    exact Ev.cbind e4 e5
  | false =>
    refine ⟨(bytesV u).1, ?_⟩
    refine Ev.cbind e1 ?_
    refine Ev.bind e2 ?_
    refine Ev.bind eb ?_
    refine Ev.cbind e3 ?_
    exact Ev.neg (show ¬ (false = true) by decide) (Ev.now _)

end Go.Proofs.Ytaddemalepndfai.Pure
