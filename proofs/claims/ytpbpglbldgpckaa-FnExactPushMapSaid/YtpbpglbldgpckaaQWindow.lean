/- Maps and their composition. No conditions. -/
import Derived.Test.YtpbpglbldgpckaaG5
import Derived.Test.YtpbpglbldgpckaaG9
import Derived.Test.YtpbpglbldgpckaaQMap
import Derived.Test.YtpbpglbldgpckaaQBase
namespace Go.Proofs.Ytpbpglbldgpckaa.Pure
open Go.RowKit Go.Proofs.Ytpbpglbldgpckaa.G Go.Proofs.Ytpbpglbldgpckaa.X Go.Proofs.YtpbpglbldgpckaaW.PrintWords Go.Proofs.YtpbpglbldgpckaaW.PrintLast
set_option linter.unusedVariables false

/-- One map, then another one. -/
def thenM (m n : Int × Int) : Int × Int := (Int.tmod (wrap64 (m.1 * n.1)) 1009, Int.tmod (wrap64 ((wrap64 (n.1 * m.2)) + n.2)) 1009)
def gm (m : Int × Int) : Prop := 0 ≤ m.1 ∧ m.1 ≤ 1008 ∧ 0 ≤ m.2 ∧ m.2 ≤ 1008
theorem mul_b {a b : Int} (ha : 0 ≤ a) (ha' : a ≤ 1008) (hb : 0 ≤ b) (hb' : b ≤ 1008) : 0 ≤ a * b ∧ a * b ≤ 1016064 := by
  refine ⟨Int.mul_nonneg ha hb, ?_⟩
  have h1 : a * b ≤ 1008 * b := Int.mul_le_mul_of_nonneg_right ha' hb
  omega
theorem thenM_eq {m n : Int × Int} (hm : gm m) (hn : gm n) : thenM m n = ((m.1 * n.1) % 1009, (n.1 * m.2 + n.2) % 1009) := by
  obtain ⟨a1, a2, a3, a4⟩ := hm
  obtain ⟨b1, b2, b3, b4⟩ := hn
  have h1 := mul_b a1 a2 b1 b2
  have h2 := mul_b b1 b2 a3 a4
  unfold thenM
  rw [w64 (x := m.1 * n.1) (by omega) (by omega), w64 (x := n.1 * m.2) (by omega) (by omega), w64 (by omega) (by omega), Int.tmod_eq_emod_of_nonneg h1.1, Int.tmod_eq_emod_of_nonneg (by omega)]
theorem thenM_good {m n : Int × Int} (hm : gm m) (hn : gm n) : gm (thenM m n) := by
  rw [thenM_eq hm hn]
  unfold gm
  dsimp only
  omega
theorem mod_mul_l (x y p e : Int) : ((x % p) * y + e) % p = (x * y + e) % p := by
  rw [Int.add_emod, Int.mul_emod, Int.emod_emod_of_dvd x (Int.dvd_refl p), ← Int.mul_emod, ← Int.add_emod]
theorem mod_add_r (x e p : Int) : (x + e % p) % p = (x + e) % p := by
  rw [Int.add_emod, Int.emod_emod_of_dvd e (Int.dvd_refl p), ← Int.add_emod]
theorem thenM_assoc {a b c : Int × Int} (ha : gm a) (hb : gm b) (hc : gm c) : thenM (thenM a b) c = thenM a (thenM b c) := by
  rw [thenM_eq (thenM_good ha hb) hc, thenM_eq ha (thenM_good hb hc), thenM_eq ha hb, thenM_eq hb hc]
  dsimp only
  have e1 : (a.1 * b.1 % 1009 * c.1) % 1009 = (a.1 * (b.1 * c.1 % 1009)) % 1009 := by
    have h1 := mod_mul_l (a.1 * b.1) c.1 1009 0
    have h2 := mod_mul_l (b.1 * c.1) a.1 1009 0
    rw [Int.add_zero, Int.add_zero] at h1 h2
    rw [h1, Int.mul_comm a.1 (b.1 * c.1 % 1009), h2]
    congr 1
    rw [Int.mul_assoc, Int.mul_comm]
  have e2 : (c.1 * ((b.1 * a.2 + b.2) % 1009) + c.2) % 1009 = (b.1 * c.1 % 1009 * a.2 + (c.1 * b.2 + c.2) % 1009) % 1009 := by
    rw [Int.mul_comm c.1 ((b.1 * a.2 + b.2) % 1009), mod_mul_l, mod_mul_l, mod_add_r]
    congr 1
    rw [Int.add_mul, Int.mul_comm b.2 c.1, Int.mul_right_comm b.1 a.2 c.1]
    omega
  rw [e1, e2]
theorem one_good : gm (1, 0) := by unfold gm; decide
theorem one_then {m : Int × Int} (hm : gm m) : thenM (1, 0) m = m := by
  rw [thenM_eq one_good hm]
  obtain ⟨a1, a2, a3, a4⟩ := hm
  refine Prod.ext ?_ ?_ <;> dsimp only <;> omega
theorem then_one {m : Int × Int} (hm : gm m) : thenM m (1, 0) = m := by
  rw [thenM_eq hm one_good]
  obtain ⟨a1, a2, a3, a4⟩ := hm
  refine Prod.ext ?_ ?_ <;> dsimp only <;> omega

def prM (m : S51) : Int × Int := (m.f0, m.f1)
/-- Maps of a list composed behind one. -/
def foldM : Int × Int → List S51 → Int × Int
  | s, [] => s
  | s, m :: l => foldM (thenM s (prM m)) l
theorem foldM_then {s : Int × Int} : ∀ (l : List S51) (t : Int × Int), gm s → gm t → (∀ m ∈ l, gm (prM m)) → foldM (thenM s t) l = thenM s (foldM t l)
  | [], t, _, _, _ => rfl
  | m :: l, t, hs, ht, hl => by
    have hm := hl m List.mem_cons_self
    unfold foldM
    rw [thenM_assoc hs ht hm]
    exact foldM_then l _ hs (thenM_good ht hm) (fun x hx => hl x (List.mem_cons_of_mem _ hx))
theorem foldM_good : ∀ (l : List S51) (t : Int × Int), gm t → (∀ m ∈ l, gm (prM m)) → gm (foldM t l)
  | [], t, ht, _ => ht
  | m :: l, t, ht, hl => foldM_good l _ (thenM_good ht (hl m List.mem_cons_self)) (fun x hx => hl x (List.mem_cons_of_mem _ hx))
theorem foldM_cons {m : S51} {l : List S51} (hm : gm (prM m)) (hl : ∀ x ∈ l, gm (prM x)) : foldM (1, 0) (m :: l) = thenM (prM m) (foldM (1, 0) l) := by
  rw [← foldM_then l (1, 0) hm one_good hl, then_one hm]
  show foldM (thenM (1, 0) (prM m)) l = foldM (prM m) l
  rw [one_then hm]

theorem rdM_lt {l : List S51} {i : Nat} (h : i < l.length) : rd_T51 l (i : Int) = l[i] := by simp [rd_T51, h]
theorem all_spec_l (l : List S51) (hl : l.length ≤ 1048576) (d : Nat) : ∀ (i : Nat) (s : Int × Int), i + d = l.length →
    Ev (fun k => spec_l17All.l0 k l (l.length : Int) (i : Int) s.1 s.2) (foldM s (l.drop i)) := by
  induction d with
  | zero =>
    intro i s hi
    rw [List.drop_of_length_le (by omega)]
    exact Ev.step (fun k => by rw [spec_l17All.l0]) (Ev.neg (by omega) (Ev.eq (Ev.now (s.1, s.2)) rfl))
  | succ d ih =>
    intro i s hi
    have hlt : i < l.length := by omega
    rw [drop_cons hlt]
    refine Ev.step (fun k => by rw [spec_l17All.l0]) (Ev.pos (by omega) (Ev.pos (by omega) (Ev.pos (by omega) ?_)))
    rw [rdM_lt hlt, w64 (x := (i : Int) + 1) (by omega) (by omega)]
    exact Ev.cbind (a := thenM s (prM l[i])) rfl (ih (i + 1) _ (by omega))
theorem all_spec (l : List S51) (hl : l.length ≤ 1048576) : Ev (fun k => spec_l17All.f k l) (foldM (1, 0) l) := by
  unfold spec_l17All.f spec_l17One.f
  refine Ev.cbind rfl ?_
  have := all_spec_l l hl l.length 0 (1, 0) (by omega)
  rwa [List.drop_zero] at this
theorem then_impl_eq (m n : Int × Int) : impl_Map_then.f m.1 m.2 n.1 n.2 = some (thenM m n) := by
  unfold impl_Map_then.f thenM
  rw [Int.mul_comm n.1 m.1]
theorem all_impl_l (l : List S51) (hl : l.length ≤ 1048576) (d : Nat) : ∀ (i : Nat) (s : Int × Int), i + d = l.length →
    Ev (fun k => impl_composed.l0 k l (l.length : Int) (i : Int) s.1 s.2) (foldM s (l.drop i)) := by
  induction d with
  | zero =>
    intro i s hi
    rw [List.drop_of_length_le (by omega)]
    exact Ev.step (fun k => by rw [impl_composed.l0]) (Ev.neg (by omega) (Ev.eq (Ev.now (s.1, s.2)) rfl))
  | succ d ih =>
    intro i s hi
    have hlt : i < l.length := by omega
    rw [drop_cons hlt]
    refine Ev.step (fun k => by rw [impl_composed.l0]) (Ev.pos (by omega) (Ev.pos (by omega) (Ev.pos (by omega) ?_)))
    rw [rdM_lt hlt, w64 (x := (i : Int) + 1) (by omega) (by omega)]
    exact Ev.cbind (then_impl_eq s (prM l[i])) (ih (i + 1) _ (by omega))
theorem all_impl (l : List S51) (hl : l.length ≤ 1048576) : Ev (fun k => impl_composed.f k l) (foldM (1, 0) l) := by
  unfold impl_composed.f impl_same.f
  refine Ev.cbind rfl ?_
  have := all_impl_l l hl l.length 0 (1, 0) (by omega)
  rwa [List.drop_zero] at this

/-- A list turned round: from place i - 1 down. -/
theorem turned_l (l : List S51) (hl : l.length ≤ 1048576) : ∀ (i : Nat) (o : List S51), i ≤ l.length → o.length + i ≤ l.length →
    Ev (fun k => spec_l17Turned.l0 k l o ((i : Int) - 1)) (o ++ (l.take i).reverse) := by
  intro i
  induction i with
  | zero =>
    intro o hi ho
    exact Ev.step (fun k => by rw [spec_l17Turned.l0]) (Ev.neg (by omega) (Ev.eq (Ev.now o) (by simp)))
  | succ i ih =>
    intro o hi ho
    have hlt : i < l.length := by omega
    have e : ((i + 1 : Nat) : Int) - 1 = (i : Int) := by omega
    rw [e]
    refine Ev.step (fun k => by rw [spec_l17Turned.l0]) (Ev.pos (by omega) (Ev.pos (by omega) (Ev.pos (by omega) (Ev.pos (by omega) ?_))))
    rw [rdM_lt hlt, w64 (x := (i : Int) - 1) (by omega) (by omega)]
    refine Ev.eq (ih (o ++ [l[i]]) (by omega) (by simp; omega)) ?_
    rw [take_snoc hlt, List.reverse_append, List.append_assoc]
    rfl
theorem turned (l : List S51) (hl : l.length ≤ 1048576) : Ev (fun k => spec_l17Turned.f k l) l.reverse := by
  unfold spec_l17Turned.f
  rw [w64 (by omega) (by omega)]
  have := turned_l l hl l.length [] (by omega) (by simp)
  simpa using this

/-- The sums of a front. -/
def sumsL : List S51 → Int × Int → List S51
  | [], _ => []
  | m :: l, s => ⟨(thenM (prM m) s).1, (thenM (prM m) s).2⟩ :: sumsL l (thenM (prM m) s)
theorem sums_l (l : List S51) (hl : l.length ≤ 1048576) (d : Nat) : ∀ (i : Nat) (s : Int × Int) (o : List S51), i + d = l.length → o.length ≤ i →
    Ev (fun k => impl_sumsOf.l0 k o l (l.length : Int) (i : Int) s.1 s.2) (o ++ sumsL (l.drop i) s) := by
  induction d with
  | zero =>
    intro i s o hi ho
    rw [List.drop_of_length_le (by omega)]
    exact Ev.step (fun k => by rw [impl_sumsOf.l0]) (Ev.neg (by omega) (Ev.eq (Ev.now o) (by simp [sumsL])))
  | succ d ih =>
    intro i s o hi ho
    have hlt : i < l.length := by omega
    rw [drop_cons hlt]
    refine Ev.step (fun k => by rw [impl_sumsOf.l0]) (Ev.pos (by omega) (Ev.pos (by omega) (Ev.pos (by omega) ?_)))
    rw [rdM_lt hlt, w64 (x := (i : Int) + 1) (by omega) (by omega)]
    refine Ev.cbind (then_impl_eq (prM l[i]) s) (Ev.pos (by omega) (Ev.eq (ih (i + 1) _ _ (by omega) (by simp; omega)) ?_))
    simp [sumsL]
theorem sums_ev (l : List S51) (hl : l.length ≤ 1048576) : Ev (fun k => impl_sumsOf.f k l) (sumsL l (1, 0)) := by
  unfold impl_sumsOf.f impl_same.f
  refine Ev.cbind rfl ?_
  have := sums_l l hl l.length 0 (1, 0) [] (by omega) (by simp)
  simpa using this
theorem sumsL_length : ∀ (l : List S51) (s : Int × Int), (sumsL l s).length = l.length
  | [], _ => rfl
  | m :: l, s => by unfold sumsL; rw [List.length_cons, List.length_cons, sumsL_length l]
/-- A sum is the composition of the maps from its place down. -/
theorem sums_at : ∀ (l p : List S51) (i : Nat) (h : i < (sumsL l (foldM (1, 0) p)).length) (hl : ∀ m ∈ l, gm (prM m)) (hp : ∀ m ∈ p, gm (prM m)),
    prM (sumsL l (foldM (1, 0) p))[i] = foldM (1, 0) ((l.take (i + 1)).reverse ++ p)
  | [], p, i, h, _, _ => absurd h (by simp [sumsL])
  | m :: l, p, i, h, hl, hp => by
    have hm := hl m List.mem_cons_self
    have e : thenM (prM m) (foldM (1, 0) p) = foldM (1, 0) (m :: p) := (foldM_cons hm hp).symm
    have e2 : sumsL (m :: l) (foldM (1, 0) p) = ⟨(foldM (1, 0) (m :: p)).1, (foldM (1, 0) (m :: p)).2⟩ :: sumsL l (foldM (1, 0) (m :: p)) := by
      rw [← e]; rfl
    cases i with
    | zero =>
      rw [List.getElem_of_eq e2 h, List.getElem_cons_zero]
      rfl
    | succ i =>
      have h' : i < (sumsL l (foldM (1, 0) (m :: p))).length := by
        have := h; rw [e2, List.length_cons] at this; omega
      have := sums_at l (m :: p) i h' (fun x hx => hl x (List.mem_cons_of_mem _ hx)) (fun x hx => (List.mem_cons.1 hx).elim (fun e => e ▸ hm) (hp x))
      rw [List.getElem_of_eq e2 h, List.getElem_cons_succ, this]
      simp

end Go.Proofs.Ytpbpglbldgpckaa.Pure
