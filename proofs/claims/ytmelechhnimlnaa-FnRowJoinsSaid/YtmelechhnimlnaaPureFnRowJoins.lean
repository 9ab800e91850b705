/- The plain law of FnRowJoins: it answers true. No conditions. -/
import Derived.Test.YtmelechhnimlnaaG12
import Derived.Test.YtmelechhnimlnaaG11
import Derived.Test.YtmelechhnimlnaaG9
import Derived.Test.YtmelechhnimlnaaQDrawJoin
import Derived.Test.YtmelechhnimlnaaQJoinBoth
import Derived.Test.YtmelechhnimlnaaQPick
import Derived.Test.YtmelechhnimlnaaQSame
namespace Go.Proofs.Ytmelechhnimlnaa.Pure
open Go.RowKit Go.Proofs.Ytmelechhnimlnaa.G Go.Proofs.Ytmelechhnimlnaa.X Go.Proofs.YtmelechhnimlnaaW.PrintWords Go.Proofs.YtmelechhnimlnaaW.PrintLast
set_option linter.unusedVariables false
set_option linter.unusedSimpArgs false

def pickV (r l : List Int) : List Int × Bool := if goodRow r = true then (if colsB (r.length : Int) l = true then (l.map (rd r), true) else ([], false)) else ([], false)
theorem pick_both (r l : List Int) (hr : r.length ≤ 1048576) (hl : l.length ≤ 1048576) : Ev (fun k => spec_PickCells.f k r l) (pickV r l) ∧ Ev (fun k => impl_PickCells.f k r l) (pickV r l) := by
  unfold pickV
  refine ⟨?_, ?_⟩
  · unfold spec_PickCells.f
    refine Ev.bind (goodRow_spec _ (by omega)) (Ev.ite (fun _ => Ev.bind (cols_spec _ _ (by omega)) (Ev.ite (fun hc => ?_) (fun _ => Ev.now _))) (fun _ => Ev.now _))
    exact Ev.bind (pick_spec _ _ hl (colsB_mem hc).2) (Ev.now _)
  · unfold impl_PickCells.f
    refine Ev.cbind (goodRow_impl _) (Ev.ite (fun _ => Ev.cbind (cols_impl _ _) (Ev.ite (fun hc => ?_) (fun _ => Ev.now _))) (fun _ => Ev.now _))
    exact Ev.bind (pick_impl _ _ hl (colsB_mem hc).2) (Ev.now _)
theorem pickV_len (r l : List Int) : (pickV r l).1.length ≤ l.length := by
  unfold pickV
  split
  · split
    · simp
    · simp
  · simp
def upto (n : Nat) : List Int := (List.range n).map fun j : Nat => (j : Int)
theorem upto_len (n : Nat) : (upto n).length = n := by simp [upto]
theorem upto_succ (n : Nat) : upto (n + 1) = upto n ++ [(n : Int)] := by simp [upto, List.range_succ]
theorem upto_mem {n : Nat} {x : Int} (h : x ∈ upto n) : ∃ j : Nat, x = (j : Int) ∧ j < n := by
  unfold upto at h
  obtain ⟨j, hj, rfl⟩ := List.mem_map.1 h
  exact ⟨j, rfl, List.mem_range.1 hj⟩
theorem pick_front (a z : List Int) (hg : goodRow (a ++ z) = true) (ha : a.length ≤ 6) : pickV (a ++ z) (upto a.length) = (a, true) := by
  have hc : colsB (((a ++ z).length : Nat) : Int) (upto a.length) = true := by
    unfold colsB
    rw [Bool.and_eq_true, List.all_eq_true]
    refine ⟨by rw [upto_len]; exact decide_eq_true ha, fun x hx => ?_⟩
    obtain ⟨j, rfl, hj⟩ := upto_mem hx
    unfold placeB
    rw [decide_eq_true_eq, List.length_append]
    omega
  unfold pickV
  rw [if_pos hg, if_pos hc]
  congr 1
  refine List.ext_getElem (by rw [List.length_map, upto_len]) (fun i h1 h2 => ?_)
  have hi : i < (a ++ z).length := by rw [List.length_append]; omega
  simp only [List.getElem_map, upto, List.getElem_range]
  rw [rd_lt hi, List.getElem_append_left h2]
theorem J4 {x : List Int} (h : Byt x) : Ev (fun k => laws_FnRowJoins.j4 k x) true := by
  obtain ⟨r, l, ed, hr, hl⟩ := drawP h
  obtain ⟨es, ei⟩ := pick_both r l (by omega) (by omega)
  have hv := pickV_len r l
  refine Ev.step (fun k => by rw [laws_FnRowJoins.j4]) ?_
  refine Ev.bind ed ?_
  refine Ev.bind ei ?_
  refine Ev.bind es ?_
  refine Ev.pos (by simp) ?_
  exact Ev.bind (Ev.eq (same_ev _ _ (by omega)) (by simp)) (Ev.now _)
theorem L1 {x : List Int} (h : Byt x) (a b : List Int) (l : List (List Int)) (hl : l.length ≤ 6) (hok : ∀ p ∈ l, okB (a.length : Int) (b.length : Int) p = true ∧ sameB a b p = true) (d : Nat) : ∀ i : Nat, i + d = l.length →
    Ev (fun k => laws_FnRowJoins.l1 k x l (l.length : Int) (i : Int) a b) true := by
  induction d with
  | zero =>
    intro i hi
    exact Ev.step (fun k => by rw [laws_FnRowJoins.l1]) (Ev.neg (by omega) (J4 h))
  | succ d ih =>
    intro i hi
    have hlt : i < l.length := by omega
    obtain ⟨ho, hs⟩ := hok _ (List.getElem_mem hlt)
    obtain ⟨h1, h2, h3⟩ := ok_parts ho
    have hs2 : rd a (rd l[i] 0) = rd b (rd l[i] 1) := by unfold sameB at hs; exact beq_iff_eq.1 hs
    refine Ev.step (fun k => by rw [laws_FnRowJoins.l1]) (Ev.pos (by omega) (Ev.pos (by omega) (Ev.pos (by omega) ?_)))
    rw [rdl hlt, w64 (x := (i : Int) + 1) (by omega) (by omega)]
    exact Ev.pos (by omega) (Ev.pos h2.1 (Ev.pos h2.2 (Ev.pos (by omega) (Ev.pos h3.1 (Ev.pos h3.2 (Ev.pos hs2 (ih (i + 1) (by omega))))))))
theorem L0 {x : List Int} (h : Byt x) (a b z : List Int) (l : List (List Int)) (hl : l.length ≤ 6) (hok : ∀ p ∈ l, okB (a.length : Int) (b.length : Int) p = true ∧ sameB a b p = true) (hg : goodRow (a ++ z) = true) (ha : a.length ≤ 6) (hb : b.length ≤ 7) (hz : (a ++ z).length ≤ a.length + b.length) (d : Nat) : ∀ i : Nat, i + d = a.length →
    Ev (fun k => laws_FnRowJoins.l0 k x l (upto i) (a.length : Int) (i : Int) a b (a ++ z)) true := by
  induction d with
  | zero =>
    intro i hi
    obtain rfl : i = a.length := by omega
    have hzl : (a ++ z).length ≤ 1048576 := by omega
    refine Ev.step (fun k => by rw [laws_FnRowJoins.l0]) (Ev.neg (by omega) ?_)
    refine Ev.bind (pick_both (a ++ z) (upto a.length) hzl (by rw [upto_len]; omega)).2 ?_
    rw [pick_front a z hg ha]
    refine Ev.pos rfl ?_
    refine Ev.bind (same_ev a a (by omega)) ?_
    refine Ev.pos (by simp) ?_
    refine Ev.cbind (goodRow_impl _) ?_
    refine Ev.pos hg ?_
    rw [show decide ((((a ++ z).length : Nat) : Int) > wrap64 ((a.length : Int) + (b.length : Int))) = false from by rw [w64 (by omega) (by omega)]; exact decide_eq_false (by omega)]
    refine Ev.step (fun k => by rw [laws_FnRowJoins.j2]) (Ev.neg (by decide) ?_)
    exact L1 h a b l hl hok l.length 0 (by omega)
  | succ d ih =>
    intro i hi
    refine Ev.step (fun k => by rw [laws_FnRowJoins.l0]) (Ev.pos (by omega) (Ev.pos (by rw [upto_len]; omega) ?_))
    rw [w64 (x := (i : Int) + 1) (by omega) (by omega), ← upto_succ]
    exact ih (i + 1) (by omega)
theorem FnRowJoins : laws_FnRowJoins.Pure := fun x0 h0 x1 h1 => by
  have ev : Ev (fun k => laws_FnRowJoins.f k x0 x1) true := by
    unfold laws_FnRowJoins.f
    by_cases c : wrap64 ((x0.length : Int) + (x1.length : Int)) > 1048576
    · exact Ev.pos c (Ev.now _)
    obtain ⟨a, b, l, ed, ha, hb, hl⟩ := drawJ h0
    obtain ⟨es, ei⟩ := join_both a b l (by omega) (by omega) (by omega)
    have hv := joinV_len a b l
    refine Ev.neg c ?_
    refine Ev.bind ed ?_
    refine Ev.bind ei ?_
    refine Ev.bind es ?_
    refine Ev.neg (by simp) ?_
    refine Ev.bind (same_ev _ _ (by omega)) ?_
    refine Ev.step (fun k => by rw [laws_FnRowJoins.j0]) ?_
    refine Ev.neg (by simp) ?_
    by_cases t : (joinV a b l).2 = true
    · obtain ⟨t1, t2, t3, t4, t5, t6, z, t7⟩ := joinV_true t
      refine Ev.pos t ?_
      have ha6 : a.length ≤ 6 := by unfold goodRow at t1; rw [Bool.and_eq_true, decide_eq_true_eq] at t1; exact t1.1
      rw [t7] at t5 t6
      show Ev (fun k => laws_FnRowJoins.l0 k x1 l [] (a.length : Int) 0 a b (joinV a b l).1) true
      rw [t7]
      exact L0 h1 a b z l t3 t4 t5 ha6 hb t6 a.length 0 (by omega)
    · exact Ev.neg t (J4 h1)
  obtain ⟨K, hK⟩ := ev
  exact ⟨K, hK K (Nat.le_refl _)⟩

end Go.Proofs.Ytmelechhnimlnaa.Pure
