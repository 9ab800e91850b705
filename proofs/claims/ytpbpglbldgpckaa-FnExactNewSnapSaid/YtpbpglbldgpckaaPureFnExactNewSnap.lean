/- The plain law of NewSnap: both functions answer alike. No conditions. -/
import Derived.Test.YtpbpglbldgpckaaHFnExactNewSnap
import Derived.Test.YtpbpglbldgpckaaQSnap
import Derived.Test.YtpbpglbldgpckaaG8
import Derived.Test.YtpbpglbldgpckaaG5
import Derived.Test.YtpbpglbldgpckaaG7
namespace Go.Proofs.Ytpbpglbldgpckaa.Pure
open Go.RowKit Go.Proofs.Ytpbpglbldgpckaa.G Go.Proofs.Ytpbpglbldgpckaa.X Go.Proofs.YtpbpglbldgpckaaW.PrintWords Go.Proofs.YtpbpglbldgpckaaW.PrintLast Go.Proofs.Ytpbpglbldgpckaa.HFnExactNewSnap
set_option linter.unusedVariables false

abbrev SP := S138
abbrev SW := S140
def mP (n : Nat) : List SP := (List.range n).map fun (i : Nat) => ⟨1 + 3 * (i : Int), 2 + 3 * (i : Int), Int.tmod (3 + 3 * (i : Int)) 3 == 0⟩
def mW (a : Int) (n : Nat) : List SW := (List.range n).map fun (i : Nat) => ⟨[], [], Int.tmod (a + (i : Int)) 3 == 0⟩
def wires (n : Nat) : List SW := List.replicate (n * n) z140
def procs (x : List Int) : List SP := x.map fun n => ⟨n, 0, false⟩
/-- What the law asks of an answer's snap. -/
def Okay (P : List SP) (W : List SW) : Prop :=
  Ev (fun k => laws_eqSnap.f k P W P W) true ∧ ∃ (m : Int) (P' : List SP) (W' : List SW), 0 ≤ m ∧ Ev (fun k => laws_markSnap.f k P W 1) (m, P', W') ∧ Ev (fun k => laws_heldSnap.f k P' W' 1) m
theorem okay_nil : Okay [] [] :=
  ⟨⟨60, fun n hn => by obtain ⟨j, rfl⟩ : ∃ j, n = j + 60 := ⟨n - 60, by omega⟩; kernel_rfl⟩, 1, [], [], by omega,
   ⟨60, fun n hn => by obtain ⟨j, rfl⟩ : ∃ j, n = j + 60 := ⟨n - 60, by omega⟩; kernel_rfl⟩, ⟨60, fun n hn => by obtain ⟨j, rfl⟩ : ∃ j, n = j + 60 := ⟨n - 60, by omega⟩; kernel_rfl⟩⟩
theorem eq_ok (x : List Int) (h : x.length ≤ 4) : Ev (fun k => laws_eqSnap.f k (procs x) (wires x.length) (procs x) (wires x.length)) true := by
  have e : ∀ q, szvLS140 (List.replicate q z140) = q := fun q => by
    induction q with
    | zero => rfl
    | succ q ih => rw [List.replicate_succ]; unfold szvLS140 at ih ⊢; rw [List.map_cons, List.sum_cons, List.length_cons]; have : szvS140 z140 = 0 := rfl; omega
  have q : x.length * x.length ≤ 4 * 4 := Nat.mul_le_mul h h
  have hp : (procs x).length = x.length := List.length_map _
  exact laws_eqSnap_lv (procs x) (wires x.length) (by unfold wires; rw [e, hp]; omega)
set_option maxRecDepth 100000
theorem mk2 (a b : Int) : Ev (fun k => laws_markSnap.f k (procs [a, b]) (wires 2) 1) (11, mP 2, mW 7 4) :=
  ⟨8, fun n hn => by obtain ⟨j, rfl⟩ : ∃ j, n = j + 8 := ⟨n - 8, by omega⟩; kernel_rfl⟩
theorem hd2 : Ev (fun k => laws_heldSnap.f k (mP 2) (mW 7 4) 1) 11 :=
  ⟨8, fun n hn => by obtain ⟨j, rfl⟩ : ∃ j, n = j + 8 := ⟨n - 8, by omega⟩; kernel_rfl⟩
theorem mk3 (a b c : Int) : Ev (fun k => laws_markSnap.f k (procs [a, b, c]) (wires 3) 1) (19, mP 3, mW 10 9) :=
  ⟨13, fun n hn => by obtain ⟨j, rfl⟩ : ∃ j, n = j + 13 := ⟨n - 13, by omega⟩; kernel_rfl⟩
theorem hd3 : Ev (fun k => laws_heldSnap.f k (mP 3) (mW 10 9) 1) 19 :=
  ⟨13, fun n hn => by obtain ⟨j, rfl⟩ : ∃ j, n = j + 13 := ⟨n - 13, by omega⟩; kernel_rfl⟩
theorem mk4 (a b c d : Int) : Ev (fun k => laws_markSnap.f k (procs [a, b, c, d]) (wires 4) 1) (29, mP 4, mW 13 16) :=
  ⟨20, fun n hn => by obtain ⟨j, rfl⟩ : ∃ j, n = j + 20 := ⟨n - 20, by omega⟩; kernel_rfl⟩
theorem hd4 : Ev (fun k => laws_heldSnap.f k (mP 4) (mW 13 16) 1) 29 :=
  ⟨20, fun n hn => by obtain ⟨j, rfl⟩ : ∃ j, n = j + 20 := ⟨n - 20, by omega⟩; kernel_rfl⟩
theorem okay_some (x : List Int) (h : 2 ≤ x.length ∧ x.length ≤ 4) : Okay (procs x) (wires x.length) := by
  refine ⟨eq_ok x h.2, ?_⟩
  match x, h with
  | [a, b], _ => exact ⟨11, mP 2, mW 7 4, by omega, mk2 a b, hd2⟩
  | [a, b, c], _ => exact ⟨19, mP 3, mW 10 9, by omega, mk3 a b c, hd3⟩
  | [a, b, c, d], _ => exact ⟨29, mP 4, mW 13 16, by omega, mk4 a b c d, hd4⟩
theorem law_of (x : List Int) (hl : x.length ≤ 1048576) (v : List SP × List SW × Bool) (hs : Ev (fun k => spec_NewSnap.f k x) v) (hi : Ev (fun k => impl_NewSnap.f k x) v) (ho : Okay v.1 v.2.1) : Ev (fun k => laws_FnExactNewSnap.f k x) true := by
  obtain ⟨he, m, P', W', h0, hm, hh⟩ := ho
  have ht := laws_toIntS_ev x hl
  have ne : ¬ (v.2.2 != v.2.2) = true := by simp
  unfold laws_FnExactNewSnap.f
  refine Ev.neg (by omega) ?_
  refine Ev.bind ht (Ev.bind hs (Ev.bind ht (Ev.bind hi ?_)))
  refine Ev.bind he (Ev.pos rfl (Ev.neg ne (Ev.bind ht ?_)))
  refine Ev.bind (laws_eqIntS_ev x (by omega)) (Ev.pos rfl ?_)
  refine Ev.bind (laws_markIntS_ev x 1 (by omega) (by omega)) (Ev.neg (by show ¬ _ < _; omega) ?_)
  refine Ev.bind he (Ev.pos rfl (Ev.neg ne ?_))
  refine Ev.bind hm (Ev.bind hh (Ev.neg (by omega) (Ev.pos rfl ?_)))
  refine Ev.bind ht (Ev.bind hi (Ev.bind he (Ev.pos rfl (Ev.neg ne ?_))))
  exact Ev.bind hh (Ev.neg (by omega) (Ev.pos rfl (Ev.now true)))
theorem sq_ok {n : Nat} (h : n ≤ 1048576) : wrap64 ((n : Int) * (n : Int)) = ((n * n : Nat) : Int) ∧ n * n ≤ 1099511627776 := by
  have q : n * n ≤ 1048576 * 1048576 := Nat.mul_le_mul h h
  rw [Int.natCast_mul]
  have e : (n : Int) * (n : Int) = ((n * n : Nat) : Int) := (Int.natCast_mul n n).symm
  exact ⟨by rw [e]; exact w64 (by omega) (by omega), by omega⟩
theorem procs_take {x : List Int} {i : Nat} (h : i < x.length) : procs (x.take i) ++ [(⟨rd x (i : Int), 0, false⟩ : SP)] = procs (x.take (i + 1)) := by
  rw [List.take_succ_eq_append_getElem h, rd_lt h]
  unfold procs
  rw [List.map_append]; rfl
theorem spec_l (x : List Int) (hl : x.length ≤ 1048576) (g : Bool) (hg : Ev (fun k => spec_GoodSnap.f k (procs x) (wires x.length)) g) (d : Nat) : ∀ (i : Nat), i + d = x.length →
    Ev (fun k => spec_NewSnap.l0 k x x (x.length : Int) (i : Int) (procs (x.take i))) (if g = true then (procs x, wires x.length, true) else ([], [], false)) := by
  obtain ⟨e1, e2⟩ := sq_ok hl
  induction d with
  | zero =>
    intro i hi
    obtain rfl : i = x.length := by omega
    refine Ev.step (fun k => by rw [spec_NewSnap.l0]) (Ev.neg (by omega) ?_)
    rw [e1, List.take_length, Int.toNat_natCast]
    refine Ev.pos (by omega) (Ev.pos (by omega) (Ev.cbind rfl (Ev.bind hg ?_)))
    exact Ev.ite (fun _ => Ev.now _) (fun _ => Ev.now _)
  | succ d ih =>
    intro i hi
    have hlt : i < x.length := by omega
    have hp : (procs (x.take i)).length = i := by unfold procs; rw [List.length_map, List.length_take]; omega
    refine Ev.step (fun k => by rw [spec_NewSnap.l0]) (Ev.pos (by omega) (Ev.pos (by omega) (Ev.pos (by omega) (Ev.pos (by rw [hp]; omega) ?_))))
    rw [procs_take hlt, w64 (x := (i : Int) + 1) (by omega) (by omega)]
    exact ih (i + 1) (by omega)
theorem impl_l (x : List Int) (hl : x.length ≤ 1048576) (d : Nat) : ∀ (i : Nat), i + d = x.length →
    Ev (fun k => impl_newSnap.l0 k x x (x.length : Int) (i : Int) (procs (x.take i))) (procs x, wires x.length) := by
  obtain ⟨e1, e2⟩ := sq_ok hl
  induction d with
  | zero =>
    intro i hi
    obtain rfl : i = x.length := by omega
    refine Ev.step (fun k => by rw [impl_newSnap.l0]) (Ev.neg (by omega) ?_)
    rw [e1, List.take_length, Int.toNat_natCast]
    exact Ev.pos (by omega) (Ev.pos (by omega) (Ev.now _))
  | succ d ih =>
    intro i hi
    have hlt : i < x.length := by omega
    have hp : (procs (x.take i)).length = i := by unfold procs; rw [List.length_map, List.length_take]; omega
    refine Ev.step (fun k => by rw [impl_newSnap.l0]) (Ev.pos (by omega) (Ev.pos (by omega) (Ev.pos (by omega) (Ev.pos (by rw [hp]; omega) ?_))))
    rw [procs_take hlt, w64 (x := (i : Int) + 1) (by omega) (by omega)]
    exact ih (i + 1) (by omega)
theorem rem_rep (q : Nat) : remW (List.replicate q z140) = 0 := by
  induction q with
  | zero => rfl
  | succ q ih => rw [List.replicate_succ, remW_cons, ih]; rfl
theorem FnExactNewSnap : laws_FnExactNewSnap.Pure := by
  intro x hx
  apply Ev.rounds
  by_cases hl : x.length ≤ 1048576
  case neg =>
    unfold laws_FnExactNewSnap.f
    exact Ev.pos (by omega) (Ev.now true)
  have hp : (procs x).length = x.length := List.length_map _
  by_cases hn : 2 ≤ x.length ∧ x.length ≤ 4
  · have q : x.length * x.length ≤ 4 * 4 := Nat.mul_le_mul hn.2 hn.2
    have hr : remW (wires x.length) ≤ 1048576 := by unfold wires; rw [rem_rep]; omega
    have hw : ∀ w ∈ wires x.length, w.f0.length ≤ 1048576 ∧ w.f1.length ≤ 1048576 := fun w hw => by rw [List.eq_of_mem_replicate hw]; exact ⟨by decide, by decide⟩
    have hwl : (wires x.length).length ≤ 1048576 := by unfold wires; rw [List.length_replicate]; omega
    have h1 := snap_spec (procs x) (wires x.length) hr hw hwl
    have h2 := snap_impl (procs x) (wires x.length) hr hw hwl
    generalize goodSnap (procs x) (wires x.length) = g at h1 h2
    refine law_of x hl (if g = true then (procs x, wires x.length, true) else ([], [], false)) (spec_l x hl g h1 x.length 0 (by omega)) ?_ ?_
    · unfold impl_NewSnap.f
      refine Ev.cbind (inS_impl _ _ _) (Ev.pos (by rw [decide_eq_true_eq]; omega) ?_)
      unfold impl_newSnap.f
      refine Ev.bind (impl_l x hl x.length 0 (by omega)) (Ev.bind h2 ?_)
      exact Ev.ite (fun _ => Ev.now _) (fun _ => Ev.now _)
    · cases g with
      | true => exact okay_some x hn
      | false => exact okay_nil
  · have h1 : Ev (fun k => spec_GoodSnap.f k (procs x) (wires x.length)) false := by
      unfold spec_GoodSnap.f
      refine Ev.cbind (inS_spec _ _ _) (Ev.neg (by rw [decide_eq_true_eq, hp]; omega) ?_)
      exact Ev.step (fun k => by rw [spec_GoodSnap.j0]) (Ev.pos rfl (Ev.now _))
    refine law_of x hl ([], [], false) (spec_l x hl false h1 x.length 0 (by omega)) ?_ okay_nil
    unfold impl_NewSnap.f
    exact Ev.cbind (inS_impl _ _ _) (Ev.neg (by rw [decide_eq_true_eq]; omega) (Ev.now _))

end Go.Proofs.Ytpbpglbldgpckaa.Pure
