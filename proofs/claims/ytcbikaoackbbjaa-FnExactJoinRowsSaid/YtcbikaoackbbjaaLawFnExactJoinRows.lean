/- The law FnExactJoinRows holds of the program for every input: the given statement FnExactJoinRowsSaid. No conditions. -/
import Derived.Test.YtcbikaoackbbjaaRows
import Derived.Test.YtcbikaoackbbjaaG10
import Derived.Test.YtcbikaoackbbjaaPureFnExactJoinRows
import Derived.Test.YtcbikaoackbbjaaGO
import Derived.Test.YtcbikaoackbbjaaX
import Derived.WalkKit
import Derived.ProofKit
import Derived.OpenShut
import Derived.ShutString
import Derived.ChangeOld
import Derived.Below
import Derived.SizedLaws
import Derived.Lib.SmallJoins
import Derived.Test.YtcbikaoackbbjaaWSized
namespace Go.Proofs.Ytcbikaoackbbjaa.fnExactJoinRows
open Go.ChangeShapes Go.WideShapes Go.ChangeAt Go.RowKit Go.Joins Go.Proofs.YtcbikaoackbbjaaW.PrintWords Go.Proofs.Ytcbikaoackbbjaa.G Go.Proofs.Ytcbikaoackbbjaa.X
open Go.ChangeMaps (open_string shut_string)
set_option linter.unusedVariables false
theorem own : ownKnob Try.prog.godebug = none := by kernel_rfl
theorem laidOut : laidOutB Try.prog = true := by kernel_rfl
set_option maxRecDepth 100000 in
theorem lifted (os : Os) (started : os.Started) (H : Type) (enc : TypeId × Value → H) :
    ReturnsInHanded {} Try.checked os 9 .any (Rows.fnExactJoinRowsSpec.pre6 enc Try.prog Try.f9 Rows.fnExactJoinRowsRow.domain false) (Rows.fnExactJoinRowsSpec.post enc Try.prog Try.f9 false true false false) := by
  refine returnsInHanded_of_change_sized (C := Try.checked) own started (by kernel_rfl) Try.func9
    (ChangeSpec.witness6 (enc := enc) (C := Try.checked) false ⟨#[], #[.agg #[.slice none 0 0], .agg #[.slice none 0 0], .slice none 0 0], []⟩ 8 (by kernel_rfl) (by kernel_rfl) (by kernel_rfl) (by kernel_rfl)) ?_
  intro W base args ds gs before hval0 hW hcnd hsz0 _
  have hsz : (DataW.weightsEach Try.prog (Try.f9.params.toList ++ Rows.fnExactJoinRowsSpec.plain.varTypes Try.prog) (ds ++ gs)).all (· ≤ reachBytes) = true := hsz0
  have hval : ∀ (j : Nat) t v, Try.f9.params[j]? = some t → args[j]? = some v → Value.okWide Try.prog W .any base t v := hval0
  have hW' := hW
  obtain ⟨p, q, hA0, hV, rfl, hfz, hnd⟩ := hW
  have hA : DataW.TrodAll enc Try.prog W 0 (fun _ => true) true Try.f9.params.toList args.toList ds p := hA0
  rw [Try.params9] at hA hval hsz
  obtain ⟨v0, vs0, d0, ds0, p0, q0, hargs, rfl, rfl, h0, r0⟩ := trodAll_cons hA
  obtain ⟨v1, vs1, d1, ds1, p1, q1, rfl, rfl, rfl, h1, r1⟩ := trodAll_cons r0
  obtain ⟨v2, vs2, d2, ds2, p2, q2, rfl, rfl, rfl, h2, r2⟩ := trodAll_cons r1
  obtain ⟨rfl, rfl, rfl⟩ := trodAll_nil r2
  obtain rfl : args = #[v0, v1, v2] := by cases args; simp_all
  obtain ⟨rfl, rfl⟩ := trodVars_none hV
  obtain ⟨cs0, rfl, hsz0⟩ := okWide_struct Try.underlying24 (hval 0 24 v0 rfl rfl)
  have k0 := h0
  have lt0 : ∀ x ∈ p0, x.block < W.heap.size := by obtain ⟨m, hm⟩ := k0; exact DataW.trod_lt m _ _ _ hm
  obtain ⟨fuel0, hf0⟩ := h0
  rw [agg_cells] at hf0
  obtain ⟨x0, hK0, hw0⟩ := opens24 _ _ _ _ _ _ _ _ _ hf0
  obtain ⟨A0_0, c0_0, hcs0, hc0_0, hr0_0⟩ := k24_open hK0
  obtain ⟨cl0⟩ := cs0
  have hcl0 : cl0 = _ := hcs0
  subst hcl0
  obtain ⟨cs1, rfl, hsz1⟩ := okWide_struct Try.underlying24 (hval 1 24 v1 rfl rfl)
  have k1 := h1
  have lt1 : ∀ x ∈ p1, x.block < W.heap.size := by obtain ⟨m, hm⟩ := k1; exact DataW.trod_lt m _ _ _ hm
  obtain ⟨fuel1, hf1⟩ := h1
  rw [agg_cells] at hf1
  obtain ⟨x1, hK1, hw1⟩ := opens24 _ _ _ _ _ _ _ _ _ hf1
  obtain ⟨A1_0, c1_0, hcs1, hc1_0, hr1_0⟩ := k24_open hK1
  obtain ⟨cl1⟩ := cs1
  have hcl1 : cl1 = _ := hcs1
  subst hcl1
  obtain ⟨a2, len2, cap2, rfl⟩ := okWide_slice Try.underlying70 (hval 2 70 v2 rfl rfl)
  have k2 := h2
  have lt2 : ∀ x ∈ p2, x.block < W.heap.size := by obtain ⟨m, hm⟩ := k2; exact DataW.trod_lt m _ _ _ hm
  obtain ⟨fuel2, hf2⟩ := h2
  rw [slice_cells] at hf2
  obtain ⟨x2, hK2, hw2⟩ := opens70 _ _ _ _ _ _ _ _ _ hf2
  obtain ⟨A2, c2, hcs2, hc2, hr2⟩ := hK2
  obtain ⟨rfl, rfl, rfl⟩ : a2 = A2 ∧ len2 = x2.length ∧ cap2 = c2 := by simpa using hcs2
  clear hA0 hval0 hsz0 hsz
  obtain ⟨k, hP⟩ := Pure.FnExactJoinRows x0 hw0 x1 hw1 x2 hw2
  refine (laws_FnExactJoinRows.calls k _ _ x0.f0 _ _ x1.f0 _ _ x2 W hr0_0 hc0_0 hr1_0 hc1_0 hr2 hc2 hP).mono fun e W' ⟨he, bel0⟩ => ?_
  have bel : Below W.heap.size W W' := bel0
  subst he
  exact ⟨_, rfl, _, _, _, [], _, [], hW', trodAll_mk1 (shut_bool Try.underlying4 _), (trodAll_cons_mk (Below.trod laidOut (by kernel_rfl) (of_decide_eq_true (by kernel_rfl)) k0 bel lt0) (trodAll_cons_mk (Below.trod laidOut (by kernel_rfl) (of_decide_eq_true (by kernel_rfl)) k1 bel lt1) (trodAll_cons_mk (Below.trod laidOut (by kernel_rfl) (of_decide_eq_true (by kernel_rfl)) k2 bel lt2) trodAll_mk0))), rfl, bel.frame _, fun h => by cases h⟩
theorem hog : ((Go.Program.mayEnter Try.pinned.checked.prog && (Rows.fnExactJoinRowsRow.lifted == Go.Program.liftsFinal Try.pinned.checked.prog)) && (Go.Program.make Try.pinned.checked.prog == some Rows.fnExactJoinRowsRow.make)) = true := by kernel_rfl
theorem closed : joinedFacts Try.pinned.checked.prog 9 Try.f9 Rows.fnExactJoinRowsSpec Rows.fnExactJoinRowsRow = true := by
  have h := hog
  rw [Bool.and_eq_true, Bool.and_eq_true] at h
  unfold joinedFacts
  rw [h.1.1, h.1.2, h.2]
  refine Eq.trans (b := true) ?_ rfl
  kernel_rfl
theorem over : Rows.fnExactJoinRowsRow.holds Try.pinned (OpenSpec.ofChange Rows.fnExactJoinRowsSpec) :=
  OpenClaim.holds_of_wide 9 Try.f9 rfl rfl rfl rfl rfl rfl rfl ⟨rfl, rfl, rfl, rfl, rfl⟩ rfl rfl rfl rfl rfl (by kernel_rfl) Try.func9 closed
    (of_decide_eq_true (by kernel_rfl)) (by unfold Func.isWrapper; first | (rw [if_pos (by decide +kernel)]; kernel_rfl) | (rw [if_neg (by decide +kernel)]; exact ⟨rfl, rfl⟩))
    (fun os started H enc _ => lifted os started H enc)
theorem proved : Rows.FnExactJoinRowsSaid := over
#print axioms proved
end Go.Proofs.Ytcbikaoackbbjaa.fnExactJoinRows
namespace Go.Proofs.Ytcbikaoackbbjaa
/-- The row, under a short name, for the claim. -/
theorem fnExactJoinRows_holds : Rows.FnExactJoinRowsSaid := fnExactJoinRows.proved
end Go.Proofs.Ytcbikaoackbbjaa
