/- The law FnExactTotalsOf holds of the program for every input: the given statement FnExactTotalsOfSaid. No conditions. -/
import Derived.Test.YtcbikaoackbbjaaRows
import Derived.Test.YtcbikaoackbbjaaG44
import Derived.Test.YtcbikaoackbbjaaPureFnExactTotalsOf
import Derived.Test.YtcbikaoackbbjaaGO
import Derived.Test.YtcbikaoackbbjaaX
import Derived.WalkKit
import Derived.ProofKit
import Derived.OpenShut
import Derived.ShutString
import Derived.ChangeOld
import Derived.Below
import Derived.SizedLaws
import Derived.Lib.SmallJoins
import Derived.Test.YtcbikaoackbbjaaWSized
namespace Go.Proofs.Ytcbikaoackbbjaa.fnExactTotalsOf
open Go.ChangeShapes Go.WideShapes Go.ChangeAt Go.RowKit Go.Joins Go.Proofs.YtcbikaoackbbjaaW.PrintWords Go.Proofs.Ytcbikaoackbbjaa.G Go.Proofs.Ytcbikaoackbbjaa.X
open Go.ChangeMaps (open_string shut_string)
set_option linter.unusedVariables false
theorem own : ownKnob Try.prog.godebug = none := by kernel_rfl
theorem laidOut : laidOutB Try.prog = true := by kernel_rfl
set_option maxRecDepth 100000 in
theorem lifted (os : Os) (started : os.Started) (H : Type) (enc : TypeId × Value → H) :
    ReturnsInHanded {} Try.checked os 10 .any (Rows.fnExactTotalsOfSpec.pre6 enc Try.prog Try.f10 Rows.fnExactTotalsOfRow.domain false) (Rows.fnExactTotalsOfSpec.post enc Try.prog Try.f10 false true false false) := by
  refine returnsInHanded_of_change_sized (C := Try.checked) own started (by kernel_rfl) Try.func10
    (ChangeSpec.witness6 (enc := enc) (C := Try.checked) false ⟨#[], #[.slice none 0 0], []⟩ 8 (by kernel_rfl) (by kernel_rfl) (by kernel_rfl) (by kernel_rfl)) ?_
  intro W base args ds gs before hval0 hW hcnd hsz0 _
  have hsz : (DataW.weightsEach Try.prog (Try.f10.params.toList ++ Rows.fnExactTotalsOfSpec.plain.varTypes Try.prog) (ds ++ gs)).all (· ≤ reachBytes) = true := hsz0
  have hval : ∀ (j : Nat) t v, Try.f10.params[j]? = some t → args[j]? = some v → Value.okWide Try.prog W .any base t v := hval0
  have hW' := hW
  obtain ⟨p, q, hA0, hV, rfl, hfz, hnd⟩ := hW
  have hA : DataW.TrodAll enc Try.prog W 0 (fun _ => true) true Try.f10.params.toList args.toList ds p := hA0
  rw [Try.params10] at hA hval hsz
  obtain ⟨v0, vs0, d0, ds0, p0, q0, hargs, rfl, rfl, h0, r0⟩ := trodAll_cons hA
  obtain ⟨rfl, rfl, rfl⟩ := trodAll_nil r0
  obtain rfl : args = #[v0] := by cases args; simp_all
  obtain ⟨rfl, rfl⟩ := trodVars_none hV
  obtain ⟨a0, len0, cap0, rfl⟩ := okWide_slice Try.underlying47 (hval 0 47 v0 rfl rfl)
  have k0 := h0
  have lt0 : ∀ x ∈ p0, x.block < W.heap.size := by obtain ⟨m, hm⟩ := k0; exact DataW.trod_lt m _ _ _ hm
  obtain ⟨fuel0, hf0⟩ := h0
  rw [slice_cells] at hf0
  obtain ⟨x0, hK0, hw0⟩ := opens47 _ _ _ _ _ _ _ _ _ hf0
  obtain ⟨A0, c0, hcs0, hc0, hr0⟩ := hK0
  obtain ⟨rfl, rfl, rfl⟩ : a0 = A0 ∧ len0 = x0.length ∧ cap0 = c0 := by simpa using hcs0
  clear hA0 hval0 hsz0 hsz
  obtain ⟨k, hP⟩ := Pure.FnExactTotalsOf x0 hw0
  refine (laws_FnExactTotalsOf.calls k _ _ x0 W hr0 hc0 hP).mono fun e W' ⟨he, bel0⟩ => ?_
  have bel : Below W.heap.size W W' := bel0
  subst he
  exact ⟨_, rfl, _, _, _, [], _, [], hW', trodAll_mk1 (shut_bool Try.underlying4 _), (trodAll_cons_mk (Below.trod laidOut (by kernel_rfl) (of_decide_eq_true (by kernel_rfl)) k0 bel lt0) trodAll_mk0), rfl, bel.frame _, fun h => by cases h⟩
theorem hog : ((Go.Program.mayEnter Try.pinned.checked.prog && (Rows.fnExactTotalsOfRow.lifted == Go.Program.liftsFinal Try.pinned.checked.prog)) && (Go.Program.make Try.pinned.checked.prog == some Rows.fnExactTotalsOfRow.make)) = true := by kernel_rfl
theorem closed : joinedFacts Try.pinned.checked.prog 10 Try.f10 Rows.fnExactTotalsOfSpec Rows.fnExactTotalsOfRow = true := by
  have h := hog
  rw [Bool.and_eq_true, Bool.and_eq_true] at h
  unfold joinedFacts
  rw [h.1.1, h.1.2, h.2]
  refine Eq.trans (b := true) ?_ rfl
  kernel_rfl
theorem over : Rows.fnExactTotalsOfRow.holds Try.pinned (OpenSpec.ofChange Rows.fnExactTotalsOfSpec) :=
  OpenClaim.holds_of_wide 10 Try.f10 rfl rfl rfl rfl rfl rfl rfl ⟨rfl, rfl, rfl, rfl, rfl⟩ rfl rfl rfl rfl rfl (by kernel_rfl) Try.func10 closed
    (of_decide_eq_true (by kernel_rfl)) (by unfold Func.isWrapper; first | (rw [if_pos (by decide +kernel)]; kernel_rfl) | (rw [if_neg (by decide +kernel)]; exact ⟨rfl, rfl⟩))
    (fun os started H enc _ => lifted os started H enc)
theorem proved : Rows.FnExactTotalsOfSaid := over
#print axioms proved
end Go.Proofs.Ytcbikaoackbbjaa.fnExactTotalsOf
namespace Go.Proofs.Ytcbikaoackbbjaa
/-- The row, under a short name, for the claim. -/
theorem fnExactTotalsOf_holds : Rows.FnExactTotalsOfSaid := fnExactTotalsOf.proved
end Go.Proofs.Ytcbikaoackbbjaa
