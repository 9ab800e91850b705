/- The law FnExactOutOf holds of the program for every input: the given statement FnExactOutOfSaid. No conditions. -/
import Derived.Test.YtpbpglbldgpckaaRows
import Derived.Test.YtpbpglbldgpckaaG56
import Derived.Test.YtpbpglbldgpckaaPureFnExactOutOf
import Derived.Test.YtpbpglbldgpckaaGO
import Derived.Test.YtpbpglbldgpckaaX
import Derived.WalkKit
import Derived.ProofKit
import Derived.OpenShut
import Derived.ShutString
import Derived.ChangeOld
import Derived.Below
import Derived.SizedLaws
import Derived.Lib.SmallJoins
import Derived.Test.YtpbpglbldgpckaaWSized
namespace Go.Proofs.Ytpbpglbldgpckaa.fnExactOutOf
open Go.ChangeShapes Go.WideShapes Go.ChangeAt Go.RowKit Go.Joins Go.Proofs.YtpbpglbldgpckaaW.PrintWords Go.Proofs.Ytpbpglbldgpckaa.G Go.Proofs.Ytpbpglbldgpckaa.X
open Go.ChangeMaps (open_string shut_string)
set_option linter.unusedVariables false
theorem own : ownKnob Try.prog.godebug = none := by kernel_rfl
theorem laidOut : laidOutB Try.prog = true := by kernel_rfl
set_option maxRecDepth 100000 in
theorem lifted (os : Os) (started : os.Started) (H : Type) (enc : TypeId × Value → H) :
    ReturnsInHanded {} Try.checked os 11 .any (Rows.fnExactOutOfSpec.pre6 enc Try.prog Try.f11 Rows.fnExactOutOfRow.domain false) (Rows.fnExactOutOfSpec.post enc Try.prog Try.f11 false true false false) := by
  refine returnsInHanded_of_change_sized (C := Try.checked) own started (by kernel_rfl) Try.func11
    (ChangeSpec.witness6 (enc := enc) (C := Try.checked) false ⟨#[], #[.agg #[.slice none 0 0, .int .i64 0, .slice none 0 0, .slice none 0 0, .slice none 0 0, .int .i64 0, .int .i64 0]], []⟩ 8 (by kernel_rfl) (by kernel_rfl) (by kernel_rfl) (by kernel_rfl)) ?_
  intro W base args ds gs before hval0 hW hcnd hsz0 _
  have hsz : (DataW.weightsEach Try.prog (Try.f11.params.toList ++ Rows.fnExactOutOfSpec.plain.varTypes Try.prog) (ds ++ gs)).all (· ≤ reachBytes) = true := hsz0
  have hval : ∀ (j : Nat) t v, Try.f11.params[j]? = some t → args[j]? = some v → Value.okWide Try.prog W .any base t v := hval0
  have hW' := hW
  obtain ⟨p, q, hA0, hV, rfl, hfz, hnd⟩ := hW
  have hA : DataW.TrodAll enc Try.prog W 0 (fun _ => true) true Try.f11.params.toList args.toList ds p := hA0
  rw [Try.params11] at hA hval hsz
  obtain ⟨v0, vs0, d0, ds0, p0, q0, hargs, rfl, rfl, h0, r0⟩ := trodAll_cons hA
  obtain ⟨rfl, rfl, rfl⟩ := trodAll_nil r0
  obtain rfl : args = #[v0] := by cases args; simp_all
  obtain ⟨rfl, rfl⟩ := trodVars_none hV
  obtain ⟨cs0, rfl, hsz0⟩ := okWide_struct Try.underlying66 (hval 0 66 v0 rfl rfl)
  have k0 := h0
  have lt0 : ∀ x ∈ p0, x.block < W.heap.size := by obtain ⟨m, hm⟩ := k0; exact DataW.trod_lt m _ _ _ hm
  obtain ⟨fuel0, hf0⟩ := h0
  rw [agg_cells] at hf0
  obtain ⟨x0, hK0, hw0⟩ := opens66 _ _ _ _ _ _ _ _ _ hf0
  obtain ⟨A0_0, c0_0, A0_2, c0_2, A0_3, c0_3, A0_4, c0_4, hcs0, hc0_0, hr0_0, hc0_2, hr0_2, hc0_3, hr0_3, hc0_4, hr0_4⟩ := k66_open hK0
  obtain ⟨cl0⟩ := cs0
  have hcl0 : cl0 = _ := hcs0
  subst hcl0
  clear hA0 hval0 hsz0 hsz
  obtain ⟨k, hP⟩ := Pure.FnExactOutOf x0 hw0
  refine (laws_FnExactOutOf.calls k _ _ x0.f0 x0.f1 _ _ x0.f2 _ _ x0.f3 _ _ x0.f4 x0.f5 x0.f6 W hr0_0 hc0_0 hr0_2 hc0_2 hr0_3 hc0_3 hr0_4 hc0_4 hP).mono fun e W' ⟨he, bel0⟩ => ?_
  have bel : Below W.heap.size W W' := bel0
  subst he
  exact ⟨_, rfl, _, _, _, [], _, [], hW', trodAll_mk1 (shut_bool Try.underlying4 _), (trodAll_cons_mk (Below.trod laidOut (by kernel_rfl) (of_decide_eq_true (by kernel_rfl)) k0 bel lt0) trodAll_mk0), rfl, bel.frame _, fun h => by cases h⟩
theorem hog : ((Go.Program.mayEnter Try.pinned.checked.prog && (Rows.fnExactOutOfRow.lifted == Go.Program.liftsFinal Try.pinned.checked.prog)) && (Go.Program.make Try.pinned.checked.prog == some Rows.fnExactOutOfRow.make)) = true := by kernel_rfl
theorem closed : joinedFacts Try.pinned.checked.prog 11 Try.f11 Rows.fnExactOutOfSpec Rows.fnExactOutOfRow = true := by
  have h := hog
  rw [Bool.and_eq_true, Bool.and_eq_true] at h
  unfold joinedFacts
  rw [h.1.1, h.1.2, h.2]
  refine Eq.trans (b := true) ?_ rfl
  kernel_rfl
theorem over : Rows.fnExactOutOfRow.holds Try.pinned (OpenSpec.ofChange Rows.fnExactOutOfSpec) :=
  OpenClaim.holds_of_wide 11 Try.f11 rfl rfl rfl rfl rfl rfl rfl ⟨rfl, rfl, rfl, rfl, rfl⟩ rfl rfl rfl rfl rfl (by kernel_rfl) Try.func11 closed
    (of_decide_eq_true (by kernel_rfl)) (by unfold Func.isWrapper; first | (rw [if_pos (by decide +kernel)]; kernel_rfl) | (rw [if_neg (by decide +kernel)]; exact ⟨rfl, rfl⟩))
    (fun os started H enc _ => lifted os started H enc)
theorem proved : Rows.FnExactOutOfSaid := over
#print axioms proved
end Go.Proofs.Ytpbpglbldgpckaa.fnExactOutOf
namespace Go.Proofs.Ytpbpglbldgpckaa
/-- The row, under a short name, for the claim. -/
theorem fnExactOutOf_holds : Rows.FnExactOutOfSaid := fnExactOutOf.proved
end Go.Proofs.Ytpbpglbldgpckaa
