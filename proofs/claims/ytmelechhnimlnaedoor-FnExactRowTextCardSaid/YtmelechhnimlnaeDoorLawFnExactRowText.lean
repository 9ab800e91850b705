/- The law FnExactRowText holds of the program for every input: the given statement FnExactRowTextSaid. No conditions. -/
import Derived.Test.YtmelechhnimlnaeDoorRows
import Derived.Test.YtmelechhnimlnaeDoorG3
import Derived.Test.YtmelechhnimlnaeDoorPureFnExactRowText
import Derived.Test.YtmelechhnimlnaeDoorGO
import Derived.Test.YtmelechhnimlnaeDoorX
import Derived.WalkKit
import Derived.LaidLaws
import Derived.LaidHandle
import Derived.Stop.LaidErr
import Derived.Lib.LaidTab
import Derived.Lib.AppendIntMem
import Derived.Handed
import Derived.ChangeVars
import Derived.ProofKit
import Derived.OpenShut
import Derived.ShutString
import Derived.ChangeOld
import Derived.Below
import Derived.SizedLaws
import Derived.Lib.SmallJoins
import Derived.Test.YtmelechhnimlnaeDoorWSized
namespace Go.Proofs.YtmelechhnimlnaeDoor.fnExactRowText
open Go.ChangeShapes Go.WideShapes Go.ChangeAt Go.RowKit Go.Joins Go.Proofs.YtmelechhnimlnaeDoorW.PrintWords Go.Proofs.YtmelechhnimlnaeDoor.G Go.Proofs.YtmelechhnimlnaeDoor.X
open Go.ChangeMaps (open_string shut_string)
set_option linter.unusedVariables false
theorem own : ownKnob Tryd.prog.godebug = none := by kernel_rfl
theorem laidOut : laidOutB Tryd.prog = true := by kernel_rfl
/-- What a laid table's cells are. -/
def tabCells : DataW Unit → Array Value
  | .agg ps => (ps.map fun | .lit (.int k z) => Value.int k z | _ => Value.bool false).toArray
  | _ => #[]
def putCells (c : Array Value) : Obj → Obj
  | .cells _ t frozen => .cells c t frozen
  | o => o
/-- A world that meets the condition: the settled one, the three tables laid. -/
noncomputable def laidWorld (os : Os) : World :=
  { World.holding Tryd.prog os ⟨#[], #[], []⟩ with heap := (((World.holding Tryd.prog os ⟨#[], #[], []⟩).heap.modify 0 (putCells (tabCells Rows.laid_internal_strconv_uint64pow10))).modify 2 (putCells (tabCells Rows.laid_math_bits_deBruijn32tab))).modify 3 (putCells (tabCells Rows.laid_math_bits_deBruijn64tab)) }
theorem laidWorld_met (os : Os) (args : Array Value) : laidMetH Tryd.prog Rows.fnExactRowTextRow.laid ((laidWorld os).forCall (fun _ _ => 0) ⟨#[], args, []⟩).memory :=
  laidMet_of_run' 8 (by kernel_rfl) (by kernel_rfl)
theorem pow10_data : (Rows.laid_internal_strconv_uint64pow10 : DataW Unit) = Lib.tabData .u64 Lib.pow10Tab := by kernel_rfl
theorem tab_of {W : World} (hL : laidMetH Tryd.prog Rows.fnExactRowTextRow.laid W) : Lib.TabIs Tryd.prog W "internal/strconv.uint64pow10" .u64 Lib.pow10Tab := by
  have h : laidMet Tryd.prog [("math/bits.deBruijn32tab", Rows.laid_math_bits_deBruijn32tab), ("math/bits.deBruijn64tab", Rows.laid_math_bits_deBruijn64tab), ("internal/strconv.uint64pow10", Rows.laid_internal_strconv_uint64pow10)] W := hL
  have h2 := h.tail.tail
  rw [pow10_data] at h2
  exact Lib.tabIs_of_head (g := 0) (t := 68) (e := 58) (n := 20) (by kernel_rfl) (by kernel_rfl) Tryd.underlying68 Tryd.underlying58 (by kernel_rfl) (by kernel_rfl) h2
set_option maxRecDepth 100000 in
theorem lifted (os : Os) (started : os.Started) (H : Type) (enc : TypeId × Value → H) :
    ReturnsInHanded {} Tryd.checked os 3 .any (fun w args => (Rows.fnExactRowTextSpec.pre enc Tryd.prog Tryd.f3 Rows.fnExactRowTextRow.domain false w args ∧ laidMetH Tryd.prog Rows.fnExactRowTextRow.laid w) ∧ sizedMet enc Tryd.prog Tryd.f3 (OpenSpec.ofChange Rows.fnExactRowTextSpec) false w args)
      (Rows.fnExactRowTextSpec.post enc Tryd.prog Tryd.f3 false true false false) := by
  refine returnsInHanded_of_change_and (C := Tryd.checked) (X := fun w _ => laidMetH Tryd.prog Rows.fnExactRowTextRow.laid w) (fun _ _ _ hh h => h.of_heap hh) own started (by kernel_rfl) Tryd.func3
    (ChangeSpec.witness_at (enc := enc) (C := Tryd.checked) (os := os) (X := fun w _ => laidMetH Tryd.prog Rows.fnExactRowTextRow.laid w) false (laidWorld os) #[.agg #[.slice none 0 0]] 8 rfl (by kernel_rfl) (by kernel_rfl) (by kernel_rfl) (by kernel_rfl) (by kernel_rfl) (laidWorld_met os _)) ?_
  intro W base args ds gs before hval0 hW hcnd hsz0 hL _
  have hT := tab_of hL
  have hsz : (DataW.weightsEach Tryd.prog (Tryd.f3.params.toList ++ Rows.fnExactRowTextSpec.plain.varTypes Tryd.prog) (ds ++ gs)).all (· ≤ reachBytes) = true := hsz0
  have hval : ∀ (j : Nat) t v, Tryd.f3.params[j]? = some t → args[j]? = some v → Value.okWide Tryd.prog W .any base t v := hval0
  have hW' := hW
  obtain ⟨p, q, hA0, hV, rfl, hfz, hnd⟩ := hW
  have hA : DataW.TrodAll enc Tryd.prog W 0 (fun _ => true) true Tryd.f3.params.toList args.toList ds p := hA0
  rw [Tryd.params3] at hA hval hsz
  obtain ⟨v0, vs0, d0, ds0, p0, q0, hargs, rfl, rfl, h0, r0⟩ := trodAll_cons hA
  obtain ⟨rfl, rfl, rfl⟩ := trodAll_nil r0
  obtain rfl : args = #[v0] := by cases args; simp_all
  obtain ⟨rfl, rfl⟩ := trodVars_none hV
  obtain ⟨cs0, rfl, hsz0⟩ := okWide_struct Tryd.underlying24 (hval 0 24 v0 rfl rfl)
  have k0 := h0
  have lt0 : ∀ x ∈ p0, x.block < W.heap.size := by obtain ⟨m, hm⟩ := k0; exact DataW.trod_lt m _ _ _ hm
  obtain ⟨fuel0, hf0⟩ := h0
  rw [agg_cells] at hf0
  obtain ⟨x0, hK0, hw0⟩ := opens24 _ _ _ _ _ _ _ _ _ hf0
  obtain ⟨A0_0, c0_0, hcs0, hc0_0, hr0_0⟩ := k24_open hK0
  obtain ⟨cl0⟩ := cs0
  have hcl0 : cl0 = _ := hcs0
  subst hcl0
  clear hA0 hval0 hsz0 hsz
  obtain ⟨k, hP⟩ := Pure.FnExactRowText x0 hw0
  refine (laws_FnExactRowText.calls k _ _ x0.f0 W hr0_0 hc0_0 hP ⟨Lib.tabBelow_of_tabIs hT⟩).mono fun e W' ⟨he, bel0⟩ => ?_
  have bel : Below W.heap.size W W' := bel0
  subst he
  exact ⟨_, rfl, _, _, _, [], _, [], hW', trodAll_mk1 (shut_bool Tryd.underlying4 _), (trodAll_cons_mk (Below.trod laidOut (by kernel_rfl) (of_decide_eq_true (by kernel_rfl)) k0 bel lt0) trodAll_mk0), rfl, bel.frame _, fun h => by cases h⟩
theorem hog : ((Go.Program.mayEnter Tryd.pinned.checked.prog && (Rows.fnExactRowTextRow.lifted == Go.Program.liftsFinal Tryd.pinned.checked.prog)) && (Go.Program.make Tryd.pinned.checked.prog == some Rows.fnExactRowTextRow.make)) = true := by kernel_rfl
theorem closed : joinedFacts Tryd.pinned.checked.prog 3 Tryd.f3 Rows.fnExactRowTextSpec Rows.fnExactRowTextRow = true := by
  have h := hog
  rw [Bool.and_eq_true, Bool.and_eq_true] at h
  unfold joinedFacts
  rw [h.1.1, h.1.2, h.2]
  refine Eq.trans (b := true) ?_ rfl
  kernel_rfl
theorem over : Rows.fnExactRowTextRow.holds Tryd.pinned (OpenSpec.ofChange Rows.fnExactRowTextSpec) :=
  OpenClaim.holds_of_wide 3 Tryd.f3 rfl rfl rfl rfl rfl rfl rfl ⟨rfl, rfl, rfl, rfl, rfl⟩ rfl rfl rfl rfl rfl (by kernel_rfl) Tryd.func3 closed
    (of_decide_eq_true (by kernel_rfl)) (by unfold Func.isWrapper; first | (rw [if_pos (by decide +kernel)]; kernel_rfl) | (rw [if_neg (by decide +kernel)]; exact ⟨rfl, rfl⟩))
    (fun os started H enc _ => lifted os started H enc)
theorem proved : Rows.FnExactRowTextSaid := over
#print axioms proved
end Go.Proofs.YtmelechhnimlnaeDoor.fnExactRowText
namespace Go.Proofs.YtmelechhnimlnaeDoor
/-- The row, under a short name, for the claim. -/
theorem fnExactRowText_holds : Rows.FnExactRowTextSaid := fnExactRowText.proved
end Go.Proofs.YtmelechhnimlnaeDoor
