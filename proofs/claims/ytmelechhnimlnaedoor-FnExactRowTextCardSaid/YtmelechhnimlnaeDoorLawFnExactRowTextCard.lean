/- The card of the law FnExactRowText: its row, the three listed tables tied to the program's text. No conditions. -/
import Derived.Test.YtmelechhnimlnaeDoorCards
import Derived.Test.YtmelechhnimlnaeDoorTie
import Derived.Test.YtmelechhnimlnaeDoorLawFnExactRowText
import Derived.SevenTiedAt
namespace Go.Proofs.YtmelechhnimlnaeDoor
open Go
set_option maxRecDepth 100000
theorem fnExactRowTextCard_holds : Rows.FnExactRowTextCardSaid :=
  Claim7.holds_tied_plain_at .later [] [.data, .data, .data] true (true, "1430a990443e9f77f19756a11e2aa52537c3c5a1db60207ff59502604ce81c3d") false
    fnExactRowText_holds (fun _ h => by cases h) (by kernel_rfl) (fun _ h => by cases h) fnExactRowText_row_tie rfl ⟨rfl, rfl⟩ (by kernel_rfl) rfl
    (fun f fn hf hfn => by
      obtain rfl : f = 3 := Option.some.inj ((show Tryd.prog.funcNamed "loop.example/g00305/laws.FnExactRowText" = some 3 by kernel_rfl).symm.trans hf) |>.symm
      obtain rfl : fn = Tryd.f3 := (Option.some.inj (Tryd.func3.symm.trans hfn)).symm
      exact ⟨by kernel_rfl, fun j t ht => by
        rw [Tryd.params3] at ht
        have h3 : t = 24 := by
          rcases j with _ | j
          · simpa using ht.symm
          · simp at ht
        subst h3
        exact (show Tryd.prog.wantsStandIn 24 = false by kernel_rfl)⟩)
    (by kernel_rfl)
#print axioms fnExactRowTextCard_holds
end Go.Proofs.YtmelechhnimlnaeDoor
