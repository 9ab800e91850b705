/- The program's exported constants are the document's: the law's plain function answers true. No conditions. -/
import Derived.Test.YtkikilacigglmaaPFnExactConstantsx1
namespace Go.Proofs.Ytkikilacigglmaa.Pure
open Go.RowKit Go.Proofs.Ytkikilacigglmaa.PFnExactConstants Go.Proofs.YtkikilacigglmaaW.PrintWords Go.Proofs.YtkikilacigglmaaW.PrintLast

/-- YOURS: laws_FnExactConstants.f  = some true
What it reaches (each with k first where it has rounds; `.mono`: more rounds tell the same; `.l0`, ..: its loops, with `.mono_l`): laws_FnExactConstants.f -/
theorem FnExactConstants : laws_FnExactConstants.Pure := by
  rfl

end Go.Proofs.Ytkikilacigglmaa.Pure
