/- The plain law of NewWindow: what its functions compute answers true. No conditions. -/
import Derived.Test.YtkikilacigglmaaG11
namespace Go.Proofs.Ytkikilacigglmaa.Pure
open Go.RowKit Go.Proofs.Ytkikilacigglmaa.G Go.Proofs.YtkikilacigglmaaW.PrintWords Go.Proofs.YtkikilacigglmaaW.PrintLast

theorem FnExactNewWindow : laws_FnExactNewWindow.Pure := ⟨1, by decide +kernel⟩

end Go.Proofs.Ytkikilacigglmaa.Pure
