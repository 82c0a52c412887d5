/- The pure statement of the law NumNames: the error and the kinds have their numbers. No input, no condition. -/
import Derived.Test.YtnbjlcjlcjefjaaPNumNamesx
import Derived.Test.YtnbjlcjlcjefjaaXPure
import Derived.Test.YtnbjlcjlcjefjaaXOpen
namespace Go.Proofs.Ytnbjlcjlcjefjaa.Pure
open Go.RowKit Go.Proofs.Ytnbjlcjlcjefjaa.PNumNames Go.Proofs.YtnbjlcjlcjefjaaW.PrintWords Go.Proofs.YtnbjlcjlcjefjaaW.PrintLast Go.Proofs.YtnbjlcjlcjefjaaW.PrintMore Go.Proofs.YtnbjlcjlcjefjaaX
set_option linter.unusedVariables false
set_option linter.unusedSimpArgs false
theorem NumNames : ropewaylaw01_NumNames.Pure := ⟨30, by decide +kernel⟩

end Go.Proofs.Ytnbjlcjlcjefjaa.Pure
