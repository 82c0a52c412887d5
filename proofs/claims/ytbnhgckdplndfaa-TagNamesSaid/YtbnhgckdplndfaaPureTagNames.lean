/- The pure statement of the law TagNames: the error and the limit have their numbers. No input, no condition. -/
import Derived.Test.YtbnhgckdplndfaaPTagNamesx
import Derived.Test.YtbnhgckdplndfaaXPure
import Derived.Test.YtbnhgckdplndfaaXOpen
namespace Go.Proofs.Ytbnhgckdplndfaa.Pure
open Go.RowKit Go.Proofs.Ytbnhgckdplndfaa.PTagNames Go.Proofs.YtbnhgckdplndfaaW.PrintWords Go.Proofs.YtbnhgckdplndfaaW.PrintLast Go.Proofs.YtbnhgckdplndfaaW.PrintMore Go.Proofs.YtbnhgckdplndfaaX
set_option linter.unusedVariables false
set_option linter.unusedSimpArgs false
theorem TagNames : ropewaylaw06_TagNames.Pure := ⟨40, by decide +kernel⟩

end Go.Proofs.Ytbnhgckdplndfaa.Pure
