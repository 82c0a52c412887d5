/- The pure statement of the law ChangeNames: the error, the limit, the chapter's example. No input, no condition. -/
import Derived.Test.YtbnhgckdplndfaaPChangeNamesx
import Derived.Test.YtbnhgckdplndfaaXPure
import Derived.Test.YtbnhgckdplndfaaXOpen
namespace Go.Proofs.Ytbnhgckdplndfaa.Pure
open Go.RowKit Go.Proofs.Ytbnhgckdplndfaa.PChangeNames Go.Proofs.YtbnhgckdplndfaaW.PrintWords Go.Proofs.YtbnhgckdplndfaaW.PrintLast Go.Proofs.YtbnhgckdplndfaaW.PrintMore Go.Proofs.YtbnhgckdplndfaaX
set_option linter.unusedVariables false
set_option linter.unusedSimpArgs false
theorem ChangeNames : ropewaylaw04_ChangeNames.Pure := ⟨40, by decide +kernel⟩

end Go.Proofs.Ytbnhgckdplndfaa.Pure
