/- The pure statement of the law SnapNames: in the beginning both ask, and nothing was found. -/
import Derived.Test.YtoelfknhnmhlmaaPSnapNamesx
import Derived.Test.YtoelfknhnmhlmaaXPure
import Derived.Test.YtoelfknhnmhlmaaXOpen
namespace Go.Proofs.Ytoelfknhnmhlmaa.Pure
open Go.RowKit Go.Proofs.Ytoelfknhnmhlmaa.PSnapNames Go.Proofs.YtoelfknhnmhlmaaW.PrintWords Go.Proofs.YtoelfknhnmhlmaaW.PrintLast Go.Proofs.YtoelfknhnmhlmaaW.PrintMore Go.Proofs.YtoelfknhnmhlmaaX
set_option linter.unusedVariables false
set_option linter.unusedSimpArgs false
theorem SnapNames : ropewaylaw15_SnapNames.Pure := (Ev.closed ropewaylaw15_SnapNames.mono 60 (by decide +kernel) : Ev (fun k => ropewaylaw15_SnapNames.f k) true).rounds

end Go.Proofs.Ytoelfknhnmhlmaa.Pure
