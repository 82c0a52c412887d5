/- The pure statement of the law CellsNames: the error has its number; of nothing there is nothing. -/
import Derived.Test.YtophohbodmnpjaaPCellsNamesx
import Derived.Test.YtophohbodmnpjaaXPure
import Derived.Test.YtophohbodmnpjaaXOpen
namespace Go.Proofs.Ytophohbodmnpjaa.Pure
open Go.RowKit Go.Proofs.Ytophohbodmnpjaa.PCellsNames Go.Proofs.YtophohbodmnpjaaW.PrintWords Go.Proofs.YtophohbodmnpjaaW.PrintLast Go.Proofs.YtophohbodmnpjaaW.PrintMore Go.Proofs.YtophohbodmnpjaaX
set_option linter.unusedVariables false
set_option linter.unusedSimpArgs false
theorem CellsNames : ropewaylaw10_CellsNames.Pure := (Ev.closed ropewaylaw10_CellsNames.mono 60 (by decide +kernel) : Ev (fun k => ropewaylaw10_CellsNames.f k) true).rounds

end Go.Proofs.Ytophohbodmnpjaa.Pure
