/- words of the walk, of which only what this law uses is kept -/
import Derived.Test.YtophohbodmnpjaaSCellsTellsWLast
import Derived.Test.YtophohbodmnpjaaSCellsTellsWMore
namespace Go.Proofs.YtophohbodmnpjaaX
open Go.RowKit Go.Proofs.YtophohbodmnpjaaW.PrintWords Go.Proofs.YtophohbodmnpjaaW.PrintLast Go.Proofs.YtophohbodmnpjaaW.PrintMore
set_option linter.unusedVariables false
end Go.Proofs.YtophohbodmnpjaaX

