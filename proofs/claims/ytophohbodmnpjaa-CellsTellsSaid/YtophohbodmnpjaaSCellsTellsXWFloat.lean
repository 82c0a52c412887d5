/- words of the walk, of which only what this law uses is kept -/
import Derived.Test.YtophohbodmnpjaaSCellsTellsWWords
import Derived.Test.YtophohbodmnpjaaSCellsTellsWFoot
import Derived.Laws.Cover2
import Derived.Laws.Externs
import Derived.Laws.Entries
import Derived.Laws.Unary
namespace Go.Proofs.YtophohbodmnpjaaX
open Go.RowKit Go.Proofs.YtophohbodmnpjaaW.PrintWords
set_option linter.unusedVariables false

end Go.Proofs.YtophohbodmnpjaaX
namespace Go.Proofs.YtophohbodmnpjaaW.PrintWords
def Kd.float : Kd Nat := Kd.scalar (Value.float .f64) (fun _ => rfl)
end Go.Proofs.YtophohbodmnpjaaW.PrintWords

