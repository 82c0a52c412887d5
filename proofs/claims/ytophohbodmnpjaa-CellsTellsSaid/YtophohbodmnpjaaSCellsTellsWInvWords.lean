/- words of the walk, of which only what this law uses is kept -/
import Derived.Test.YtophohbodmnpjaaSCellsTellsWInv
import Derived.Test.YtophohbodmnpjaaSCellsTellsWFootNe
namespace Go.Proofs.YtophohbodmnpjaaW.PrintWords
open Go.RowKit
end Go.Proofs.YtophohbodmnpjaaW.PrintWords
namespace Go.Proofs.YtophohbodmnpjaaW.PrintLast
section
variable {ops : Array Oper} {a : Act} {o og : Oper} {g : Nat} {t : Tmp} {u : Bool}
end
end Go.Proofs.YtophohbodmnpjaaW.PrintLast

