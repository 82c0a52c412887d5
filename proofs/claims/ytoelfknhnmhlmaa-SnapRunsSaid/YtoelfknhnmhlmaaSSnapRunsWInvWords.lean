/- words of the walk, of which only what this law uses is kept -/
import Derived.Test.YtoelfknhnmhlmaaSSnapRunsWInv
import Derived.Test.YtoelfknhnmhlmaaSSnapRunsWFootNe
namespace Go.Proofs.YtoelfknhnmhlmaaW.PrintWords
open Go.RowKit
end Go.Proofs.YtoelfknhnmhlmaaW.PrintWords
namespace Go.Proofs.YtoelfknhnmhlmaaW.PrintLast
section
variable {ops : Array Oper} {a : Act} {o og : Oper} {g : Nat} {t : Tmp} {u : Bool}
end
end Go.Proofs.YtoelfknhnmhlmaaW.PrintLast

