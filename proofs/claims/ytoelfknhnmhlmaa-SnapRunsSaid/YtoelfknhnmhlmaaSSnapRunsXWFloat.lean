/- words of the walk, of which only what this law uses is kept -/
import Derived.Test.YtoelfknhnmhlmaaSSnapRunsWWords
import Derived.Test.YtoelfknhnmhlmaaSSnapRunsWFoot
import Derived.Laws.Cover2
import Derived.Laws.Externs
import Derived.Laws.Entries
import Derived.Laws.Unary
namespace Go.Proofs.YtoelfknhnmhlmaaX
open Go.RowKit Go.Proofs.YtoelfknhnmhlmaaW.PrintWords
set_option linter.unusedVariables false

end Go.Proofs.YtoelfknhnmhlmaaX
namespace Go.Proofs.YtoelfknhnmhlmaaW.PrintWords
def Kd.float : Kd Nat := Kd.scalar (Value.float .f64) (fun _ => rfl)
end Go.Proofs.YtoelfknhnmhlmaaW.PrintWords

