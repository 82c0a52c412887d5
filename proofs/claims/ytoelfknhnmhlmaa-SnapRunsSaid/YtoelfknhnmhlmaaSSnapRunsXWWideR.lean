/- words of the walk, of which only what this law uses is kept -/
import Derived.Test.YtoelfknhnmhlmaaSSnapRunsXWWide
namespace Go.Proofs.YtoelfknhnmhlmaaX
open Go.RowKit Go.Proofs.YtoelfknhnmhlmaaW.PrintWords Go.Proofs.YtoelfknhnmhlmaaW.PrintLast Go.Proofs.YtoelfknhnmhlmaaW.PrintMore
set_option linter.unusedVariables false
section
variable {P : Program} {o : Oper} {w : World} {ev : Operand → Value}
end
end Go.Proofs.YtoelfknhnmhlmaaX

