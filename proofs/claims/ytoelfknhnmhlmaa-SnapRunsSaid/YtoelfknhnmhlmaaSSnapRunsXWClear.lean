/- words of the walk, of which only what this law uses is kept -/
import Derived.Laws.IdiomCopy
import Derived.Test.YtoelfknhnmhlmaaSSnapRunsWLast
import Derived.Test.YtoelfknhnmhlmaaSSnapRunsWMore
namespace Go.Proofs.YtoelfknhnmhlmaaX
open Go.RowKit Go.Proofs.YtoelfknhnmhlmaaW.PrintWords Go.Proofs.YtoelfknhnmhlmaaW.PrintLast Go.Proofs.YtoelfknhnmhlmaaW.PrintMore
set_option linter.unusedVariables false
section
variable {P : Program} {ops : Array Oper} {rest : List Oper} {o : Oper} {a : Act} {Q : Exit → Act → World → Prop}
end
end Go.Proofs.YtoelfknhnmhlmaaX

