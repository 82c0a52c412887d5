/- words of the walk, of which only what this law uses is kept -/
import Derived.Laws.IdiomCopy
import Derived.Test.YtjfmhahlmnnacaaSFrontTurnsWLast
import Derived.Test.YtjfmhahlmnnacaaSFrontTurnsWMore
namespace Go.Proofs.YtjfmhahlmnnacaaX
open Go.RowKit Go.Proofs.YtjfmhahlmnnacaaW.PrintWords Go.Proofs.YtjfmhahlmnnacaaW.PrintLast Go.Proofs.YtjfmhahlmnnacaaW.PrintMore
set_option linter.unusedVariables false
section
variable {P : Program} {ops : Array Oper} {rest : List Oper} {o : Oper} {a : Act} {Q : Exit → Act → World → Prop}
end
end Go.Proofs.YtjfmhahlmnnacaaX

