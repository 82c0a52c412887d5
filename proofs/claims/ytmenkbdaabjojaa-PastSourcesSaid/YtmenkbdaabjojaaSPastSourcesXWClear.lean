/- words of the walk, of which only what this law uses is kept -/
import Derived.Laws.IdiomCopy
import Derived.Test.YtmenkbdaabjojaaSPastSourcesWLast
import Derived.Test.YtmenkbdaabjojaaSPastSourcesWMore
namespace Go.Proofs.YtmenkbdaabjojaaX
open Go.RowKit Go.Proofs.YtmenkbdaabjojaaW.PrintWords Go.Proofs.YtmenkbdaabjojaaW.PrintLast Go.Proofs.YtmenkbdaabjojaaW.PrintMore
set_option linter.unusedVariables false
section
variable {P : Program} {ops : Array Oper} {rest : List Oper} {o : Oper} {a : Act} {Q : Exit → Act → World → Prop}
end
end Go.Proofs.YtmenkbdaabjojaaX

