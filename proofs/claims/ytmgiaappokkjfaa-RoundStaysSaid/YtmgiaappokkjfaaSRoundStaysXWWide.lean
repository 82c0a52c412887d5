/- words of the walk, of which only what this law uses is kept -/
import Derived.Test.YtmgiaappokkjfaaSRoundStaysXWShort
import Derived.Deep.MidRow
namespace Go.Proofs.YtmgiaappokkjfaaX
open Go.RowKit Go.Proofs.YtmgiaappokkjfaaW.PrintWords Go.Proofs.YtmgiaappokkjfaaW.PrintLast Go.Proofs.YtmgiaappokkjfaaW.PrintMore
set_option linter.unusedVariables false
section
variable {P : Program} {ops : Array Oper} {Q : Exit → Act → World → Prop} {rest : List Oper} {o : Oper} {a : Act} {w : World}
end
end Go.Proofs.YtmgiaappokkjfaaX

