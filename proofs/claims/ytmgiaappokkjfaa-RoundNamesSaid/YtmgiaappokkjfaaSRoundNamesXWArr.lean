/- words of the walk, of which only what this law uses is kept -/
import Derived.Test.YtmgiaappokkjfaaSRoundNamesWLast
import Derived.Test.YtmgiaappokkjfaaSRoundNamesWMore
namespace Go.Proofs.YtmgiaappokkjfaaX
open Go.RowKit Go.Proofs.YtmgiaappokkjfaaW.PrintWords Go.Proofs.YtmgiaappokkjfaaW.PrintLast Go.Proofs.YtmgiaappokkjfaaW.PrintMore
set_option linter.unusedVariables false
theorem six_of {j : Int} (p : 0 ≤ j) (q : j < 6) : j = 0 ∨ j = 1 ∨ j = 2 ∨ j = 3 ∨ j = 4 ∨ j = 5 := by omega
end Go.Proofs.YtmgiaappokkjfaaX

