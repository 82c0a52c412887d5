/- words of the walk, of which only what this law uses is kept -/
import Derived.Test.YtmgiaappokkjfaaSRoundStaysWLast
import Derived.Test.YtmgiaappokkjfaaSRoundStaysWMore
namespace Go.Proofs.YtmgiaappokkjfaaX
open Go.RowKit Go.Proofs.YtmgiaappokkjfaaW.PrintWords Go.Proofs.YtmgiaappokkjfaaW.PrintLast Go.Proofs.YtmgiaappokkjfaaW.PrintMore
set_option linter.unusedVariables false
/-- the element at i, once v is written at j -/
def stA (j i : Int) (v b : Bool) : Bool := if j = i then v else b
theorem six_of {j : Int} (p : 0 ≤ j) (q : j < 6) : j = 0 ∨ j = 1 ∨ j = 2 ∨ j = 3 ∨ j = 4 ∨ j = 5 := by omega
end Go.Proofs.YtmgiaappokkjfaaX

