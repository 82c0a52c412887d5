/- words of the walk, of which only what this law uses is kept -/
import Derived.Test.YtmgiaappokkjfaaSRoundStaysWInv
import Derived.Test.YtmgiaappokkjfaaSRoundStaysWFootNe
namespace Go.Proofs.YtmgiaappokkjfaaW.PrintWords
open Go.RowKit
end Go.Proofs.YtmgiaappokkjfaaW.PrintWords
namespace Go.Proofs.YtmgiaappokkjfaaW.PrintLast
section
variable {ops : Array Oper} {a : Act} {o og : Oper} {g : Nat} {t : Tmp} {u : Bool}
end
end Go.Proofs.YtmgiaappokkjfaaW.PrintLast

