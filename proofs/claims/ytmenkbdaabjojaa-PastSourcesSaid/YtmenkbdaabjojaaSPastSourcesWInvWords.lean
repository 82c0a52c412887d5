/- words of the walk, of which only what this law uses is kept -/
import Derived.Test.YtmenkbdaabjojaaSPastSourcesWInv
import Derived.Test.YtmenkbdaabjojaaSPastSourcesWFootNe
namespace Go.Proofs.YtmenkbdaabjojaaW.PrintWords
open Go.RowKit
end Go.Proofs.YtmenkbdaabjojaaW.PrintWords
namespace Go.Proofs.YtmenkbdaabjojaaW.PrintLast
section
variable {ops : Array Oper} {a : Act} {o og : Oper} {g : Nat} {t : Tmp} {u : Bool}
end
end Go.Proofs.YtmenkbdaabjojaaW.PrintLast

