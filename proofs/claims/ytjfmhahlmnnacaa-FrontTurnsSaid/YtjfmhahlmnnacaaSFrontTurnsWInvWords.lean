/- words of the walk, of which only what this law uses is kept -/
import Derived.Test.YtjfmhahlmnnacaaSFrontTurnsWInv
import Derived.Test.YtjfmhahlmnnacaaSFrontTurnsWFootNe
namespace Go.Proofs.YtjfmhahlmnnacaaW.PrintWords
open Go.RowKit
end Go.Proofs.YtjfmhahlmnnacaaW.PrintWords
namespace Go.Proofs.YtjfmhahlmnnacaaW.PrintLast
section
variable {ops : Array Oper} {a : Act} {o og : Oper} {g : Nat} {t : Tmp} {u : Bool}
end
end Go.Proofs.YtjfmhahlmnnacaaW.PrintLast

