/- words of the walk, of which only what this law uses is kept -/
import Derived.Test.YtjfmhahlmnnacaaSFrontTurnsWWords
import Derived.Test.YtjfmhahlmnnacaaSFrontTurnsWFoot
import Derived.Laws.Cover2
import Derived.Laws.Externs
import Derived.Laws.Entries
import Derived.Laws.Unary
namespace Go.Proofs.YtjfmhahlmnnacaaX
open Go.RowKit Go.Proofs.YtjfmhahlmnnacaaW.PrintWords
set_option linter.unusedVariables false

end Go.Proofs.YtjfmhahlmnnacaaX
namespace Go.Proofs.YtjfmhahlmnnacaaW.PrintWords
def Kd.float : Kd Nat := Kd.scalar (Value.float .f64) (fun _ => rfl)
end Go.Proofs.YtjfmhahlmnnacaaW.PrintWords

