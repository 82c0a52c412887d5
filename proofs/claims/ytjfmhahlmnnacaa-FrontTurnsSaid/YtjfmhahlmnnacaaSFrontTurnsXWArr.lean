/- words of the walk, of which only what this law uses is kept -/
import Derived.Test.YtjfmhahlmnnacaaSFrontTurnsWLast
import Derived.Test.YtjfmhahlmnnacaaSFrontTurnsWMore
namespace Go.Proofs.YtjfmhahlmnnacaaX
open Go.RowKit Go.Proofs.YtjfmhahlmnnacaaW.PrintWords Go.Proofs.YtjfmhahlmnnacaaW.PrintLast Go.Proofs.YtjfmhahlmnnacaaW.PrintMore
set_option linter.unusedVariables false
end Go.Proofs.YtjfmhahlmnnacaaX

