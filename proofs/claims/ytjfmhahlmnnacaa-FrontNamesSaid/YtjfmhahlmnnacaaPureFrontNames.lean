/- The pure statement of the law FrontNames: no input. -/
import Derived.Test.YtjfmhahlmnnacaaPFrontNamesx
import Derived.Test.YtjfmhahlmnnacaaXPure
import Derived.Test.YtjfmhahlmnnacaaXOpen
namespace Go.Proofs.Ytjfmhahlmnnacaa.Pure
open Go.RowKit Go.Proofs.Ytjfmhahlmnnacaa.PFrontNames Go.Proofs.YtjfmhahlmnnacaaW.PrintWords Go.Proofs.YtjfmhahlmnnacaaW.PrintLast Go.Proofs.YtjfmhahlmnnacaaW.PrintMore Go.Proofs.YtjfmhahlmnnacaaX
set_option linter.unusedVariables false
set_option linter.unusedSimpArgs false
theorem FrontNames : ropewaylaw16_FrontNames.Pure := (Ev.closed ropewaylaw16_FrontNames.mono 60 (by decide +kernel) : Ev (fun k => ropewaylaw16_FrontNames.f k) true).rounds

end Go.Proofs.Ytjfmhahlmnnacaa.Pure
