/- The pure statement of the law RoundNames: in the beginning nobody answered; of a view without members none are enough. -/
import Derived.Test.YtmgiaappokkjfaaPRoundNamesx
import Derived.Test.YtmgiaappokkjfaaSRoundNamesXPure
import Derived.Test.YtmgiaappokkjfaaSRoundNamesXOpen
namespace Go.Proofs.Ytmgiaappokkjfaa.Pure
open Go.RowKit Go.Proofs.Ytmgiaappokkjfaa.PRoundNames Go.Proofs.YtmgiaappokkjfaaW.PrintWords Go.Proofs.YtmgiaappokkjfaaW.PrintLast Go.Proofs.YtmgiaappokkjfaaW.PrintMore Go.Proofs.YtmgiaappokkjfaaX
set_option linter.unusedVariables false
set_option linter.unusedSimpArgs false
theorem RoundNames : ropewaylaw14_RoundNames.Pure := (Ev.closed ropewaylaw14_RoundNames.mono 60 (by decide +kernel) : Ev (fun k => ropewaylaw14_RoundNames.f k) true).rounds

end Go.Proofs.Ytmgiaappokkjfaa.Pure
