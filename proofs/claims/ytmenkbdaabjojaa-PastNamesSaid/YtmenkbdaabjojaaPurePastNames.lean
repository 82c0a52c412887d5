/- The pure statement of the law PastNames: nothing fits; what is pending isn't done. -/
import Derived.Test.YtmenkbdaabjojaaPPastNamesx
import Derived.Test.YtmenkbdaabjojaaSPastNamesXPure
import Derived.Test.YtmenkbdaabjojaaSPastNamesXOpen
namespace Go.Proofs.Ytmenkbdaabjojaa.Pure
open Go.RowKit Go.Proofs.Ytmenkbdaabjojaa.PPastNames Go.Proofs.YtmenkbdaabjojaaW.PrintWords Go.Proofs.YtmenkbdaabjojaaW.PrintLast Go.Proofs.YtmenkbdaabjojaaW.PrintMore Go.Proofs.YtmenkbdaabjojaaX
set_option linter.unusedVariables false
set_option linter.unusedSimpArgs false
theorem PastNames : ropewaylaw21_PastNames.Pure := by
  have h : Ev (fun k => ropewaylaw21_PastNames.f k) true := Ev.closed ropewaylaw21_PastNames.mono 60 (by decide +kernel)
  exact h.rounds

end Go.Proofs.Ytmenkbdaabjojaa.Pure
