/- The pure statement of the law BookNames: the error and the limit have their numbers. -/
import Derived.Test.YtkefmjdhbmmaaaaPBookNamesx
import Derived.Test.YtkefmjdhbmmaaaaXPure
import Derived.Test.YtkefmjdhbmmaaaaXOpen
namespace Go.Proofs.Ytkefmjdhbmmaaaa.Pure
open Go.RowKit Go.Proofs.Ytkefmjdhbmmaaaa.PBookNames Go.Proofs.YtkefmjdhbmmaaaaW.PrintWords Go.Proofs.YtkefmjdhbmmaaaaW.PrintLast Go.Proofs.YtkefmjdhbmmaaaaW.PrintMore Go.Proofs.YtkefmjdhbmmaaaaX
set_option linter.unusedVariables false
set_option linter.unusedSimpArgs false
theorem BookNames : ropewaylaw07_BookNames.Pure := (Ev.closed ropewaylaw07_BookNames.mono 60 (by decide +kernel) : Ev (fun k => ropewaylaw07_BookNames.f k) true).rounds

end Go.Proofs.Ytkefmjdhbmmaaaa.Pure
