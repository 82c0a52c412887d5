/- words of the walk, of which only what this law uses is kept -/
import Derived.Test.YtmenkbdaabjojaaSPastSourcesXWShort
namespace Go.Proofs.YtmenkbdaabjojaaX
open Go.RowKit Go.Proofs.YtmenkbdaabjojaaW.PrintWords
section
variable {P : Program} {ops : Array Oper} {Q : Exit → Act → World → Prop}
end
end Go.Proofs.YtmenkbdaabjojaaX

