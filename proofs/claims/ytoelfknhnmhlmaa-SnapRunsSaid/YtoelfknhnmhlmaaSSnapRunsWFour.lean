/- words of the walk, of which only what this law uses is kept -/
import Derived.Test.YtoelfknhnmhlmaaSSnapRunsWTab
namespace Go.Proofs.YtoelfknhnmhlmaaW.PrintLast
section
variable {P : Program} {ops : Array Oper} {Q : Exit → Act → World → Prop} {md : Region.Mode} {S : World → Prop} {ds : List Nat} {T : Bool × List (List Nat × List Nat)}
end
end Go.Proofs.YtoelfknhnmhlmaaW.PrintLast

