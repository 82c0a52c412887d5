/- words of the walk, of which only what this law uses is kept -/
import Derived.Test.YtoelfknhnmhlmaaSSnapRunsWN
namespace Go.Proofs.YtoelfknhnmhlmaaW.PrintWords
open Go.RowKit
namespace Kd
section
variable {α : Type} {d : Kd α} {W : World} {g n : Nat} {S ok : Nat → Prop} {A : Option Addr} {ad : Addr} {xs : List α}
end
end Kd
end Go.Proofs.YtoelfknhnmhlmaaW.PrintWords

