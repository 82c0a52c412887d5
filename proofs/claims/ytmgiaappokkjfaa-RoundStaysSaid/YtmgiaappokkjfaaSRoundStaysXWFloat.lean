/- words of the walk, of which only what this law uses is kept -/
import Derived.Test.YtmgiaappokkjfaaSRoundStaysWWords
import Derived.Test.YtmgiaappokkjfaaSRoundStaysWFoot
import Derived.Laws.Cover2
import Derived.Laws.Externs
import Derived.Laws.Entries
import Derived.Laws.Unary
namespace Go.Proofs.YtmgiaappokkjfaaX
open Go.RowKit Go.Proofs.YtmgiaappokkjfaaW.PrintWords
set_option linter.unusedVariables false

theorem px_store_float (P : Program) (w : World) (a : Addr) (m : Mode) (k : FloatKind) (b : Nat) : (store a (.float k b) m).run P w = stored P w a (.float k b) m := run_store P w a _ m rfl

/-- What '-x' gives: the sign's bit turned about. -/
def fneg (b : Nat) : Nat := Op.negFloat .f64 b
theorem px_neg_float (b : Nat) : Op.unary .neg (.float .f64 b) = pure (.float .f64 (fneg b)) := rfl

end Go.Proofs.YtmgiaappokkjfaaX
namespace Go.Proofs.YtmgiaappokkjfaaW.PrintWords
def Kd.float : Kd Nat := Kd.scalar (Value.float .f64) (fun _ => rfl)
theorem Kd.heap_float : Kd.Heap Kd.float := ⟨fun _ h => h⟩
end Go.Proofs.YtmgiaappokkjfaaW.PrintWords

