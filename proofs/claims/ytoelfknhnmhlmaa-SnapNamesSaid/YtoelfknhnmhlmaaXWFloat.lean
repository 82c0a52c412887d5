/- Floats beside the printed words: the kind of a 64-bit float (a word of bits), and the walk's rules for it. -/
import Derived.Test.YtoelfknhnmhlmaaWWords
import Derived.Test.YtoelfknhnmhlmaaWFoot
import Derived.Laws.Cover2
import Derived.Laws.Externs
import Derived.Laws.Entries
import Derived.Laws.Unary
namespace Go.Proofs.YtoelfknhnmhlmaaX
open Go.RowKit Go.Proofs.YtoelfknhnmhlmaaW.PrintWords
set_option linter.unusedVariables false

theorem px_store_float (P : Program) (w : World) (a : Addr) (m : Mode) (k : FloatKind) (b : Nat) : (store a (.float k b) m).run P w = stored P w a (.float k b) m := run_store P w a _ m rfl

/-- What '-x' gives: the sign's bit turned about. -/
def fneg (b : Nat) : Nat := Op.negFloat .f64 b
theorem px_neg_float (b : Nat) : Op.unary .neg (.float .f64 b) = pure (.float .f64 (fneg b)) := rfl

def feq (a b : Nat) : Bool := FloatKind.f64.format.order a b == some .eq
def flt (a b : Nat) : Bool := FloatKind.f64.format.order a b == some .lt
def fgt (a b : Nat) : Bool := FloatKind.f64.format.order a b == some .gt

theorem px_bits {P : Program} {f : FuncId} {fn : Func} (hf : P.funcs[f]? = some fn) (hname : (fn.name == "runtime.NumGoroutine") = false) (hb : fn.body.isNone = true) (hn : Extern.findNext fn = none) (he : Extern.find fn = some Extern.MathFloatBits.float64bits) (b : Nat) (w : World) :
    (callFunc f #[.float .f64 b]).run P w = .ok (.value (.int .u64 b)) w := by
  rw [run_callFunc_extern hf hname hb hn he]
  rfl
theorem px_frombits {P : Program} {f : FuncId} {fn : Func} (hf : P.funcs[f]? = some fn) (hname : (fn.name == "runtime.NumGoroutine") = false) (hb : fn.body.isNone = true) (hn : Extern.findNext fn = none) (he : Extern.find fn = some Extern.MathFloatBits.float64frombits) (n : Int) (w : World) :
    (callFunc f #[.int .u64 n]).run P w = .ok (.value (.float .f64 n.toNat)) w := by
  rw [run_callFunc_extern hf hname hb hn he]
  rfl
end Go.Proofs.YtoelfknhnmhlmaaX
namespace Go.Proofs.YtoelfknhnmhlmaaW.PrintWords
def Kd.float : Kd Nat := Kd.scalar (Value.float .f64) (fun _ => rfl)
theorem Kd.heap_float : Kd.Heap Kd.float := ⟨fun _ h => h⟩
end Go.Proofs.YtoelfknhnmhlmaaW.PrintWords
