/- Written by a program of this session (wip/tool/px.py) over the kit's print: what the code that the law NumChain reaches computes, function by function, and the law's row. -/
import Derived.Test.YtnbjlcjlcjefjaaProg
import Derived.Below
import Derived.Deep.Draws
import Derived.Deep.AppendLies
import Derived.Maps.AppendAt
import Derived.OwnWalk
import Derived.Laws.BytesArg
import Derived.Laws.MakeOwn
import Derived.Laws.OwnMore
import Derived.Deep.OwnRows
import Derived.Tactics
import Derived.Lib.ConvBytes
import Derived.Laws.Slices
import Derived.WalkKit
import Derived.KernelRfl
import Derived.RowKit3
import Derived.Deep.LoopGhost
import Derived.Deep.QuietTactic
import Derived.BigQuiet
import Derived.WideLaws
import Derived.Deep.DeepCutAuto
import Derived.Deep.CutBlock
import Derived.Deep.RegionHeld3
import Derived.Laws.Rows
import Derived.Lib.AppendStr
import Derived.ArgAppend
import Derived.Laws.IdiomCopy
import Derived.OrdersHeld
import Derived.Laws.BitsLemmas
import Derived.RowKit
import Derived.Test.YtnbjlcjlcjefjaaWWords
import Derived.Test.YtnbjlcjlcjefjaaWLast
import Derived.Test.YtnbjlcjlcjefjaaWTab
import Derived.Test.YtnbjlcjlcjefjaaWFour
import Derived.Test.YtnbjlcjlcjefjaaWQPut
import Derived.Test.YtnbjlcjlcjefjaaWApart
import Derived.Test.YtnbjlcjlcjefjaaWArr
import Derived.Test.YtnbjlcjlcjefjaaWZeros
import Derived.Test.YtnbjlcjlcjefjaaWFoot
import Derived.Test.YtnbjlcjlcjefjaaWKept
import Derived.Test.YtnbjlcjlcjefjaaWShare
import Derived.Test.YtnbjlcjlcjefjaaWN
import Derived.Test.YtnbjlcjlcjefjaaWFootNe
import Derived.Test.YtnbjlcjlcjefjaaWAt
import Derived.Test.YtnbjlcjlcjefjaaWEqStruct
import Derived.Test.YtnbjlcjlcjefjaaWRepsOne
import Derived.Test.YtnbjlcjlcjefjaaWInv
import Derived.Test.YtnbjlcjlcjefjaaWInvWords
import Derived.Test.YtnbjlcjlcjefjaaWGuard
import Derived.Test.YtnbjlcjlcjefjaaWNEv
import Derived.Test.YtnbjlcjlcjefjaaWMore
import Derived.Test.YtnbjlcjlcjefjaaXWFloat
namespace Go.Proofs.Ytnbjlcjlcjefjaa.PNumChain
open Go.RowKit Go.Proofs.YtnbjlcjlcjefjaaX Go.Proofs.YtnbjlcjlcjefjaaW.PrintWords Go.Proofs.YtnbjlcjlcjefjaaW.PrintLast Go.Proofs.YtnbjlcjlcjefjaaW.PrintMore
attribute [local go_sem] max2_int min2_int max_two min_two max_three min_three max_four min_four   -- for this text's walks alone
set_option linter.unusedVariables false
set_option linter.unusedSimpArgs false



def errW : Option Int → Value
  | none => .nilIface
  | some c => .iface 0 (.int .i64 c)
theorem errW_none : errW none = .nilIface := rfl
theorem errW_some (c : Int) : errW (some c) = .iface 0 (.int .i64 c) := rfl

-- the values' own types

theorem px_call27 : ∀ (n : Int) (w : World), (callFunc 27 #[.int .u64 n]).run Try.prog w = .ok (.value (.float .f64 n.toNat)) w := px_frombits Try.func27 (by kernel_rfl) rfl (by kernel_rfl) (by kernel_rfl)
theorem px_call31 : ∀ (b : Nat) (w : World), (callFunc 31 #[.float .f64 b]).run Try.prog w = .ok (.value (.int .u64 (b : Int))) w := px_bits Try.func31 (by kernel_rfl) rfl (by kernel_rfl) (by kernel_rfl)
end Go.Proofs.Ytnbjlcjlcjefjaa.PNumChain
