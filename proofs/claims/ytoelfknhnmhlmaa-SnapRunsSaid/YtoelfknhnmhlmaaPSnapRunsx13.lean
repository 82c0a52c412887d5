/- Written by a program of this session (wip/tool/px.py) over the kit's print: what the code that the law SnapRuns reaches computes, function by function, and the law's row. -/
import Derived.Test.YtoelfknhnmhlmaaPSnapRunsx0
import Derived.Test.YtoelfknhnmhlmaaPSnapRunsx1
import Derived.Test.YtoelfknhnmhlmaaPSnapRunsx11
import Derived.Test.YtoelfknhnmhlmaaPSnapRunsx14
import Derived.Test.YtoelfknhnmhlmaaPSnapRunsx12
namespace Go.Proofs.Ytoelfknhnmhlmaa.PSnapRuns
open Go.RowKit Go.Proofs.YtoelfknhnmhlmaaX Go.Proofs.YtoelfknhnmhlmaaW.PrintWords Go.Proofs.YtoelfknhnmhlmaaW.PrintLast Go.Proofs.YtoelfknhnmhlmaaW.PrintMore
attribute [local go_sem] max2_int min2_int max_two min_two max_three min_three max_four min_four   -- for this text's walks alone
set_option linter.unusedVariables false
set_option linter.unusedSimpArgs false

attribute [local go_sem] px_nilq27
attribute [local go_sem high] eqA26
/-! ### ropewaylaw15_SnapRuns: function 4 -/
def ropewaylaw15_SnapRuns.f (k : Nat) (b0 : Bool) (a1_0 : Int) (a1_1 : Int) (a1_2 : Int) (l2 : List (List (S34))) : Option (Bool) := if b0 = true then ropewaylaw15_SnapRuns_t.f k a1_0 a1_1 a1_2 l2 else ropewaylaw15_SnapRuns_f.f k a1_0 a1_1 a1_2 l2
theorem ropewaylaw15_SnapRuns.calls (k : Nat) (b0 : Bool) (a1_0 : Int) (a1_1 : Int) (a1_2 : Int) (A2 : Option Addr) (c2 : Nat) (l2 : List (List (S34))) (r : Bool) (w : World) (hr2 : Kd.C (Kd.slice 34 k34) w A2 l2.length l2) (hc2 : l2.length ≤ c2) (hr1_ : Aside0 (r = true)) (h : ropewaylaw15_SnapRuns.f k b0 a1_0 a1_1 a1_2 l2 = some r) :
    Calls Try.prog 4 #[.bool b0, .agg #[.int .i64 a1_0, .int .i64 a1_1, .int .i64 a1_2], .slice A2 l2.length c2] w fun e w' => e = .returned (.bool r) ∧ Below w.heap.size w w' := by
  cases b0
  · exact ropewaylaw15_SnapRuns_f.calls k a1_0 a1_1 a1_2 A2 c2 l2 r w hr2 hc2 hr1_ h
  · exact ropewaylaw15_SnapRuns_t.calls k a1_0 a1_1 a1_2 A2 c2 l2 r w hr2 hc2 hr1_ h

/-- THE ONE PURE STATEMENT of ropewaylaw15_SnapRuns. -/
def ropewaylaw15_SnapRuns.Pure : Prop := ∀ (a0 : Bool) (a1_0 : Int) (a1_1 : Int) (a1_2 : Int) (l2 : List (List (S34))), (Lit.int .i64 a1_0).wf = true → (Lit.int .i64 a1_1).wf = true → (Lit.int .i64 a1_2).wf = true → (l2.length ≤ maxLen ∧ l2.length * 24 ≤ 140737488351232 ∧ ∀ y0 ∈ l2, (y0.length ≤ maxLen ∧ y0.length * 24 ≤ 140737488351232 ∧ ∀ y1 ∈ y0, ((Lit.int .i64 y1.f0).wf = true ∧ ((Lit.int .i64 y1.f1.f0).wf = true ∧ (Lit.int .i64 y1.f1.f1).wf = true)))) → ∃ k, ropewaylaw15_SnapRuns.f k a0 a1_0 a1_1 a1_2 l2 = some true

end Go.Proofs.Ytoelfknhnmhlmaa.PSnapRuns
