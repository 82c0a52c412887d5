/- Of this session: the way back out of a call that is walked in place. -/
import Derived.Test.YtoelfknhnmhlmaaXWShort
namespace Go.Proofs.YtoelfknhnmhlmaaX
open Go.RowKit Go.Proofs.YtoelfknhnmhlmaaW.PrintWords
section
variable {P : Program} {ops : Array Oper} {Q : Exit → Act → World → Prop}
theorem inl_back_ {rest : List Oper} {a : Act} {N : Option Tmp} {x : Value} {w' : World} (h : wpList P ops Q rest (a.put N x) w') : ∃ v, Ending.returned x = .returned v ∧ wpList P ops Q rest (a.put N v) w' := ⟨x, rfl, h⟩
end
end Go.Proofs.YtoelfknhnmhlmaaX
