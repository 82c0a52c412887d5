/- words of the walk, of which only what this law uses is kept -/
import Derived.Test.YtmgiaappokkjfaaSRoundNamesXWShort
import Derived.Test.YtmgiaappokkjfaaSRoundNamesWShare
import Derived.Test.YtmgiaappokkjfaaSRoundNamesXWArr
namespace Go.Proofs.YtmgiaappokkjfaaX
open Go.RowKit Go.Proofs.YtmgiaappokkjfaaW.PrintWords Go.Proofs.YtmgiaappokkjfaaW.PrintLast Go.Proofs.YtmgiaappokkjfaaW.PrintMore
set_option linter.unusedVariables false
section
variable {P : Program} {ops : Array Oper} {Q : Exit → Act → World → Prop}
theorem inl_back_ {rest : List Oper} {a : Act} {N : Option Tmp} {x : Value} {w' : World} (h : wpList P ops Q rest (a.put N x) w') : ∃ v, Ending.returned x = .returned v ∧ wpList P ops Q rest (a.put N v) w' := ⟨x, rfl, h⟩
end
theorem arrCo {w : World} {g o : Nat} {t : TypeId} {cs : Array Value} {b0 b1 b2 b3 b4 b5 : Bool} (h : w.heap[g]? = some (.cells cs t (0, 0))) (e0 : cs[o]? = some (.bool b0)) (e1 : cs[o + 1]? = some (.bool b1)) (e2 : cs[o + 2]? = some (.bool b2)) (e3 : cs[o + 3]? = some (.bool b3)) (e4 : cs[o + 4]? = some (.bool b4)) (e5 : cs[o + 5]? = some (.bool b5)) (j : Int) (p : 0 ≤ j) (q : j < 6) : w.cell? ⟨g, o + j.toNat, none⟩ = some (.bool (rdOf false [b0, b1, b2, b3, b4, b5] j)) := by
  rw [blk_cell h]
  rcases six_of p q with rfl | rfl | rfl | rfl | rfl | rfl <;> assumption
def arrNo (a0 a1 a2 a3 a4 a5 : Bool) : Bool := !(a0 || a1 || a2 || a3 || a4 || a5)
end Go.Proofs.YtmgiaappokkjfaaX

