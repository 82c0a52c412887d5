/- words of the walk, of which only what this law uses is kept -/
import Derived.Test.YtmgiaappokkjfaaSRoundStaysXWShort
import Derived.Test.YtmgiaappokkjfaaSRoundStaysWShare
import Derived.Test.YtmgiaappokkjfaaSRoundStaysXWArr
namespace Go.Proofs.YtmgiaappokkjfaaX
open Go.RowKit Go.Proofs.YtmgiaappokkjfaaW.PrintWords Go.Proofs.YtmgiaappokkjfaaW.PrintLast Go.Proofs.YtmgiaappokkjfaaW.PrintMore
set_option linter.unusedVariables false
section
variable {P : Program} {ops : Array Oper} {Q : Exit → Act → World → Prop}
theorem inl_back_ {rest : List Oper} {a : Act} {N : Option Tmp} {x : Value} {w' : World} (h : wpList P ops Q rest (a.put N x) w') : ∃ v, Ending.returned x = .returned v ∧ wpList P ops Q rest (a.put N v) w' := ⟨x, rfl, h⟩
end
theorem cv_ {α : Type} {d : Kd α} {W0 W : World} {A : Option Addr} {n : Nat} {xs : List α} (_ : Aside0 (Kd.C d W0 A n xs)) (h : Kd.C d W A n xs := by repeat (first | (with_reducible exact Aside0.out (by assumption)) | (with_reducible refine Kd.C_alloc ?_ _) | (with_reducible refine Kd.C_drewN ?_ _) | (with_reducible refine Kd.C_drew ?_) | exact Aside0.out (by assumption))) : Kd.C d W A n xs := h
theorem arrCo {w : World} {g o : Nat} {t : TypeId} {cs : Array Value} {b0 b1 b2 b3 b4 b5 : Bool} (h : w.heap[g]? = some (.cells cs t (0, 0))) (e0 : cs[o]? = some (.bool b0)) (e1 : cs[o + 1]? = some (.bool b1)) (e2 : cs[o + 2]? = some (.bool b2)) (e3 : cs[o + 3]? = some (.bool b3)) (e4 : cs[o + 4]? = some (.bool b4)) (e5 : cs[o + 5]? = some (.bool b5)) (j : Int) (p : 0 ≤ j) (q : j < 6) : w.cell? ⟨g, o + j.toNat, none⟩ = some (.bool (rdOf false [b0, b1, b2, b3, b4, b5] j)) := by
  rw [blk_cell h]
  rcases six_of p q with rfl | rfl | rfl | rfl | rfl | rfl <;> assumption
theorem arrPo {w : World} {g o : Nat} {t : TypeId} {cs cs' : Array Value} (h : w.heap[g]? = some (.cells cs t (0, 0))) (j : Int) (v : Bool) (p : 0 ≤ j) (q : j < 6) (e0 : j = 0 → cs.setIfInBounds (o + 0) (.bool v) = cs') (e1 : j = 1 → cs.setIfInBounds (o + 1) (.bool v) = cs') (e2 : j = 2 → cs.setIfInBounds (o + 2) (.bool v) = cs') (e3 : j = 3 → cs.setIfInBounds (o + 3) (.bool v) = cs') (e4 : j = 4 → cs.setIfInBounds (o + 4) (.bool v) = cs') (e5 : j = 5 → cs.setIfInBounds (o + 5) (.bool v) = cs') :
    (w.setCell ⟨g, o + j.toNat, none⟩ (.bool v)).heap[g]? = some (.cells cs' t (0, 0)) := by
  rcases six_of p q with rfl | rfl | rfl | rfl | rfl | rfl
  · exact blk_put h _ _ (e0 rfl)
  · exact blk_put h _ _ (e1 rfl)
  · exact blk_put h _ _ (e2 rfl)
  · exact blk_put h _ _ (e3 rfl)
  · exact blk_put h _ _ (e4 rfl)
  · exact blk_put h _ _ (e5 rfl)
def arrNo (a0 a1 a2 a3 a4 a5 : Bool) : Bool := !(a0 || a1 || a2 || a3 || a4 || a5)
end Go.Proofs.YtmgiaappokkjfaaX

