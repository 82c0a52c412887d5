/- An array of six bools in memory, read and written at an index. -/
import Derived.Test.YtoelfknhnmhlmaaWLast
import Derived.Test.YtoelfknhnmhlmaaWMore
namespace Go.Proofs.YtoelfknhnmhlmaaX
open Go.RowKit Go.Proofs.YtoelfknhnmhlmaaW.PrintWords Go.Proofs.YtoelfknhnmhlmaaW.PrintLast Go.Proofs.YtoelfknhnmhlmaaW.PrintMore
set_option linter.unusedVariables false
/-- the element at i, once v is written at j -/
def stA (j i : Int) (v b : Bool) : Bool := if j = i then v else b
theorem six_of {j : Int} (p : 0 ≤ j) (q : j < 6) : j = 0 ∨ j = 1 ∨ j = 2 ∨ j = 3 ∨ j = 4 ∨ j = 5 := by omega
theorem arrC6 {w : World} {g : Nat} {t : TypeId} {b0 b1 b2 b3 b4 b5 : Bool} (h : w.heap[g]? = some (.cells #[.bool b0, .bool b1, .bool b2, .bool b3, .bool b4, .bool b5] t (0, 0))) (j : Int) (p : 0 ≤ j) (q : j < 6) : w.cell? ⟨g, j.toNat, none⟩ = some (.bool (rdOf false [b0, b1, b2, b3, b4, b5] j)) := by
  rw [blk_cell h]
  rcases six_of p q with rfl | rfl | rfl | rfl | rfl | rfl <;> rfl
theorem arrP6 {w : World} {g : Nat} {t : TypeId} {b0 b1 b2 b3 b4 b5 : Bool} (h : w.heap[g]? = some (.cells #[.bool b0, .bool b1, .bool b2, .bool b3, .bool b4, .bool b5] t (0, 0))) (j : Int) (v : Bool) (p : 0 ≤ j) (q : j < 6) :
    (w.setCell ⟨g, j.toNat, none⟩ (.bool v)).heap[g]? = some (.cells #[.bool (stA j 0 v b0), .bool (stA j 1 v b1), .bool (stA j 2 v b2), .bool (stA j 3 v b3), .bool (stA j 4 v b4), .bool (stA j 5 v b5)] t (0, 0)) := by
  rcases six_of p q with rfl | rfl | rfl | rfl | rfl | rfl <;> exact blk_put h _ _ rfl
end Go.Proofs.YtoelfknhnmhlmaaX
