/- The pure statement of the law TagNexts: the program's next tag and the document's are the same, for every input. -/
import Derived.Test.YtbnhgckdplndfaaPTagNextsx
import Derived.Test.YtbnhgckdplndfaaXPure
import Derived.Test.YtbnhgckdplndfaaXOpen
namespace Go.Proofs.Ytbnhgckdplndfaa.Pure
open Go.RowKit Go.Proofs.Ytbnhgckdplndfaa.PTagNexts Go.Proofs.YtbnhgckdplndfaaW.PrintWords Go.Proofs.YtbnhgckdplndfaaW.PrintLast Go.Proofs.YtbnhgckdplndfaaW.PrintMore Go.Proofs.YtbnhgckdplndfaaX
set_option linter.unusedVariables false
set_option linter.unusedSimpArgs false
/-! tag.Next -/
def tagTop (t : Int) (l : List S24) : Int := l.foldl (fun m y => mx m y.f0) t
def nextFin (x0 top : Int) : Int × Int × Int := if top ≥ 1000000 then (0, 0, 61) else if x0 < 0 then (0, 0, 61) else if x0 ≥ 6 then (0, 0, 61) else (wrap64 (top + 1), x0, 0)
theorem tag_Next_l0 (x0 : Int) (xs : List S24) (hn : xs.length < 4611686018427387904) (d : Nat) : ∀ (i : Nat) (top : Int), xs.length - i = d → i ≤ xs.length →
    Ev (fun k => tag_Next.l0 k x0 top xs (xs.length : Int) (i : Int)) (nextFin x0 (tagTop top (xs.drop i))) := by
  induction d with
  | zero =>
    intro i top hd hi
    refine Ev.const fun k => ?_
    simp only [tag_Next.l0]
    rw [if_neg (by omega), List.drop_eq_nil_of_le (by omega)]
    simp only [tagTop, List.foldl_nil, nextFin]
    (repeat' split) <;> simp_all
  | succ d ih =>
    intro i top hd hi
    have hlt : i < xs.length := by omega
    rw [drop_cons hlt z24]
    refine Ev.step' (ih (i + 1) (mx top (rd_T24 xs i).f0) (by omega) (by omega)) fun k => ?_
    simp only [tag_Next.l0]
    rw [if_pos (by omega), if_pos (by omega), if_pos (by omega), wrap_nat (by omega)]
theorem tag_Next_ev (x0 last : Int) (xs : List S24) (hn : xs.length < 4611686018427387904) : Ev (fun k => tag_Next.f k x0 last xs) (nextFin x0 (tagTop (mx 0 last) xs)) := by
  have h := tag_Next_l0 x0 xs hn xs.length 0 (mx 0 last) (by omega) (by omega)
  exact h

theorem ref_Next_l0 (x0 : Int) (xs : List S24) (hn : xs.length < 4611686018427387904) (d : Nat) : ∀ (i : Nat) (top : Int), xs.length - i = d → i ≤ xs.length →
    Ev (fun k => ropewayref06_Next.l0 k x0 top xs (xs.length : Int) (i : Int)) (nextFin x0 (tagTop top (xs.drop i))) := by
  induction d with
  | zero =>
    intro i top hd hi
    refine Ev.const fun k => ?_
    simp only [ropewayref06_Next.l0]
    rw [if_neg (by omega), List.drop_eq_nil_of_le (by omega)]
    simp only [tagTop, List.foldl_nil, nextFin]
    (repeat' split) <;> simp_all <;> omega
  | succ d ih =>
    intro i top hd hi
    have hlt : i < xs.length := by omega
    rw [drop_cons hlt z24]
    refine Ev.step' (ih (i + 1) (mx top (rd_T24 xs i).f0) (by omega) (by omega)) fun k => ?_
    simp only [ropewayref06_Next.l0]
    rw [if_pos (by omega), if_pos (by omega), if_pos (by omega), wrap_nat (by omega)]
    unfold mx
    split <;> rfl
theorem TagNexts : ropewaylaw06_TagNexts.Pure := by
  intro a0 a1 l2 h0 h1 ⟨hl, hs, _⟩
  have hn : l2.length < 4611686018427387904 := by unfold maxLen at hl; omega
  have hp := tag_Next_ev a0 a1 l2 hn
  have hr : Ev (fun k => ropewayref06_Next.f k a0 a1 l2) (nextFin a0 (tagTop (mx 0 a1) l2)) := by
    have h := fun t => ref_Next_l0 a0 l2 hn l2.length 0 t (by omega) (by omega)
    unfold ropewayref06_Next.f mx
    by_cases hc : a1 > 0
    · simp only [if_pos hc]
      exact Ev.step' (h a1) fun k => by simp only [ropewayref06_Next.j0]; rfl
    · simp only [if_neg hc]
      exact Ev.step' (h 0) fun k => by simp only [ropewayref06_Next.j0]; rfl
  have ha : Ev (fun k => ropewaylaw06_tagAlive.f k) true := Ev.closed ropewaylaw06_tagAlive.mono 20 (by decide +kernel)
  have hall : Ev (fun k => ropewaylaw06_TagNexts.f k a0 a1 l2) true := by
    unfold ropewaylaw06_TagNexts.f
    refine Ev.bind_all rfl ?_
    refine Ev.ite_pos (by simp; omega) ?_
    refine Ev.bind hp ?_
    refine Ev.bind hr ?_
    refine Ev.bind ha ?_
    refine Ev.all fun k => ?_
    simp
  exact hall.rounds

end Go.Proofs.Ytbnhgckdplndfaa.Pure
