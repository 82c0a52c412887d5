/- The pure statement of the law TagNewer: a next tag goes behind all that were seen, and behind one's own last; those of two nodes are unlike, and one's own next behind it is another; for every input. -/
import Derived.Test.YtbnhgckdplndfaaPTagNewerx
import Derived.Test.YtbnhgckdplndfaaXPure
import Derived.Test.YtbnhgckdplndfaaXOpen
namespace Go.Proofs.Ytbnhgckdplndfaa.Pure
open Go.RowKit Go.Proofs.Ytbnhgckdplndfaa.PTagNewer Go.Proofs.YtbnhgckdplndfaaW.PrintWords Go.Proofs.YtbnhgckdplndfaaW.PrintLast Go.Proofs.YtbnhgckdplndfaaW.PrintMore Go.Proofs.YtbnhgckdplndfaaX
set_option linter.unusedVariables false
set_option linter.unusedSimpArgs false
/-! tag.Less -/
theorem cmp_Compare_eq (a b : Int) : cmp_Compare_int.f a b = some (if a < b then -1 else if b < a then 1 else 0) := by
  unfold cmp_Compare_int.f cmp_isNaN_int.f
  simp only [bne_self_eq_false, Option.bind_some, Bool.false_eq_true, if_false, gt_iff_lt]
  (repeat' split) <;> rfl
theorem cmp_Or_two (p q : Int) : Ev (fun k => cmp_Or_int.f k [p, q]) (if p = 0 then q else p) := by
  refine Ev.of (k := 3) (cmp_Or_int.mono _) ?_
  unfold cmp_Or_int.f
  simp only [cmp_Or_int.l0, List.length_cons, List.length_nil]
  have w1 : wrap64 (0 + 1) = 1 := by decide +kernel
  have w2 : wrap64 (1 + 1) = 2 := by decide +kernel
  have e0 : rd [p, q] 0 = p := rfl
  have e1 : rd [p, q] 1 = q := rfl
  simp only [w1, w2, e0, e1]
  by_cases hp : p = 0 <;> by_cases hq : q = 0 <;> simp [hp, hq]
def tagLt (a0 a1 b0 b1 : Int) : Bool := decide (a0 < b0 ∨ a0 = b0 ∧ a1 < b1)
theorem tag_Less_ev (a0 a1 b0 b1 : Int) : Ev (fun k => tag_Less.f k a0 a1 b0 b1) (tagLt a0 a1 b0 b1) := by
  unfold tag_Less.f tag_compare.f
  refine Ev.bind (a := if (if a0 < b0 then -1 else if b0 < a0 then 1 else 0) = (0 : Int) then (if a1 < b1 then -1 else if b1 < a1 then 1 else 0) else (if a0 < b0 then -1 else if b0 < a0 then 1 else 0)) ?_ ?_
  · refine Ev.bind_all (cmp_Compare_eq _ _) ?_
    refine Ev.bind_all (cmp_Compare_eq _ _) ?_
    refine Ev.bind (cmp_Or_two _ _) ?_
    exact Ev.all fun k => rfl
  · refine Ev.all fun k => ?_
    unfold tagLt
    congr 1
    rw [decide_eq_decide]
    by_cases h1 : a0 < b0
    · simp [h1]
    · by_cases h2 : b0 < a0
      · simp [h1, h2]; omega
      · have : a0 = b0 := by omega
        subst this
        by_cases h3 : a1 < b1
        · simp [h3]
        · by_cases h4 : b1 < a1
          · simp [h3, h4]
          · simp [h3, h4]

/-! tag.Next -/
def tagTop (t : Int) (l : List S24) : Int := l.foldl (fun m y => mx m y.f0) t
def nextFin (x0 top : Int) : Int × Int × Int := if top ≥ 1000000 then (0, 0, 61) else if x0 < 0 then (0, 0, 61) else if x0 ≥ 6 then (0, 0, 61) else (wrap64 (top + 1), x0, 0)
theorem tag_Next_l0 (x0 : Int) (xs : List S24) (hn : xs.length < 4611686018427387904) (d : Nat) : ∀ (i : Nat) (top : Int), xs.length - i = d → i ≤ xs.length →
    Ev (fun k => tag_Next.l0 k x0 top xs (xs.length : Int) (i : Int)) (nextFin x0 (tagTop top (xs.drop i))) := by
  induction d with
  | zero =>
    intro i top hd hi
    refine Ev.const fun k => ?_
    simp only [tag_Next.l0]
    rw [if_neg (by omega), List.drop_eq_nil_of_le (by omega)]
    simp only [tagTop, List.foldl_nil, nextFin]
    (repeat' split) <;> simp_all
  | succ d ih =>
    intro i top hd hi
    have hlt : i < xs.length := by omega
    rw [drop_cons hlt z24]
    refine Ev.step' (ih (i + 1) (mx top (rd_T24 xs i).f0) (by omega) (by omega)) fun k => ?_
    simp only [tag_Next.l0]
    rw [if_pos (by omega), if_pos (by omega), if_pos (by omega), wrap_nat (by omega)]
theorem tag_Next_ev (x0 last : Int) (xs : List S24) (hn : xs.length < 4611686018427387904) : Ev (fun k => tag_Next.f k x0 last xs) (nextFin x0 (tagTop (mx 0 last) xs)) := by
  have h := tag_Next_l0 x0 xs hn xs.length 0 (mx 0 last) (by omega) (by omega)
  exact h

theorem mx_ge (a b : Int) : a ≤ mx a b ∧ b ≤ mx a b := by unfold mx; split <;> omega
theorem top_ge (l : List S24) : ∀ t : Int, t ≤ tagTop t l ∧ ∀ x ∈ l, x.f0 ≤ tagTop t l := by
  induction l with
  | nil => intro t; exact ⟨Int.le_refl _, fun x h => by cases h⟩
  | cons y l ih =>
    intro t
    have h := ih (mx t y.f0)
    have m := mx_ge t y.f0
    have e : tagTop t (y :: l) = tagTop (mx t y.f0) l := rfl
    rw [e]
    refine ⟨by omega, fun x hx => ?_⟩
    rcases List.mem_cons.1 hx with rfl | hx
    · omega
    · exact h.2 x hx
theorem fin_ok {x top : Int} (h0 : 0 ≤ top) (h : top < 1000000 ∧ 0 ≤ x ∧ x < 6) : nextFin x top = (top + 1, x, 0) := by
  unfold nextFin
  rw [if_neg (by omega), if_neg (by omega), if_neg (by omega), wrap_in (by omega) (by omega)]
theorem fin_no {x top : Int} (h : ¬ (top < 1000000 ∧ 0 ≤ x ∧ x < 6)) : nextFin x top = (0, 0, 61) := by
  unfold nextFin
  by_cases h1 : top ≥ 1000000
  · rw [if_pos h1]
  · rw [if_neg h1]
    by_cases h2 : x < 0
    · rw [if_pos h2]
    · rw [if_neg h2, if_pos (by omega)]
theorem right_some {a b : Int} (h : 0 < a ∧ a ≤ 1000000 ∧ 0 ≤ b ∧ b < 6) : tag_Right.f a b = some true := by
  unfold tag_Right.f
  have h1 : a ≥ 0 := by omega
  have h5 : a > 0 := h.1
  simp [h1, h.2.1, h.2.2.1, h.2.2.2, h5]
theorem TagNewer : ropewaylaw06_TagNewer.Pure := by
  intro n0 n1 last l w0 w1 wl ⟨_, hs, _⟩
  have hn : l.length < 4611686018427387904 := by omega
  have alive : Ev (fun k => ropewaylaw06_tagAlive.f k) true := Ev.closed ropewaylaw06_tagAlive.mono 30 (by decide +kernel)
  obtain ⟨tg, tm⟩ := top_ge l (mx 0 last)
  have m0 := mx_ge 0 last
  generalize hT : tagTop (mx 0 last) l = top at *
  have jt : ∀ a b c d e f : Int, Ev (fun k => ropewaylaw06_TagNewer.j0 k last l true a b c d e f) true := fun a b c d e f => Ev.const fun k => by simp only [ropewaylaw06_TagNewer.j0]; rfl
  have hall : Ev (fun k => ropewaylaw06_TagNewer.f k n0 n1 last l) true := by
    unfold ropewaylaw06_TagNewer.f
    refine Ev.bind alive (Ev.ite_pos rfl ?_)
    refine Ev.bind (tag_Next_ev n0 last l hn) ?_
    refine Ev.bind (tag_Next_ev n1 last l hn) ?_
    rw [hT]
    by_cases h0 : top < 1000000 ∧ 0 ≤ n0 ∧ n0 < 6
    · rw [fin_ok (by omega) h0]
      refine Ev.ite_pos rfl ?_
      by_cases h1 : top < 1000000 ∧ 0 ≤ n1 ∧ n1 < 6
      · rw [fin_ok (by omega) h1]
        refine Ev.succ ?_
        simp only [ropewaylaw06_TagNewer.j0]
        refine Ev.ite_neg (by simp) ?_
        have lp : ∀ d i : Nat, l.length - i = d → i ≤ l.length → Ev (fun k => ropewaylaw06_TagNewer.l0 k last l (l.length : Int) (i : Int) n0 n1 (top + 1) n0 (top + 1) n1) true := by
          intro d
          induction d with
          | zero =>
            intro i hd hi
            refine Ev.succ ?_
            simp only [ropewaylaw06_TagNewer.l0]
            refine Ev.ite_neg (by omega) ?_
            refine Ev.bind (tag_Next_ev n0 (top + 1) [] (by simp)) ?_
            have e : tagTop (mx 0 (top + 1)) [] = top + 1 := by
              show mx 0 (top + 1) = top + 1
              unfold mx; rw [if_pos (by omega)]
            rw [e]
            refine Ev.ite_pos (by omega) ?_
            refine Ev.bind_all (right_some (by omega)) (Ev.ite_pos rfl ?_)
            refine Ev.ite_pos (by by_cases h : n0 = n1 <;> simp [h]) ?_
            by_cases h2 : top + 1 < 1000000 ∧ 0 ≤ n0 ∧ n0 < 6
            · rw [fin_ok (by omega) h2]
              refine Ev.ite_pos rfl ?_
              refine Ev.bind (tag_Less_ev _ _ _ _) (Ev.all fun k => ?_)
              unfold tagLt
              rw [decide_eq_true (by omega)]
            · rw [fin_no h2]
              exact Ev.ite_neg (by simp) (Ev.all fun k => rfl)
          | succ d ih =>
            intro i hd hi
            have hlt : i < l.length := by omega
            have e : rd_T24 l i = l.getD i z24 := rfl
            have hx : l.getD i z24 ∈ l := getD_mem hlt _
            refine Ev.succ ?_
            simp only [ropewaylaw06_TagNewer.l0]
            refine Ev.ite_pos (by omega) (Ev.ite_pos (by omega) (Ev.ite_pos (by omega) ?_))
            rw [e, wrap_nat (by omega)]
            have hm := tm _ hx
            generalize l.getD i z24 = x at *
            refine Ev.bind (tag_Less_ev _ _ _ _) ?_
            refine Ev.ite_pos (by unfold tagLt; exact decide_eq_true (by omega)) ?_
            refine Ev.bind (tag_Less_ev _ _ _ _) ?_
            refine Ev.ite_neg (by unfold tagLt; rw [decide_eq_false (by omega)]; simp) ?_
            exact ih (i + 1) (by omega) (by omega)
        exact lp l.length 0 (by omega) (by omega)
      · rw [fin_no h1]
        exact jt _ _ _ _ _ _
    · rw [fin_no h0]
      exact Ev.ite_neg (by simp) (jt _ _ _ _ _ _)
  exact hall.rounds

end Go.Proofs.Ytbnhgckdplndfaa.Pure
