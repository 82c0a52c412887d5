/- The pure statement of the law TagSeen: of more that was seen the next tag is no older, in any order the same; for every input. -/
import Derived.Test.YtbnhgckdplndfaaPTagSeenx
import Derived.Test.YtbnhgckdplndfaaXPure
import Derived.Test.YtbnhgckdplndfaaXOpen
namespace Go.Proofs.Ytbnhgckdplndfaa.Pure
open Go.RowKit Go.Proofs.Ytbnhgckdplndfaa.PTagSeen Go.Proofs.YtbnhgckdplndfaaW.PrintWords Go.Proofs.YtbnhgckdplndfaaW.PrintLast Go.Proofs.YtbnhgckdplndfaaW.PrintMore Go.Proofs.YtbnhgckdplndfaaX
set_option linter.unusedVariables false
set_option linter.unusedSimpArgs false
/-! tag.Next -/
def tagTop (t : Int) (l : List S24) : Int := l.foldl (fun m y => mx m y.f0) t
def nextFin (x0 top : Int) : Int × Int × Int := if top ≥ 1000000 then (0, 0, 61) else if x0 < 0 then (0, 0, 61) else if x0 ≥ 6 then (0, 0, 61) else (wrap64 (top + 1), x0, 0)
theorem tag_Next_l0 (x0 : Int) (xs : List S24) (hn : xs.length < 4611686018427387904) (d : Nat) : ∀ (i : Nat) (top : Int), xs.length - i = d → i ≤ xs.length →
    Ev (fun k => tag_Next.l0 k x0 top xs (xs.length : Int) (i : Int)) (nextFin x0 (tagTop top (xs.drop i))) := by
  induction d with
  | zero =>
    intro i top hd hi
    refine Ev.const fun k => ?_
    simp only [tag_Next.l0]
    rw [if_neg (by omega), List.drop_eq_nil_of_le (by omega)]
    simp only [tagTop, List.foldl_nil, nextFin]
    (repeat' split) <;> simp_all
  | succ d ih =>
    intro i top hd hi
    have hlt : i < xs.length := by omega
    rw [drop_cons hlt z24]
    refine Ev.step' (ih (i + 1) (mx top (rd_T24 xs i).f0) (by omega) (by omega)) fun k => ?_
    simp only [tag_Next.l0]
    rw [if_pos (by omega), if_pos (by omega), if_pos (by omega), wrap_nat (by omega)]
theorem tag_Next_ev (x0 last : Int) (xs : List S24) (hn : xs.length < 4611686018427387904) : Ev (fun k => tag_Next.f k x0 last xs) (nextFin x0 (tagTop (mx 0 last) xs)) := by
  have h := tag_Next_l0 x0 xs hn xs.length 0 (mx 0 last) (by omega) (by omega)
  exact h

/-! tag.Less -/
theorem cmp_Compare_eq (a b : Int) : cmp_Compare_int.f a b = some (if a < b then -1 else if b < a then 1 else 0) := by
  unfold cmp_Compare_int.f cmp_isNaN_int.f
  simp only [bne_self_eq_false, Option.bind_some, Bool.false_eq_true, if_false, gt_iff_lt]
  (repeat' split) <;> rfl
theorem cmp_Or_two (p q : Int) : Ev (fun k => cmp_Or_int.f k [p, q]) (if p = 0 then q else p) := by
  refine Ev.of (k := 3) (cmp_Or_int.mono _) ?_
  unfold cmp_Or_int.f
  simp only [cmp_Or_int.l0, List.length_cons, List.length_nil]
  have w1 : wrap64 (0 + 1) = 1 := by decide +kernel
  have w2 : wrap64 (1 + 1) = 2 := by decide +kernel
  have e0 : rd [p, q] 0 = p := rfl
  have e1 : rd [p, q] 1 = q := rfl
  simp only [w1, w2, e0, e1]
  by_cases hp : p = 0 <;> by_cases hq : q = 0 <;> simp [hp, hq]
def tagLt (a0 a1 b0 b1 : Int) : Bool := decide (a0 < b0 ∨ a0 = b0 ∧ a1 < b1)
theorem tag_Less_ev (a0 a1 b0 b1 : Int) : Ev (fun k => tag_Less.f k a0 a1 b0 b1) (tagLt a0 a1 b0 b1) := by
  unfold tag_Less.f tag_compare.f
  refine Ev.bind (a := if (if a0 < b0 then -1 else if b0 < a0 then 1 else 0) = (0 : Int) then (if a1 < b1 then -1 else if b1 < a1 then 1 else 0) else (if a0 < b0 then -1 else if b0 < a0 then 1 else 0)) ?_ ?_
  · refine Ev.bind_all (cmp_Compare_eq _ _) ?_
    refine Ev.bind_all (cmp_Compare_eq _ _) ?_
    refine Ev.bind (cmp_Or_two _ _) ?_
    exact Ev.all fun k => rfl
  · refine Ev.all fun k => ?_
    unfold tagLt
    congr 1
    rw [decide_eq_decide]
    by_cases h1 : a0 < b0
    · simp [h1]
    · by_cases h2 : b0 < a0
      · simp [h1, h2]; omega
      · have : a0 = b0 := by omega
        subst this
        by_cases h3 : a1 < b1
        · simp [h3]
        · by_cases h4 : b1 < a1
          · simp [h3, h4]
          · simp [h3, h4]

theorem tagTop_le {t b : Int} {l : List S24} : tagTop t l ≤ b ↔ t ≤ b ∧ ∀ y ∈ l, y.f0 ≤ b := by
  induction l generalizing t with
  | nil => simp [tagTop]
  | cons x l ih =>
    have e : tagTop t (x :: l) = tagTop (mx t x.f0) l := rfl
    rw [e, ih, mx_max]
    simp only [List.mem_cons, forall_eq_or_imp]
    constructor
    · rintro ⟨h, k⟩; exact ⟨by omega, by omega, k⟩
    · rintro ⟨h, h2, k⟩; exact ⟨by omega, k⟩
theorem tagTop_ge {t : Int} {l : List S24} : t ≤ tagTop t l := (tagTop_le.1 (Int.le_refl _)).1
theorem tagTop_same {t : Int} {l m : List S24} (h : ∀ y, y ∈ l ↔ y ∈ m) : tagTop t l = tagTop t m :=
  Int.le_antisymm (tagTop_le.2 ⟨tagTop_ge, fun y hy => (tagTop_le.1 (Int.le_refl _)).2 y ((h y).1 hy)⟩) (tagTop_le.2 ⟨tagTop_ge, fun y hy => (tagTop_le.1 (Int.le_refl _)).2 y ((h y).2 hy)⟩)
theorem tagTop_sub {t : Int} {l m : List S24} (h : ∀ y, y ∈ l → y ∈ m) : tagTop t l ≤ tagTop t m :=
  tagTop_le.2 ⟨tagTop_ge, fun y hy => (tagTop_le.1 (Int.le_refl _)).2 y (h y hy)⟩
theorem TagSeen_l0 (x0 x1 : Int) (xs : List S24) (hx : xs.length ≤ 100) (hb : tagTop (mx 0 x1) xs ≤ 9223372036854775807) (i : Nat) : ∀ (acc : List S24), i ≤ xs.length → acc = (xs.drop i).reverse →
    Ev (fun k => ropewaylaw06_TagSeen.l0 k x0 x1 xs (nextFin x0 (tagTop (mx 0 x1) xs)).2.2 (nextFin x0 (tagTop (mx 0 x1) (xs.take (xs.length / 2)))).2.2 acc ((i : Int) - 1) (nextFin x0 (tagTop (mx 0 x1) xs)).1 (nextFin x0 (tagTop (mx 0 x1) xs)).2.1 (nextFin x0 (tagTop (mx 0 x1) (xs.take (xs.length / 2)))).1 (nextFin x0 (tagTop (mx 0 x1) (xs.take (xs.length / 2)))).2.1) true := by
  induction i with
  | zero =>
    intro acc hi hacc
    have hacc' : acc.length < 4611686018427387904 := by rw [hacc]; simp; omega
    have hm : ∀ y, y ∈ acc ↔ y ∈ xs := by intro y; rw [hacc]; simp
    have h := tag_Next_ev x0 x1 acc hacc'
    rw [tagTop_same hm] at h
    have hsub : tagTop (mx 0 x1) (xs.take (xs.length / 2)) ≤ tagTop (mx 0 x1) xs := tagTop_sub fun y hy => List.mem_of_mem_take hy
    have h0 : 0 ≤ mx 0 x1 := by rw [mx_max]; omega
    have h1 : mx 0 x1 ≤ tagTop (mx 0 x1) (xs.take (xs.length / 2)) := tagTop_ge
    generalize htop : tagTop (mx 0 x1) xs = top at *
    generalize hmid : tagTop (mx 0 x1) (xs.take (xs.length / 2)) = mid at *
    refine Ev.step' (f := fun k => ((tag_Next.f k x0 x1 acc).bind fun bt149 => (if (!(bt149.1 == (nextFin x0 top).1) || (!(bt149.2.1 == (nextFin x0 top).2.1))) = true then (some false) else (if bt149.2.2 = (nextFin x0 top).2.2 then (if (nextFin x0 top).2.2 = 0 then (if (nextFin x0 mid).2.2 = 0 then ((tag_Less.f k (nextFin x0 top).1 (nextFin x0 top).2.1 (nextFin x0 mid).1 (nextFin x0 mid).2.1).bind fun t153 => (some (!t153))) else (some false)) else (some true)) else (some false))))) ?_ (fun k => by
      simp only [ropewaylaw06_TagSeen.l0]
      rw [if_neg (by omega)])
    refine Ev.bind h ?_
    refine Ev.ite_neg (by simp) ?_
    refine Ev.ite_pos rfl ?_
    refine Ev.ite (fun he => ?_) (fun _ => Ev.all fun k => rfl)
    have ht : top < 1000000 ∧ 0 ≤ x0 ∧ x0 < 6 := by
      unfold nextFin at he
      (repeat' split at he) <;> simp_all
    refine Ev.ite_pos (by unfold nextFin; rw [if_neg (by omega), if_neg (by omega), if_neg (by omega)]) ?_
    refine Ev.bind (tag_Less_ev _ _ _ _) (Ev.all fun k => ?_)
    unfold nextFin tagLt
    simp only [if_neg (show ¬ top ≥ 1000000 by omega), if_neg (show ¬ mid ≥ 1000000 by omega), if_neg (show ¬ x0 < 0 by omega), if_neg (show ¬ x0 ≥ 6 by omega)]
    rw [wrap_in (by omega) (by omega), wrap_in (by omega) (by omega)]
    simp
    omega
  | succ i ih =>
    intro acc hi hacc
    have hlt : i < xs.length := by omega
    refine Ev.step' (ih (acc ++ [rd_T24 xs i]) (by omega) ?_) fun k => ?_
    · rw [drop_cons hlt z24, List.reverse_cons, hacc]; rfl
    · simp only [ropewaylaw06_TagSeen.l0]
      have hal : acc.length < 8796093022208 := by rw [hacc]; simp; omega
      have e : ((i + 1 : Nat) : Int) - 1 = (i : Int) := by omega
      rw [e, if_pos (by omega), if_pos (by omega), if_pos (by omega), if_pos hal, wrap_in (by omega) (by omega)]
theorem TagSeen : ropewaylaw06_TagSeen.Pure := by
  intro a0 a1 l2 h0 h1 ⟨hl, hs, hw⟩
  have ha : Ev (fun k => ropewaylaw06_tagAlive.f k) true := Ev.closed ropewaylaw06_tagAlive.mono 20 (by decide +kernel)
  have hall : Ev (fun k => ropewaylaw06_TagSeen.f k a0 a1 l2) true := by
    unfold ropewaylaw06_TagSeen.f
    refine Ev.bind ha ?_
    refine Ev.ite_pos rfl ?_
    refine Ev.ite (fun _ => Ev.all fun k => rfl) (fun hc => ?_)
    have hn : l2.length ≤ 100 := by omega
    have hw1 : wrap64 ((l2.length : Int) / 2) = ((l2.length / 2 : Nat) : Int) := by rw [wrap_in (by omega) (by omega)]; omega
    have hb : tagTop (mx 0 a1) l2 ≤ 9223372036854775807 := by
      refine tagTop_le.2 ⟨?_, fun y hy => (wf_i64 (hw y hy).1).2⟩
      have := wf_i64 h1
      rw [mx_max]; omega
    refine Ev.bind (tag_Next_ev a0 a1 l2 (by omega)) ?_
    rw [hw1]
    refine Ev.ite_pos (by omega) ?_
    refine Ev.ite_pos (by omega) ?_
    refine Ev.bind (tag_Next_ev a0 a1 (l2.take (l2.length / 2)) (by simp; omega)) ?_
    have h := TagSeen_l0 a0 a1 l2 hn hb l2.length [] (Nat.le_refl _) (by simp)
    rw [wrap_in (by omega) (by omega)]
    exact h
  exact hall.rounds

end Go.Proofs.Ytbnhgckdplndfaa.Pure
