/- The pure statement of the law TagChain: of two unlike tags just one is older; older is handed on; the newest is none's elder; for every input. -/
import Derived.Test.YtbnhgckdplndfaaPTagChainx
import Derived.Test.YtbnhgckdplndfaaXPure
import Derived.Test.YtbnhgckdplndfaaXOpen
namespace Go.Proofs.Ytbnhgckdplndfaa.Pure
open Go.RowKit Go.Proofs.Ytbnhgckdplndfaa.PTagChain Go.Proofs.YtbnhgckdplndfaaW.PrintWords Go.Proofs.YtbnhgckdplndfaaW.PrintLast Go.Proofs.YtbnhgckdplndfaaW.PrintMore Go.Proofs.YtbnhgckdplndfaaX
set_option linter.unusedVariables false
set_option linter.unusedSimpArgs false
/-! tag.Less -/
theorem cmp_Compare_eq (a b : Int) : cmp_Compare_int.f a b = some (if a < b then -1 else if b < a then 1 else 0) := by
  unfold cmp_Compare_int.f cmp_isNaN_int.f
  simp only [bne_self_eq_false, Option.bind_some, Bool.false_eq_true, if_false, gt_iff_lt]
  (repeat' split) <;> rfl
theorem cmp_Or_two (p q : Int) : Ev (fun k => cmp_Or_int.f k [p, q]) (if p = 0 then q else p) := by
  refine Ev.of (k := 3) (cmp_Or_int.mono _) ?_
  unfold cmp_Or_int.f
  simp only [cmp_Or_int.l0, List.length_cons, List.length_nil]
  have w1 : wrap64 (0 + 1) = 1 := by decide +kernel
  have w2 : wrap64 (1 + 1) = 2 := by decide +kernel
  have e0 : rd [p, q] 0 = p := rfl
  have e1 : rd [p, q] 1 = q := rfl
  simp only [w1, w2, e0, e1]
  by_cases hp : p = 0 <;> by_cases hq : q = 0 <;> simp [hp, hq]
def tagLt (a0 a1 b0 b1 : Int) : Bool := decide (a0 < b0 ∨ a0 = b0 ∧ a1 < b1)
theorem tag_Less_ev (a0 a1 b0 b1 : Int) : Ev (fun k => tag_Less.f k a0 a1 b0 b1) (tagLt a0 a1 b0 b1) := by
  unfold tag_Less.f tag_compare.f
  refine Ev.bind (a := if (if a0 < b0 then -1 else if b0 < a0 then 1 else 0) = (0 : Int) then (if a1 < b1 then -1 else if b1 < a1 then 1 else 0) else (if a0 < b0 then -1 else if b0 < a0 then 1 else 0)) ?_ ?_
  · refine Ev.bind_all (cmp_Compare_eq _ _) ?_
    refine Ev.bind_all (cmp_Compare_eq _ _) ?_
    refine Ev.bind (cmp_Or_two _ _) ?_
    exact Ev.all fun k => rfl
  · refine Ev.all fun k => ?_
    unfold tagLt
    congr 1
    rw [decide_eq_decide]
    by_cases h1 : a0 < b0
    · simp [h1]
    · by_cases h2 : b0 < a0
      · simp [h1, h2]; omega
      · have : a0 = b0 := by omega
        subst this
        by_cases h3 : a1 < b1
        · simp [h3]
        · by_cases h4 : b1 < a1
          · simp [h3, h4]
          · simp [h3, h4]

/-! tag.Max: the newest of any -/
def tlt (a b : S24) : Bool := tagLt a.f0 a.f1 b.f0 b.f1
def tmax (m x : S24) : S24 := if tlt m x then x else m
theorem tmax_pos {m x : S24} (h : tagLt m.f0 m.f1 x.f0 x.f1 = true) : tmax m x = x := by unfold tmax; exact if_pos h
theorem tmax_neg {m x : S24} (h : ¬ tagLt m.f0 m.f1 x.f0 x.f1 = true) : tmax m x = m := by unfold tmax; exact if_neg h
def foldMax (m : S24) (l : List S24) : S24 := l.foldl tmax m
theorem tag_compare_gt (a0 a1 b0 b1 : Int) : ∃ c, Ev (fun k => tag_compare.f k a0 a1 b0 b1) c ∧ (decide (c > 0)) = tagLt b0 b1 a0 a1 := by
  refine ⟨if (if a0 < b0 then -1 else if b0 < a0 then 1 else 0) = (0 : Int) then (if a1 < b1 then -1 else if b1 < a1 then 1 else 0) else (if a0 < b0 then -1 else if b0 < a0 then 1 else 0), ?_, ?_⟩
  · unfold tag_compare.f
    refine Ev.bind_all (cmp_Compare_eq _ _) ?_
    refine Ev.bind_all (cmp_Compare_eq _ _) ?_
    refine Ev.bind (cmp_Or_two _ _) ?_
    exact Ev.all fun k => rfl
  · unfold tagLt
    rw [decide_eq_decide]
    by_cases h1 : a0 < b0
    · simp [h1]; omega
    · by_cases h2 : b0 < a0
      · simp [h1, h2]
      · have : a0 = b0 := by omega
        subst this
        by_cases h3 : a1 < b1
        · simp [h3]; omega
        · by_cases h4 : b1 < a1
          · simp [h3, h4]
          · simp [h3, h4]
theorem tag_Max_l0 (xs : List S24) (hn : xs.length < 4611686018427387904) (d : Nat) : ∀ (i : Nat) (m : S24), xs.length - i = d → i ≤ xs.length →
    Ev (fun k => api_Tag.l0 k xs (i : Int) m.f0 m.f1) ((foldMax m (xs.drop i)).f0, (foldMax m (xs.drop i)).f1) := by
  induction d with
  | zero =>
    intro i m hd hi
    refine Ev.const fun k => ?_
    simp only [api_Tag.l0]
    rw [if_neg (by omega), List.drop_eq_nil_of_le (by omega)]
    rfl
  | succ d ih =>
    intro i m hd hi
    have hlt : i < xs.length := by omega
    rw [drop_cons hlt z24]
    obtain ⟨c, hc, hg⟩ := tag_compare_gt (rd_T24 xs i).f0 (rd_T24 xs i).f1 m.f0 m.f1
    have e : rd_T24 xs i = xs.getD i z24 := rfl
    refine Ev.step' (f := fun k => ((tag_compare.f k ((rd_T24 xs i).f0) ((rd_T24 xs i).f1) m.f0 m.f1).bind fun t133 => (if t133 > 0 then (api_Tag.l0 k xs (wrap64 ((i : Int) + 1)) ((rd_T24 xs i).f0) ((rd_T24 xs i).f1)) else (api_Tag.l0 k xs (wrap64 ((i : Int) + 1)) m.f0 m.f1)))) ?_ (fun k => by
      simp only [api_Tag.l0]
      rw [if_pos (by omega), if_pos (by omega)])
    refine Ev.bind hc ?_
    rw [wrap_nat (by omega)]
    have hf : foldMax m (xs.getD i z24 :: xs.drop (i + 1)) = foldMax (tmax m (xs.getD i z24)) (xs.drop (i + 1)) := rfl
    rw [hf]
    by_cases h : c > 0
    · refine Ev.ite_pos h ?_
      rw [decide_eq_true h] at hg
      have ht : tmax m (xs.getD i z24) = xs.getD i z24 := by unfold tmax tlt; rw [← e, ← hg]; rfl
      rw [ht, e]
      exact ih (i + 1) _ (by omega) (by omega)
    · refine Ev.ite_neg h ?_
      rw [decide_eq_false h] at hg
      have ht : tmax m (xs.getD i z24) = m := by unfold tmax tlt; rw [← e, ← hg]; rfl
      rw [ht]
      exact ih (i + 1) _ (by omega) (by omega)
/-- the newest one; nothing of none -/
def maxOf : List S24 → S24
  | [] => ⟨0, 0⟩
  | x :: l => foldMax x l
theorem tag_Max_ev (xs : List S24) (hn : xs.length < 4611686018427387904) : Ev (fun k => tag_Max.f k xs) ((maxOf xs).f0, (maxOf xs).f1) := by
  unfold tag_Max.f
  match xs, hn with
  | [], _ => exact Ev.ite_pos rfl (Ev.all fun k => rfl)
  | x :: l, hn =>
    refine Ev.ite_neg (by simp <;> omega) ?_
    refine Ev.bind (a := ((foldMax x l).f0, (foldMax x l).f1)) ?_ (Ev.all fun k => rfl)
    unfold api_Tag.f
    refine Ev.ite_neg (by simp <;> omega) ?_
    refine Ev.ite_pos (by simp <;> omega) ?_
    exact tag_Max_l0 (x :: l) hn l.length 1 x (by simp) (by simp)

theorem alive : Ev (fun k => ropewaylaw06_tagAlive.f k) true := Ev.closed ropewaylaw06_tagAlive.mono 30 (by decide +kernel)
theorem tagLt_iff {a b c d : Int} : tagLt a b c d = true ↔ (a < c ∨ a = c ∧ b < d) := by unfold tagLt; rw [decide_eq_true_eq]
theorem TagChain : ropewaylaw06_TagChain.Pure := by
  intro a0 a1 b0 b1 c0 c1 _ _ _ _ _ _
  have last : Ev (fun k => ropewaylaw06_TagChain.j0 k false a0 a1 b0 b1 c0 c1) true := by
    have hm : ∃ m : S24, maxOf [(⟨a0, a1⟩ : S24), ⟨b0, b1⟩, ⟨c0, c1⟩] = m ∧ tagLt m.f0 m.f1 a0 a1 = false ∧ tagLt m.f0 m.f1 b0 b1 = false ∧ tagLt m.f0 m.f1 c0 c1 = false ∧ (m = ⟨a0, a1⟩ ∨ m = ⟨b0, b1⟩ ∨ m = ⟨c0, c1⟩) := by
      refine ⟨_, rfl, ?_⟩
      show (_ ∧ _ ∧ _ ∧ _)
      have em : maxOf [(⟨a0, a1⟩ : S24), ⟨b0, b1⟩, ⟨c0, c1⟩] = tmax (tmax ⟨a0, a1⟩ ⟨b0, b1⟩) ⟨c0, c1⟩ := rfl
      rw [em]
      by_cases h1 : tagLt a0 a1 b0 b1 = true
      · rw [tmax_pos (m := ⟨a0, a1⟩) (x := ⟨b0, b1⟩) h1]
        by_cases h2 : tagLt b0 b1 c0 c1 = true
        · rw [tmax_pos (m := ⟨b0, b1⟩) (x := ⟨c0, c1⟩) h2]
          rw [tagLt_iff] at h1 h2
          refine ⟨?_, ?_, ?_, .inr (.inr rfl)⟩ <;> rw [Bool.eq_false_iff] <;> intro h <;> rw [tagLt_iff] at h <;> simp only at h <;> omega
        · rw [tmax_neg (m := ⟨b0, b1⟩) (x := ⟨c0, c1⟩) h2]
          rw [tagLt_iff] at h1 h2
          refine ⟨?_, ?_, ?_, .inr (.inl rfl)⟩ <;> rw [Bool.eq_false_iff] <;> intro h <;> rw [tagLt_iff] at h <;> simp only at h <;> omega
      · rw [tmax_neg (m := ⟨a0, a1⟩) (x := ⟨b0, b1⟩) h1]
        by_cases h2 : tagLt a0 a1 c0 c1 = true
        · rw [tmax_pos (m := ⟨a0, a1⟩) (x := ⟨c0, c1⟩) h2]
          rw [tagLt_iff] at h1 h2
          refine ⟨?_, ?_, ?_, .inr (.inr rfl)⟩ <;> rw [Bool.eq_false_iff] <;> intro h <;> rw [tagLt_iff] at h <;> simp only at h <;> omega
        · rw [tmax_neg (m := ⟨a0, a1⟩) (x := ⟨c0, c1⟩) h2]
          rw [tagLt_iff] at h1 h2
          refine ⟨?_, ?_, ?_, .inl rfl⟩ <;> rw [Bool.eq_false_iff] <;> intro h <;> rw [tagLt_iff] at h <;> simp only at h <;> omega
    obtain ⟨m, hm, e1, e2, e3, h⟩ := hm
    have hv := tag_Max_ev [(⟨a0, a1⟩ : S24), ⟨b0, b1⟩, ⟨c0, c1⟩] (by simp)
    rw [hm] at hv
    refine Ev.succ ?_
    simp only [ropewaylaw06_TagChain.j0]
    refine Ev.ite_neg (by simp) ?_
    refine Ev.bind hv ?_
    refine Ev.bind (tag_Less_ev _ _ _ _) ?_
    refine Ev.ite_neg (by rw [e1]; simp) ?_
    refine Ev.bind (tag_Less_ev _ _ _ _) ?_
    refine Ev.ite_neg (by rw [e2]; simp) ?_
    refine Ev.bind (tag_Less_ev _ _ _ _) ?_
    refine Ev.ite_neg (by rw [e3]; simp) ?_
    refine Ev.all fun k => ?_
    rcases h with rfl | rfl | rfl <;> simp
  have hirr : tagLt a0 a1 a0 a1 = false := by rw [Bool.eq_false_iff]; intro h; rw [tagLt_iff] at h; omega
  have mid : Ev (fun k => (tag_Less.f k a0 a1 a0 a1).bind fun t144 => (if t144 = true then (ropewaylaw06_TagChain.j0 k true a0 a1 b0 b1 c0 c1) else ((tag_Less.f k a0 a1 b0 b1).bind fun t145 => (if t145 = true then ((tag_Less.f k b0 b1 c0 c1).bind fun t146 => (if t146 = true then ((tag_Less.f k a0 a1 c0 c1).bind fun t147 => (ropewaylaw06_TagChain.j0 k (!t147) a0 a1 b0 b1 c0 c1)) else (ropewaylaw06_TagChain.j0 k false a0 a1 b0 b1 c0 c1))) else (ropewaylaw06_TagChain.j0 k false a0 a1 b0 b1 c0 c1))))) true := by
    refine Ev.bind (tag_Less_ev _ _ _ _) ?_
    refine Ev.ite_neg (by rw [hirr]; simp) ?_
    refine Ev.bind (tag_Less_ev _ _ _ _) ?_
    refine Ev.ite (fun h1 => ?_) (fun _ => last)
    refine Ev.bind (tag_Less_ev _ _ _ _) ?_
    refine Ev.ite (fun h2 => ?_) (fun _ => last)
    refine Ev.bind (tag_Less_ev _ _ _ _) ?_
    have h3 : tagLt a0 a1 c0 c1 = true := by rw [tagLt_iff] at h1 h2 ⊢; omega
    rw [h3]
    exact last
  have hall : Ev (fun k => ropewaylaw06_TagChain.f k a0 a1 b0 b1 c0 c1) true := by
    unfold ropewaylaw06_TagChain.f
    refine Ev.bind alive ?_
    refine Ev.ite_pos rfl ?_
    refine Ev.bind (tag_Less_ev _ _ _ _) ?_
    refine Ev.bind (tag_Less_ev _ _ _ _) ?_
    refine Ev.ite (fun he => ?_) (fun _ => mid)
    refine Ev.ite_neg ?_ mid
    have h1 : ¬ (tagLt a0 a1 b0 b1 = true) := by
      intro h
      have h2 : tagLt b0 b1 a0 a1 = true := by rw [beq_iff_eq] at he; rw [← he]; exact h
      rw [tagLt_iff] at h h2; omega
    have h2 : ¬ (tagLt b0 b1 a0 a1 = true) := by
      intro h
      exact h1 (by rw [beq_iff_eq] at he; rw [he]; exact h)
    rw [tagLt_iff] at h1 h2
    have e0 : a0 = b0 := by omega
    have e1 : a1 = b1 := by omega
    simp [e0, e1]
  exact hall.rounds

end Go.Proofs.Ytbnhgckdplndfaa.Pure
