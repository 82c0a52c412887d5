/- The pure statement of the law NumTops: the last number of any kind; none of its kind goes behind it; for every input. -/
import Derived.Test.YtnbjlcjlcjefjaaPNumTopsx
import Derived.Test.YtnbjlcjlcjefjaaXPure
import Derived.Test.YtnbjlcjlcjefjaaXOpen
import Derived.Test.YtnbjlcjlcjefjaaXFloat
namespace Go.Proofs.Ytnbjlcjlcjefjaa.Pure
open Go.RowKit Go.Proofs.Ytnbjlcjlcjefjaa.PNumTops Go.Proofs.YtnbjlcjlcjefjaaW.PrintWords Go.Proofs.YtnbjlcjlcjefjaaW.PrintLast Go.Proofs.YtnbjlcjlcjefjaaW.PrintMore Go.Proofs.YtnbjlcjlcjefjaaX
set_option linter.unusedVariables false
set_option linter.unusedSimpArgs false
/-! num: the words of floats -/
def clean (b : Nat) : Nat := if isNan b then 9221120237041090561 else b
def rk (b : Nat) : Nat := if isNan b then 18446744073709551615 else if neg b then 9223372036854775807 - rung b else 9223372036854775808 + rung b
def kindN (b : Nat) : Int := if isNan b then 0 else if rung b = 9218868437227405312 then 1 else if 4503599627370496 ≤ rung b then 2 else if 0 < rung b then 3 else 4
theorem neg_iff {b : Nat} (h : b < 18446744073709551616) : neg b = decide (9223372036854775808 ≤ b) := by
  unfold neg
  rw [Bool.eq_iff_iff]; simp; omega
theorem nan_iff (b : Nat) : isNan b = decide (9218868437227405312 < b % 9223372036854775808) := rfl
theorem clean_lt {b : Nat} (h : b < 18446744073709551616) : clean b < 18446744073709551616 := by unfold clean; split <;> omega
theorem clean_nan (b : Nat) : isNan (clean b) = isNan b := by
  unfold clean
  cases h : isNan b
  · rw [if_neg (by simp)]; exact h
  · rw [if_pos rfl]; decide
theorem clean_clean (b : Nat) : clean (clean b) = clean b := by
  have h := clean_nan b
  unfold clean at *
  cases hb : isNan b
  · simp [hb]
  · simp [hb] at h ⊢
theorem rk_clean (b : Nat) : rk (clean b) = rk b := by
  have h := clean_nan b
  unfold rk
  rw [h]
  cases hb : isNan b
  · have : clean b = b := by unfold clean; rw [hb]; rfl
    rw [this]
  · rfl
theorem num_Of_eq (n : Nat) : num_Of.f (n : Int) = some (clean n) := by
  unfold num_Of.f math_NaN.f clean
  have e : ((n : Int)).toNat = n := rfl
  rw [e, feq_self]
  cases isNan n <;> rfl
theorem num_Bits_eq (b : Nat) : num_Bits.f b = some ((clean b : Nat) : Int) := by
  unfold num_Bits.f clean
  rw [fne_self]
  cases isNan b <;> rfl
theorem num_Same_eq (a b : Nat) : num_Same.f a b = some (decide (clean a = clean b)) := by
  unfold num_Same.f
  rw [num_Bits_eq, num_Bits_eq]
  simp only [Option.bind_some, Option.some.injEq]
  rw [Bool.eq_iff_iff]; simp; omega
theorem num_Less_ev {a b : Nat} (ha : a < 18446744073709551616) (hb : b < 18446744073709551616) : Ev (fun k => num_Less.f k a b) (decide (rk a < rk b)) := by
  unfold num_Less.f
  rw [fne_self, fne_self]
  have n0 : isNan 0 = false := by decide
  have k0 : key 0 = 0 := by decide
  have la := rung_lt a
  have lb := rung_lt b
  cases na : isNan a
  · refine Ev.ite_neg (by simp) ?_
    have ra : rung a ≤ 9218868437227405312 := by have := of_decide_eq_false na; omega
    cases nb : isNan b
    · refine Ev.ite_neg (by simp) ?_
      have rb : rung b ≤ 9218868437227405312 := by have := of_decide_eq_false nb; omega
      rw [cmp_eq na n0, cmp_eq nb n0, k0]
      have plain : ¬ (key a = 0 ∧ key b = 0) → Ev (fun k => num_Less.j0 k a b false) (decide (rk a < rk b)) := by
        intro hz
        refine Ev.const fun k => ?_
        simp only [num_Less.j0]
        rw [if_neg (by simp), cmp_lt na nb]
        congr 1
        rw [decide_eq_decide]
        unfold rk
        rw [na, nb]
        unfold key at hz ⊢
        cases neg a <;> cases neg b <;> simp only [if_true, if_false, Bool.false_eq_true] at hz ⊢ <;> omega
      refine Ev.ite (fun h1 => ?_) (fun h1 => plain (fun h => h1 (decide_eq_true h.1)))
      have h1' := of_decide_eq_true h1
      by_cases h2 : key b = 0
      · rw [decide_eq_true h2]
        refine Ev.const fun k => ?_
        simp only [num_Less.j0]
        have za : rung a = 0 := by unfold key at h1'; split at h1' <;> omega
        have zb : rung b = 0 := by unfold key at h2; split at h2 <;> omega
        have sg : ∀ x : Nat, x < 18446744073709551616 → math_Signbit.f x = some (neg x) := by
          intro x hx
          unfold math_Signbit.f
          rw [neg_iff hx, Option.some.injEq, decide_eq_decide]
          unfold wrap64; omega
        rw [if_pos trivial, sg a ha, sg b hb]
        unfold rk
        rw [na, nb, za, zb]
        cases neg a <;> cases neg b <;> rfl
      · rw [decide_eq_false h2]
        exact plain (fun h => h2 h.2)
    · refine Ev.ite_pos rfl (Ev.all fun k => ?_)
      congr 1
      refine (decide_eq_true ?_).symm
      unfold rk
      rw [na, nb]
      cases neg a <;> simp only [if_true, if_false, Bool.false_eq_true] <;> omega
  · refine Ev.ite_pos rfl (Ev.all fun k => ?_)
    congr 1
    refine (decide_eq_false ?_).symm
    have : rk b ≤ 18446744073709551615 := by unfold rk; split <;> (try split) <;> omega
    unfold rk at this ⊢
    rw [na]
    simp only [if_true]
    omega
theorem deq (a b : Nat) : decide (a = b) = ((a : Int) == (b : Int)) := by rw [Bool.eq_iff_iff]; simp; omega
theorem kind_zero (b : Nat) : kindN b = 0 ↔ isNan b = true := by
  unfold kindN
  cases isNan b
  · simp only [if_false, Bool.false_eq_true]; (repeat' split) <;> simp
  · simp
theorem kind_clean (b : Nat) : kindN (clean b) = kindN b := by
  cases h : isNan b
  · have : clean b = b := by unfold clean; rw [h]; rfl
    rw [this]
  · rw [(kind_zero b).2 h, (kind_zero (clean b)).2 (by rw [clean_nan]; exact h)]
theorem clean_of {b : Nat} (h : isNan b = false) : clean b = b := by unfold clean; rw [h]; rfl
theorem clean_of_nan {b : Nat} (h : isNan b = true) : clean b = 9221120237041090561 := by unfold clean; rw [h]; rfl

theorem rung_rung (b : Nat) : rung (rung b) = rung b := by unfold rung; omega
theorem neg_rung (b : Nat) : neg (rung b) = false := by unfold neg rung; rw [Bool.eq_false_iff]; simp
theorem nan_rung (b : Nat) : isNan (rung b) = isNan b := by unfold isNan; rw [rung_rung]
theorem key_rung (b : Nat) : key (rung b) = (rung b : Int) := by unfold key; rw [neg_rung, rung_rung]; rfl
theorem math_Abs_eq {b : Nat} (h : b < 18446744073709551616) : math_Abs.f b = some (rung b) := by
  unfold math_Abs.f
  have h1 := u64_andNot_nat b 9223372036854775808 h (by decide)
  have c : ((9223372036854775808 : Nat) : Int) = 9223372036854775808 := rfl
  rw [c] at h1
  rw [h1]
  have e : (18446744073709551615 - 9223372036854775808 : Nat) = 2 ^ 63 - 1 := by decide
  rw [e, Nat.and_two_pow_sub_one_eq_mod]
  rfl
theorem num_Kind_eq {b : Nat} (h : b < 18446744073709551616) : num_Kind.f b = some (kindN b) := by
  unfold num_Kind.f math_IsInf.f
  rw [math_Abs_eq h, fne_self]
  simp only [Option.bind_some, if_true]
  unfold kindN
  cases hn : isNan b
  · have hr : isNan (rung b) = false := by rw [nan_rung]; exact hn
    have h1 : isNan 9218868437227405311 = false := by decide
    have h2 : isNan 4503599627370496 = false := by decide
    have h3 : isNan 0 = false := by decide
    have k1 : key 9218868437227405311 = 9218868437227405311 := by decide
    have k2 : key 4503599627370496 = 4503599627370496 := by decide
    have k3 : key 0 = 0 := by decide
    have ra : rung b ≤ 9218868437227405312 := by have := of_decide_eq_false hn; omega
    rw [cmp_gt hr h1, cmp_gt hr h2, cmp_eq hr h2, cmp_gt hr h3, key_rung, k1, k2, k3]
    simp only [Bool.false_eq_true, if_false, decide_eq_true_eq, Bool.or_eq_true]
    (repeat' split) <;> first | rfl | (exfalso; omega)
  · simp

theorem of_u64 {a : Int} (ha : (Lit.int .u64 a).wf = true) : ∃ n : Nat, a = (n : Int) ∧ n < 18446744073709551616 := by
  obtain ⟨a0, a1⟩ := wf_u64 ha
  exact ⟨a.toNat, by omega, by omega⟩
theorem alive : Ev (fun k => ropewaylaw01_numAlive.f k) true := Ev.closed ropewaylaw01_numAlive.mono 20 (by decide +kernel)

/-- the tops' words, by kind -/
def topN (a : Int) : Nat := if a = 0 then 9221120237041090561 else if a = 1 then 9218868437227405312 else if a = 2 then 9218868437227405311 else if a = 3 then 4503599627370495 else 0
def topE (a : Int) : Int := if 0 ≤ a ∧ a ≤ 4 then 0 else 11
theorem top_ev (a : Int) : Ev (fun k => num_Top.f k a) (topN a, topE a) := by
  unfold num_Top.f topN topE
  by_cases h0 : a = 0
  · subst h0; exact Ev.all fun k => by simp [math_NaN.f]
  · by_cases h1 : a = 1
    · subst h1; exact Ev.all fun k => by simp [math_Inf.f]
    · by_cases h2 : a = 2
      · subst h2; exact Ev.all fun k => by simp
      · by_cases h3 : a = 3
        · subst h3
          have hn : Ev (fun k => math_Nextafter.f k 4503599627370496 0) 4503599627370495 := Ev.closed (math_Nextafter.mono _ _) 5 (by decide +kernel)
          simp only [if_neg h0, if_neg h1, if_neg h2, if_pos trivial, if_pos (show (0 : Int) ≤ 3 ∧ (3 : Int) ≤ 4 by decide)]
          exact Ev.bind hn (Ev.all fun k => rfl)
        · by_cases h4 : a = 4
          · subst h4; exact Ev.all fun k => by simp
          · simp only [if_neg h0, if_neg h1, if_neg h2, if_neg h3, if_neg h4, if_neg (show ¬ (0 ≤ a ∧ a ≤ 4) by omega)]
            exact Ev.all fun k => rfl
theorem ref_top (a : Int) : ropewayref01_Top.f a = some ((topN a : Int), topE a) := by
  unfold ropewayref01_Top.f topN topE
  (repeat' split) <;> first | rfl | (exfalso; omega)
theorem NumTops : ropewaylaw01_NumTops.Pure := by
  intro a b ha hb
  obtain ⟨m, rfl, hm⟩ := of_u64 hb
  have hall : Ev (fun k => ropewaylaw01_NumTops.f k a m) true := by
    unfold ropewaylaw01_NumTops.f
    refine Ev.bind (top_ev a) ?_
    refine Ev.bind_all (ref_top a) ?_
    refine Ev.bind alive ?_
    refine Ev.ite_pos rfl ?_
    refine Ev.ite_pos rfl ?_
    refine Ev.bind_all (num_Bits_eq _) ?_
    have hc : clean (topN a) = topN a := by
      unfold topN
      (repeat' split) <;> decide
    have e : (((clean (topN a) : Nat) : Int) != (topN a : Int)) = false := by rw [hc]; simp
    rw [e]
    have ht : topN a < 18446744073709551616 := by unfold topN; (repeat' split) <;> decide
    refine Ev.step' (f := fun k => ((num_Of.f m).bind fun t131 => (if topE a = 0 then ((num_Kind.f (topN a)).bind fun t132 => (if t132 = a then ((num_Kind.f t131).bind fun t133 => (if t133 = a then ((num_Less.f k (topN a) t131).bind fun t134 => (some (!t134))) else (some true))) else (some false))) else (some true)))) ?_ (fun k => by
      simp only [ropewaylaw01_NumTops.j0]
      rw [if_neg (by simp)])
    refine Ev.bind_all (num_Of_eq m) ?_
    refine Ev.ite (fun h0 => ?_) (fun _ => Ev.all fun k => rfl)
    refine Ev.bind_all (num_Kind_eq ht) ?_
    have hr : 0 ≤ a ∧ a ≤ 4 := by unfold topE at h0; split at h0 <;> first | assumption | (exfalso; omega)
    have hk : kindN (topN a) = a := by
      rcases (show a = 0 ∨ a = 1 ∨ a = 2 ∨ a = 3 ∨ a = 4 by omega) with rfl | rfl | rfl | rfl | rfl <;> decide
    refine Ev.ite_pos hk ?_
    refine Ev.bind_all (num_Kind_eq (clean_lt hm)) ?_
    rw [kind_clean]
    refine Ev.ite (fun hy => ?_) (fun _ => Ev.all fun k => rfl)
    refine Ev.bind (num_Less_ev ht (clean_lt hm)) (Ev.all fun k => ?_)
    rw [rk_clean]
    have hle : rk m ≤ rk (topN a) := by
      have hlt := rung_lt m
      have hu : rk m ≤ 18446744073709551615 := by unfold rk; split <;> (try split) <;> omega
      rcases (show a = 0 ∨ a = 1 ∨ a = 2 ∨ a = 3 ∨ a = 4 by omega) with rfl | rfl | rfl | rfl | rfl
      · exact hu
      all_goals
        have hn : isNan m = false := by
          cases h : isNan m
          · rfl
          · rw [(kind_zero m).2 h] at hy; omega
        have hr2 : rung m ≤ 9218868437227405312 := by have := of_decide_eq_false hn; omega
        unfold kindN at hy
        rw [hn] at hy
        simp only [Bool.false_eq_true, if_false] at hy
        unfold rk
        rw [hn]
        simp only [Bool.false_eq_true, if_false]
      · have e1 : (if isNan (topN 1) = true then 18446744073709551615 else if neg (topN 1) = true then 9223372036854775807 - rung (topN 1) else 9223372036854775808 + rung (topN 1)) = 9223372036854775808 + 9218868437227405312 := by decide
        rw [e1]; split <;> omega
      · have e1 : (if isNan (topN 2) = true then 18446744073709551615 else if neg (topN 2) = true then 9223372036854775807 - rung (topN 2) else 9223372036854775808 + rung (topN 2)) = 9223372036854775808 + 9218868437227405311 := by decide
        rw [e1]; split at hy <;> first | (exfalso; omega) | (split <;> omega)
      · have e1 : (if isNan (topN 3) = true then 18446744073709551615 else if neg (topN 3) = true then 9223372036854775807 - rung (topN 3) else 9223372036854775808 + rung (topN 3)) = 9223372036854775808 + 4503599627370495 := by decide
        rw [e1]; (repeat' split at hy) <;> first | (exfalso; omega) | (split <;> omega)
      · have e1 : (if isNan (topN 4) = true then 18446744073709551615 else if neg (topN 4) = true then 9223372036854775807 - rung (topN 4) else 9223372036854775808 + rung (topN 4)) = 9223372036854775808 := by decide
        rw [e1]; (repeat' split at hy) <;> first | (exfalso; omega) | (split <;> omega)
    rw [decide_eq_false (by omega)]; rfl
  exact hall.rounds

end Go.Proofs.Ytnbjlcjlcjefjaa.Pure
