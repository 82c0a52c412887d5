/- The pure statement of the law NumSigns: with their signs turned two numbers stand the other way round, and each is of its kind; for every input. -/
import Derived.Test.YtnbjlcjlcjefjaaPNumSignsx
import Derived.Test.YtnbjlcjlcjefjaaXPure
import Derived.Test.YtnbjlcjlcjefjaaXOpen
import Derived.Test.YtnbjlcjlcjefjaaXFloat
namespace Go.Proofs.Ytnbjlcjlcjefjaa.Pure
open Go.RowKit Go.Proofs.Ytnbjlcjlcjefjaa.PNumSigns Go.Proofs.YtnbjlcjlcjefjaaW.PrintWords Go.Proofs.YtnbjlcjlcjefjaaW.PrintLast Go.Proofs.YtnbjlcjlcjefjaaW.PrintMore Go.Proofs.YtnbjlcjlcjefjaaX
set_option linter.unusedVariables false
set_option linter.unusedSimpArgs false
/-! num: the words of floats -/
def clean (b : Nat) : Nat := if isNan b then 9221120237041090561 else b
def rk (b : Nat) : Nat := if isNan b then 18446744073709551615 else if neg b then 9223372036854775807 - rung b else 9223372036854775808 + rung b
def kindN (b : Nat) : Int := if isNan b then 0 else if rung b = 9218868437227405312 then 1 else if 4503599627370496 ≤ rung b then 2 else if 0 < rung b then 3 else 4
theorem neg_iff {b : Nat} (h : b < 18446744073709551616) : neg b = decide (9223372036854775808 ≤ b) := by
  unfold neg
  rw [Bool.eq_iff_iff]; simp; omega
theorem nan_iff (b : Nat) : isNan b = decide (9218868437227405312 < b % 9223372036854775808) := rfl
theorem clean_lt {b : Nat} (h : b < 18446744073709551616) : clean b < 18446744073709551616 := by unfold clean; split <;> omega
theorem clean_nan (b : Nat) : isNan (clean b) = isNan b := by
  unfold clean
  cases h : isNan b
  · rw [if_neg (by simp)]; exact h
  · rw [if_pos rfl]; decide
theorem clean_clean (b : Nat) : clean (clean b) = clean b := by
  have h := clean_nan b
  unfold clean at *
  cases hb : isNan b
  · simp [hb]
  · simp [hb] at h ⊢
theorem rk_clean (b : Nat) : rk (clean b) = rk b := by
  have h := clean_nan b
  unfold rk
  rw [h]
  cases hb : isNan b
  · have : clean b = b := by unfold clean; rw [hb]; rfl
    rw [this]
  · rfl
theorem num_Of_eq (n : Nat) : num_Of.f (n : Int) = some (clean n) := by
  unfold num_Of.f math_NaN.f clean
  have e : ((n : Int)).toNat = n := rfl
  rw [e, feq_self]
  cases isNan n <;> rfl
theorem num_Bits_eq (b : Nat) : num_Bits.f b = some ((clean b : Nat) : Int) := by
  unfold num_Bits.f clean
  rw [fne_self]
  cases isNan b <;> rfl
theorem num_Same_eq (a b : Nat) : num_Same.f a b = some (decide (clean a = clean b)) := by
  unfold num_Same.f
  rw [num_Bits_eq, num_Bits_eq]
  simp only [Option.bind_some, Option.some.injEq]
  rw [Bool.eq_iff_iff]; simp; omega
theorem num_Less_ev {a b : Nat} (ha : a < 18446744073709551616) (hb : b < 18446744073709551616) : Ev (fun k => num_Less.f k a b) (decide (rk a < rk b)) := by
  unfold num_Less.f
  rw [fne_self, fne_self]
  have n0 : isNan 0 = false := by decide
  have k0 : key 0 = 0 := by decide
  have la := rung_lt a
  have lb := rung_lt b
  cases na : isNan a
  · refine Ev.ite_neg (by simp) ?_
    have ra : rung a ≤ 9218868437227405312 := by have := of_decide_eq_false na; omega
    cases nb : isNan b
    · refine Ev.ite_neg (by simp) ?_
      have rb : rung b ≤ 9218868437227405312 := by have := of_decide_eq_false nb; omega
      rw [cmp_eq na n0, cmp_eq nb n0, k0]
      have plain : ¬ (key a = 0 ∧ key b = 0) → Ev (fun k => num_Less.j0 k a b false) (decide (rk a < rk b)) := by
        intro hz
        refine Ev.const fun k => ?_
        simp only [num_Less.j0]
        rw [if_neg (by simp), cmp_lt na nb]
        congr 1
        rw [decide_eq_decide]
        unfold rk
        rw [na, nb]
        unfold key at hz ⊢
        cases neg a <;> cases neg b <;> simp only [if_true, if_false, Bool.false_eq_true] at hz ⊢ <;> omega
      refine Ev.ite (fun h1 => ?_) (fun h1 => plain (fun h => h1 (decide_eq_true h.1)))
      have h1' := of_decide_eq_true h1
      by_cases h2 : key b = 0
      · rw [decide_eq_true h2]
        refine Ev.const fun k => ?_
        simp only [num_Less.j0]
        have za : rung a = 0 := by unfold key at h1'; split at h1' <;> omega
        have zb : rung b = 0 := by unfold key at h2; split at h2 <;> omega
        have sg : ∀ x : Nat, x < 18446744073709551616 → math_Signbit.f x = some (neg x) := by
          intro x hx
          unfold math_Signbit.f
          rw [neg_iff hx, Option.some.injEq, decide_eq_decide]
          unfold wrap64; omega
        rw [if_pos trivial, sg a ha, sg b hb]
        unfold rk
        rw [na, nb, za, zb]
        cases neg a <;> cases neg b <;> rfl
      · rw [decide_eq_false h2]
        exact plain (fun h => h2 h.2)
    · refine Ev.ite_pos rfl (Ev.all fun k => ?_)
      congr 1
      refine (decide_eq_true ?_).symm
      unfold rk
      rw [na, nb]
      cases neg a <;> simp only [if_true, if_false, Bool.false_eq_true] <;> omega
  · refine Ev.ite_pos rfl (Ev.all fun k => ?_)
    congr 1
    refine (decide_eq_false ?_).symm
    have : rk b ≤ 18446744073709551615 := by unfold rk; split <;> (try split) <;> omega
    unfold rk at this ⊢
    rw [na]
    simp only [if_true]
    omega
theorem deq (a b : Nat) : decide (a = b) = ((a : Int) == (b : Int)) := by rw [Bool.eq_iff_iff]; simp; omega
theorem kind_zero (b : Nat) : kindN b = 0 ↔ isNan b = true := by
  unfold kindN
  cases isNan b
  · simp only [if_false, Bool.false_eq_true]; (repeat' split) <;> simp
  · simp
theorem kind_clean (b : Nat) : kindN (clean b) = kindN b := by
  cases h : isNan b
  · have : clean b = b := by unfold clean; rw [h]; rfl
    rw [this]
  · rw [(kind_zero b).2 h, (kind_zero (clean b)).2 (by rw [clean_nan]; exact h)]
theorem clean_of {b : Nat} (h : isNan b = false) : clean b = b := by unfold clean; rw [h]; rfl
theorem clean_of_nan {b : Nat} (h : isNan b = true) : clean b = 9221120237041090561 := by unfold clean; rw [h]; rfl

theorem rung_rung (b : Nat) : rung (rung b) = rung b := by unfold rung; omega
theorem neg_rung (b : Nat) : neg (rung b) = false := by unfold neg rung; rw [Bool.eq_false_iff]; simp
theorem nan_rung (b : Nat) : isNan (rung b) = isNan b := by unfold isNan; rw [rung_rung]
theorem key_rung (b : Nat) : key (rung b) = (rung b : Int) := by unfold key; rw [neg_rung, rung_rung]; rfl
theorem math_Abs_eq {b : Nat} (h : b < 18446744073709551616) : math_Abs.f b = some (rung b) := by
  unfold math_Abs.f
  have h1 := u64_andNot_nat b 9223372036854775808 h (by decide)
  have c : ((9223372036854775808 : Nat) : Int) = 9223372036854775808 := rfl
  rw [c] at h1
  rw [h1]
  have e : (18446744073709551615 - 9223372036854775808 : Nat) = 2 ^ 63 - 1 := by decide
  rw [e, Nat.and_two_pow_sub_one_eq_mod]
  rfl
theorem num_Kind_eq {b : Nat} (h : b < 18446744073709551616) : num_Kind.f b = some (kindN b) := by
  unfold num_Kind.f math_IsInf.f
  rw [math_Abs_eq h, fne_self]
  simp only [Option.bind_some, if_true]
  unfold kindN
  cases hn : isNan b
  · have hr : isNan (rung b) = false := by rw [nan_rung]; exact hn
    have h1 : isNan 9218868437227405311 = false := by decide
    have h2 : isNan 4503599627370496 = false := by decide
    have h3 : isNan 0 = false := by decide
    have k1 : key 9218868437227405311 = 9218868437227405311 := by decide
    have k2 : key 4503599627370496 = 4503599627370496 := by decide
    have k3 : key 0 = 0 := by decide
    have ra : rung b ≤ 9218868437227405312 := by have := of_decide_eq_false hn; omega
    rw [cmp_gt hr h1, cmp_gt hr h2, cmp_eq hr h2, cmp_gt hr h3, key_rung, k1, k2, k3]
    simp only [Bool.false_eq_true, if_false, decide_eq_true_eq, Bool.or_eq_true]
    (repeat' split) <;> first | rfl | (exfalso; omega)
  · simp

theorem xor_top {r : Nat} (h : r < 9223372036854775808) : r ^^^ 9223372036854775808 = 9223372036854775808 + r := by
  have e : (9223372036854775808 : Nat) = 2 ^ 63 := by decide
  rw [e] at h ⊢
  apply Nat.eq_of_testBit_eq
  intro i
  rw [Nat.testBit_xor, Nat.testBit_two_pow]
  rcases Nat.lt_trichotomy i 63 with hi | hi | hi
  · rw [Nat.testBit_two_pow_add_gt hi, decide_eq_false (by omega), Bool.xor_false]
  · subst hi
    rw [Nat.testBit_two_pow_add_eq]
    simp
  · have h1 : r.testBit i = false := Nat.testBit_lt_two_pow (Nat.lt_of_lt_of_le h (Nat.pow_le_pow_right (by decide) (by omega)))
    have h2 : (2 ^ 63 + r).testBit i = false := Nat.testBit_lt_two_pow (Nat.lt_of_lt_of_le (show 2 ^ 63 + r < 2 ^ 64 by omega) (Nat.pow_le_pow_right (by decide) (by omega)))
    rw [h1, h2, decide_eq_false (by omega)]; rfl
theorem fneg_eq {b : Nat} (h : b < 18446744073709551616) : fneg b = if b < 9223372036854775808 then b + 9223372036854775808 else b - 9223372036854775808 := by
  have e : fneg b = b ^^^ 9223372036854775808 := rfl
  rw [e]
  by_cases hb : b < 9223372036854775808
  · rw [if_pos hb, xor_top hb]; omega
  · rw [if_neg hb]
    obtain ⟨r, rfl⟩ : ∃ r, b = 9223372036854775808 + r := ⟨b - 9223372036854775808, by omega⟩
    rw [← xor_top (show r < 9223372036854775808 by omega), Nat.xor_assoc, Nat.xor_self, Nat.xor_zero, xor_top (by omega)]
    omega
theorem fneg_lt {b : Nat} (h : b < 18446744073709551616) : fneg b < 18446744073709551616 := by rw [fneg_eq h]; split <;> omega
theorem fneg_fneg (b : Nat) : fneg (fneg b) = b := by
  have e : fneg (fneg b) = b ^^^ 9223372036854775808 ^^^ 9223372036854775808 := rfl
  rw [e, Nat.xor_assoc, Nat.xor_self, Nat.xor_zero]
theorem rung_fneg {b : Nat} (h : b < 18446744073709551616) : rung (fneg b) = rung b := by rw [fneg_eq h]; unfold rung; split <;> omega
theorem nan_fneg {b : Nat} (h : b < 18446744073709551616) : isNan (fneg b) = isNan b := by unfold isNan; rw [rung_fneg h]
theorem neg_fneg {b : Nat} (h : b < 18446744073709551616) : neg (fneg b) = !neg b := by
  rw [neg_iff (fneg_lt h), neg_iff h, fneg_eq h, Bool.eq_iff_iff]
  simp
  split <;> omega
theorem kind_fneg {b : Nat} (h : b < 18446744073709551616) : kindN (fneg b) = kindN b := by unfold kindN; rw [nan_fneg h, rung_fneg h]
theorem rk_fneg {b : Nat} (h : b < 18446744073709551616) (hn : isNan b = false) : rk (fneg b) + rk b = 18446744073709551615 := by
  unfold rk
  rw [nan_fneg h, rung_fneg h, neg_fneg h, hn]
  have := rung_lt b
  cases neg b <;> simp only [if_true, if_false, Bool.false_eq_true, Bool.not_true, Bool.not_false] <;> omega

theorem of_u64 {a : Int} (ha : (Lit.int .u64 a).wf = true) : ∃ n : Nat, a = (n : Int) ∧ n < 18446744073709551616 := by
  obtain ⟨a0, a1⟩ := wf_u64 ha
  exact ⟨a.toNat, by omega, by omega⟩
theorem alive : Ev (fun k => ropewaylaw01_numAlive.f k) true := Ev.closed ropewaylaw01_numAlive.mono 20 (by decide +kernel)

theorem NumSigns : ropewaylaw01_NumSigns.Pure := by
  intro a b ha hb
  obtain ⟨n, rfl, hn⟩ := of_u64 ha
  obtain ⟨m, rfl, hm⟩ := of_u64 hb
  have hall : Ev (fun k => ropewaylaw01_NumSigns.f k n m) true := by
    unfold ropewaylaw01_NumSigns.f
    refine Ev.bind alive ?_
    refine Ev.ite_pos rfl ?_
    refine Ev.bind_all (num_Of_eq n) ?_
    refine Ev.bind_all (num_Of_eq m) ?_
    have hx := clean_lt hn
    have hy := clean_lt hm
    generalize clean n = x at *
    generalize clean m = y at *
    refine Ev.bind_all (num_Kind_eq (fneg_lt hx)) ?_
    refine Ev.bind_all (num_Kind_eq hx) ?_
    rw [kind_fneg hx]
    refine Ev.ite_pos rfl ?_
    have jt : Ev (fun k => ropewaylaw01_NumSigns.j0 k x y true) true := Ev.const fun k => by
      simp only [ropewaylaw01_NumSigns.j0]
      rw [if_pos trivial, num_Kind_eq (fneg_lt hx), num_Kind_eq hx, kind_fneg hx]; simp
    refine Ev.bind_all (num_Kind_eq hx) ?_
    by_cases h1 : kindN x = 0
    · exact Ev.ite_pos h1 jt
    refine Ev.ite_neg h1 ?_
    refine Ev.bind_all (num_Kind_eq hy) ?_
    by_cases h2 : kindN y = 0
    · rw [h2]; exact jt
    · have nx : isNan x = false := by
        cases h : isNan x
        · rfl
        · exact absurd ((kind_zero x).2 h) h1
      have ny : isNan y = false := by
        cases h : isNan y
        · rfl
        · exact absurd ((kind_zero y).2 h) h2
      have e : (kindN y == 0) = false := by simpa using h2
      rw [e]
      refine Ev.step' (f := fun k => ((num_Less.f k x y).bind fun t126 => ((num_Less.f k (fneg y) (fneg x)).bind fun t127 => (if (t126 == t127) = true then ((num_Same.f (fneg (fneg x)) x).bind fun t128 => (some t128)) else (some false))))) ?_ (fun k => by
        simp only [ropewaylaw01_NumSigns.j0]
        rw [if_neg (by simp)])
      refine Ev.bind (num_Less_ev hx hy) ?_
      refine Ev.bind (num_Less_ev (fneg_lt hy) (fneg_lt hx)) ?_
      have r1 := rk_fneg hx nx
      have r2 := rk_fneg hy ny
      have hiff : (rk x < rk y) ↔ (rk (fneg y) < rk (fneg x)) := by omega
      refine Ev.ite_pos (by rw [beq_iff_eq, decide_eq_decide]; exact hiff) ?_
      refine Ev.all fun k => ?_
      rw [fneg_fneg, num_Same_eq]; simp
  exact hall.rounds

end Go.Proofs.Ytnbjlcjlcjefjaa.Pure
