/- The pure statement of the law NumOrder: of any two numbers whether they are the same, and which is ahead, as the document has it; for every input. -/
import Derived.Test.YtnbjlcjlcjefjaaPNumOrderx
import Derived.Test.YtnbjlcjlcjefjaaXPure
import Derived.Test.YtnbjlcjlcjefjaaXOpen
import Derived.Test.YtnbjlcjlcjefjaaXFloat
namespace Go.Proofs.Ytnbjlcjlcjefjaa.Pure
open Go.RowKit Go.Proofs.Ytnbjlcjlcjefjaa.PNumOrder Go.Proofs.YtnbjlcjlcjefjaaW.PrintWords Go.Proofs.YtnbjlcjlcjefjaaW.PrintLast Go.Proofs.YtnbjlcjlcjefjaaW.PrintMore Go.Proofs.YtnbjlcjlcjefjaaX
set_option linter.unusedVariables false
set_option linter.unusedSimpArgs false
/-! num: the words of floats -/
def clean (b : Nat) : Nat := if isNan b then 9221120237041090561 else b
def rk (b : Nat) : Nat := if isNan b then 18446744073709551615 else if neg b then 9223372036854775807 - rung b else 9223372036854775808 + rung b
def kindN (b : Nat) : Int := if isNan b then 0 else if rung b = 9218868437227405312 then 1 else if 4503599627370496 ≤ rung b then 2 else if 0 < rung b then 3 else 4
theorem neg_iff {b : Nat} (h : b < 18446744073709551616) : neg b = decide (9223372036854775808 ≤ b) := by
  unfold neg
  rw [Bool.eq_iff_iff]; simp; omega
theorem nan_iff (b : Nat) : isNan b = decide (9218868437227405312 < b % 9223372036854775808) := rfl
theorem clean_lt {b : Nat} (h : b < 18446744073709551616) : clean b < 18446744073709551616 := by unfold clean; split <;> omega
theorem clean_nan (b : Nat) : isNan (clean b) = isNan b := by
  unfold clean
  cases h : isNan b
  · rw [if_neg (by simp)]; exact h
  · rw [if_pos rfl]; decide
theorem clean_clean (b : Nat) : clean (clean b) = clean b := by
  have h := clean_nan b
  unfold clean at *
  cases hb : isNan b
  · simp [hb]
  · simp [hb] at h ⊢
theorem rk_clean (b : Nat) : rk (clean b) = rk b := by
  have h := clean_nan b
  unfold rk
  rw [h]
  cases hb : isNan b
  · have : clean b = b := by unfold clean; rw [hb]; rfl
    rw [this]
  · rfl
theorem num_Of_eq (n : Nat) : num_Of.f (n : Int) = some (clean n) := by
  unfold num_Of.f math_NaN.f clean
  have e : ((n : Int)).toNat = n := rfl
  rw [e, feq_self]
  cases isNan n <;> rfl
theorem num_Bits_eq (b : Nat) : num_Bits.f b = some ((clean b : Nat) : Int) := by
  unfold num_Bits.f clean
  rw [fne_self]
  cases isNan b <;> rfl
theorem num_Same_eq (a b : Nat) : num_Same.f a b = some (decide (clean a = clean b)) := by
  unfold num_Same.f
  rw [num_Bits_eq, num_Bits_eq]
  simp only [Option.bind_some, Option.some.injEq]
  rw [Bool.eq_iff_iff]; simp; omega
theorem num_Less_ev {a b : Nat} (ha : a < 18446744073709551616) (hb : b < 18446744073709551616) : Ev (fun k => num_Less.f k a b) (decide (rk a < rk b)) := by
  unfold num_Less.f
  rw [fne_self, fne_self]
  have n0 : isNan 0 = false := by decide
  have k0 : key 0 = 0 := by decide
  have la := rung_lt a
  have lb := rung_lt b
  cases na : isNan a
  · refine Ev.ite_neg (by simp) ?_
    have ra : rung a ≤ 9218868437227405312 := by have := of_decide_eq_false na; omega
    cases nb : isNan b
    · refine Ev.ite_neg (by simp) ?_
      have rb : rung b ≤ 9218868437227405312 := by have := of_decide_eq_false nb; omega
      rw [cmp_eq na n0, cmp_eq nb n0, k0]
      have plain : ¬ (key a = 0 ∧ key b = 0) → Ev (fun k => num_Less.j0 k a b false) (decide (rk a < rk b)) := by
        intro hz
        refine Ev.const fun k => ?_
        simp only [num_Less.j0]
        rw [if_neg (by simp), cmp_lt na nb]
        congr 1
        rw [decide_eq_decide]
        unfold rk
        rw [na, nb]
        unfold key at hz ⊢
        cases neg a <;> cases neg b <;> simp only [if_true, if_false, Bool.false_eq_true] at hz ⊢ <;> omega
      refine Ev.ite (fun h1 => ?_) (fun h1 => plain (fun h => h1 (decide_eq_true h.1)))
      have h1' := of_decide_eq_true h1
      by_cases h2 : key b = 0
      · rw [decide_eq_true h2]
        refine Ev.const fun k => ?_
        simp only [num_Less.j0]
        have za : rung a = 0 := by unfold key at h1'; split at h1' <;> omega
        have zb : rung b = 0 := by unfold key at h2; split at h2 <;> omega
        have sg : ∀ x : Nat, x < 18446744073709551616 → math_Signbit.f x = some (neg x) := by
          intro x hx
          unfold math_Signbit.f
          rw [neg_iff hx, Option.some.injEq, decide_eq_decide]
          unfold wrap64; omega
        rw [if_pos trivial, sg a ha, sg b hb]
        unfold rk
        rw [na, nb, za, zb]
        cases neg a <;> cases neg b <;> rfl
      · rw [decide_eq_false h2]
        exact plain (fun h => h2 h.2)
    · refine Ev.ite_pos rfl (Ev.all fun k => ?_)
      congr 1
      refine (decide_eq_true ?_).symm
      unfold rk
      rw [na, nb]
      cases neg a <;> simp only [if_true, if_false, Bool.false_eq_true] <;> omega
  · refine Ev.ite_pos rfl (Ev.all fun k => ?_)
    congr 1
    refine (decide_eq_false ?_).symm
    have : rk b ≤ 18446744073709551615 := by unfold rk; split <;> (try split) <;> omega
    unfold rk at this ⊢
    rw [na]
    simp only [if_true]
    omega
theorem deq (a b : Nat) : decide (a = b) = ((a : Int) == (b : Int)) := by rw [Bool.eq_iff_iff]; simp; omega
theorem kind_zero (b : Nat) : kindN b = 0 ↔ isNan b = true := by
  unfold kindN
  cases isNan b
  · simp only [if_false, Bool.false_eq_true]; (repeat' split) <;> simp
  · simp
theorem kind_clean (b : Nat) : kindN (clean b) = kindN b := by
  cases h : isNan b
  · have : clean b = b := by unfold clean; rw [h]; rfl
    rw [this]
  · rw [(kind_zero b).2 h, (kind_zero (clean b)).2 (by rw [clean_nan]; exact h)]
theorem clean_of {b : Nat} (h : isNan b = false) : clean b = b := by unfold clean; rw [h]; rfl
theorem clean_of_nan {b : Nat} (h : isNan b = true) : clean b = 9221120237041090561 := by unfold clean; rw [h]; rfl

theorem and_mask (n j : Nat) (m : Nat) (h : n < 18446744073709551616) (hm : m = 2 ^ j - 1) (hm2 : m < 18446744073709551616) : Go.bits .and .u64 (n : Int) (m : Int) = ((n % 2 ^ j : Nat) : Int) := by
  rw [u64_and_nat _ _ h hm2, hm, Nat.and_two_pow_sub_one_eq_mod]
theorem ref_Parts_eq (n : Nat) (h : n < 18446744073709551616) : ropewayref01_Parts.f (n : Int) = some (((n / 9223372036854775808 : Nat) : Int), ((n / 4503599627370496 % 2048 : Nat) : Int), ((n % 4503599627370496 : Nat) : Int)) := by
  unfold ropewayref01_Parts.f
  have e1 : ((n : Int) / 4503599627370496) = ((n / 4503599627370496 : Nat) : Int) := by omega
  have e2 : ((n : Int) / 9223372036854775808) = ((n / 9223372036854775808 : Nat) : Int) := by omega
  rw [e1, e2]
  have h1 := and_mask (n / 4503599627370496) 11 2047 (by omega) (by decide) (by decide)
  have h2 := and_mask n 52 4503599627370495 h (by decide) (by decide)
  have c1 : ((2047 : Nat) : Int) = 2047 := rfl
  have c2 : ((4503599627370495 : Nat) : Int) = 4503599627370495 := rfl
  rw [c1] at h1
  rw [c2] at h2
  rw [h1, h2]
theorem ref_Clean_eq (n : Nat) (h : n < 18446744073709551616) : ropewayref01_Clean.f (n : Int) = some ((clean n : Nat) : Int) := by
  unfold ropewayref01_Clean.f clean
  rw [ref_Parts_eq n h, nan_iff]
  simp only [Option.bind_some]
  by_cases hc : 9218868437227405312 < n % 9223372036854775808
  · rw [if_pos (by omega), if_neg (by omega), if_pos (decide_eq_true hc)]; rfl
  · rw [if_neg (show ¬ (decide (9218868437227405312 < n % 9223372036854775808) = true) by simpa using hc)]
    by_cases h1 : ((n / 4503599627370496 % 2048 : Nat) : Int) = 2047
    · rw [if_pos h1, if_pos (by omega)]
    · rw [if_neg h1]
theorem ref_Kind_eq (n : Nat) (h : n < 18446744073709551616) : ropewayref01_Kind.f (n : Int) = some (kindN n) := by
  unfold ropewayref01_Kind.f kindN
  rw [ref_Parts_eq n h, nan_iff]
  unfold rung
  simp only [Option.bind_some, decide_eq_true_eq]
  have hr : n % 9223372036854775808 = n / 4503599627370496 % 2048 * 4503599627370496 + n % 4503599627370496 := by omega
  have he : n / 4503599627370496 % 2048 < 2048 := Nat.mod_lt _ (by decide)
  have hf : n % 4503599627370496 < 4503599627370496 := Nat.mod_lt _ (by decide)
  rw [hr]
  generalize n / 4503599627370496 % 2048 = e at *
  generalize n % 4503599627370496 = f at *
  clear hr
  (repeat' split) <;> first | rfl | (exfalso; omega)

theorem ref_rank_eq (n : Nat) (h : n < 18446744073709551616) : ropewayref01_rank.f (n : Int) = some ((rk n : Nat) : Int) := by
  unfold ropewayref01_rank.f rk
  rw [ref_Parts_eq n h, ref_Kind_eq n h]
  simp only [Option.bind_some]
  have hk : kindN n = 0 ↔ isNan n = true := by
    unfold kindN
    cases isNan n
    · simp only [if_false, Bool.false_eq_true]; (repeat' split) <;> simp
    · simp
  by_cases hn : isNan n = true
  · rw [if_pos (hk.2 hn), hn]; rfl
  · rw [if_neg (fun hc => hn (hk.1 hc)), if_neg hn, neg_iff h]
    have h2 := and_mask n 63 9223372036854775807 h (by decide) (by decide)
    have c2 : ((9223372036854775807 : Nat) : Int) = 9223372036854775807 := rfl
    have e : (2 : Nat) ^ 63 = 9223372036854775808 := by decide
    rw [c2, e] at h2
    have wr : ∀ x : Int, 0 ≤ x → x < 18446744073709551616 → IntKind.u64.wrap x = x := by
      intro x h0 h1
      simp [IntKind.wrap, IntKind.bits, IntKind.signed]; omega
    unfold rung
    by_cases hs : 9223372036854775808 ≤ n
    · rw [if_pos (show ((n / 9223372036854775808 : Nat) : Int) = 1 by omega), decide_eq_true hs, h2, wr _ (by omega) (by omega)]
      simp only [if_true]; congr 1; omega
    · rw [if_neg (show ¬ ((n / 9223372036854775808 : Nat) : Int) = 1 by omega), decide_eq_false hs, wr _ (by omega) (by omega)]
      simp only [if_false, Bool.false_eq_true]; congr 1; omega
theorem ref_Less_eq (a b : Nat) (ha : a < 18446744073709551616) (hb : b < 18446744073709551616) : ropewayref01_Less.f (a : Int) (b : Int) = some (decide (rk a < rk b)) := by
  unfold ropewayref01_Less.f
  rw [ref_rank_eq a ha, ref_rank_eq b hb]
  simp only [Option.bind_some, Option.some.injEq, decide_eq_decide]
  omega

theorem NumOrder : ropewaylaw01_NumOrder.Pure := by
  intro a b ha hb
  obtain ⟨a0, a1⟩ := wf_u64 ha
  obtain ⟨b0, b1⟩ := wf_u64 hb
  obtain ⟨n, rfl⟩ : ∃ n : Nat, a = (n : Int) := ⟨a.toNat, by omega⟩
  obtain ⟨m, rfl⟩ : ∃ m : Nat, b = (m : Int) := ⟨b.toNat, by omega⟩
  have hn : n < 18446744073709551616 := by omega
  have hm : m < 18446744073709551616 := by omega
  have hal : Ev (fun k => ropewaylaw01_numAlive.f k) true := Ev.closed ropewaylaw01_numAlive.mono 20 (by decide +kernel)
  have hall : Ev (fun k => ropewaylaw01_NumOrder.f k n m) true := by
    unfold ropewaylaw01_NumOrder.f
    refine Ev.bind_all (num_Of_eq n) ?_
    refine Ev.bind_all (num_Of_eq m) ?_
    refine Ev.bind_all (ref_Clean_eq n hn) ?_
    refine Ev.bind_all (ref_Clean_eq m hm) ?_
    refine Ev.bind hal ?_
    refine Ev.ite_pos rfl ?_
    refine Ev.bind_all (num_Same_eq _ _) ?_
    refine Ev.ite_pos (by rw [clean_clean, clean_clean, deq]; simp) ?_
    refine Ev.bind (num_Less_ev (clean_lt hn) (clean_lt hm)) ?_
    refine Ev.bind_all (ref_Less_eq _ _ (clean_lt hn) (clean_lt hm)) ?_
    refine Ev.ite_pos (by simp) ?_
    refine Ev.bind (num_Less_ev (clean_lt hm) (clean_lt hn)) ?_
    refine Ev.bind_all (ref_Less_eq _ _ (clean_lt hm) (clean_lt hn)) ?_
    exact Ev.all fun k => by simp
  exact hall.rounds

end Go.Proofs.Ytnbjlcjlcjefjaa.Pure
