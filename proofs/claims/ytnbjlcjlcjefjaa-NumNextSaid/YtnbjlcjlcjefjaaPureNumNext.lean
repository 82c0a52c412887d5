/- The pure statement of the law NumNext: the next number above one is behind it, and nothing stands between the two, but 0 above -0; for every input. -/
import Derived.Test.YtnbjlcjlcjefjaaPNumNextx
import Derived.Test.YtnbjlcjlcjefjaaXPure
import Derived.Test.YtnbjlcjlcjefjaaXOpen
import Derived.Test.YtnbjlcjlcjefjaaXFloat
namespace Go.Proofs.Ytnbjlcjlcjefjaa.Pure
open Go.RowKit Go.Proofs.Ytnbjlcjlcjefjaa.PNumNext Go.Proofs.YtnbjlcjlcjefjaaW.PrintWords Go.Proofs.YtnbjlcjlcjefjaaW.PrintLast Go.Proofs.YtnbjlcjlcjefjaaW.PrintMore Go.Proofs.YtnbjlcjlcjefjaaX
set_option linter.unusedVariables false
set_option linter.unusedSimpArgs false
/-! num: the words of floats -/
def clean (b : Nat) : Nat := if isNan b then 9221120237041090561 else b
def rk (b : Nat) : Nat := if isNan b then 18446744073709551615 else if neg b then 9223372036854775807 - rung b else 9223372036854775808 + rung b
def kindN (b : Nat) : Int := if isNan b then 0 else if rung b = 9218868437227405312 then 1 else if 4503599627370496 ≤ rung b then 2 else if 0 < rung b then 3 else 4
theorem neg_iff {b : Nat} (h : b < 18446744073709551616) : neg b = decide (9223372036854775808 ≤ b) := by
  unfold neg
  rw [Bool.eq_iff_iff]; simp; omega
theorem nan_iff (b : Nat) : isNan b = decide (9218868437227405312 < b % 9223372036854775808) := rfl
theorem clean_lt {b : Nat} (h : b < 18446744073709551616) : clean b < 18446744073709551616 := by unfold clean; split <;> omega
theorem clean_nan (b : Nat) : isNan (clean b) = isNan b := by
  unfold clean
  cases h : isNan b
  · rw [if_neg (by simp)]; exact h
  · rw [if_pos rfl]; decide
theorem clean_clean (b : Nat) : clean (clean b) = clean b := by
  have h := clean_nan b
  unfold clean at *
  cases hb : isNan b
  · simp [hb]
  · simp [hb] at h ⊢
theorem rk_clean (b : Nat) : rk (clean b) = rk b := by
  have h := clean_nan b
  unfold rk
  rw [h]
  cases hb : isNan b
  · have : clean b = b := by unfold clean; rw [hb]; rfl
    rw [this]
  · rfl
theorem num_Of_eq (n : Nat) : num_Of.f (n : Int) = some (clean n) := by
  unfold num_Of.f math_NaN.f clean
  have e : ((n : Int)).toNat = n := rfl
  rw [e, feq_self]
  cases isNan n <;> rfl
theorem num_Bits_eq (b : Nat) : num_Bits.f b = some ((clean b : Nat) : Int) := by
  unfold num_Bits.f clean
  rw [fne_self]
  cases isNan b <;> rfl
theorem num_Same_eq (a b : Nat) : num_Same.f a b = some (decide (clean a = clean b)) := by
  unfold num_Same.f
  rw [num_Bits_eq, num_Bits_eq]
  simp only [Option.bind_some, Option.some.injEq]
  rw [Bool.eq_iff_iff]; simp; omega
theorem num_Less_ev {a b : Nat} (ha : a < 18446744073709551616) (hb : b < 18446744073709551616) : Ev (fun k => num_Less.f k a b) (decide (rk a < rk b)) := by
  unfold num_Less.f
  rw [fne_self, fne_self]
  have n0 : isNan 0 = false := by decide
  have k0 : key 0 = 0 := by decide
  have la := rung_lt a
  have lb := rung_lt b
  cases na : isNan a
  · refine Ev.ite_neg (by simp) ?_
    have ra : rung a ≤ 9218868437227405312 := by have := of_decide_eq_false na; omega
    cases nb : isNan b
    · refine Ev.ite_neg (by simp) ?_
      have rb : rung b ≤ 9218868437227405312 := by have := of_decide_eq_false nb; omega
      rw [cmp_eq na n0, cmp_eq nb n0, k0]
      have plain : ¬ (key a = 0 ∧ key b = 0) → Ev (fun k => num_Less.j0 k a b false) (decide (rk a < rk b)) := by
        intro hz
        refine Ev.const fun k => ?_
        simp only [num_Less.j0]
        rw [if_neg (by simp), cmp_lt na nb]
        congr 1
        rw [decide_eq_decide]
        unfold rk
        rw [na, nb]
        unfold key at hz ⊢
        cases neg a <;> cases neg b <;> simp only [if_true, if_false, Bool.false_eq_true] at hz ⊢ <;> omega
      refine Ev.ite (fun h1 => ?_) (fun h1 => plain (fun h => h1 (decide_eq_true h.1)))
      have h1' := of_decide_eq_true h1
      by_cases h2 : key b = 0
      · rw [decide_eq_true h2]
        refine Ev.const fun k => ?_
        simp only [num_Less.j0]
        have za : rung a = 0 := by unfold key at h1'; split at h1' <;> omega
        have zb : rung b = 0 := by unfold key at h2; split at h2 <;> omega
        have sg : ∀ x : Nat, x < 18446744073709551616 → math_Signbit.f x = some (neg x) := by
          intro x hx
          unfold math_Signbit.f
          rw [neg_iff hx, Option.some.injEq, decide_eq_decide]
          unfold wrap64; omega
        rw [if_pos trivial, sg a ha, sg b hb]
        unfold rk
        rw [na, nb, za, zb]
        cases neg a <;> cases neg b <;> rfl
      · rw [decide_eq_false h2]
        exact plain (fun h => h2 h.2)
    · refine Ev.ite_pos rfl (Ev.all fun k => ?_)
      congr 1
      refine (decide_eq_true ?_).symm
      unfold rk
      rw [na, nb]
      cases neg a <;> simp only [if_true, if_false, Bool.false_eq_true] <;> omega
  · refine Ev.ite_pos rfl (Ev.all fun k => ?_)
    congr 1
    refine (decide_eq_false ?_).symm
    have : rk b ≤ 18446744073709551615 := by unfold rk; split <;> (try split) <;> omega
    unfold rk at this ⊢
    rw [na]
    simp only [if_true]
    omega
theorem deq (a b : Nat) : decide (a = b) = ((a : Int) == (b : Int)) := by rw [Bool.eq_iff_iff]; simp; omega
theorem kind_zero (b : Nat) : kindN b = 0 ↔ isNan b = true := by
  unfold kindN
  cases isNan b
  · simp only [if_false, Bool.false_eq_true]; (repeat' split) <;> simp
  · simp
theorem kind_clean (b : Nat) : kindN (clean b) = kindN b := by
  cases h : isNan b
  · have : clean b = b := by unfold clean; rw [h]; rfl
    rw [this]
  · rw [(kind_zero b).2 h, (kind_zero (clean b)).2 (by rw [clean_nan]; exact h)]
theorem clean_of {b : Nat} (h : isNan b = false) : clean b = b := by unfold clean; rw [h]; rfl
theorem clean_of_nan {b : Nat} (h : isNan b = true) : clean b = 9221120237041090561 := by unfold clean; rw [h]; rfl

theorem rung_rung (b : Nat) : rung (rung b) = rung b := by unfold rung; omega
theorem neg_rung (b : Nat) : neg (rung b) = false := by unfold neg rung; rw [Bool.eq_false_iff]; simp
theorem nan_rung (b : Nat) : isNan (rung b) = isNan b := by unfold isNan; rw [rung_rung]
theorem key_rung (b : Nat) : key (rung b) = (rung b : Int) := by unfold key; rw [neg_rung, rung_rung]; rfl
theorem math_Abs_eq {b : Nat} (h : b < 18446744073709551616) : math_Abs.f b = some (rung b) := by
  unfold math_Abs.f
  have h1 := u64_andNot_nat b 9223372036854775808 h (by decide)
  have c : ((9223372036854775808 : Nat) : Int) = 9223372036854775808 := rfl
  rw [c] at h1
  rw [h1]
  have e : (18446744073709551615 - 9223372036854775808 : Nat) = 2 ^ 63 - 1 := by decide
  rw [e, Nat.and_two_pow_sub_one_eq_mod]
  rfl
theorem num_Kind_eq {b : Nat} (h : b < 18446744073709551616) : num_Kind.f b = some (kindN b) := by
  unfold num_Kind.f math_IsInf.f
  rw [math_Abs_eq h, fne_self]
  simp only [Option.bind_some, if_true]
  unfold kindN
  cases hn : isNan b
  · have hr : isNan (rung b) = false := by rw [nan_rung]; exact hn
    have h1 : isNan 9218868437227405311 = false := by decide
    have h2 : isNan 4503599627370496 = false := by decide
    have h3 : isNan 0 = false := by decide
    have k1 : key 9218868437227405311 = 9218868437227405311 := by decide
    have k2 : key 4503599627370496 = 4503599627370496 := by decide
    have k3 : key 0 = 0 := by decide
    have ra : rung b ≤ 9218868437227405312 := by have := of_decide_eq_false hn; omega
    rw [cmp_gt hr h1, cmp_gt hr h2, cmp_eq hr h2, cmp_gt hr h3, key_rung, k1, k2, k3]
    simp only [Bool.false_eq_true, if_false, decide_eq_true_eq, Bool.or_eq_true]
    (repeat' split) <;> first | rfl | (exfalso; omega)
  · simp

theorem of_u64 {a : Int} (ha : (Lit.int .u64 a).wf = true) : ∃ n : Nat, a = (n : Int) ∧ n < 18446744073709551616 := by
  obtain ⟨a0, a1⟩ := wf_u64 ha
  exact ⟨a.toNat, by omega, by omega⟩
theorem alive : Ev (fun k => ropewaylaw01_numAlive.f k) true := Ev.closed ropewaylaw01_numAlive.mono 20 (by decide +kernel)

theorem inf_eq : math_Inf.f 1 = some 9218868437227405312 := by decide +kernel
/-- the word of the next number above -/
def nextN (x : Nat) : Nat := if rung x = 0 then 1 else if neg x then x - 1 else x + 1
theorem next_ev {x : Nat} (hx : x < 18446744073709551616) (hn : isNan x = false) (hi : ¬ x = 9218868437227405312) : Ev (fun k => math_Nextafter.f k x 9218868437227405312) (nextN x) := by
  unfold math_Nextafter.f math_IsNaN.f
  simp only [Option.bind_some]
  have ni : isNan 9218868437227405312 = false := by decide
  have n0 : isNan 0 = false := by decide
  have ki : key 9218868437227405312 = 9218868437227405312 := by decide
  have k0 : key 0 = 0 := by decide
  rw [fne_self, hn]
  refine Ev.ite_neg (by simp) ?_
  rw [fne_self, ni]
  refine Ev.const fun k => ?_
  simp only [math_Nextafter.j0]
  have ra : rung x ≤ 9218868437227405312 := by have := of_decide_eq_false hn; omega
  have hlt : key x < 9218868437227405312 := by
    unfold key
    have hs := neg_iff hx
    cases h : neg x
    · simp only [Bool.false_eq_true, if_false]
      rw [h] at hs
      have := of_decide_eq_false hs.symm
      have : rung x ≠ 9218868437227405312 := by intro hr; apply hi; unfold rung at hr; omega
      omega
    · simp only [if_true]; omega
  rw [if_neg (by simp), cmp_eq hn ni, cmp_eq hn n0, cmp_gt ni hn, cmp_gt hn n0, ki, k0, decide_eq_false (show ¬ key x = 9218868437227405312 by omega), if_neg (by simp), decide_eq_true (show key x < 9218868437227405312 from hlt)]
  have wr : ∀ y : Int, 0 ≤ y → y < 18446744073709551616 → IntKind.u64.wrap y = y := by
    intro y h0 h1
    simp [IntKind.wrap, IntKind.bits, IntKind.signed]; omega
  unfold nextN
  by_cases hz : rung x = 0
  · have kz : key x = 0 := by unfold key; rw [hz]; split <;> rfl
    rw [if_pos hz, decide_eq_true kz, if_pos rfl]
    decide +kernel
  · have kz : ¬ key x = 0 := by unfold key; split <;> omega
    rw [if_neg hz, decide_eq_false kz, if_neg (by simp)]
    have hs := neg_iff hx
    cases h : neg x
    · rw [h] at hs
      have hb := of_decide_eq_false hs.symm
      have kp : 0 < key x := by unfold key; rw [h]; simp only [Bool.false_eq_true, if_false]; omega
      rw [decide_eq_true kp, if_pos (by simp), wr _ (by omega) (by omega)]
      simp only [Bool.false_eq_true, if_false, Option.some.injEq]; omega
    · rw [h] at hs
      have hb := of_decide_eq_true hs.symm
      have kp : ¬ 0 < key x := by unfold key; rw [h]; simp only [if_true]; omega
      rw [decide_eq_false kp, if_neg (by simp), wr _ (by omega) (by omega)]
      simp only [if_true, Option.some.injEq]; omega
theorem next_rk {x : Nat} (hx : x < 18446744073709551616) (hn : isNan x = false) (hi : ¬ x = 9218868437227405312) : nextN x < 18446744073709551616 ∧ rk (nextN x) = if x = 9223372036854775808 then rk x + 2 else rk x + 1 := by
  have ra : rung x ≤ 9218868437227405312 := by have := of_decide_eq_false hn; omega
  have hs := neg_iff hx
  unfold nextN
  by_cases hz : rung x = 0
  · rw [if_pos hz]
    have e1 : rk 1 = 9223372036854775809 := by decide
    refine ⟨by decide, ?_⟩
    rw [e1]
    unfold rk
    rw [hn, hs, hz]
    unfold rung at hz
    simp only [Bool.false_eq_true, if_false, decide_eq_true_eq]
    split <;> split <;> omega
  · rw [if_neg hz]
    cases h : neg x
    · rw [h] at hs
      have hb := of_decide_eq_false hs.symm
      simp only [Bool.false_eq_true, if_false]
      have hr : rung x = x := by unfold rung; omega
      have hx2 : x ≠ 9218868437227405312 := hi
      have hr1 : rung (x + 1) = x + 1 := by unfold rung; omega
      have hn1 : isNan (x + 1) = false := by unfold isNan; rw [hr1, decide_eq_false (by omega)]
      have hs1 : neg (x + 1) = false := by rw [neg_iff (by omega), decide_eq_false (by omega)]
      refine ⟨by omega, ?_⟩
      rw [if_neg (by omega)]
      unfold rk
      rw [hn, h, hn1, hs1, hr, hr1]
      simp only [Bool.false_eq_true, if_false]
      omega
    · rw [h] at hs
      have hb := of_decide_eq_true hs.symm
      simp only [if_true]
      have hr1 : rung (x - 1) = rung x - 1 := by unfold rung at hz ⊢; omega
      have hn1 : isNan (x - 1) = false := by unfold isNan; rw [hr1, decide_eq_false (by omega)]
      have hs1 : neg (x - 1) = true := by
        rw [neg_iff (by omega), decide_eq_true]; unfold rung at hz; omega
      refine ⟨by omega, ?_⟩
      rw [if_neg (by intro hc; subst hc; exact hz (by decide))]
      unfold rk
      rw [hn, h, hn1, hs1, hr1]
      simp only [Bool.false_eq_true, if_false, if_true]
      have := rung_lt x
      omega
theorem NumNext : ropewaylaw01_NumNext.Pure := by
  intro a b ha hb
  obtain ⟨n, rfl, hn⟩ := of_u64 ha
  obtain ⟨m, rfl, hm⟩ := of_u64 hb
  have hall : Ev (fun k => ropewaylaw01_NumNext.f k n m) true := by
    unfold ropewaylaw01_NumNext.f
    refine Ev.bind alive ?_
    refine Ev.ite_pos rfl ?_
    refine Ev.bind_all (num_Of_eq n) ?_
    refine Ev.bind_all (num_Of_eq m) ?_
    have hx := clean_lt hn
    have hy := clean_lt hm
    have cx := clean_clean n
    have cy := clean_clean m
    generalize clean n = x at *
    generalize clean m = y at *
    refine Ev.bind_all (num_Kind_eq hx) ?_
    have jt : Ev (fun k => ropewaylaw01_NumNext.j0 k x y true) true := Ev.const fun k => by
      simp only [ropewaylaw01_NumNext.j0]
      rw [if_pos trivial]
    refine Ev.ite (fun _ => jt) (fun h1 => ?_)
    refine Ev.bind_all inf_eq ?_
    refine Ev.bind_all (num_Same_eq _ _) ?_
    have nx : isNan x = false := by
      cases h : isNan x
      · rfl
      · exact absurd ((kind_zero x).2 h) h1
    have ci : clean 9218868437227405312 = 9218868437227405312 := by decide
    rw [cx, ci]
    by_cases h2 : x = 9218868437227405312
    · rw [decide_eq_true h2]; exact jt
    · rw [decide_eq_false h2]
      obtain ⟨zl, zr⟩ := next_rk hx nx h2
      have hev := next_ev hx nx h2
      generalize nextN x = z at *
      refine Ev.step' (f := fun k => ((math_Inf.f 1).bind fun t128 => ((math_Nextafter.f k x t128).bind fun t129 => ((num_Less.f k x t129).bind fun t130 => (if t130 = true then ((num_Less.f k x y).bind fun t131 => (if t131 = true then ((num_Less.f k y t129).bind fun t132 => (if t132 = true then ((math_Copysign.f 0 13830554455654793216).bind fun t133 => ((num_Same.f x t133).bind fun t134 => (if t134 = true then ((num_Same.f y 0).bind fun t135 => (some t135)) else (some false)))) else (some true))) else (some true))) else (some false)))))) ?_ (fun k => by
        simp only [ropewaylaw01_NumNext.j0]
        rw [if_neg (by simp)])
      refine Ev.bind_all inf_eq ?_
      refine Ev.bind hev ?_
      refine Ev.bind (num_Less_ev hx zl) ?_
      refine Ev.ite_pos (decide_eq_true (by rw [zr]; split <;> omega)) ?_
      refine Ev.bind (num_Less_ev hx hy) ?_
      refine Ev.ite (fun hxy => ?_) (fun _ => Ev.all fun k => rfl)
      have hxy' := of_decide_eq_true hxy
      refine Ev.bind (num_Less_ev hy zl) ?_
      refine Ev.ite (fun hyz => ?_) (fun _ => Ev.all fun k => rfl)
      have hyz' := of_decide_eq_true hyz
      have cs : math_Copysign.f 0 13830554455654793216 = some 9223372036854775808 := by decide +kernel
      refine Ev.bind_all cs ?_
      refine Ev.bind_all (num_Same_eq _ _) ?_
      have hx0 : x = 9223372036854775808 := by
        rw [zr] at hyz'
        split at hyz'
        · assumption
        · omega
      have c1 : clean 9223372036854775808 = 9223372036854775808 := by decide
      have c2 : clean 0 = 0 := by decide
      refine Ev.ite_pos (by rw [cx, c1, hx0]; simp) ?_
      refine Ev.bind_all (num_Same_eq _ _) (Ev.all fun k => ?_)
      rw [cy, c2]
      have rx : rk 9223372036854775808 = 9223372036854775807 := by decide
      rw [zr, hx0, if_pos rfl, rx] at hyz'
      rw [hx0, rx] at hxy'
      have hy0 : y = 0 := by
        have hry : rk y = 9223372036854775808 := by omega
        have hs := neg_iff hy
        unfold rk at hry
        have := rung_lt y
        split at hry
        · omega
        · split at hry
          · omega
          · rename_i h3 h4
            rw [Bool.not_eq_true] at h4
            rw [h4] at hs
            have := of_decide_eq_false hs.symm
            unfold rung at hry
            omega
      rw [decide_eq_true hy0]
  exact hall.rounds

end Go.Proofs.Ytnbjlcjlcjefjaa.Pure
