/- The pure statement of the law NumChain: of two that aren't the same just one is ahead; what is ahead of one that is ahead of another is ahead of that; the order is that of numbers where these have one; for every input. -/
import Derived.Test.YtnbjlcjlcjefjaaPNumChainx
import Derived.Test.YtnbjlcjlcjefjaaXPure
import Derived.Test.YtnbjlcjlcjefjaaXOpen
import Derived.Test.YtnbjlcjlcjefjaaXFloat
namespace Go.Proofs.Ytnbjlcjlcjefjaa.Pure
open Go.RowKit Go.Proofs.Ytnbjlcjlcjefjaa.PNumChain Go.Proofs.YtnbjlcjlcjefjaaW.PrintWords Go.Proofs.YtnbjlcjlcjefjaaW.PrintLast Go.Proofs.YtnbjlcjlcjefjaaW.PrintMore Go.Proofs.YtnbjlcjlcjefjaaX
set_option linter.unusedVariables false
set_option linter.unusedSimpArgs false
/-! num: the words of floats -/
def clean (b : Nat) : Nat := if isNan b then 9221120237041090561 else b
def rk (b : Nat) : Nat := if isNan b then 18446744073709551615 else if neg b then 9223372036854775807 - rung b else 9223372036854775808 + rung b
def kindN (b : Nat) : Int := if isNan b then 0 else if rung b = 9218868437227405312 then 1 else if 4503599627370496 ≤ rung b then 2 else if 0 < rung b then 3 else 4
theorem neg_iff {b : Nat} (h : b < 18446744073709551616) : neg b = decide (9223372036854775808 ≤ b) := by
  unfold neg
  rw [Bool.eq_iff_iff]; simp; omega
theorem nan_iff (b : Nat) : isNan b = decide (9218868437227405312 < b % 9223372036854775808) := rfl
theorem clean_lt {b : Nat} (h : b < 18446744073709551616) : clean b < 18446744073709551616 := by unfold clean; split <;> omega
theorem clean_nan (b : Nat) : isNan (clean b) = isNan b := by
  unfold clean
  cases h : isNan b
  · rw [if_neg (by simp)]; exact h
  · rw [if_pos rfl]; decide
theorem clean_clean (b : Nat) : clean (clean b) = clean b := by
  have h := clean_nan b
  unfold clean at *
  cases hb : isNan b
  · simp [hb]
  · simp [hb] at h ⊢
theorem rk_clean (b : Nat) : rk (clean b) = rk b := by
  have h := clean_nan b
  unfold rk
  rw [h]
  cases hb : isNan b
  · have : clean b = b := by unfold clean; rw [hb]; rfl
    rw [this]
  · rfl
theorem num_Of_eq (n : Nat) : num_Of.f (n : Int) = some (clean n) := by
  unfold num_Of.f math_NaN.f clean
  have e : ((n : Int)).toNat = n := rfl
  rw [e, feq_self]
  cases isNan n <;> rfl
theorem num_Bits_eq (b : Nat) : num_Bits.f b = some ((clean b : Nat) : Int) := by
  unfold num_Bits.f clean
  rw [fne_self]
  cases isNan b <;> rfl
theorem num_Same_eq (a b : Nat) : num_Same.f a b = some (decide (clean a = clean b)) := by
  unfold num_Same.f
  rw [num_Bits_eq, num_Bits_eq]
  simp only [Option.bind_some, Option.some.injEq]
  rw [Bool.eq_iff_iff]; simp; omega
theorem num_Less_ev {a b : Nat} (ha : a < 18446744073709551616) (hb : b < 18446744073709551616) : Ev (fun k => num_Less.f k a b) (decide (rk a < rk b)) := by
  unfold num_Less.f
  rw [fne_self, fne_self]
  have n0 : isNan 0 = false := by decide
  have k0 : key 0 = 0 := by decide
  have la := rung_lt a
  have lb := rung_lt b
  cases na : isNan a
  · refine Ev.ite_neg (by simp) ?_
    have ra : rung a ≤ 9218868437227405312 := by have := of_decide_eq_false na; omega
    cases nb : isNan b
    · refine Ev.ite_neg (by simp) ?_
      have rb : rung b ≤ 9218868437227405312 := by have := of_decide_eq_false nb; omega
      rw [cmp_eq na n0, cmp_eq nb n0, k0]
      have plain : ¬ (key a = 0 ∧ key b = 0) → Ev (fun k => num_Less.j0 k a b false) (decide (rk a < rk b)) := by
        intro hz
        refine Ev.const fun k => ?_
        simp only [num_Less.j0]
        rw [if_neg (by simp), cmp_lt na nb]
        congr 1
        rw [decide_eq_decide]
        unfold rk
        rw [na, nb]
        unfold key at hz ⊢
        cases neg a <;> cases neg b <;> simp only [if_true, if_false, Bool.false_eq_true] at hz ⊢ <;> omega
      refine Ev.ite (fun h1 => ?_) (fun h1 => plain (fun h => h1 (decide_eq_true h.1)))
      have h1' := of_decide_eq_true h1
      by_cases h2 : key b = 0
      · rw [decide_eq_true h2]
        refine Ev.const fun k => ?_
        simp only [num_Less.j0]
        have za : rung a = 0 := by unfold key at h1'; split at h1' <;> omega
        have zb : rung b = 0 := by unfold key at h2; split at h2 <;> omega
        have sg : ∀ x : Nat, x < 18446744073709551616 → math_Signbit.f x = some (neg x) := by
          intro x hx
          unfold math_Signbit.f
          rw [neg_iff hx, Option.some.injEq, decide_eq_decide]
          unfold wrap64; omega
        rw [if_pos trivial, sg a ha, sg b hb]
        unfold rk
        rw [na, nb, za, zb]
        cases neg a <;> cases neg b <;> rfl
      · rw [decide_eq_false h2]
        exact plain (fun h => h2 h.2)
    · refine Ev.ite_pos rfl (Ev.all fun k => ?_)
      congr 1
      refine (decide_eq_true ?_).symm
      unfold rk
      rw [na, nb]
      cases neg a <;> simp only [if_true, if_false, Bool.false_eq_true] <;> omega
  · refine Ev.ite_pos rfl (Ev.all fun k => ?_)
    congr 1
    refine (decide_eq_false ?_).symm
    have : rk b ≤ 18446744073709551615 := by unfold rk; split <;> (try split) <;> omega
    unfold rk at this ⊢
    rw [na]
    simp only [if_true]
    omega
theorem deq (a b : Nat) : decide (a = b) = ((a : Int) == (b : Int)) := by rw [Bool.eq_iff_iff]; simp; omega
theorem kind_zero (b : Nat) : kindN b = 0 ↔ isNan b = true := by
  unfold kindN
  cases isNan b
  · simp only [if_false, Bool.false_eq_true]; (repeat' split) <;> simp
  · simp
theorem kind_clean (b : Nat) : kindN (clean b) = kindN b := by
  cases h : isNan b
  · have : clean b = b := by unfold clean; rw [h]; rfl
    rw [this]
  · rw [(kind_zero b).2 h, (kind_zero (clean b)).2 (by rw [clean_nan]; exact h)]
theorem clean_of {b : Nat} (h : isNan b = false) : clean b = b := by unfold clean; rw [h]; rfl
theorem clean_of_nan {b : Nat} (h : isNan b = true) : clean b = 9221120237041090561 := by unfold clean; rw [h]; rfl

theorem of_u64 {a : Int} (ha : (Lit.int .u64 a).wf = true) : ∃ n : Nat, a = (n : Int) ∧ n < 18446744073709551616 := by
  obtain ⟨a0, a1⟩ := wf_u64 ha
  exact ⟨a.toNat, by omega, by omega⟩
theorem alive : Ev (fun k => ropewaylaw01_numAlive.f k) true := Ev.closed ropewaylaw01_numAlive.mono 20 (by decide +kernel)

theorem last (x y : Nat) : (if (FloatKind.f64.format.order x y == some .gt || FloatKind.f64.format.order x y == some .eq) = true then (some true) else (if (FloatKind.f64.format.order x x != some .eq) = true then (some true) else (if (FloatKind.f64.format.order y y != some .eq) = true then (some true) else (some (decide (rk x < rk y)))))) = some true := by
  rw [fne_self, fne_self]
  cases hx : isNan x
  · cases hy : isNan y
    · rw [cmp_gt hx hy, cmp_eq hx hy]
      by_cases h1 : key y < key x
      · simp [h1]
      · by_cases h2 : key x = key y
        · simp [h2]
        · have h3 : key x < key y := by omega
          have h4 : rk x < rk y := by
            have rx : rung x ≤ 9218868437227405312 := by have := of_decide_eq_false hx; omega
            have ry : rung y ≤ 9218868437227405312 := by have := of_decide_eq_false hy; omega
            unfold rk
            rw [hx, hy]
            unfold key at h3
            generalize neg x = s at *
            generalize neg y = t at *
            cases s <;> cases t <;> simp only [if_true, if_false, Bool.false_eq_true] at h3 ⊢ <;> omega
          simp [h1, h2, h4]
    · rw [nan_eq_r x _ hy, nan_eq_r x _ hy]; simp
  · rw [nan_eq_l y _ hx, nan_eq_l y _ hx]; simp
theorem mid {x y z : Nat} (hx : x < 18446744073709551616) (hy : y < 18446744073709551616) (hz : z < 18446744073709551616) :
    Ev (fun k => (num_Less.f k x x).bind fun t122 => (if t122 = true then (some false) else ((num_Less.f k x y).bind fun t123 => (if t123 = true then ((num_Less.f k y z).bind fun t124 => (if t124 = true then ((num_Less.f k x z).bind fun t125 => (if t125 = true then (if (FloatKind.f64.format.order x y == some .gt || FloatKind.f64.format.order x y == some .eq) = true then (some true) else (if (FloatKind.f64.format.order x x != some .eq) = true then (some true) else (if (FloatKind.f64.format.order y y != some .eq) = true then (some true) else (some t123)))) else (some false))) else (if (FloatKind.f64.format.order x y == some .gt || FloatKind.f64.format.order x y == some .eq) = true then (some true) else (if (FloatKind.f64.format.order x x != some .eq) = true then (some true) else (if (FloatKind.f64.format.order y y != some .eq) = true then (some true) else (some t123)))))) else (if (FloatKind.f64.format.order x y == some .gt || FloatKind.f64.format.order x y == some .eq) = true then (some true) else (if (FloatKind.f64.format.order x x != some .eq) = true then (some true) else (if (FloatKind.f64.format.order y y != some .eq) = true then (some true) else (some t123)))))))) true := by
  refine Ev.bind (num_Less_ev hx hx) ?_
  refine Ev.ite_neg (by simp) ?_
  refine Ev.bind (num_Less_ev hx hy) ?_
  refine Ev.ite (fun h1 => ?_) (fun _ => Ev.all fun k => last x y)
  refine Ev.bind (num_Less_ev hy hz) ?_
  refine Ev.ite (fun h2 => ?_) (fun _ => Ev.all fun k => last x y)
  refine Ev.bind (num_Less_ev hx hz) ?_
  refine Ev.ite_pos (decide_eq_true (by have := of_decide_eq_true h1; have := of_decide_eq_true h2; omega)) (Ev.all fun k => last x y)
theorem rk_same {x y : Nat} (hx : x < 18446744073709551616) (hy : y < 18446744073709551616) (h : rk x = rk y) : clean x = clean y := by
  have lx := rung_lt x
  have ly := rung_lt y
  cases nx : isNan x
  · have rx : rung x ≤ 9218868437227405312 := by have := of_decide_eq_false nx; omega
    cases ny : isNan y
    · rw [clean_of nx, clean_of ny]
      have sx := neg_iff hx
      have sy := neg_iff hy
      unfold rk at h
      rw [nx, ny, sx, sy] at h
      unfold rung at h
      simp only [Bool.false_eq_true, if_false, decide_eq_true_eq] at h
      split at h <;> split at h <;> omega
    · unfold rk at h
      rw [nx, ny] at h
      simp only [Bool.false_eq_true, if_false, if_true] at h
      split at h <;> omega
  · cases ny : isNan y
    · have ry : rung y ≤ 9218868437227405312 := by have := of_decide_eq_false ny; omega
      unfold rk at h
      rw [nx, ny] at h
      simp only [Bool.false_eq_true, if_false, if_true] at h
      split at h <;> omega
    · rw [clean_of_nan nx, clean_of_nan ny]
theorem NumChain : ropewaylaw01_NumChain.Pure := by
  intro a b c ha hb hc
  obtain ⟨n, rfl, hn⟩ := of_u64 ha
  obtain ⟨m, rfl, hm⟩ := of_u64 hb
  obtain ⟨o, rfl, ho⟩ := of_u64 hc
  have hall : Ev (fun k => ropewaylaw01_NumChain.f k n m o) true := by
    unfold ropewaylaw01_NumChain.f
    refine Ev.bind alive ?_
    refine Ev.ite_pos rfl ?_
    refine Ev.bind_all (num_Of_eq n) ?_
    refine Ev.bind_all (num_Of_eq m) ?_
    refine Ev.bind_all (num_Of_eq o) ?_
    have hx := clean_lt hn
    have hy := clean_lt hm
    have hz := clean_lt ho
    generalize clean n = x at *
    generalize clean m = y at *
    generalize clean o = z at *
    refine Ev.bind (num_Less_ev hx hy) ?_
    refine Ev.bind (num_Less_ev hy hx) ?_
    refine Ev.ite (fun he => ?_) (fun _ => mid hx hy hz)
    refine Ev.bind_all (num_Same_eq _ _) ?_
    refine Ev.ite_pos (decide_eq_true (rk_same hx hy ?_)) (mid hx hy hz)
    rw [beq_iff_eq, decide_eq_decide] at he
    omega
  exact hall.rounds

end Go.Proofs.Ytnbjlcjlcjefjaa.Pure
