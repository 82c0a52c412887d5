/- words of the walk, of which only what this law uses is kept -/
/- How 64-bit floats compare, told of their words: of two that are numbers the order is that of their keys (the sign, and the word without it). -/
import Derived.Laws.Cover2
import Derived.Laws.BitsAllLaws
import Derived.IntWalk
namespace Go.Proofs.YtmenkbdaabjojaaX
set_option linter.unusedVariables false
open Ieee

def rung (b : Nat) : Nat := b % 9223372036854775808
def neg (b : Nat) : Bool := b / 9223372036854775808 % 2 == 1
def isNan (b : Nat) : Bool := decide (9218868437227405312 < rung b)
def key (b : Nat) : Int := if neg b then -(rung b : Int) else (rung b : Int)

theorem rung_lt (b : Nat) : rung b < 9223372036854775808 := Nat.mod_lt _ (by decide)

/-- a magnitude in units of the least one -/
def mag (r : Nat) : Nat := if r < 4503599627370496 then r else (4503599627370496 + r % 4503599627370496) * 2 ^ (r / 4503599627370496 - 1)

theorem mag_lt {r s : Nat} (h : r < s) : mag r < mag s := by
  unfold mag
  by_cases h1 : s < 4503599627370496
  · rw [if_pos h1, if_pos (by omega)]; exact h
  · rw [if_neg h1]
    have hp : 1 ≤ 2 ^ (s / 4503599627370496 - 1) := Nat.one_le_two_pow
    by_cases h2 : r < 4503599627370496
    · rw [if_pos h2]
      calc r < 4503599627370496 + s % 4503599627370496 := by omega
        _ = (4503599627370496 + s % 4503599627370496) * 1 := by omega
        _ ≤ _ := Nat.mul_le_mul_left _ hp
    · rw [if_neg h2]
      by_cases hq : r / 4503599627370496 = s / 4503599627370496
      · rw [hq]
        exact Nat.mul_lt_mul_of_pos_right (by omega) (Nat.two_pow_pos _)
      · have hq2 : r / 4503599627370496 < s / 4503599627370496 := by omega
        obtain ⟨d, hd⟩ : ∃ d, s / 4503599627370496 - 1 = (r / 4503599627370496 - 1) + 1 + d := ⟨s / 4503599627370496 - 1 - (r / 4503599627370496 - 1) - 1, by omega⟩
        rw [hd, Nat.pow_add, Nat.pow_add, Nat.pow_one]
        have hP : 0 < 2 ^ (r / 4503599627370496 - 1) := Nat.two_pow_pos _
        have hD : 1 ≤ 2 ^ d := Nat.one_le_two_pow
        generalize 2 ^ (r / 4503599627370496 - 1) = P at *
        generalize 2 ^ d = D at *
        have e1 : (4503599627370496 + r % 4503599627370496) * P < (2 * 4503599627370496) * P := Nat.mul_lt_mul_of_pos_right (by omega) hP
        have e2 : (2 * 4503599627370496) * P ≤ (4503599627370496 + s % 4503599627370496) * (P * 2) := by
          have : (2 * 4503599627370496) * P = 4503599627370496 * (P * 2) := by rw [Nat.mul_comm 2, Nat.mul_assoc, Nat.mul_comm 2]
          rw [this]
          exact Nat.mul_le_mul_right _ (by omega)
        have e3 : (4503599627370496 + s % 4503599627370496) * (P * 2) ≤ (4503599627370496 + s % 4503599627370496) * (P * 2 * D) := by
          refine Nat.mul_le_mul_left _ ?_
          calc P * 2 = P * 2 * 1 := by omega
            _ ≤ _ := Nat.mul_le_mul_left _ hD
        omega

def smag (s : Bool) (r : Nat) : Int := if s then -(mag r : Int) else (mag r : Int)
def skey (s : Bool) (r : Nat) : Int := if s then -(r : Int) else (r : Int)
theorem mag_zero : mag 0 = 0 := rfl
theorem mag_pos {r : Nat} (h : 0 < r) : 0 < mag r := by have := mag_lt h; rw [mag_zero] at this; exact this
theorem smag_lt {s t : Bool} {r q : Nat} (h : skey s r < skey t q) : smag s r < smag t q := by
  unfold skey at h
  unfold smag
  cases s <;> cases t <;> simp only [if_true, if_false, Bool.false_eq_true] at h ⊢
  · have := mag_lt (show r < q by omega); omega
  · omega
  · by_cases h0 : 0 < r
    · have := mag_pos h0; omega
    · have := mag_pos (show 0 < q by omega); omega
  · have := mag_lt (show q < r by omega); omega
theorem smag_eq {s t : Bool} {r q : Nat} (h : skey s r = skey t q) : smag s r = smag t q := by
  unfold skey at h
  unfold smag
  cases s <;> cases t <;> simp only [if_true, if_false, Bool.false_eq_true] at h ⊢
  · rw [show r = q by omega]
  · rw [show r = 0 by omega, show q = 0 by omega]; rfl
  · rw [show r = 0 by omega, show q = 0 by omega]; rfl
  · rw [show r = q by omega]
theorem compare_key (s t : Bool) (r q : Nat) : compare (smag s r) (smag t q) = compare (skey s r) (skey t q) := by
  rcases Int.lt_trichotomy (skey s r) (skey t q) with h | h | h
  · rw [Int.compare_eq_lt.2 h, Int.compare_eq_lt.2 (smag_lt h)]
  · rw [Int.compare_eq_eq.2 h, Int.compare_eq_eq.2 (smag_eq h)]
  · rw [Int.compare_eq_gt.2 h, Int.compare_eq_gt.2 (smag_lt h)]
theorem compare_mul (x y : Int) {c : Int} (hc : 0 < c) : compare (x * c) (y * c) = compare x y := by
  rcases Int.lt_trichotomy x y with h | h | h
  · rw [Int.compare_eq_lt.2 h, Int.compare_eq_lt.2 (Int.mul_lt_mul_of_pos_right h hc)]
  · rw [Int.compare_eq_eq.2 h, h, Int.compare_eq_eq.2 rfl]
  · rw [Int.compare_eq_gt.2 h, Int.compare_eq_gt.2 (Int.mul_lt_mul_of_pos_right h hc)]

theorem dbl_binade : Ieee.double.binade = 4503599627370496 := by decide
theorem dbl_inf : Ieee.double.infRung = 9218868437227405312 := by decide
theorem dbl_sign : Ieee.double.signWeight = 9223372036854775808 := by decide
theorem dbl_least : Ieee.double.leastPlace = -1074 := by decide

/-- a finite word's significand, and its place above the least -/
def sig (r : Nat) : Nat := if r < 4503599627370496 then r else 4503599627370496 + r % 4503599627370496
def plc (r : Nat) : Nat := if r < 4503599627370496 then 0 else r / 4503599627370496 - 1
theorem mag_sig (r : Nat) : mag r = sig r * 2 ^ plc r := by
  unfold mag sig plc
  by_cases h : r < 4503599627370496
  · rw [if_pos h, if_pos h, if_pos h]; omega
  · rw [if_neg h, if_neg h, if_neg h]

theorem read_fin {b : Nat} (h : rung b < 9218868437227405312) : Ieee.double.read b = .number (neg b) (sig (rung b)) (-1074 + (plc (rung b) : Int)) := by
  unfold Format.read
  simp only [dbl_binade, dbl_inf, dbl_sign, dbl_least]
  have hr : b % 9223372036854775808 = rung b := rfl
  have hn : (b / 9223372036854775808 % 2 == 1) = neg b := rfl
  simp only [hr, hn]
  by_cases h1 : rung b < 4503599627370496
  · rw [if_pos h1]; simp [sig, plc, h1]
  · rw [if_neg h1, if_pos h]; simp [sig, plc, h1]
theorem read_inf {b : Nat} (h : rung b = 9218868437227405312) : Ieee.double.read b = .infinity (neg b) := by
  unfold Format.read
  simp only [dbl_binade, dbl_inf, dbl_sign, dbl_least]
  have hr : b % 9223372036854775808 = rung b := rfl
  have hn : (b / 9223372036854775808 % 2 == 1) = neg b := rfl
  simp only [hr, hn]
  rw [if_neg (by omega), if_neg (by omega), if_pos h]
theorem read_nan {b : Nat} (h : 9218868437227405312 < rung b) : Ieee.double.read b = .nan (neg b) (rung b - 9218868437227405312) := by
  unfold Format.read
  simp only [dbl_binade, dbl_inf, dbl_sign, dbl_least]
  have hr : b % 9223372036854775808 = rung b := rfl
  have hn : (b / 9223372036854775808 % 2 == 1) = neg b := rfl
  simp only [hr, hn]
  rw [if_neg (by omega), if_neg (by omega), if_neg (by omega)]

theorem signed_scale (s : Bool) (m u : Nat) (c : Nat) : signed s m u * ((2 ^ c : Nat) : Int) = if s then -((m * 2 ^ (u + c) : Nat) : Int) else ((m * 2 ^ (u + c) : Nat) : Int) := by
  unfold signed
  have e : ((m <<< u : Nat) : Int) * ((2 ^ c : Nat) : Int) = ((m * 2 ^ (u + c) : Nat) : Int) := by
    rw [Nat.shiftLeft_eq, Nat.pow_add, ← Nat.mul_assoc]; exact (Int.natCast_mul _ _).symm
  cases s <;> simp only [if_true, if_false, Bool.false_eq_true]
  · exact e
  · rw [Int.neg_mul, e]

theorem fin_order (s t : Bool) (r q : Nat) : Datum.order (.number s (sig r) (-1074 + (plc r : Int))) (.number t (sig q) (-1074 + (plc q : Int))) = some (compare (skey s r) (skey t q)) := by
  unfold Datum.order
  simp only [Option.some.injEq]
  rw [← compare_key]
  have hm : min (-1074 + (plc r : Int)) (-1074 + (plc q : Int)) = -1074 + ((min (plc r) (plc q) : Nat) : Int) := by omega
  rw [hm]
  have e1 : (-1074 + (plc r : Int) - (-1074 + ((min (plc r) (plc q) : Nat) : Int))).toNat = plc r - min (plc r) (plc q) := by omega
  have e2 : (-1074 + (plc q : Int) - (-1074 + ((min (plc r) (plc q) : Nat) : Int))).toNat = plc q - min (plc r) (plc q) := by omega
  rw [e1, e2, ← compare_mul _ _ (c := ((2 ^ min (plc r) (plc q) : Nat) : Int)) (by have := Nat.two_pow_pos (min (plc r) (plc q)); omega)]
  rw [signed_scale, signed_scale, Nat.sub_add_cancel (Nat.min_le_left _ _), Nat.sub_add_cancel (Nat.min_le_right _ _), ← mag_sig, ← mag_sig]
  rfl

/-- THE ORDER: none with what is not a number; else that of the keys. -/
theorem order_eq {a b : Nat} (ha : isNan a = false) (hb : isNan b = false) : FloatKind.f64.format.order a b = some (compare (key a) (key b)) := by
  have ra : rung a ≤ 9218868437227405312 := by unfold isNan at ha; have := of_decide_eq_false ha; omega
  have rb : rung b ≤ 9218868437227405312 := by unfold isNan at hb; have := of_decide_eq_false hb; omega
  show Datum.order (Ieee.double.read a) (Ieee.double.read b) = _
  have hk : ∀ x, key x = skey (neg x) (rung x) := fun _ => rfl
  rw [hk, hk]
  by_cases h1 : rung a = 9218868437227405312 <;> by_cases h2 : rung b = 9218868437227405312
  · rw [read_inf h1, read_inf h2, h1, h2]
    generalize neg a = s; generalize neg b = t
    cases s <;> cases t <;> decide
  · rw [read_inf h1, read_fin (by omega), h1]
    unfold Datum.order skey
    generalize neg a = s; generalize neg b = t; generalize rung b = q at *
    cases s <;> cases t <;> simp only [if_true, if_false, Bool.false_eq_true, Option.some.injEq]
    all_goals first | exact (Int.compare_eq_gt.2 (by omega)).symm | exact (Int.compare_eq_lt.2 (by omega)).symm
  · rw [read_inf h2, read_fin (by omega), h2]
    unfold Datum.order skey
    generalize neg a = s; generalize neg b = t; generalize rung a = q at *
    cases s <;> cases t <;> simp only [if_true, if_false, Bool.false_eq_true, Option.some.injEq]
    all_goals first | exact (Int.compare_eq_gt.2 (by omega)).symm | exact (Int.compare_eq_lt.2 (by omega)).symm
  · rw [read_fin (by omega), read_fin (by omega)]
    exact fin_order _ _ _ _
theorem order_nan_l {a : Nat} (b : Nat) (h : isNan a = true) : FloatKind.f64.format.order a b = none := by
  show Datum.order (Ieee.double.read a) (Ieee.double.read b) = _
  rw [read_nan (of_decide_eq_true h)]; rfl
theorem order_nan_r (a : Nat) {b : Nat} (h : isNan b = true) : FloatKind.f64.format.order a b = none := by
  show Datum.order (Ieee.double.read a) (Ieee.double.read b) = _
  rw [read_nan (of_decide_eq_true h)]
  cases Ieee.double.read a <;> rfl
theorem feq_self (a : Nat) : (FloatKind.f64.format.order a a == some .eq) = !isNan a := by
  cases h : isNan a
  · rw [order_eq h h, Int.compare_eq_eq.2 rfl]; rfl
  · rw [order_nan_l a h]; rfl
theorem fne_self (a : Nat) : (FloatKind.f64.format.order a a != some .eq) = isNan a := by
  have := feq_self a
  rw [bne, this, Bool.not_not]
theorem cmp_eq {a b : Nat} (ha : isNan a = false) (hb : isNan b = false) : (FloatKind.f64.format.order a b == some .eq) = decide (key a = key b) := by
  rw [order_eq ha hb]
  rcases Int.lt_trichotomy (key a) (key b) with h | h | h
  · rw [Int.compare_eq_lt.2 h, decide_eq_false (by omega)]; rfl
  · rw [Int.compare_eq_eq.2 h, decide_eq_true h]; rfl
  · rw [Int.compare_eq_gt.2 h, decide_eq_false (by omega)]; rfl
theorem cmp_lt {a b : Nat} (ha : isNan a = false) (hb : isNan b = false) : (FloatKind.f64.format.order a b == some .lt) = decide (key a < key b) := by
  rw [order_eq ha hb]
  rcases Int.lt_trichotomy (key a) (key b) with h | h | h
  · rw [Int.compare_eq_lt.2 h, decide_eq_true h]; rfl
  · rw [Int.compare_eq_eq.2 h, decide_eq_false (by omega)]; rfl
  · rw [Int.compare_eq_gt.2 h, decide_eq_false (by omega)]; rfl
theorem cmp_gt {a b : Nat} (ha : isNan a = false) (hb : isNan b = false) : (FloatKind.f64.format.order a b == some .gt) = decide (key b < key a) := by
  rw [order_eq ha hb]
  rcases Int.lt_trichotomy (key a) (key b) with h | h | h
  · rw [Int.compare_eq_lt.2 h, decide_eq_false (by omega)]; rfl
  · rw [Int.compare_eq_eq.2 h, decide_eq_false (by omega)]; rfl
  · rw [Int.compare_eq_gt.2 h, decide_eq_true h]; rfl
theorem nan_eq_l {a : Nat} (b : Nat) (o : Ordering) (h : isNan a = true) : (FloatKind.f64.format.order a b == some o) = false := by rw [order_nan_l b h]; rfl
theorem nan_eq_r (a : Nat) {b : Nat} (o : Ordering) (h : isNan b = true) : (FloatKind.f64.format.order a b == some o) = false := by rw [order_nan_r a h]; rfl
end Go.Proofs.YtmenkbdaabjojaaX
