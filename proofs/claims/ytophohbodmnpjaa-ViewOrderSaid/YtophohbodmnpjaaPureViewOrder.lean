/- The pure statement of the law ViewOrder: of any views which goes ahead, whether all are alike, and which is the last one; for every input. -/
import Derived.Test.YtophohbodmnpjaaPViewOrderx
import Derived.Test.YtophohbodmnpjaaXPure
import Derived.Test.YtophohbodmnpjaaXOpen
namespace Go.Proofs.Ytophohbodmnpjaa.Pure
open Go.RowKit Go.Proofs.Ytophohbodmnpjaa.PViewOrder Go.Proofs.YtophohbodmnpjaaW.PrintWords Go.Proofs.YtophohbodmnpjaaW.PrintLast Go.Proofs.YtophohbodmnpjaaW.PrintMore Go.Proofs.YtophohbodmnpjaaX
set_option linter.unusedVariables false
set_option linter.unusedSimpArgs false
abbrev V := S25
/-! sets of nodes: two numbers below 64 -/
def pc (a : Int) : Int := (bits_OnesCount.f (IntKind.u64.wrap a)).getD 0
theorem set1 (p : Int → Prop) [DecidablePred p] (h : ∀ a : Fin 64, p (a.val : Int)) {x : Int} (h0 : 0 ≤ x) (h1 : x < 64) : p x := by
  have := h ⟨x.toNat, by omega⟩
  simpa [Int.toNat_of_nonneg h0] using this
theorem set2 (p : Int → Int → Prop) (h : ∀ a b : Fin 64, p (a.val : Int) (b.val : Int)) {x y : Int} (h0 : 0 ≤ x) (h1 : x < 64) (h2 : 0 ≤ y) (h3 : y < 64) : p x y := by
  have := h ⟨x.toNat, by omega⟩ ⟨y.toNat, by omega⟩
  simpa [Int.toNat_of_nonneg h0, Int.toNat_of_nonneg h2] using this
theorem pc_some {x : Int} (h0 : 0 ≤ x) (h1 : x < 64) : bits_OnesCount.f (IntKind.u64.wrap x) = some (pc x) ∧ 0 ≤ pc x ∧ pc x ≤ 6 :=
  set1 (fun x => bits_OnesCount.f (IntKind.u64.wrap x) = some (pc x) ∧ 0 ≤ pc x ∧ pc x ≤ 6) (by decide +kernel) h0 h1
theorem size_eq {a d : Int} (a0 : 0 ≤ a) (a1 : a < 64) (d0 : 0 ≤ d) (d1 : d < 64) : change_Size.f a d = some (pc a + pc d) := by
  obtain ⟨ea, la, ua⟩ := pc_some a0 a1
  obtain ⟨ed, ld, ud⟩ := pc_some d0 d1
  unfold change_Size.f
  rw [ea, ed]
  simp only [Option.bind_some]
  rw [wrap_in (by omega) (by omega)]
theorem name_eq {a d : Int} (a0 : 0 ≤ a) (a1 : a < 64) (d0 : 0 ≤ d) (d1 : d < 64) : change_Name.f a d = some (a * 64 + d) := by
  unfold change_Name.f
  rw [wrap_in (x := a * 64) (by omega) (by omega), wrap_in (by omega) (by omega)]

/-! change.Join, Minus: or, and-not of two numbers below 64 -/
def oB (x y : Int) : Int := Go.bits .or .i64 x y
def aB (x y : Int) : Int := Go.bits .andNot .i64 x y
def In64 (x : Int) : Prop := 0 ≤ x ∧ x < 64
theorem pairs {x y : Int} (hx : In64 x) (hy : In64 y) : (0 ≤ oB x y ∧ oB x y < 64) ∧ (0 ≤ aB x y ∧ aB x y < 64) ∧ oB x y = ((x.toNat ||| y.toNat : Nat) : Int) ∧ (aB x y = 0 ↔ oB x y = y) ∧ oB (aB x y) y = oB x y ∧ aB (aB x y) y = aB x y ∧ pc (oB x y) = pc y + pc (aB x y) :=
  set2 (fun x y => (0 ≤ oB x y ∧ oB x y < 64) ∧ (0 ≤ aB x y ∧ aB x y < 64) ∧ oB x y = ((x.toNat ||| y.toNat : Nat) : Int) ∧ (aB x y = 0 ↔ oB x y = y) ∧ oB (aB x y) y = oB x y ∧ aB (aB x y) y = aB x y ∧ pc (oB x y) = pc y + pc (aB x y)) (by decide +kernel) hx.1 hx.2 hy.1 hy.2
theorem oB_in {x y : Int} (hx : In64 x) (hy : In64 y) : In64 (oB x y) := (pairs hx hy).1
theorem aB_in {x y : Int} (hx : In64 x) (hy : In64 y) : In64 (aB x y) := (pairs hx hy).2.1
theorem oB_nat {x y : Int} (hx : In64 x) (hy : In64 y) : oB x y = ((x.toNat ||| y.toNat : Nat) : Int) := (pairs hx hy).2.2.1
theorem in0 : In64 0 := ⟨by decide, by decide⟩
theorem oB_zero {x : Int} (hx : In64 x) : oB 0 x = x := by
  rw [oB_nat in0 hx]; have := hx.1; simp; omega
theorem oB_comm {x y : Int} (hx : In64 x) (hy : In64 y) : oB x y = oB y x := by
  rw [oB_nat hx hy, oB_nat hy hx, Nat.or_comm]
theorem oB_self {x : Int} (hx : In64 x) : oB x x = x := by
  rw [oB_nat hx hx, Nat.or_self]; have := hx.1; simp; omega
theorem oB_assoc {x y z : Int} (hx : In64 x) (hy : In64 y) (hz : In64 z) : oB (oB x y) z = oB x (oB y z) := by
  rw [oB_nat (oB_in hx hy) hz, oB_nat hx (oB_in hy hz), oB_nat hx hy, oB_nat hy hz, Int.toNat_natCast, Int.toNat_natCast, Nat.or_assoc]

/-! the order of views -/
def kS (v : V) : Int := (change_Size.f v.f0 v.f1).getD 0
def kN (v : V) : Int := wrap64 (wrap64 (v.f0 * 64) + v.f1)
theorem oc64_some (a : Int) : ∃ r, bits_OnesCount64.f a = some r := ⟨_, rfl⟩
theorem oc_some (a : Int) : ∃ r, bits_OnesCount.f a = some r := by
  obtain ⟨r, h⟩ := oc64_some a
  exact ⟨r, by unfold bits_OnesCount.f; rw [h]; rfl⟩
theorem kS_some (v : V) : change_Size.f v.f0 v.f1 = some (kS v) := by
  obtain ⟨r, h⟩ := oc_some (IntKind.u64.wrap v.f0)
  obtain ⟨q, k⟩ := oc_some (IntKind.u64.wrap v.f1)
  have e : change_Size.f v.f0 v.f1 = some (wrap64 (r + q)) := by
    unfold change_Size.f
    rw [h, k]; rfl
  unfold kS
  rw [e]; rfl
def vlt (a b : V) : Bool := decide (kS a < kS b ∨ kS a = kS b ∧ kN a < kN b)
theorem vlt_iff (a b : V) : vlt a b = true ↔ (kS a < kS b ∨ kS a = kS b ∧ kN a < kN b) := decide_eq_true_iff
theorem compare_int (a b : Int) : cmp_Compare_int.f a b = some (if a < b then -1 else if a > b then 1 else 0) := by
  unfold cmp_Compare_int.f cmp_isNaN_int.f
  (repeat' split) <;> simp_all
theorem or_int (a b : Int) : Ev (fun k => cmp_Or_int.f k [a, b]) (if a = 0 then b else a) := by
  have r0 : rd [a, b] 0 = a := rfl
  have r1 : rd [a, b] 1 = b := rfl
  have v0 : wrap64 (0 + 1) = 1 := by unfold wrap64; omega
  have v1 : wrap64 (1 + 1) = 2 := by unfold wrap64; omega
  have e2 : b = 0 → Ev (fun k => cmp_Or_int.l0 k 0 [a, b] 2 2) b := fun h => Ev.const fun k => by
    simp only [cmp_Or_int.l0]
    rw [if_neg (by decide), h]
  have e1 : Ev (fun k => cmp_Or_int.l0 k 0 [a, b] 2 1) b := by
    refine Ev.succ ?_
    simp only [cmp_Or_int.l0]
    rw [r1, v1]
    refine Ev.ite_pos (by decide) (Ev.ite_pos (by decide) (Ev.ite_pos (by simp) ?_))
    refine Ev.ite (fun h => ?_) (fun h => Ev.all fun k => rfl)
    exact e2 h
  show Ev (fun k => cmp_Or_int.l0 k 0 [a, b] 2 0) _
  refine Ev.succ ?_
  simp only [cmp_Or_int.l0]
  rw [r0, v0]
  refine Ev.ite_pos (by decide) (Ev.ite_pos (by decide) (Ev.ite_pos (by simp) ?_))
  by_cases h : a = 0
  · rw [if_pos h]; exact Ev.ite_pos h e1
  · rw [if_neg h]; exact Ev.ite_neg h (Ev.all fun k => rfl)
theorem name_some (v : V) : change_Name.f v.f0 v.f1 = some (kN v) := rfl
theorem view_compare_ev (a b : V) : ∃ c : Int, Ev (fun k => view_compare.f k a.f0 a.f1 b.f0 b.f1) c ∧ (c < 0 ↔ vlt a b = true) := by
  refine ⟨if (if kS a < kS b then -1 else if kS a > kS b then 1 else 0 : Int) = 0 then (if kN a < kN b then -1 else if kN a > kN b then 1 else 0) else (if kS a < kS b then -1 else if kS a > kS b then 1 else 0), ?_, ?_⟩
  · unfold view_compare.f
    refine Ev.bind_all (kS_some a) (Ev.bind_all (kS_some b) (Ev.bind_all (compare_int _ _) ?_))
    refine Ev.bind_all (name_some a) (Ev.bind_all (name_some b) (Ev.bind_all (compare_int _ _) ?_))
    exact Ev.bind (or_int _ _) (Ev.all fun k => rfl)
  · rw [vlt_iff]
    (repeat' split) <;> omega
theorem view_Less_ev (a b : V) : Ev (fun k => view_Less.f k a.f0 a.f1 b.f0 b.f1) (vlt a b) := by
  obtain ⟨c, hc, h⟩ := view_compare_ev a b
  unfold view_Less.f
  refine Ev.bind hc (Ev.all fun k => ?_)
  congr 1
  rw [Bool.eq_iff_iff, decide_eq_true_iff, h]
def RtV (v : V) : Prop := 0 ≤ v.f0 ∧ v.f0 < 64 ∧ 0 ≤ v.f1 ∧ v.f1 < 64
theorem kS_right {v : V} (h : RtV v) : kS v = pc v.f0 + pc v.f1 := by
  have := size_eq h.1 h.2.1 h.2.2.1 h.2.2.2
  rw [kS_some] at this
  exact Option.some.inj this
theorem kN_right {v : V} (h : RtV v) : kN v = v.f0 * 64 + v.f1 := by
  have := name_eq h.1 h.2.1 h.2.2.1 h.2.2.2
  rw [name_some] at this
  exact Option.some.inj this
theorem vlt_total {a b : V} (ha : RtV a) (hb : RtV b) (h : vlt a b = false) (k : a ≠ b) : vlt b a = true := by
  rw [vlt_iff]
  have h' := mt (vlt_iff a b).2 (by simp [h])
  rw [kN_right ha, kN_right hb] at *
  by_cases e : a.f0 * 64 + a.f1 = b.f0 * 64 + b.f1
  · exfalso
    apply k
    obtain ⟨a0, a1, a2, a3⟩ := ha
    obtain ⟨b0, b1, b2, b3⟩ := hb
    cases a; cases b
    simp only at *
    congr 1 <;> omega
  · omega

/-! the document's bits -/
def bitB (x n : Int) : Bool := x / 2 ^ n.toNat % 2 == 1
def Rt (a d : Int) : Prop := 0 ≤ a ∧ a < 64 ∧ 0 ≤ d ∧ d < 64

theorem ref_bit_l0 (m : Nat) : ∀ (x : Int) (i n : Nat), n - i = m → i ≤ n → n < 4611686018427387904 → 0 ≤ x → x < 64 → Ev (fun k => ropewayref04_bit.l0 k x (n : Int) (i : Int)) (x / 2 ^ (n - i) % 2 == 1) := by
  induction m with
  | zero =>
    intro x i n hm hi hn h0 h1
    refine Ev.const fun k => ?_
    simp only [ropewayref04_bit.l0]
    rw [if_neg (by omega), show n - i = 0 by omega, Int.tmod_eq_emod_of_nonneg h0]
    simp
  | succ m ih =>
    intro x i n hm hi hn h0 h1
    have := ih (x / 2) (i + 1) n (by omega) (by omega) hn (by omega) (by omega)
    have e : x / 2 ^ (n - i) = x / 2 / 2 ^ (n - (i + 1)) := by
      rw [show n - i = n - (i + 1) + 1 by omega, Int.pow_succ, Int.mul_comm, Int.ediv_ediv_of_nonneg (by omega)]
    rw [e]
    refine Ev.step' this fun k => ?_
    simp only [ropewayref04_bit.l0]
    rw [if_pos (by omega), Int.tdiv_eq_ediv_of_nonneg h0, wrap_in (x := x / 2) (by omega) (by omega), wrap_nat (by omega)]
theorem ref_bit_ev {x n : Int} (h0 : 0 ≤ x) (h1 : x < 64) (h2 : 0 ≤ n) (h3 : n < 4611686018427387904) : Ev (fun k => ropewayref04_bit.f k x n) (bitB x n) := by
  have := ref_bit_l0 n.toNat x 0 n.toNat (by omega) (by omega) (by omega) h0 h1
  rw [Int.toNat_of_nonneg h2] at this
  exact this
theorem ref_Has_ev {a d n : Int} (h : Rt a d) (h2 : 0 ≤ n) (h3 : n < 4611686018427387904) : Ev (fun k => ropewayref04_Has.f k a d n) (bitB a n, bitB d n) := by
  unfold ropewayref04_Has.f
  refine Ev.bind (ref_bit_ev h.1 h.2.1 h2 h3) ?_
  refine Ev.bind (ref_bit_ev h.2.2.1 h.2.2.2 h2 h3) ?_
  exact Ev.all fun k => rfl

/-! six bools as a set's number -/
def toN (f : Nat → Bool) : Int := (if f 0 = true then 1 else 0) + (if f 1 = true then 2 else 0) + (if f 2 = true then 4 else 0) + (if f 3 = true then 8 else 0) + (if f 4 = true then 16 else 0) + (if f 5 = true then 32 else 0)
def up (f : Nat → Bool) (j : Int) (v : Bool) : Nat → Bool := fun i => stA j (i : Int) v (f i)
def six6 (a b c d e f : Bool) : Nat → Bool
  | 0 => a | 1 => b | 2 => c | 3 => d | 4 => e | _ => f
theorem toN_six (f : Nat → Bool) : toN f = toN (six6 (f 0) (f 1) (f 2) (f 3) (f 4) (f 5)) := rfl
theorem toN_range (f : Nat → Bool) : 0 ≤ toN f ∧ toN f < 64 := by
  unfold toN
  constructor <;> (repeat' split) <;> omega
theorem set_closed : ∀ a0 a1 a2 a3 a4 a5 b0 b1 b2 b3 b4 b5 : Bool, ropewayref04_set.f 8 a0 a1 a2 a3 a4 a5 b0 b1 b2 b3 b4 b5 = some (toN (six6 a0 a1 a2 a3 a4 a5), toN (six6 b0 b1 b2 b3 b4 b5)) := by decide +kernel
theorem set_ev (f g : Nat → Bool) : Ev (fun k => ropewayref04_set.f k (f 0) (f 1) (f 2) (f 3) (f 4) (f 5) (g 0) (g 1) (g 2) (g 3) (g 4) (g 5)) (toN f, toN g) :=
  Ev.closed (ropewayref04_set.mono _ _ _ _ _ _ _ _ _ _ _ _) 8 (set_closed _ _ _ _ _ _ _ _ _ _ _ _)

theorem toN_congr {p q : Nat → Bool} (h : ∀ j, j < 6 → p j = q j) : toN p = toN q := by
  unfold toN
  rw [h 0 (by omega), h 1 (by omega), h 2 (by omega), h 3 (by omega), h 4 (by omega), h 5 (by omega)]
theorem rd6 (f : Nat → Bool) {i : Nat} (h : i < 6) : rdOf false [f 0, f 1, f 2, f 3, f 4, f 5] (i : Int) = f i := by
  have : i = 0 ∨ i = 1 ∨ i = 2 ∨ i = 3 ∨ i = 4 ∨ i = 5 := by omega
  rcases this with rfl | rfl | rfl | rfl | rfl | rfl <;> rfl
theorem up_at (f : Nat → Bool) (i j : Nat) (v : Bool) : up f (i : Int) v j = if i = j then v else f j := by
  unfold up stA
  by_cases h : i = j
  · rw [if_pos h, if_pos (by omega)]
  · rw [if_neg h, if_neg (by omega)]
theorem bit_toN_closed : ∀ a0 a1 a2 a3 a4 a5 : Bool, ∀ n : Fin 6, bitB (toN (six6 a0 a1 a2 a3 a4 a5)) (n.val : Int) = six6 a0 a1 a2 a3 a4 a5 n.val := by decide +kernel
theorem bit_toN (f : Nat → Bool) {j : Nat} (h : j < 6) : bitB (toN f) (j : Int) = f j := by
  have := bit_toN_closed (f 0) (f 1) (f 2) (f 3) (f 4) (f 5) ⟨j, h⟩
  rw [toN_six]
  refine this.trans ?_
  have : j = 0 ∨ j = 1 ∨ j = 2 ∨ j = 3 ∨ j = 4 ∨ j = 5 := by omega
  rcases this with rfl | rfl | rfl | rfl | rfl | rfl <;> rfl
theorem toN_ops {x y : Int} (hx : In64 x) (hy : In64 y) : toN (fun j => bitB x (j : Int) || bitB y (j : Int)) = oB x y ∧ toN (fun j => bitB x (j : Int) && !bitB y (j : Int)) = aB x y :=
  set2 (fun x y => toN (fun j => bitB x (j : Int) || bitB y (j : Int)) = oB x y ∧ toN (fun j => bitB x (j : Int) && !bitB y (j : Int)) = aB x y) (by decide +kernel) hx.1 hx.2 hy.1 hy.2
theorem bit_or {x y : Int} (hx : In64 x) (hy : In64 y) {j : Nat} (h : j < 6) : bitB (oB x y) (j : Int) = (bitB x (j : Int) || bitB y (j : Int)) := by
  rw [← (toN_ops hx hy).1, bit_toN _ h]

theorem ref_Minus_l0 (a d b e : Int) (ha : Rt a d) (hb : Rt b e) (m : Nat) : ∀ (i : Nat) (f g : Nat → Bool), 6 - i = m → i ≤ 6 →
    (∀ j, j < 6 → f j = (decide (j < i) && (bitB a (j : Int) && !bitB b (j : Int)))) → (∀ j, j < 6 → g j = (decide (j < i) && (bitB d (j : Int) && !bitB e (j : Int)))) →
    Ev (fun k => ropewayref04_Minus.l0 k (i : Int) a d b e (f 0) (f 1) (f 2) (f 3) (f 4) (f 5) (g 0) (g 1) (g 2) (g 3) (g 4) (g 5)) (aB a b, aB d e) := by
  induction m with
  | zero =>
    intro i f g hm hi hf hg
    obtain rfl : i = 6 := by omega
    refine Ev.succ ?_
    simp only [ropewayref04_Minus.l0]
    refine Ev.ite_neg (by decide) ?_
    refine Ev.bind (set_ev f g) (Ev.all fun k => ?_)
    rw [← (toN_ops (x := a) (y := b) ⟨ha.1, ha.2.1⟩ ⟨hb.1, hb.2.1⟩).2, ← (toN_ops (x := d) (y := e) ⟨ha.2.2.1, ha.2.2.2⟩ ⟨hb.2.2.1, hb.2.2.2⟩).2,
      toN_congr (p := f) (q := fun j => bitB a (j : Int) && !bitB b (j : Int)) (fun j hj => by rw [hf j hj, decide_eq_true hj, Bool.true_and]),
      toN_congr (p := g) (q := fun j => bitB d (j : Int) && !bitB e (j : Int)) (fun j hj => by rw [hg j hj, decide_eq_true hj, Bool.true_and])]
  | succ m ih =>
    intro i f g hm hi hf hg
    have hlt : i < 6 := by omega
    have nx : ∀ (h : Nat → Bool) (x y : Int) (v : Bool), (∀ j, j < 6 → h j = (decide (j < i) && (bitB x (j : Int) && !bitB y (j : Int)))) → v = (bitB x (i : Int) && !bitB y (i : Int)) → ∀ j, j < 6 → up h (i : Int) v j = (decide (j < i + 1) && (bitB x (j : Int) && !bitB y (j : Int))) := by
      intro h x y v hh hv j hj
      rw [up_at]
      by_cases e : i = j
      · subst e; rw [if_pos rfl, hv, decide_eq_true (by omega), Bool.true_and]
      · rw [if_neg e, hh j hj]
        by_cases z : j < i
        · rw [decide_eq_true z, decide_eq_true (by omega)]
        · rw [decide_eq_false z, decide_eq_false (by omega)]
    have go : ∀ v w : Bool, v = (bitB a (i : Int) && !bitB b (i : Int)) → w = (bitB d (i : Int) && !bitB e (i : Int)) → Ev (fun k => ropewayref04_Minus.l0 k ((i + 1 : Nat) : Int) a d b e (up f (i : Int) v 0) (up f (i : Int) v 1) (up f (i : Int) v 2) (up f (i : Int) v 3) (up f (i : Int) v 4) (up f (i : Int) v 5) (up g (i : Int) w 0) (up g (i : Int) w 1) (up g (i : Int) w 2) (up g (i : Int) w 3) (up g (i : Int) w 4) (up g (i : Int) w 5)) (aB a b, aB d e) :=
      fun v w hv hw => ih (i + 1) (up f (i : Int) v) (up g (i : Int) w) (by omega) (by omega) (nx f a b v hf hv) (nx g d e w hg hw)
    refine Ev.succ ?_
    simp only [ropewayref04_Minus.l0]
    refine Ev.ite_pos (by omega) ?_
    refine Ev.bind (ref_Has_ev ha (by omega) (by omega)) ?_
    refine Ev.bind (ref_Has_ev hb (by omega) (by omega)) ?_
    rw [wrap_nat (by omega)]
    refine Ev.ite (fun (h1 : bitB a i = true) => Ev.ite_pos (by omega) (Ev.ite (fun (h2 : bitB d i = true) => ?_) (fun (h2 : ¬ bitB d i = true) => ?_))) (fun (h1 : ¬ bitB a i = true) => Ev.ite_pos (by omega) (Ev.ite (fun (h2 : bitB d i = true) => ?_) (fun (h2 : ¬ bitB d i = true) => ?_)))
    · exact go (!bitB b i) (!bitB e i) (by rw [h1]; rfl) (by rw [h2]; rfl)
    · exact go (!bitB b i) false (by rw [h1]; rfl) (by rw [Bool.eq_false_iff.2 h2]; rfl)
    · exact go false (!bitB e i) (by rw [Bool.eq_false_iff.2 h1]; rfl) (by rw [h2]; rfl)
    · exact go false false (by rw [Bool.eq_false_iff.2 h1]; rfl) (by rw [Bool.eq_false_iff.2 h2]; rfl)
theorem ref_Minus_ev {a d b e : Int} (ha : Rt a d) (hb : Rt b e) : Ev (fun k => ropewayref04_Minus.f k a d b e) (aB a b, aB d e) :=
  ref_Minus_l0 a d b e ha hb 6 0 (fun _ => false) (fun _ => false) (by omega) (by omega) (fun j hj => by simp) (fun j hj => by simp)

def cnt (x : Int) : Nat → Int
  | 0 => 0
  | m + 1 => (if bitB x (5 - (m : Int)) = true then 1 else 0) + cnt x m
theorem cnt_pc {x : Int} (h0 : 0 ≤ x) (h1 : x < 64) : cnt x 6 = pc x := set1 (fun x => cnt x 6 = pc x) (by decide +kernel) h0 h1
theorem ref_Size_l0 (a d : Int) (ha : Rt a d) (m : Nat) : ∀ (i : Nat) (n : Int), 6 - i = m → i ≤ 6 → 0 ≤ n → n + 2 * (m : Int) ≤ 100 →
    Ev (fun k => ropewayref04_Size.l0 k n (i : Int) a d) (n + cnt a m + cnt d m) := by
  induction m with
  | zero =>
    intro i n hm hi h0 h1
    obtain rfl : i = 6 := by omega
    refine Ev.const fun k => ?_
    simp only [ropewayref04_Size.l0]
    rw [if_neg (by decide)]
    simp [cnt]
  | succ m ih =>
    intro i n hm hi h0 h1
    have e : (5 - (m : Int)) = (i : Int) := by omega
    simp only [cnt]
    rw [e]
    have w1 : wrap64 (n + 1) = n + 1 := wrap_in (by omega) (by omega)
    have w2 : wrap64 (n + 1 + 1) = n + 1 + 1 := wrap_in (by omega) (by omega)
    have go : ∀ n' r : Int, 0 ≤ n' → n' ≤ n + 2 → n' + cnt a m + cnt d m = r → Ev (fun k => ropewayref04_Size.l0 k n' ((i + 1 : Nat) : Int) a d) r := by
      intro n' r h2 h3 h4
      rw [← h4]
      exact ih (i + 1) n' (by omega) (by omega) h2 (by omega)
    refine Ev.succ ?_
    simp only [ropewayref04_Size.l0]
    refine Ev.ite_pos (by omega) ?_
    refine Ev.bind (ref_Has_ev ha (by omega) (by omega)) ?_
    rw [wrap_nat (by omega), w1, w2]
    refine Ev.ite (fun (h1 : bitB a i = true) => Ev.ite (fun (h2 : bitB d i = true) => ?_) (fun (h2 : ¬ bitB d i = true) => ?_)) (fun (h1 : ¬ bitB a i = true) => Ev.ite (fun (h2 : bitB d i = true) => ?_) (fun (h2 : ¬ bitB d i = true) => ?_))
    · rw [if_pos h1, if_pos h2]; exact go _ _ (by omega) (by omega) (by omega)
    · rw [if_pos h1, if_neg h2]; exact go _ _ (by omega) (by omega) (by omega)
    · rw [if_neg h1, if_pos h2]; exact go _ _ (by omega) (by omega) (by omega)
    · rw [if_neg h1, if_neg h2]; exact go _ _ (by omega) (by omega) (by omega)

theorem ref_Right_eq (a d : Int) : ropewayref04_Right.f a d = some (decide (0 ≤ a ∧ a < 64 ∧ 0 ≤ d ∧ d < 64)) := by
  unfold ropewayref04_Right.f
  by_cases h1 : a ≥ 0
  · rw [if_pos h1]
    by_cases h2 : a ≤ 63
    · rw [if_pos h2]
      by_cases h3 : d ≥ 0
      · rw [if_pos h3, Option.some.injEq, decide_eq_decide]; omega
      · rw [if_neg h3, decide_eq_false (by omega)]
    · rw [if_neg h2, decide_eq_false (by omega)]
  · rw [if_neg h1, decide_eq_false (by omega)]

/-! is of any two one within the other? -/
theorem pc_zero {x : Int} (h : In64 x) : pc x = 0 ↔ x = 0 := set1 (fun x => pc x = 0 ↔ x = 0) (by decide +kernel) h.1 h.2
theorem pc_nonneg {x : Int} (h : In64 x) : 0 ≤ pc x := (pc_some h.1 h.2).2.1
theorem aB_zero {x y : Int} (hx : In64 x) (hy : In64 y) : aB x y = 0 ↔ oB x y = y := (pairs hx hy).2.2.2.1
theorem pc_or {x y : Int} (hx : In64 x) (hy : In64 y) : pc (oB x y) = pc y + pc (aB x y) := (pairs hx hy).2.2.2.2.2.2
theorem sub_trans {x y z : Int} (hx : In64 x) (hy : In64 y) (hz : In64 z) (h : aB x y = 0) (k : aB y z = 0) : aB x z = 0 := by
  rw [aB_zero hx hy] at h
  rw [aB_zero hy hz] at k
  rw [aB_zero hx hz, ← k, ← oB_assoc hx hy hz, h]
theorem sub_pc {x y : Int} (hx : In64 x) (hy : In64 y) (h : aB x y = 0) : pc x ≤ pc y ∧ (pc y ≤ pc x → x = y) := by
  rw [aB_zero hx hy] at h
  have e := pc_or hy hx
  rw [oB_comm hy hx, h] at e
  have n := pc_nonneg (aB_in hy hx)
  refine ⟨by omega, fun k => ?_⟩
  have z : aB y x = 0 := (pc_zero (aB_in hy hx)).1 (by omega)
  rw [aB_zero hy hx, oB_comm hy hx, h] at z
  exact z.symm
def wiP (x y : V) : Prop := aB x.f0 y.f0 = 0 ∧ aB x.f1 y.f1 = 0
theorem RtV.l {v : V} (h : RtV v) : In64 v.f0 := ⟨h.1, h.2.1⟩
theorem RtV.r {v : V} (h : RtV v) : In64 v.f1 := ⟨h.2.2.1, h.2.2.2⟩
theorem within_some (x y : V) : change_Within.f x.f0 x.f1 y.f0 y.f1 = some (aB x.f0 y.f0 == 0 && (aB x.f1 y.f1 == 0)) := rfl
theorem hv_wi_iff (x y : V) : hv_wi x y = true ↔ wiP x y := by
  unfold hv_wi wiP
  rw [within_some, Option.getD_some, Bool.and_eq_true, beq_iff_eq, beq_iff_eq]
theorem wiP_trans {x y z : V} (hx : RtV x) (hy : RtV y) (hz : RtV z) (h : wiP x y) (k : wiP y z) : wiP x z := ⟨sub_trans hx.l hy.l hz.l h.1 k.1, sub_trans hx.r hy.r hz.r h.2 k.2⟩
theorem wiP_refl {x : V} (hx : RtV x) : wiP x x := ⟨(aB_zero hx.l hx.l).2 (oB_self hx.l), (aB_zero hx.r hx.r).2 (oB_self hx.r)⟩
theorem wiP_size {x y : V} (hx : RtV x) (hy : RtV y) (h : wiP x y) : kS x ≤ kS y ∧ (kS y ≤ kS x → x = y) := by
  rw [kS_right hx, kS_right hy]
  have h1 := sub_pc hx.l hy.l h.1
  have h2 := sub_pc hx.r hy.r h.2
  refine ⟨by omega, fun k => ?_⟩
  have e1 := h1.2 (by omega)
  have e2 := h2.2 (by omega)
  cases x; cases y
  simp only at e1 e2
  rw [e1, e2]
def AlikeP (l : List V) : Prop := ∀ x ∈ l, ∀ y ∈ l, wiP x y ∨ wiP y x
/-- of two that are alike the one that does not go ahead holds the other -/
theorem wiP_of {x y : V} (hx : RtV x) (hy : RtV y) (h : wiP x y ∨ wiP y x) (k : vlt y x = false) : wiP x y := by
  rcases h with h | h
  · exact h
  · have h1 := wiP_size hy hx h
    have k' := mt (vlt_iff y x).2 (by simp [k])
    by_cases e : kS x ≤ kS y
    · rw [h1.2 e]; exact wiP_refl hx
    · exfalso; omega
theorem hv_S_eq (v : V) : hv_S v = kS v := rfl
theorem hv_N_eq (v : V) : hv_N v = kN v := rfl
theorem hv_vlt (x y : V) : ltOf hv_cf x y = vlt x y := by
  have h1 := hv_lt_iff x y
  rw [hv_S_eq, hv_S_eq, hv_N_eq, hv_N_eq] at h1
  rw [Bool.eq_iff_iff, vlt_iff]
  exact h1
theorem adj_iff (l : List V) (hR : ∀ v ∈ l, RtV v) : hv_adj (hv_pdq l.toArray) = true ↔ AlikeP l := by
  obtain ⟨hp, hs⟩ := Go.Sort.pdq_sorts (ltOf hv_cf) hv_swo l.toArray 0 l.toArray.size (Lib.bitLen l.toArray.size) true true (Nat.zero_le _) (Nat.le_refl _) (Or.inl rfl)
  have hsz : (hv_pdq l.toArray).size = l.length := by rw [hv_pdq_size]; simp
  have hp0 : (hv_pdq l.toArray).toList.Perm l := by
    have := hp.2.2
    have e1 : ((hv_pdq l.toArray).extract 0 l.toArray.size) = hv_pdq l.toArray := by
      rw [show l.toArray.size = (hv_pdq l.toArray).size by rw [hsz]; simp]
      exact Array.extract_size
    have e2 : l.toArray.extract 0 l.toArray.size = l.toArray := Array.extract_size
    rw [e2] at this
    have h3 : ((hv_pdq l.toArray).extract 0 l.toArray.size).toList.Perm l.toArray.toList := this
    rw [e1] at h3
    exact h3
  have hs0 : ∀ i j, i < j → j < l.length → vlt (hv_pdq l.toArray)[j]! (hv_pdq l.toArray)[i]! = false := by
    intro i j h1 h2
    have := hs i j (Nat.zero_le _) h1 (by simpa using h2)
    rw [hv_vlt] at this
    exact this
  generalize hv_pdq l.toArray = d at *
  have hmem : ∀ i, i < l.length → d[i]! ∈ l := by
    intro i hi
    refine hp0.mem_iff.1 ?_
    rw [getElem!_pos d i (by omega)]
    exact Array.getElem_mem_toList (by omega)
  have hof : ∀ x ∈ l, ∃ i, i < l.length ∧ d[i]! = x := by
    intro x hx
    have := hp0.mem_iff.2 hx
    obtain ⟨i, hi, e⟩ := List.getElem_of_mem this
    have hi' : i < d.size := by simpa using hi
    refine ⟨i, by omega, ?_⟩
    rw [getElem!_pos d i hi', ← e]; simp
  unfold hv_adj
  rw [decide_eq_true_iff, hsz]
  constructor
  · intro h
    have step : ∀ n i, i + n < l.length → wiP d[i]! d[i + n]! := by
      intro n
      induction n with
      | zero => intro i hi; exact wiP_refl (hR _ (hmem i hi))
      | succ n ih =>
        intro i hi
        have h1 := ih i (by omega)
        have h2 := h (i + n + 1) (by omega) (by omega)
        rw [Nat.add_sub_cancel, hv_wi_iff] at h2
        exact wiP_trans (hR _ (hmem i (by omega))) (hR _ (hmem (i + n) (by omega))) (hR _ (hmem (i + (n + 1)) (by omega))) h1 h2
    intro x hx y hy
    obtain ⟨i, hi, rfl⟩ := hof x hx
    obtain ⟨j, hj, rfl⟩ := hof y hy
    by_cases hij : i ≤ j
    · left
      have := step (j - i) i (by omega)
      rwa [show i + (j - i) = j by omega] at this
    · right
      have := step (i - j) j (by omega)
      rwa [show j + (i - j) = i by omega] at this
  · intro h j hj h1
    rw [hv_wi_iff]
    exact wiP_of (hR _ (hmem (j - 1) (by omega))) (hR _ (hmem j hj)) (h _ (hmem (j - 1) (by omega)) _ (hmem j hj)) (hs0 (j - 1) j (by omega) hj)
theorem view_Alike_eq (l : List V) (hl : l.length < 8796093022208) : view_Alike.f l = some (hv_adj (hv_pdq l.toArray)) := by
  unfold view_Alike.f
  rw [if_pos hl]
/-! view.Top: the last one -/
def topL : V → List V → V
  | m, [] => m
  | m, v :: l => topL (if vlt m v = true then v else m) l
theorem vlt_ntr {a b c : V} (h : vlt a b = false) (k : vlt b c = false) : vlt a c = false := by
  cases e : vlt a c
  · rfl
  · have h1 := mt (vlt_iff a b).2 (by simp [h])
    have h2 := mt (vlt_iff b c).2 (by simp [k])
    have h3 := (vlt_iff a c).1 e
    exfalso; omega
theorem vlt_asym {a b : V} (h : vlt a b = true) : vlt b a = false := by
  cases k : vlt b a
  · rfl
  · rw [vlt_iff] at h k; exfalso; omega
theorem vlt_irr (a : V) : vlt a a = false := by
  cases k : vlt a a
  · rfl
  · rw [vlt_iff] at k; exfalso; omega
theorem topL_spec (l : List V) : ∀ m, (topL m l = m ∨ topL m l ∈ l) ∧ vlt (topL m l) m = false ∧ ∀ v ∈ l, vlt (topL m l) v = false := by
  induction l with
  | nil => intro m; exact ⟨Or.inl rfl, vlt_irr m, fun v h => by cases h⟩
  | cons v l ih =>
    intro m
    simp only [topL]
    by_cases h : vlt m v = true
    · rw [if_pos h]
      obtain ⟨h1, h2, h3⟩ := ih v
      refine ⟨Or.inr ?_, vlt_ntr h2 (vlt_asym h), fun w hw => ?_⟩
      · rcases h1 with h1 | h1
        · rw [h1]; exact List.mem_cons_self ..
        · exact List.mem_cons_of_mem _ h1
      · rcases List.mem_cons.1 hw with rfl | hw
        · exact h2
        · exact h3 w hw
    · rw [if_neg h]
      obtain ⟨h1, h2, h3⟩ := ih m
      have h' : vlt m v = false := by simpa using h
      refine ⟨?_, h2, fun w hw => ?_⟩
      · rcases h1 with h1 | h1
        · exact Or.inl h1
        · exact Or.inr (List.mem_cons_of_mem _ h1)
      · rcases List.mem_cons.1 hw with rfl | hw
        · exact vlt_ntr h2 h'
        · exact h3 w hw
theorem compare_pos (a b : V) : ∃ c : Int, Ev (fun k => view_compare.f k a.f0 a.f1 b.f0 b.f1) c ∧ (c > 0 ↔ vlt b a = true) := by
  refine ⟨if (if kS a < kS b then -1 else if kS a > kS b then 1 else 0 : Int) = 0 then (if kN a < kN b then -1 else if kN a > kN b then 1 else 0) else (if kS a < kS b then -1 else if kS a > kS b then 1 else 0), ?_, ?_⟩
  · unfold view_compare.f
    refine Ev.bind_all (kS_some a) (Ev.bind_all (kS_some b) (Ev.bind_all (compare_int _ _) ?_))
    refine Ev.bind_all (name_some a) (Ev.bind_all (name_some b) (Ev.bind_all (compare_int _ _) ?_))
    exact Ev.bind (or_int _ _) (Ev.all fun k => rfl)
  · rw [vlt_iff]
    (repeat' split) <;> omega
theorem max_l0 (xs : List V) (hn : xs.length < 4611686018427387904) (d : Nat) : ∀ (i : Nat) (m : V), xs.length - i = d → i ≤ xs.length →
    Ev (fun k => api_View_45.l0 k xs (i : Int) m.f0 m.f1) ((topL m (xs.drop i)).f0, (topL m (xs.drop i)).f1) := by
  induction d with
  | zero =>
    intro i m hd hi
    refine Ev.const fun k => ?_
    simp only [api_View_45.l0]
    rw [if_neg (by omega), List.drop_eq_nil_of_le (by omega)]
    rfl
  | succ d ih =>
    intro i m hd hi
    have hlt : i < xs.length := by omega
    have e : rd_T25 xs i = xs.getD i z25 := rfl
    rw [drop_cons hlt z25]
    obtain ⟨c, hc, hs⟩ := compare_pos (xs.getD i z25) m
    refine Ev.succ ?_
    simp only [api_View_45.l0]
    rw [e, wrap_nat (by omega)]
    refine Ev.ite_pos (by omega) (Ev.ite_pos (by omega) (Ev.bind hc ?_))
    simp only [topL]
    by_cases h : vlt m (xs.getD i z25) = true
    · rw [if_pos h]
      exact Ev.ite_pos (hs.2 h) (ih (i + 1) _ (by omega) (by omega))
    · rw [if_neg h]
      exact Ev.ite_neg (fun k => h (hs.1 k)) (ih (i + 1) m (by omega) (by omega))
/-- of none the empty one, else the last -/
def topV : List V → V
  | [] => z25
  | v :: l => topL v l
theorem view_Top_ev (xs : List V) (hn : xs.length < 4611686018427387904) : Ev (fun k => view_Top.f k xs) ((topV xs).f0, (topV xs).f1) := by
  unfold view_Top.f
  cases xs with
  | nil => exact Ev.ite_pos rfl (Ev.all fun k => rfl)
  | cons v l =>
    refine Ev.ite_neg (by simp only [List.length_cons]; omega) ?_
    refine Ev.bind (a := ((topL v l).f0, (topL v l).f1)) ?_ (Ev.all fun k => rfl)
    unfold api_View_45.f
    refine Ev.ite_neg (by simp only [List.length_cons]; omega) (Ev.ite_pos (by simp only [List.length_cons]; omega) ?_)
    have e : rd_T25 (v :: l) 0 = v := rfl
    rw [e]
    have := max_l0 (v :: l) hn l.length 1 v (by simp) (by simp)
    exact this
theorem topV_mem {l : List V} (h : l ≠ []) : topV l ∈ l := by
  cases l with
  | nil => exact absurd rfl h
  | cons v l =>
    rcases (topL_spec l v).1 with k | k
    · show topL v l ∈ v :: l
      rw [k]; exact List.mem_cons_self ..
    · exact List.mem_cons_of_mem _ k
theorem topV_max {l : List V} : ∀ v ∈ l, vlt (topV l) v = false := by
  intro v hv
  cases l with
  | nil => cases hv
  | cons w l =>
    rcases List.mem_cons.1 hv with rfl | hv
    · exact (topL_spec l v).2.1
    · exact (topL_spec l w).2.2 v hv

theorem RtV.rt {v : V} (h : RtV v) : Rt v.f0 v.f1 := h
theorem ref_Size_ev {v : V} (h : RtV v) : Ev (fun k => ropewayref04_Size.f k v.f0 v.f1) (kS v) := by
  have := ref_Size_l0 v.f0 v.f1 h.rt 6 0 0 (by omega) (by omega) (by omega) (by omega)
  rw [cnt_pc h.1 h.2.1, cnt_pc h.2.2.1 h.2.2.2] at this
  rw [kS_right h]
  rw [show (0 : Int) + pc v.f0 + pc v.f1 = pc v.f0 + pc v.f1 by omega] at this
  exact this
theorem ref_Name_eq {v : V} (h : RtV v) : ropewayref04_Name.f v.f0 v.f1 = some (kN v) := by
  unfold ropewayref04_Name.f
  rw [kN_right h]
  obtain ⟨h0, h1, h2, h3⟩ := h
  rw [wrap_in (x := 64 * v.f0) (by omega) (by omega), wrap_in (by omega) (by omega), Int.mul_comm]
theorem ref_Less_ev {a b : V} (ha : RtV a) (hb : RtV b) : Ev (fun k => ropewayref05_Less.f k a.f0 a.f1 b.f0 b.f1) (vlt a b) := by
  unfold ropewayref05_Less.f
  refine Ev.bind (ref_Size_ev ha) (Ev.bind (ref_Size_ev hb) ?_)
  by_cases h : kS a = kS b
  · refine Ev.ite_pos h (Ev.bind_all (ref_Name_eq ha) (Ev.bind_all (ref_Name_eq hb) (Ev.all fun k => ?_)))
    unfold vlt
    rw [Option.some.injEq, decide_eq_decide]; omega
  · refine Ev.ite_neg h (Ev.bind (ref_Size_ev ha) (Ev.bind (ref_Size_ev hb) (Ev.all fun k => ?_)))
    unfold vlt
    rw [Option.some.injEq, decide_eq_decide]; omega
def wiB (x y : V) : Bool := aB x.f0 y.f0 == 0 && (aB x.f1 y.f1 == 0)
theorem wiB_iff (x y : V) : wiB x y = true ↔ wiP x y := by
  unfold wiB wiP
  rw [Bool.and_eq_true, beq_iff_eq, beq_iff_eq]
theorem ref_Within_ev {x y : V} (hx : RtV x) (hy : RtV y) : Ev (fun k => ropewayref04_Within.f k x.f0 x.f1 y.f0 y.f1) (wiB x y) := by
  unfold ropewayref04_Within.f
  exact Ev.bind (ref_Minus_ev hx.rt hy.rt) (Ev.all fun k => rfl)
def allW (x : V) (l : List V) : Bool := l.all fun y => wiB x y || wiB y x
def alikeB (l0 l : List V) : Bool := l.all fun x => allW x l0
theorem alikeB_iff (l : List V) : alikeB l l = true ↔ AlikeP l := by
  unfold alikeB allW AlikeP
  simp only [List.all_eq_true, Bool.or_eq_true, wiB_iff]
theorem ref_Alike_l1 (l : List V) (hn : l.length < 4611686018427387904) (hR : ∀ v ∈ l, RtV v) (i : Nat) (x : V) (hx : RtV x) (R : Bool) (m : Nat) : ∀ j : Nat, l.length - j = m → j ≤ l.length →
    (allW x (l.drop j) = true → Ev (fun k => ropewayref05_Alike.l0 k l l (l.length : Int) (wrap64 ((i : Int) + 1))) R) → (allW x (l.drop j) = false → R = false) →
    Ev (fun k => ropewayref05_Alike.l1 k l l (l.length : Int) (i : Int) l (l.length : Int) (j : Int) x.f0 x.f1) R := by
  induction m with
  | zero =>
    intro j hm hj h1 h2
    refine Ev.succ ?_
    simp only [ropewayref05_Alike.l1]
    refine Ev.ite_neg (by omega) (h1 ?_)
    rw [List.drop_eq_nil_of_le (by omega)]; rfl
  | succ m ih =>
    intro j hm hj h1 h2
    have hlt : j < l.length := by omega
    have e : rd_T25 l j = l.getD j z25 := rfl
    have hy := hR _ (getD_mem hlt z25)
    rw [drop_cons hlt z25] at h1 h2
    refine Ev.succ ?_
    simp only [ropewayref05_Alike.l1]
    rw [e, wrap_nat (show j < 4611686018427387904 by omega)]
    generalize l.getD j z25 = y at hy h1 h2
    refine Ev.ite_pos (by omega) (Ev.ite_pos (by omega) (Ev.ite_pos (by omega) ?_))
    have hc : allW x (y :: l.drop (j + 1)) = ((wiB x y || wiB y x) && allW x (l.drop (j + 1))) := rfl
    rw [hc] at h1 h2
    refine Ev.bind (ref_Within_ev hx hy) (Ev.ite (fun k1 => ?_) (fun k1 => ?_))
    · rw [k1, Bool.true_or, Bool.true_and] at h1 h2
      exact ih (j + 1) (by omega) (by omega) h1 h2
    · refine Ev.bind (ref_Within_ev hy hx) (Ev.ite (fun k2 => ?_) (fun k2 => ?_))
      · rw [k2, Bool.or_true, Bool.true_and] at h1 h2
        exact ih (j + 1) (by omega) (by omega) h1 h2
      · rw [h2 (by rw [Bool.eq_false_iff.2 k1, Bool.eq_false_iff.2 k2]; rfl)]
        exact Ev.all fun k => rfl
theorem ref_Alike_l0 (l : List V) (hn : l.length < 4611686018427387904) (hR : ∀ v ∈ l, RtV v) (m : Nat) : ∀ i : Nat, l.length - i = m → i ≤ l.length →
    Ev (fun k => ropewayref05_Alike.l0 k l l (l.length : Int) (i : Int)) (alikeB l (l.drop i)) := by
  induction m with
  | zero =>
    intro i hm hi
    refine Ev.const fun k => ?_
    simp only [ropewayref05_Alike.l0]
    rw [if_neg (by omega), List.drop_eq_nil_of_le (by omega)]; rfl
  | succ m ih =>
    intro i hm hi
    have hlt : i < l.length := by omega
    have e : rd_T25 l i = l.getD i z25 := rfl
    have hx := hR _ (getD_mem hlt z25)
    have nx := ih (i + 1) (by omega) (by omega)
    rw [← wrap_nat (show i < 4611686018427387904 by omega)] at nx
    rw [drop_cons hlt z25]
    refine Ev.succ ?_
    simp only [ropewayref05_Alike.l0]
    rw [e]
    generalize l.getD i z25 = x at hx
    refine Ev.ite_pos (by omega) (Ev.ite_pos (by omega) (Ev.ite_pos (by omega) ?_))
    have hc : alikeB l (x :: l.drop (i + 1)) = (allW x l && alikeB l (l.drop (i + 1))) := rfl
    rw [hc]
    refine ref_Alike_l1 l hn hR i x hx _ l.length 0 (by omega) (by omega) (fun h => ?_) (fun h => ?_)
    · rw [List.drop_zero] at h
      rw [h, Bool.true_and]; exact nx
    · rw [List.drop_zero] at h
      rw [h, Bool.false_and]
theorem ref_Top_l0 (l : List V) (hn : l.length < 4611686018427387904) (hR : ∀ v ∈ l, RtV v) (d : Nat) : ∀ (i : Nat) (m : V), RtV m → l.length - i = d → i ≤ l.length → 0 < i →
    Ev (fun k => ropewayref05_Top.l0 k l (l.length : Int) (i : Int) m.f0 m.f1) ((topL m (l.drop i)).f0, (topL m (l.drop i)).f1) := by
  induction d with
  | zero =>
    intro i m _ hd hi _
    refine Ev.const fun k => ?_
    simp only [ropewayref05_Top.l0]
    rw [if_neg (by omega), List.drop_eq_nil_of_le (by omega)]
    rfl
  | succ d ih =>
    intro i m hm hd hi h0
    have hlt : i < l.length := by omega
    have e : rd_T25 l i = l.getD i z25 := rfl
    have hx := hR _ (getD_mem hlt z25)
    rw [drop_cons hlt z25]
    refine Ev.succ ?_
    simp only [ropewayref05_Top.l0]
    rw [e, wrap_nat (by omega)]
    generalize l.getD i z25 = x at hx
    refine Ev.ite_pos (by omega) (Ev.ite_pos (by omega) (Ev.ite_pos (by omega) (Ev.ite_neg (by omega) ?_)))
    refine Ev.bind (ref_Less_ev hm hx) ?_
    simp only [topL]
    by_cases h : vlt m x = true
    · rw [if_pos h]
      exact Ev.ite_pos h (ih (i + 1) x hx (by omega) (by omega) (by omega))
    · rw [if_neg h]
      exact Ev.ite_neg h (ih (i + 1) m hm (by omega) (by omega) (by omega))
theorem ref_Top_ev (l : List V) (hn : l.length < 4611686018427387904) (hR : ∀ v ∈ l, RtV v) : Ev (fun k => ropewayref05_Top.f k l) ((topV l).f0, (topV l).f1) := by
  cases l with
  | nil => exact Ev.const fun k => rfl
  | cons v l =>
    refine Ev.succ ?_
    show Ev (fun k => ropewayref05_Top.l0 (k + 1) (v :: l) ((v :: l).length : Int) 0 0 0) _
    simp only [ropewayref05_Top.l0]
    have e : rd_T25 (v :: l) 0 = v := rfl
    rw [e, show wrap64 (0 + 1) = ((1 : Nat) : Int) by unfold wrap64; omega]
    refine Ev.ite_pos (by simp only [List.length_cons]; omega) (Ev.ite_pos (by omega) (Ev.ite_pos (by simp only [List.length_cons]; omega) (Ev.ite_pos (by trivial) ?_)))
    exact ref_Top_l0 (v :: l) hn hR l.length 1 v (hR v (List.mem_cons_self ..)) (by simp) (by simp) (by omega)
theorem same_l0 (xs : List V) (hn : xs.length < 4611686018427387904) (d : Nat) : ∀ (i : Nat), xs.length - i = d → i ≤ xs.length →
    Ev (fun k => ropewayref05_Same.l0 k xs xs (xs.length : Int) (i : Int)) true := by
  induction d with
  | zero =>
    intro i hd hi
    refine Ev.const fun k => ?_
    simp only [ropewayref05_Same.l0]
    rw [if_neg (by omega)]
  | succ d ih =>
    intro i hd hi
    refine Ev.succ ?_
    simp only [ropewayref05_Same.l0]
    refine Ev.ite_pos (by omega) (Ev.ite_pos (by omega) (Ev.ite_pos (by omega) (Ev.ite_pos (by omega) (Ev.ite_neg (by simp) ?_))))
    rw [wrap_nat (by omega)]
    exact ih (i + 1) (by omega) (by omega)
theorem ViewOrder : ropewaylaw05_ViewOrder.Pure := by
  intro l ⟨_, ll, _⟩
  have alive : Ev (fun k => ropewaylaw05_viewAlive.f k) true := Ev.closed ropewaylaw05_viewAlive.mono 60 (by decide +kernel)
  have hall : Ev (fun k => ropewaylaw05_ViewOrder.f k l) true := by
    unfold ropewaylaw05_ViewOrder.f
    refine Ev.bind alive (Ev.ite_pos rfl ?_)
    refine Ev.ite (fun _ => Ev.all fun k => rfl) (fun hlen => ?_)
    have hn : l.length < 4611686018427387904 := by omega
    have last : (∀ v ∈ l, RtV v) → Ev (fun k => ropewaylaw05_ViewOrder.l1 k l l (l.length : Int) (l.length : Int)) true := by
      intro hR
      refine Ev.succ ?_
      simp only [ropewaylaw05_ViewOrder.l1]
      refine Ev.ite_neg (by omega) ?_
      simp only [Option.bind_some, List.nil_append]
      refine Ev.ite_pos (by simp; omega) ?_
      refine Ev.bind_all (view_Alike_eq l (by omega)) ?_
      refine Ev.bind (show Ev (fun k => ropewayref05_Alike.f k l) (alikeB l l) from ref_Alike_l0 l hn hR l.length 0 (by omega) (by omega)) ?_
      refine Ev.ite_pos ?_ ?_
      · rw [beq_iff_eq, Bool.eq_iff_iff, adj_iff l hR, alikeB_iff]
      refine Ev.bind (view_Top_ev l hn) (Ev.bind (ref_Top_ev l hn hR) (Ev.ite_pos (by simp) ?_))
      refine Ev.bind (a := true) ?_ (Ev.all fun k => rfl)
      unfold ropewayref05_Same.f
      exact Ev.ite_pos rfl (same_l0 l hn l.length 0 (by omega) (by omega))
    have inner : (∀ v ∈ l, RtV v) → ∀ (i : Nat) (x : V), RtV x → Ev (fun k => ropewaylaw05_ViewOrder.l1 k l l (l.length : Int) (wrap64 ((i : Int) + 1))) true → ∀ m j : Nat, l.length - j = m → j ≤ l.length →
        Ev (fun k => ropewaylaw05_ViewOrder.l2 k l l (l.length : Int) (i : Int) l (l.length : Int) (j : Int) x.f0 x.f1) true := by
      intro hR i x hx nx m
      induction m with
      | zero =>
        intro j hm hj
        refine Ev.succ ?_
        simp only [ropewaylaw05_ViewOrder.l2]
        exact Ev.ite_neg (by omega) nx
      | succ m ih =>
        intro j hm hj
        have hlt : j < l.length := by omega
        have e : rd_T25 l j = l.getD j z25 := rfl
        have hy := hR _ (getD_mem hlt z25)
        refine Ev.succ ?_
        simp only [ropewaylaw05_ViewOrder.l2]
        rw [e, wrap_nat (show j < 4611686018427387904 by omega)]
        generalize l.getD j z25 = y at hy
        refine Ev.ite_pos (by omega) (Ev.ite_pos (by omega) (Ev.ite_pos (by omega) ?_))
        exact Ev.bind (view_Less_ev x y) (Ev.bind (ref_Less_ev hx hy) (Ev.ite_neg (by simp) (ih (j + 1) (by omega) (by omega))))
    have outer : (∀ v ∈ l, RtV v) → ∀ m i : Nat, l.length - i = m → i ≤ l.length → Ev (fun k => ropewaylaw05_ViewOrder.l1 k l l (l.length : Int) (i : Int)) true := by
      intro hR m
      induction m with
      | zero =>
        intro i hm hi
        obtain rfl : i = l.length := by omega
        exact last hR
      | succ m ih =>
        intro i hm hi
        have hlt : i < l.length := by omega
        have e : rd_T25 l i = l.getD i z25 := rfl
        have hx := hR _ (getD_mem hlt z25)
        have nx := ih (i + 1) (by omega) (by omega)
        rw [← wrap_nat (show i < 4611686018427387904 by omega)] at nx
        refine Ev.succ ?_
        simp only [ropewaylaw05_ViewOrder.l1]
        rw [e]
        generalize l.getD i z25 = x at hx
        refine Ev.ite_pos (by omega) (Ev.ite_pos (by omega) (Ev.ite_pos (by omega) ?_))
        exact inner hR i x hx nx l.length 0 (by omega) (by omega)
    have loop : ∀ m i : Nat, l.length - i = m → i ≤ l.length → (∀ v ∈ l.take i, RtV v) → Ev (fun k => ropewaylaw05_ViewOrder.l0 k l l (l.length : Int) (i : Int)) true := by
      intro m
      induction m with
      | zero =>
        intro i hm hi hR
        refine Ev.succ ?_
        simp only [ropewaylaw05_ViewOrder.l0]
        rw [List.take_of_length_le (by omega)] at hR
        exact Ev.ite_neg (by omega) (outer hR l.length 0 (by omega) (by omega))
      | succ m ih =>
        intro i hm hi hR
        have hlt : i < l.length := by omega
        have e : rd_T25 l i = l.getD i z25 := rfl
        have ex : l[i]? = some (l.getD i z25) := by rw [List.getD_eq_getElem?_getD, List.getElem?_eq_getElem hlt, Option.getD_some]
        refine Ev.succ ?_
        simp only [ropewaylaw05_ViewOrder.l0]
        rw [e, wrap_nat (by omega)]
        generalize l.getD i z25 = x at ex
        refine Ev.ite_pos (by omega) (Ev.ite_pos (by omega) (Ev.ite_pos (by omega) ?_))
        refine Ev.bind_all (ref_Right_eq x.f0 x.f1) (Ev.ite (fun hx => ?_) (fun _ => Ev.all fun k => rfl))
        have hx : RtV x := (of_decide_eq_true hx : 0 ≤ x.f0 ∧ x.f0 < 64 ∧ 0 ≤ x.f1 ∧ x.f1 < 64)
        refine ih (i + 1) (by omega) (by omega) fun v hv => ?_
        rw [List.take_add_one, ex] at hv
        rcases List.mem_append.1 hv with hv | hv
        · exact hR v hv
        · simp at hv; rw [hv]; exact hx
    exact loop l.length 0 (by omega) (by omega) (fun v hv => by simp at hv)
  exact hall.rounds

end Go.Proofs.Ytophohbodmnpjaa.Pure
