/- The pure statement of the law ChangeJoins: of any sets: all together, what one has that another hasn't, whether it is within another, how many there are, and its name; for every input. -/
import Derived.Test.YtbnhgckdplndfaaPChangeJoinsx
import Derived.Test.YtbnhgckdplndfaaXPure
import Derived.Test.YtbnhgckdplndfaaXOpen
namespace Go.Proofs.Ytbnhgckdplndfaa.Pure
open Go.RowKit Go.Proofs.Ytbnhgckdplndfaa.PChangeJoins Go.Proofs.YtbnhgckdplndfaaW.PrintWords Go.Proofs.YtbnhgckdplndfaaW.PrintLast Go.Proofs.YtbnhgckdplndfaaW.PrintMore Go.Proofs.YtbnhgckdplndfaaX
set_option linter.unusedVariables false
set_option linter.unusedSimpArgs false
/-! sets of nodes: two numbers below 64 -/
def pc (a : Int) : Int := (bits_OnesCount.f (IntKind.u64.wrap a)).getD 0
theorem set1 (p : Int → Prop) [DecidablePred p] (h : ∀ a : Fin 64, p (a.val : Int)) {x : Int} (h0 : 0 ≤ x) (h1 : x < 64) : p x := by
  have := h ⟨x.toNat, by omega⟩
  simpa [Int.toNat_of_nonneg h0] using this
theorem set2 (p : Int → Int → Prop) (h : ∀ a b : Fin 64, p (a.val : Int) (b.val : Int)) {x y : Int} (h0 : 0 ≤ x) (h1 : x < 64) (h2 : 0 ≤ y) (h3 : y < 64) : p x y := by
  have := h ⟨x.toNat, by omega⟩ ⟨y.toNat, by omega⟩
  simpa [Int.toNat_of_nonneg h0, Int.toNat_of_nonneg h2] using this
theorem pc_some {x : Int} (h0 : 0 ≤ x) (h1 : x < 64) : bits_OnesCount.f (IntKind.u64.wrap x) = some (pc x) ∧ 0 ≤ pc x ∧ pc x ≤ 6 :=
  set1 (fun x => bits_OnesCount.f (IntKind.u64.wrap x) = some (pc x) ∧ 0 ≤ pc x ∧ pc x ≤ 6) (by decide +kernel) h0 h1
theorem size_eq {a d : Int} (a0 : 0 ≤ a) (a1 : a < 64) (d0 : 0 ≤ d) (d1 : d < 64) : change_Size.f a d = some (pc a + pc d) := by
  obtain ⟨ea, la, ua⟩ := pc_some a0 a1
  obtain ⟨ed, ld, ud⟩ := pc_some d0 d1
  unfold change_Size.f
  rw [ea, ed]
  simp only [Option.bind_some]
  rw [wrap_in (by omega) (by omega)]
theorem right_eq (a d : Int) : change_Right.f a d = some (decide (0 ≤ a ∧ a < 64 ∧ 0 ≤ d ∧ d < 64)) := by
  unfold change_Right.f
  (repeat' split) <;> simp_all <;> omega
theorem name_eq {a d : Int} (a0 : 0 ≤ a) (a1 : a < 64) (d0 : 0 ≤ d) (d1 : d < 64) : change_Name.f a d = some (a * 64 + d) := by
  unfold change_Name.f
  rw [wrap_in (x := a * 64) (by omega) (by omega), wrap_in (by omega) (by omega)]

/-! change.Join, Minus: or, and-not of two numbers below 64 -/
def oB (x y : Int) : Int := Go.bits .or .i64 x y
def aB (x y : Int) : Int := Go.bits .andNot .i64 x y
def In64 (x : Int) : Prop := 0 ≤ x ∧ x < 64
theorem pairs {x y : Int} (hx : In64 x) (hy : In64 y) : (0 ≤ oB x y ∧ oB x y < 64) ∧ (0 ≤ aB x y ∧ aB x y < 64) ∧ oB x y = ((x.toNat ||| y.toNat : Nat) : Int) ∧ (aB x y = 0 ↔ oB x y = y) ∧ oB (aB x y) y = oB x y ∧ aB (aB x y) y = aB x y ∧ pc (oB x y) = pc y + pc (aB x y) :=
  set2 (fun x y => (0 ≤ oB x y ∧ oB x y < 64) ∧ (0 ≤ aB x y ∧ aB x y < 64) ∧ oB x y = ((x.toNat ||| y.toNat : Nat) : Int) ∧ (aB x y = 0 ↔ oB x y = y) ∧ oB (aB x y) y = oB x y ∧ aB (aB x y) y = aB x y ∧ pc (oB x y) = pc y + pc (aB x y)) (by decide +kernel) hx.1 hx.2 hy.1 hy.2
theorem oB_in {x y : Int} (hx : In64 x) (hy : In64 y) : In64 (oB x y) := (pairs hx hy).1
theorem aB_in {x y : Int} (hx : In64 x) (hy : In64 y) : In64 (aB x y) := (pairs hx hy).2.1
theorem oB_nat {x y : Int} (hx : In64 x) (hy : In64 y) : oB x y = ((x.toNat ||| y.toNat : Nat) : Int) := (pairs hx hy).2.2.1
theorem in0 : In64 0 := ⟨by decide, by decide⟩
theorem oB_zero {x : Int} (hx : In64 x) : oB 0 x = x := by
  rw [oB_nat in0 hx]; have := hx.1; simp; omega
theorem oB_comm {x y : Int} (hx : In64 x) (hy : In64 y) : oB x y = oB y x := by
  rw [oB_nat hx hy, oB_nat hy hx, Nat.or_comm]
theorem oB_self {x : Int} (hx : In64 x) : oB x x = x := by
  rw [oB_nat hx hx, Nat.or_self]; have := hx.1; simp; omega
theorem oB_assoc {x y z : Int} (hx : In64 x) (hy : In64 y) (hz : In64 z) : oB (oB x y) z = oB x (oB y z) := by
  rw [oB_nat (oB_in hx hy) hz, oB_nat hx (oB_in hy hz), oB_nat hx hy, oB_nat hy hz, Int.toNat_natCast, Int.toNat_natCast, Nat.or_assoc]
def joinL (m : Int × Int) (l : List S38) : Int × Int := l.foldl (fun m v => (oB m.1 v.f0, oB m.2 v.f1)) m
theorem change_Join_l0 (xs : List S38) (hn : xs.length < 4611686018427387904) (d : Nat) : ∀ (i : Nat) (m : Int × Int), xs.length - i = d → i ≤ xs.length →
    Ev (fun k => change_Join.l0 k xs (xs.length : Int) (i : Int) m.1 m.2) (joinL m (xs.drop i)) := by
  induction d with
  | zero =>
    intro i m hd hi
    refine Ev.const fun k => ?_
    simp only [change_Join.l0]
    rw [if_neg (by omega), List.drop_eq_nil_of_le (by omega)]
    rfl
  | succ d ih =>
    intro i m hd hi
    have hlt : i < xs.length := by omega
    rw [drop_cons hlt z38]
    refine Ev.step' (ih (i + 1) (oB m.1 (rd_T38 xs i).f0, oB m.2 (rd_T38 xs i).f1) (by omega) (by omega)) fun k => ?_
    simp only [change_Join.l0]
    rw [if_pos (by omega), if_pos (by omega), if_pos (by omega), wrap_nat (by omega)]
    rfl
theorem change_Join_ev (xs : List S38) (hn : xs.length < 4611686018427387904) : Ev (fun k => change_Join.f k xs) (joinL (0, 0) xs) := change_Join_l0 xs hn xs.length 0 (0, 0) (by omega) (by omega)

/-! the document's bits -/
def bitB (x n : Int) : Bool := x / 2 ^ n.toNat % 2 == 1
def Rt (a d : Int) : Prop := 0 ≤ a ∧ a < 64 ∧ 0 ≤ d ∧ d < 64

theorem ref_bit_l0 (m : Nat) : ∀ (x : Int) (i n : Nat), n - i = m → i ≤ n → n < 4611686018427387904 → 0 ≤ x → x < 64 → Ev (fun k => ropewayref04_bit.l0 k x (n : Int) (i : Int)) (x / 2 ^ (n - i) % 2 == 1) := by
  induction m with
  | zero =>
    intro x i n hm hi hn h0 h1
    refine Ev.const fun k => ?_
    simp only [ropewayref04_bit.l0]
    rw [if_neg (by omega), show n - i = 0 by omega, Int.tmod_eq_emod_of_nonneg h0]
    simp
  | succ m ih =>
    intro x i n hm hi hn h0 h1
    have := ih (x / 2) (i + 1) n (by omega) (by omega) hn (by omega) (by omega)
    have e : x / 2 ^ (n - i) = x / 2 / 2 ^ (n - (i + 1)) := by
      rw [show n - i = n - (i + 1) + 1 by omega, Int.pow_succ, Int.mul_comm, Int.ediv_ediv_of_nonneg (by omega)]
    rw [e]
    refine Ev.step' this fun k => ?_
    simp only [ropewayref04_bit.l0]
    rw [if_pos (by omega), Int.tdiv_eq_ediv_of_nonneg h0, wrap_in (x := x / 2) (by omega) (by omega), wrap_nat (by omega)]
theorem ref_bit_ev {x n : Int} (h0 : 0 ≤ x) (h1 : x < 64) (h2 : 0 ≤ n) (h3 : n < 4611686018427387904) : Ev (fun k => ropewayref04_bit.f k x n) (bitB x n) := by
  have := ref_bit_l0 n.toNat x 0 n.toNat (by omega) (by omega) (by omega) h0 h1
  rw [Int.toNat_of_nonneg h2] at this
  exact this
theorem ref_Has_ev {a d n : Int} (h : Rt a d) (h2 : 0 ≤ n) (h3 : n < 4611686018427387904) : Ev (fun k => ropewayref04_Has.f k a d n) (bitB a n, bitB d n) := by
  unfold ropewayref04_Has.f
  refine Ev.bind (ref_bit_ev h.1 h.2.1 h2 h3) ?_
  refine Ev.bind (ref_bit_ev h.2.2.1 h.2.2.2 h2 h3) ?_
  exact Ev.all fun k => rfl

/-! six bools as a set's number -/
def toN (f : Nat → Bool) : Int := (if f 0 = true then 1 else 0) + (if f 1 = true then 2 else 0) + (if f 2 = true then 4 else 0) + (if f 3 = true then 8 else 0) + (if f 4 = true then 16 else 0) + (if f 5 = true then 32 else 0)
def up (f : Nat → Bool) (j : Int) (v : Bool) : Nat → Bool := fun i => stA j (i : Int) v (f i)
def six6 (a b c d e f : Bool) : Nat → Bool
  | 0 => a | 1 => b | 2 => c | 3 => d | 4 => e | _ => f
theorem toN_six (f : Nat → Bool) : toN f = toN (six6 (f 0) (f 1) (f 2) (f 3) (f 4) (f 5)) := rfl
theorem toN_range (f : Nat → Bool) : 0 ≤ toN f ∧ toN f < 64 := by
  unfold toN
  constructor <;> (repeat' split) <;> omega
theorem set_closed : ∀ a0 a1 a2 a3 a4 a5 b0 b1 b2 b3 b4 b5 : Bool, ropewayref04_set.f 8 a0 a1 a2 a3 a4 a5 b0 b1 b2 b3 b4 b5 = some (toN (six6 a0 a1 a2 a3 a4 a5), toN (six6 b0 b1 b2 b3 b4 b5)) := by decide +kernel
theorem set_ev (f g : Nat → Bool) : Ev (fun k => ropewayref04_set.f k (f 0) (f 1) (f 2) (f 3) (f 4) (f 5) (g 0) (g 1) (g 2) (g 3) (g 4) (g 5)) (toN f, toN g) :=
  Ev.closed (ropewayref04_set.mono _ _ _ _ _ _ _ _ _ _ _ _) 8 (set_closed _ _ _ _ _ _ _ _ _ _ _ _)

theorem toN_congr {p q : Nat → Bool} (h : ∀ j, j < 6 → p j = q j) : toN p = toN q := by
  unfold toN
  rw [h 0 (by omega), h 1 (by omega), h 2 (by omega), h 3 (by omega), h 4 (by omega), h 5 (by omega)]
theorem rd6 (f : Nat → Bool) {i : Nat} (h : i < 6) : rdOf false [f 0, f 1, f 2, f 3, f 4, f 5] (i : Int) = f i := by
  have : i = 0 ∨ i = 1 ∨ i = 2 ∨ i = 3 ∨ i = 4 ∨ i = 5 := by omega
  rcases this with rfl | rfl | rfl | rfl | rfl | rfl <;> rfl
theorem up_at (f : Nat → Bool) (i j : Nat) (v : Bool) : up f (i : Int) v j = if i = j then v else f j := by
  unfold up stA
  by_cases h : i = j
  · rw [if_pos h, if_pos (by omega)]
  · rw [if_neg h, if_neg (by omega)]
theorem bit_toN_closed : ∀ a0 a1 a2 a3 a4 a5 : Bool, ∀ n : Fin 6, bitB (toN (six6 a0 a1 a2 a3 a4 a5)) (n.val : Int) = six6 a0 a1 a2 a3 a4 a5 n.val := by decide +kernel
theorem bit_toN (f : Nat → Bool) {j : Nat} (h : j < 6) : bitB (toN f) (j : Int) = f j := by
  have := bit_toN_closed (f 0) (f 1) (f 2) (f 3) (f 4) (f 5) ⟨j, h⟩
  rw [toN_six]
  refine this.trans ?_
  have : j = 0 ∨ j = 1 ∨ j = 2 ∨ j = 3 ∨ j = 4 ∨ j = 5 := by omega
  rcases this with rfl | rfl | rfl | rfl | rfl | rfl <;> rfl
theorem toN_ops {x y : Int} (hx : In64 x) (hy : In64 y) : toN (fun j => bitB x (j : Int) || bitB y (j : Int)) = oB x y ∧ toN (fun j => bitB x (j : Int) && !bitB y (j : Int)) = aB x y :=
  set2 (fun x y => toN (fun j => bitB x (j : Int) || bitB y (j : Int)) = oB x y ∧ toN (fun j => bitB x (j : Int) && !bitB y (j : Int)) = aB x y) (by decide +kernel) hx.1 hx.2 hy.1 hy.2
theorem bit_or {x y : Int} (hx : In64 x) (hy : In64 y) {j : Nat} (h : j < 6) : bitB (oB x y) (j : Int) = (bitB x (j : Int) || bitB y (j : Int)) := by
  rw [← (toN_ops hx hy).1, bit_toN _ h]

abbrev VW := S38
def anyB (sel : VW → Int) : Bool → List VW → Nat → Bool
  | b, [], _ => b
  | b, v :: l, j => anyB sel (b || bitB (sel v) (j : Int)) l j
theorem ref_Join_l1 (xs : List VW) (p a d : Int) (hr : Rt a d) (f g : Nat → Bool) (R : Int × Int)
    (hc : ∀ f' g' : Nat → Bool, (∀ j, j < 6 → f' j = (f j || bitB a (j : Int))) → (∀ j, j < 6 → g' j = (g j || bitB d (j : Int))) →
      Ev (fun k => ropewayref04_Join.l0 k xs (xs.length : Int) (wrap64 (p + 1)) (f' 0) (f' 1) (f' 2) (f' 3) (f' 4) (f' 5) (g' 0) (g' 1) (g' 2) (g' 3) (g' 4) (g' 5)) R) (m : Nat) :
    ∀ (i : Nat) (f' g' : Nat → Bool), 6 - i = m → i ≤ 6 → (∀ j, j < 6 → f' j = (f j || (decide (j < i) && bitB a (j : Int)))) → (∀ j, j < 6 → g' j = (g j || (decide (j < i) && bitB d (j : Int)))) →
      Ev (fun k => ropewayref04_Join.l1 k (i : Int) xs (xs.length : Int) p (f' 0) (f' 1) (f' 2) (f' 3) (f' 4) (f' 5) (g' 0) (g' 1) (g' 2) (g' 3) (g' 4) (g' 5) a d) R := by
  induction m with
  | zero =>
    intro i f' g' hm hi hf hg
    obtain rfl : i = 6 := by omega
    refine Ev.succ ?_
    simp only [ropewayref04_Join.l1]
    refine Ev.ite_neg (by decide) ?_
    exact hc f' g' (fun j hj => by rw [hf j hj, decide_eq_true hj, Bool.true_and]) (fun j hj => by rw [hg j hj, decide_eq_true hj, Bool.true_and])
  | succ m ih =>
    intro i f' g' hm hi hf hg
    have hlt : i < 6 := by omega
    have fi : f' i = f i := by rw [hf i hlt]; simp
    have gi : g' i = g i := by rw [hg i hlt]; simp
    have nx : ∀ (h h' : Nat → Bool) (x : Int) (v : Bool), (∀ j, j < 6 → h' j = (h j || (decide (j < i) && bitB x (j : Int)))) → v = (h i || bitB x (i : Int)) → ∀ j, j < 6 → up h' (i : Int) v j = (h j || (decide (j < i + 1) && bitB x (j : Int))) := by
      intro h h' x v hh hv j hj
      rw [up_at]
      by_cases e : i = j
      · subst e; rw [if_pos rfl, hv, decide_eq_true (by omega), Bool.true_and]
      · rw [if_neg e, hh j hj]
        by_cases z : j < i
        · rw [decide_eq_true z, decide_eq_true (by omega)]
        · rw [decide_eq_false z, decide_eq_false (by omega)]
    have go : ∀ v w : Bool, v = (f i || bitB a (i : Int)) → w = (g i || bitB d (i : Int)) → Ev (fun k => ropewayref04_Join.l1 k ((i + 1 : Nat) : Int) xs (xs.length : Int) p (up f' (i : Int) v 0) (up f' (i : Int) v 1) (up f' (i : Int) v 2) (up f' (i : Int) v 3) (up f' (i : Int) v 4) (up f' (i : Int) v 5) (up g' (i : Int) w 0) (up g' (i : Int) w 1) (up g' (i : Int) w 2) (up g' (i : Int) w 3) (up g' (i : Int) w 4) (up g' (i : Int) w 5) a d) R :=
      fun v w hv hw => ih (i + 1) (up f' (i : Int) v) (up g' (i : Int) w) (by omega) (by omega) (nx f f' a v hf hv) (nx g g' d w hg hw)
    refine Ev.succ ?_
    simp only [ropewayref04_Join.l1]
    refine Ev.ite_pos (by omega) ?_
    refine Ev.bind (ref_Has_ev hr (by omega) (by omega)) ?_
    refine Ev.ite_pos (by omega) ?_
    rw [rd6 f' hlt, rd6 g' hlt, wrap_nat (by omega), fi, gi]
    refine Ev.ite (fun h1 => Ev.ite (fun h2 => ?_) (fun h2 => ?_)) (fun h1 => Ev.ite (fun h2 => ?_) (fun h2 => ?_))
    · exact go true true (by rw [h1]; rfl) (by rw [h2]; rfl)
    · exact go true (bitB d i) (by rw [h1]; rfl) (by rw [Bool.eq_false_iff.2 h2]; rfl)
    · exact go (bitB a i) true (by rw [Bool.eq_false_iff.2 h1]; rfl) (by rw [h2]; rfl)
    · exact go (bitB a i) (bitB d i) (by rw [Bool.eq_false_iff.2 h1]; rfl) (by rw [Bool.eq_false_iff.2 h2]; rfl)
theorem ref_Join_l0 (xs : List VW) (hn : xs.length < 4611686018427387904) (hv : ∀ v ∈ xs, Rt v.f0 v.f1) (n : Nat) : ∀ (i : Nat) (f g : Nat → Bool), xs.length - i = n → i ≤ xs.length →
    Ev (fun k => ropewayref04_Join.l0 k xs (xs.length : Int) (i : Int) (f 0) (f 1) (f 2) (f 3) (f 4) (f 5) (g 0) (g 1) (g 2) (g 3) (g 4) (g 5)) (toN (fun j => anyB (·.f0) (f j) (xs.drop i) j), toN (fun j => anyB (·.f1) (g j) (xs.drop i) j)) := by
  induction n with
  | zero =>
    intro i f g hd hi
    refine Ev.succ ?_
    simp only [ropewayref04_Join.l0]
    refine Ev.ite_neg (by omega) ?_
    rw [List.drop_eq_nil_of_le (by omega)]
    exact Ev.bind (set_ev f g) (Ev.all fun k => rfl)
  | succ n ih =>
    intro i f g hd hi
    have hlt : i < xs.length := by omega
    have e : rd_T38 xs i = xs.getD i z38 := rfl
    have hx := hv _ (getD_mem hlt z38)
    rw [drop_cons hlt z38]
    refine Ev.succ ?_
    simp only [ropewayref04_Join.l0]
    refine Ev.ite_pos (by omega) (Ev.ite_pos (by omega) (Ev.ite_pos (by omega) ?_))
    rw [e]
    generalize xs.getD i z38 = x at *
    refine ref_Join_l1 xs (i : Int) x.f0 x.f1 hx f g _ (fun f' g' hf hg => ?_) 6 0 f g (by omega) (by omega) (fun j hj => by simp) (fun j hj => by simp)
    rw [wrap_nat (by omega)]
    have := ih (i + 1) f' g' (by omega) (by omega)
    rw [toN_congr (p := fun j => anyB (·.f0) (f' j) (xs.drop (i + 1)) j) (q := fun j => anyB (·.f0) (f j) (x :: xs.drop (i + 1)) j) (fun j hj => by simp only [anyB]; rw [hf j hj]),
      toN_congr (p := fun j => anyB (·.f1) (g' j) (xs.drop (i + 1)) j) (q := fun j => anyB (·.f1) (g j) (x :: xs.drop (i + 1)) j) (fun j hj => by simp only [anyB]; rw [hg j hj])] at this
    exact this
theorem any3 (sel : VW → Int) (u v w : VW) (hu : In64 (sel u)) (hv : In64 (sel v)) (hw : In64 (sel w)) : toN (fun j => anyB sel false [u, v, w] j) = oB (oB (oB 0 (sel u)) (sel v)) (sel w) := by
  rw [oB_zero hu, ← (toN_ops (oB_in hu hv) hw).1]
  refine toN_congr fun j hj => ?_
  rw [bit_or hu hv hj]
  simp [anyB]
theorem ref_Join_three (u v w : VW) (hu : Rt u.f0 u.f1) (hv : Rt v.f0 v.f1) (hw : Rt w.f0 w.f1) : Ev (fun k => ropewayref04_Join.f k [u, v, w]) (joinL (0, 0) [u, v, w]) := by
  have h := ref_Join_l0 [u, v, w] (by simp) (by intro x hx; simp at hx; rcases hx with rfl | rfl | rfl <;> assumption) 3 0 (fun _ => false) (fun _ => false) (by simp) (by simp)
  rw [List.drop_zero, any3 (·.f0) u v w ⟨hu.1, hu.2.1⟩ ⟨hv.1, hv.2.1⟩ ⟨hw.1, hw.2.1⟩, any3 (·.f1) u v w ⟨hu.2.2.1, hu.2.2.2⟩ ⟨hv.2.2.1, hv.2.2.2⟩ ⟨hw.2.2.1, hw.2.2.2⟩] at h
  exact h
theorem ref_Minus_l0 (a d b e : Int) (ha : Rt a d) (hb : Rt b e) (m : Nat) : ∀ (i : Nat) (f g : Nat → Bool), 6 - i = m → i ≤ 6 →
    (∀ j, j < 6 → f j = (decide (j < i) && (bitB a (j : Int) && !bitB b (j : Int)))) → (∀ j, j < 6 → g j = (decide (j < i) && (bitB d (j : Int) && !bitB e (j : Int)))) →
    Ev (fun k => ropewayref04_Minus.l0 k (i : Int) a d b e (f 0) (f 1) (f 2) (f 3) (f 4) (f 5) (g 0) (g 1) (g 2) (g 3) (g 4) (g 5)) (aB a b, aB d e) := by
  induction m with
  | zero =>
    intro i f g hm hi hf hg
    obtain rfl : i = 6 := by omega
    refine Ev.succ ?_
    simp only [ropewayref04_Minus.l0]
    refine Ev.ite_neg (by decide) ?_
    refine Ev.bind (set_ev f g) (Ev.all fun k => ?_)
    rw [← (toN_ops (x := a) (y := b) ⟨ha.1, ha.2.1⟩ ⟨hb.1, hb.2.1⟩).2, ← (toN_ops (x := d) (y := e) ⟨ha.2.2.1, ha.2.2.2⟩ ⟨hb.2.2.1, hb.2.2.2⟩).2,
      toN_congr (p := f) (q := fun j => bitB a (j : Int) && !bitB b (j : Int)) (fun j hj => by rw [hf j hj, decide_eq_true hj, Bool.true_and]),
      toN_congr (p := g) (q := fun j => bitB d (j : Int) && !bitB e (j : Int)) (fun j hj => by rw [hg j hj, decide_eq_true hj, Bool.true_and])]
  | succ m ih =>
    intro i f g hm hi hf hg
    have hlt : i < 6 := by omega
    have nx : ∀ (h : Nat → Bool) (x y : Int) (v : Bool), (∀ j, j < 6 → h j = (decide (j < i) && (bitB x (j : Int) && !bitB y (j : Int)))) → v = (bitB x (i : Int) && !bitB y (i : Int)) → ∀ j, j < 6 → up h (i : Int) v j = (decide (j < i + 1) && (bitB x (j : Int) && !bitB y (j : Int))) := by
      intro h x y v hh hv j hj
      rw [up_at]
      by_cases e : i = j
      · subst e; rw [if_pos rfl, hv, decide_eq_true (by omega), Bool.true_and]
      · rw [if_neg e, hh j hj]
        by_cases z : j < i
        · rw [decide_eq_true z, decide_eq_true (by omega)]
        · rw [decide_eq_false z, decide_eq_false (by omega)]
    have go : ∀ v w : Bool, v = (bitB a (i : Int) && !bitB b (i : Int)) → w = (bitB d (i : Int) && !bitB e (i : Int)) → Ev (fun k => ropewayref04_Minus.l0 k ((i + 1 : Nat) : Int) a d b e (up f (i : Int) v 0) (up f (i : Int) v 1) (up f (i : Int) v 2) (up f (i : Int) v 3) (up f (i : Int) v 4) (up f (i : Int) v 5) (up g (i : Int) w 0) (up g (i : Int) w 1) (up g (i : Int) w 2) (up g (i : Int) w 3) (up g (i : Int) w 4) (up g (i : Int) w 5)) (aB a b, aB d e) :=
      fun v w hv hw => ih (i + 1) (up f (i : Int) v) (up g (i : Int) w) (by omega) (by omega) (nx f a b v hf hv) (nx g d e w hg hw)
    refine Ev.succ ?_
    simp only [ropewayref04_Minus.l0]
    refine Ev.ite_pos (by omega) ?_
    refine Ev.bind (ref_Has_ev ha (by omega) (by omega)) ?_
    refine Ev.bind (ref_Has_ev hb (by omega) (by omega)) ?_
    rw [wrap_nat (by omega)]
    refine Ev.ite (fun (h1 : bitB a i = true) => Ev.ite_pos (by omega) (Ev.ite (fun (h2 : bitB d i = true) => ?_) (fun (h2 : ¬ bitB d i = true) => ?_))) (fun (h1 : ¬ bitB a i = true) => Ev.ite_pos (by omega) (Ev.ite (fun (h2 : bitB d i = true) => ?_) (fun (h2 : ¬ bitB d i = true) => ?_)))
    · exact go (!bitB b i) (!bitB e i) (by rw [h1]; rfl) (by rw [h2]; rfl)
    · exact go (!bitB b i) false (by rw [h1]; rfl) (by rw [Bool.eq_false_iff.2 h2]; rfl)
    · exact go false (!bitB e i) (by rw [Bool.eq_false_iff.2 h1]; rfl) (by rw [h2]; rfl)
    · exact go false false (by rw [Bool.eq_false_iff.2 h1]; rfl) (by rw [Bool.eq_false_iff.2 h2]; rfl)
theorem ref_Minus_ev {a d b e : Int} (ha : Rt a d) (hb : Rt b e) : Ev (fun k => ropewayref04_Minus.f k a d b e) (aB a b, aB d e) :=
  ref_Minus_l0 a d b e ha hb 6 0 (fun _ => false) (fun _ => false) (by omega) (by omega) (fun j hj => by simp) (fun j hj => by simp)
def cnt (x : Int) : Nat → Int
  | 0 => 0
  | m + 1 => (if bitB x (5 - (m : Int)) = true then 1 else 0) + cnt x m
theorem cnt_pc {x : Int} (h0 : 0 ≤ x) (h1 : x < 64) : cnt x 6 = pc x := set1 (fun x => cnt x 6 = pc x) (by decide +kernel) h0 h1
theorem ref_Size_l0 (a d : Int) (ha : Rt a d) (m : Nat) : ∀ (i : Nat) (n : Int), 6 - i = m → i ≤ 6 → 0 ≤ n → n + 2 * (m : Int) ≤ 100 →
    Ev (fun k => ropewayref04_Size.l0 k n (i : Int) a d) (n + cnt a m + cnt d m) := by
  induction m with
  | zero =>
    intro i n hm hi h0 h1
    obtain rfl : i = 6 := by omega
    refine Ev.const fun k => ?_
    simp only [ropewayref04_Size.l0]
    rw [if_neg (by decide)]
    simp [cnt]
  | succ m ih =>
    intro i n hm hi h0 h1
    have e : (5 - (m : Int)) = (i : Int) := by omega
    simp only [cnt]
    rw [e]
    have w1 : wrap64 (n + 1) = n + 1 := wrap_in (by omega) (by omega)
    have w2 : wrap64 (n + 1 + 1) = n + 1 + 1 := wrap_in (by omega) (by omega)
    have go : ∀ n' r : Int, 0 ≤ n' → n' ≤ n + 2 → n' + cnt a m + cnt d m = r → Ev (fun k => ropewayref04_Size.l0 k n' ((i + 1 : Nat) : Int) a d) r := by
      intro n' r h2 h3 h4
      rw [← h4]
      exact ih (i + 1) n' (by omega) (by omega) h2 (by omega)
    refine Ev.succ ?_
    simp only [ropewayref04_Size.l0]
    refine Ev.ite_pos (by omega) ?_
    refine Ev.bind (ref_Has_ev ha (by omega) (by omega)) ?_
    rw [wrap_nat (by omega), w1, w2]
    refine Ev.ite (fun (h1 : bitB a i = true) => Ev.ite (fun (h2 : bitB d i = true) => ?_) (fun (h2 : ¬ bitB d i = true) => ?_)) (fun (h1 : ¬ bitB a i = true) => Ev.ite (fun (h2 : bitB d i = true) => ?_) (fun (h2 : ¬ bitB d i = true) => ?_))
    · rw [if_pos h1, if_pos h2]; exact go _ _ (by omega) (by omega) (by omega)
    · rw [if_pos h1, if_neg h2]; exact go _ _ (by omega) (by omega) (by omega)
    · rw [if_neg h1, if_pos h2]; exact go _ _ (by omega) (by omega) (by omega)
    · rw [if_neg h1, if_neg h2]; exact go _ _ (by omega) (by omega) (by omega)
theorem ref_Right_eq (a d : Int) : ropewayref04_Right.f a d = some (decide (0 ≤ a ∧ a < 64 ∧ 0 ≤ d ∧ d < 64)) := by
  unfold ropewayref04_Right.f
  by_cases h1 : a ≥ 0
  · rw [if_pos h1]
    by_cases h2 : a ≤ 63
    · rw [if_pos h2]
      by_cases h3 : d ≥ 0
      · rw [if_pos h3, Option.some.injEq, decide_eq_decide]; omega
      · rw [if_neg h3, decide_eq_false (by omega)]
    · rw [if_neg h2, decide_eq_false (by omega)]
  · rw [if_neg h1, decide_eq_false (by omega)]
instance (a d : Int) : Decidable (Rt a d) := by unfold Rt; infer_instance
theorem ChangeJoins : ropewaylaw04_ChangeJoins.Pure := by
  intro a d b e c g _ _ _ _ _ _
  have alive : Ev (fun k => ropewaylaw04_changeAlive.f k) true := Ev.closed ropewaylaw04_changeAlive.mono 40 (by decide +kernel)
  have jt : Ev (fun k => ropewaylaw04_ChangeJoins.j1 k true a d b e c g) true := Ev.const fun k => by simp only [ropewaylaw04_ChangeJoins.j1]; rfl
  have hall : Ev (fun k => ropewaylaw04_ChangeJoins.f k a d b e c g) true := by
    unfold ropewaylaw04_ChangeJoins.f
    refine Ev.bind alive (Ev.ite_pos rfl ?_)
    refine Ev.bind_all (right_eq a d) ?_
    refine Ev.bind_all (ref_Right_eq a d) ?_
    rw [show (decide (0 ≤ a ∧ a < 64 ∧ 0 ≤ d ∧ d < 64) != decide (0 ≤ a ∧ a < 64 ∧ 0 ≤ d ∧ d < 64)) = false by simp]
    refine Ev.succ ?_
    simp only [ropewaylaw04_ChangeJoins.j0]
    refine Ev.ite_neg (by simp) ?_
    refine Ev.bind_all (ref_Right_eq a d) ?_
    by_cases h1 : Rt a d
    · refine Ev.ite_pos (decide_eq_true h1) ?_
      refine Ev.bind_all (ref_Right_eq b e) ?_
      by_cases h2 : Rt b e
      · refine Ev.ite_pos (decide_eq_true h2) ?_
        refine Ev.bind_all (ref_Right_eq c g) ?_
        by_cases h3 : Rt c g
        · rw [show decide (0 ≤ c ∧ c < 64 ∧ 0 ≤ g ∧ g < 64) = true from decide_eq_true h3]
          refine Ev.succ ?_
          simp only [ropewaylaw04_ChangeJoins.j1]
          refine Ev.ite_neg (by simp) ?_
          refine Ev.bind_all rfl ?_
          refine Ev.bind (change_Join_ev [(⟨a, d⟩ : VW), ⟨b, e⟩, ⟨c, g⟩] (by simp)) ?_
          refine Ev.bind (ref_Join_three ⟨a, d⟩ ⟨b, e⟩ ⟨c, g⟩ h1 h2 h3) ?_
          refine Ev.ite_pos (by simp) ?_
          refine Ev.bind_all (show change_Minus.f a d b e = some (aB a b, aB d e) from rfl) ?_
          refine Ev.bind (ref_Minus_ev h1 h2) ?_
          refine Ev.ite_pos (by simp) ?_
          refine Ev.bind_all (show change_Within.f a d b e = some (aB a b == 0 && (aB d e == 0)) from rfl) ?_
          refine Ev.bind (a := (aB a b == 0 && (aB d e == 0))) ?_ ?_
          · unfold ropewayref04_Within.f
            exact Ev.bind (ref_Minus_ev h1 h2) (Ev.all fun k => rfl)
          refine Ev.ite_pos (by simp) ?_
          refine Ev.bind_all (size_eq h1.1 h1.2.1 h1.2.2.1 h1.2.2.2) ?_
          refine Ev.bind (ref_Size_l0 a d h1 6 0 0 (by omega) (by omega) (by omega) (by omega)) ?_
          rw [cnt_pc h1.1 h1.2.1, cnt_pc h1.2.2.1 h1.2.2.2]
          refine Ev.ite_pos (by omega) ?_
          refine Ev.bind_all (name_eq h1.1 h1.2.1 h1.2.2.1 h1.2.2.2) ?_
          refine Ev.bind_all (show ropewayref04_Name.f a d = some (a * 64 + d) from ?_) (Ev.all fun k => by simp)
          unfold ropewayref04_Name.f
          obtain ⟨a0, a1, d0, d1⟩ := h1
          rw [wrap_in (x := 64 * a) (by omega) (by omega), wrap_in (by omega) (by omega), Int.mul_comm]
        · rw [show decide (0 ≤ c ∧ c < 64 ∧ 0 ≤ g ∧ g < 64) = false from decide_eq_false h3]; exact jt
      · refine Ev.ite_neg ?_ jt
        intro z; exact h2 (of_decide_eq_true z)
    · refine Ev.ite_neg ?_ jt
      intro z; exact h1 (of_decide_eq_true z)
  exact hall.rounds

end Go.Proofs.Ytbnhgckdplndfaa.Pure
