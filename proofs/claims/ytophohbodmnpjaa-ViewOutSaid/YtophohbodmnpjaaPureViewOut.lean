/- The pure statement of the law ViewOut: whoever is removed is in no view that holds this one, whatever is added; and if all views are alike, the last one holds all; for every input. -/
import Derived.Test.YtophohbodmnpjaaPViewOutx
import Derived.Test.YtophohbodmnpjaaXPure
import Derived.Test.YtophohbodmnpjaaXOpen
namespace Go.Proofs.Ytophohbodmnpjaa.Pure
open Go.RowKit Go.Proofs.Ytophohbodmnpjaa.PViewOut Go.Proofs.YtophohbodmnpjaaW.PrintWords Go.Proofs.YtophohbodmnpjaaW.PrintLast Go.Proofs.YtophohbodmnpjaaW.PrintMore Go.Proofs.YtophohbodmnpjaaX
set_option linter.unusedVariables false
set_option linter.unusedSimpArgs false
abbrev V := S25
/-! sets of nodes: two numbers below 64 -/
def pc (a : Int) : Int := (bits_OnesCount.f (IntKind.u64.wrap a)).getD 0
theorem set1 (p : Int → Prop) [DecidablePred p] (h : ∀ a : Fin 64, p (a.val : Int)) {x : Int} (h0 : 0 ≤ x) (h1 : x < 64) : p x := by
  have := h ⟨x.toNat, by omega⟩
  simpa [Int.toNat_of_nonneg h0] using this
theorem set2 (p : Int → Int → Prop) (h : ∀ a b : Fin 64, p (a.val : Int) (b.val : Int)) {x y : Int} (h0 : 0 ≤ x) (h1 : x < 64) (h2 : 0 ≤ y) (h3 : y < 64) : p x y := by
  have := h ⟨x.toNat, by omega⟩ ⟨y.toNat, by omega⟩
  simpa [Int.toNat_of_nonneg h0, Int.toNat_of_nonneg h2] using this
theorem pc_some {x : Int} (h0 : 0 ≤ x) (h1 : x < 64) : bits_OnesCount.f (IntKind.u64.wrap x) = some (pc x) ∧ 0 ≤ pc x ∧ pc x ≤ 6 :=
  set1 (fun x => bits_OnesCount.f (IntKind.u64.wrap x) = some (pc x) ∧ 0 ≤ pc x ∧ pc x ≤ 6) (by decide +kernel) h0 h1
theorem size_eq {a d : Int} (a0 : 0 ≤ a) (a1 : a < 64) (d0 : 0 ≤ d) (d1 : d < 64) : change_Size.f a d = some (pc a + pc d) := by
  obtain ⟨ea, la, ua⟩ := pc_some a0 a1
  obtain ⟨ed, ld, ud⟩ := pc_some d0 d1
  unfold change_Size.f
  rw [ea, ed]
  simp only [Option.bind_some]
  rw [wrap_in (by omega) (by omega)]
theorem right_eq (a d : Int) : change_Right.f a d = some (decide (0 ≤ a ∧ a < 64 ∧ 0 ≤ d ∧ d < 64)) := by
  unfold change_Right.f
  (repeat' split) <;> simp_all <;> omega
theorem name_eq {a d : Int} (a0 : 0 ≤ a) (a1 : a < 64) (d0 : 0 ≤ d) (d1 : d < 64) : change_Name.f a d = some (a * 64 + d) := by
  unfold change_Name.f
  rw [wrap_in (x := a * 64) (by omega) (by omega), wrap_in (by omega) (by omega)]

/-! change.Join, Minus: or, and-not of two numbers below 64 -/
def oB (x y : Int) : Int := Go.bits .or .i64 x y
def aB (x y : Int) : Int := Go.bits .andNot .i64 x y
def In64 (x : Int) : Prop := 0 ≤ x ∧ x < 64
theorem pairs {x y : Int} (hx : In64 x) (hy : In64 y) : (0 ≤ oB x y ∧ oB x y < 64) ∧ (0 ≤ aB x y ∧ aB x y < 64) ∧ oB x y = ((x.toNat ||| y.toNat : Nat) : Int) ∧ (aB x y = 0 ↔ oB x y = y) ∧ oB (aB x y) y = oB x y ∧ aB (aB x y) y = aB x y ∧ pc (oB x y) = pc y + pc (aB x y) :=
  set2 (fun x y => (0 ≤ oB x y ∧ oB x y < 64) ∧ (0 ≤ aB x y ∧ aB x y < 64) ∧ oB x y = ((x.toNat ||| y.toNat : Nat) : Int) ∧ (aB x y = 0 ↔ oB x y = y) ∧ oB (aB x y) y = oB x y ∧ aB (aB x y) y = aB x y ∧ pc (oB x y) = pc y + pc (aB x y)) (by decide +kernel) hx.1 hx.2 hy.1 hy.2
theorem oB_in {x y : Int} (hx : In64 x) (hy : In64 y) : In64 (oB x y) := (pairs hx hy).1
theorem aB_in {x y : Int} (hx : In64 x) (hy : In64 y) : In64 (aB x y) := (pairs hx hy).2.1
theorem oB_nat {x y : Int} (hx : In64 x) (hy : In64 y) : oB x y = ((x.toNat ||| y.toNat : Nat) : Int) := (pairs hx hy).2.2.1
theorem in0 : In64 0 := ⟨by decide, by decide⟩
theorem oB_zero {x : Int} (hx : In64 x) : oB 0 x = x := by
  rw [oB_nat in0 hx]; have := hx.1; simp; omega
theorem oB_comm {x y : Int} (hx : In64 x) (hy : In64 y) : oB x y = oB y x := by
  rw [oB_nat hx hy, oB_nat hy hx, Nat.or_comm]
theorem oB_self {x : Int} (hx : In64 x) : oB x x = x := by
  rw [oB_nat hx hx, Nat.or_self]; have := hx.1; simp; omega
theorem oB_assoc {x y z : Int} (hx : In64 x) (hy : In64 y) (hz : In64 z) : oB (oB x y) z = oB x (oB y z) := by
  rw [oB_nat (oB_in hx hy) hz, oB_nat hx (oB_in hy hz), oB_nat hx hy, oB_nat hy hz, Int.toNat_natCast, Int.toNat_natCast, Nat.or_assoc]

/-! change.Join -/
def joinL (m : Int × Int) (l : List S25) : Int × Int := l.foldl (fun m v => (oB m.1 v.f0, oB m.2 v.f1)) m
theorem change_Join_l0 (xs : List S25) (hn : xs.length < 4611686018427387904) (d : Nat) : ∀ (i : Nat) (m : Int × Int), xs.length - i = d → i ≤ xs.length →
    Ev (fun k => change_Join.l0 k xs (xs.length : Int) (i : Int) m.1 m.2) (joinL m (xs.drop i)) := by
  induction d with
  | zero =>
    intro i m hd hi
    refine Ev.const fun k => ?_
    simp only [change_Join.l0]
    rw [if_neg (by omega), List.drop_eq_nil_of_le (by omega)]
    rfl
  | succ d ih =>
    intro i m hd hi
    have hlt : i < xs.length := by omega
    rw [drop_cons hlt z25]
    refine Ev.step' (ih (i + 1) (oB m.1 (rd_T25 xs i).f0, oB m.2 (rd_T25 xs i).f1) (by omega) (by omega)) fun k => ?_
    simp only [change_Join.l0]
    rw [if_pos (by omega), if_pos (by omega), if_pos (by omega), wrap_nat (by omega)]
    rfl
theorem change_Join_ev (xs : List S25) (hn : xs.length < 4611686018427387904) : Ev (fun k => change_Join.f k xs) (joinL (0, 0) xs) := change_Join_l0 xs hn xs.length 0 (0, 0) (by omega) (by omega)

/-! the order of views -/
def kS (v : V) : Int := (change_Size.f v.f0 v.f1).getD 0
def kN (v : V) : Int := wrap64 (wrap64 (v.f0 * 64) + v.f1)
theorem oc64_some (a : Int) : ∃ r, bits_OnesCount64.f a = some r := ⟨_, rfl⟩
theorem oc_some (a : Int) : ∃ r, bits_OnesCount.f a = some r := by
  obtain ⟨r, h⟩ := oc64_some a
  exact ⟨r, by unfold bits_OnesCount.f; rw [h]; rfl⟩
theorem kS_some (v : V) : change_Size.f v.f0 v.f1 = some (kS v) := by
  obtain ⟨r, h⟩ := oc_some (IntKind.u64.wrap v.f0)
  obtain ⟨q, k⟩ := oc_some (IntKind.u64.wrap v.f1)
  have e : change_Size.f v.f0 v.f1 = some (wrap64 (r + q)) := by
    unfold change_Size.f
    rw [h, k]; rfl
  unfold kS
  rw [e]; rfl
def vlt (a b : V) : Bool := decide (kS a < kS b ∨ kS a = kS b ∧ kN a < kN b)
theorem vlt_iff (a b : V) : vlt a b = true ↔ (kS a < kS b ∨ kS a = kS b ∧ kN a < kN b) := decide_eq_true_iff
theorem compare_int (a b : Int) : cmp_Compare_int.f a b = some (if a < b then -1 else if a > b then 1 else 0) := by
  unfold cmp_Compare_int.f cmp_isNaN_int.f
  (repeat' split) <;> simp_all
theorem or_int (a b : Int) : Ev (fun k => cmp_Or_int.f k [a, b]) (if a = 0 then b else a) := by
  have r0 : rd [a, b] 0 = a := rfl
  have r1 : rd [a, b] 1 = b := rfl
  have v0 : wrap64 (0 + 1) = 1 := by unfold wrap64; omega
  have v1 : wrap64 (1 + 1) = 2 := by unfold wrap64; omega
  have e2 : b = 0 → Ev (fun k => cmp_Or_int.l0 k 0 [a, b] 2 2) b := fun h => Ev.const fun k => by
    simp only [cmp_Or_int.l0]
    rw [if_neg (by decide), h]
  have e1 : Ev (fun k => cmp_Or_int.l0 k 0 [a, b] 2 1) b := by
    refine Ev.succ ?_
    simp only [cmp_Or_int.l0]
    rw [r1, v1]
    refine Ev.ite_pos (by decide) (Ev.ite_pos (by decide) (Ev.ite_pos (by simp) ?_))
    refine Ev.ite (fun h => ?_) (fun h => Ev.all fun k => rfl)
    exact e2 h
  show Ev (fun k => cmp_Or_int.l0 k 0 [a, b] 2 0) _
  refine Ev.succ ?_
  simp only [cmp_Or_int.l0]
  rw [r0, v0]
  refine Ev.ite_pos (by decide) (Ev.ite_pos (by decide) (Ev.ite_pos (by simp) ?_))
  by_cases h : a = 0
  · rw [if_pos h]; exact Ev.ite_pos h e1
  · rw [if_neg h]; exact Ev.ite_neg h (Ev.all fun k => rfl)
theorem name_some (v : V) : change_Name.f v.f0 v.f1 = some (kN v) := rfl
theorem view_compare_ev (a b : V) : ∃ c : Int, Ev (fun k => view_compare.f k a.f0 a.f1 b.f0 b.f1) c ∧ (c < 0 ↔ vlt a b = true) := by
  refine ⟨if (if kS a < kS b then -1 else if kS a > kS b then 1 else 0 : Int) = 0 then (if kN a < kN b then -1 else if kN a > kN b then 1 else 0) else (if kS a < kS b then -1 else if kS a > kS b then 1 else 0), ?_, ?_⟩
  · unfold view_compare.f
    refine Ev.bind_all (kS_some a) (Ev.bind_all (kS_some b) (Ev.bind_all (compare_int _ _) ?_))
    refine Ev.bind_all (name_some a) (Ev.bind_all (name_some b) (Ev.bind_all (compare_int _ _) ?_))
    exact Ev.bind (or_int _ _) (Ev.all fun k => rfl)
  · rw [vlt_iff]
    (repeat' split) <;> omega
theorem view_Less_ev (a b : V) : Ev (fun k => view_Less.f k a.f0 a.f1 b.f0 b.f1) (vlt a b) := by
  obtain ⟨c, hc, h⟩ := view_compare_ev a b
  unfold view_Less.f
  refine Ev.bind hc (Ev.all fun k => ?_)
  congr 1
  rw [Bool.eq_iff_iff, decide_eq_true_iff, h]
def RtV (v : V) : Prop := 0 ≤ v.f0 ∧ v.f0 < 64 ∧ 0 ≤ v.f1 ∧ v.f1 < 64
theorem kS_right {v : V} (h : RtV v) : kS v = pc v.f0 + pc v.f1 := by
  have := size_eq h.1 h.2.1 h.2.2.1 h.2.2.2
  rw [kS_some] at this
  exact Option.some.inj this
theorem kN_right {v : V} (h : RtV v) : kN v = v.f0 * 64 + v.f1 := by
  have := name_eq h.1 h.2.1 h.2.2.1 h.2.2.2
  rw [name_some] at this
  exact Option.some.inj this
theorem vlt_total {a b : V} (ha : RtV a) (hb : RtV b) (h : vlt a b = false) (k : a ≠ b) : vlt b a = true := by
  rw [vlt_iff]
  have h' := mt (vlt_iff a b).2 (by simp [h])
  rw [kN_right ha, kN_right hb] at *
  by_cases e : a.f0 * 64 + a.f1 = b.f0 * 64 + b.f1
  · exfalso
    apply k
    obtain ⟨a0, a1, a2, a3⟩ := ha
    obtain ⟨b0, b1, b2, b3⟩ := hb
    cases a; cases b
    simp only at *
    congr 1 <;> omega
  · omega

/-! views: who is a member, how many are enough -/
def bitB (x n : Int) : Bool := x / 2 ^ n.toNat % 2 == 1
def mem (a d n : Int) : Bool := decide (0 ≤ n ∧ n < 6) && (bitB a n && !bitB d n)
def Rt (a d : Int) : Prop := 0 ≤ a ∧ a < 64 ∧ 0 ≤ d ∧ d < 64
theorem bit_fin (p : Int → Int → Prop) (h : ∀ (a : Fin 64) (n : Fin 6), p (a.val : Int) (n.val : Int)) {x n : Int} (h0 : 0 ≤ x) (h1 : x < 64) (h2 : 0 ≤ n) (h3 : n < 6) : p x n := by
  have := h ⟨x.toNat, by omega⟩ ⟨n.toNat, by omega⟩
  simpa [Int.toNat_of_nonneg h0, Int.toNat_of_nonneg h2] using this
theorem shr_bit {x n : Int} (h0 : 0 ≤ x) (h1 : x < 64) (h2 : 0 ≤ n) (h3 : n < 6) : Go.bits .and .i64 (shr .i64 x n) 1 = if bitB x n then 1 else 0 :=
  bit_fin (fun x n => Go.bits .and .i64 (shr .i64 x n) 1 = if bitB x n then 1 else 0) (by decide +kernel) h0 h1 h2 h3
theorem view_In_eq {a d : Int} (h : Rt a d) (n : Int) : view_In.f a d n = some (mem a d n) := by
  obtain ⟨a0, a1, d0, d1⟩ := h
  unfold view_In.f mem
  by_cases h0 : n ≥ 0
  · by_cases h1 : n < 6
    · rw [if_pos h0, if_pos h1, if_pos h0, shr_bit a0 a1 h0 h1, shr_bit d0 d1 h0 h1]
      cases bitB a n <;> cases bitB d n <;> simp [h0, h1]
    · rw [if_pos h0, if_neg h1]; simp [h1]
  · rw [if_neg h0]; simp [h0]
def six : List Int := [0, 1, 2, 3, 4, 5]
def members (a d : Int) : List Int := six.filter (mem a d)
theorem six_len : six.length = 6 := rfl
theorem six_get {i : Nat} (h : i < 6) : six.drop i = (i : Int) :: six.drop (i + 1) := by
  rcases (show i = 0 ∨ i = 1 ∨ i = 2 ∨ i = 3 ∨ i = 4 ∨ i = 5 by omega) with rfl | rfl | rfl | rfl | rfl | rfl <;> rfl
theorem view_Members_l0 {a d : Int} (h : Rt a d) (m : Nat) : ∀ (i : Nat) (acc : List Int), 6 - i = m → i ≤ 6 → acc.length ≤ i → Ev (fun k => view_Members.l0 k acc (i : Int) a d) (acc ++ (six.drop i).filter (mem a d)) := by
  induction m with
  | zero =>
    intro i acc hm hi hl
    obtain rfl : i = 6 := by omega
    refine Ev.const fun k => ?_
    simp only [view_Members.l0]
    rw [if_neg (by decide)]
    simp [six]
  | succ m ih =>
    intro i acc hm hi hl
    have hlt : i < 6 := by omega
    rw [six_get hlt]
    cases hb : mem a d i
    · rw [List.filter_cons_of_neg (by simp [hb])]
      refine Ev.step' (ih (i + 1) acc (by omega) (by omega) (by omega)) fun k => ?_
      simp only [view_Members.l0]
      rw [if_pos (by omega), view_In_eq h, hb]
      simp only [Option.bind_some, Bool.false_eq_true, if_false]
      rw [wrap_nat (by omega)]
    · rw [List.filter_cons_of_pos hb]
      have := ih (i + 1) (acc ++ [(i : Int)]) (by omega) (by omega) (by simp; omega)
      rw [List.append_assoc] at this
      refine Ev.step' this fun k => ?_
      simp only [view_Members.l0]
      rw [if_pos (by omega), view_In_eq h, hb]
      simp only [Option.bind_some, if_true]
      rw [if_pos (by omega), wrap_nat (by omega)]
theorem view_Members_ev {a d : Int} (h : Rt a d) : Ev (fun k => view_Members.f k a d) (members a d) := view_Members_l0 h 6 0 [] rfl (by omega) (by simp)
theorem members_len (a d : Int) : (members a d).length ≤ 6 := List.length_filter_le _ _
theorem mem_members {a d n : Int} : n ∈ members a d ↔ mem a d n = true := by
  unfold members
  rw [List.mem_filter]
  constructor
  · exact fun h => h.2
  · intro h
    refine ⟨?_, h⟩
    have : 0 ≤ n ∧ n < 6 := by unfold mem at h; simp at h; exact h.1
    rcases (show n = 0 ∨ n = 1 ∨ n = 2 ∨ n = 3 ∨ n = 4 ∨ n = 5 by omega) with rfl | rfl | rfl | rfl | rfl | rfl <;> simp [six]
theorem slices_Index_l0 (xs : List Int) (x : Int) (hn : xs.length < 4611686018427387904) (m : Nat) : ∀ (i : Nat), xs.length - i = m → i ≤ xs.length → ∃ r, Ev (fun k => slices_Index_int_int.l0 k xs x (xs.length : Int) (i : Int)) r ∧ (0 ≤ r ↔ x ∈ xs.drop i) := by
  induction m with
  | zero =>
    intro i hm hi
    refine ⟨-1, Ev.const fun k => ?_, ?_⟩
    · simp only [slices_Index_int_int.l0]; rw [if_neg (by omega)]
    · rw [List.drop_eq_nil_of_le (by omega)]; simp
  | succ m ih =>
    intro i hm hi
    have hlt : i < xs.length := by omega
    rw [drop_cons hlt 0]
    by_cases hx : x = xs.getD i 0
    · refine ⟨i, Ev.const fun k => ?_, ?_⟩
      · simp only [slices_Index_int_int.l0]
        rw [if_pos (by omega), if_pos (by omega), if_pos (by omega), if_pos (show x = rd xs i from hx)]
      · simp [hx]
    · obtain ⟨r, hr, hm2⟩ := ih (i + 1) (by omega) (by omega)
      refine ⟨r, Ev.step' hr fun k => ?_, ?_⟩
      · simp only [slices_Index_int_int.l0]
        rw [if_pos (by omega), if_pos (by omega), if_pos (by omega), if_neg (show ¬ x = rd xs i from hx), wrap_nat (by omega)]
      · rw [hm2, List.mem_cons]
        exact ⟨fun h => .inr h, fun h => h.elim (fun e => absurd e hx) id⟩
theorem slices_Contains_ev (xs : List Int) (x : Int) (hn : xs.length < 4611686018427387904) : Ev (fun k => slices_Contains_int_int.f k xs x) (decide (x ∈ xs)) := by
  obtain ⟨r, hr, hm⟩ := slices_Index_l0 xs x hn xs.length 0 (by omega) (by omega)
  unfold slices_Contains_int_int.f
  refine Ev.bind (a := r) hr (Ev.all fun k => ?_)
  rw [Option.some.injEq, decide_eq_decide]
  exact hm
def hits (who l : List Int) : Nat := (l.filter (fun m => decide (m ∈ who))).length
theorem hits_le (who l : List Int) : hits who l ≤ l.length := List.length_filter_le _ _
def enough (a d : Int) (who : List Int) : Bool := decide (2 * hits who (members a d) > (members a d).length)
theorem view_Enough_l0 (who l l0 : List Int) (hn : who.length < 4611686018427387904) (hl : l.length ≤ 6) (m : Nat) : ∀ (i n : Nat), l.length - i = m → i ≤ l.length → n ≤ i → Ev (fun k => view_Enough.l0 k who l0 (n : Int) l (l.length : Int) (i : Int)) (decide (2 * ((n + hits who (l.drop i) : Nat) : Int) > (l0.length : Int))) := by
  induction m with
  | zero =>
    intro i n hm hi hni
    refine Ev.const fun k => ?_
    simp only [view_Enough.l0]
    rw [if_neg (by omega), List.drop_eq_nil_of_le (by omega), wrap_in (by omega) (by omega)]
    simp [hits]
  | succ m ih =>
    intro i n hm hi hni
    have hlt : i < l.length := by omega
    rw [drop_cons hlt 0]
    refine Ev.step' (f := fun k => ((slices_Contains_int_int.f k who (rd l i)).bind fun t116 => (if t116 = true then (view_Enough.l0 k who l0 (wrap64 ((n : Int) + 1)) l (l.length : Int) (wrap64 ((i : Int) + 1))) else (view_Enough.l0 k who l0 (n : Int) l (l.length : Int) (wrap64 ((i : Int) + 1)))))) ?_ (fun k => by
      simp only [view_Enough.l0]
      rw [if_pos (by omega), if_pos (by omega), if_pos (by omega)])
    refine Ev.bind (slices_Contains_ev who _ hn) ?_
    rw [wrap_nat (show i < 4611686018427387904 by omega), wrap_nat (show n < 4611686018427387904 by omega)]
    have e : rd l i = l.getD i 0 := rfl
    rw [e]
    by_cases hw : l.getD i 0 ∈ who
    · refine Ev.ite_pos (decide_eq_true hw) ?_
      have := ih (i + 1) (n + 1) (by omega) (by omega) (by omega)
      have eh : hits who (l.getD i 0 :: l.drop (i + 1)) = hits who (l.drop (i + 1)) + 1 := by unfold hits; rw [List.filter_cons_of_pos (by simpa using hw)]; rfl
      rw [eh, show n + (hits who (l.drop (i + 1)) + 1) = n + 1 + hits who (l.drop (i + 1)) by omega]
      exact this
    · refine Ev.ite_neg (by simpa using hw) ?_
      have := ih (i + 1) n (by omega) (by omega) (by omega)
      have eh : hits who (l.getD i 0 :: l.drop (i + 1)) = hits who (l.drop (i + 1)) := by unfold hits; rw [List.filter_cons_of_neg (by simpa using hw)]
      rw [eh]
      exact this
theorem view_Enough_ev {a d : Int} (h : Rt a d) (who : List Int) (hn : who.length < 4611686018427387904) : Ev (fun k => view_Enough.f k a d who) (enough a d who) := by
  unfold view_Enough.f
  refine Ev.bind (view_Members_ev h) ?_
  have := view_Enough_l0 who (members a d) (members a d) hn (members_len a d) (members a d).length 0 0 (by omega) (by omega) (by omega)
  have e : decide (2 * ((0 + hits who ((members a d).drop 0) : Nat) : Int) > ((members a d).length : Int)) = enough a d who := by
    unfold enough
    rw [decide_eq_decide, List.drop_zero]; omega
  rw [e] at this
  exact this

/-! is of any two one within the other? -/
theorem pc_zero {x : Int} (h : In64 x) : pc x = 0 ↔ x = 0 := set1 (fun x => pc x = 0 ↔ x = 0) (by decide +kernel) h.1 h.2
theorem pc_nonneg {x : Int} (h : In64 x) : 0 ≤ pc x := (pc_some h.1 h.2).2.1
theorem aB_zero {x y : Int} (hx : In64 x) (hy : In64 y) : aB x y = 0 ↔ oB x y = y := (pairs hx hy).2.2.2.1
theorem pc_or {x y : Int} (hx : In64 x) (hy : In64 y) : pc (oB x y) = pc y + pc (aB x y) := (pairs hx hy).2.2.2.2.2.2
theorem sub_trans {x y z : Int} (hx : In64 x) (hy : In64 y) (hz : In64 z) (h : aB x y = 0) (k : aB y z = 0) : aB x z = 0 := by
  rw [aB_zero hx hy] at h
  rw [aB_zero hy hz] at k
  rw [aB_zero hx hz, ← k, ← oB_assoc hx hy hz, h]
theorem sub_pc {x y : Int} (hx : In64 x) (hy : In64 y) (h : aB x y = 0) : pc x ≤ pc y ∧ (pc y ≤ pc x → x = y) := by
  rw [aB_zero hx hy] at h
  have e := pc_or hy hx
  rw [oB_comm hy hx, h] at e
  have n := pc_nonneg (aB_in hy hx)
  refine ⟨by omega, fun k => ?_⟩
  have z : aB y x = 0 := (pc_zero (aB_in hy hx)).1 (by omega)
  rw [aB_zero hy hx, oB_comm hy hx, h] at z
  exact z.symm
def wiP (x y : V) : Prop := aB x.f0 y.f0 = 0 ∧ aB x.f1 y.f1 = 0
theorem RtV.l {v : V} (h : RtV v) : In64 v.f0 := ⟨h.1, h.2.1⟩
theorem RtV.r {v : V} (h : RtV v) : In64 v.f1 := ⟨h.2.2.1, h.2.2.2⟩
theorem within_some (x y : V) : change_Within.f x.f0 x.f1 y.f0 y.f1 = some (aB x.f0 y.f0 == 0 && (aB x.f1 y.f1 == 0)) := rfl
theorem hv_wi_iff (x y : V) : hv_wi x y = true ↔ wiP x y := by
  unfold hv_wi wiP
  rw [within_some, Option.getD_some, Bool.and_eq_true, beq_iff_eq, beq_iff_eq]
theorem wiP_trans {x y z : V} (hx : RtV x) (hy : RtV y) (hz : RtV z) (h : wiP x y) (k : wiP y z) : wiP x z := ⟨sub_trans hx.l hy.l hz.l h.1 k.1, sub_trans hx.r hy.r hz.r h.2 k.2⟩
theorem wiP_refl {x : V} (hx : RtV x) : wiP x x := ⟨(aB_zero hx.l hx.l).2 (oB_self hx.l), (aB_zero hx.r hx.r).2 (oB_self hx.r)⟩
theorem wiP_size {x y : V} (hx : RtV x) (hy : RtV y) (h : wiP x y) : kS x ≤ kS y ∧ (kS y ≤ kS x → x = y) := by
  rw [kS_right hx, kS_right hy]
  have h1 := sub_pc hx.l hy.l h.1
  have h2 := sub_pc hx.r hy.r h.2
  refine ⟨by omega, fun k => ?_⟩
  have e1 := h1.2 (by omega)
  have e2 := h2.2 (by omega)
  cases x; cases y
  simp only at e1 e2
  rw [e1, e2]
def AlikeP (l : List V) : Prop := ∀ x ∈ l, ∀ y ∈ l, wiP x y ∨ wiP y x
/-- of two that are alike the one that does not go ahead holds the other -/
theorem wiP_of {x y : V} (hx : RtV x) (hy : RtV y) (h : wiP x y ∨ wiP y x) (k : vlt y x = false) : wiP x y := by
  rcases h with h | h
  · exact h
  · have h1 := wiP_size hy hx h
    have k' := mt (vlt_iff y x).2 (by simp [k])
    by_cases e : kS x ≤ kS y
    · rw [h1.2 e]; exact wiP_refl hx
    · exfalso; omega
theorem hv_S_eq (v : V) : hv_S v = kS v := rfl
theorem hv_N_eq (v : V) : hv_N v = kN v := rfl
theorem hv_vlt (x y : V) : ltOf hv_cf x y = vlt x y := by
  have h1 := hv_lt_iff x y
  rw [hv_S_eq, hv_S_eq, hv_N_eq, hv_N_eq] at h1
  rw [Bool.eq_iff_iff, vlt_iff]
  exact h1
theorem adj_iff (l : List V) (hR : ∀ v ∈ l, RtV v) : hv_adj (hv_pdq l.toArray) = true ↔ AlikeP l := by
  obtain ⟨hp, hs⟩ := Go.Sort.pdq_sorts (ltOf hv_cf) hv_swo l.toArray 0 l.toArray.size (Lib.bitLen l.toArray.size) true true (Nat.zero_le _) (Nat.le_refl _) (Or.inl rfl)
  have hsz : (hv_pdq l.toArray).size = l.length := by rw [hv_pdq_size]; simp
  have hp0 : (hv_pdq l.toArray).toList.Perm l := by
    have := hp.2.2
    have e1 : ((hv_pdq l.toArray).extract 0 l.toArray.size) = hv_pdq l.toArray := by
      rw [show l.toArray.size = (hv_pdq l.toArray).size by rw [hsz]; simp]
      exact Array.extract_size
    have e2 : l.toArray.extract 0 l.toArray.size = l.toArray := Array.extract_size
    rw [e2] at this
    have h3 : ((hv_pdq l.toArray).extract 0 l.toArray.size).toList.Perm l.toArray.toList := this
    rw [e1] at h3
    exact h3
  have hs0 : ∀ i j, i < j → j < l.length → vlt (hv_pdq l.toArray)[j]! (hv_pdq l.toArray)[i]! = false := by
    intro i j h1 h2
    have := hs i j (Nat.zero_le _) h1 (by simpa using h2)
    rw [hv_vlt] at this
    exact this
  generalize hv_pdq l.toArray = d at *
  have hmem : ∀ i, i < l.length → d[i]! ∈ l := by
    intro i hi
    refine hp0.mem_iff.1 ?_
    rw [getElem!_pos d i (by omega)]
    exact Array.getElem_mem_toList (by omega)
  have hof : ∀ x ∈ l, ∃ i, i < l.length ∧ d[i]! = x := by
    intro x hx
    have := hp0.mem_iff.2 hx
    obtain ⟨i, hi, e⟩ := List.getElem_of_mem this
    have hi' : i < d.size := by simpa using hi
    refine ⟨i, by omega, ?_⟩
    rw [getElem!_pos d i hi', ← e]; simp
  unfold hv_adj
  rw [decide_eq_true_iff, hsz]
  constructor
  · intro h
    have step : ∀ n i, i + n < l.length → wiP d[i]! d[i + n]! := by
      intro n
      induction n with
      | zero => intro i hi; exact wiP_refl (hR _ (hmem i hi))
      | succ n ih =>
        intro i hi
        have h1 := ih i (by omega)
        have h2 := h (i + n + 1) (by omega) (by omega)
        rw [Nat.add_sub_cancel, hv_wi_iff] at h2
        exact wiP_trans (hR _ (hmem i (by omega))) (hR _ (hmem (i + n) (by omega))) (hR _ (hmem (i + (n + 1)) (by omega))) h1 h2
    intro x hx y hy
    obtain ⟨i, hi, rfl⟩ := hof x hx
    obtain ⟨j, hj, rfl⟩ := hof y hy
    by_cases hij : i ≤ j
    · left
      have := step (j - i) i (by omega)
      rwa [show i + (j - i) = j by omega] at this
    · right
      have := step (i - j) j (by omega)
      rwa [show j + (i - j) = i by omega] at this
  · intro h j hj h1
    rw [hv_wi_iff]
    exact wiP_of (hR _ (hmem (j - 1) (by omega))) (hR _ (hmem j hj)) (h _ (hmem (j - 1) (by omega)) _ (hmem j hj)) (hs0 (j - 1) j (by omega) hj)
theorem view_Alike_eq (l : List V) (hl : l.length < 8796093022208) : view_Alike.f l = some (hv_adj (hv_pdq l.toArray)) := by
  unfold view_Alike.f
  rw [if_pos hl]
/-! view.Top: the last one -/
def topL : V → List V → V
  | m, [] => m
  | m, v :: l => topL (if vlt m v = true then v else m) l
theorem vlt_ntr {a b c : V} (h : vlt a b = false) (k : vlt b c = false) : vlt a c = false := by
  cases e : vlt a c
  · rfl
  · have h1 := mt (vlt_iff a b).2 (by simp [h])
    have h2 := mt (vlt_iff b c).2 (by simp [k])
    have h3 := (vlt_iff a c).1 e
    exfalso; omega
theorem vlt_asym {a b : V} (h : vlt a b = true) : vlt b a = false := by
  cases k : vlt b a
  · rfl
  · rw [vlt_iff] at h k; exfalso; omega
theorem vlt_irr (a : V) : vlt a a = false := by
  cases k : vlt a a
  · rfl
  · rw [vlt_iff] at k; exfalso; omega
theorem topL_spec (l : List V) : ∀ m, (topL m l = m ∨ topL m l ∈ l) ∧ vlt (topL m l) m = false ∧ ∀ v ∈ l, vlt (topL m l) v = false := by
  induction l with
  | nil => intro m; exact ⟨Or.inl rfl, vlt_irr m, fun v h => by cases h⟩
  | cons v l ih =>
    intro m
    simp only [topL]
    by_cases h : vlt m v = true
    · rw [if_pos h]
      obtain ⟨h1, h2, h3⟩ := ih v
      refine ⟨Or.inr ?_, vlt_ntr h2 (vlt_asym h), fun w hw => ?_⟩
      · rcases h1 with h1 | h1
        · rw [h1]; exact List.mem_cons_self ..
        · exact List.mem_cons_of_mem _ h1
      · rcases List.mem_cons.1 hw with rfl | hw
        · exact h2
        · exact h3 w hw
    · rw [if_neg h]
      obtain ⟨h1, h2, h3⟩ := ih m
      have h' : vlt m v = false := by simpa using h
      refine ⟨?_, h2, fun w hw => ?_⟩
      · rcases h1 with h1 | h1
        · exact Or.inl h1
        · exact Or.inr (List.mem_cons_of_mem _ h1)
      · rcases List.mem_cons.1 hw with rfl | hw
        · exact vlt_ntr h2 h'
        · exact h3 w hw
theorem compare_pos (a b : V) : ∃ c : Int, Ev (fun k => view_compare.f k a.f0 a.f1 b.f0 b.f1) c ∧ (c > 0 ↔ vlt b a = true) := by
  refine ⟨if (if kS a < kS b then -1 else if kS a > kS b then 1 else 0 : Int) = 0 then (if kN a < kN b then -1 else if kN a > kN b then 1 else 0) else (if kS a < kS b then -1 else if kS a > kS b then 1 else 0), ?_, ?_⟩
  · unfold view_compare.f
    refine Ev.bind_all (kS_some a) (Ev.bind_all (kS_some b) (Ev.bind_all (compare_int _ _) ?_))
    refine Ev.bind_all (name_some a) (Ev.bind_all (name_some b) (Ev.bind_all (compare_int _ _) ?_))
    exact Ev.bind (or_int _ _) (Ev.all fun k => rfl)
  · rw [vlt_iff]
    (repeat' split) <;> omega
theorem max_l0 (xs : List V) (hn : xs.length < 4611686018427387904) (d : Nat) : ∀ (i : Nat) (m : V), xs.length - i = d → i ≤ xs.length →
    Ev (fun k => api_View_45.l0 k xs (i : Int) m.f0 m.f1) ((topL m (xs.drop i)).f0, (topL m (xs.drop i)).f1) := by
  induction d with
  | zero =>
    intro i m hd hi
    refine Ev.const fun k => ?_
    simp only [api_View_45.l0]
    rw [if_neg (by omega), List.drop_eq_nil_of_le (by omega)]
    rfl
  | succ d ih =>
    intro i m hd hi
    have hlt : i < xs.length := by omega
    have e : rd_T25 xs i = xs.getD i z25 := rfl
    rw [drop_cons hlt z25]
    obtain ⟨c, hc, hs⟩ := compare_pos (xs.getD i z25) m
    refine Ev.succ ?_
    simp only [api_View_45.l0]
    rw [e, wrap_nat (by omega)]
    refine Ev.ite_pos (by omega) (Ev.ite_pos (by omega) (Ev.bind hc ?_))
    simp only [topL]
    by_cases h : vlt m (xs.getD i z25) = true
    · rw [if_pos h]
      exact Ev.ite_pos (hs.2 h) (ih (i + 1) _ (by omega) (by omega))
    · rw [if_neg h]
      exact Ev.ite_neg (fun k => h (hs.1 k)) (ih (i + 1) m (by omega) (by omega))
/-- of none the empty one, else the last -/
def topV : List V → V
  | [] => z25
  | v :: l => topL v l
theorem view_Top_ev (xs : List V) (hn : xs.length < 4611686018427387904) : Ev (fun k => view_Top.f k xs) ((topV xs).f0, (topV xs).f1) := by
  unfold view_Top.f
  cases xs with
  | nil => exact Ev.ite_pos rfl (Ev.all fun k => rfl)
  | cons v l =>
    refine Ev.ite_neg (by simp only [List.length_cons]; omega) ?_
    refine Ev.bind (a := ((topL v l).f0, (topL v l).f1)) ?_ (Ev.all fun k => rfl)
    unfold api_View_45.f
    refine Ev.ite_neg (by simp only [List.length_cons]; omega) (Ev.ite_pos (by simp only [List.length_cons]; omega) ?_)
    have e : rd_T25 (v :: l) 0 = v := rfl
    rw [e]
    have := max_l0 (v :: l) hn l.length 1 v (by simp) (by simp)
    exact this
theorem topV_mem {l : List V} (h : l ≠ []) : topV l ∈ l := by
  cases l with
  | nil => exact absurd rfl h
  | cons v l =>
    rcases (topL_spec l v).1 with k | k
    · show topL v l ∈ v :: l
      rw [k]; exact List.mem_cons_self ..
    · exact List.mem_cons_of_mem _ k
theorem topV_max {l : List V} : ∀ v ∈ l, vlt (topV l) v = false := by
  intro v hv
  cases l with
  | nil => cases hv
  | cons w l =>
    rcases List.mem_cons.1 hv with rfl | hv
    · exact (topL_spec l v).2.1
    · exact (topL_spec l w).2.2 v hv

theorem oB_within {x y : Int} (hx : In64 x) (hy : In64 y) : oB x (oB x y) = oB x y := by
  rw [← oB_assoc hx hx hy, oB_self hx]
theorem bit_sub {x y n : Int} (hx : In64 x) (hy : In64 y) (h0 : 0 ≤ n) (h1 : n < 6) (h : oB x y = y) (k : bitB x n = true) : bitB y n = true := by
  have hb : ∀ z : Int, In64 z → bitB z n = z.toNat.testBit n.toNat := fun z hz =>
    bit_fin (fun z n => bitB z n = z.toNat.testBit n.toNat) (by decide +kernel) hz.1 hz.2 h0 h1
  rw [hb x hx] at k
  rw [hb y hy]
  have e := oB_nat hx hy
  rw [h] at e
  have e2 : y.toNat = x.toNat ||| y.toNat := by omega
  rw [e2, Nat.testBit_or, k, Bool.true_or]
theorem ViewOut : ropewaylaw05_ViewOut.Pure := by
  intro a d l n _ _ ⟨_, ll, _⟩ _
  have alive : Ev (fun k => ropewaylaw05_viewAlive.f k) true := Ev.closed ropewaylaw05_viewAlive.mono 60 (by decide +kernel)
  have jt : Ev (fun k => ropewaylaw05_ViewOut.j0 k l n true a d) true := Ev.const fun k => by simp only [ropewaylaw05_ViewOut.j0]; rfl
  have hall : Ev (fun k => ropewaylaw05_ViewOut.f k a d l n) true := by
    unfold ropewaylaw05_ViewOut.f
    refine Ev.bind alive (Ev.ite_pos rfl ?_)
    refine Ev.bind_all (right_eq a d) ?_
    by_cases hr : 0 ≤ a ∧ a < 64 ∧ 0 ≤ d ∧ d < 64
    rotate_left
    · exact Ev.ite_neg (by simpa using hr) jt
    refine Ev.ite_pos (decide_eq_true hr) ?_
    by_cases hlen : (l.length : Int) > 30
    · rw [decide_eq_true hlen]; exact jt
    rw [decide_eq_false hlen]
    refine Ev.succ ?_
    simp only [ropewaylaw05_ViewOut.j0]
    refine Ev.ite_neg (by simp) ?_
    have hd : In64 d := ⟨hr.2.2.1, hr.2.2.2⟩
    have top : (∀ v ∈ l, RtV v) → Ev (fun k => (view_Alike.f l).bind fun t193 => (if t193 = true then (ropewaylaw05_ViewOut.j2 k l ((l.length : Int) == 0)) else (ropewaylaw05_ViewOut.j2 k l true))) true := by
      intro hR
      have j2t : Ev (fun k => ropewaylaw05_ViewOut.j2 k l true) true := Ev.const fun k => by simp only [ropewaylaw05_ViewOut.j2]; rfl
      refine Ev.bind_all (view_Alike_eq l (by omega)) ?_
      by_cases ha : hv_adj (hv_pdq l.toArray) = true
      rotate_left
      · exact Ev.ite_neg ha j2t
      refine Ev.ite_pos ha ?_
      by_cases h0 : (l.length : Int) = 0
      · rw [show ((l.length : Int) == 0) = true by simpa using h0]; exact j2t
      rw [show ((l.length : Int) == 0) = false by simpa using h0]
      have hal := (adj_iff l hR).1 ha
      have hne : l ≠ [] := by rintro rfl; simp at h0
      have loop : ∀ m i : Nat, l.length - i = m → i ≤ l.length → Ev (fun k => ropewaylaw05_ViewOut.l1 k l l (l.length : Int) (i : Int)) true := by
        intro m
        induction m with
        | zero =>
          intro i hm hi
          refine Ev.const fun k => ?_
          simp only [ropewaylaw05_ViewOut.l1]
          rw [if_neg (by omega)]
        | succ m ih =>
          intro i hm hi
          have hlt : i < l.length := by omega
          have e : rd_T25 l i = l.getD i z25 := rfl
          have hmem := getD_mem hlt z25
          refine Ev.succ ?_
          simp only [ropewaylaw05_ViewOut.l1]
          rw [e, wrap_nat (by omega)]
          generalize l.getD i z25 = x at hmem
          refine Ev.ite_pos (by omega) (Ev.ite_pos (by omega) (Ev.ite_pos (by omega) ?_))
          refine Ev.bind (view_Top_ev l (by omega)) ?_
          refine Ev.bind_all (within_some x (topV l)) (Ev.ite_pos ?_ (ih (i + 1) (by omega) (by omega)))
          have := wiP_of (hR x hmem) (hR _ (topV_mem hne)) (hal x hmem _ (topV_mem hne)) (topV_max x hmem)
          rw [Bool.and_eq_true, beq_iff_eq, beq_iff_eq]
          exact this
      refine Ev.succ ?_
      simp only [ropewaylaw05_ViewOut.j2]
      exact Ev.ite_neg (by simp) (loop l.length 0 (by omega) (by omega))
    have loop : ∀ m i : Nat, l.length - i = m → i ≤ l.length → ∀ p q : Int, In64 p → In64 q → oB d q = q → (∀ v ∈ l.take i, RtV v) → Ev (fun k => ropewaylaw05_ViewOut.l0 k l n l (l.length : Int) (i : Int) a d p q) true := by
      intro m
      induction m with
      | zero =>
        intro i hm hi p q hp hq hs hR
        refine Ev.succ ?_
        simp only [ropewaylaw05_ViewOut.l0]
        refine Ev.ite_neg (by omega) (top fun v hv => hR v ?_)
        rw [List.take_of_length_le (by omega)]; exact hv
      | succ m ih =>
        intro i hm hi p q hp hq hs hR
        have hlt : i < l.length := by omega
        have e : rd_T25 l i = l.getD i z25 := rfl
        have ex : l[i]? = some (l.getD i z25) := by rw [List.getD_eq_getElem?_getD, List.getElem?_eq_getElem hlt, Option.getD_some]
        refine Ev.succ ?_
        simp only [ropewaylaw05_ViewOut.l0]
        rw [e, wrap_nat (by omega)]
        generalize l.getD i z25 = x at ex
        refine Ev.ite_pos (by omega) (Ev.ite_pos (by omega) (Ev.ite_pos (by omega) ?_))
        refine Ev.bind_all (right_eq x.f0 x.f1) (Ev.ite (fun hx => ?_) (fun _ => Ev.all fun k => rfl))
        have hx : RtV x := (of_decide_eq_true hx : 0 ≤ x.f0 ∧ x.f0 < 64 ∧ 0 ≤ x.f1 ∧ x.f1 < 64)
        refine Ev.bind (change_Join_ev [⟨p, q⟩, ⟨x.f0, x.f1⟩] (by simp)) ?_
        have j1 : (joinL (0, 0) [⟨p, q⟩, ⟨x.f0, x.f1⟩]).1 = oB p x.f0 := by show oB (oB 0 p) x.f0 = _; rw [oB_zero hp]
        have j2 : (joinL (0, 0) [⟨p, q⟩, ⟨x.f0, x.f1⟩]).2 = oB q x.f1 := by show oB (oB 0 q) x.f1 = _; rw [oB_zero hq]
        rw [j1, j2]
        have hp' := oB_in hp hx.l
        have hq' := oB_in hq hx.r
        have hs' : oB d (oB q x.f1) = oB q x.f1 := by rw [← oB_assoc hd hq hx.r, hs]
        have nx := ih (i + 1) (by omega) (by omega) (oB p x.f0) (oB q x.f1) hp' hq' hs' (fun v hv => by
          rw [List.take_add_one, ex] at hv
          rcases List.mem_append.1 hv with hv | hv
          · exact hR v hv
          · simp at hv; rw [hv]; exact hx)
        refine Ev.ite (fun h0 => Ev.ite (fun h1 => Ev.ite (fun _ => Ev.ite (fun hb => ?_) (fun _ => nx)) (fun h => absurd h0 h)) (fun _ => nx)) (fun _ => nx)
        rw [shr_bit hd.1 hd.2 h0 h1] at hb
        have hbd : bitB d n = true := by
          by_cases k : bitB d n = true
          · exact k
          · rw [if_neg k] at hb; cases hb
        refine Ev.bind_all (view_In_eq (show Rt (oB p x.f0) (oB q x.f1) from ⟨hp'.1, hp'.2, hq'.1, hq'.2⟩) n) (Ev.ite_neg ?_ nx)
        unfold mem
        rw [bit_sub hd hq' h0 h1 hs' hbd]
        simp
    exact loop l.length 0 (by omega) (by omega) a d ⟨hr.1, hr.2.1⟩ hd (oB_self hd) (fun v hv => by simp at hv)
  exact hall.rounds

end Go.Proofs.Ytophohbodmnpjaa.Pure
