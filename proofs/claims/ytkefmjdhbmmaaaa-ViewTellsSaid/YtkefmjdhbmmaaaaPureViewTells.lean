/- The pure statement of the law ViewTells: of any view who is a member, and who is enough, as the document has it; for every input. -/
import Derived.Test.YtkefmjdhbmmaaaaPViewTellsx
import Derived.Test.YtkefmjdhbmmaaaaXPure
import Derived.Test.YtkefmjdhbmmaaaaXOpen
namespace Go.Proofs.Ytkefmjdhbmmaaaa.Pure
open Go.RowKit Go.Proofs.Ytkefmjdhbmmaaaa.PViewTells Go.Proofs.YtkefmjdhbmmaaaaW.PrintWords Go.Proofs.YtkefmjdhbmmaaaaW.PrintLast Go.Proofs.YtkefmjdhbmmaaaaW.PrintMore Go.Proofs.YtkefmjdhbmmaaaaX
set_option linter.unusedVariables false
set_option linter.unusedSimpArgs false
/-! views: who is a member, how many are enough -/
def bitB (x n : Int) : Bool := x / 2 ^ n.toNat % 2 == 1
def mem (a d n : Int) : Bool := decide (0 ≤ n ∧ n < 6) && (bitB a n && !bitB d n)
def Rt (a d : Int) : Prop := 0 ≤ a ∧ a < 64 ∧ 0 ≤ d ∧ d < 64
theorem bit_fin (p : Int → Int → Prop) (h : ∀ (a : Fin 64) (n : Fin 6), p (a.val : Int) (n.val : Int)) {x n : Int} (h0 : 0 ≤ x) (h1 : x < 64) (h2 : 0 ≤ n) (h3 : n < 6) : p x n := by
  have := h ⟨x.toNat, by omega⟩ ⟨n.toNat, by omega⟩
  simpa [Int.toNat_of_nonneg h0, Int.toNat_of_nonneg h2] using this
theorem shr_bit {x n : Int} (h0 : 0 ≤ x) (h1 : x < 64) (h2 : 0 ≤ n) (h3 : n < 6) : Go.bits .and .i64 (shr .i64 x n) 1 = if bitB x n then 1 else 0 :=
  bit_fin (fun x n => Go.bits .and .i64 (shr .i64 x n) 1 = if bitB x n then 1 else 0) (by decide +kernel) h0 h1 h2 h3
theorem view_In_eq {a d : Int} (h : Rt a d) (n : Int) : view_In.f a d n = some (mem a d n) := by
  obtain ⟨a0, a1, d0, d1⟩ := h
  unfold view_In.f mem
  by_cases h0 : n ≥ 0
  · by_cases h1 : n < 6
    · rw [if_pos h0, if_pos h1, if_pos h0, shr_bit a0 a1 h0 h1, shr_bit d0 d1 h0 h1]
      cases bitB a n <;> cases bitB d n <;> simp [h0, h1]
    · rw [if_pos h0, if_neg h1]; simp [h1]
  · rw [if_neg h0]; simp [h0]
def six : List Int := [0, 1, 2, 3, 4, 5]
def members (a d : Int) : List Int := six.filter (mem a d)
theorem six_len : six.length = 6 := rfl
theorem six_get {i : Nat} (h : i < 6) : six.drop i = (i : Int) :: six.drop (i + 1) := by
  rcases (show i = 0 ∨ i = 1 ∨ i = 2 ∨ i = 3 ∨ i = 4 ∨ i = 5 by omega) with rfl | rfl | rfl | rfl | rfl | rfl <;> rfl
theorem view_Members_l0 {a d : Int} (h : Rt a d) (m : Nat) : ∀ (i : Nat) (acc : List Int), 6 - i = m → i ≤ 6 → acc.length ≤ i → Ev (fun k => view_Members.l0 k acc (i : Int) a d) (acc ++ (six.drop i).filter (mem a d)) := by
  induction m with
  | zero =>
    intro i acc hm hi hl
    obtain rfl : i = 6 := by omega
    refine Ev.const fun k => ?_
    simp only [view_Members.l0]
    rw [if_neg (by decide)]
    simp [six]
  | succ m ih =>
    intro i acc hm hi hl
    have hlt : i < 6 := by omega
    rw [six_get hlt]
    cases hb : mem a d i
    · rw [List.filter_cons_of_neg (by simp [hb])]
      refine Ev.step' (ih (i + 1) acc (by omega) (by omega) (by omega)) fun k => ?_
      simp only [view_Members.l0]
      rw [if_pos (by omega), view_In_eq h, hb]
      simp only [Option.bind_some, Bool.false_eq_true, if_false]
      rw [wrap_nat (by omega)]
    · rw [List.filter_cons_of_pos hb]
      have := ih (i + 1) (acc ++ [(i : Int)]) (by omega) (by omega) (by simp; omega)
      rw [List.append_assoc] at this
      refine Ev.step' this fun k => ?_
      simp only [view_Members.l0]
      rw [if_pos (by omega), view_In_eq h, hb]
      simp only [Option.bind_some, if_true]
      rw [if_pos (by omega), wrap_nat (by omega)]
theorem view_Members_ev {a d : Int} (h : Rt a d) : Ev (fun k => view_Members.f k a d) (members a d) := view_Members_l0 h 6 0 [] rfl (by omega) (by simp)
theorem members_len (a d : Int) : (members a d).length ≤ 6 := List.length_filter_le _ _
theorem mem_members {a d n : Int} : n ∈ members a d ↔ mem a d n = true := by
  unfold members
  rw [List.mem_filter]
  constructor
  · exact fun h => h.2
  · intro h
    refine ⟨?_, h⟩
    have : 0 ≤ n ∧ n < 6 := by unfold mem at h; simp at h; exact h.1
    rcases (show n = 0 ∨ n = 1 ∨ n = 2 ∨ n = 3 ∨ n = 4 ∨ n = 5 by omega) with rfl | rfl | rfl | rfl | rfl | rfl <;> simp [six]
theorem slices_Index_l0 (xs : List Int) (x : Int) (hn : xs.length < 4611686018427387904) (m : Nat) : ∀ (i : Nat), xs.length - i = m → i ≤ xs.length → ∃ r, Ev (fun k => slices_Index_int_int.l0 k xs x (xs.length : Int) (i : Int)) r ∧ (0 ≤ r ↔ x ∈ xs.drop i) := by
  induction m with
  | zero =>
    intro i hm hi
    refine ⟨-1, Ev.const fun k => ?_, ?_⟩
    · simp only [slices_Index_int_int.l0]; rw [if_neg (by omega)]
    · rw [List.drop_eq_nil_of_le (by omega)]; simp
  | succ m ih =>
    intro i hm hi
    have hlt : i < xs.length := by omega
    rw [drop_cons hlt 0]
    by_cases hx : x = xs.getD i 0
    · refine ⟨i, Ev.const fun k => ?_, ?_⟩
      · simp only [slices_Index_int_int.l0]
        rw [if_pos (by omega), if_pos (by omega), if_pos (by omega), if_pos (show x = rd xs i from hx)]
      · simp [hx]
    · obtain ⟨r, hr, hm2⟩ := ih (i + 1) (by omega) (by omega)
      refine ⟨r, Ev.step' hr fun k => ?_, ?_⟩
      · simp only [slices_Index_int_int.l0]
        rw [if_pos (by omega), if_pos (by omega), if_pos (by omega), if_neg (show ¬ x = rd xs i from hx), wrap_nat (by omega)]
      · rw [hm2, List.mem_cons]
        exact ⟨fun h => .inr h, fun h => h.elim (fun e => absurd e hx) id⟩
theorem slices_Contains_ev (xs : List Int) (x : Int) (hn : xs.length < 4611686018427387904) : Ev (fun k => slices_Contains_int_int.f k xs x) (decide (x ∈ xs)) := by
  obtain ⟨r, hr, hm⟩ := slices_Index_l0 xs x hn xs.length 0 (by omega) (by omega)
  unfold slices_Contains_int_int.f
  refine Ev.bind (a := r) hr (Ev.all fun k => ?_)
  rw [Option.some.injEq, decide_eq_decide]
  exact hm
def hits (who l : List Int) : Nat := (l.filter (fun m => decide (m ∈ who))).length
theorem hits_le (who l : List Int) : hits who l ≤ l.length := List.length_filter_le _ _
def enough (a d : Int) (who : List Int) : Bool := decide (2 * hits who (members a d) > (members a d).length)
theorem view_Enough_l0 (who l l0 : List Int) (hn : who.length < 4611686018427387904) (hl : l.length ≤ 6) (m : Nat) : ∀ (i n : Nat), l.length - i = m → i ≤ l.length → n ≤ i → Ev (fun k => view_Enough.l0 k who l0 (n : Int) l (l.length : Int) (i : Int)) (decide (2 * ((n + hits who (l.drop i) : Nat) : Int) > (l0.length : Int))) := by
  induction m with
  | zero =>
    intro i n hm hi hni
    refine Ev.const fun k => ?_
    simp only [view_Enough.l0]
    rw [if_neg (by omega), List.drop_eq_nil_of_le (by omega), wrap_in (by omega) (by omega)]
    simp [hits]
  | succ m ih =>
    intro i n hm hi hni
    have hlt : i < l.length := by omega
    rw [drop_cons hlt 0]
    refine Ev.step' (f := fun k => ((slices_Contains_int_int.f k who (rd l i)).bind fun t116 => (if t116 = true then (view_Enough.l0 k who l0 (wrap64 ((n : Int) + 1)) l (l.length : Int) (wrap64 ((i : Int) + 1))) else (view_Enough.l0 k who l0 (n : Int) l (l.length : Int) (wrap64 ((i : Int) + 1)))))) ?_ (fun k => by
      simp only [view_Enough.l0]
      rw [if_pos (by omega), if_pos (by omega), if_pos (by omega)])
    refine Ev.bind (slices_Contains_ev who _ hn) ?_
    rw [wrap_nat (show i < 4611686018427387904 by omega), wrap_nat (show n < 4611686018427387904 by omega)]
    have e : rd l i = l.getD i 0 := rfl
    rw [e]
    by_cases hw : l.getD i 0 ∈ who
    · refine Ev.ite_pos (decide_eq_true hw) ?_
      have := ih (i + 1) (n + 1) (by omega) (by omega) (by omega)
      have eh : hits who (l.getD i 0 :: l.drop (i + 1)) = hits who (l.drop (i + 1)) + 1 := by unfold hits; rw [List.filter_cons_of_pos (by simpa using hw)]; rfl
      rw [eh, show n + (hits who (l.drop (i + 1)) + 1) = n + 1 + hits who (l.drop (i + 1)) by omega]
      exact this
    · refine Ev.ite_neg (by simpa using hw) ?_
      have := ih (i + 1) n (by omega) (by omega) (by omega)
      have eh : hits who (l.getD i 0 :: l.drop (i + 1)) = hits who (l.drop (i + 1)) := by unfold hits; rw [List.filter_cons_of_neg (by simpa using hw)]
      rw [eh]
      exact this
theorem view_Enough_ev {a d : Int} (h : Rt a d) (who : List Int) (hn : who.length < 4611686018427387904) : Ev (fun k => view_Enough.f k a d who) (enough a d who) := by
  unfold view_Enough.f
  refine Ev.bind (view_Members_ev h) ?_
  have := view_Enough_l0 who (members a d) (members a d) hn (members_len a d) (members a d).length 0 0 (by omega) (by omega) (by omega)
  have e : decide (2 * ((0 + hits who ((members a d).drop 0) : Nat) : Int) > ((members a d).length : Int)) = enough a d who := by
    unfold enough
    rw [decide_eq_decide, List.drop_zero]; omega
  rw [e] at this
  exact this

theorem ref_bit_l0 (m : Nat) : ∀ (x : Int) (i n : Nat), n - i = m → i ≤ n → n < 4611686018427387904 → 0 ≤ x → x < 64 → Ev (fun k => ropewayref04_bit.l0 k x (n : Int) (i : Int)) (x / 2 ^ (n - i) % 2 == 1) := by
  induction m with
  | zero =>
    intro x i n hm hi hn h0 h1
    refine Ev.const fun k => ?_
    simp only [ropewayref04_bit.l0]
    rw [if_neg (by omega), show n - i = 0 by omega, Int.tmod_eq_emod_of_nonneg h0]
    simp
  | succ m ih =>
    intro x i n hm hi hn h0 h1
    have := ih (x / 2) (i + 1) n (by omega) (by omega) hn (by omega) (by omega)
    have e : x / 2 ^ (n - i) = x / 2 / 2 ^ (n - (i + 1)) := by
      rw [show n - i = n - (i + 1) + 1 by omega, Int.pow_succ, Int.mul_comm, Int.ediv_ediv_of_nonneg (by omega)]
    rw [e]
    refine Ev.step' this fun k => ?_
    simp only [ropewayref04_bit.l0]
    rw [if_pos (by omega), Int.tdiv_eq_ediv_of_nonneg h0, wrap_in (x := x / 2) (by omega) (by omega), wrap_nat (by omega)]
theorem ref_bit_ev {x n : Int} (h0 : 0 ≤ x) (h1 : x < 64) (h2 : 0 ≤ n) (h3 : n < 4611686018427387904) : Ev (fun k => ropewayref04_bit.f k x n) (bitB x n) := by
  have := ref_bit_l0 n.toNat x 0 n.toNat (by omega) (by omega) (by omega) h0 h1
  rw [Int.toNat_of_nonneg h2] at this
  exact this
theorem ref_Has_ev {a d n : Int} (h : Rt a d) (h2 : 0 ≤ n) (h3 : n < 4611686018427387904) : Ev (fun k => ropewayref04_Has.f k a d n) (bitB a n, bitB d n) := by
  unfold ropewayref04_Has.f
  refine Ev.bind (ref_bit_ev h.1 h.2.1 h2 h3) ?_
  refine Ev.bind (ref_bit_ev h.2.2.1 h.2.2.2 h2 h3) ?_
  exact Ev.all fun k => rfl

theorem ref_In_ev {a d : Int} (h : Rt a d) (n : Int) : Ev (fun k => ropewayref05_In.f k a d n) (mem a d n) := by
  unfold ropewayref05_In.f mem
  by_cases h0 : n < 0
  · refine Ev.ite_pos h0 (Ev.all fun k => ?_)
    rw [decide_eq_false (by omega)]; rfl
  · refine Ev.ite_neg h0 ?_
    by_cases h1 : n > 5
    · refine Ev.ite_pos h1 (Ev.all fun k => ?_)
      rw [decide_eq_false (by omega)]; rfl
    · refine Ev.ite_neg h1 ?_
      refine Ev.bind (ref_Has_ev h (by omega) (by omega)) (Ev.all fun k => ?_)
      rw [decide_eq_true (by omega)]
      cases bitB a n <;> rfl
theorem ref_Members_l0 {a d : Int} (h : Rt a d) (m : Nat) : ∀ (i : Nat) (acc : List Int), 6 - i = m → i ≤ 6 → acc.length ≤ i → Ev (fun k => ropewayref05_Members.l0 k acc (i : Int) a d) (acc ++ (six.drop i).filter (mem a d)) := by
  induction m with
  | zero =>
    intro i acc hm hi hl
    obtain rfl : i = 6 := by omega
    refine Ev.const fun k => ?_
    simp only [ropewayref05_Members.l0]
    rw [if_neg (by decide)]
    simp [six]
  | succ m ih =>
    intro i acc hm hi hl
    have hlt : i < 6 := by omega
    rw [six_get hlt]
    refine Ev.step' (f := fun k => (ropewayref05_In.f k a d i).bind fun t170 => (if t170 = true then (if acc.length < 17592186044416 then (ropewayref05_Members.l0 k (acc ++ [(i : Int)]) (wrap64 ((i : Int) + 1)) a d) else (none)) else (ropewayref05_Members.l0 k acc (wrap64 ((i : Int) + 1)) a d))) ?_ (fun k => by
      simp only [ropewayref05_Members.l0]
      rw [if_pos (by omega)])
    refine Ev.bind (ref_In_ev h i) ?_
    rw [wrap_nat (show i < 4611686018427387904 by omega)]
    cases hb : mem a d i
    · rw [List.filter_cons_of_neg (by simp [hb])]
      exact Ev.ite_neg (by simp) (ih (i + 1) acc (by omega) (by omega) (by omega))
    · rw [List.filter_cons_of_pos hb]
      refine Ev.ite_pos rfl (Ev.ite_pos (by omega) ?_)
      have := ih (i + 1) (acc ++ [(i : Int)]) (by omega) (by omega) (by simp; omega)
      rw [List.append_assoc] at this
      exact this
theorem ref_Members_ev {a d : Int} (h : Rt a d) : Ev (fun k => ropewayref05_Members.f k a d) (members a d) := ref_Members_l0 h 6 0 [] rfl (by omega) (by simp)

theorem alive : Ev (fun k => ropewaylaw05_viewAlive.f k) true := Ev.closed ropewaylaw05_viewAlive.mono 30 (by decide +kernel)
theorem right_eq (a d : Int) : ropewayref04_Right.f a d = some (decide (0 ≤ a ∧ a < 64 ∧ 0 ≤ d ∧ d < 64)) := by
  unfold ropewayref04_Right.f
  by_cases h1 : a ≥ 0 <;> by_cases h2 : a ≤ 63 <;> by_cases h3 : d ≥ 0 <;> by_cases h4 : d ≤ 63 <;> simp [h1, h2, h3, h4] <;> omega
theorem same_l0 (l m : List Int) (he : l = m) (hn : l.length < 4611686018427387904) (c : Nat) : ∀ (i : Nat), l.length - i = c → i ≤ l.length → Ev (fun k => ropewayref02_SameInts.l0 k l m (l.length : Int) (i : Int)) true := by
  subst he
  induction c with
  | zero =>
    intro i hm hi
    refine Ev.const fun k => ?_
    simp only [ropewayref02_SameInts.l0]; rw [if_neg (by omega)]
  | succ c ih =>
    intro i hm hi
    refine Ev.step' (ih (i + 1) (by omega) (by omega)) fun k => ?_
    simp only [ropewayref02_SameInts.l0]
    rw [if_pos (by omega), if_pos (by omega), if_pos (by omega), if_pos (by omega), if_pos trivial, wrap_nat (by omega)]
theorem same_ev (l m : List Int) (he : l = m) (hn : l.length < 4611686018427387904) : Ev (fun k => ropewayref02_SameInts.f k l m) true := by
  unfold ropewayref02_SameInts.f
  exact Ev.ite_pos (by rw [he]) (same_l0 l m he hn l.length 0 (by omega) (by omega))
theorem ref_Enough_l1 (who l : List Int) (wi wo x : Int) (j : Int) (R : Bool) (hn : who.length < 4611686018427387904) (b : Bool)
    (hR : Ev (fun k => if (b || decide (x ∈ who)) = true then ropewayref05_Enough.l0 k who (wrap64 (wi + 1)) wo l (l.length : Int) (wrap64 (j + 1)) else ropewayref05_Enough.l0 k who wi (wrap64 (wo + 1)) l (l.length : Int) (wrap64 (j + 1))) R) (m : Nat) :
    ∀ (i : Nat) (c : Bool), who.length - i = m → i ≤ who.length → (c || decide (x ∈ who.drop i)) = (b || decide (x ∈ who)) → Ev (fun k => ropewayref05_Enough.l1 k who wi wo x c l (l.length : Int) j who (who.length : Int) (i : Int)) R := by
  induction m with
  | zero =>
    intro i c hm hi hc
    rw [List.drop_eq_nil_of_le (by omega)] at hc
    have hc' : c = (b || decide (x ∈ who)) := by rw [← hc]; simp
    refine Ev.step' hR fun k => ?_
    simp only [ropewayref05_Enough.l1]
    rw [if_neg (by omega), hc']
  | succ m ih =>
    intro i c hm hi hc
    have hlt : i < who.length := by omega
    rw [drop_cons hlt 0] at hc
    cases c
    · refine Ev.step' (ih (i + 1) (who.getD i 0 == x) (by omega) (by omega) ?_) fun k => ?_
      · rw [← hc, Bool.false_or, Bool.eq_iff_iff]
        simp only [Bool.or_eq_true, beq_iff_eq, decide_eq_true_eq, List.mem_cons]
        exact ⟨fun h => h.imp Eq.symm id, fun h => h.imp Eq.symm id⟩
      · simp only [ropewayref05_Enough.l1]
        rw [if_pos (by omega), if_pos (by omega), if_pos (by omega), if_neg (by simp), wrap_nat (by omega)]
        rfl
    · refine Ev.step' (ih (i + 1) true (by omega) (by omega) ?_) fun k => ?_
      · rw [← hc]; simp
      · simp only [ropewayref05_Enough.l1]
        rw [if_pos (by omega), if_pos (by omega), if_pos (by omega), if_pos trivial, wrap_nat (by omega)]
theorem ref_Enough_l0 (who l : List Int) (hn : who.length < 4611686018427387904) (hl : l.length ≤ 6) (m : Nat) : ∀ (i wi wo : Nat), l.length - i = m → i ≤ l.length → wi + wo = i → Ev (fun k => ropewayref05_Enough.l0 k who (wi : Int) (wo : Int) l (l.length : Int) (i : Int)) (decide (2 * ((wi + hits who (l.drop i) : Nat) : Int) > (l.length : Int))) := by
  induction m with
  | zero =>
    intro i wi wo hm hi hw
    refine Ev.const fun k => ?_
    simp only [ropewayref05_Enough.l0]
    rw [if_neg (by omega), List.drop_eq_nil_of_le (by omega), Option.some.injEq, decide_eq_decide]
    simp only [hits, List.filter_nil, List.length_nil]
    omega
  | succ m ih =>
    intro i wi wo hm hi hw
    have hlt : i < l.length := by omega
    rw [drop_cons hlt 0]
    refine Ev.step' (f := fun k => ropewayref05_Enough.l1 k who (wi : Int) (wo : Int) (l.getD i 0) false l (l.length : Int) (i : Int) who (who.length : Int) ((0 : Nat) : Int)) ?_ (fun k => by
      simp only [ropewayref05_Enough.l0]
      rw [if_pos (by omega), if_pos (by omega), if_pos (by omega)]
      rfl)
    refine ref_Enough_l1 who l wi wo (l.getD i 0) i _ hn false ?_ who.length 0 false (by omega) (by omega) (by simp)
    rw [wrap_nat (show i < 4611686018427387904 by omega), wrap_nat (show wi < 4611686018427387904 by omega), wrap_nat (show wo < 4611686018427387904 by omega)]
    by_cases hx : l.getD i 0 ∈ who
    · refine Ev.ite_pos (by simpa using hx) ?_
      have := ih (i + 1) (wi + 1) wo (by omega) (by omega) (by omega)
      have eh : hits who (l.getD i 0 :: l.drop (i + 1)) = hits who (l.drop (i + 1)) + 1 := by unfold hits; rw [List.filter_cons_of_pos (by simpa using hx)]; rfl
      rw [eh, show wi + (hits who (l.drop (i + 1)) + 1) = wi + 1 + hits who (l.drop (i + 1)) by omega]
      exact this
    · refine Ev.ite_neg (by simpa using hx) ?_
      have := ih (i + 1) wi (wo + 1) (by omega) (by omega) (by omega)
      have eh : hits who (l.getD i 0 :: l.drop (i + 1)) = hits who (l.drop (i + 1)) := by unfold hits; rw [List.filter_cons_of_neg (by simpa using hx)]
      rw [eh]
      exact this
theorem ref_Enough_ev {a d : Int} (h : Rt a d) (who : List Int) (hn : who.length < 4611686018427387904) : Ev (fun k => ropewayref05_Enough.f k a d who) (enough a d who) := by
  unfold ropewayref05_Enough.f
  refine Ev.bind (ref_Members_ev h) ?_
  have := ref_Enough_l0 who (members a d) hn (members_len a d) (members a d).length 0 0 0 (by omega) (by omega) (by omega)
  have e : decide (2 * ((0 + hits who ((members a d).drop 0) : Nat) : Int) > ((members a d).length : Int)) = enough a d who := by
    unfold enough
    rw [decide_eq_decide, List.drop_zero]; omega
  rw [e] at this
  exact this
theorem ViewTells : ropewaylaw05_ViewTells.Pure := by
  intro a d n who _ _ _ ⟨hl, hs, _⟩
  have hw : who.length < 17592186044416 := by omega
  have hall : Ev (fun k => ropewaylaw05_ViewTells.f k a d n who) true := by
    unfold ropewaylaw05_ViewTells.f
    refine Ev.bind alive ?_
    refine Ev.ite_pos rfl ?_
    refine Ev.bind_all (right_eq a d) ?_
    by_cases h : 0 ≤ a ∧ a < 64 ∧ 0 ≤ d ∧ d < 64
    · have hr : Rt a d := h
      refine Ev.ite_pos (decide_eq_true h) ?_
      refine Ev.bind_all (view_In_eq hr n) ?_
      refine Ev.bind (ref_In_ev hr n) ?_
      refine Ev.ite_pos (by simp) ?_
      refine Ev.bind (view_Members_ev hr) ?_
      refine Ev.bind (ref_Members_ev hr) ?_
      refine Ev.bind (same_ev _ _ rfl (by have := members_len a d; omega)) ?_
      refine Ev.ite_pos rfl ?_
      refine Ev.bind_all rfl ?_
      refine Ev.ite_pos (by simpa using hw) ?_
      refine Ev.bind (view_Enough_ev hr who (by omega)) ?_
      refine Ev.bind (ref_Enough_ev hr who (by omega)) ?_
      exact Ev.all fun k => by simp
    · refine Ev.ite_neg (by simpa using h) (Ev.all fun k => rfl)
  exact hall.rounds

end Go.Proofs.Ytkefmjdhbmmaaaa.Pure
