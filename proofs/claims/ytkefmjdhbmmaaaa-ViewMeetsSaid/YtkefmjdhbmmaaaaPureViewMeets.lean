/- The pure statement of the law ViewMeets: two sets that are enough in one view have a member in common; for every input. -/
import Derived.Test.YtkefmjdhbmmaaaaPViewMeetsx
import Derived.Test.YtkefmjdhbmmaaaaXPure
import Derived.Test.YtkefmjdhbmmaaaaXOpen
namespace Go.Proofs.Ytkefmjdhbmmaaaa.Pure
open Go.RowKit Go.Proofs.Ytkefmjdhbmmaaaa.PViewMeets Go.Proofs.YtkefmjdhbmmaaaaW.PrintWords Go.Proofs.YtkefmjdhbmmaaaaW.PrintLast Go.Proofs.YtkefmjdhbmmaaaaW.PrintMore Go.Proofs.YtkefmjdhbmmaaaaX
set_option linter.unusedVariables false
set_option linter.unusedSimpArgs false
/-! views: who is a member, how many are enough -/
def bitB (x n : Int) : Bool := x / 2 ^ n.toNat % 2 == 1
def mem (a d n : Int) : Bool := decide (0 ≤ n ∧ n < 6) && (bitB a n && !bitB d n)
def Rt (a d : Int) : Prop := 0 ≤ a ∧ a < 64 ∧ 0 ≤ d ∧ d < 64
theorem bit_fin (p : Int → Int → Prop) (h : ∀ (a : Fin 64) (n : Fin 6), p (a.val : Int) (n.val : Int)) {x n : Int} (h0 : 0 ≤ x) (h1 : x < 64) (h2 : 0 ≤ n) (h3 : n < 6) : p x n := by
  have := h ⟨x.toNat, by omega⟩ ⟨n.toNat, by omega⟩
  simpa [Int.toNat_of_nonneg h0, Int.toNat_of_nonneg h2] using this
theorem shr_bit {x n : Int} (h0 : 0 ≤ x) (h1 : x < 64) (h2 : 0 ≤ n) (h3 : n < 6) : Go.bits .and .i64 (shr .i64 x n) 1 = if bitB x n then 1 else 0 :=
  bit_fin (fun x n => Go.bits .and .i64 (shr .i64 x n) 1 = if bitB x n then 1 else 0) (by decide +kernel) h0 h1 h2 h3
theorem view_In_eq {a d : Int} (h : Rt a d) (n : Int) : view_In.f a d n = some (mem a d n) := by
  obtain ⟨a0, a1, d0, d1⟩ := h
  unfold view_In.f mem
  by_cases h0 : n ≥ 0
  · by_cases h1 : n < 6
    · rw [if_pos h0, if_pos h1, if_pos h0, shr_bit a0 a1 h0 h1, shr_bit d0 d1 h0 h1]
      cases bitB a n <;> cases bitB d n <;> simp [h0, h1]
    · rw [if_pos h0, if_neg h1]; simp [h1]
  · rw [if_neg h0]; simp [h0]
def six : List Int := [0, 1, 2, 3, 4, 5]
def members (a d : Int) : List Int := six.filter (mem a d)
theorem six_len : six.length = 6 := rfl
theorem six_get {i : Nat} (h : i < 6) : six.drop i = (i : Int) :: six.drop (i + 1) := by
  rcases (show i = 0 ∨ i = 1 ∨ i = 2 ∨ i = 3 ∨ i = 4 ∨ i = 5 by omega) with rfl | rfl | rfl | rfl | rfl | rfl <;> rfl
theorem view_Members_l0 {a d : Int} (h : Rt a d) (m : Nat) : ∀ (i : Nat) (acc : List Int), 6 - i = m → i ≤ 6 → acc.length ≤ i → Ev (fun k => view_Members.l0 k acc (i : Int) a d) (acc ++ (six.drop i).filter (mem a d)) := by
  induction m with
  | zero =>
    intro i acc hm hi hl
    obtain rfl : i = 6 := by omega
    refine Ev.const fun k => ?_
    simp only [view_Members.l0]
    rw [if_neg (by decide)]
    simp [six]
  | succ m ih =>
    intro i acc hm hi hl
    have hlt : i < 6 := by omega
    rw [six_get hlt]
    cases hb : mem a d i
    · rw [List.filter_cons_of_neg (by simp [hb])]
      refine Ev.step' (ih (i + 1) acc (by omega) (by omega) (by omega)) fun k => ?_
      simp only [view_Members.l0]
      rw [if_pos (by omega), view_In_eq h, hb]
      simp only [Option.bind_some, Bool.false_eq_true, if_false]
      rw [wrap_nat (by omega)]
    · rw [List.filter_cons_of_pos hb]
      have := ih (i + 1) (acc ++ [(i : Int)]) (by omega) (by omega) (by simp; omega)
      rw [List.append_assoc] at this
      refine Ev.step' this fun k => ?_
      simp only [view_Members.l0]
      rw [if_pos (by omega), view_In_eq h, hb]
      simp only [Option.bind_some, if_true]
      rw [if_pos (by omega), wrap_nat (by omega)]
theorem view_Members_ev {a d : Int} (h : Rt a d) : Ev (fun k => view_Members.f k a d) (members a d) := view_Members_l0 h 6 0 [] rfl (by omega) (by simp)
theorem members_len (a d : Int) : (members a d).length ≤ 6 := List.length_filter_le _ _
theorem mem_members {a d n : Int} : n ∈ members a d ↔ mem a d n = true := by
  unfold members
  rw [List.mem_filter]
  constructor
  · exact fun h => h.2
  · intro h
    refine ⟨?_, h⟩
    have : 0 ≤ n ∧ n < 6 := by unfold mem at h; simp at h; exact h.1
    rcases (show n = 0 ∨ n = 1 ∨ n = 2 ∨ n = 3 ∨ n = 4 ∨ n = 5 by omega) with rfl | rfl | rfl | rfl | rfl | rfl <;> simp [six]
theorem slices_Index_l0 (xs : List Int) (x : Int) (hn : xs.length < 4611686018427387904) (m : Nat) : ∀ (i : Nat), xs.length - i = m → i ≤ xs.length → ∃ r, Ev (fun k => slices_Index_int_int.l0 k xs x (xs.length : Int) (i : Int)) r ∧ (0 ≤ r ↔ x ∈ xs.drop i) := by
  induction m with
  | zero =>
    intro i hm hi
    refine ⟨-1, Ev.const fun k => ?_, ?_⟩
    · simp only [slices_Index_int_int.l0]; rw [if_neg (by omega)]
    · rw [List.drop_eq_nil_of_le (by omega)]; simp
  | succ m ih =>
    intro i hm hi
    have hlt : i < xs.length := by omega
    rw [drop_cons hlt 0]
    by_cases hx : x = xs.getD i 0
    · refine ⟨i, Ev.const fun k => ?_, ?_⟩
      · simp only [slices_Index_int_int.l0]
        rw [if_pos (by omega), if_pos (by omega), if_pos (by omega), if_pos (show x = rd xs i from hx)]
      · simp [hx]
    · obtain ⟨r, hr, hm2⟩ := ih (i + 1) (by omega) (by omega)
      refine ⟨r, Ev.step' hr fun k => ?_, ?_⟩
      · simp only [slices_Index_int_int.l0]
        rw [if_pos (by omega), if_pos (by omega), if_pos (by omega), if_neg (show ¬ x = rd xs i from hx), wrap_nat (by omega)]
      · rw [hm2, List.mem_cons]
        exact ⟨fun h => .inr h, fun h => h.elim (fun e => absurd e hx) id⟩
theorem slices_Contains_ev (xs : List Int) (x : Int) (hn : xs.length < 4611686018427387904) : Ev (fun k => slices_Contains_int_int.f k xs x) (decide (x ∈ xs)) := by
  obtain ⟨r, hr, hm⟩ := slices_Index_l0 xs x hn xs.length 0 (by omega) (by omega)
  unfold slices_Contains_int_int.f
  refine Ev.bind (a := r) hr (Ev.all fun k => ?_)
  rw [Option.some.injEq, decide_eq_decide]
  exact hm
def hits (who l : List Int) : Nat := (l.filter (fun m => decide (m ∈ who))).length
theorem hits_le (who l : List Int) : hits who l ≤ l.length := List.length_filter_le _ _
def enough (a d : Int) (who : List Int) : Bool := decide (2 * hits who (members a d) > (members a d).length)
theorem view_Enough_l0 (who l l0 : List Int) (hn : who.length < 4611686018427387904) (hl : l.length ≤ 6) (m : Nat) : ∀ (i n : Nat), l.length - i = m → i ≤ l.length → n ≤ i → Ev (fun k => view_Enough.l0 k who l0 (n : Int) l (l.length : Int) (i : Int)) (decide (2 * ((n + hits who (l.drop i) : Nat) : Int) > (l0.length : Int))) := by
  induction m with
  | zero =>
    intro i n hm hi hni
    refine Ev.const fun k => ?_
    simp only [view_Enough.l0]
    rw [if_neg (by omega), List.drop_eq_nil_of_le (by omega), wrap_in (by omega) (by omega)]
    simp [hits]
  | succ m ih =>
    intro i n hm hi hni
    have hlt : i < l.length := by omega
    rw [drop_cons hlt 0]
    refine Ev.step' (f := fun k => ((slices_Contains_int_int.f k who (rd l i)).bind fun t116 => (if t116 = true then (view_Enough.l0 k who l0 (wrap64 ((n : Int) + 1)) l (l.length : Int) (wrap64 ((i : Int) + 1))) else (view_Enough.l0 k who l0 (n : Int) l (l.length : Int) (wrap64 ((i : Int) + 1)))))) ?_ (fun k => by
      simp only [view_Enough.l0]
      rw [if_pos (by omega), if_pos (by omega), if_pos (by omega)])
    refine Ev.bind (slices_Contains_ev who _ hn) ?_
    rw [wrap_nat (show i < 4611686018427387904 by omega), wrap_nat (show n < 4611686018427387904 by omega)]
    have e : rd l i = l.getD i 0 := rfl
    rw [e]
    by_cases hw : l.getD i 0 ∈ who
    · refine Ev.ite_pos (decide_eq_true hw) ?_
      have := ih (i + 1) (n + 1) (by omega) (by omega) (by omega)
      have eh : hits who (l.getD i 0 :: l.drop (i + 1)) = hits who (l.drop (i + 1)) + 1 := by unfold hits; rw [List.filter_cons_of_pos (by simpa using hw)]; rfl
      rw [eh, show n + (hits who (l.drop (i + 1)) + 1) = n + 1 + hits who (l.drop (i + 1)) by omega]
      exact this
    · refine Ev.ite_neg (by simpa using hw) ?_
      have := ih (i + 1) n (by omega) (by omega) (by omega)
      have eh : hits who (l.getD i 0 :: l.drop (i + 1)) = hits who (l.drop (i + 1)) := by unfold hits; rw [List.filter_cons_of_neg (by simpa using hw)]
      rw [eh]
      exact this
theorem view_Enough_ev {a d : Int} (h : Rt a d) (who : List Int) (hn : who.length < 4611686018427387904) : Ev (fun k => view_Enough.f k a d who) (enough a d who) := by
  unfold view_Enough.f
  refine Ev.bind (view_Members_ev h) ?_
  have := view_Enough_l0 who (members a d) (members a d) hn (members_len a d) (members a d).length 0 0 (by omega) (by omega) (by omega)
  have e : decide (2 * ((0 + hits who ((members a d).drop 0) : Nat) : Int) > ((members a d).length : Int)) = enough a d who := by
    unfold enough
    rw [decide_eq_decide, List.drop_zero]; omega
  rw [e] at this
  exact this

theorem alive : Ev (fun k => ropewaylaw05_viewAlive.f k) true := Ev.closed ropewaylaw05_viewAlive.mono 30 (by decide +kernel)
theorem right_eq (a d : Int) : change_Right.f a d = some (decide (0 ≤ a ∧ a < 64 ∧ 0 ≤ d ∧ d < 64)) := by
  unfold change_Right.f
  (repeat' split) <;> simp_all <;> omega
theorem two_filters (p q : Int → Bool) (l : List Int) : (l.filter p).length + (l.filter q).length ≤ l.length + (l.filter (fun x => p x && q x)).length := by
  induction l with
  | nil => simp
  | cons x l ih =>
    simp only [List.filter_cons]
    cases p x <;> cases q x <;> simp <;> omega
theorem meets {a d : Int} {u v : List Int} (h1 : enough a d u = true) (h2 : enough a d v = true) : ∃ x, x ∈ u ∧ x ∈ v ∧ mem a d x = true := by
  have e1 := of_decide_eq_true h1
  have e2 := of_decide_eq_true h2
  unfold hits at e1 e2
  have h := two_filters (fun m => decide (m ∈ u)) (fun m => decide (m ∈ v)) (members a d)
  have hpos : 0 < ((members a d).filter (fun x => decide (x ∈ u) && decide (x ∈ v))).length := by omega
  obtain ⟨x, hx⟩ := List.exists_mem_of_length_pos hpos
  rw [List.mem_filter] at hx
  obtain ⟨hm, hb⟩ := hx
  simp only [Bool.and_eq_true, decide_eq_true_eq] at hb
  exact ⟨x, hb.1, hb.2, mem_members.1 hm⟩
theorem l1_ev {a d : Int} (hr : Rt a d) (u v : List Int) (x : Int) (i : Int) (hn : v.length < 4611686018427387904) (m : Nat) : ∀ j : Nat, v.length - j = m → j ≤ v.length →
    ((x ∈ v.drop j ∧ mem a d x = true) ∨ Ev (fun k => ropewaylaw05_ViewMeets.l0 k v u (u.length : Int) (wrap64 (i + 1)) a d) true) →
    Ev (fun k => ropewaylaw05_ViewMeets.l1 k v x u (u.length : Int) i v (v.length : Int) (j : Int) a d) true := by
  induction m with
  | zero =>
    intro j hm hj h
    rcases h with ⟨h, _⟩ | h
    · rw [List.drop_eq_nil_of_le (by omega)] at h; cases h
    · refine Ev.step' h fun k => ?_
      simp only [ropewaylaw05_ViewMeets.l1]
      rw [if_neg (by omega)]
  | succ m ih =>
    intro j hm hj h
    have hlt : j < v.length := by omega
    rw [drop_cons hlt 0] at h
    by_cases hx : x = v.getD j 0
    · cases hmem : mem a d x
      · have h' : Ev (fun k => ropewaylaw05_ViewMeets.l0 k v u (u.length : Int) (wrap64 (i + 1)) a d) true := by
          rcases h with ⟨_, h⟩ | h
          · rw [hmem] at h; cases h
          · exact h
        refine Ev.step' (ih (j + 1) (by omega) (by omega) (.inr h')) fun k => ?_
        simp only [ropewaylaw05_ViewMeets.l1]
        rw [if_pos (by omega), if_pos (by omega), if_pos (by omega), if_pos (show x = rd v j from hx), view_In_eq hr, hmem]
        simp only [Option.bind_some, Bool.false_eq_true, if_false]
        rw [wrap_nat (by omega)]
      · refine Ev.const fun k => ?_
        simp only [ropewaylaw05_ViewMeets.l1]
        rw [if_pos (by omega), if_pos (by omega), if_pos (by omega), if_pos (show x = rd v j from hx), view_In_eq hr, hmem]
        rfl
    · refine Ev.step' (ih (j + 1) (by omega) (by omega) ?_) fun k => ?_
      · rcases h with ⟨h, h2⟩ | h
        · rcases List.mem_cons.1 h with h | h
          · exact absurd h hx
          · exact .inl ⟨h, h2⟩
        · exact .inr h
      · simp only [ropewaylaw05_ViewMeets.l1]
        rw [if_pos (by omega), if_pos (by omega), if_pos (by omega), if_neg (show ¬ x = rd v j from hx), wrap_nat (by omega)]
theorem l0_ev {a d : Int} (hr : Rt a d) (u v : List Int) (hu : u.length < 4611686018427387904) (hn : v.length < 4611686018427387904) (m : Nat) : ∀ i : Nat, u.length - i = m → i ≤ u.length → (∃ x, x ∈ u.drop i ∧ x ∈ v ∧ mem a d x = true) →
    Ev (fun k => ropewaylaw05_ViewMeets.l0 k v u (u.length : Int) (i : Int) a d) true := by
  induction m with
  | zero =>
    intro i hm hi h
    obtain ⟨x, hx, _⟩ := h
    rw [List.drop_eq_nil_of_le (by omega)] at hx; cases hx
  | succ m ih =>
    intro i hm hi h
    have hlt : i < u.length := by omega
    refine Ev.step' (l1_ev hr u v (u.getD i 0) i hn v.length 0 (by omega) (by omega) ?_) fun k => ?_
    · obtain ⟨x, hx, hv, hm2⟩ := h
      rw [drop_cons hlt 0] at hx
      rcases List.mem_cons.1 hx with rfl | hx
      · exact .inl ⟨hv, hm2⟩
      · refine .inr ?_
        rw [wrap_nat (by omega)]
        exact ih (i + 1) (by omega) (by omega) ⟨x, hx, hv, hm2⟩
    · simp only [ropewaylaw05_ViewMeets.l0]
      rw [if_pos (by omega), if_pos (by omega), if_pos (by omega)]
      rfl
theorem ViewMeets : ropewaylaw05_ViewMeets.Pure := by
  intro a d u v _ _ ⟨_, hu, _⟩ ⟨_, hv, _⟩
  have jt : Ev (fun k => ropewaylaw05_ViewMeets.j0 k u v true a d) true := Ev.const fun k => by
    simp only [ropewaylaw05_ViewMeets.j0]; rw [if_pos trivial]
  have hall : Ev (fun k => ropewaylaw05_ViewMeets.f k a d u v) true := by
    unfold ropewaylaw05_ViewMeets.f
    refine Ev.bind alive ?_
    refine Ev.ite_pos rfl ?_
    refine Ev.bind_all (right_eq a d) ?_
    by_cases h : 0 ≤ a ∧ a < 64 ∧ 0 ≤ d ∧ d < 64
    · have hr : Rt a d := h
      refine Ev.ite_pos (decide_eq_true h) ?_
      refine Ev.bind (view_Enough_ev hr u (by omega)) ?_
      cases h1 : enough a d u
      · exact Ev.ite_neg (by simp) jt
      · refine Ev.ite_pos rfl ?_
        refine Ev.bind (view_Enough_ev hr v (by omega)) ?_
        cases h2 : enough a d v
        · exact jt
        · obtain ⟨x, hxu, hxv, hm⟩ := meets h1 h2
          refine Ev.step' (l0_ev hr u v (by omega) (by omega) u.length 0 (by omega) (by omega) ⟨x, by simpa using hxu, hxv, hm⟩) fun k => ?_
          simp only [ropewaylaw05_ViewMeets.j0]
          rw [if_neg (by simp)]
          rfl
    · exact Ev.ite_neg (by simpa using h) jt
  exact hall.rounds

end Go.Proofs.Ytkefmjdhbmmaaaa.Pure
