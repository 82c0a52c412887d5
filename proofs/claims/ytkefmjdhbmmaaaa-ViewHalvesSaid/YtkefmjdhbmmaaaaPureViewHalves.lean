/- The pure statement of the law ViewHalves: of some and of all others not both are enough; all members are, if there are any; with more they stay enough; for every input. -/
import Derived.Test.YtkefmjdhbmmaaaaPViewHalvesx
import Derived.Test.YtkefmjdhbmmaaaaXPure
import Derived.Test.YtkefmjdhbmmaaaaXOpen
namespace Go.Proofs.Ytkefmjdhbmmaaaa.Pure
open Go.RowKit Go.Proofs.Ytkefmjdhbmmaaaa.PViewHalves Go.Proofs.YtkefmjdhbmmaaaaW.PrintWords Go.Proofs.YtkefmjdhbmmaaaaW.PrintLast Go.Proofs.YtkefmjdhbmmaaaaW.PrintMore Go.Proofs.YtkefmjdhbmmaaaaX
set_option linter.unusedVariables false
set_option linter.unusedSimpArgs false
/-! views: who is a member, how many are enough -/
def bitB (x n : Int) : Bool := x / 2 ^ n.toNat % 2 == 1
def mem (a d n : Int) : Bool := decide (0 ≤ n ∧ n < 6) && (bitB a n && !bitB d n)
def Rt (a d : Int) : Prop := 0 ≤ a ∧ a < 64 ∧ 0 ≤ d ∧ d < 64
theorem bit_fin (p : Int → Int → Prop) (h : ∀ (a : Fin 64) (n : Fin 6), p (a.val : Int) (n.val : Int)) {x n : Int} (h0 : 0 ≤ x) (h1 : x < 64) (h2 : 0 ≤ n) (h3 : n < 6) : p x n := by
  have := h ⟨x.toNat, by omega⟩ ⟨n.toNat, by omega⟩
  simpa [Int.toNat_of_nonneg h0, Int.toNat_of_nonneg h2] using this
theorem shr_bit {x n : Int} (h0 : 0 ≤ x) (h1 : x < 64) (h2 : 0 ≤ n) (h3 : n < 6) : Go.bits .and .i64 (shr .i64 x n) 1 = if bitB x n then 1 else 0 :=
  bit_fin (fun x n => Go.bits .and .i64 (shr .i64 x n) 1 = if bitB x n then 1 else 0) (by decide +kernel) h0 h1 h2 h3
theorem view_In_eq {a d : Int} (h : Rt a d) (n : Int) : view_In.f a d n = some (mem a d n) := by
  obtain ⟨a0, a1, d0, d1⟩ := h
  unfold view_In.f mem
  by_cases h0 : n ≥ 0
  · by_cases h1 : n < 6
    · rw [if_pos h0, if_pos h1, if_pos h0, shr_bit a0 a1 h0 h1, shr_bit d0 d1 h0 h1]
      cases bitB a n <;> cases bitB d n <;> simp [h0, h1]
    · rw [if_pos h0, if_neg h1]; simp [h1]
  · rw [if_neg h0]; simp [h0]
def six : List Int := [0, 1, 2, 3, 4, 5]
def members (a d : Int) : List Int := six.filter (mem a d)
theorem six_len : six.length = 6 := rfl
theorem six_get {i : Nat} (h : i < 6) : six.drop i = (i : Int) :: six.drop (i + 1) := by
  rcases (show i = 0 ∨ i = 1 ∨ i = 2 ∨ i = 3 ∨ i = 4 ∨ i = 5 by omega) with rfl | rfl | rfl | rfl | rfl | rfl <;> rfl
theorem view_Members_l0 {a d : Int} (h : Rt a d) (m : Nat) : ∀ (i : Nat) (acc : List Int), 6 - i = m → i ≤ 6 → acc.length ≤ i → Ev (fun k => view_Members.l0 k acc (i : Int) a d) (acc ++ (six.drop i).filter (mem a d)) := by
  induction m with
  | zero =>
    intro i acc hm hi hl
    obtain rfl : i = 6 := by omega
    refine Ev.const fun k => ?_
    simp only [view_Members.l0]
    rw [if_neg (by decide)]
    simp [six]
  | succ m ih =>
    intro i acc hm hi hl
    have hlt : i < 6 := by omega
    rw [six_get hlt]
    cases hb : mem a d i
    · rw [List.filter_cons_of_neg (by simp [hb])]
      refine Ev.step' (ih (i + 1) acc (by omega) (by omega) (by omega)) fun k => ?_
      simp only [view_Members.l0]
      rw [if_pos (by omega), view_In_eq h, hb]
      simp only [Option.bind_some, Bool.false_eq_true, if_false]
      rw [wrap_nat (by omega)]
    · rw [List.filter_cons_of_pos hb]
      have := ih (i + 1) (acc ++ [(i : Int)]) (by omega) (by omega) (by simp; omega)
      rw [List.append_assoc] at this
      refine Ev.step' this fun k => ?_
      simp only [view_Members.l0]
      rw [if_pos (by omega), view_In_eq h, hb]
      simp only [Option.bind_some, if_true]
      rw [if_pos (by omega), wrap_nat (by omega)]
theorem view_Members_ev {a d : Int} (h : Rt a d) : Ev (fun k => view_Members.f k a d) (members a d) := view_Members_l0 h 6 0 [] rfl (by omega) (by simp)
theorem members_len (a d : Int) : (members a d).length ≤ 6 := List.length_filter_le _ _
theorem mem_members {a d n : Int} : n ∈ members a d ↔ mem a d n = true := by
  unfold members
  rw [List.mem_filter]
  constructor
  · exact fun h => h.2
  · intro h
    refine ⟨?_, h⟩
    have : 0 ≤ n ∧ n < 6 := by unfold mem at h; simp at h; exact h.1
    rcases (show n = 0 ∨ n = 1 ∨ n = 2 ∨ n = 3 ∨ n = 4 ∨ n = 5 by omega) with rfl | rfl | rfl | rfl | rfl | rfl <;> simp [six]
theorem slices_Index_l0 (xs : List Int) (x : Int) (hn : xs.length < 4611686018427387904) (m : Nat) : ∀ (i : Nat), xs.length - i = m → i ≤ xs.length → ∃ r, Ev (fun k => slices_Index_int_int.l0 k xs x (xs.length : Int) (i : Int)) r ∧ (0 ≤ r ↔ x ∈ xs.drop i) := by
  induction m with
  | zero =>
    intro i hm hi
    refine ⟨-1, Ev.const fun k => ?_, ?_⟩
    · simp only [slices_Index_int_int.l0]; rw [if_neg (by omega)]
    · rw [List.drop_eq_nil_of_le (by omega)]; simp
  | succ m ih =>
    intro i hm hi
    have hlt : i < xs.length := by omega
    rw [drop_cons hlt 0]
    by_cases hx : x = xs.getD i 0
    · refine ⟨i, Ev.const fun k => ?_, ?_⟩
      · simp only [slices_Index_int_int.l0]
        rw [if_pos (by omega), if_pos (by omega), if_pos (by omega), if_pos (show x = rd xs i from hx)]
      · simp [hx]
    · obtain ⟨r, hr, hm2⟩ := ih (i + 1) (by omega) (by omega)
      refine ⟨r, Ev.step' hr fun k => ?_, ?_⟩
      · simp only [slices_Index_int_int.l0]
        rw [if_pos (by omega), if_pos (by omega), if_pos (by omega), if_neg (show ¬ x = rd xs i from hx), wrap_nat (by omega)]
      · rw [hm2, List.mem_cons]
        exact ⟨fun h => .inr h, fun h => h.elim (fun e => absurd e hx) id⟩
theorem slices_Contains_ev (xs : List Int) (x : Int) (hn : xs.length < 4611686018427387904) : Ev (fun k => slices_Contains_int_int.f k xs x) (decide (x ∈ xs)) := by
  obtain ⟨r, hr, hm⟩ := slices_Index_l0 xs x hn xs.length 0 (by omega) (by omega)
  unfold slices_Contains_int_int.f
  refine Ev.bind (a := r) hr (Ev.all fun k => ?_)
  rw [Option.some.injEq, decide_eq_decide]
  exact hm
def hits (who l : List Int) : Nat := (l.filter (fun m => decide (m ∈ who))).length
theorem hits_le (who l : List Int) : hits who l ≤ l.length := List.length_filter_le _ _
def enough (a d : Int) (who : List Int) : Bool := decide (2 * hits who (members a d) > (members a d).length)
theorem view_Enough_l0 (who l l0 : List Int) (hn : who.length < 4611686018427387904) (hl : l.length ≤ 6) (m : Nat) : ∀ (i n : Nat), l.length - i = m → i ≤ l.length → n ≤ i → Ev (fun k => view_Enough.l0 k who l0 (n : Int) l (l.length : Int) (i : Int)) (decide (2 * ((n + hits who (l.drop i) : Nat) : Int) > (l0.length : Int))) := by
  induction m with
  | zero =>
    intro i n hm hi hni
    refine Ev.const fun k => ?_
    simp only [view_Enough.l0]
    rw [if_neg (by omega), List.drop_eq_nil_of_le (by omega), wrap_in (by omega) (by omega)]
    simp [hits]
  | succ m ih =>
    intro i n hm hi hni
    have hlt : i < l.length := by omega
    rw [drop_cons hlt 0]
    refine Ev.step' (f := fun k => ((slices_Contains_int_int.f k who (rd l i)).bind fun t116 => (if t116 = true then (view_Enough.l0 k who l0 (wrap64 ((n : Int) + 1)) l (l.length : Int) (wrap64 ((i : Int) + 1))) else (view_Enough.l0 k who l0 (n : Int) l (l.length : Int) (wrap64 ((i : Int) + 1)))))) ?_ (fun k => by
      simp only [view_Enough.l0]
      rw [if_pos (by omega), if_pos (by omega), if_pos (by omega)])
    refine Ev.bind (slices_Contains_ev who _ hn) ?_
    rw [wrap_nat (show i < 4611686018427387904 by omega), wrap_nat (show n < 4611686018427387904 by omega)]
    have e : rd l i = l.getD i 0 := rfl
    rw [e]
    by_cases hw : l.getD i 0 ∈ who
    · refine Ev.ite_pos (decide_eq_true hw) ?_
      have := ih (i + 1) (n + 1) (by omega) (by omega) (by omega)
      have eh : hits who (l.getD i 0 :: l.drop (i + 1)) = hits who (l.drop (i + 1)) + 1 := by unfold hits; rw [List.filter_cons_of_pos (by simpa using hw)]; rfl
      rw [eh, show n + (hits who (l.drop (i + 1)) + 1) = n + 1 + hits who (l.drop (i + 1)) by omega]
      exact this
    · refine Ev.ite_neg (by simpa using hw) ?_
      have := ih (i + 1) n (by omega) (by omega) (by omega)
      have eh : hits who (l.getD i 0 :: l.drop (i + 1)) = hits who (l.drop (i + 1)) := by unfold hits; rw [List.filter_cons_of_neg (by simpa using hw)]
      rw [eh]
      exact this
theorem view_Enough_ev {a d : Int} (h : Rt a d) (who : List Int) (hn : who.length < 4611686018427387904) : Ev (fun k => view_Enough.f k a d who) (enough a d who) := by
  unfold view_Enough.f
  refine Ev.bind (view_Members_ev h) ?_
  have := view_Enough_l0 who (members a d) (members a d) hn (members_len a d) (members a d).length 0 0 (by omega) (by omega) (by omega)
  have e : decide (2 * ((0 + hits who ((members a d).drop 0) : Nat) : Int) > ((members a d).length : Int)) = enough a d who := by
    unfold enough
    rw [decide_eq_decide, List.drop_zero]; omega
  rw [e] at this
  exact this

theorem alive : Ev (fun k => ropewaylaw05_viewAlive.f k) true := Ev.closed ropewaylaw05_viewAlive.mono 30 (by decide +kernel)
theorem right_eq (a d : Int) : change_Right.f a d = some (decide (0 ≤ a ∧ a < 64 ∧ 0 ≤ d ∧ d < 64)) := by
  unfold change_Right.f
  (repeat' split) <;> simp_all <;> omega
def others (who : List Int) : List Int := six.filter (fun k => decide (¬ k ∈ who))
theorem hits_two (who : List Int) (l : List Int) (hl : ∀ x ∈ l, x ∈ six) : hits who l + hits (others who) l = l.length := by
  induction l with
  | nil => rfl
  | cons x l ih =>
    have ih := ih (fun y hy => hl y (List.mem_cons_of_mem _ hy))
    have hx := hl x (List.mem_cons_self ..)
    unfold hits at ih ⊢
    simp only [List.filter_cons]
    have ho : (x ∈ others who) ↔ ¬ x ∈ who := by
      unfold others
      rw [List.mem_filter]
      simp [hx]
    by_cases hw : x ∈ who
    · simp [hw, ho]; omega
    · simp [hw, ho]; omega
theorem members_six {a d : Int} : ∀ x ∈ members a d, x ∈ six := fun x hx => (List.mem_filter.1 hx).1
theorem hits_all (l : List Int) : hits l l = l.length := by
  unfold hits
  rw [List.filter_eq_self.2]
  intro x hx
  simpa using hx
theorem hits_more {u v : List Int} (h : ∀ x, x ∈ u → x ∈ v) (l : List Int) : hits u l ≤ hits v l := by
  unfold hits
  induction l with
  | nil => simp
  | cons x l ih =>
    simp only [List.filter_cons]
    by_cases hu : x ∈ u
    · simp [hu, h x hu]; omega
    · by_cases hv : x ∈ v
      · simp [hu, hv]; omega
      · simp [hu, hv]; omega
theorem l1_ev {a d : Int} (who acc : List Int) (x : Int) (hn : who.length ≤ 50)
    (hR : Ev (fun k => ropewaylaw05_ViewHalves.l0 k who (if x ∈ who then acc else acc ++ [x]) (wrap64 (x + 1)) a d) true) (ha : acc.length < 17592186044416) (m : Nat) :
    ∀ (i : Nat) (c : Bool), who.length - i = m → i ≤ who.length → (c || decide (x ∈ who.drop i)) = decide (x ∈ who) → Ev (fun k => ropewaylaw05_ViewHalves.l1 k who acc x c who (who.length : Int) (i : Int) a d) true := by
  induction m with
  | zero =>
    intro i c hm hi hc
    rw [List.drop_eq_nil_of_le (by omega)] at hc
    have hc' : c = decide (x ∈ who) := by rw [← hc]; simp
    refine Ev.step' hR fun k => ?_
    simp only [ropewaylaw05_ViewHalves.l1]
    rw [if_neg (by omega), hc']
    by_cases hx : x ∈ who
    · simp [hx]
    · rw [if_neg (by simpa using hx), if_pos ha, if_neg hx]
  | succ m ih =>
    intro i c hm hi hc
    have hlt : i < who.length := by omega
    rw [drop_cons hlt 0] at hc
    cases c
    · refine Ev.step' (ih (i + 1) (who.getD i 0 == x) (by omega) (by omega) ?_) fun k => ?_
      · rw [← hc, Bool.false_or, Bool.eq_iff_iff]
        simp only [Bool.or_eq_true, beq_iff_eq, decide_eq_true_eq, List.mem_cons]
        exact ⟨fun h => h.imp Eq.symm id, fun h => h.imp Eq.symm id⟩
      · simp only [ropewaylaw05_ViewHalves.l1]
        rw [if_pos (by omega), if_pos (by omega), if_pos (by omega), if_neg (by simp), wrap_nat (by omega)]
        rfl
    · refine Ev.step' (ih (i + 1) true (by omega) (by omega) ?_) fun k => ?_
      · rw [← hc]; simp
      · simp only [ropewaylaw05_ViewHalves.l1]
        rw [if_pos (by omega), if_pos (by omega), if_pos (by omega), if_pos trivial, wrap_nat (by omega)]
theorem j3_ev {a d : Int} (hr : Rt a d) (who : List Int) (hn : who.length ≤ 50) : Ev (fun k => ropewaylaw05_ViewHalves.j3 k who (others who) false a d) true := by
  have ho : (others who).length ≤ 6 := List.length_filter_le _ _
  have hw : wrap64 (((others who).length : Int) / 2) = (((others who).length / 2 : Nat) : Int) := by rw [wrap_in (by omega) (by omega)]; omega
  refine Ev.step' (f := fun k => ((some (([] : List Int) : List Int)).bind fun y177 => (if y177.length + who.length < 17592186044416 then ((some (y177 ++ who : List Int)).bind fun y180 => (if 0 ≤ (wrap64 (((others who).length : Int) / 2)) then (if (wrap64 (((others who).length : Int) / 2)) ≤ ((others who).length : Int) then ((some ((others who).take ((wrap64 (((others who).length : Int) / 2)) : Int).toNat : List Int)).bind fun y183 => (if y180.length + y183.length < 17592186044416 then ((view_Enough.f k a d who).bind fun t190 => (if t190 = true then ((view_Enough.f k a d (y180 ++ y183)).bind fun t191 => (some t191)) else (some true))) else (none))) else (none)) else (none))) else (none)))) ?_ (fun k => by
    simp only [ropewaylaw05_ViewHalves.j3]
    rw [if_neg (by simp)])
  rw [hw]
  refine Ev.bind_all rfl ?_
  refine Ev.ite_pos (by simp; omega) ?_
  refine Ev.bind_all rfl ?_
  refine Ev.ite_pos (by omega) ?_
  refine Ev.ite_pos (by omega) ?_
  refine Ev.bind_all rfl ?_
  refine Ev.ite_pos (by simp; omega) ?_
  refine Ev.bind (view_Enough_ev hr who (by omega)) ?_
  refine Ev.ite (fun he => ?_) (fun _ => Ev.all fun k => rfl)
  refine Ev.bind (view_Enough_ev hr _ (by simp; omega)) (Ev.all fun k => ?_)
  have h1 := of_decide_eq_true he
  have h2 := hits_more (u := who) (v := [] ++ who ++ (others who).take ((((others who).length / 2 : Nat) : Int)).toNat) (fun x hx => by simp [hx]) (members a d)
  rw [Option.some.injEq]
  exact decide_eq_true (by omega)
theorem l0_ev {a d : Int} (hr : Rt a d) (who : List Int) (hn : who.length ≤ 50) (m : Nat) : ∀ (i : Nat) (acc : List Int), 6 - i = m → i ≤ 6 → acc.length ≤ i → acc ++ (six.drop i).filter (fun k => decide (¬ k ∈ who)) = others who →
    Ev (fun k => ropewaylaw05_ViewHalves.l0 k who acc (i : Int) a d) true := by
  induction m with
  | zero =>
    intro i acc hm hi hl ha
    obtain rfl : i = 6 := by omega
    have ha' : acc = others who := by simpa [six] using ha
    subst ha'
    have hM := members_len a d
    have h2 := hits_two who (members a d) members_six
    have hall : enough a d (members a d) = decide (((members a d).length : Int) > 0) := by
      unfold enough
      rw [hits_all, decide_eq_decide]; omega
    refine Ev.step' (f := fun k => ((view_Members.f k a d).bind fun t170 => ((view_Enough.f k a d who).bind fun t173 => (if t173 = true then ((view_Enough.f k a d (others who)).bind fun t174 => (if t174 = true then (ropewaylaw05_ViewHalves.j3 k who (others who) true a d) else ((view_Enough.f k a d t170).bind fun t175 => (ropewaylaw05_ViewHalves.j3 k who (others who) (t175 != (decide ((t170.length : Int) > 0))) a d)))) else ((view_Enough.f k a d t170).bind fun t176 => (ropewaylaw05_ViewHalves.j3 k who (others who) (t176 != (decide ((t170.length : Int) > 0))) a d)))))) ?_ (fun k => by
      simp only [ropewaylaw05_ViewHalves.l0]
      rw [if_neg (by decide)])
    refine Ev.bind (view_Members_ev hr) ?_
    refine Ev.bind (view_Enough_ev hr who (by omega)) ?_
    have e : (enough a d (members a d) != decide (((members a d).length : Int) > 0)) = false := by rw [hall]; simp
    refine Ev.ite (fun h1 => ?_) (fun _ => ?_)
    · refine Ev.bind (view_Enough_ev hr (others who) (by omega)) ?_
      refine Ev.ite_neg ?_ ?_
      · intro h3
        have e1 := of_decide_eq_true h1
        have e3 := of_decide_eq_true h3
        omega
      · refine Ev.bind (view_Enough_ev hr (members a d) (by omega)) ?_
        rw [e]
        exact j3_ev hr who hn
    · refine Ev.bind (view_Enough_ev hr (members a d) (by omega)) ?_
      rw [e]
      exact j3_ev hr who hn
  | succ m ih =>
    intro i acc hm hi hl ha
    have hlt : i < 6 := by omega
    rw [six_get hlt] at ha
    refine Ev.step' (l1_ev (a := a) (d := d) who acc i hn ?_ (by omega) who.length 0 false (by omega) (by omega) (by simp)) fun k => ?_
    · rw [wrap_nat (by omega)]
      by_cases hx : (i : Int) ∈ who
      · rw [if_pos hx]
        rw [List.filter_cons_of_neg (by simpa using hx)] at ha
        exact ih (i + 1) acc (by omega) (by omega) (by omega) ha
      · rw [if_neg hx]
        rw [List.filter_cons_of_pos (by simpa using hx)] at ha
        exact ih (i + 1) (acc ++ [(i : Int)]) (by omega) (by omega) (by simp; omega) (by rw [List.append_assoc]; exact ha)
    · simp only [ropewaylaw05_ViewHalves.l0]
      rw [if_pos (by omega)]
      rfl
theorem ViewHalves : ropewaylaw05_ViewHalves.Pure := by
  intro a d who _ _ ⟨_, hl, _⟩
  have jt : Ev (fun k => ropewaylaw05_ViewHalves.j0 k who true a d) true := Ev.const fun k => by
    simp only [ropewaylaw05_ViewHalves.j0]; rw [if_pos trivial]
  have hall : Ev (fun k => ropewaylaw05_ViewHalves.f k a d who) true := by
    unfold ropewaylaw05_ViewHalves.f
    refine Ev.bind alive ?_
    refine Ev.ite_pos rfl ?_
    refine Ev.bind_all (right_eq a d) ?_
    by_cases h : 0 ≤ a ∧ a < 64 ∧ 0 ≤ d ∧ d < 64
    · have hr : Rt a d := h
      refine Ev.ite_pos (decide_eq_true h) ?_
      by_cases hc : (who.length : Int) > 50
      · rw [decide_eq_true hc]; exact jt
      · rw [decide_eq_false hc]
        refine Ev.step' (l0_ev hr who (by omega) 6 0 [] rfl (by omega) (by simp) rfl) fun k => ?_
        simp only [ropewaylaw05_ViewHalves.j0]
        rw [if_neg (by simp)]
        rfl
    · exact Ev.ite_neg (by simpa using h) jt
  exact hall.rounds

end Go.Proofs.Ytkefmjdhbmmaaaa.Pure
