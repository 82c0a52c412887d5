/- The pure statement of the law RoundStays: a round that is done stays so, whatever comes; a member that answered isn't asked again; for every input. -/
import Derived.Test.YtmgiaappokkjfaaPRoundStaysx
import Derived.Test.YtmgiaappokkjfaaSRoundStaysXPure
import Derived.Test.YtmgiaappokkjfaaSRoundStaysXOpen
namespace Go.Proofs.Ytmgiaappokkjfaa.Pure
open Go.RowKit Go.Proofs.Ytmgiaappokkjfaa.PRoundStays Go.Proofs.YtmgiaappokkjfaaW.PrintWords Go.Proofs.YtmgiaappokkjfaaW.PrintLast Go.Proofs.YtmgiaappokkjfaaW.PrintMore Go.Proofs.YtmgiaappokkjfaaX
set_option linter.unusedVariables false
set_option linter.unusedSimpArgs false
/-! the parts of the layers below, under names of their own -/
/-! views: who is a member, how many are enough -/
def bitB (x n : Int) : Bool := x / 2 ^ n.toNat % 2 == 1
def mem (a d n : Int) : Bool := decide (0 ≤ n ∧ n < 6) && (bitB a n && !bitB d n)
def Rt (a d : Int) : Prop := 0 ≤ a ∧ a < 64 ∧ 0 ≤ d ∧ d < 64
theorem bit_fin (p : Int → Int → Prop) (h : ∀ (a : Fin 64) (n : Fin 6), p (a.val : Int) (n.val : Int)) {x n : Int} (h0 : 0 ≤ x) (h1 : x < 64) (h2 : 0 ≤ n) (h3 : n < 6) : p x n := by
  have := h ⟨x.toNat, by omega⟩ ⟨n.toNat, by omega⟩
  simpa [Int.toNat_of_nonneg h0, Int.toNat_of_nonneg h2] using this
theorem shr_bit {x n : Int} (h0 : 0 ≤ x) (h1 : x < 64) (h2 : 0 ≤ n) (h3 : n < 6) : Go.bits .and .i64 (shr .i64 x n) 1 = if bitB x n then 1 else 0 :=
  bit_fin (fun x n => Go.bits .and .i64 (shr .i64 x n) 1 = if bitB x n then 1 else 0) (by decide +kernel) h0 h1 h2 h3
theorem view_In_eq {a d : Int} (h : Rt a d) (n : Int) : view_In.f a d n = some (mem a d n) := by
  obtain ⟨a0, a1, d0, d1⟩ := h
  unfold view_In.f mem
  by_cases h0 : n ≥ 0
  · by_cases h1 : n < 6
    · rw [if_pos h0, if_pos h1, if_pos h0, shr_bit a0 a1 h0 h1, shr_bit d0 d1 h0 h1]
      cases bitB a n <;> cases bitB d n <;> simp [h0, h1]
    · rw [if_pos h0, if_neg h1]; simp [h1]
  · rw [if_neg h0]; simp [h0]
def six : List Int := [0, 1, 2, 3, 4, 5]
def members (a d : Int) : List Int := six.filter (mem a d)
theorem six_len : six.length = 6 := rfl
theorem six_get {i : Nat} (h : i < 6) : six.drop i = (i : Int) :: six.drop (i + 1) := by
  rcases (show i = 0 ∨ i = 1 ∨ i = 2 ∨ i = 3 ∨ i = 4 ∨ i = 5 by omega) with rfl | rfl | rfl | rfl | rfl | rfl <;> rfl
theorem view_Members_l0 {a d : Int} (h : Rt a d) (m : Nat) : ∀ (i : Nat) (acc : List Int), 6 - i = m → i ≤ 6 → acc.length ≤ i → Ev (fun k => view_Members.l0 k acc (i : Int) a d) (acc ++ (six.drop i).filter (mem a d)) := by
  induction m with
  | zero =>
    intro i acc hm hi hl
    obtain rfl : i = 6 := by omega
    refine Ev.const fun k => ?_
    simp only [view_Members.l0]
    rw [if_neg (by decide)]
    simp [six]
  | succ m ih =>
    intro i acc hm hi hl
    have hlt : i < 6 := by omega
    rw [six_get hlt]
    cases hb : mem a d i
    · rw [List.filter_cons_of_neg (by simp [hb])]
      refine Ev.step' (ih (i + 1) acc (by omega) (by omega) (by omega)) fun k => ?_
      simp only [view_Members.l0]
      rw [if_pos (by omega), view_In_eq h, hb]
      simp only [Option.bind_some, Bool.false_eq_true, if_false]
      rw [wrap_nat (by omega)]
    · rw [List.filter_cons_of_pos hb]
      have := ih (i + 1) (acc ++ [(i : Int)]) (by omega) (by omega) (by simp; omega)
      rw [List.append_assoc] at this
      refine Ev.step' this fun k => ?_
      simp only [view_Members.l0]
      rw [if_pos (by omega), view_In_eq h, hb]
      simp only [Option.bind_some, if_true]
      rw [if_pos (by omega), wrap_nat (by omega)]
theorem view_Members_ev {a d : Int} (h : Rt a d) : Ev (fun k => view_Members.f k a d) (members a d) := view_Members_l0 h 6 0 [] rfl (by omega) (by simp)
theorem members_len (a d : Int) : (members a d).length ≤ 6 := List.length_filter_le _ _
theorem mem_members {a d n : Int} : n ∈ members a d ↔ mem a d n = true := by
  unfold members
  rw [List.mem_filter]
  constructor
  · exact fun h => h.2
  · intro h
    refine ⟨?_, h⟩
    have : 0 ≤ n ∧ n < 6 := by unfold mem at h; simp at h; exact h.1
    rcases (show n = 0 ∨ n = 1 ∨ n = 2 ∨ n = 3 ∨ n = 4 ∨ n = 5 by omega) with rfl | rfl | rfl | rfl | rfl | rfl <;> simp [six]
theorem slices_Index_l0 (xs : List Int) (x : Int) (hn : xs.length < 4611686018427387904) (m : Nat) : ∀ (i : Nat), xs.length - i = m → i ≤ xs.length → ∃ r, Ev (fun k => slices_Index_int_int.l0 k xs x (xs.length : Int) (i : Int)) r ∧ (0 ≤ r ↔ x ∈ xs.drop i) := by
  induction m with
  | zero =>
    intro i hm hi
    refine ⟨-1, Ev.const fun k => ?_, ?_⟩
    · simp only [slices_Index_int_int.l0]; rw [if_neg (by omega)]
    · rw [List.drop_eq_nil_of_le (by omega)]; simp
  | succ m ih =>
    intro i hm hi
    have hlt : i < xs.length := by omega
    rw [drop_cons hlt 0]
    by_cases hx : x = xs.getD i 0
    · refine ⟨i, Ev.const fun k => ?_, ?_⟩
      · simp only [slices_Index_int_int.l0]
        rw [if_pos (by omega), if_pos (by omega), if_pos (by omega), if_pos (show x = rd xs i from hx)]
      · simp [hx]
    · obtain ⟨r, hr, hm2⟩ := ih (i + 1) (by omega) (by omega)
      refine ⟨r, Ev.step' hr fun k => ?_, ?_⟩
      · simp only [slices_Index_int_int.l0]
        rw [if_pos (by omega), if_pos (by omega), if_pos (by omega), if_neg (show ¬ x = rd xs i from hx), wrap_nat (by omega)]
      · rw [hm2, List.mem_cons]
        exact ⟨fun h => .inr h, fun h => h.elim (fun e => absurd e hx) id⟩
theorem slices_Contains_ev (xs : List Int) (x : Int) (hn : xs.length < 4611686018427387904) : Ev (fun k => slices_Contains_int_int.f k xs x) (decide (x ∈ xs)) := by
  obtain ⟨r, hr, hm⟩ := slices_Index_l0 xs x hn xs.length 0 (by omega) (by omega)
  unfold slices_Contains_int_int.f
  refine Ev.bind (a := r) hr (Ev.all fun k => ?_)
  rw [Option.some.injEq, decide_eq_decide]
  exact hm
def hits (who l : List Int) : Nat := (l.filter (fun m => decide (m ∈ who))).length
theorem hits_le (who l : List Int) : hits who l ≤ l.length := List.length_filter_le _ _
def enough (a d : Int) (who : List Int) : Bool := decide (2 * hits who (members a d) > (members a d).length)
theorem view_Enough_l0 (who l l0 : List Int) (hn : who.length < 4611686018427387904) (hl : l.length ≤ 6) (m : Nat) : ∀ (i n : Nat), l.length - i = m → i ≤ l.length → n ≤ i → Ev (fun k => view_Enough.l0 k who l0 (n : Int) l (l.length : Int) (i : Int)) (decide (2 * ((n + hits who (l.drop i) : Nat) : Int) > (l0.length : Int))) := by
  induction m with
  | zero =>
    intro i n hm hi hni
    refine Ev.const fun k => ?_
    simp only [view_Enough.l0]
    rw [if_neg (by omega), List.drop_eq_nil_of_le (by omega), wrap_in (by omega) (by omega)]
    simp [hits]
  | succ m ih =>
    intro i n hm hi hni
    have hlt : i < l.length := by omega
    rw [drop_cons hlt 0]
    refine Ev.step' (f := fun k => ((slices_Contains_int_int.f k who (rd l i)).bind fun t116 => (if t116 = true then (view_Enough.l0 k who l0 (wrap64 ((n : Int) + 1)) l (l.length : Int) (wrap64 ((i : Int) + 1))) else (view_Enough.l0 k who l0 (n : Int) l (l.length : Int) (wrap64 ((i : Int) + 1)))))) ?_ (fun k => by
      simp only [view_Enough.l0]
      rw [if_pos (by omega), if_pos (by omega), if_pos (by omega)])
    refine Ev.bind (slices_Contains_ev who _ hn) ?_
    rw [wrap_nat (show i < 4611686018427387904 by omega), wrap_nat (show n < 4611686018427387904 by omega)]
    have e : rd l i = l.getD i 0 := rfl
    rw [e]
    by_cases hw : l.getD i 0 ∈ who
    · refine Ev.ite_pos (decide_eq_true hw) ?_
      have := ih (i + 1) (n + 1) (by omega) (by omega) (by omega)
      have eh : hits who (l.getD i 0 :: l.drop (i + 1)) = hits who (l.drop (i + 1)) + 1 := by unfold hits; rw [List.filter_cons_of_pos (by simpa using hw)]; rfl
      rw [eh, show n + (hits who (l.drop (i + 1)) + 1) = n + 1 + hits who (l.drop (i + 1)) by omega]
      exact this
    · refine Ev.ite_neg (by simpa using hw) ?_
      have := ih (i + 1) n (by omega) (by omega) (by omega)
      have eh : hits who (l.getD i 0 :: l.drop (i + 1)) = hits who (l.drop (i + 1)) := by unfold hits; rw [List.filter_cons_of_neg (by simpa using hw)]
      rw [eh]
      exact this
theorem view_Enough_ev {a d : Int} (h : Rt a d) (who : List Int) (hn : who.length < 4611686018427387904) : Ev (fun k => view_Enough.f k a d who) (enough a d who) := by
  unfold view_Enough.f
  refine Ev.bind (view_Members_ev h) ?_
  have := view_Enough_l0 who (members a d) (members a d) hn (members_len a d) (members a d).length 0 0 (by omega) (by omega) (by omega)
  have e : decide (2 * ((0 + hits who ((members a d).drop 0) : Nat) : Int) > ((members a d).length : Int)) = enough a d who := by
    unfold enough
    rw [decide_eq_decide, List.drop_zero]; omega
  rw [e] at this
  exact this

/-! six Bools as a function -/
def up (f : Nat → Bool) (j : Int) (v : Bool) : Nat → Bool := fun i => stA j (i : Int) v (f i)
def six6 (a b c d e f : Bool) : Nat → Bool
  | 0 => a | 1 => b | 2 => c | 3 => d | 4 => e | _ => f
theorem rd6 (f : Nat → Bool) {i : Nat} (h : i < 6) : rdOf false [f 0, f 1, f 2, f 3, f 4, f 5] (i : Int) = f i := by
  have : i = 0 ∨ i = 1 ∨ i = 2 ∨ i = 3 ∨ i = 4 ∨ i = 5 := by omega
  rcases this with rfl | rfl | rfl | rfl | rfl | rfl <;> rfl
theorem up_at (f : Nat → Bool) (i j : Nat) (v : Bool) : up f (i : Int) v j = if i = j then v else f j := by
  unfold up stA
  by_cases h : i = j
  · rw [if_pos h, if_pos (by omega)]
  · rw [if_neg h, if_neg (by omega)]

namespace CL
def pc (x : Int) : Int := x
theorem pc_zer0 {x : Int} (h0 : 0 ≤ x) (h1 : x < 64) : pc x = 0 ↔ x = 0 := Iff.rfl
theorem pc_some {x : Int} (h0 : 0 ≤ x) (h1 : x < 64) : True ∧ 0 ≤ pc x ∧ pc x ≤ 64 := ⟨trivial, h0, by unfold pc; omega⟩
/-! cells: Of, News, Merge, Changes, Check, Clash -/
abbrev C := S43
abbrev V := S23
theorem getD_at {α : Type} (w : List α) (c z : α) (s : List α) : (w ++ c :: s).getD w.length z = c := by simp [List.getD]
theorem bits_Len_12 {n : Nat} (h : n ≤ 12) : ∃ v, Ev (fun k => bits_Len.f k (IntKind.u64.wrap (n : Int))) v := by
  have : n = 0 ∨ n = 1 ∨ n = 2 ∨ n = 3 ∨ n = 4 ∨ n = 5 ∨ n = 6 ∨ n = 7 ∨ n = 8 ∨ n = 9 ∨ n = 10 ∨ n = 11 ∨ n = 12 := by omega
  rcases this with rfl | rfl | rfl | rfl | rfl | rfl | rfl | rfl | rfl | rfl | rfl | rfl | rfl
  · exact ⟨0, Ev.closed (bits_Len.mono _) 5 (by decide +kernel)⟩
  · exact ⟨1, Ev.closed (bits_Len.mono _) 5 (by decide +kernel)⟩
  · exact ⟨2, Ev.closed (bits_Len.mono _) 5 (by decide +kernel)⟩
  · exact ⟨2, Ev.closed (bits_Len.mono _) 5 (by decide +kernel)⟩
  · exact ⟨3, Ev.closed (bits_Len.mono _) 5 (by decide +kernel)⟩
  · exact ⟨3, Ev.closed (bits_Len.mono _) 5 (by decide +kernel)⟩
  · exact ⟨3, Ev.closed (bits_Len.mono _) 5 (by decide +kernel)⟩
  · exact ⟨3, Ev.closed (bits_Len.mono _) 5 (by decide +kernel)⟩
  · exact ⟨4, Ev.closed (bits_Len.mono _) 5 (by decide +kernel)⟩
  · exact ⟨4, Ev.closed (bits_Len.mono _) 5 (by decide +kernel)⟩
  · exact ⟨4, Ev.closed (bits_Len.mono _) 5 (by decide +kernel)⟩
  · exact ⟨4, Ev.closed (bits_Len.mono _) 5 (by decide +kernel)⟩
  · exact ⟨4, Ev.closed (bits_Len.mono _) 5 (by decide +kernel)⟩
def findC : List C → Int → Option V
  | [], _ => none
  | c :: l, n => if c.f0 = n then some c.f1 else findC l n
def hasC (l : List C) (n : Int) : Bool := (findC l n).isSome
def ofR (o : Option V) : Int × Int × Bool := match o with | some v => (v.f0, v.f1, true) | none => (0, 0, false)
theorem of_l0 (xs : List C) (hn : xs.length < 4611686018427387904) (n : Int) (d : Nat) : ∀ (i : Nat), xs.length - i = d → i ≤ xs.length →
    ∃ r : Int, Ev (fun k => api_Cell_102_3.l0 k xs (xs.length : Int) (i : Int) n) r ∧ ((r = -1 ∧ findC (xs.drop i) n = none) ∨ ∃ j : Nat, r = (j : Int) ∧ j < xs.length ∧ findC (xs.drop i) n = some (xs.getD j z43).f1) := by
  induction d with
  | zero =>
    intro i hd hi
    refine ⟨-1, Ev.const fun k => ?_, Or.inl ⟨rfl, ?_⟩⟩
    · simp only [api_Cell_102_3.l0]
      rw [if_neg (by omega)]
    · rw [List.drop_eq_nil_of_le (by omega)]; rfl
  | succ d ih =>
    intro i hd hi
    have hlt : i < xs.length := by omega
    have e : rd_T43 xs i = xs.getD i z43 := rfl
    rw [drop_cons hlt z43]
    generalize hx : xs.getD i z43 = x at e
    by_cases hk : x.f0 = n
    · refine ⟨i, Ev.const fun k => ?_, Or.inr ⟨i, rfl, hlt, ?_⟩⟩
      · simp only [api_Cell_102_3.l0]
        rw [if_pos (by omega), if_pos (by omega), if_pos (by omega), e]
        simp [cells_Of_1.f, hk]
      · simp only [findC]; rw [if_pos hk, hx]
    · obtain ⟨r, hr, hc⟩ := ih (i + 1) (by omega) (by omega)
      refine ⟨r, Ev.step' hr fun k => ?_, ?_⟩
      · simp only [api_Cell_102_3.l0]
        rw [if_pos (by omega), if_pos (by omega), if_pos (by omega), e, wrap_nat (by omega)]
        simp [cells_Of_1.f, hk]
      · simp only [findC]; rw [if_neg hk]; exact hc
theorem of_ev (xs : List C) (hn : xs.length < 4611686018427387904) (n : Int) : Ev (fun k => cells_Of.f k xs n) (ofR (findC xs n)) := by
  unfold cells_Of.f
  obtain ⟨r, hr, h⟩ := of_l0 xs hn n xs.length 0 (by omega) (by omega)
  refine Ev.bind (show Ev (fun k => api_Cell_102_3.f k xs n) r from hr) ?_
  rcases h with ⟨rfl, hf⟩ | ⟨j, rfl, hj, hf⟩
  · rw [List.drop_zero] at hf
    refine Ev.ite_pos (by decide) (Ev.all fun k => ?_)
    rw [hf]; rfl
  · rw [List.drop_zero] at hf
    refine Ev.ite_neg (by omega) (Ev.ite_pos (by omega) (Ev.ite_pos (by omega) (Ev.all fun k => ?_)))
    rw [hf]; rfl
theorem ofR_has (l : List C) (n : Int) : (ofR (findC l n)).2.2 = hasC l n := by
  unfold hasC ofR; cases findC l n <;> rfl
theorem news1_ev (c : C) (l : List C) (hn : l.length < 4611686018427387904) : Ev (fun k => cells_News_1.f k c.f0 c.f1.f0 c.f1.f1 l) (hasC l c.f0) := by
  unfold cells_News_1.f
  refine Ev.bind (of_ev l hn c.f0) (Ev.all fun k => ?_)
  rw [ofR_has]
def newsL (old l : List C) : List C := l.filter fun c => !hasC old c.f0
theorem idx_l0 (old : List C) (ho : old.length < 4611686018427387904) (n : Nat) (hn : n < 4611686018427387904) (s : List C) : ∀ (p : List C), (p ++ s).length = n →
    (newsL old s = s ∧ Ev (fun k => api_Cell_91_24.l0 k (p ++ s) (n : Int) (p.length : Int) old) (-1)) ∨
    ∃ s1 c s2, s = s1 ++ c :: s2 ∧ newsL old s1 = s1 ∧ hasC old c.f0 = true ∧ Ev (fun k => api_Cell_91_24.l0 k (p ++ s) (n : Int) (p.length : Int) old) ((p.length + s1.length : Nat) : Int) := by
  induction s with
  | nil =>
    intro p hl
    refine Or.inl ⟨rfl, Ev.const fun k => ?_⟩
    simp only [api_Cell_91_24.l0]
    rw [if_neg (by simp at hl; omega)]
  | cons c s ih =>
    intro p hl
    have rc : rd_T43 (p ++ c :: s) (p.length : Int) = c := by
      show (p ++ c :: s).getD p.length _ = c
      simp [List.getD]
    have hl2 : p.length + (s.length + 1) = n := by simpa using hl
    by_cases h : hasC old c.f0 = true
    · refine Or.inr ⟨[], c, s, rfl, rfl, h, Ev.succ ?_⟩
      simp only [api_Cell_91_24.l0]
      rw [rc]
      refine Ev.ite_pos (by omega) (Ev.ite_pos (by omega) (Ev.ite_pos (by omega) ?_))
      exact Ev.bind (news1_ev c old ho) (Ev.ite_pos h (Ev.all fun k => rfl))
    · have st : ∀ r : Int, Ev (fun k => api_Cell_91_24.l0 k ((p ++ [c]) ++ s) (n : Int) ((p ++ [c]).length : Int) old) r → Ev (fun k => api_Cell_91_24.l0 k (p ++ c :: s) (n : Int) (p.length : Int) old) r := by
        intro r hr
        refine Ev.succ ?_
        simp only [api_Cell_91_24.l0]
        rw [rc]
        refine Ev.ite_pos (by omega) (Ev.ite_pos (by omega) (Ev.ite_pos (by omega) ?_))
        refine Ev.bind (news1_ev c old ho) (Ev.ite_neg h ?_)
        rw [wrap_nat (by omega)]
        simpa using hr
      have hf : newsL old (c :: s) = c :: newsL old s := List.filter_cons_of_pos (by simpa using h)
      rcases ih (p ++ [c]) (by simpa using hl) with ⟨h1, h2⟩ | ⟨s1, c', s2, rfl, h1, h2, h3⟩
      · exact Or.inl ⟨by rw [hf, h1], st _ h2⟩
      · refine Or.inr ⟨c :: s1, c', s2, rfl, ?_, h2, ?_⟩
        · show newsL old (c :: s1) = _
          rw [show newsL old (c :: s1) = c :: newsL old s1 from List.filter_cons_of_pos (by simpa using h), h1]
        · have := st _ h3
          rw [show (p ++ [c]).length + s1.length = p.length + (c :: s1).length by simp; omega] at this
          exact this
theorem del_l0 (old : List C) (ho : old.length < 4611686018427387904) (n : Nat) (hn : n < 4611686018427387904) (s : List C) : ∀ (w : List C) (g : C) (gs : List C), (w ++ g :: gs ++ s).length = n →
    Ev (fun k => api_Cell_90.l0 k (w ++ g :: gs ++ s) (w.length : Int) ((w ++ g :: gs).length : Int) old) (w ++ newsL old s) := by
  induction s with
  | nil =>
    intro w g gs hl
    refine Ev.const fun k => ?_
    simp only [api_Cell_90.l0]
    rw [if_neg (by simp), if_pos (by omega), if_pos (by simp; omega)]
    simp [newsL]
  | cons c s ih =>
    intro w g gs hl
    have rc : rd_T43 (w ++ g :: gs ++ c :: s) ((w ++ g :: gs).length : Int) = c := by
      show (w ++ g :: gs ++ c :: s).getD (w ++ g :: gs).length _ = c
      rw [getD_at]
    have hl2 : w.length + (gs.length + 1) + (s.length + 1) = n := by simp at hl ⊢; omega
    have hw : wrap64 (((w ++ g :: gs).length : Int) + 1) = (((w ++ g :: gs).length + 1 : Nat) : Int) := wrap_nat (by simp; omega)
    refine Ev.succ ?_
    simp only [api_Cell_90.l0]
    rw [rc]
    refine Ev.ite_pos (by simp; omega) (Ev.ite_pos (by omega) ?_)
    refine Ev.bind (news1_ev c old ho) ?_
    rw [hw]
    by_cases h : hasC old c.f0 = true
    · refine Ev.ite_pos h ?_
      rw [show newsL old (c :: s) = newsL old s from List.filter_cons_of_neg (by simpa using h)]
      have := ih w g (gs ++ [c]) (by simp at hl ⊢; omega)
      rw [show (w ++ g :: (gs ++ [c])).length = (w ++ g :: gs).length + 1 by simp; omega, show w ++ g :: (gs ++ [c]) ++ s = w ++ g :: gs ++ c :: s by simp] at this
      exact this
    · refine Ev.ite_neg h (Ev.ite_pos (by omega) (Ev.ite_pos (by simp; omega) ?_))
      rw [show newsL old (c :: s) = c :: newsL old s from List.filter_cons_of_pos (by simpa using h), wrap_nat (by omega)]
      have hset : (w ++ g :: gs ++ c :: s).set (w.length : Int).toNat c = w ++ [c] ++ (gs ++ [c]) ++ s := by
        rw [Int.toNat_natCast]
        simp [List.set_append]
      have key : Ev (fun k => api_Cell_90.l0 k (w ++ [c] ++ (gs ++ [c]) ++ s) ((w.length + 1 : Nat) : Int) (((w ++ g :: gs).length + 1 : Nat) : Int) old) (w ++ c :: newsL old s) := by
        have hlen : ((w ++ g :: gs).length + 1 : Nat) = (w ++ [c] ++ (gs ++ [c])).length := by simp; omega
        rw [hlen]
        cases gs with
        | nil =>
          have := ih (w ++ [c]) c [] (by simp at hl ⊢; omega)
          simpa using this
        | cons g2 gs =>
          have := ih (w ++ [c]) g2 (gs ++ [c]) (by simp at hl ⊢; omega)
          simpa using this
      rw [← hset] at key
      exact key
theorem news_ev (old l : List C) (ho : old.length < 4611686018427387904) (hl : l.length < 5864062014805) : Ev (fun k => cells_News.f k old l) (newsL old l) := by
  unfold cells_News.f
  refine Ev.bind_all (a := l) ?_ ?_
  · unfold api_Cell_44.f
    simp only [Option.bind_some]
    rw [if_pos (by simpa using hl), List.nil_append]
  · refine Ev.bind (a := newsL old l) ?_ (Ev.all fun k => rfl)
    unfold api_Cell_90.f
    rcases idx_l0 old ho l.length (by omega) l [] rfl with ⟨h1, h2⟩ | ⟨s1, c, s2, rfl, h1, h2, h3⟩
    · refine Ev.bind (show Ev (fun k => api_Cell_91_24.f k l old) (-1) from h2) ?_
      rw [h1]
      exact Ev.ite_pos rfl (Ev.all fun k => rfl)
    · rw [show ([] : List C).length + s1.length = s1.length by simp] at h3
      refine Ev.bind (show Ev (fun k => api_Cell_91_24.f k (s1 ++ c :: s2) old) (s1.length : Int) from h3) ?_
      refine Ev.ite_neg (by omega) ?_
      have := del_l0 old ho (s1 ++ c :: s2).length (by omega) s2 s1 c [] (by simp)
      rw [show newsL old (s1 ++ c :: s2) = s1 ++ newsL old s2 by
        unfold newsL at *
        rw [List.filter_append, h1, List.filter_cons_of_neg (by simpa using h2)]]
      rw [wrap_nat (by simp at hl; omega)]
      simpa using this
theorem concat_ev (a b : List C) (hab : a.length + b.length < 5864062014805) : Ev (fun k => api_Cell_70.f k [a, b]) (a ++ b) := by
  have r0 : rd_L6 [a, b] 0 = a := rfl
  have r1 : rd_L6 [a, b] 1 = b := rfl
  have v0 : wrap64 (0 + 1) = 1 := by unfold wrap64; omega
  have v1 : wrap64 (1 + 1) = 2 := by unfold wrap64; omega
  have w1 : wrap64 (0 + (a.length : Int)) = (a.length : Int) := by unfold wrap64; omega
  have w2 : wrap64 ((a.length : Int) + (b.length : Int)) = ((a.length + b.length : Nat) : Int) := by unfold wrap64; omega
  have g : Ev (fun k => api_Cell_89.f ((a.length + b.length : Nat) : Int)) ([] : List C) := by
    refine Ev.all fun k => ?_
    unfold api_Cell_89.f
    rw [if_neg (by omega), show wrap64 ((a.length + b.length : Nat) : Int) = ((a.length + b.length : Nat) : Int) by unfold wrap64; omega]
    by_cases h0 : 0 < a.length + b.length
    · rw [if_pos (by omega), if_pos (by omega), if_pos (by simp; omega), Option.bind_some, if_pos (by omega)]
      rfl
    · rw [if_neg (by omega)]
  have e2 : Ev (fun k => api_Cell_70.l1 k (a ++ b) [a, b] 2 2) (a ++ b) := Ev.const fun k => by simp only [api_Cell_70.l1]; rfl
  have e1 : Ev (fun k => api_Cell_70.l1 k a [a, b] 2 1) (a ++ b) := by
    refine Ev.succ ?_
    simp only [api_Cell_70.l1]
    rw [r1, v1]
    exact Ev.ite_pos (by decide) (Ev.ite_pos (by decide) (Ev.ite_pos (by simp) (Ev.ite_pos hab e2)))
  have e0 : Ev (fun k => api_Cell_70.l1 k [] [a, b] 2 0) (a ++ b) := by
    refine Ev.succ ?_
    simp only [api_Cell_70.l1]
    rw [r0, v0, List.nil_append]
    refine Ev.ite_pos (by decide) (Ev.ite_pos (by decide) (Ev.ite_pos (by simp) (Ev.ite_pos (by simp; omega) e1)))
  have d2 : Ev (fun k => api_Cell_70.l0 k [a, b] ((a.length + b.length : Nat) : Int) [a, b] 2 2) (a ++ b) := by
    refine Ev.succ ?_
    simp only [api_Cell_70.l0]
    exact Ev.ite_neg (by decide) (Ev.bind g e0)
  have d1 : Ev (fun k => api_Cell_70.l0 k [a, b] (a.length : Int) [a, b] 2 1) (a ++ b) := by
    refine Ev.succ ?_
    simp only [api_Cell_70.l0]
    rw [r1, w2, v1]
    exact Ev.ite_pos (by decide) (Ev.ite_pos (by decide) (Ev.ite_pos (by simp) (Ev.ite_neg (by omega) d2)))
  refine Ev.succ ?_
  show Ev (fun k => api_Cell_70.l0 (k + 1) [a, b] 0 [a, b] 2 0) (a ++ b)
  simp only [api_Cell_70.l0]
  rw [r0, w1, v0]
  exact Ev.ite_pos (by decide) (Ev.ite_pos (by decide) (Ev.ite_pos (by simp) (Ev.ite_neg (by omega) d1)))
/-! in order of the nodes -/
def clt (x y : C) : Bool := decide (x.f0 < y.f0)
theorem clt_iff (x y : C) : clt x y = true ↔ x.f0 < y.f0 := decide_eq_true_iff
theorem ccmp (x y : C) : ∃ c : Int, Ev (fun _ => cells_Merge_1.f x.f0 x.f1.f0 x.f1.f1 y.f0 y.f1.f0 y.f1.f1) c ∧ (c < 0 ↔ clt x y = true) := by
  rw [clt_iff]
  have h : ∀ a b : Int, cmp_Compare_int.f a b = some (if a < b then -1 else if a > b then 1 else 0) := by
    intro a b
    unfold cmp_Compare_int.f cmp_isNaN_int.f
    (repeat' split) <;> simp_all
  refine ⟨if x.f0 < y.f0 then -1 else if x.f0 > y.f0 then 1 else 0, Ev.all fun k => ?_, ?_⟩
  · unfold cells_Merge_1.f
    rw [h]; rfl
  · (repeat' split) <;> omega
/-! c: what an insertion sort answers: the same elements, in order -/
theorem casym {a b : C} (h : clt a b = true) : clt b a = false := by
  cases k : clt b a
  · rfl
  · exact absurd h (by rw [clt_iff] at *; omega)
theorem cntr {a b c : C} (h : clt a b = false) (k : clt b c = false) : clt a c = false := by
  cases e : clt a c
  · rfl
  · have h1 := mt (clt_iff a b).2 (by simp [h])
    have h2 := mt (clt_iff b c).2 (by simp [k])
    have h3 := (clt_iff a c).1 e
    exfalso; omega
def csorted (l : List C) : Prop := l.Pairwise fun a b => clt b a = false
theorem cl1 (n i : Nat) (hn : n < 4611686018427387904) (m : Nat) : ∀ (p s t : List C) (y : C), p.length = m → (p ++ y :: (s ++ t)).length = n → csorted (p ++ s) → (∀ z ∈ s, clt y z = true) →
    ∃ r, r.Perm (p ++ y :: s) ∧ csorted r ∧ ∀ R : List C, (Ev (fun k => api_Cell_103.l0 k (r ++ t) 0 (n : Int) (wrap64 ((i : Int) + 1))) R → Ev (fun k => api_Cell_103.l1 k (p ++ y :: (s ++ t)) 0 (n : Int) (i : Int) (p.length : Int)) R) := by
  induction m with
  | zero =>
    intro p s t y hp hl hs hy
    obtain rfl := List.length_eq_zero_iff.1 hp
    refine ⟨y :: s, List.Perm.refl _, ?_, fun R h => ?_⟩
    · refine List.pairwise_cons.2 ⟨fun z hz => casym (hy z hz), hs⟩
    · refine Ev.succ ?_
      simp only [api_Cell_103.l1]
      exact Ev.ite_neg (by simp) h
  | succ m ih =>
    intro p s t y hp hl hs hy
    rcases List.eq_nil_or_concat p with rfl | ⟨q, z, ec⟩
    · simp at hp
    rw [List.concat_eq_append] at ec
    subst ec
    have hq : q.length = m := by simpa using hp
    have e1 : ((q ++ [z]).length : Int) = (q.length : Int) + 1 := by simp
    have len : (q ++ [z] ++ y :: (s ++ t)).length = q.length + 1 + ((s ++ t).length + 1) := by simp; omega
    have wr : wrap64 (((q.length : Int) + 1) - 1) = (q.length : Int) := by have := hl; rw [len] at this; unfold wrap64; omega
    have ry : rd_T43 (q ++ [z] ++ y :: (s ++ t)) ((q.length : Int) + 1) = y := by
      show (q ++ [z] ++ y :: (s ++ t)).getD ((q.length : Int) + 1).toNat _ = y
      rw [show ((q.length : Int) + 1).toNat = (q ++ [z]).length by simp]
      simp [List.getD]
    have rz : rd_T43 (q ++ [z] ++ y :: (s ++ t)) (q.length : Int) = z := by
      show (q ++ [z] ++ y :: (s ++ t)).getD q.length _ = z
      simp [List.getD]
    have st : ((q ++ [z] ++ y :: (s ++ t)).set ((q.length : Int) + 1).toNat z).set (q.length : Int).toNat y = q ++ y :: (z :: s ++ t) := by
      rw [show ((q.length : Int) + 1).toNat = q.length + 1 by omega, Int.toNat_natCast]
      simp [List.set_append]
    obtain ⟨c, hc, hlt⟩ := ccmp y z
    by_cases hyz : clt y z = true
    · have hs' : csorted (q ++ z :: s) := by simpa [csorted] using hs
      obtain ⟨r, hr1, hr2, hr3⟩ := ih q (z :: s) t y hq (by simp at hl ⊢; omega) hs' (fun x hx => by
        rcases List.mem_cons.1 hx with rfl | hx
        · exact hyz
        · exact hy x hx)
      refine ⟨r, hr1.trans ?_, hr2, fun R h => ?_⟩
      · simpa using (List.Perm.append_left q (List.Perm.swap z y s))
      · have hk := hr3 R h
        refine Ev.succ ?_
        simp only [api_Cell_103.l1]
        rw [e1]
        refine Ev.ite_pos (by omega) (Ev.ite_pos (by omega) (Ev.ite_pos (by rw [len]; omega) ?_))
        rw [wr]
        refine Ev.ite_pos (by omega) (Ev.ite_pos (by rw [len]; omega) ?_)
        rw [ry, rz]
        refine Ev.bind hc (Ev.ite_pos (hlt.2 hyz) ?_)
        have := st
        rw [← this] at hk
        exact hk
    · have hyz' : clt y z = false := by simpa using hyz
      refine ⟨q ++ [z] ++ y :: s, List.Perm.refl _, ?_, fun R h => ?_⟩
      · have h0 : csorted ((q ++ [z]) ++ s) := hs
        have h1 := List.pairwise_append.1 h0
        have hq2 := List.pairwise_append.1 h1.1
        refine List.pairwise_append.2 ⟨h1.1, List.pairwise_cons.2 ⟨fun x hx => casym (hy x hx), h1.2.1⟩, fun x hx w hw => ?_⟩
        rcases List.mem_cons.1 hw with rfl | hw
        · rcases List.mem_append.1 hx with hx | hx
          · exact cntr hyz' (hq2.2.2 x hx z (List.mem_singleton.2 rfl))
          · rw [List.mem_singleton.1 hx]; exact hyz'
        · exact h1.2.2 x hx w hw
      · refine Ev.succ ?_
        simp only [api_Cell_103.l1]
        rw [e1]
        refine Ev.ite_pos (by omega) (Ev.ite_pos (by omega) (Ev.ite_pos (by rw [len]; omega) ?_))
        rw [wr]
        refine Ev.ite_pos (by omega) (Ev.ite_pos (by rw [len]; omega) ?_)
        rw [ry, rz]
        refine Ev.bind hc (Ev.ite_neg (fun hh => hyz (hlt.1 hh)) ?_)
        simpa using h
theorem cl0 (n : Nat) (hn : n < 4611686018427387904) (d : Nat) : ∀ (sp t : List C), t.length = d → (sp ++ t).length = n → csorted sp →
    ∃ r, r.Perm (sp ++ t) ∧ csorted r ∧ Ev (fun k => api_Cell_103.l0 k (sp ++ t) 0 (n : Int) (sp.length : Int)) r := by
  induction d with
  | zero =>
    intro sp t ht hl hs
    obtain rfl := List.length_eq_zero_iff.1 ht
    refine ⟨sp ++ [], List.Perm.refl _, by simpa using hs, Ev.const fun k => ?_⟩
    simp only [api_Cell_103.l0]
    rw [if_neg (by simp at hl; omega)]
  | succ d ih =>
    intro sp t ht hl hs
    cases t with
    | nil => simp at ht
    | cons y t =>
      obtain ⟨r, h1, h2, h3⟩ := cl1 n sp.length hn sp.length sp [] t y rfl (by simpa using hl) (by simpa using hs) (fun z hz => by cases hz)
      have hrl : r.length = sp.length + 1 := by simpa using h1.length_eq
      obtain ⟨R, k1, k2, k3⟩ := ih r t (by simpa using ht) (by simp at hl ⊢; omega) h2
      refine ⟨R, k1.trans ?_, k2, ?_⟩
      · simpa using h1.append_right t
      · refine Ev.succ ?_
        simp only [api_Cell_103.l0]
        refine Ev.ite_pos (by simp at hl; omega) ?_
        refine h3 R ?_
        rw [wrap_nat (by simp at hl; omega), ← hrl]
        exact k3
theorem cf (l : List C) (hn : l.length < 4611686018427387904) : ∃ r, r.Perm l ∧ csorted r ∧ Ev (fun k => api_Cell_103.f k l 0 (l.length : Int)) r := by
  cases l with
  | nil =>
    refine ⟨[], List.Perm.refl _, List.Pairwise.nil, Ev.const fun k => ?_⟩
    simp only [api_Cell_103.f, api_Cell_103.l0]
    rw [show wrap64 (0 + 1) = 1 by unfold wrap64; omega]
    rfl
  | cons x t =>
    obtain ⟨r, h1, h2, h3⟩ := cl0 (x :: t).length hn t.length [x] t rfl rfl (List.pairwise_singleton _ _)
    refine ⟨r, h1, h2, ?_⟩
    unfold api_Cell_103.f
    rw [show wrap64 (0 + 1) = 1 by unfold wrap64; omega]
    exact h3
theorem csort (l : List C) (hn : l.length ≤ 12) : ∃ r, r.Perm l ∧ csorted r ∧ Ev (fun k => api_Cell_72.f k l) r := by
  obtain ⟨r, h1, h2, h3⟩ := cf l (by omega)
  obtain ⟨v, hv⟩ := bits_Len_12 hn
  refine ⟨r, h1, h2, ?_⟩
  unfold api_Cell_72.f
  refine Ev.bind hv ?_
  refine Ev.bind (a := r) ?_ (Ev.all fun k => rfl)
  refine Ev.step' (f := fun k => api_Cell_93.l0 k l 0 (l.length : Int) v true) ?_ (fun k => rfl)
  refine Ev.succ ?_
  simp only [api_Cell_93.l0]
  rw [show wrap64 ((l.length : Int) - 0) = (l.length : Int) by unfold wrap64; omega]
  refine Ev.ite_pos (by omega) ?_
  exact Ev.bind h3 (Ev.all fun k => rfl)

theorem merge_ex (a b : List C) (h : a.length + (newsL a b).length ≤ 12) (hb : b.length < 5864062014805) : ∃ r, r.Perm (a ++ newsL a b) ∧ csorted r ∧ Ev (fun k => cells_Merge.f k a b) r := by
  obtain ⟨r, h1, h2, h3⟩ := csort (a ++ newsL a b) (by simpa using h)
  refine ⟨r, h1, h2, ?_⟩
  unfold cells_Merge.f
  refine Ev.bind (news_ev a b (by omega) hb) ?_
  refine Ev.bind (concat_ev a (newsL a b) (by omega)) ?_
  exact Ev.bind h3 (Ev.all fun k => rfl)

/-! cells that can be: in order of their nodes -/
def okC (lo : Int) (c : C) : Bool := decide (lo < c.f0 ∧ c.f0 < 6 ∧ 0 ≤ c.f1.f0 ∧ c.f1.f0 < 64 ∧ 0 ≤ c.f1.f1 ∧ c.f1.f1 < 64 ∧ pc c.f1.f0 + pc c.f1.f1 ≠ 0)
theorem okC_iff (lo : Int) (c : C) : okC lo c = true ↔ (lo < c.f0 ∧ c.f0 < 6 ∧ 0 ≤ c.f1.f0 ∧ c.f1.f0 < 64 ∧ 0 ≤ c.f1.f1 ∧ c.f1.f1 < 64 ∧ pc c.f1.f0 + pc c.f1.f1 ≠ 0) := decide_eq_true_iff
def chk : Int → List C → Bool
  | _, [] => true
  | lo, c :: l => okC lo c && chk c.f0 l
theorem chk_mem {lo : Int} {l : List C} (h : chk lo l = true) : ∀ c ∈ l, okC lo c = true := by
  induction l generalizing lo with
  | nil => intro c hc; cases hc
  | cons y l ih =>
    intro c hc
    simp only [chk, Bool.and_eq_true] at h
    rcases List.mem_cons.1 hc with rfl | hc
    · exact h.1
    · have h1 := (okC_iff _ _).1 h.1
      have h2 := (okC_iff _ _).1 (ih h.2 c hc)
      rw [okC_iff]; omega
theorem chk_mono {lo lo' : Int} {l : List C} (hl : lo' ≤ lo) (h : chk lo l = true) : chk lo' l = true := by
  cases l with
  | nil => rfl
  | cons y l =>
    simp only [chk, Bool.and_eq_true] at h ⊢
    refine ⟨?_, h.2⟩
    have := (okC_iff _ _).1 h.1
    rw [okC_iff]; omega
theorem chk_of {lo : Int} {l : List C} (h1 : ∀ c ∈ l, okC lo c = true) (h2 : l.Pairwise fun a b => a.f0 < b.f0) : chk lo l = true := by
  induction l generalizing lo with
  | nil => rfl
  | cons y l ih =>
    simp only [chk, Bool.and_eq_true]
    refine ⟨h1 y (List.mem_cons_self ..), ih (fun c hc => ?_) (List.pairwise_cons.1 h2).2⟩
    have ha := (okC_iff _ _).1 (h1 c (List.mem_cons_of_mem _ hc))
    have hb := (List.pairwise_cons.1 h2).1 c hc
    rw [okC_iff]; omega
theorem chk_strict {lo : Int} {l : List C} (h : chk lo l = true) : l.Pairwise fun a b => a.f0 < b.f0 := by
  induction l generalizing lo with
  | nil => exact List.Pairwise.nil
  | cons y l ih =>
    simp only [chk, Bool.and_eq_true] at h
    refine List.pairwise_cons.2 ⟨fun c hc => ?_, ih h.2⟩
    exact ((okC_iff _ _).1 (chk_mem h.2 c hc)).1
theorem chk_len {lo : Int} {l : List C} (h : chk lo l = true) (h0 : lo ≤ 5) : (l.length : Int) ≤ 5 - lo := by
  induction l generalizing lo with
  | nil => simp; omega
  | cons y l ih =>
    simp only [chk, Bool.and_eq_true] at h
    have := (okC_iff _ _).1 h.1
    have := ih h.2 (by omega)
    simp only [List.length_cons]; omega
theorem chk_six {l : List C} (h : chk (-1) l = true) : l.length ≤ 6 := by
  have := chk_len h (by omega); omega
theorem find_none {l : List C} {n : Int} (h : ∀ c ∈ l, c.f0 ≠ n) : findC l n = none := by
  induction l with
  | nil => rfl
  | cons y l ih =>
    simp only [findC]
    rw [if_neg (h y (List.mem_cons_self ..)), ih fun x hx => h x (List.mem_cons_of_mem _ hx)]
theorem find_some {l : List C} {n : Int} {v : V} (h : findC l n = some v) : ∃ c ∈ l, c.f0 = n ∧ c.f1 = v := by
  induction l with
  | nil => cases h
  | cons y l ih =>
    simp only [findC] at h
    by_cases k : y.f0 = n
    · rw [if_pos k] at h; exact ⟨y, List.mem_cons_self .., k, Option.some.inj h⟩
    · rw [if_neg k] at h
      obtain ⟨c, hc, e⟩ := ih h
      exact ⟨c, List.mem_cons_of_mem _ hc, e⟩
theorem find_mem {l : List C} (h : l.Pairwise fun a b => a.f0 < b.f0) : ∀ c ∈ l, findC l c.f0 = some c.f1 := by
  induction l with
  | nil => intro c hc; cases hc
  | cons y l ih =>
    intro c hc
    have h' := List.pairwise_cons.1 h
    simp only [findC]
    rcases List.mem_cons.1 hc with rfl | hc
    · rw [if_pos rfl]
    · have := h'.1 c hc
      rw [if_neg (by omega)]
      exact ih h'.2 c hc
/-- two rows in order in which the same is found are the same -/
theorem ext_find {a b : List C} (ha : a.Pairwise fun x y => x.f0 < y.f0) (hb : b.Pairwise fun x y => x.f0 < y.f0) (h : ∀ n, findC a n = findC b n) : a = b := by
  induction a generalizing b with
  | nil =>
    cases b with
    | nil => rfl
    | cons y b =>
      have := h y.f0
      simp only [findC] at this
      rw [if_pos trivial] at this; cases this
  | cons x a ih =>
    cases b with
    | nil =>
      have := h x.f0
      simp only [findC] at this
      rw [if_pos trivial] at this; cases this
    | cons y b =>
      have ha' := List.pairwise_cons.1 ha
      have hb' := List.pairwise_cons.1 hb
      have exy : x.f0 = y.f0 := by
        have hx := h x.f0
        have hy := h y.f0
        simp only [findC] at hx hy
        rw [if_pos trivial] at hx
        by_cases k : y.f0 = x.f0
        · exact k.symm
        · rw [if_neg k] at hx
          obtain ⟨c, hc, e1, _⟩ := find_some hx.symm
          have h1 := hb'.1 c hc
          rw [if_neg (fun e => k e.symm)] at hy
          rw [if_pos trivial] at hy
          obtain ⟨d, hd, e2, _⟩ := find_some hy
          have h2 := ha'.1 d hd
          omega
      have ev : x.f1 = y.f1 := by
        have hx := h x.f0
        simp only [findC] at hx
        rw [if_pos trivial, if_pos exy.symm] at hx
        exact Option.some.inj hx
      have exy' : x = y := by
        cases x; cases y
        simp only at exy ev
        rw [exy, ev]
      rw [exy', ih ha'.2 hb'.2 fun n => ?_]
      have hn := h n
      simp only [findC] at hn
      by_cases k : x.f0 = n
      · rw [find_none fun c hc => ?_, find_none fun c hc => ?_]
        · have := hb'.1 c hc; omega
        · have := ha'.1 c hc; omega
      · rw [if_neg k, if_neg (by omega)] at hn
        exact hn
theorem find_news (a b : List C) (n : Int) : findC (newsL a b) n = if hasC a n = true then none else findC b n := by
  induction b with
  | nil => simp [newsL, findC]
  | cons y b ih =>
    by_cases h : hasC a y.f0 = true
    · rw [show newsL a (y :: b) = newsL a b from List.filter_cons_of_neg (by simpa using h), ih]
      by_cases k : hasC a n = true
      · rw [if_pos k, if_pos k]
      · rw [if_neg k, if_neg k]
        simp only [findC]
        rw [if_neg (fun e : y.f0 = n => k (by rw [← e]; exact h))]
    · rw [show newsL a (y :: b) = y :: newsL a b from List.filter_cons_of_pos (by simpa using h)]
      simp only [findC]
      by_cases k : y.f0 = n
      · rw [if_pos k, if_neg (by rw [← k]; exact h), if_pos k]
      · rw [if_neg k, if_neg k, ih]
theorem find_app (a b : List C) (n : Int) : findC (a ++ b) n = (findC a n).or (findC b n) := by
  induction a with
  | nil => simp [findC]
  | cons y a ih =>
    simp only [List.cons_append, findC]
    by_cases k : y.f0 = n
    · rw [if_pos k, if_pos k]; rfl
    · rw [if_neg k, if_neg k, ih]
theorem strict_news {a b : List C} (h : b.Pairwise fun x y => x.f0 < y.f0) : (newsL a b).Pairwise fun x y => x.f0 < y.f0 := h.sublist List.filter_sublist
theorem chk_news {a b : List C} (h : chk (-1) b = true) : chk (-1) (newsL a b) = true :=
  chk_of (fun c hc => chk_mem h c (List.mem_filter.1 hc).1) (strict_news (chk_strict h))
/-- what is found in a row does not hang on its order, where no node stands twice -/
theorem find_perm {a b : List C} (h : a.Perm b) (hd : a.Pairwise fun x y => x.f0 ≠ y.f0) (n : Int) : findC a n = findC b n := by
  induction h with
  | nil => rfl
  | cons x _ ih =>
    simp only [findC]
    rw [ih (List.pairwise_cons.1 hd).2]
  | swap x y l =>
    have h1 := (List.pairwise_cons.1 hd).1 x (List.mem_cons_self ..)
    simp only [findC]
    by_cases k : x.f0 = n
    · rw [if_pos k, if_pos k, if_neg (by omega)]
    · rw [if_neg k, if_neg k]
  | trans h1 _ ih1 ih2 => exact (ih1 hd).trans (ih2 (h1.pairwise_iff (fun {a b} h => Ne.symm h) |>.1 hd))
theorem merge_ev {a b : List C} (ha : chk (-1) a = true) (hb : chk (-1) b = true) : ∃ r, Ev (fun k => cells_Merge.f k a b) r ∧ chk (-1) r = true ∧ (∀ n, findC r n = (findC a n).or (findC b n)) ∧ r.length = a.length + (newsL a b).length := by
  have la := chk_six ha
  have lb := chk_six hb
  have lc := chk_six (chk_news (a := a) hb)
  obtain ⟨r, h1, h2, h3⟩ := merge_ex a b (by omega) (by omega)
  have hd : (a ++ newsL a b).Pairwise fun x y => x.f0 ≠ y.f0 := by
    refine List.pairwise_append.2 ⟨(chk_strict ha).imp fun h => by omega, (strict_news (chk_strict hb)).imp fun h => by omega, fun x hx y hy => ?_⟩
    have := (List.mem_filter.1 hy).2
    intro e
    rw [← e, show hasC a x.f0 = true by unfold hasC; rw [find_mem (chk_strict ha) x hx]; rfl] at this
    simp at this
  have hdr : r.Pairwise fun x y => x.f0 ≠ y.f0 := (h1.pairwise_iff (fun {a b} h => Ne.symm h)).2 hd
  have hs : r.Pairwise fun x y => x.f0 < y.f0 := by
    refine (h2.and hdr).imp fun {x y} h => ?_
    have h0 := h.1
    have : ¬ y.f0 < x.f0 := fun e => by rw [(clt_iff y x).2 e] at h0; cases h0
    omega
  refine ⟨r, h3, chk_of (fun c hc => ?_) hs, fun n => ?_, by rw [h1.length_eq, List.length_append]⟩
  · rcases List.mem_append.1 (h1.mem_iff.1 hc) with h | h
    · exact chk_mem ha c h
    · exact chk_mem (chk_news hb) c h
  · rw [find_perm h1 hdr, find_app, find_news]
    by_cases k : hasC a n = true
    · rw [if_pos k]
      unfold hasC at k
      cases e : findC a n
      · rw [e] at k; cases k
      · rfl
    · rw [if_neg k]
theorem merge_eq {x y : List C} (hx : chk (-1) x = true) (hy : chk (-1) y = true) (h : ∀ n, findC x n = findC y n) : x = y := ext_find (chk_strict hx) (chk_strict hy) h

theorem ref_Right_eq (a d : Int) : ropewayref04_Right.f a d = some (decide (0 ≤ a ∧ a < 64 ∧ 0 ≤ d ∧ d < 64)) := by
  unfold ropewayref04_Right.f
  by_cases h1 : a ≥ 0
  · rw [if_pos h1]
    by_cases h2 : a ≤ 63
    · rw [if_pos h2]
      by_cases h3 : d ≥ 0
      · rw [if_pos h3, Option.some.injEq, decide_eq_decide]; omega
      · rw [if_neg h3, decide_eq_false (by omega)]
    · rw [if_neg h2, decide_eq_false (by omega)]
  · rw [if_neg h1, decide_eq_false (by omega)]

/-! cells: the reference's Of, News, Merge, Clash, Check -/
theorem rcheck_l0 (xs : List C) (hn : xs.length < 4611686018427387904) (d : Nat) : ∀ (i : Nat) (lo : Int), (i = 0 → lo = -1) → (0 < i → lo = (xs.getD (i - 1) z43).f0) → -1 ≤ lo → xs.length - i = d → i ≤ xs.length →
    Ev (fun k => ropewayref10_Check.l0 k xs xs (xs.length : Int) (i : Int)) (if chk lo (xs.drop i) = true then 0 else 101) := by
  induction d with
  | zero =>
    intro i lo _ _ _ hd hi
    refine Ev.const fun k => ?_
    simp only [ropewayref10_Check.l0]
    rw [if_neg (by omega), List.drop_eq_nil_of_le (by omega)]
    rfl
  | succ d ih =>
    intro i lo z0 z1 hlo hd hi
    have hlt : i < xs.length := by omega
    have e : rd_T43 xs i = xs.getD i z43 := rfl
    rw [drop_cons hlt z43]
    refine Ev.succ ?_
    simp only [ropewayref10_Check.l0]
    refine Ev.ite_pos (by omega) (Ev.ite_pos (by omega) (Ev.ite_pos (by omega) ?_))
    rw [e, wrap_nat (by omega)]
    have ih1 := ih (i + 1) (xs.getD i z43).f0 (by omega) (fun _ => by rw [Nat.add_sub_cancel])
    generalize hx : xs.getD i z43 = x at ih1
    have hprev : 0 < i → wrap64 ((i : Int) - 1) = ((i - 1 : Nat) : Int) ∧ rd_T43 xs ((i - 1 : Nat) : Int) = xs.getD (i - 1) z43 := fun h => ⟨by rw [wrap_in (by omega) (by omega)]; omega, rfl⟩
    by_cases ok : okC lo x = true
    · rw [show chk lo (x :: xs.drop (i + 1)) = chk x.f0 (xs.drop (i + 1)) by simp [chk, ok]]
      obtain ⟨o1, o2, o3, o4, o5, o6, o7⟩ := (okC_iff lo x).1 ok
      have p0 := pc_zer0 o3 o4
      have p1 := pc_zer0 o5 o6
      refine Ev.ite_neg (by omega) (Ev.ite_neg (by omega) ?_)
      refine Ev.bind_all (ref_Right_eq _ _) ?_
      refine Ev.ite_pos (decide_eq_true (by omega)) ?_
      have hnz : ¬ ((x.f1.f0 == 0 && (x.f1.f1 == 0)) = true) := fun h => by
        rw [Bool.and_eq_true, beq_iff_eq, beq_iff_eq] at h
        have q0 := p0.2 h.1
        have q1 := p1.2 h.2
        omega
      refine Ev.ite_neg hnz ?_
      clear p0 p1 o7 hnz
      have rest := ih1 (by omega) (by omega) (by omega)
      refine Ev.ite (fun hp => ?_) (fun _ => rest)
      obtain ⟨hw, e1⟩ := hprev (by omega)
      rw [hw, e1]
      have hz := z1 (by omega)
      exact Ev.ite_pos (by omega) (Ev.ite_pos (by omega) (Ev.ite_neg (by omega) rest))
    · rw [show chk lo (x :: xs.drop (i + 1)) = false by simp [chk, ok]]
      rw [show (if false = true then (0 : Int) else 101) = 101 from rfl]
      refine Ev.ite (fun _ => Ev.all fun k => rfl) fun h1 => ?_
      refine Ev.ite (fun _ => Ev.all fun k => rfl) fun h2 => ?_
      refine Ev.bind_all (ref_Right_eq _ _) ?_
      refine Ev.ite (fun h3 => ?_) (fun _ => Ev.all fun k => rfl)
      have h3 := of_decide_eq_true h3
      refine Ev.ite (fun _ => Ev.all fun k => rfl) fun h4 => ?_
      have p0 := pc_zer0 h3.1 h3.2.1
      have p1 := pc_zer0 h3.2.2.1 h3.2.2.2
      have q0 := (pc_some h3.1 h3.2.1).2
      have q1 := (pc_some h3.2.2.1 h3.2.2.2).2
      have h4' : ¬ (x.f1.f0 = 0 ∧ x.f1.f1 = 0) := fun h => h4 (by rw [h.1, h.2]; rfl)
      have hge : x.f0 ≤ lo := by
        have ok' := mt (okC_iff lo x).2 ok
        omega
      have hi0 : 0 < i := by omega
      obtain ⟨hw, e1⟩ := hprev hi0
      have hz := z1 hi0
      rw [hw, e1]
      refine Ev.ite_pos (by omega) (Ev.ite_pos (by omega) (Ev.ite_pos (by omega) (Ev.ite_pos (by omega) (Ev.all fun k => rfl))))
theorem rcheck_ev (xs : List C) (hn : xs.length < 4611686018427387904) : Ev (fun k => ropewayref10_Check.f k xs) (if chk (-1) xs = true then 0 else 101) := rcheck_l0 xs hn xs.length 0 (-1) (fun _ => rfl) (by omega) (by omega) (by omega) (by omega)

end CL
namespace BK
/-! tag.Less -/
theorem cmp_Compare_eq (a b : Int) : cmp_Compare_int.f a b = some (if a < b then -1 else if b < a then 1 else 0) := by
  unfold cmp_Compare_int.f cmp_isNaN_int.f
  simp only [bne_self_eq_false, Option.bind_some, Bool.false_eq_true, if_false, gt_iff_lt]
  (repeat' split) <;> rfl
theorem cmp_Or_two (p q : Int) : Ev (fun k => cmp_Or_int.f k [p, q]) (if p = 0 then q else p) := by
  refine Ev.of (k := 3) (cmp_Or_int.mono _) ?_
  unfold cmp_Or_int.f
  simp only [cmp_Or_int.l0, List.length_cons, List.length_nil]
  have w1 : wrap64 (0 + 1) = 1 := by decide +kernel
  have w2 : wrap64 (1 + 1) = 2 := by decide +kernel
  have e0 : rd [p, q] 0 = p := rfl
  have e1 : rd [p, q] 1 = q := rfl
  simp only [w1, w2, e0, e1]
  by_cases hp : p = 0 <;> by_cases hq : q = 0 <;> simp [hp, hq]
def tagLt (a0 a1 b0 b1 : Int) : Bool := decide (a0 < b0 ∨ a0 = b0 ∧ a1 < b1)
theorem tag_Less_ev (a0 a1 b0 b1 : Int) : Ev (fun k => tag_Less.f k a0 a1 b0 b1) (tagLt a0 a1 b0 b1) := by
  unfold tag_Less.f tag_compare.f
  refine Ev.bind (a := if (if a0 < b0 then -1 else if b0 < a0 then 1 else 0) = (0 : Int) then (if a1 < b1 then -1 else if b1 < a1 then 1 else 0) else (if a0 < b0 then -1 else if b0 < a0 then 1 else 0)) ?_ ?_
  · refine Ev.bind_all (cmp_Compare_eq _ _) ?_
    refine Ev.bind_all (cmp_Compare_eq _ _) ?_
    refine Ev.bind (cmp_Or_two _ _) ?_
    exact Ev.all fun k => rfl
  · refine Ev.all fun k => ?_
    unfold tagLt
    congr 1
    rw [decide_eq_decide]
    by_cases h1 : a0 < b0
    · simp [h1]
    · by_cases h2 : b0 < a0
      · simp [h1, h2]; omega
      · have : a0 = b0 := by omega
        subst this
        by_cases h3 : a1 < b1
        · simp [h3]
        · by_cases h4 : b1 < a1
          · simp [h3, h4]
          · simp [h3, h4]

/-! book: find, Get, Check, Merge, News -/
abbrev E := S48
def noE (key : Int) : E := ⟨key, ⟨0, 0⟩, 0⟩
def findL : List E → Int → E
  | [], key => noE key
  | x :: l, key => if x.f0 = key then x else findL l key
theorem find_l0 (xs : List E) (hn : xs.length < 4611686018427387904) (key : Int) (d : Nat) : ∀ (i : Nat), xs.length - i = d → i ≤ xs.length →
    ∃ r : Int, Ev (fun k => api_Entry_81.l0 k xs (xs.length : Int) (i : Int) key) r ∧ ((r = -1 ∧ findL (xs.drop i) key = noE key) ∨ ∃ j : Nat, r = (j : Int) ∧ j < xs.length ∧ findL (xs.drop i) key = xs.getD j z48) := by
  induction d with
  | zero =>
    intro i hd hi
    refine ⟨-1, Ev.const fun k => ?_, Or.inl ⟨rfl, ?_⟩⟩
    · simp only [api_Entry_81.l0]
      rw [if_neg (by omega)]
    · rw [List.drop_eq_nil_of_le (by omega)]; rfl
  | succ d ih =>
    intro i hd hi
    have hlt : i < xs.length := by omega
    have e : rd_T48 xs i = xs.getD i z48 := rfl
    rw [drop_cons hlt z48]
    generalize hx : xs.getD i z48 = x at e
    by_cases hk : x.f0 = key
    · refine ⟨i, Ev.const fun k => ?_, Or.inr ⟨i, rfl, hlt, ?_⟩⟩
      · simp only [api_Entry_81.l0]
        rw [if_pos (by omega), if_pos (by omega), if_pos (by omega), e]
        simp [book_find_1.f, hk]
      · simp only [findL]; rw [if_pos hk]; exact hx.symm
    · obtain ⟨r, hr, hc⟩ := ih (i + 1) (by omega) (by omega)
      refine ⟨r, Ev.step' hr fun k => ?_, ?_⟩
      · simp only [api_Entry_81.l0]
        rw [if_pos (by omega), if_pos (by omega), if_pos (by omega), e, wrap_nat (by omega)]
        simp [book_find_1.f, hk]
      · simp only [findL]; rw [if_neg hk]; exact hc
theorem book_find_ev (xs : List E) (hn : xs.length < 4611686018427387904) (key : Int) : Ev (fun k => book_find.f k xs key) ((findL xs key).f0, (findL xs key).f1.f0, (findL xs key).f1.f1, (findL xs key).f2) := by
  unfold book_find.f
  obtain ⟨r, hr, h⟩ := find_l0 xs hn key xs.length 0 (by omega) (by omega)
  refine Ev.bind (show Ev (fun k => api_Entry_81.f k xs key) r from hr) ?_
  rcases h with ⟨rfl, hf⟩ | ⟨j, rfl, hj, hf⟩
  · rw [List.drop_zero] at hf
    refine Ev.ite_pos (by decide) (Ev.all fun k => ?_)
    rw [hf]; rfl
  · rw [List.drop_zero] at hf
    refine Ev.ite_neg (by omega) (Ev.ite_pos (by omega) (Ev.ite_pos (by omega) (Ev.all fun k => ?_)))
    rw [hf]; rfl
def okKey (key : Int) : Prop := 0 ≤ key ∧ key < 4
def rightT (a b : Int) : Bool := decide (0 ≤ a ∧ a ≤ 1000000 ∧ 0 ≤ b ∧ b < 6 ∧ (0 < a ∨ b = 0))
def okE (lo : Int) (x : E) : Bool := decide (lo < x.f0 ∧ x.f0 < 4 ∧ 0 < x.f1.f0 ∧ x.f1.f0 ≤ 1000000 ∧ 0 ≤ x.f1.f1 ∧ x.f1.f1 < 6)
theorem okE_iff (lo : Int) (x : E) : okE lo x = true ↔ (lo < x.f0 ∧ x.f0 < 4 ∧ 0 < x.f1.f0 ∧ x.f1.f0 ≤ 1000000 ∧ 0 ≤ x.f1.f1 ∧ x.f1.f1 < 6) := by unfold okE; exact decide_eq_true_iff
def chk : Int → List E → Bool
  | _, [] => true
  | lo, x :: l => okE lo x && chk x.f0 l
def olt (x y : E) : Bool := tagLt x.f1.f0 x.f1.f1 y.f1.f0 y.f1.f1
theorem olt_iff (x y : E) : olt x y = true ↔ (x.f1.f0 < y.f1.f0 ∨ x.f1.f0 = y.f1.f0 ∧ x.f1.f1 < y.f1.f1) := by unfold olt tagLt; exact decide_eq_true_iff
def pick (x y : E) : E := if olt x y = true then y else x
def keep (x : E) : Bool := decide (x.f1.f0 > 0)
def k4 : List Int := [0, 1, 2, 3]
theorem k4_get {i : Nat} (h : i < 4) : k4.drop i = (i : Int) :: k4.drop (i + 1) := by
  have : i = 0 ∨ i = 1 ∨ i = 2 ∨ i = 3 := by omega
  rcases this with rfl | rfl | rfl | rfl <;> rfl
def mergeL (a b : List E) : List E := (k4.map fun key => pick (findL a key) (findL b key)).filter keep
theorem book_Merge_l0 (a b : List E) (ha : a.length < 4611686018427387904) (hb : b.length < 4611686018427387904) (m : Nat) : ∀ (i : Nat) (acc : List E), 4 - i = m → i ≤ 4 → acc.length ≤ i →
    Ev (fun k => book_Merge.l0 k a b acc (i : Int)) (acc ++ ((k4.drop i).map fun key => pick (findL a key) (findL b key)).filter keep) := by
  induction m with
  | zero =>
    intro i acc hm hi hl
    obtain rfl : i = 4 := by omega
    refine Ev.const fun k => ?_
    simp only [book_Merge.l0]
    rw [if_neg (by decide)]
    simp [k4]
  | succ m ih =>
    intro i acc hm hi hl
    have hlt : i < 4 := by omega
    rw [k4_get hlt]
    have hw : wrap64 ((i : Int) + 1) = ((i + 1 : Nat) : Int) := wrap_nat (by omega)
    have st : ∀ p : E, Ev (fun k => if p.f1.f0 > 0 then (if acc.length < 4398046511104 then (book_Merge.l0 k a b (acc ++ [p]) ((i + 1 : Nat) : Int)) else none) else (book_Merge.l0 k a b acc ((i + 1 : Nat) : Int))) (acc ++ (p :: (k4.drop (i + 1)).map fun key => pick (findL a key) (findL b key)).filter keep) := by
      intro p
      by_cases hp : p.f1.f0 > 0
      · rw [List.filter_cons_of_pos (by unfold keep; exact decide_eq_true hp)]
        refine Ev.ite_pos hp (Ev.ite_pos (by omega) ?_)
        have := ih (i + 1) (acc ++ [p]) (by omega) (by omega) (by simp; omega)
        rw [List.append_assoc] at this
        exact this
      · rw [List.filter_cons_of_neg (by unfold keep; simpa using hp)]
        exact Ev.ite_neg hp (ih (i + 1) acc (by omega) (by omega) (by omega))
    refine Ev.succ ?_
    simp only [book_Merge.l0]
    refine Ev.ite_pos (by omega) ?_
    refine Ev.bind (book_find_ev a ha i) ?_
    refine Ev.bind (book_find_ev b hb i) ?_
    refine Ev.bind (tag_Less_ev _ _ _ _) ?_
    rw [hw, List.map_cons]
    by_cases h : olt (findL a i) (findL b i) = true
    · rw [show pick (findL a i) (findL b i) = findL b i from if_pos h]
      exact Ev.ite_pos h (st (findL b i))
    · rw [show pick (findL a i) (findL b i) = findL a i from if_neg h]
      exact Ev.ite_neg h (st (findL a i))
theorem book_Merge_ev (a b : List E) (ha : a.length < 4611686018427387904) (hb : b.length < 4611686018427387904) : Ev (fun k => book_Merge.f k a b) (mergeL a b) := book_Merge_l0 a b ha hb 4 0 [] (by omega) (by omega) (by simp)
theorem merge_len (a b : List E) : (mergeL a b).length ≤ 4 := by
  unfold mergeL
  refine Nat.le_trans (List.length_filter_le _ _) ?_
  simp [k4]

/-! book: what is found in what is merged -/
def okX (key : Int) (x : E) : Prop := x = noE key ∨ (x.f0 = key ∧ 0 < x.f1.f0 ∧ x.f1.f0 ≤ 1000000 ∧ 0 ≤ x.f1.f1 ∧ x.f1.f1 < 6)
theorem chk_mem {lo : Int} {l : List E} (h : chk lo l = true) : ∀ x ∈ l, okE lo x = true := by
  induction l generalizing lo with
  | nil => intro x hx; cases hx
  | cons y l ih =>
    intro x hx
    simp only [chk, Bool.and_eq_true] at h
    rcases List.mem_cons.1 hx with rfl | hx
    · exact h.1
    · have h1 := (okE_iff _ _).1 h.1
      have h2 := (okE_iff _ _).1 (ih h.2 x hx)
      rw [okE_iff]; omega
theorem chk_mono {lo lo' : Int} {l : List E} (hl : lo' ≤ lo) (h : chk lo l = true) : chk lo' l = true := by
  cases l with
  | nil => rfl
  | cons y l =>
    simp only [chk, Bool.and_eq_true] at h ⊢
    refine ⟨?_, h.2⟩
    have := (okE_iff _ _).1 h.1
    rw [okE_iff]; omega
theorem find_none {l : List E} {key : Int} (h : ∀ x ∈ l, x.f0 ≠ key) : findL l key = noE key := by
  induction l with
  | nil => rfl
  | cons y l ih =>
    simp only [findL]
    rw [if_neg (h y (List.mem_cons_self ..)), ih fun x hx => h x (List.mem_cons_of_mem _ hx)]
theorem find_some (l : List E) (key : Int) : findL l key = noE key ∨ (findL l key ∈ l ∧ (findL l key).f0 = key) := by
  induction l with
  | nil => exact Or.inl rfl
  | cons y l ih =>
    simp only [findL]
    by_cases h : y.f0 = key
    · rw [if_pos h]; exact Or.inr ⟨List.mem_cons_self .., h⟩
    · rw [if_neg h]
      rcases ih with ih | ⟨ih, k⟩
      · exact Or.inl ih
      · exact Or.inr ⟨List.mem_cons_of_mem _ ih, k⟩
theorem find_ok {lo : Int} {l : List E} (h : chk lo l = true) (key : Int) : okX key (findL l key) := by
  rcases find_some l key with k | ⟨k, e⟩
  · exact Or.inl k
  · have := (okE_iff _ _).1 (chk_mem h _ k)
    exact Or.inr ⟨e, by omega, by omega, by omega, by omega⟩
theorem find_mem {lo : Int} {l : List E} (h : chk lo l = true) : ∀ x ∈ l, findL l x.f0 = x := by
  induction l generalizing lo with
  | nil => intro x hx; cases hx
  | cons y l ih =>
    intro x hx
    simp only [chk, Bool.and_eq_true] at h
    simp only [findL]
    rcases List.mem_cons.1 hx with rfl | hx
    · rw [if_pos rfl]
    · have := (okE_iff _ _).1 (chk_mem h.2 x hx)
      rw [if_neg (by omega)]
      exact ih h.2 x hx
def ks : Nat → List Int
  | 0 => []
  | n + 1 => (3 - (n : Int)) :: ks n
theorem ks_four : k4 = ks 4 := rfl
theorem ks_gt {n : Nat} : ∀ key ∈ ks n, 3 - (n : Int) < key := by
  induction n with
  | zero => intro key h; cases h
  | succ n ih =>
    intro key h
    rcases List.mem_cons.1 h with rfl | h
    · omega
    · have := ih key h; omega
theorem keep_noE (key : Int) : keep (noE key) = false := by unfold keep noE; simp
theorem canon_nil (l : List Int) : (l.map (findL [])).filter keep = [] := by
  induction l with
  | nil => rfl
  | cons k l ih =>
    rw [List.map_cons, List.filter_cons_of_neg (by rw [show findL [] k = noE k from rfl, keep_noE]; simp)]
    exact ih
theorem canon_n (n : Nat) : ∀ a : List E, chk (3 - (n : Int)) a = true → ((ks n).map (findL a)).filter keep = a := by
  induction n with
  | zero =>
    intro a h
    cases a with
    | nil => rfl
    | cons x l =>
      simp only [chk, Bool.and_eq_true] at h
      have := (okE_iff _ _).1 h.1
      omega
  | succ n ih =>
    intro a h
    cases a with
    | nil => exact canon_nil _
    | cons x l =>
      have hx := h
      simp only [chk, Bool.and_eq_true] at hx
      have ho := (okE_iff _ _).1 hx.1
      simp only [ks]
      rw [List.map_cons]
      by_cases hk : x.f0 = 3 - (n : Int)
      · have e : findL (x :: l) (3 - (n : Int)) = x := by simp only [findL]; rw [if_pos hk]
        rw [e, List.filter_cons_of_pos (by unfold keep; exact decide_eq_true (by omega))]
        have ec : (ks n).map (findL (x :: l)) = (ks n).map (findL l) := by
          refine List.map_congr_left fun key hkey => ?_
          have := ks_gt key hkey
          simp only [findL]; rw [if_neg (by omega)]
        rw [ec, ih l (by rw [← hk]; exact hx.2)]
      · have h' : chk (3 - (n : Int)) (x :: l) = true := by
          simp only [chk, Bool.and_eq_true]
          exact ⟨by rw [okE_iff]; omega, hx.2⟩
        have e : findL (x :: l) (3 - (n : Int)) = noE (3 - (n : Int)) := find_none fun y hy => by
          have := (okE_iff _ _).1 (chk_mem h' y hy); omega
        rw [e, List.filter_cons_of_neg (by rw [keep_noE]; simp)]
        exact ih _ h'
theorem canon {a : List E} (h : chk (-1) a = true) : (k4.map (findL a)).filter keep = a := canon_n 4 a h
theorem find_canon (p : Int → E) (hp : ∀ key, (p key).f0 = key) (L : List Int) (key : Int) : findL ((L.map p).filter keep) key = if key ∈ L ∧ keep (p key) = true then p key else noE key := by
  induction L with
  | nil => rw [if_neg (by simp)]; rfl
  | cons q L ih =>
    rw [List.map_cons]
    by_cases hk : keep (p q) = true
    · rw [List.filter_cons_of_pos hk]
      simp only [findL]
      rw [hp]
      by_cases hq : q = key
      · subst hq; rw [if_pos rfl, if_pos ⟨List.mem_cons_self .., hk⟩]
      · rw [if_neg hq, ih]
        have : (key ∈ q :: L ∧ keep (p key) = true) ↔ (key ∈ L ∧ keep (p key) = true) := by
          simp [List.mem_cons, fun e : key = q => hq e.symm]; intro _ e; exact absurd e.symm hq
        simp only [this]
    · rw [List.filter_cons_of_neg hk, ih]
      have : (key ∈ q :: L ∧ keep (p key) = true) ↔ (key ∈ L ∧ keep (p key) = true) := by
        constructor
        · rintro ⟨h, k⟩
          rcases List.mem_cons.1 h with rfl | h
          · exact absurd k hk
          · exact ⟨h, k⟩
        · rintro ⟨h, k⟩; exact ⟨List.mem_cons_of_mem _ h, k⟩
      simp only [this]
theorem okX_key {key : Int} {x : E} (h : okX key x) : x.f0 = key := by
  rcases h with rfl | h
  · rfl
  · exact h.1
theorem okX_keep {key : Int} {x : E} (h : okX key x) (k : ¬ keep x = true) : x = noE key := by
  rcases h with rfl | h
  · rfl
  · exact absurd (by unfold keep; exact decide_eq_true h.2.1) k
theorem okX_pick {key : Int} {x y : E} (h : okX key x) (k : okX key y) : okX key (pick x y) := by
  unfold pick; split
  · exact k
  · exact h
theorem chk_canon (p : Int → E) (hp : ∀ key, okX key (p key)) (n : Nat) : n ≤ 4 → chk (3 - (n : Int)) (((ks n).map p).filter keep) = true := by
  induction n with
  | zero => intro _; rfl
  | succ n ih =>
    intro hn
    simp only [ks]
    rw [List.map_cons]
    by_cases hk : keep (p (3 - (n : Int))) = true
    · rw [List.filter_cons_of_pos hk]
      simp only [chk, Bool.and_eq_true]
      have hb := hp (3 - (n : Int))
      have e := okX_key hb
      refine ⟨?_, by rw [e]; exact ih (by omega)⟩
      rcases hb with hb | hb
      · rw [hb, keep_noE] at hk; exact absurd hk (by simp)
      · rw [okE_iff]; omega
    · rw [List.filter_cons_of_neg hk]
      exact chk_mono (by omega) (ih (by omega))
theorem merge_chk {a b : List E} (ha : chk (-1) a = true) (hb : chk (-1) b = true) : chk (-1) (mergeL a b) = true :=
  chk_canon (fun key => pick (findL a key) (findL b key)) (fun key => okX_pick (find_ok ha key) (find_ok hb key)) 4 (by omega)
theorem mem_k4 (key : Int) : key ∈ k4 ↔ okKey key := by
  unfold k4 okKey; simp; omega
theorem find_out {a : List E} (ha : chk (-1) a = true) {key : Int} (h : ¬ okKey key) : findL a key = noE key := find_none fun x hx e => by
  have := (okE_iff _ _).1 (chk_mem ha x hx)
  unfold okKey at h; omega
theorem find_merge {a b : List E} (ha : chk (-1) a = true) (hb : chk (-1) b = true) (key : Int) : findL (mergeL a b) key = pick (findL a key) (findL b key) := by
  have hok := fun key => okX_pick (find_ok ha key) (find_ok hb key)
  unfold mergeL
  rw [find_canon (fun key => pick (findL a key) (findL b key)) (fun key => okX_key (hok key))]
  by_cases h : okKey key
  · by_cases k : keep (pick (findL a key) (findL b key)) = true
    · rw [if_pos ⟨(mem_k4 key).2 h, k⟩]
    · rw [if_neg (fun z => k z.2), okX_keep (hok key) k]
  · rw [if_neg (fun z => h ((mem_k4 key).1 z.1)), find_out ha h, find_out hb h]
    unfold pick; split <;> rfl
theorem ext_find {a b : List E} (ha : chk (-1) a = true) (hb : chk (-1) b = true) (h : ∀ key, findL a key = findL b key) : a = b := by
  rw [← canon ha, ← canon hb, show findL a = findL b from funext h]
theorem not_lt_no {key k2 : Int} {x : E} (h : okX key x) : ¬ olt x (noE k2) = true := by
  rw [olt_iff]
  rcases h with rfl | h
  · unfold noE; simp
  · unfold noE; simp; omega
theorem pick_assoc (x y z : E) : pick (pick x y) z = pick x (pick y z) := by
  unfold pick
  by_cases h1 : olt x y = true <;> by_cases h2 : olt y z = true <;> by_cases h3 : olt x z = true <;> simp [h1, h2, h3]
  · rw [olt_iff] at h1 h2 h3; omega
  · rw [olt_iff] at h1 h2 h3; omega
theorem pick_self (x : E) : pick x x = x := by unfold pick; split <;> rfl

/-! the document's answers -/
theorem ref_Right_eq (a b : Int) : ropewayref06_Right.f a b = some (rightT a b) := by
  unfold ropewayref06_Right.f rightT
  by_cases h0 : a = 0
  · rw [if_pos h0, Option.some.injEq, Bool.eq_iff_iff]; simp; omega
  · rw [if_neg h0]
    by_cases h1 : a > 0 <;> by_cases h2 : a ≤ 1000000 <;> by_cases h3 : b ≥ 0 <;> simp [h1, h2, h3] <;> first | omega | (rw [Bool.eq_iff_iff]; simp; omega)
/-- the last key before place i -/
def before (xs : List E) (i : Nat) : Int := if i = 0 then -1 else (xs.getD (i - 1) z48).f0
theorem ref_Check_l0 (xs : List E) (hn : xs.length < 4611686018427387904) (d : Nat) : ∀ (i : Nat), xs.length - i = d → i ≤ xs.length → -1 ≤ before xs i →
    Ev (fun k => ropewayref07_Check.l0 k xs xs (xs.length : Int) (i : Int)) (if chk (before xs i) (xs.drop i) = true then 0 else 71) := by
  induction d with
  | zero =>
    intro i hd hi _
    refine Ev.const fun k => ?_
    simp only [ropewayref07_Check.l0]
    rw [if_neg (by omega), List.drop_eq_nil_of_le (by omega)]
    rfl
  | succ d ih =>
    intro i hd hi hb
    have hlt : i < xs.length := by omega
    have e : rd_T48 xs i = xs.getD i z48 := rfl
    rw [drop_cons hlt z48]
    have hbn : before xs (i + 1) = (xs.getD i z48).f0 := by unfold before; rw [if_neg (by omega)]; rfl
    have ihn := ih (i + 1) (by omega) (by omega)
    rw [hbn] at ihn
    have hprev : (i : Int) > 0 → rd_T48 xs (wrap64 ((i : Int) - 1)) = xs.getD (i - 1) z48 := by
      intro h
      rw [wrap_in (by omega) (by omega)]
      have : ((i : Int) - 1) = ((i - 1 : Nat) : Int) := by omega
      rw [this]; rfl
    refine Ev.succ ?_
    simp only [ropewayref07_Check.l0]
    refine Ev.ite_pos (by omega) (Ev.ite_pos (by omega) (Ev.ite_pos (by omega) ?_))
    rw [e, wrap_nat (by omega)]
    generalize xs.getD i z48 = x at *
    have hlo : (i : Int) > 0 → before xs i = (xs.getD (i - 1) z48).f0 := by intro h; unfold before; rw [if_neg (by omega)]
    have hl0 : ¬ (i : Int) > 0 → before xs i = -1 := by intro h; unfold before; rw [if_pos (by omega)]
    generalize before xs i = lo at *
    by_cases ok : okE lo x = true
    · rw [show chk lo (x :: xs.drop (i + 1)) = chk x.f0 (xs.drop (i + 1)) by simp [chk, ok]]
      obtain ⟨o1, o2, o3, o4, o5, o6⟩ := (okE_iff lo x).1 ok
      refine Ev.ite_neg (by omega) (Ev.ite_neg (by omega) ?_)
      refine Ev.bind_all (ref_Right_eq _ _) ?_
      refine Ev.ite_pos (by unfold rightT; exact decide_eq_true (by omega)) (Ev.ite_neg (by omega) ?_)
      refine Ev.ite (fun h => ?_) (fun _ => ihn (by omega))
      have hw : wrap64 ((i : Int) - 1) = (i : Int) - 1 := wrap_in (by omega) (by omega)
      refine Ev.ite_pos (by rw [hw]; omega) (Ev.ite_pos (by rw [hw]; omega) (Ev.ite_neg ?_ (ihn (by omega))))
      rw [hprev h, ← hlo h]; omega
    · rw [show chk lo (x :: xs.drop (i + 1)) = false by simp [chk, ok]]
      refine Ev.ite (fun _ => Ev.all fun k => rfl) fun h1 => ?_
      refine Ev.ite (fun _ => Ev.all fun k => rfl) fun h2 => ?_
      refine Ev.bind_all (ref_Right_eq _ _) ?_
      refine Ev.ite (fun h3 => ?_) (fun _ => Ev.all fun k => rfl)
      refine Ev.ite (fun _ => Ev.all fun k => rfl) fun h4 => ?_
      unfold rightT at h3
      have h3 := of_decide_eq_true h3
      rw [okE_iff] at ok
      refine Ev.ite_pos (by apply Decidable.byContradiction; intro z; have := hl0 z; omega) ?_
      have h : (i : Int) > 0 := by apply Decidable.byContradiction; intro z; have := hl0 z; omega
      have hw : wrap64 ((i : Int) - 1) = (i : Int) - 1 := wrap_in (by omega) (by omega)
      refine Ev.ite_pos (by rw [hw]; omega) (Ev.ite_pos (by rw [hw]; omega) (Ev.ite_pos ?_ (Ev.all fun k => rfl)))
      rw [hprev h, ← hlo h]; omega
theorem ref_Check_ev (xs : List E) (hn : xs.length < 4611686018427387904) : Ev (fun k => ropewayref07_Check.f k xs) (if chk (-1) xs = true then 0 else 71) := ref_Check_l0 xs hn xs.length 0 (by omega) (by omega) (by unfold before; simp)

end BK

/-! rounds: who answered, who is asked, whether they are enough; a message that can be -/
abbrev M := S27
abbrev CE := S43
abbrev EE := S48
def whoL (f : Nat → Bool) : List Int := six.filter fun n => f n.toNat
theorem whoL_six (f : Nat → Bool) : whoL f = whoL (six6 (f 0) (f 1) (f 2) (f 3) (f 4) (f 5)) := rfl
theorem whoL_len (f : Nat → Bool) : (whoL f).length ≤ 6 := List.length_filter_le _ _
theorem who_closed : ∀ a b c d e g : Bool, round_Round_Who.l0 8 [] 0 a b c d e g = some (whoL (six6 a b c d e g)) := by decide +kernel
theorem who_ev (q0 q1 q2 q3 q4 q5 q6 : Int) (l7 : List CE) (l8 : List EE) (f : Nat → Bool) (c : List CE) (e : List EE) : Ev (fun k => round_Round_Who.f k q0 q1 q2 q3 q4 q5 q6 l7 l8 (f 0) (f 1) (f 2) (f 3) (f 4) (f 5) c e) (whoL f) :=
  Ev.closed (round_Round_Who.mono _ _ _ _ _ _ _ _ _ _ _ _ _ _ _ _ _) 8 (by unfold round_Round_Who.f; rw [whoL_six]; exact who_closed _ _ _ _ _ _)
theorem mem_whoL {f : Nat → Bool} {n : Int} : n ∈ whoL f ↔ (0 ≤ n ∧ n < 6) ∧ f n.toNat = true := by
  unfold whoL
  rw [List.mem_filter]
  have : n ∈ six ↔ 0 ≤ n ∧ n < 6 := by simp [six]; omega
  rw [this]
def doneB (a d : Int) (f : Nat → Bool) : Bool := enough a d (whoL f)
theorem enough_nil (a d : Int) : enough a d [] = false := by
  have : hits [] (members a d) = 0 := by unfold hits; rw [List.length_eq_zero_iff, List.filter_eq_nil_iff]; intro x _; simp
  unfold enough
  rw [this]
  simp
theorem done_ev {a d : Int} (h : Rt a d) (q0 q1 q2 q3 q4 : Int) (l7 : List CE) (l8 : List EE) (f : Nat → Bool) (c : List CE) (e : List EE) : Ev (fun k => round_Round_Done.f k q0 q1 q2 q3 q4 a d l7 l8 (f 0) (f 1) (f 2) (f 3) (f 4) (f 5) c e) (doneB a d f) := by
  have hw : Ev (fun k => (round_Round_Who.f k q0 q1 q2 q3 q4 a d l7 l8 (f 0) (f 1) (f 2) (f 3) (f 4) (f 5) c e).bind fun t => (view_Enough.f k a d t).bind fun t2 => some t2) (doneB a d f) :=
    Ev.bind (who_ev q0 q1 q2 q3 q4 a d l7 l8 f c e) (Ev.bind (view_Enough_ev h (whoL f) (by have := whoL_len f; omega)) (Ev.now _))
  unfold round_Round_Done.f
  refine Ev.ite (fun h0 => Ev.all fun k => ?_) (fun _ => hw)
  have h1 : ∀ n : Nat, n < 6 → f n = false := by
    unfold arrNo at h0
    simp at h0
    intro n hn
    have : n = 0 ∨ n = 1 ∨ n = 2 ∨ n = 3 ∨ n = 4 ∨ n = 5 := by omega
    rcases this with rfl | rfl | rfl | rfl | rfl | rfl <;> simp [h0]
  have : whoL f = [] := by
    rw [whoL_six, h1 0 (by decide), h1 1 (by decide), h1 2 (by decide), h1 3 (by decide), h1 4 (by decide), h1 5 (by decide)]; rfl
  unfold doneB
  rw [this, enough_nil]
theorem hits_mono {w w' l : List Int} (h : ∀ n ∈ w, n ∈ w') : hits w l ≤ hits w' l := by
  unfold hits
  induction l with
  | nil => exact Nat.le_refl _
  | cons x l ih =>
    by_cases k : x ∈ w
    · rw [List.filter_cons_of_pos (by simpa using k), List.filter_cons_of_pos (by simpa using h x k)]; simp only [List.length_cons]; omega
    · rw [List.filter_cons_of_neg (by simpa using k)]
      by_cases k2 : x ∈ w'
      · rw [List.filter_cons_of_pos (by simpa using k2)]; simp only [List.length_cons]; omega
      · rw [List.filter_cons_of_neg (by simpa using k2)]; exact ih
theorem enough_mono {a d : Int} {w w' : List Int} (h : ∀ n ∈ w, n ∈ w') (k : enough a d w = true) : enough a d w' = true := by
  unfold enough at k ⊢
  have := hits_mono (l := members a d) h
  rw [decide_eq_true_iff] at k ⊢
  omega
def toM (q : M) (n : Int) : M := ⟨q.f0, q.f1, n, q.f3, q.f4, q.f5, q.f6, q.f7⟩
theorem copy_eq (q0 q1 q2 q3 q4 q5 q6 : Int) (l7 : List CE) (l8 : List EE) (hc : l7.length < 5864062014805) (hb : l8.length < 4398046511104) : msg_Copy.f q0 q1 q2 q3 q4 q5 q6 l7 l8 = some (q0, q1, q2, q3, q4, q5, q6, l7, l8) := by
  unfold msg_Copy.f api_Cell_44.f api_Entry_45.f
  simp [hc, hb]
theorem to_eq (q0 q1 q2 q3 q4 q5 q6 : Int) (l7 : List CE) (l8 : List EE) (b0 b1 b2 b3 b4 b5 : Bool) (c : List CE) (e : List EE) (n : Int) (hc : l7.length < 5864062014805) (hb : l8.length < 4398046511104) :
    round_Round_to.f q0 q1 q2 q3 q4 q5 q6 l7 l8 b0 b1 b2 b3 b4 b5 c e n = some (q0, q1, n, q3, q4, q5, q6, l7, l8) := by
  unfold round_Round_to.f
  rw [copy_eq _ _ _ _ _ _ _ _ _ hc hb]
  rfl
def asksL (q : M) (f : Nat → Bool) (l : List Int) : List M := (l.filter fun n => !f n.toNat).map (toM q)
theorem asks_l0 (q : M) (hc : q.f6.length < 5864062014805) (hb : q.f7.length < 4398046511104) (f : Nat → Bool) (c : List CE) (e : List EE) (l : List Int) (hl : l.length ≤ 6) (hm : ∀ n ∈ l, 0 ≤ n ∧ n < 6) (d : Nat) : ∀ (i : Nat) (acc : List M), l.length - i = d → i ≤ l.length → acc.length ≤ i →
    Ev (fun k => round_Round_Asks.l0 k acc l (l.length : Int) (i : Int) q.f0 q.f1 q.f2 q.f3 q.f4 q.f5.f0 q.f5.f1 q.f6 q.f7 (f 0) (f 1) (f 2) (f 3) (f 4) (f 5) c e) (acc ++ asksL q f (l.drop i)) := by
  induction d with
  | zero =>
    intro i acc hd hi ha
    refine Ev.const fun k => ?_
    simp only [round_Round_Asks.l0]
    rw [if_neg (by omega), List.drop_eq_nil_of_le (by omega)]
    simp [asksL]
  | succ d ih =>
    intro i acc hd hi ha
    have hlt : i < l.length := by omega
    have e1 : rd l i = l.getD i 0 := rfl
    have hr := hm _ (getD_mem hlt 0)
    rw [drop_cons hlt 0]
    refine Ev.succ ?_
    simp only [round_Round_Asks.l0]
    refine Ev.ite_pos (by omega) (Ev.ite_pos (by omega) (Ev.ite_pos (by omega) ?_))
    rw [e1, wrap_nat (by omega)]
    refine Ev.ite_pos hr.1 (Ev.ite_pos hr.2 ?_)
    generalize l.getD i 0 = n at hr ⊢
    obtain ⟨n, rfl⟩ : ∃ m : Nat, n = (m : Int) := ⟨n.toNat, by omega⟩
    have hn : n < 6 := by omega
    rw [rd6 f hn]
    by_cases hf : f n = true
    · refine Ev.ite_pos hf ?_
      have : asksL q f ((n : Int) :: l.drop (i + 1)) = asksL q f (l.drop (i + 1)) := by unfold asksL; rw [List.filter_cons_of_neg (by simp [hf])]
      rw [this]
      exact ih (i + 1) acc (by omega) (by omega) (by omega)
    · refine Ev.ite_neg hf ?_
      refine Ev.bind_all (to_eq _ _ _ _ _ _ _ _ _ _ _ _ _ _ _ _ _ _ hc hb) ?_
      have : asksL q f ((n : Int) :: l.drop (i + 1)) = toM q (n : Int) :: asksL q f (l.drop (i + 1)) := by unfold asksL; rw [List.filter_cons_of_pos (by simp [hf])]; rfl
      rw [this]
      refine Ev.ite_pos (by omega) ?_
      have := ih (i + 1) (acc ++ [toM q (n : Int)]) (by omega) (by omega) (by simp; omega)
      rw [List.append_assoc] at this
      exact this
theorem members_in {a d : Int} : ∀ n ∈ members a d, 0 ≤ n ∧ n < 6 := fun n h => by
  have := mem_members.1 h
  unfold mem at this
  simp at this
  exact this.1
theorem asks_ev (q : M) (h : Rt q.f5.f0 q.f5.f1) (hc : q.f6.length < 5864062014805) (hb : q.f7.length < 4398046511104) (f : Nat → Bool) (c : List CE) (e : List EE) :
    Ev (fun k => round_Round_Asks.f k q.f0 q.f1 q.f2 q.f3 q.f4 q.f5.f0 q.f5.f1 q.f6 q.f7 (f 0) (f 1) (f 2) (f 3) (f 4) (f 5) c e) (asksL q f (members q.f5.f0 q.f5.f1)) := by
  unfold round_Round_Asks.f
  exact Ev.bind (view_Members_ev h) (asks_l0 q hc hb f c e _ (members_len _ _) members_in _ 0 [] rfl (by omega) (by simp))
theorem mem_asks {q y : M} {f : Nat → Bool} {l : List Int} (h : y ∈ asksL q f l) : ∃ n ∈ l, f n.toNat = false ∧ y = toM q n := by
  unfold asksL at h
  obtain ⟨n, hn, rfl⟩ := List.mem_map.1 h
  obtain ⟨h1, h2⟩ := List.mem_filter.1 hn
  exact ⟨n, h1, by simpa using h2, rfl⟩
theorem filter_split {α : Type} (p : α → Bool) (l : List α) : (l.filter p).length + (l.filter fun x => !p x).length = l.length := by
  induction l with
  | nil => rfl
  | cons x l ih =>
    cases h : p x
    · rw [List.filter_cons_of_neg (by simp [h]), List.filter_cons_of_pos (by simp [h])]; simp only [List.length_cons]; omega
    · rw [List.filter_cons_of_pos h, List.filter_cons_of_neg (by simp [h])]; simp only [List.length_cons]; omega
/-- who answered is a member -/
def Sub (a d : Int) (f : Nat → Bool) : Prop := ∀ n : Nat, n < 6 → f n = true → mem a d (n : Int) = true
theorem whoL_sub {a d : Int} {f : Nat → Bool} (h : Sub a d f) : whoL f = (members a d).filter fun n => f n.toNat := by
  unfold whoL members
  rw [List.filter_filter]
  refine List.filter_congr fun n hn => ?_
  have hr : 0 ≤ n ∧ n < 6 := by simp [six] at hn; omega
  cases hf : f n.toNat
  · rfl
  · have := h n.toNat (by omega) hf
    rw [Int.toNat_of_nonneg hr.1] at this
    rw [this]; rfl
theorem asks_len {q : M} {f : Nat → Bool} (h : Sub q.f5.f0 q.f5.f1 f) : (asksL q f (members q.f5.f0 q.f5.f1)).length + (whoL f).length = (members q.f5.f0 q.f5.f1).length := by
  rw [whoL_sub h]
  unfold asksL
  rw [List.length_map]
  have := filter_split (fun n : Int => f n.toNat) (members q.f5.f0 q.f5.f1)
  omega
theorem up_len_closed : ∀ a b c d e g : Bool, ∀ j : Fin 6, six6 a b c d e g j.val = false → (whoL (up (six6 a b c d e g) (j.val : Int) true)).length = (whoL (six6 a b c d e g)).length + 1 := by decide +kernel
theorem up_len {f : Nat → Bool} {j : Nat} (hj : j < 6) (h : f j = false) : (whoL (up f (j : Int) true)).length = (whoL f).length + 1 := by
  have e : six6 (f 0) (f 1) (f 2) (f 3) (f 4) (f 5) j = f j := by
    have : j = 0 ∨ j = 1 ∨ j = 2 ∨ j = 3 ∨ j = 4 ∨ j = 5 := by omega
    rcases this with rfl | rfl | rfl | rfl | rfl | rfl <;> rfl
  have := up_len_closed (f 0) (f 1) (f 2) (f 3) (f 4) (f 5) ⟨j, hj⟩ (e.trans h)
  rw [whoL_six f]
  exact this
theorem up_sub {a d : Int} {f : Nat → Bool} {j : Nat} (h : Sub a d f) (hj : mem a d (j : Int) = true) : Sub a d (up f (j : Int) true) := fun n hn hf => by
  rw [up_at] at hf
  by_cases e : j = n
  · rw [← e]; exact hj
  · rw [if_neg e] at hf; exact h n hn hf
theorem up_who {f : Nat → Bool} {j : Nat} : ∀ n ∈ whoL f, n ∈ whoL (up f (j : Int) true) := fun n h => by
  rw [mem_whoL] at h ⊢
  refine ⟨h.1, ?_⟩
  rw [up_at]
  split
  · rfl
  · exact h.2
/-- a message that can be: its view, its cells, its book -/
theorem right_tail (k0 : Int) (n1 n2 : Int) : ∃ b : Bool, (if k0 = 1 then (if k0 = 3 then (some true) else (if k0 = 6 then (some true) else (some (n2 == 0)))) else (if k0 = 3 then (if k0 = 5 then (some true) else (if n1 = 0 then (some true) else (some false))) else (if k0 = 5 then (if k0 = 6 then (some true) else (some (n2 == 0))) else (if n1 = 0 then (if k0 = 6 then (some true) else (some (n2 == 0))) else (some false))))) = some b := by
  repeat' split
  all_goals exact ⟨_, rfl⟩
theorem right_j0 (m : M) (hc : m.f6.length < 4611686018427387904) (hb : m.f7.length < 4611686018427387904) (x : Bool) : ∃ b, Ev (fun k => ropewayref11_Right.j0 k x m.f0 m.f1 m.f2 m.f3 m.f4 m.f5.f0 m.f5.f1 m.f6 m.f7) b ∧ (b = true → Rt m.f5.f0 m.f5.f1 ∧ CL.chk (-1) m.f6 = true ∧ BK.chk (-1) m.f7 = true) := by
  by_cases hx : x = true
  · refine ⟨false, Ev.const fun k => ?_, fun h => by cases h⟩
    simp only [ropewayref11_Right.j0]; rw [if_pos hx]
  by_cases hr : 0 ≤ m.f5.f0 ∧ m.f5.f0 < 64 ∧ 0 ≤ m.f5.f1 ∧ m.f5.f1 < 64
  rotate_left
  · refine ⟨false, Ev.const fun k => ?_, fun h => by cases h⟩
    simp only [ropewayref11_Right.j0]; rw [if_neg hx, CL.ref_Right_eq, decide_eq_false hr]; rfl
  have e1 : ropewayref04_Right.f m.f5.f0 m.f5.f1 = some true := by rw [CL.ref_Right_eq, decide_eq_true hr]
  by_cases cc : CL.chk (-1) m.f6 = true
  rotate_left
  · refine ⟨false, Ev.succ ?_, fun h => by cases h⟩
    simp only [ropewayref11_Right.j0]
    refine Ev.ite_neg hx (Ev.bind_all e1 (Ev.ite_pos rfl (Ev.bind (CL.rcheck_ev m.f6 hc) ?_)))
    rw [if_neg cc]
    exact Ev.ite_neg (by decide) (Ev.now _)
  by_cases cb : BK.chk (-1) m.f7 = true
  rotate_left
  · refine ⟨false, Ev.succ ?_, fun h => by cases h⟩
    simp only [ropewayref11_Right.j0]
    refine Ev.ite_neg hx (Ev.bind_all e1 (Ev.ite_pos rfl (Ev.bind (CL.rcheck_ev m.f6 hc) ?_)))
    rw [if_pos cc]
    refine Ev.ite_pos rfl (Ev.bind (BK.ref_Check_ev m.f7 hb) ?_)
    rw [if_neg cb]
    exact Ev.ite_neg (by decide) (Ev.now _)
  obtain ⟨b, hb2⟩ := right_tail m.f0 (m.f6.length : Int) (m.f7.length : Int)
  refine ⟨b, Ev.succ ?_, fun _ => ⟨hr, cc, cb⟩⟩
  simp only [ropewayref11_Right.j0]
  refine Ev.ite_neg hx (Ev.bind_all e1 (Ev.ite_pos rfl (Ev.bind (CL.rcheck_ev m.f6 hc) ?_)))
  rw [if_pos cc]
  refine Ev.ite_pos rfl (Ev.bind (BK.ref_Check_ev m.f7 hb) ?_)
  rw [if_pos cb]
  exact Ev.ite_pos rfl (Ev.all fun k => hb2)
theorem right_ev (m : M) (hc : m.f6.length < 4611686018427387904) (hb : m.f7.length < 4611686018427387904) : ∃ b, Ev (fun k => ropewayref11_Right.f k m.f0 m.f1 m.f2 m.f3 m.f4 m.f5.f0 m.f5.f1 m.f6 m.f7) b ∧ (b = true → Rt m.f5.f0 m.f5.f1 ∧ CL.chk (-1) m.f6 = true ∧ BK.chk (-1) m.f7 = true) := by
  have key : ∃ x : Bool, ∀ k, ropewayref11_Right.f k m.f0 m.f1 m.f2 m.f3 m.f4 m.f5.f0 m.f5.f1 m.f6 m.f7 = ropewayref11_Right.j0 k x m.f0 m.f1 m.f2 m.f3 m.f4 m.f5.f0 m.f5.f1 m.f6 m.f7 := by
    unfold ropewayref11_Right.f
    repeat' split
    all_goals exact ⟨_, fun _ => rfl⟩
  obtain ⟨x, hx⟩ := key
  simp only [hx]
  exact right_j0 m hc hb x
theorem lright_l0 (q : M) (hq6 : q.f6.length < 4611686018427387904) (hq7 : q.f7.length < 4611686018427387904) (l : List M) (hn : l.length < 4611686018427387904) (hl : ∀ y ∈ l, y.f6.length < 4611686018427387904 ∧ y.f7.length < 4611686018427387904) (d : Nat) : ∀ i : Nat, l.length - i = d → i ≤ l.length →
    ∃ b, Ev (fun k => ropewaylaw14_right.l0 k l (l.length : Int) (i : Int) q.f0 q.f1 q.f2 q.f3 q.f4 q.f5.f0 q.f5.f1 q.f6 q.f7) b ∧ (b = true → (∀ y ∈ l.drop i, Rt y.f5.f0 y.f5.f1 ∧ CL.chk (-1) y.f6 = true ∧ BK.chk (-1) y.f7 = true) ∧ Rt q.f5.f0 q.f5.f1 ∧ CL.chk (-1) q.f6 = true ∧ BK.chk (-1) q.f7 = true) := by
  induction d with
  | zero =>
    intro i hd hi
    obtain ⟨b, h1, h2⟩ := right_ev q hq6 hq7
    refine ⟨b, Ev.succ ?_, fun h => ⟨?_, h2 h⟩⟩
    · simp only [ropewaylaw14_right.l0]
      exact Ev.ite_neg (by omega) (Ev.bind h1 (Ev.now _))
    · rw [List.drop_eq_nil_of_le (by omega)]; intro y hy; cases hy
  | succ d ih =>
    intro i hd hi
    have hlt : i < l.length := by omega
    have e1 : rd_T27 l (i : Int) = l.getD i z27 := rfl
    have hy := getD_mem hlt z27
    obtain ⟨b, h1, h2⟩ := right_ev (l.getD i z27) (hl _ hy).1 (hl _ hy).2
    obtain ⟨b', h3, h4⟩ := ih (i + 1) (by omega) (by omega)
    rw [drop_cons hlt z27]
    cases hbt : b
    · refine ⟨false, Ev.succ ?_, fun h => by cases h⟩
      simp only [ropewaylaw14_right.l0]
      refine Ev.ite_pos (by omega) (Ev.ite_pos (by omega) (Ev.ite_pos (by omega) ?_))
      rw [e1]
      rw [hbt] at h1
      exact Ev.bind h1 (Ev.ite_neg (by decide) (Ev.now _))
    · refine ⟨b', Ev.succ ?_, fun h => ⟨fun y hy => ?_, (h4 h).2⟩⟩
      · simp only [ropewaylaw14_right.l0]
        refine Ev.ite_pos (by omega) (Ev.ite_pos (by omega) (Ev.ite_pos (by omega) ?_))
        rw [e1, wrap_nat (by omega)]
        rw [hbt] at h1
        exact Ev.bind h1 (Ev.ite_pos rfl h3)
      · rcases List.mem_cons.1 hy with rfl | hy
        · exact h2 hbt
        · exact (h4 h).1 y hy
theorem lright_ev (q : M) (hq6 : q.f6.length < 4611686018427387904) (hq7 : q.f7.length < 4611686018427387904) (l : List M) (hn : l.length < 4611686018427387904) (hl : ∀ y ∈ l, y.f6.length < 4611686018427387904 ∧ y.f7.length < 4611686018427387904) :
    ∃ b, Ev (fun k => ropewaylaw14_right.f k q.f0 q.f1 q.f2 q.f3 q.f4 q.f5.f0 q.f5.f1 q.f6 q.f7 l) b ∧ (b = true → (∀ y ∈ l, Rt y.f5.f0 y.f5.f1 ∧ CL.chk (-1) y.f6 = true ∧ BK.chk (-1) y.f7 = true) ∧ Rt q.f5.f0 q.f5.f1 ∧ CL.chk (-1) q.f6 = true ∧ BK.chk (-1) q.f7 = true) := by
  obtain ⟨b, h1, h2⟩ := lright_l0 (toM q 0) hq6 hq7 l hn hl l.length 0 (by omega) (by omega)
  exact ⟨b, h1, h2⟩
theorem kind_eq (a : Int) : ∃ r, msg_kind.f a = some r := by unfold msg_kind.f; repeat' split
                                                             all_goals exact ⟨_, rfl⟩
theorem answers_ev (a0 a1 a2 a3 a4 a5 a6 : Int) (l7 : List CE) (l8 : List EE) (b0 b1 b2 b3 b4 b5 b6 : Int) (k7 : List CE) (k8 : List EE) : ∃ b, msg_Answers.f a0 a1 a2 a3 a4 a5 a6 l7 l8 b0 b1 b2 b3 b4 b5 b6 k7 k8 = some b := by
  obtain ⟨r, hr⟩ := kind_eq a0
  unfold msg_Answers.f
  rw [hr]
  simp only [Option.bind_some]
  repeat' split
  all_goals exact ⟨_, rfl⟩

theorem stays_l1 (q : M) (f : Nat → Bool) (c : List CE) (e : List EE) (x6 ok : Bool) (x7 : Int) (l : List M) (i : Nat) (hi : i < 4611686018427387904) (y : M) (xs : List M) (hx : ∀ z ∈ xs, ok = true → z.f2 ≠ y.f1) (hn : xs.length < 4611686018427387904)
    (ih : Ev (fun k => ropewaylaw14_RoundStays.l0 k x6 x7 l (l.length : Int) ((i + 1 : Nat) : Int) q.f0 q.f1 q.f2 q.f3 q.f4 q.f5.f0 q.f5.f1 q.f6 q.f7 q.f0 q.f1 q.f2 q.f3 q.f4 q.f5.f0 q.f5.f1 q.f6 q.f7 (f 0) (f 1) (f 2) (f 3) (f 4) (f 5) c e) true) (d : Nat) : ∀ j : Nat, xs.length - j = d → j ≤ xs.length →
    Ev (fun k => ropewaylaw14_RoundStays.l1 k x6 x7 ok l (l.length : Int) (i : Int) xs (xs.length : Int) (j : Int) q.f0 q.f1 q.f2 q.f3 q.f4 q.f5.f0 q.f5.f1 q.f6 q.f7 q.f0 q.f1 q.f2 q.f3 q.f4 q.f5.f0 q.f5.f1 q.f6 q.f7 (f 0) (f 1) (f 2) (f 3) (f 4) (f 5) c e y.f0 y.f1 y.f2 y.f3 y.f4 y.f5.f0 y.f5.f1 y.f6 y.f7) true := by
  induction d with
  | zero =>
    intro j hd hj
    refine Ev.succ ?_
    simp only [ropewaylaw14_RoundStays.l1]
    refine Ev.ite_neg (by omega) ?_
    rw [wrap_nat hi]
    exact ih
  | succ d ihd =>
    intro j hd hj
    have hlt : j < xs.length := by omega
    have e1 : rd_T27 xs (j : Int) = xs.getD j z27 := rfl
    have hy := hx _ (getD_mem hlt z27)
    refine Ev.succ ?_
    simp only [ropewaylaw14_RoundStays.l1]
    rw [e1, wrap_nat (by omega)]
    refine Ev.ite_pos (by omega) (Ev.ite_pos (by omega) (Ev.ite_pos (by omega) ?_))
    exact Ev.ite (fun h => Ev.ite_neg (hy h) (ihd (j + 1) (by omega) (by omega))) (fun _ => ihd (j + 1) (by omega) (by omega))
theorem stays_j4 (q : M) (hR : Rt q.f5.f0 q.f5.f1) (hc : q.f6.length < 5864062014805) (hb : q.f7.length < 4398046511104) (f : Nat → Bool) (c : List CE) (e : List EE) (ok : Bool) (x7 : Int) (l : List M) (i : Nat) (hi : i < 4611686018427387904) (y : M) (hok : ok = true → f y.f1.toNat = true)
    (ih : Ev (fun k => ropewaylaw14_RoundStays.l0 k (doneB q.f5.f0 q.f5.f1 f) x7 l (l.length : Int) ((i + 1 : Nat) : Int) q.f0 q.f1 q.f2 q.f3 q.f4 q.f5.f0 q.f5.f1 q.f6 q.f7 q.f0 q.f1 q.f2 q.f3 q.f4 q.f5.f0 q.f5.f1 q.f6 q.f7 (f 0) (f 1) (f 2) (f 3) (f 4) (f 5) c e) true) :
    Ev (fun k => ropewaylaw14_RoundStays.j4 k x7 ok l (l.length : Int) (i : Int) false q.f0 q.f1 q.f2 q.f3 q.f4 q.f5.f0 q.f5.f1 q.f6 q.f7 q.f0 q.f1 q.f2 q.f3 q.f4 q.f5.f0 q.f5.f1 q.f6 q.f7 (f 0) (f 1) (f 2) (f 3) (f 4) (f 5) c e y.f0 y.f1 y.f2 y.f3 y.f4 y.f5.f0 y.f5.f1 y.f6 y.f7) true := by
  refine Ev.succ ?_
  simp only [ropewaylaw14_RoundStays.j4]
  refine Ev.ite_neg (by decide) (Ev.bind (done_ev hR _ _ _ _ _ _ _ f c e) (Ev.bind (asks_ev q hR hc hb f c e) ?_))
  have hlen : (asksL q f (members q.f5.f0 q.f5.f1)).length ≤ 6 := by
    unfold asksL
    rw [List.length_map]
    exact Nat.le_trans (List.length_filter_le _ _) (members_len _ _)
  refine stays_l1 q f c e (doneB q.f5.f0 q.f5.f1 f) ok x7 l i hi y _ (fun z hz ho e => ?_) (by omega) ih _ 0 rfl (by omega)
  obtain ⟨n, hn, hf, rfl⟩ := mem_asks hz
  have := hok ho
  rw [← e] at this
  exact Bool.noConfusion (hf.symm.trans this)
theorem stays_j3 (q : M) (hR : Rt q.f5.f0 q.f5.f1) (hc : q.f6.length < 5864062014805) (hb : q.f7.length < 4398046511104) (f : Nat → Bool) (c : List CE) (e : List EE) (ok x6 : Bool) (h6 : x6 = true → doneB q.f5.f0 q.f5.f1 f = true) (l : List M) (i : Nat) (hi : i < 4611686018427387904) (y : M) (hok : ok = true → f y.f1.toNat = true)
    (ih : Ev (fun k => ropewaylaw14_RoundStays.l0 k (doneB q.f5.f0 q.f5.f1 f) ((whoL f).length : Int) l (l.length : Int) ((i + 1 : Nat) : Int) q.f0 q.f1 q.f2 q.f3 q.f4 q.f5.f0 q.f5.f1 q.f6 q.f7 q.f0 q.f1 q.f2 q.f3 q.f4 q.f5.f0 q.f5.f1 q.f6 q.f7 (f 0) (f 1) (f 2) (f 3) (f 4) (f 5) c e) true) :
    Ev (fun k => ropewaylaw14_RoundStays.j3 k x6 ((whoL f).length : Int) ok l (l.length : Int) (i : Int) q.f0 q.f1 q.f2 q.f3 q.f4 q.f5.f0 q.f5.f1 q.f6 q.f7 q.f0 q.f1 q.f2 q.f3 q.f4 q.f5.f0 q.f5.f1 q.f6 q.f7 (f 0) (f 1) (f 2) (f 3) (f 4) (f 5) c e y.f0 y.f1 y.f2 y.f3 y.f4 y.f5.f0 y.f5.f1 y.f6 y.f7) true := by
  have key := stays_j4 q hR hc hb f c e ok _ l i hi y hok ih
  have hne : (((whoL f).length : Int) != ((whoL f).length : Int)) = false := by simp
  refine Ev.succ ?_
  simp only [ropewaylaw14_RoundStays.j3]
  refine Ev.ite (fun h => Ev.bind (done_ev hR _ _ _ _ _ _ _ f c e) (Ev.ite_pos (h6 h) (Ev.bind (who_ev _ _ _ _ _ _ _ _ _ f c e) ?_))) (fun _ => Ev.bind (who_ev _ _ _ _ _ _ _ _ _ f c e) ?_)
  · rw [hne]; exact key
  · rw [hne]; exact key
theorem stays_no (q : M) (hR : Rt q.f5.f0 q.f5.f1) (hc : q.f6.length < 5864062014805) (hb : q.f7.length < 4398046511104) (f : Nat → Bool) (c : List CE) (e : List EE) (x6 : Bool) (h6 : x6 = true → doneB q.f5.f0 q.f5.f1 f = true) (l : List M) (i : Nat) (hi : i < 4611686018427387904) (y : M)
    (ih : Ev (fun k => ropewaylaw14_RoundStays.l0 k (doneB q.f5.f0 q.f5.f1 f) ((whoL f).length : Int) l (l.length : Int) ((i + 1 : Nat) : Int) q.f0 q.f1 q.f2 q.f3 q.f4 q.f5.f0 q.f5.f1 q.f6 q.f7 q.f0 q.f1 q.f2 q.f3 q.f4 q.f5.f0 q.f5.f1 q.f6 q.f7 (f 0) (f 1) (f 2) (f 3) (f 4) (f 5) c e) true) :
    Ev (fun k => ropewaylaw14_RoundStays.j2 k x6 ((whoL f).length : Int) false l (l.length : Int) (i : Int) q.f0 q.f1 q.f2 q.f3 q.f4 q.f5.f0 q.f5.f1 q.f6 q.f7 q.f0 q.f1 q.f2 q.f3 q.f4 q.f5.f0 q.f5.f1 q.f6 q.f7 (f 0) (f 1) (f 2) (f 3) (f 4) (f 5) c e y.f0 y.f1 y.f2 y.f3 y.f4 y.f5.f0 y.f5.f1 y.f6 y.f7) true := by
  refine Ev.succ ?_
  simp only [ropewaylaw14_RoundStays.j2]
  exact Ev.ite_neg (by decide) (stays_j3 q hR hc hb f c e false x6 h6 l i hi y (fun h => by cases h) ih)
theorem stays_yes (q : M) (hR : Rt q.f5.f0 q.f5.f1) (hc : q.f6.length < 5864062014805) (hb : q.f7.length < 4398046511104) (f : Nat → Bool) (c : List CE) (e : List EE) (x6 : Bool) (x7 : Int) (h7 : wrap64 (x7 + 1) = ((whoL f).length : Int)) (h6 : x6 = true → doneB q.f5.f0 q.f5.f1 f = true) (l : List M) (i : Nat) (hi : i < 4611686018427387904) (y : M) (hok : f y.f1.toNat = true)
    (ih : Ev (fun k => ropewaylaw14_RoundStays.l0 k (doneB q.f5.f0 q.f5.f1 f) ((whoL f).length : Int) l (l.length : Int) ((i + 1 : Nat) : Int) q.f0 q.f1 q.f2 q.f3 q.f4 q.f5.f0 q.f5.f1 q.f6 q.f7 q.f0 q.f1 q.f2 q.f3 q.f4 q.f5.f0 q.f5.f1 q.f6 q.f7 (f 0) (f 1) (f 2) (f 3) (f 4) (f 5) c e) true) :
    Ev (fun k => ropewaylaw14_RoundStays.j2 k x6 x7 true l (l.length : Int) (i : Int) q.f0 q.f1 q.f2 q.f3 q.f4 q.f5.f0 q.f5.f1 q.f6 q.f7 q.f0 q.f1 q.f2 q.f3 q.f4 q.f5.f0 q.f5.f1 q.f6 q.f7 (f 0) (f 1) (f 2) (f 3) (f 4) (f 5) c e y.f0 y.f1 y.f2 y.f3 y.f4 y.f5.f0 y.f5.f1 y.f6 y.f7) true := by
  refine Ev.succ ?_
  simp only [ropewaylaw14_RoundStays.j2]
  rw [h7]
  exact Ev.ite_pos trivial (stays_j3 q hR hc hb f c e true x6 h6 l i hi y (fun _ => hok) ih)
theorem stays_l0 (q : M) (hR : Rt q.f5.f0 q.f5.f1) (hc : q.f6.length < 5864062014805) (hb : q.f7.length < 4398046511104) (l : List M) (hn : l.length ≤ 60) (hl : ∀ y ∈ l, Rt y.f5.f0 y.f5.f1 ∧ CL.chk (-1) y.f6 = true ∧ BK.chk (-1) y.f7 = true) (hl7 : ∀ y ∈ l, y.f7.length < 4611686018427387904) (d : Nat) : ∀ (i : Nat) (f : Nat → Bool) (c : List CE) (e : List EE), l.length - i = d → i ≤ l.length → Sub q.f5.f0 q.f5.f1 f → CL.chk (-1) c = true → e.length ≤ 4 →
    Ev (fun k => ropewaylaw14_RoundStays.l0 k (doneB q.f5.f0 q.f5.f1 f) ((whoL f).length : Int) l (l.length : Int) (i : Int) q.f0 q.f1 q.f2 q.f3 q.f4 q.f5.f0 q.f5.f1 q.f6 q.f7 q.f0 q.f1 q.f2 q.f3 q.f4 q.f5.f0 q.f5.f1 q.f6 q.f7 (f 0) (f 1) (f 2) (f 3) (f 4) (f 5) c e) true := by
  induction d with
  | zero =>
    intro i f c e hd hi hs _ _
    refine Ev.succ ?_
    simp only [ropewaylaw14_RoundStays.l0]
    refine Ev.ite_neg (by omega) (Ev.bind (asks_ev q hR hc hb f c e) (Ev.bind (view_Members_ev hR) (Ev.all fun k => ?_)))
    have h := asks_len hs
    have h2 := members_len q.f5.f0 q.f5.f1
    rw [wrap_in (by omega) (by omega)]
    congr 1
    exact beq_iff_eq.2 (by omega)
  | succ d ihd =>
    intro i f c e hd hi hs hcc he
    have hlt : i < l.length := by omega
    have e1 : rd_T27 l (i : Int) = l.getD i z27 := rfl
    have hy := hl _ (getD_mem hlt z27)
    have hy7 := hl7 _ (getD_mem hlt z27)
    generalize hyy : l.getD i z27 = y at hy hy7 e1
    have no : Ev (fun k => ropewaylaw14_RoundStays.j2 k (doneB q.f5.f0 q.f5.f1 f) ((whoL f).length : Int) false l (l.length : Int) (i : Int) q.f0 q.f1 q.f2 q.f3 q.f4 q.f5.f0 q.f5.f1 q.f6 q.f7 q.f0 q.f1 q.f2 q.f3 q.f4 q.f5.f0 q.f5.f1 q.f6 q.f7 (f 0) (f 1) (f 2) (f 3) (f 4) (f 5) c e y.f0 y.f1 y.f2 y.f3 y.f4 y.f5.f0 y.f5.f1 y.f6 y.f7) true :=
      stays_no q hR hc hb f c e _ (fun h => h) l i (by omega) y (ihd (i + 1) f c e (by omega) (by omega) hs hcc he)
    refine Ev.succ ?_
    simp only [ropewaylaw14_RoundStays.l0]
    rw [e1]
    refine Ev.ite_pos (by omega) (Ev.ite_pos (by omega) (Ev.ite_pos (by omega) (Ev.bind_all (view_In_eq hR _) (Ev.ite (fun hm => ?_) (fun _ => no)))))
    have hm' := hm
    unfold mem at hm'
    have hr : 0 ≤ y.f1 ∧ y.f1 < 6 := by simp at hm'; exact hm'.1
    refine Ev.ite_pos hr.1 (Ev.ite_pos hr.2 ?_)
    obtain ⟨n, hyn⟩ : ∃ n : Nat, y.f1 = (n : Int) := ⟨y.f1.toNat, by omega⟩
    have hn6 : n < 6 := by omega
    have hrd : rdOf false [f 0, f 1, f 2, f 3, f 4, f 5] y.f1 = f n := by rw [hyn]; exact rd6 f hn6
    rw [hrd]
    refine Ev.ite (fun _ => no) (fun hf => ?_)
    have hf' : f n = false := by simpa using hf
    refine Ev.bind_all (to_eq _ _ _ _ _ _ _ _ _ _ _ _ _ _ _ _ _ _ hc hb) ?_
    obtain ⟨b, hb2⟩ := answers_ev q.f0 q.f1 y.f1 q.f3 q.f4 q.f5.f0 q.f5.f1 q.f6 q.f7 y.f0 y.f1 y.f2 y.f3 y.f4 y.f5.f0 y.f5.f1 y.f6 y.f7
    refine Ev.bind_all hb2 (Ev.ite (fun _ => ?_) (fun _ => no))
    obtain ⟨r, hr1, hr2, _, _⟩ := CL.merge_ev hcc hy.2.1
    refine Ev.bind hr1 (Ev.bind (BK.book_Merge_ev e y.f7 (by omega) hy7) ?_)
    have hlen := up_len hn6 hf'
    have hw6 := whoL_len f
    have hup : (up f (n : Int) true) n = true := by rw [up_at, if_pos rfl]
    have hsub : Sub q.f5.f0 q.f5.f1 (up f (n : Int) true) := up_sub hs (by rw [← hyn]; exact hm)
    have hdone : doneB q.f5.f0 q.f5.f1 f = true → doneB q.f5.f0 q.f5.f1 (up f (n : Int) true) = true := fun h => by
      unfold doneB at h ⊢
      exact enough_mono up_who h
    have hcnt : wrap64 (((whoL f).length : Int) + 1) = ((whoL (up f (n : Int) true)).length : Int) := by
      rw [wrap_nat (by omega), hlen]
    have := stays_yes q hR hc hb (up f (n : Int) true) r (BK.mergeL e y.f7) (doneB q.f5.f0 q.f5.f1 f) _ hcnt hdone l i (by omega) y (by rw [hyn]; exact hup) (ihd (i + 1) _ r _ (by omega) (by omega) hsub hr2 (BK.merge_len _ _))
    rw [hyn] at this ⊢
    exact this
theorem RoundStays : ropewaylaw14_RoundStays.Pure := by
  intro a0 a1 a2 a3 a4 a5 a6 l7 l8 l h0 h1 h2 h3 h4 h5 h6 h7 h8 hl
  have hl7 : ∀ y ∈ l, y.f6.length < 4611686018427387904 ∧ y.f7.length < 4611686018427387904 := fun y hy => by
    have := hl.2.2 y hy
    have b1 := this.2.2.2.2.2.2.1.2.1
    have b2 := this.2.2.2.2.2.2.2.2.1
    omega
  have b1 := h7.2.1
  have b2 := h8.2.1
  have b3 := hl.2.1
  have main : Ev (fun k => ropewaylaw14_RoundStays.f k a0 a1 a2 a3 a4 a5 a6 l7 l8 l) true := by
    unfold ropewaylaw14_RoundStays.f
    refine Ev.bind (Ev.closed ropewaylaw14_roundAlive.mono 60 (by decide +kernel) : Ev (fun k => ropewaylaw14_roundAlive.f k) true) (Ev.ite_pos rfl ?_)
    refine Ev.ite (fun _ => Ev.const fun k => ?_) (fun hlen => ?_)
    · simp only [ropewaylaw14_RoundStays.j0]; first | rw [if_pos rfl] | rw [if_pos trivial] | simp
    obtain ⟨b, hr1, hr2⟩ := lright_ev ⟨a0, a1, a2, a3, a4, ⟨a5, a6⟩, l7, l8⟩ (show l7.length < _ by omega) (show l8.length < _ by omega) l (by omega) hl7
    refine Ev.bind hr1 ?_
    cases hb : b
    · refine Ev.const fun k => ?_
      simp only [ropewaylaw14_RoundStays.j0]; first | rw [if_pos rfl] | rw [if_pos trivial] | simp
    obtain ⟨g1, g2, g3, g4⟩ := hr2 hb
    refine Ev.succ ?_
    simp only [ropewaylaw14_RoundStays.j0]
    refine Ev.ite_neg (by decide) (Ev.bind_all (copy_eq _ _ _ _ _ _ _ _ _ (by omega) (by omega)) ?_)
    have := stays_l0 ⟨a0, a1, a2, a3, a4, ⟨a5, a6⟩, l7, l8⟩ g2 (show l7.length < _ by omega) (show l8.length < _ by omega) l (by omega) g1 (fun y hy => (hl7 y hy).2) l.length 0 (fun _ => false) [] [] (by omega) (by omega) (fun n _ h => by cases h) rfl (by decide)
    have hd : doneB a5 a6 (fun _ => false) = false := by unfold doneB; exact enough_nil a5 a6
    simp only [hd] at this
    exact this
  exact main.rounds

end Go.Proofs.Ytmgiaappokkjfaa.Pure
