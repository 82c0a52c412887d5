/- The pure statement of the law PastSources: without the document's answer: what a read has read; a call that isn't done, put to a history that fits, leaves it so. -/
import Derived.Test.YtmenkbdaabjojaaPPastSourcesx
import Derived.Test.YtmenkbdaabjojaaSPastSourcesXPure
import Derived.Test.YtmenkbdaabjojaaSPastSourcesXOpen
import Derived.Test.YtmenkbdaabjojaaSPastSourcesXFloat
namespace Go.Proofs.Ytmenkbdaabjojaa.Pure
open Go.RowKit Go.Proofs.Ytmenkbdaabjojaa.PPastSources Go.Proofs.YtmenkbdaabjojaaW.PrintWords Go.Proofs.YtmenkbdaabjojaaW.PrintLast Go.Proofs.YtmenkbdaabjojaaW.PrintMore Go.Proofs.YtmenkbdaabjojaaX
set_option linter.unusedVariables false
set_option linter.unusedSimpArgs false
abbrev E := S35
/-! tag.Less -/
theorem cmp_Compare_eq (a b : Int) : cmp_Compare_int.f a b = some (if a < b then -1 else if b < a then 1 else 0) := by
  unfold cmp_Compare_int.f cmp_isNaN_int.f
  simp only [bne_self_eq_false, Option.bind_some, Bool.false_eq_true, if_false, gt_iff_lt]
  (repeat' split) <;> rfl
theorem cmp_Or_two (p q : Int) : Ev (fun k => cmp_Or_int.f k [p, q]) (if p = 0 then q else p) := by
  refine Ev.of (k := 3) (cmp_Or_int.mono _) ?_
  unfold cmp_Or_int.f
  simp only [cmp_Or_int.l0, List.length_cons, List.length_nil]
  have w1 : wrap64 (0 + 1) = 1 := by decide +kernel
  have w2 : wrap64 (1 + 1) = 2 := by decide +kernel
  have e0 : rd [p, q] 0 = p := rfl
  have e1 : rd [p, q] 1 = q := rfl
  simp only [w1, w2, e0, e1]
  by_cases hp : p = 0 <;> by_cases hq : q = 0 <;> simp [hp, hq]
def tagLt (a0 a1 b0 b1 : Int) : Bool := decide (a0 < b0 ∨ a0 = b0 ∧ a1 < b1)
theorem tag_Less_ev (a0 a1 b0 b1 : Int) : Ev (fun k => tag_Less.f k a0 a1 b0 b1) (tagLt a0 a1 b0 b1) := by
  unfold tag_Less.f tag_compare.f
  refine Ev.bind (a := if (if a0 < b0 then -1 else if b0 < a0 then 1 else 0) = (0 : Int) then (if a1 < b1 then -1 else if b1 < a1 then 1 else 0) else (if a0 < b0 then -1 else if b0 < a0 then 1 else 0)) ?_ ?_
  · refine Ev.bind_all (cmp_Compare_eq _ _) ?_
    refine Ev.bind_all (cmp_Compare_eq _ _) ?_
    refine Ev.bind (cmp_Or_two _ _) ?_
    exact Ev.all fun k => rfl
  · refine Ev.all fun k => ?_
    unfold tagLt
    congr 1
    rw [decide_eq_decide]
    by_cases h1 : a0 < b0
    · simp [h1]
    · by_cases h2 : b0 < a0
      · simp [h1, h2]; omega
      · have : a0 = b0 := by omega
        subst this
        by_cases h3 : a1 < b1
        · simp [h3]
        · by_cases h4 : b1 < a1
          · simp [h3, h4]
          · simp [h3, h4]

/-! past: what a history shows, over lists of events -/
def bitsI (a : Nat) : Int := (num_Bits.f a).getD 0
theorem bits_eq (a : Nat) : num_Bits.f a = some (bitsI a) := by
  unfold bitsI num_Bits.f
  split <;> rfl
def sameB (a b : Nat) : Bool := bitsI a == bitsI b
theorem same_eq (a b : Nat) : num_Same.f a b = some (sameB a b) := by
  unfold num_Same.f
  rw [bits_eq, bits_eq]
  rfl
def wellB (e : E) : Bool := decide (e.f2 ≥ 0) && (e.f4.f0 == 0)
theorem well_eq (e : E) : past_Well.f e.f0 e.f1 e.f2 e.f3.f0 e.f3.f1 e.f3.f2 e.f3.f3.f0 e.f3.f3.f1 e.f4.f0 e.f4.f1.f0 e.f4.f1.f1 e.f4.f2.f0 e.f4.f2.f1.f0 e.f4.f2.f1.f1 e.f4.f2.f2 = some (wellB e) := by
  unfold past_Well.f wellB
  by_cases h : e.f2 ≥ 0 <;> simp [h]
def keyB (e : E) : Bool := e.f3.f0 == 0 || e.f3.f0 == 1
theorem key_eq (e : E) : past_keyed.f e.f0 e.f1 e.f2 e.f3.f0 e.f3.f1 e.f3.f2 e.f3.f3.f0 e.f3.f3.f1 e.f4.f0 e.f4.f1.f0 e.f4.f1.f1 e.f4.f2.f0 e.f4.f2.f1.f0 e.f4.f2.f1.f1 e.f4.f2.f2 = some (keyB e) := by
  unfold past_keyed.f keyB
  by_cases h : e.f3.f0 = 0 <;> simp [h]
def befB (a b : E) : Bool := decide (a.f2 ≥ 0) && decide (a.f2 < b.f1)
theorem bef_eq (a b : E) : past_Before.f a.f0 a.f1 a.f2 a.f3.f0 a.f3.f1 a.f3.f2 a.f3.f3.f0 a.f3.f3.f1 a.f4.f0 a.f4.f1.f0 a.f4.f1.f1 a.f4.f2.f0 a.f4.f2.f1.f0 a.f4.f2.f1.f1 a.f4.f2.f2 b.f0 b.f1 b.f2 b.f3.f0 b.f3.f1 b.f3.f2 b.f3.f3.f0 b.f3.f3.f1 b.f4.f0 b.f4.f1.f0 b.f4.f1.f1 b.f4.f2.f0 b.f4.f2.f1.f0 b.f4.f2.f1.f1 b.f4.f2.f2 = some (befB a b) := by
  unfold past_Before.f befB
  by_cases h : a.f2 ≥ 0 <;> simp [h]
/-- is a write the one that a read has read? -/
def wr (r w : E) : Bool := if w.f3.f0 = 1 then (if w.f3.f1 = r.f3.f1 then (if w.f1 > r.f2 then false else if w.f0 = r.f4.f2.f1.f1 then (if sameB w.f3.f2 r.f4.f2.f2 = true then (if wellB w = true then (w.f4.f2.f1.f0 == r.f4.f2.f1.f0 && (w.f4.f2.f1.f1 == r.f4.f2.f1.f1)) else true) else false) else false) else false) else false
theorem wr_facts {r w : E} (h : wr r w = true) : w.f3.f0 = 1 ∧ w.f3.f1 = r.f3.f1 ∧ ¬ w.f1 > r.f2 ∧ w.f0 = r.f4.f2.f1.f1 ∧ sameB w.f3.f2 r.f4.f2.f2 = true := by
  unfold wr at h
  split at h <;> first | (simp at h; done) | skip
  split at h <;> first | (simp at h; done) | skip
  split at h <;> first | (simp at h; done) | skip
  split at h <;> first | (simp at h; done) | skip
  split at h <;> first | (simp at h; done) | skip
  exact ⟨‹_›, ‹_›, ‹_›, ‹_›, ‹_›⟩
theorem wrote_eq (r w : E) : past_wrote.f w.f0 w.f1 w.f2 w.f3.f0 w.f3.f1 w.f3.f2 w.f3.f3.f0 w.f3.f3.f1 w.f4.f0 w.f4.f1.f0 w.f4.f1.f1 w.f4.f2.f0 w.f4.f2.f1.f0 w.f4.f2.f1.f1 w.f4.f2.f2 r.f4.f2.f0 r.f4.f2.f1.f0 r.f4.f2.f1.f1 r.f4.f2.f2 r.f3.f1 r.f2 = some (wr r w) := by
  unfold past_wrote.f wr
  rw [well_eq, same_eq]
  simp only [Option.bind_some]
  (repeat' split) <;> rfl
def idxF (p : E → Bool) : List E → Int → Int
  | [], _ => -1
  | e :: l, i => if p e = true then i else idxF p l (i + 1)
theorem ev_get {h : List E} {i : Nat} (hi : i < h.length) : rd_T35 h i = h[i] := by
  show h.getD i _ = _
  rw [List.getD_eq_getElem?_getD, List.getElem?_eq_getElem hi]; rfl
theorem idx_l0 (xs h : List E) (hx : xs.length < 4611686018427387904) (a : Nat) (ha : a < h.length) (d : Nat) : ∀ (i : Nat), xs.length - i = d → i ≤ xs.length →
    Ev (fun k => api_Event.l0 k xs (xs.length : Int) (i : Int) h (a : Int)) (idxF (wr h[a]) (xs.drop i) (i : Int)) := by
  induction d with
  | zero =>
    intro i hd hi
    refine Ev.const fun k => ?_
    simp only [api_Event.l0]
    rw [if_neg (by omega), List.drop_eq_nil_of_le (by omega)]
    rfl
  | succ d ih =>
    intro i hd hi
    have hlt : i < xs.length := by omega
    rw [List.drop_eq_getElem_cons hlt]
    refine Ev.succ ?_
    simp only [api_Event.l0]
    rw [ev_get hlt, wrap_nat (by omega)]
    refine Ev.ite_pos (by omega) (Ev.ite_pos (by omega) (Ev.ite_pos (by omega) ?_))
    refine Ev.bind_all (a := wr h[a] xs[i]) ?_ ?_
    · unfold past_Source_1.f
      rw [if_pos (by omega), if_pos (by omega), ev_get ha, wrote_eq]
      rfl
    · simp only [idxF]
      refine Ev.ite (fun hc => ?_) (fun hc => ?_)
      · rw [if_pos hc]; exact Ev.all fun k => rfl
      · rw [if_neg hc]; exact ih (i + 1) (by omega) (by omega)
theorem idxF_range (p : E → Bool) (l : List E) : ∀ i : Int, 0 ≤ i → -1 ≤ idxF p l i ∧ (idxF p l i ≥ 0 → ∃ m : Nat, ∃ e, l[m]? = some e ∧ p e = true ∧ idxF p l i = i + m) := by
  induction l with
  | nil => intro i hi; exact ⟨by simp [idxF], fun h => by simp [idxF] at h⟩
  | cons e l ih =>
    intro i hi
    simp only [idxF]
    by_cases hp : p e = true
    · rw [if_pos hp]; exact ⟨by omega, fun _ => ⟨0, e, rfl, hp, by simp⟩⟩
    · rw [if_neg hp]
      obtain ⟨h1, h2⟩ := ih (i + 1) (by omega)
      refine ⟨h1, fun h => ?_⟩
      obtain ⟨m, x, hx, hpx, he⟩ := h2 h
      exact ⟨m + 1, x, by simpa using hx, hpx, by rw [he]; omega⟩
theorem idxF_append (p : E → Bool) (l m : List E) : ∀ i : Int, 0 ≤ i → idxF p l i ≥ 0 → idxF p (l ++ m) i = idxF p l i := by
  induction l with
  | nil => intro i hi h; simp [idxF] at h
  | cons e l ih =>
    intro i hi h
    simp only [List.cons_append, idxF] at h ⊢
    by_cases hp : p e = true
    · rw [if_pos hp, if_pos hp]
    · rw [if_neg hp] at h
      rw [if_neg hp, if_neg hp]
      exact ih (i + 1) (by omega) h
def noTag (r : E) : Bool := r.f4.f2.f1.f0 == 0 && (r.f4.f2.f1.f1 == 0)
def srcB (r : E) (h : List E) : Int := if r.f3.f0 = 0 then (if wellB r = true then (if noTag r = true then -1 else idxF (wr r) h 0) else -1) else -1
theorem srcB_append {r : E} {h m : List E} (k : srcB r h ≥ 0) : srcB r (h ++ m) = srcB r h := by
  unfold srcB at *
  split at k <;> first | (simp at k; done) | skip
  split at k <;> first | (simp at k; done) | skip
  split at k <;> first | (simp at k; done) | skip
  rw [if_pos ‹_›, if_pos ‹_›, if_neg ‹_›, if_pos ‹_›, if_pos ‹_›, if_neg ‹_›]
  exact idxF_append _ _ _ 0 (by omega) k
theorem source_ev (h : List E) (hl : h.length < 4611686018427387904) (a : Nat) (ha : a < h.length) : Ev (fun k => past_Source.f k h (a : Int)) (srcB h[a] h) := by
  unfold past_Source.f srcB
  rw [ev_get ha]
  refine Ev.ite_neg (by omega) (Ev.ite_neg (by omega) (Ev.ite_pos (by omega) (Ev.ite_pos (by omega) ?_)))
  refine Ev.ite (fun h1 => ?_) (fun h1 => by rw [if_neg h1]; exact Ev.all fun k => rfl)
  rw [if_pos h1]
  refine Ev.bind_all (well_eq _) (Ev.ite (fun h2 => ?_) (fun h2 => by rw [if_neg h2]; exact Ev.all fun k => rfl))
  rw [if_pos h2]
  refine Ev.ite (fun h3 => by rw [show noTag h[a] = true from h3, if_pos rfl]; exact Ev.all fun k => rfl) (fun h3 => ?_)
  rw [if_neg (show ¬ noTag h[a] = true from h3)]
  have := idx_l0 h h hl a ha h.length 0 (by omega) (by omega)
  rw [List.drop_zero] at this
  exact Ev.bind this (Ev.all fun k => rfl)
def aloneB (r : E) (h : List E) : Bool := if r.f4.f2.f0 = r.f3.f1 then (if r.f3.f0 = 1 then (if sameB r.f4.f2.f2 r.f3.f2 = true then (if r.f4.f2.f1.f1 = r.f0 then decide (r.f4.f2.f1.f0 > 0) else false) else false) else if noTag r = true then bitsI r.f4.f2.f2 == 0 else decide (srcB r h ≥ 0)) else false
theorem alone_ev (h : List E) (hl : h.length < 4611686018427387904) (a : Nat) (ha : a < h.length) : Ev (fun k => past_alone.f k h (a : Int)) (aloneB h[a] h) := by
  unfold past_alone.f aloneB
  rw [ev_get ha]
  refine Ev.ite_pos (by omega) (Ev.ite_pos (by omega) ?_)
  refine Ev.ite (fun h1 => ?_) (fun h1 => by rw [if_neg h1]; exact Ev.all fun k => rfl)
  rw [if_pos h1]
  refine Ev.ite (fun h2 => ?_) (fun h2 => ?_)
  · rw [if_pos h2]
    refine Ev.bind_all (same_eq _ _) (Ev.ite (fun h3 => ?_) (fun h3 => by rw [if_neg h3]; exact Ev.all fun k => rfl))
    rw [if_pos h3]
    refine Ev.ite (fun h4 => by rw [if_pos h4]; exact Ev.all fun k => rfl) (fun h4 => by rw [if_neg h4]; exact Ev.all fun k => rfl)
  · rw [if_neg h2]
    refine Ev.ite (fun h3 => ?_) (fun h3 => ?_)
    · rw [if_pos (show noTag h[a] = true from h3)]
      exact Ev.bind_all (bits_eq _) (Ev.all fun k => rfl)
    · rw [if_neg (show ¬ noTag h[a] = true from h3)]
      exact Ev.bind (source_ev h hl a ha) (Ev.all fun k => rfl)
theorem aloneB_append {r : E} {h m : List E} (k : aloneB r h = true) : aloneB r (h ++ m) = true := by
  unfold aloneB at *
  split at k <;> first | (simp at k; done) | skip
  rw [if_pos ‹_›]
  split at k
  · rw [if_pos ‹_›]; exact k
  · rw [if_neg ‹_›]
    split at k
    · rw [if_pos ‹_›]; exact k
    · rw [if_neg ‹_›]
      have := of_decide_eq_true k
      rw [srcB_append this]
      exact k
def tagE (a b : E) : Bool := a.f4.f2.f1.f0 == b.f4.f2.f1.f0 && (a.f4.f2.f1.f1 == b.f4.f2.f1.f1)
def pairB (a b : E) : Bool := if (a.f3.f0 == 1 && (b.f3.f0 == 1) && tagE a b) = true then false else if a.f3.f1 = b.f3.f1 then (if (tagE a b && !(sameB a.f4.f2.f2 b.f4.f2.f2)) = true then false else if befB a b = true then (if tagLt a.f4.f2.f1.f0 a.f4.f2.f1.f1 b.f4.f2.f1.f0 b.f4.f2.f1.f1 = true then true else if tagE a b = true then (b.f3.f0 != 1) else false) else true) else true
theorem pair_ev (a b : E) : Ev (fun k => past_pair.f k a.f0 a.f1 a.f2 a.f3.f0 a.f3.f1 a.f3.f2 a.f3.f3.f0 a.f3.f3.f1 a.f4.f0 a.f4.f1.f0 a.f4.f1.f1 a.f4.f2.f0 a.f4.f2.f1.f0 a.f4.f2.f1.f1 a.f4.f2.f2 b.f0 b.f1 b.f2 b.f3.f0 b.f3.f1 b.f3.f2 b.f3.f3.f0 b.f3.f3.f1 b.f4.f0 b.f4.f1.f0 b.f4.f1.f1 b.f4.f2.f0 b.f4.f2.f1.f0 b.f4.f2.f1.f1 b.f4.f2.f2) (pairB a b) := by
  have j2 : ∀ x : Bool, Ev (fun k => past_pair.j2 k x a.f0 a.f1 a.f2 a.f3.f0 a.f3.f1 a.f3.f2 a.f3.f3.f0 a.f3.f3.f1 a.f4.f0 a.f4.f1.f0 a.f4.f1.f1 a.f4.f2.f0 a.f4.f2.f1.f0 a.f4.f2.f1.f1 a.f4.f2.f2 b.f0 b.f1 b.f2 b.f3.f0 b.f3.f1 b.f3.f2 b.f3.f3.f0 b.f3.f3.f1 b.f4.f0 b.f4.f1.f0 b.f4.f1.f1 b.f4.f2.f0 b.f4.f2.f1.f0 b.f4.f2.f1.f1 b.f4.f2.f2 a.f4.f2.f0 a.f4.f2.f1.f0 a.f4.f2.f1.f1 a.f4.f2.f2 b.f4.f2.f0 b.f4.f2.f1.f0 b.f4.f2.f1.f1 b.f4.f2.f2)
      (if x = true then false else if befB a b = true then (if tagLt a.f4.f2.f1.f0 a.f4.f2.f1.f1 b.f4.f2.f1.f0 b.f4.f2.f1.f1 = true then true else if tagE a b = true then (b.f3.f0 != 1) else false) else true) := by
    intro x
    refine Ev.succ ?_
    simp only [past_pair.j2]
    refine Ev.ite (fun h1 => by rw [if_pos h1]; exact Ev.all fun k => rfl) (fun h1 => ?_)
    rw [if_neg h1]
    refine Ev.bind_all (bef_eq a b) (Ev.ite (fun h2 => ?_) (fun h2 => by rw [if_neg h2]; exact Ev.all fun k => rfl))
    rw [if_pos h2]
    refine Ev.bind (tag_Less_ev _ _ _ _) (Ev.ite (fun h3 => by rw [if_pos h3]; exact Ev.all fun k => rfl) (fun h3 => ?_))
    rw [if_neg h3]
    exact Ev.ite (fun h4 => by rw [if_pos (show tagE a b = true from h4)]; exact Ev.all fun k => rfl) (fun h4 => by rw [if_neg (show ¬ tagE a b = true from h4)]; exact Ev.all fun k => rfl)
  have j1 : ∀ x : Bool, Ev (fun k => past_pair.j1 k x a.f0 a.f1 a.f2 a.f3.f0 a.f3.f1 a.f3.f2 a.f3.f3.f0 a.f3.f3.f1 a.f4.f0 a.f4.f1.f0 a.f4.f1.f1 a.f4.f2.f0 a.f4.f2.f1.f0 a.f4.f2.f1.f1 a.f4.f2.f2 b.f0 b.f1 b.f2 b.f3.f0 b.f3.f1 b.f3.f2 b.f3.f3.f0 b.f3.f3.f1 b.f4.f0 b.f4.f1.f0 b.f4.f1.f1 b.f4.f2.f0 b.f4.f2.f1.f0 b.f4.f2.f1.f1 b.f4.f2.f2 a.f4.f2.f0 a.f4.f2.f1.f0 a.f4.f2.f1.f1 a.f4.f2.f2 b.f4.f2.f0 b.f4.f2.f1.f0 b.f4.f2.f1.f1 b.f4.f2.f2)
      (if x = true then false else if a.f3.f1 = b.f3.f1 then (if (tagE a b && !(sameB a.f4.f2.f2 b.f4.f2.f2)) = true then false else if befB a b = true then (if tagLt a.f4.f2.f1.f0 a.f4.f2.f1.f1 b.f4.f2.f1.f0 b.f4.f2.f1.f1 = true then true else if tagE a b = true then (b.f3.f0 != 1) else false) else true) else true) := by
    intro x
    refine Ev.succ ?_
    simp only [past_pair.j1]
    refine Ev.ite (fun h1 => by rw [if_pos h1]; exact Ev.all fun k => rfl) (fun h1 => ?_)
    rw [if_neg h1]
    refine Ev.ite (fun h2 => ?_) (fun h2 => by rw [if_neg h2]; exact Ev.all fun k => rfl)
    rw [if_pos h2]
    refine Ev.ite (fun h3 => ?_) (fun h3 => ?_)
    · rw [show tagE a b = true from h3, Bool.true_and]
      have := j2 (!(sameB a.f4.f2.f2 b.f4.f2.f2))
      rw [show tagE a b = true from h3] at this
      exact Ev.bind_all (same_eq _ _) this
    · rw [show tagE a b = false from Bool.eq_false_iff.2 h3, Bool.false_and]
      have := j2 false
      rw [show tagE a b = false from Bool.eq_false_iff.2 h3] at this
      exact this
  have j0 : ∀ x : Bool, Ev (fun k => past_pair.j0 k x a.f0 a.f1 a.f2 a.f3.f0 a.f3.f1 a.f3.f2 a.f3.f3.f0 a.f3.f3.f1 a.f4.f0 a.f4.f1.f0 a.f4.f1.f1 a.f4.f2.f0 a.f4.f2.f1.f0 a.f4.f2.f1.f1 a.f4.f2.f2 b.f0 b.f1 b.f2 b.f3.f0 b.f3.f1 b.f3.f2 b.f3.f3.f0 b.f3.f3.f1 b.f4.f0 b.f4.f1.f0 b.f4.f1.f1 b.f4.f2.f0 b.f4.f2.f1.f0 b.f4.f2.f1.f1 b.f4.f2.f2 a.f4.f2.f0 a.f4.f2.f1.f0 a.f4.f2.f1.f1 a.f4.f2.f2 b.f4.f2.f0 b.f4.f2.f1.f0 b.f4.f2.f1.f1 b.f4.f2.f2)
      (if (x && tagE a b) = true then false else if a.f3.f1 = b.f3.f1 then (if (tagE a b && !(sameB a.f4.f2.f2 b.f4.f2.f2)) = true then false else if befB a b = true then (if tagLt a.f4.f2.f1.f0 a.f4.f2.f1.f1 b.f4.f2.f1.f0 b.f4.f2.f1.f1 = true then true else if tagE a b = true then (b.f3.f0 != 1) else false) else true) else true) := by
    intro x
    refine Ev.succ ?_
    simp only [past_pair.j0]
    cases x with
    | true => exact Ev.ite_pos rfl (j1 (tagE a b))
    | false => exact Ev.ite_neg (by simp) (j1 false)
  unfold past_pair.f pairB
  refine Ev.ite (fun h1 => ?_) (fun h1 => ?_)
  · rw [show (a.f3.f0 == 1) = true from by simp [h1], Bool.true_and]; exact j0 _
  · rw [show (a.f3.f0 == 1) = false from by simp [h1], Bool.false_and]; exact j0 false
theorem tagE_self (a : E) : tagE a a = true := by simp [tagE]
theorem pairB_self {a : E} (h : a.f3.f0 = 0) : pairB a a = true := by
  unfold pairB
  rw [if_neg (by simp [h]), if_pos rfl, if_neg (by simp [sameB]), if_pos (tagE_self a)]
  have : (a.f3.f0 != 1) = true := by simp [h]
  rw [this]
  (repeat' split) <;> rfl

/-! past.Fits -/
def inB (a : E) (i : Nat) : List E → Nat → Bool
  | [], _ => true
  | b :: l, j => (decide (j = i) || !(keyB b) || !(wellB b) || pairB a b) && inB a i l (j + 1)
def fitB (h : List E) : List E → Nat → Bool
  | [], _ => true
  | a :: l, i => (!(keyB a) || !(wellB a) || (aloneB a h && inB a i h 0)) && fitB h l (i + 1)
theorem fits_l1 (h : List E) (hl : h.length < 4611686018427387904) (i : Nat) (a : E) (R : Bool) (hnext : Ev (fun k => past_Fits.l0 k h h (h.length : Int) (wrap64 ((i : Int) + 1))) R) (d : Nat) : ∀ (j : Nat), h.length - j = d → j ≤ h.length →
    Ev (fun k => past_Fits.l1 k h (i : Int) h (h.length : Int) (i : Int) h (h.length : Int) (j : Int) a.f0 a.f1 a.f2 a.f3.f0 a.f3.f1 a.f3.f2 a.f3.f3.f0 a.f3.f3.f1 a.f4.f0 a.f4.f1.f0 a.f4.f1.f1 a.f4.f2.f0 a.f4.f2.f1.f0 a.f4.f2.f1.f1 a.f4.f2.f2) (inB a i (h.drop j) j && R) := by
  induction d with
  | zero =>
    intro j hd hj
    refine Ev.succ ?_
    simp only [past_Fits.l1]
    rw [List.drop_eq_nil_of_le (by omega)]
    exact Ev.ite_neg (by omega) (by simpa [inB] using hnext)
  | succ d ih =>
    intro j hd hj
    have hlt : j < h.length := by omega
    have ih' := ih (j + 1) (by omega) (by omega)
    rw [List.drop_eq_getElem_cons hlt]
    refine Ev.succ ?_
    simp only [past_Fits.l1]
    rw [ev_get hlt, wrap_nat (by omega)]
    simp only [inB]
    generalize h[j] = b
    refine Ev.ite_pos (by omega) (Ev.ite_pos (by omega) (Ev.ite_pos (by omega) ?_))
    refine Ev.ite (fun h1 => ?_) (fun h1 => ?_)
    · rw [decide_eq_true (show j = i by omega)]; simpa using ih'
    · rw [decide_eq_false (show ¬ j = i by omega)]
      refine Ev.bind_all (key_eq b) (Ev.ite (fun h2 => ?_) (fun h2 => ?_))
      · refine Ev.bind_all (well_eq b) (Ev.ite (fun h3 => ?_) (fun h3 => ?_))
        · refine Ev.bind (pair_ev a b) (Ev.ite (fun h4 => ?_) (fun h4 => ?_))
          · rw [h4]; simpa using ih'
          · rw [h2, h3, Bool.eq_false_iff.2 h4]; exact Ev.all fun k => rfl
        · rw [Bool.eq_false_iff.2 h3]; simpa using ih'
      · rw [Bool.eq_false_iff.2 h2]; simpa using ih'
theorem fits_l0 (h : List E) (hl : h.length < 4611686018427387904) (d : Nat) : ∀ (i : Nat), h.length - i = d → i ≤ h.length →
    Ev (fun k => past_Fits.l0 k h h (h.length : Int) (i : Int)) (fitB h (h.drop i) i) := by
  induction d with
  | zero =>
    intro i hd hi
    refine Ev.const fun k => ?_
    simp only [past_Fits.l0]
    rw [if_neg (by omega), List.drop_eq_nil_of_le (by omega)]
    rfl
  | succ d ih =>
    intro i hd hi
    have hlt : i < h.length := by omega
    have ih' := ih (i + 1) (by omega) (by omega)
    have ha := alone_ev h hl i hlt
    rw [List.drop_eq_getElem_cons hlt]
    refine Ev.succ ?_
    simp only [past_Fits.l0]
    rw [ev_get hlt]
    simp only [fitB]
    generalize h[i] = a at ha
    have j1t : Ev (fun k => past_Fits.j1 k h (i : Int) h (h.length : Int) (i : Int) true a.f0 a.f1 a.f2 a.f3.f0 a.f3.f1 a.f3.f2 a.f3.f3.f0 a.f3.f3.f1 a.f4.f0 a.f4.f1.f0 a.f4.f1.f1 a.f4.f2.f0 a.f4.f2.f1.f0 a.f4.f2.f1.f1 a.f4.f2.f2) (fitB h (h.drop (i + 1)) (i + 1)) := by
      refine Ev.succ ?_
      simp only [past_Fits.j1]
      rw [wrap_nat (by omega)]
      exact Ev.ite_pos (by simp) ih'
    refine Ev.ite_pos (by omega) (Ev.ite_pos (by omega) (Ev.ite_pos (by omega) ?_))
    refine Ev.bind_all (key_eq a) (Ev.ite (fun h1 => ?_) (fun h1 => by rw [Bool.eq_false_iff.2 h1]; simpa using j1t))
    refine Ev.bind_all (well_eq a) ?_
    by_cases h2 : wellB a = true
    rotate_left
    · rw [Bool.eq_false_iff.2 h2]; simpa using j1t
    rw [h1, h2]
    refine Ev.succ ?_
    simp only [past_Fits.j1, Bool.not_true, Bool.false_or]
    refine Ev.ite_neg (by simp) (Ev.bind ha (Ev.ite (fun h3 => ?_) (fun h3 => by rw [Bool.eq_false_iff.2 h3]; exact Ev.all fun k => rfl)))
    rw [h3, Bool.true_and]
    have := fits_l1 h hl i a (fitB h (h.drop (i + 1)) (i + 1)) (by rw [wrap_nat (by omega)]; exact ih') h.length 0 (by omega) (by omega)
    rw [List.drop_zero] at this
    exact this
theorem fits_ev (h : List E) (hl : h.length < 4611686018427387904) : Ev (fun k => past_Fits.f k h) (fitB h h 0) := by
  have := fits_l0 h hl h.length 0 (by omega) (by omega)
  rw [List.drop_zero] at this
  exact this
theorem inB_iff (a : E) (i : Nat) (l : List E) : ∀ j : Nat, inB a i l j = true ↔ ∀ (m : Nat) (b : E), l[m]? = some b → j + m ≠ i → keyB b = true → wellB b = true → pairB a b = true := by
  induction l with
  | nil => intro j; simp [inB]
  | cons b l ih =>
    intro j
    simp only [inB, Bool.and_eq_true, ih (j + 1)]
    constructor
    · rintro ⟨h1, h2⟩ m x hx hn hk hw
      cases m with
      | zero =>
        simp at hx; subst hx
        rw [hk, hw, decide_eq_false (by omega)] at h1
        simpa using h1
      | succ m => exact h2 m x (by simpa using hx) (by omega) hk hw
    · intro h
      refine ⟨?_, fun m x hx hn hk hw => h (m + 1) x (by simpa using hx) (by omega) hk hw⟩
      by_cases e : j = i
      · simp [e]
      · cases hk : keyB b with
        | false => simp
        | true =>
          cases hw : wellB b with
          | false => simp
          | true => rw [h 0 b rfl (by omega) hk hw]; simp
theorem fitB_iff (h l : List E) : ∀ i : Nat, fitB h l i = true ↔ ∀ (m : Nat) (a : E), l[m]? = some a → keyB a = true → wellB a = true → aloneB a h = true ∧ inB a (i + m) h 0 = true := by
  induction l with
  | nil => intro i; simp [fitB]
  | cons a l ih =>
    intro i
    simp only [fitB, Bool.and_eq_true, ih (i + 1)]
    constructor
    · rintro ⟨h1, h2⟩ m x hx hk hw
      cases m with
      | zero =>
        simp at hx; subst hx
        rw [hk, hw] at h1
        simpa using h1
      | succ m =>
        have := h2 m x (by simpa using hx) hk hw
        rwa [show i + 1 + m = i + (m + 1) by omega] at this
    · intro hh
      refine ⟨?_, fun m x hx hk hw => by
        have := hh (m + 1) x (by simpa using hx) hk hw
        rwa [show i + (m + 1) = i + 1 + m by omega] at this⟩
      cases hk : keyB a with
      | false => simp
      | true =>
        cases hw : wellB a with
        | false => simp
        | true =>
          obtain ⟨p, q⟩ := hh 0 a rfl hk hw
          rw [p, show inB a i h 0 = true from q]; simp
/-- a history fits: each read and write by itself, and any two -/
def Fit (h : List E) : Prop := ∀ (m : Nat) (a : E), h[m]? = some a → keyB a = true → wellB a = true → aloneB a h = true ∧ ∀ (n : Nat) (b : E), h[n]? = some b → n ≠ m → keyB b = true → wellB b = true → pairB a b = true
theorem fit_iff (h : List E) : fitB h h 0 = true ↔ Fit h := by
  rw [fitB_iff]
  unfold Fit
  constructor
  · intro k m a ha hk hw
    obtain ⟨p, q⟩ := k m a ha hk hw
    refine ⟨p, fun n b hb hn hk' hw' => ?_⟩
    exact (inB_iff a (0 + m) h 0).1 q n b hb (by omega) hk' hw'
  · intro k m a ha hk hw
    obtain ⟨p, q⟩ := k m a ha hk hw
    exact ⟨p, (inB_iff a (0 + m) h 0).2 fun n b hb hn hk' hw' => q n b hb (by omega) hk' hw'⟩
theorem get_append_one {h : List E} {p b : E} {n : Nat} (k : (h ++ [p])[n]? = some b) : h[n]? = some b ∨ (n = h.length ∧ b = p) := by
  by_cases e : n < h.length
  · rw [List.getElem?_append_left e] at k; exact .inl k
  · rw [List.getElem?_append_right (by omega)] at k
    right
    have : n - h.length = 0 := by
      by_cases z : n - h.length = 0
      · exact z
      · rw [List.getElem?_eq_none (by simp; omega)] at k; simp at k
    rw [this] at k
    simp at k
    exact ⟨by omega, k.symm⟩
theorem Fit_pending {h : List E} {p : E} (hf : Fit h) (hp : wellB p = false) : Fit (h ++ [p]) := by
  intro m a ha hk hw
  rcases get_append_one ha with h1 | ⟨_, rfl⟩
  · obtain ⟨x, y⟩ := hf m a h1 hk hw
    refine ⟨aloneB_append x, fun n b hb hn hk' hw' => ?_⟩
    rcases get_append_one hb with h2 | ⟨_, rfl⟩
    · exact y n b h2 hn hk' hw'
    · rw [hp] at hw'; simp at hw'
  · rw [hp] at hw; simp at hw

theorem nan_iff (b : Nat) : isNan b = decide (9218868437227405312 < b % 9223372036854775808) := rfl
/-! num: the words of floats -/
def clean (b : Nat) : Nat := if isNan b then 9221120237041090561 else b
theorem num_Bits_eq (b : Nat) : num_Bits.f b = some ((clean b : Nat) : Int) := by
  unfold num_Bits.f clean
  rw [fne_self]
  cases isNan b <;> rfl
theorem num_Same_eq (a b : Nat) : num_Same.f a b = some (decide (clean a = clean b)) := by
  unfold num_Same.f
  rw [num_Bits_eq, num_Bits_eq]
  simp only [Option.bind_some, Option.some.injEq]
  rw [Bool.eq_iff_iff]; simp; omega

theorem and_mask (n j : Nat) (m : Nat) (h : n < 18446744073709551616) (hm : m = 2 ^ j - 1) (hm2 : m < 18446744073709551616) : Go.bits .and .u64 (n : Int) (m : Int) = ((n % 2 ^ j : Nat) : Int) := by
  rw [u64_and_nat _ _ h hm2, hm, Nat.and_two_pow_sub_one_eq_mod]
theorem ref_Parts_eq (n : Nat) (h : n < 18446744073709551616) : ropewayref01_Parts.f (n : Int) = some (((n / 9223372036854775808 : Nat) : Int), ((n / 4503599627370496 % 2048 : Nat) : Int), ((n % 4503599627370496 : Nat) : Int)) := by
  unfold ropewayref01_Parts.f
  have e1 : ((n : Int) / 4503599627370496) = ((n / 4503599627370496 : Nat) : Int) := by omega
  have e2 : ((n : Int) / 9223372036854775808) = ((n / 9223372036854775808 : Nat) : Int) := by omega
  rw [e1, e2]
  have h1 := and_mask (n / 4503599627370496) 11 2047 (by omega) (by decide) (by decide)
  have h2 := and_mask n 52 4503599627370495 h (by decide) (by decide)
  have c1 : ((2047 : Nat) : Int) = 2047 := rfl
  have c2 : ((4503599627370495 : Nat) : Int) = 4503599627370495 := rfl
  rw [c1] at h1
  rw [c2] at h2
  rw [h1, h2]
theorem ref_Clean_eq (n : Nat) (h : n < 18446744073709551616) : ropewayref01_Clean.f (n : Int) = some ((clean n : Nat) : Int) := by
  unfold ropewayref01_Clean.f clean
  rw [ref_Parts_eq n h, nan_iff]
  simp only [Option.bind_some]
  by_cases hc : 9218868437227405312 < n % 9223372036854775808
  · rw [if_pos (by omega), if_neg (by omega), if_pos (decide_eq_true hc)]; rfl
  · rw [if_neg (show ¬ (decide (9218868437227405312 < n % 9223372036854775808) = true) by simpa using hc)]
    by_cases h1 : ((n / 4503599627370496 % 2048 : Nat) : Int) = 2047
    · rw [if_pos h1, if_pos (by omega)]
    · rw [if_neg h1]

theorem ref_Bits_eq {b : Nat} (h : b < 18446744073709551616) : ropewayref01_Bits.f b = some (bitsI b) := by
  have e : bitsI b = ((clean b : Nat) : Int) := by
    have h1 := num_Bits_eq b
    rw [bits_eq] at h1
    exact Option.some.inj h1
  unfold ropewayref01_Bits.f
  rw [ref_Clean_eq b h, e]
  rfl
theorem source_any (h : List E) (hl : h.length ≤ 30) (a : Int) : ∃ s : Int, Ev (fun k => past_Source.f k h a) s ∧ (s ≥ 0 → ∃ n : Nat, ∃ hn : n < h.length, a = (n : Int) ∧ ∃ m : Nat, ∃ hm : m < h.length, s = (m : Int) ∧ wr h[n] h[m] = true) := by
  by_cases h0 : a < 0
  · refine ⟨-1, ?_, fun h => by omega⟩
    unfold past_Source.f
    exact Ev.ite_pos h0 (Ev.all fun k => rfl)
  by_cases h1 : a ≥ (h.length : Int)
  · refine ⟨-1, ?_, fun h => by omega⟩
    unfold past_Source.f
    exact Ev.ite_neg h0 (Ev.ite_pos h1 (Ev.all fun k => rfl))
  obtain ⟨n, rfl⟩ := Int.eq_ofNat_of_zero_le (show 0 ≤ a by omega)
  have hn : n < h.length := by omega
  refine ⟨srcB h[n] h, source_ev h (by omega) n hn, fun hs => ⟨n, hn, rfl, ?_⟩⟩
  unfold srcB at hs ⊢
  split at hs <;> first | (simp at hs; done) | skip
  split at hs <;> first | (simp at hs; done) | skip
  split at hs <;> first | (simp at hs; done) | skip
  rw [if_pos ‹_›, if_pos ‹_›, if_neg ‹_›]
  obtain ⟨m, e, he, hp, hi⟩ := (idxF_range (wr h[n]) h 0 (by omega)).2 hs
  obtain ⟨hm, e1⟩ := List.getElem?_eq_some_iff.1 he
  exact ⟨m, hm, by rw [hi]; omega, by rw [e1]; exact hp⟩
theorem PastSources : ropewaylaw21_PastSources.Pure := by
  intro h a p0 p1 p2 p3 p4 p5 p6 p7 p8 p9 p10 p11 p12 p13 p14 hh _ _ _ _ _ _ _ _ _ _ _ _ _ _ _ _
  have hv : ∀ e ∈ h, e.f3.f2 < 18446744073709551616 ∧ e.f4.f2.f2 < 18446744073709551616 := fun e he => ⟨(hh.2.2 e he).2.2.2.1.2.2.1, (hh.2.2 e he).2.2.2.2.2.2.2.2⟩
  have alive : Ev (fun k => ropewaylaw21_pastAlive.f k) true := Ev.closed ropewaylaw21_pastAlive.mono 60 (by decide +kernel)
  have hall : Ev (fun k => ropewaylaw21_PastSources.f k h a p0 p1 p2 p3 p4 p5 p6 p7 p8 p9 p10 p11 p12 p13 p14) true := by
    unfold ropewaylaw21_PastSources.f
    refine Ev.bind alive (Ev.ite_pos rfl (Ev.ite (fun _ => Ev.all fun k => rfl) fun hl => ?_))
    have hlen : h.length ≤ 30 := by omega
    have tail : Ev (fun k => (past_Fits.f k h).bind fun t => if t = true then (some ([] : List E)).bind fun y => (if y.length + h.length < 1172812402961 then (some (y ++ h)).bind fun y2 => (some [(⟨p0, p1, -1, ⟨p3, p4, p5, ⟨p6, p7⟩⟩, ⟨p8, ⟨p9, p10⟩, ⟨p11, ⟨p12, p13⟩, p14⟩⟩⟩ : E)]).bind fun y3 => (if y2.length + y3.length < 1172812402961 then (past_Fits.f k (y2 ++ y3)).bind fun t => some t else none) else none) else some true) true := by
      refine Ev.bind (fits_ev h (by omega)) (Ev.ite (fun hf => ?_) fun _ => Ev.all fun k => rfl)
      simp only [Option.bind_some, List.nil_append, List.length_nil, Nat.zero_add, List.length_singleton]
      refine Ev.ite_pos (by omega) (Ev.ite_pos (by omega) ?_)
      have hp := (fit_iff _).2 (Fit_pending (p := (⟨p0, p1, -1, ⟨p3, p4, p5, ⟨p6, p7⟩⟩, ⟨p8, ⟨p9, p10⟩, ⟨p11, ⟨p12, p13⟩, p14⟩⟩⟩ : E)) ((fit_iff _).1 hf) (by simp [wellB]))
      refine Ev.bind (fits_ev _ (by simp; omega)) (Ev.all fun k => ?_)
      rw [hp]
    have jf : Ev (fun k => ropewaylaw21_PastSources.j0 k h false p0 p1 p2 p3 p4 p5 p6 p7 p8 p9 p10 p11 p12 p13 p14) true := by
      refine Ev.succ ?_
      simp only [ropewaylaw21_PastSources.j0]
      exact Ev.ite_neg (by simp) tail
    obtain ⟨s, hs, hw⟩ := source_any h hlen a
    refine Ev.bind hs (Ev.ite (fun h0 => ?_) fun _ => tail)
    obtain ⟨n, hn, rfl, m, hm, rfl, hwr⟩ := hw h0
    obtain ⟨w1, w2, w3, w4, w5⟩ := wr_facts hwr
    have v1 := hv h[m] (List.getElem_mem hm)
    have v2 := hv h[n] (List.getElem_mem hn)
    rw [ev_get hm, ev_get hn]
    refine Ev.ite_pos (by omega) (Ev.ite_pos (by omega) (Ev.ite_pos (by omega) (Ev.ite_pos (by omega) ?_)))
    refine Ev.ite_pos w1 (Ev.ite_pos w2 (Ev.ite_neg w3 ?_))
    refine Ev.bind_all (ref_Bits_eq v1.1) (Ev.bind_all (ref_Bits_eq v2.2) (Ev.ite_pos (by simpa [sameB] using w5) ?_))
    rw [show (h[m].f0 != h[n].f4.f2.f1.f1) = false by simp [w4]]
    exact jf
  exact hall.rounds

end Go.Proofs.Ytmenkbdaabjojaa.Pure
