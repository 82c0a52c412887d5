/- The pure statement of the law BookMerges: of any two the newer ones, the news, and whether one is within the other; they stay; for every input. -/
import Derived.Test.YtkefmjdhbmmaaaaPBookMergesx
import Derived.Test.YtkefmjdhbmmaaaaXPure
import Derived.Test.YtkefmjdhbmmaaaaXOpen
namespace Go.Proofs.Ytkefmjdhbmmaaaa.Pure
open Go.RowKit Go.Proofs.Ytkefmjdhbmmaaaa.PBookMerges Go.Proofs.YtkefmjdhbmmaaaaW.PrintWords Go.Proofs.YtkefmjdhbmmaaaaW.PrintLast Go.Proofs.YtkefmjdhbmmaaaaW.PrintMore Go.Proofs.YtkefmjdhbmmaaaaX
set_option linter.unusedVariables false
set_option linter.unusedSimpArgs false
/-! tag.Less -/
theorem cmp_Compare_eq (a b : Int) : cmp_Compare_int.f a b = some (if a < b then -1 else if b < a then 1 else 0) := by
  unfold cmp_Compare_int.f cmp_isNaN_int.f
  simp only [bne_self_eq_false, Option.bind_some, Bool.false_eq_true, if_false, gt_iff_lt]
  (repeat' split) <;> rfl
theorem cmp_Or_two (p q : Int) : Ev (fun k => cmp_Or_int.f k [p, q]) (if p = 0 then q else p) := by
  refine Ev.of (k := 3) (cmp_Or_int.mono _) ?_
  unfold cmp_Or_int.f
  simp only [cmp_Or_int.l0, List.length_cons, List.length_nil]
  have w1 : wrap64 (0 + 1) = 1 := by decide +kernel
  have w2 : wrap64 (1 + 1) = 2 := by decide +kernel
  have e0 : rd [p, q] 0 = p := rfl
  have e1 : rd [p, q] 1 = q := rfl
  simp only [w1, w2, e0, e1]
  by_cases hp : p = 0 <;> by_cases hq : q = 0 <;> simp [hp, hq]
def tagLt (a0 a1 b0 b1 : Int) : Bool := decide (a0 < b0 ∨ a0 = b0 ∧ a1 < b1)
theorem tag_Less_ev (a0 a1 b0 b1 : Int) : Ev (fun k => tag_Less.f k a0 a1 b0 b1) (tagLt a0 a1 b0 b1) := by
  unfold tag_Less.f tag_compare.f
  refine Ev.bind (a := if (if a0 < b0 then -1 else if b0 < a0 then 1 else 0) = (0 : Int) then (if a1 < b1 then -1 else if b1 < a1 then 1 else 0) else (if a0 < b0 then -1 else if b0 < a0 then 1 else 0)) ?_ ?_
  · refine Ev.bind_all (cmp_Compare_eq _ _) ?_
    refine Ev.bind_all (cmp_Compare_eq _ _) ?_
    refine Ev.bind (cmp_Or_two _ _) ?_
    exact Ev.all fun k => rfl
  · refine Ev.all fun k => ?_
    unfold tagLt
    congr 1
    rw [decide_eq_decide]
    by_cases h1 : a0 < b0
    · simp [h1]
    · by_cases h2 : b0 < a0
      · simp [h1, h2]; omega
      · have : a0 = b0 := by omega
        subst this
        by_cases h3 : a1 < b1
        · simp [h3]
        · by_cases h4 : b1 < a1
          · simp [h3, h4]
          · simp [h3, h4]

/-! book: find, Get, Check, Merge, News -/
abbrev E := S26
def noE (key : Int) : E := ⟨key, ⟨0, 0⟩, 0⟩
def findL : List E → Int → E
  | [], key => noE key
  | x :: l, key => if x.f0 = key then x else findL l key
theorem find_l0 (xs : List E) (hn : xs.length < 4611686018427387904) (key : Int) (d : Nat) : ∀ (i : Nat), xs.length - i = d → i ≤ xs.length →
    ∃ r : Int, Ev (fun k => api_Entry.l0 k xs (xs.length : Int) (i : Int) key) r ∧ ((r = -1 ∧ findL (xs.drop i) key = noE key) ∨ ∃ j : Nat, r = (j : Int) ∧ j < xs.length ∧ findL (xs.drop i) key = xs.getD j z26) := by
  induction d with
  | zero =>
    intro i hd hi
    refine ⟨-1, Ev.const fun k => ?_, Or.inl ⟨rfl, ?_⟩⟩
    · simp only [api_Entry.l0]
      rw [if_neg (by omega)]
    · rw [List.drop_eq_nil_of_le (by omega)]; rfl
  | succ d ih =>
    intro i hd hi
    have hlt : i < xs.length := by omega
    have e : rd_T26 xs i = xs.getD i z26 := rfl
    rw [drop_cons hlt z26]
    generalize hx : xs.getD i z26 = x at e
    by_cases hk : x.f0 = key
    · refine ⟨i, Ev.const fun k => ?_, Or.inr ⟨i, rfl, hlt, ?_⟩⟩
      · simp only [api_Entry.l0]
        rw [if_pos (by omega), if_pos (by omega), if_pos (by omega), e]
        simp [book_find_1.f, hk]
      · simp only [findL]; rw [if_pos hk]; exact hx.symm
    · obtain ⟨r, hr, hc⟩ := ih (i + 1) (by omega) (by omega)
      refine ⟨r, Ev.step' hr fun k => ?_, ?_⟩
      · simp only [api_Entry.l0]
        rw [if_pos (by omega), if_pos (by omega), if_pos (by omega), e, wrap_nat (by omega)]
        simp [book_find_1.f, hk]
      · simp only [findL]; rw [if_neg hk]; exact hc
theorem book_find_ev (xs : List E) (hn : xs.length < 4611686018427387904) (key : Int) : Ev (fun k => book_find.f k xs key) ((findL xs key).f0, (findL xs key).f1.f0, (findL xs key).f1.f1, (findL xs key).f2) := by
  unfold book_find.f
  obtain ⟨r, hr, h⟩ := find_l0 xs hn key xs.length 0 (by omega) (by omega)
  refine Ev.bind (show Ev (fun k => api_Entry.f k xs key) r from hr) ?_
  rcases h with ⟨rfl, hf⟩ | ⟨j, rfl, hj, hf⟩
  · rw [List.drop_zero] at hf
    refine Ev.ite_pos (by decide) (Ev.all fun k => ?_)
    rw [hf]; rfl
  · rw [List.drop_zero] at hf
    refine Ev.ite_neg (by omega) (Ev.ite_pos (by omega) (Ev.ite_pos (by omega) (Ev.all fun k => ?_)))
    rw [hf]; rfl
def okKey (key : Int) : Prop := 0 ≤ key ∧ key < 4
theorem book_Get_ok (xs : List E) (hn : xs.length < 4611686018427387904) {key : Int} (h : okKey key) : Ev (fun k => book_Get.f k xs key) ((findL xs key).f0, (findL xs key).f1.f0, (findL xs key).f1.f1, (findL xs key).f2, 0) := by
  unfold book_Get.f
  refine Ev.ite_neg (by have := h.1; omega) (Ev.ite_neg (by have := h.2; omega) ?_)
  exact Ev.bind (book_find_ev xs hn key) (Ev.all fun k => rfl)
theorem book_Get_no (xs : List E) {key : Int} (h : ¬ okKey key) : Ev (fun k => book_Get.f k xs key) (0, 0, 0, 0, 71) := by
  unfold book_Get.f
  refine Ev.ite (fun _ => Ev.all fun k => rfl) fun h1 => ?_
  exact Ev.ite_pos (by unfold okKey at h; omega) (Ev.all fun k => rfl)
def rightT (a b : Int) : Bool := decide (0 ≤ a ∧ a ≤ 1000000 ∧ 0 ≤ b ∧ b < 6 ∧ (0 < a ∨ b = 0))
theorem tag_Right_eq (a b : Int) : tag_Right.f a b = some (rightT a b) := by
  unfold tag_Right.f rightT
  by_cases h1 : a ≥ 0 <;> by_cases h2 : a ≤ 1000000 <;> by_cases h3 : b ≥ 0 <;> by_cases h4 : b < 6 <;> by_cases h5 : a > 0 <;> simp [h1, h2, h3, h4, h5] <;> rw [Bool.eq_iff_iff] <;> simp <;> omega
def okE (lo : Int) (x : E) : Bool := decide (lo < x.f0 ∧ x.f0 < 4 ∧ 0 < x.f1.f0 ∧ x.f1.f0 ≤ 1000000 ∧ 0 ≤ x.f1.f1 ∧ x.f1.f1 < 6)
theorem okE_iff (lo : Int) (x : E) : okE lo x = true ↔ (lo < x.f0 ∧ x.f0 < 4 ∧ 0 < x.f1.f0 ∧ x.f1.f0 ≤ 1000000 ∧ 0 ≤ x.f1.f1 ∧ x.f1.f1 < 6) := by unfold okE; exact decide_eq_true_iff
def chk : Int → List E → Bool
  | _, [] => true
  | lo, x :: l => okE lo x && chk x.f0 l
/-- is one entry's tag older than another's? -/
def olt (x y : E) : Bool := tagLt x.f1.f0 x.f1.f1 y.f1.f0 y.f1.f1
theorem olt_iff (x y : E) : olt x y = true ↔ (x.f1.f0 < y.f1.f0 ∨ x.f1.f0 = y.f1.f0 ∧ x.f1.f1 < y.f1.f1) := by unfold olt tagLt; exact decide_eq_true_iff
def pick (x y : E) : E := if olt x y = true then y else x
def keep (x : E) : Bool := decide (x.f1.f0 > 0)
def k4 : List Int := [0, 1, 2, 3]
theorem k4_get {i : Nat} (h : i < 4) : k4.drop i = (i : Int) :: k4.drop (i + 1) := by
  have : i = 0 ∨ i = 1 ∨ i = 2 ∨ i = 3 := by omega
  rcases this with rfl | rfl | rfl | rfl <;> rfl
def mergeL (a b : List E) : List E := (k4.map fun key => pick (findL a key) (findL b key)).filter keep
theorem book_Merge_l0 (a b : List E) (ha : a.length < 4611686018427387904) (hb : b.length < 4611686018427387904) (m : Nat) : ∀ (i : Nat) (acc : List E), 4 - i = m → i ≤ 4 → acc.length ≤ i →
    Ev (fun k => book_Merge.l0 k a b acc (i : Int)) (acc ++ ((k4.drop i).map fun key => pick (findL a key) (findL b key)).filter keep) := by
  induction m with
  | zero =>
    intro i acc hm hi hl
    obtain rfl : i = 4 := by omega
    refine Ev.const fun k => ?_
    simp only [book_Merge.l0]
    rw [if_neg (by decide)]
    simp [k4]
  | succ m ih =>
    intro i acc hm hi hl
    have hlt : i < 4 := by omega
    rw [k4_get hlt]
    have hw : wrap64 ((i : Int) + 1) = ((i + 1 : Nat) : Int) := wrap_nat (by omega)
    have st : ∀ p : E, Ev (fun k => book_Merge.j1 k a b acc (i : Int) p.f0 p.f1.f0 p.f1.f1 p.f2) (acc ++ (p :: (k4.drop (i + 1)).map fun key => pick (findL a key) (findL b key)).filter keep) := by
      intro p
      refine Ev.succ ?_
      simp only [book_Merge.j1]
      rw [hw]
      by_cases hp : p.f1.f0 > 0
      · rw [List.filter_cons_of_pos (by unfold keep; exact decide_eq_true hp)]
        refine Ev.ite_pos hp (Ev.ite_pos (by omega) ?_)
        have := ih (i + 1) (acc ++ [p]) (by omega) (by omega) (by simp; omega)
        rw [List.append_assoc] at this
        exact this
      · rw [List.filter_cons_of_neg (by unfold keep; simpa using hp)]
        exact Ev.ite_neg hp (ih (i + 1) acc (by omega) (by omega) (by omega))
    refine Ev.succ ?_
    simp only [book_Merge.l0]
    refine Ev.ite_pos (by omega) ?_
    refine Ev.bind (book_find_ev a ha i) ?_
    refine Ev.bind (book_find_ev b hb i) ?_
    refine Ev.bind (tag_Less_ev _ _ _ _) ?_
    rw [List.map_cons]
    by_cases h : olt (findL a i) (findL b i) = true
    · rw [show pick (findL a i) (findL b i) = findL b i from if_pos h]
      exact Ev.ite_pos h (st (findL b i))
    · rw [show pick (findL a i) (findL b i) = findL a i from if_neg h]
      exact Ev.ite_neg h (st (findL a i))
theorem book_Merge_ev (a b : List E) (ha : a.length < 4611686018427387904) (hb : b.length < 4611686018427387904) : Ev (fun k => book_Merge.f k a b) (mergeL a b) := book_Merge_l0 a b ha hb 4 0 [] (by omega) (by omega) (by simp)
theorem merge_len (a b : List E) : (mergeL a b).length ≤ 4 := by
  unfold mergeL
  refine Nat.le_trans (List.length_filter_le _ _) ?_
  simp [k4]

def newsL (old bk : List E) : List E := bk.filter fun x => olt (findL old x.f0) x
theorem news_len (a b : List E) : (newsL a b).length ≤ b.length := List.length_filter_le _ _
theorem book_News_l0 (a xs : List E) (ha : a.length < 4611686018427387904) (hn : xs.length < 4398046511104) (d : Nat) : ∀ (i : Nat) (acc : List E), xs.length - i = d → i ≤ xs.length → acc.length ≤ i →
    Ev (fun k => book_News.l0 k a acc xs (xs.length : Int) (i : Int)) (acc ++ newsL a (xs.drop i)) := by
  induction d with
  | zero =>
    intro i acc hd hi hl
    refine Ev.const fun k => ?_
    simp only [book_News.l0]
    rw [if_neg (by omega), List.drop_eq_nil_of_le (by omega)]
    simp [newsL]
  | succ d ih =>
    intro i acc hd hi hl
    have hlt : i < xs.length := by omega
    have e : rd_T26 xs i = xs.getD i z26 := rfl
    rw [drop_cons hlt z26]
    refine Ev.succ ?_
    simp only [book_News.l0]
    refine Ev.ite_pos (by omega) (Ev.ite_pos (by omega) (Ev.ite_pos (by omega) ?_))
    rw [e, wrap_nat (by omega)]
    generalize hx : xs.getD i z26 = x
    refine Ev.bind (book_find_ev a ha x.f0) ?_
    refine Ev.bind (tag_Less_ev _ _ _ _) ?_
    by_cases h : olt (findL a x.f0) x = true
    · rw [show newsL a (x :: xs.drop (i + 1)) = x :: newsL a (xs.drop (i + 1)) from List.filter_cons_of_pos h]
      refine Ev.ite_pos h (Ev.ite_pos (by omega) ?_)
      have := ih (i + 1) (acc ++ [x]) (by omega) (by omega) (by simp; omega)
      rw [List.append_assoc] at this
      exact this
    · rw [show newsL a (x :: xs.drop (i + 1)) = newsL a (xs.drop (i + 1)) from List.filter_cons_of_neg h]
      exact Ev.ite_neg h (ih (i + 1) acc (by omega) (by omega) (by omega))
theorem book_News_ev (a b : List E) (ha : a.length < 4611686018427387904) (hb : b.length < 4398046511104) : Ev (fun k => book_News.f k a b) (newsL a b) := book_News_l0 a b ha hb b.length 0 [] (by omega) (by omega) (by simp)
def withinL (a c : List E) : Bool := (newsL c a).isEmpty
theorem book_Within_ev (a c : List E) (ha : a.length < 4398046511104) (hc : c.length < 4611686018427387904) : Ev (fun k => book_Within.f k a c) (withinL a c) := by
  unfold book_Within.f
  refine Ev.bind (book_News_ev c a hc ha) (Ev.all fun k => ?_)
  unfold withinL
  cases newsL c a
  · rfl
  · simp; omega

/-! book: what is found in what is merged -/
def okX (key : Int) (x : E) : Prop := x = noE key ∨ (x.f0 = key ∧ 0 < x.f1.f0 ∧ x.f1.f0 ≤ 1000000 ∧ 0 ≤ x.f1.f1 ∧ x.f1.f1 < 6)
theorem chk_mem {lo : Int} {l : List E} (h : chk lo l = true) : ∀ x ∈ l, okE lo x = true := by
  induction l generalizing lo with
  | nil => intro x hx; cases hx
  | cons y l ih =>
    intro x hx
    simp only [chk, Bool.and_eq_true] at h
    rcases List.mem_cons.1 hx with rfl | hx
    · exact h.1
    · have h1 := (okE_iff _ _).1 h.1
      have h2 := (okE_iff _ _).1 (ih h.2 x hx)
      rw [okE_iff]; omega
theorem chk_mono {lo lo' : Int} {l : List E} (hl : lo' ≤ lo) (h : chk lo l = true) : chk lo' l = true := by
  cases l with
  | nil => rfl
  | cons y l =>
    simp only [chk, Bool.and_eq_true] at h ⊢
    refine ⟨?_, h.2⟩
    have := (okE_iff _ _).1 h.1
    rw [okE_iff]; omega
theorem find_none {l : List E} {key : Int} (h : ∀ x ∈ l, x.f0 ≠ key) : findL l key = noE key := by
  induction l with
  | nil => rfl
  | cons y l ih =>
    simp only [findL]
    rw [if_neg (h y (List.mem_cons_self ..)), ih fun x hx => h x (List.mem_cons_of_mem _ hx)]
theorem find_some (l : List E) (key : Int) : findL l key = noE key ∨ (findL l key ∈ l ∧ (findL l key).f0 = key) := by
  induction l with
  | nil => exact Or.inl rfl
  | cons y l ih =>
    simp only [findL]
    by_cases h : y.f0 = key
    · rw [if_pos h]; exact Or.inr ⟨List.mem_cons_self .., h⟩
    · rw [if_neg h]
      rcases ih with ih | ⟨ih, k⟩
      · exact Or.inl ih
      · exact Or.inr ⟨List.mem_cons_of_mem _ ih, k⟩
theorem find_ok {lo : Int} {l : List E} (h : chk lo l = true) (key : Int) : okX key (findL l key) := by
  rcases find_some l key with k | ⟨k, e⟩
  · exact Or.inl k
  · have := (okE_iff _ _).1 (chk_mem h _ k)
    exact Or.inr ⟨e, by omega, by omega, by omega, by omega⟩
theorem find_mem {lo : Int} {l : List E} (h : chk lo l = true) : ∀ x ∈ l, findL l x.f0 = x := by
  induction l generalizing lo with
  | nil => intro x hx; cases hx
  | cons y l ih =>
    intro x hx
    simp only [chk, Bool.and_eq_true] at h
    simp only [findL]
    rcases List.mem_cons.1 hx with rfl | hx
    · rw [if_pos rfl]
    · have := (okE_iff _ _).1 (chk_mem h.2 x hx)
      rw [if_neg (by omega)]
      exact ih h.2 x hx
def ks : Nat → List Int
  | 0 => []
  | n + 1 => (3 - (n : Int)) :: ks n
theorem ks_four : k4 = ks 4 := rfl
theorem ks_gt {n : Nat} : ∀ key ∈ ks n, 3 - (n : Int) < key := by
  induction n with
  | zero => intro key h; cases h
  | succ n ih =>
    intro key h
    rcases List.mem_cons.1 h with rfl | h
    · omega
    · have := ih key h; omega
theorem keep_noE (key : Int) : keep (noE key) = false := by unfold keep noE; simp
theorem canon_nil (l : List Int) : (l.map (findL [])).filter keep = [] := by
  induction l with
  | nil => rfl
  | cons k l ih =>
    rw [List.map_cons, List.filter_cons_of_neg (by rw [show findL [] k = noE k from rfl, keep_noE]; simp)]
    exact ih
theorem canon_n (n : Nat) : ∀ a : List E, chk (3 - (n : Int)) a = true → ((ks n).map (findL a)).filter keep = a := by
  induction n with
  | zero =>
    intro a h
    cases a with
    | nil => rfl
    | cons x l =>
      simp only [chk, Bool.and_eq_true] at h
      have := (okE_iff _ _).1 h.1
      omega
  | succ n ih =>
    intro a h
    cases a with
    | nil => exact canon_nil _
    | cons x l =>
      have hx := h
      simp only [chk, Bool.and_eq_true] at hx
      have ho := (okE_iff _ _).1 hx.1
      simp only [ks]
      rw [List.map_cons]
      by_cases hk : x.f0 = 3 - (n : Int)
      · have e : findL (x :: l) (3 - (n : Int)) = x := by simp only [findL]; rw [if_pos hk]
        rw [e, List.filter_cons_of_pos (by unfold keep; exact decide_eq_true (by omega))]
        have ec : (ks n).map (findL (x :: l)) = (ks n).map (findL l) := by
          refine List.map_congr_left fun key hkey => ?_
          have := ks_gt key hkey
          simp only [findL]; rw [if_neg (by omega)]
        rw [ec, ih l (by rw [← hk]; exact hx.2)]
      · have h' : chk (3 - (n : Int)) (x :: l) = true := by
          simp only [chk, Bool.and_eq_true]
          exact ⟨by rw [okE_iff]; omega, hx.2⟩
        have e : findL (x :: l) (3 - (n : Int)) = noE (3 - (n : Int)) := find_none fun y hy => by
          have := (okE_iff _ _).1 (chk_mem h' y hy); omega
        rw [e, List.filter_cons_of_neg (by rw [keep_noE]; simp)]
        exact ih _ h'
theorem canon {a : List E} (h : chk (-1) a = true) : (k4.map (findL a)).filter keep = a := canon_n 4 a h
theorem find_canon (p : Int → E) (hp : ∀ key, (p key).f0 = key) (L : List Int) (key : Int) : findL ((L.map p).filter keep) key = if key ∈ L ∧ keep (p key) = true then p key else noE key := by
  induction L with
  | nil => rw [if_neg (by simp)]; rfl
  | cons q L ih =>
    rw [List.map_cons]
    by_cases hk : keep (p q) = true
    · rw [List.filter_cons_of_pos hk]
      simp only [findL]
      rw [hp]
      by_cases hq : q = key
      · subst hq; rw [if_pos rfl, if_pos ⟨List.mem_cons_self .., hk⟩]
      · rw [if_neg hq, ih]
        have : (key ∈ q :: L ∧ keep (p key) = true) ↔ (key ∈ L ∧ keep (p key) = true) := by
          simp [List.mem_cons, fun e : key = q => hq e.symm]; intro _ e; exact absurd e.symm hq
        simp only [this]
    · rw [List.filter_cons_of_neg hk, ih]
      have : (key ∈ q :: L ∧ keep (p key) = true) ↔ (key ∈ L ∧ keep (p key) = true) := by
        constructor
        · rintro ⟨h, k⟩
          rcases List.mem_cons.1 h with rfl | h
          · exact absurd k hk
          · exact ⟨h, k⟩
        · rintro ⟨h, k⟩; exact ⟨List.mem_cons_of_mem _ h, k⟩
      simp only [this]
theorem okX_key {key : Int} {x : E} (h : okX key x) : x.f0 = key := by
  rcases h with rfl | h
  · rfl
  · exact h.1
theorem okX_keep {key : Int} {x : E} (h : okX key x) (k : ¬ keep x = true) : x = noE key := by
  rcases h with rfl | h
  · rfl
  · exact absurd (by unfold keep; exact decide_eq_true h.2.1) k
theorem okX_pick {key : Int} {x y : E} (h : okX key x) (k : okX key y) : okX key (pick x y) := by
  unfold pick; split
  · exact k
  · exact h
theorem chk_canon (p : Int → E) (hp : ∀ key, okX key (p key)) (n : Nat) : n ≤ 4 → chk (3 - (n : Int)) (((ks n).map p).filter keep) = true := by
  induction n with
  | zero => intro _; rfl
  | succ n ih =>
    intro hn
    simp only [ks]
    rw [List.map_cons]
    by_cases hk : keep (p (3 - (n : Int))) = true
    · rw [List.filter_cons_of_pos hk]
      simp only [chk, Bool.and_eq_true]
      have hb := hp (3 - (n : Int))
      have e := okX_key hb
      refine ⟨?_, by rw [e]; exact ih (by omega)⟩
      rcases hb with hb | hb
      · rw [hb, keep_noE] at hk; exact absurd hk (by simp)
      · rw [okE_iff]; omega
    · rw [List.filter_cons_of_neg hk]
      exact chk_mono (by omega) (ih (by omega))
theorem merge_chk {a b : List E} (ha : chk (-1) a = true) (hb : chk (-1) b = true) : chk (-1) (mergeL a b) = true :=
  chk_canon (fun key => pick (findL a key) (findL b key)) (fun key => okX_pick (find_ok ha key) (find_ok hb key)) 4 (by omega)
theorem mem_k4 (key : Int) : key ∈ k4 ↔ okKey key := by
  unfold k4 okKey; simp; omega
theorem find_out {a : List E} (ha : chk (-1) a = true) {key : Int} (h : ¬ okKey key) : findL a key = noE key := find_none fun x hx e => by
  have := (okE_iff _ _).1 (chk_mem ha x hx)
  unfold okKey at h; omega
theorem find_merge {a b : List E} (ha : chk (-1) a = true) (hb : chk (-1) b = true) (key : Int) : findL (mergeL a b) key = pick (findL a key) (findL b key) := by
  have hok := fun key => okX_pick (find_ok ha key) (find_ok hb key)
  unfold mergeL
  rw [find_canon (fun key => pick (findL a key) (findL b key)) (fun key => okX_key (hok key))]
  by_cases h : okKey key
  · by_cases k : keep (pick (findL a key) (findL b key)) = true
    · rw [if_pos ⟨(mem_k4 key).2 h, k⟩]
    · rw [if_neg (fun z => k z.2), okX_keep (hok key) k]
  · rw [if_neg (fun z => h ((mem_k4 key).1 z.1)), find_out ha h, find_out hb h]
    unfold pick; split <;> rfl
theorem ext_find {a b : List E} (ha : chk (-1) a = true) (hb : chk (-1) b = true) (h : ∀ key, findL a key = findL b key) : a = b := by
  rw [← canon ha, ← canon hb, show findL a = findL b from funext h]
theorem not_lt_no {key k2 : Int} {x : E} (h : okX key x) : ¬ olt x (noE k2) = true := by
  rw [olt_iff]
  rcases h with rfl | h
  · unfold noE; simp
  · unfold noE; simp; omega
theorem pick_assoc (x y z : E) : pick (pick x y) z = pick x (pick y z) := by
  unfold pick
  by_cases h1 : olt x y = true <;> by_cases h2 : olt y z = true <;> by_cases h3 : olt x z = true <;> simp [h1, h2, h3]
  · rw [olt_iff] at h1 h2 h3; omega
  · rw [olt_iff] at h1 h2 h3; omega
theorem pick_self (x : E) : pick x x = x := by unfold pick; split <;> rfl

theorem ref_Less_eq (a0 a1 b0 b1 : Int) : ropewayref06_Less.f a0 a1 b0 b1 = some (tagLt a0 a1 b0 b1) := by
  unfold ropewayref06_Less.f tagLt
  by_cases h : a0 = b0
  · rw [if_pos h, Option.some.injEq, decide_eq_decide]; omega
  · rw [if_neg h, Option.some.injEq, decide_eq_decide]; omega

/-! the document's answers -/
theorem ref_Find_l0 (xs : List E) (hn : xs.length < 4611686018427387904) (key : Int) (d : Nat) : ∀ (i : Nat), xs.length - i = d → i ≤ xs.length →
    Ev (fun k => ropewayref07_Find.l0 k key xs (xs.length : Int) (i : Int)) ((findL (xs.drop i) key).f0, (findL (xs.drop i) key).f1.f0, (findL (xs.drop i) key).f1.f1, (findL (xs.drop i) key).f2) := by
  induction d with
  | zero =>
    intro i hd hi
    refine Ev.const fun k => ?_
    simp only [ropewayref07_Find.l0]
    rw [if_neg (by omega), List.drop_eq_nil_of_le (by omega)]
    rfl
  | succ d ih =>
    intro i hd hi
    have hlt : i < xs.length := by omega
    have e : rd_T26 xs i = xs.getD i z26 := rfl
    rw [drop_cons hlt z26]
    refine Ev.succ ?_
    simp only [ropewayref07_Find.l0]
    refine Ev.ite_pos (by omega) (Ev.ite_pos (by omega) (Ev.ite_pos (by omega) ?_))
    rw [e, wrap_nat (by omega)]
    generalize xs.getD i z26 = x
    simp only [findL]
    by_cases h : x.f0 = key
    · rw [if_pos h]; exact Ev.ite_pos h (Ev.all fun k => rfl)
    · rw [if_neg h]; exact Ev.ite_neg h (ih (i + 1) (by omega) (by omega))
theorem ref_Find_ev (xs : List E) (hn : xs.length < 4611686018427387904) (key : Int) : Ev (fun k => ropewayref07_Find.f k xs key) ((findL xs key).f0, (findL xs key).f1.f0, (findL xs key).f1.f1, (findL xs key).f2) := ref_Find_l0 xs hn key xs.length 0 (by omega) (by omega)
theorem ref_Right_eq (a b : Int) : ropewayref06_Right.f a b = some (rightT a b) := by
  unfold ropewayref06_Right.f rightT
  by_cases h0 : a = 0
  · rw [if_pos h0, Option.some.injEq, Bool.eq_iff_iff]; simp; omega
  · rw [if_neg h0]
    by_cases h1 : a > 0 <;> by_cases h2 : a ≤ 1000000 <;> by_cases h3 : b ≥ 0 <;> simp [h1, h2, h3] <;> first | omega | (rw [Bool.eq_iff_iff]; simp; omega)
/-- the last key before place i -/
def before (xs : List E) (i : Nat) : Int := if i = 0 then -1 else (xs.getD (i - 1) z26).f0
theorem ref_Check_l0 (xs : List E) (hn : xs.length < 4611686018427387904) (d : Nat) : ∀ (i : Nat), xs.length - i = d → i ≤ xs.length → -1 ≤ before xs i →
    Ev (fun k => ropewayref07_Check.l0 k xs xs (xs.length : Int) (i : Int)) (if chk (before xs i) (xs.drop i) = true then 0 else 71) := by
  induction d with
  | zero =>
    intro i hd hi _
    refine Ev.const fun k => ?_
    simp only [ropewayref07_Check.l0]
    rw [if_neg (by omega), List.drop_eq_nil_of_le (by omega)]
    rfl
  | succ d ih =>
    intro i hd hi hb
    have hlt : i < xs.length := by omega
    have e : rd_T26 xs i = xs.getD i z26 := rfl
    rw [drop_cons hlt z26]
    have hbn : before xs (i + 1) = (xs.getD i z26).f0 := by unfold before; rw [if_neg (by omega)]; rfl
    have ihn := ih (i + 1) (by omega) (by omega)
    rw [hbn] at ihn
    have hprev : (i : Int) > 0 → rd_T26 xs (wrap64 ((i : Int) - 1)) = xs.getD (i - 1) z26 := by
      intro h
      rw [wrap_in (by omega) (by omega)]
      have : ((i : Int) - 1) = ((i - 1 : Nat) : Int) := by omega
      rw [this]; rfl
    refine Ev.succ ?_
    simp only [ropewayref07_Check.l0]
    refine Ev.ite_pos (by omega) (Ev.ite_pos (by omega) (Ev.ite_pos (by omega) ?_))
    have j71 : Ev (fun k => ropewayref07_Check.j1 k xs xs (xs.length : Int) (i : Int) true) 71 := Ev.const fun k => by simp only [ropewayref07_Check.j1]; rfl
    have jgo : ∀ r : Int, Ev (fun k => ropewayref07_Check.l0 k xs xs (xs.length : Int) ((i + 1 : Nat) : Int)) r → Ev (fun k => ropewayref07_Check.j1 k xs xs (xs.length : Int) (i : Int) false) r := by
      intro r h
      refine Ev.succ ?_
      simp only [ropewayref07_Check.j1]
      rw [wrap_nat (by omega)]
      exact Ev.ite_neg (by simp) h
    rw [e]
    generalize xs.getD i z26 = x at *
    have hlo : (i : Int) > 0 → before xs i = (xs.getD (i - 1) z26).f0 := by intro h; unfold before; rw [if_neg (by omega)]
    have hl0 : ¬ (i : Int) > 0 → before xs i = -1 := by intro h; unfold before; rw [if_pos (by omega)]
    generalize before xs i = lo at *
    by_cases ok : okE lo x = true
    · rw [show chk lo (x :: xs.drop (i + 1)) = chk x.f0 (xs.drop (i + 1)) by simp [chk, ok]]
      obtain ⟨o1, o2, o3, o4, o5, o6⟩ := (okE_iff lo x).1 ok
      refine Ev.ite_neg (by omega) (Ev.ite_neg (by omega) ?_)
      refine Ev.bind_all (ref_Right_eq _ _) ?_
      refine Ev.ite_pos (by unfold rightT; exact decide_eq_true (by omega)) (Ev.ite_neg (by omega) ?_)
      refine Ev.ite (fun h => ?_) (fun _ => jgo _ (ihn (by omega)))
      have hw : wrap64 ((i : Int) - 1) = (i : Int) - 1 := wrap_in (by omega) (by omega)
      refine Ev.ite_pos (by rw [hw]; omega) (Ev.ite_pos (by rw [hw]; omega) ?_)
      rw [hprev h, ← hlo h, decide_eq_false (by omega)]
      exact jgo _ (ihn (by omega))
    · rw [show chk lo (x :: xs.drop (i + 1)) = false by simp [chk, ok]]
      refine Ev.ite (fun _ => j71) fun h1 => ?_
      refine Ev.ite (fun _ => j71) fun h2 => ?_
      refine Ev.bind_all (ref_Right_eq _ _) ?_
      refine Ev.ite (fun h3 => ?_) (fun _ => j71)
      refine Ev.ite (fun _ => j71) fun h4 => ?_
      unfold rightT at h3
      have h3 := of_decide_eq_true h3
      rw [okE_iff] at ok
      refine Ev.ite_pos (by apply Decidable.byContradiction; intro z; have := hl0 z; omega) ?_
      have h : (i : Int) > 0 := by apply Decidable.byContradiction; intro z; have := hl0 z; omega
      have hw : wrap64 ((i : Int) - 1) = (i : Int) - 1 := wrap_in (by omega) (by omega)
      refine Ev.ite_pos (by rw [hw]; omega) (Ev.ite_pos (by rw [hw]; omega) ?_)
      rw [hprev h, ← hlo h, decide_eq_true (by omega)]
      exact j71
theorem ref_Check_ev (xs : List E) (hn : xs.length < 4611686018427387904) : Ev (fun k => ropewayref07_Check.f k xs) (if chk (-1) xs = true then 0 else 71) := ref_Check_l0 xs hn xs.length 0 (by omega) (by omega) (by unfold before; simp)

theorem bits_some (b : Nat) : ∃ v, ropewayref01_Bits.f b = some v := by
  unfold ropewayref01_Bits.f ropewayref01_Clean.f ropewayref01_Parts.f
  simp only [Option.bind_some]
  split
  · split
    · exact ⟨_, rfl⟩
    · exact ⟨_, rfl⟩
  · exact ⟨_, rfl⟩
theorem alike_self (x : E) : ropewayref07_Alike.f x.f0 x.f1.f0 x.f1.f1 x.f2 x.f0 x.f1.f0 x.f1.f1 x.f2 = some true := by
  obtain ⟨v, hv⟩ := bits_some x.f2
  unfold ropewayref07_Alike.f
  simp [hv]
theorem ref_Same_l0 (a : List E) (hn : a.length < 4611686018427387904) (d : Nat) : ∀ (i : Nat), a.length - i = d → i ≤ a.length →
    Ev (fun k => ropewayref07_Same.l0 k a a (a.length : Int) (i : Int)) true := by
  induction d with
  | zero =>
    intro i hd hi
    refine Ev.const fun k => ?_
    simp only [ropewayref07_Same.l0]
    rw [if_neg (by omega)]
  | succ d ih =>
    intro i hd hi
    have hlt : i < a.length := by omega
    refine Ev.succ ?_
    simp only [ropewayref07_Same.l0]
    refine Ev.ite_pos (by omega) (Ev.ite_pos (by omega) (Ev.ite_pos (by omega) (Ev.ite_pos (by omega) ?_)))
    rw [wrap_nat (by omega)]
    refine Ev.bind_all (alike_self _) ?_
    exact Ev.ite_pos rfl (ih (i + 1) (by omega) (by omega))
theorem ref_Same_self (a : List E) (hn : a.length < 4611686018427387904) : Ev (fun k => ropewayref07_Same.f k a a) true := by
  unfold ropewayref07_Same.f
  exact Ev.ite_pos rfl (ref_Same_l0 a hn a.length 0 (by omega) (by omega))
theorem ref_max_two (x y : E) : ∃ p q, Ev (fun k => ropewayref06_Max.f k [(⟨x.f1.f0, x.f1.f1⟩ : S23), ⟨y.f1.f0, y.f1.f1⟩]) (p, q) ∧ ((!(p == x.f1.f0) || (!(q == x.f1.f1))) = olt x y) := by
  refine ⟨(pick x y).f1.f0, (pick x y).f1.f1, ?_, ?_⟩
  · unfold ropewayref06_Max.f
    refine Ev.ite_neg (by simp) (Ev.ite_pos (by simp) ?_)
    have w1 : wrap64 (0 + 1) = 1 := by decide +kernel
    have w2 : wrap64 (1 + 1) = 2 := by decide +kernel
    refine Ev.succ ?_
    simp only [ropewayref06_Max.l0]
    refine Ev.ite_pos (by simp) (Ev.ite_pos (by simp) (Ev.ite_pos (by simp) ?_))
    refine Ev.bind_all (ref_Less_eq _ _ _ _) ?_
    refine Ev.ite_neg (show ¬ tagLt x.f1.f0 x.f1.f1 x.f1.f0 x.f1.f1 = true by unfold tagLt; simp) ?_
    rw [w1]
    refine Ev.succ ?_
    simp only [ropewayref06_Max.l0]
    refine Ev.ite_pos (by simp) (Ev.ite_pos (by simp) (Ev.ite_pos (by simp) ?_))
    refine Ev.bind_all (ref_Less_eq _ _ _ _) ?_
    rw [w2]
    have last : ∀ p q : Int, Ev (fun k => ropewayref06_Max.l0 k [(⟨x.f1.f0, x.f1.f1⟩ : S23), ⟨y.f1.f0, y.f1.f1⟩] (([(⟨x.f1.f0, x.f1.f1⟩ : S23), ⟨y.f1.f0, y.f1.f1⟩] : List S23).length : Int) 2 p q) (p, q) := fun p q => Ev.const fun k => by
      simp only [ropewayref06_Max.l0]
      rw [if_neg (by simp)]
    by_cases h : olt x y = true
    · rw [show pick x y = y from if_pos h]
      exact Ev.ite_pos h (last _ _)
    · rw [show pick x y = x from if_neg h]
      exact Ev.ite_neg h (last _ _)
  · by_cases h : olt x y = true
    · rw [show pick x y = y from if_pos h, h]
      rw [olt_iff] at h
      by_cases e : y.f1.f0 = x.f1.f0
      · have : ¬ y.f1.f1 = x.f1.f1 := by omega
        simp [e, this]
      · simp [e]
    · rw [show pick x y = x from if_neg h, show olt x y = false by simpa using h]
      simp
theorem ref_Merge_l0 (a b : List E) (ca : chk (-1) a = true) (cb : chk (-1) b = true) (ha : a.length < 4611686018427387904) (hb : b.length < 4611686018427387904) (m : Nat) : ∀ (i : Nat) (acc : List E), 4 - i = m → i ≤ 4 → acc.length ≤ i →
    Ev (fun k => ropewayref07_Merge.l0 k a b acc (i : Int)) (acc ++ ((k4.drop i).map fun key => pick (findL a key) (findL b key)).filter keep) := by
  induction m with
  | zero =>
    intro i acc hm hi hl
    obtain rfl : i = 4 := by omega
    refine Ev.const fun k => ?_
    simp only [ropewayref07_Merge.l0]
    rw [if_neg (by decide)]
    simp [k4]
  | succ m ih =>
    intro i acc hm hi hl
    have hlt : i < 4 := by omega
    rw [k4_get hlt]
    have hw : wrap64 ((i : Int) + 1) = ((i + 1 : Nat) : Int) := wrap_nat (by omega)
    have st : ∀ p : E, okX i p → Ev (fun k => ropewayref07_Merge.j1 k a b acc (i : Int) p.f0 p.f1.f0 p.f1.f1 p.f2) (acc ++ (p :: (k4.drop (i + 1)).map fun key => pick (findL a key) (findL b key)).filter keep) := by
      intro p ok
      refine Ev.succ ?_
      simp only [ropewayref07_Merge.j1]
      rw [hw]
      by_cases hp : p.f1.f0 > 0
      · rw [List.filter_cons_of_pos (by unfold keep; exact decide_eq_true hp)]
        refine Ev.ite_pos (by have : ¬ p.f1.f0 = 0 := by omega
                              simp [this]) (Ev.ite_pos (by omega) ?_)
        have := ih (i + 1) (acc ++ [p]) (by omega) (by omega) (by simp; omega)
        rw [List.append_assoc] at this
        exact this
      · rw [List.filter_cons_of_neg (by unfold keep; simpa using hp)]
        refine Ev.ite_neg ?_ (ih (i + 1) acc (by omega) (by omega) (by omega))
        rcases ok with rfl | ok
        · simp [noE]
        · omega
    refine Ev.succ ?_
    simp only [ropewayref07_Merge.l0]
    refine Ev.ite_pos (by omega) ?_
    refine Ev.bind (ref_Find_ev a ha i) ?_
    refine Ev.bind (ref_Find_ev b hb i) ?_
    obtain ⟨p, q, hpq, hc⟩ := ref_max_two (findL a i) (findL b i)
    refine Ev.bind hpq ?_
    rw [List.map_cons]
    by_cases h : olt (findL a i) (findL b i) = true
    · rw [show pick (findL a i) (findL b i) = findL b i from if_pos h]
      exact Ev.ite_pos (hc.trans h) (st (findL b i) (find_ok cb i))
    · rw [show pick (findL a i) (findL b i) = findL a i from if_neg h]
      exact Ev.ite_neg (fun z => h (hc.symm.trans z)) (st (findL a i) (find_ok ca i))
theorem ref_Merge_ev (a b : List E) (ca : chk (-1) a = true) (cb : chk (-1) b = true) (ha : a.length < 4611686018427387904) (hb : b.length < 4611686018427387904) : Ev (fun k => ropewayref07_Merge.f k a b) (mergeL a b) := ref_Merge_l0 a b ca cb ha hb 4 0 [] (by omega) (by omega) (by simp)
theorem ref_News_l0 (a xs : List E) (ha : a.length < 4611686018427387904) (hn : xs.length < 4398046511104) (d : Nat) : ∀ (i : Nat) (acc : List E), xs.length - i = d → i ≤ xs.length → acc.length ≤ i →
    Ev (fun k => ropewayref07_News.l0 k a acc xs (xs.length : Int) (i : Int)) (acc ++ newsL a (xs.drop i)) := by
  induction d with
  | zero =>
    intro i acc hd hi hl
    refine Ev.const fun k => ?_
    simp only [ropewayref07_News.l0]
    rw [if_neg (by omega), List.drop_eq_nil_of_le (by omega)]
    simp [newsL]
  | succ d ih =>
    intro i acc hd hi hl
    have hlt : i < xs.length := by omega
    have e : rd_T26 xs i = xs.getD i z26 := rfl
    rw [drop_cons hlt z26]
    refine Ev.succ ?_
    simp only [ropewayref07_News.l0]
    refine Ev.ite_pos (by omega) (Ev.ite_pos (by omega) (Ev.ite_pos (by omega) ?_))
    rw [e, wrap_nat (by omega)]
    generalize hx : xs.getD i z26 = x
    refine Ev.bind (ref_Find_ev a ha x.f0) ?_
    refine Ev.bind_all (ref_Less_eq _ _ _ _) ?_
    by_cases h : olt (findL a x.f0) x = true
    · rw [show newsL a (x :: xs.drop (i + 1)) = x :: newsL a (xs.drop (i + 1)) from List.filter_cons_of_pos h]
      refine Ev.ite_pos h (Ev.ite_pos (by omega) ?_)
      have := ih (i + 1) (acc ++ [x]) (by omega) (by omega) (by simp; omega)
      rw [List.append_assoc] at this
      exact this
    · rw [show newsL a (x :: xs.drop (i + 1)) = newsL a (xs.drop (i + 1)) from List.filter_cons_of_neg h]
      exact Ev.ite_neg h (ih (i + 1) acc (by omega) (by omega) (by omega))
theorem ref_News_ev (a b : List E) (ha : a.length < 4611686018427387904) (hb : b.length < 4398046511104) : Ev (fun k => ropewayref07_News.f k a b) (newsL a b) := ref_News_l0 a b ha hb b.length 0 [] (by omega) (by omega) (by simp)
theorem ref_Within_l0 (a xs : List E) (ha : a.length < 4611686018427387904) (hn : xs.length < 4398046511104) (d : Nat) : ∀ (i : Nat), xs.length - i = d → i ≤ xs.length →
    Ev (fun k => ropewayref07_Within.l0 k a xs (xs.length : Int) (i : Int)) ((newsL a (xs.drop i)).isEmpty) := by
  induction d with
  | zero =>
    intro i hd hi
    refine Ev.const fun k => ?_
    simp only [ropewayref07_Within.l0]
    rw [if_neg (by omega), List.drop_eq_nil_of_le (by omega)]
    rfl
  | succ d ih =>
    intro i hd hi
    have hlt : i < xs.length := by omega
    have e : rd_T26 xs i = xs.getD i z26 := rfl
    rw [drop_cons hlt z26]
    refine Ev.succ ?_
    simp only [ropewayref07_Within.l0]
    refine Ev.ite_pos (by omega) (Ev.ite_pos (by omega) (Ev.ite_pos (by omega) ?_))
    rw [e, wrap_nat (by omega)]
    generalize hx : xs.getD i z26 = x
    refine Ev.bind (ref_Find_ev a ha x.f0) ?_
    refine Ev.bind_all (ref_Less_eq _ _ _ _) ?_
    by_cases h : olt (findL a x.f0) x = true
    · rw [show newsL a (x :: xs.drop (i + 1)) = x :: newsL a (xs.drop (i + 1)) from List.filter_cons_of_pos h]
      exact Ev.ite_pos h (Ev.all fun k => rfl)
    · rw [show newsL a (x :: xs.drop (i + 1)) = newsL a (xs.drop (i + 1)) from List.filter_cons_of_neg h]
      exact Ev.ite_neg h (ih (i + 1) (by omega) (by omega))
theorem ref_Within_ev (a c : List E) (ha : a.length < 4398046511104) (hc : c.length < 4611686018427387904) : Ev (fun k => ropewayref07_Within.f k a c) (withinL a c) := ref_Within_l0 c a hc ha a.length 0 (by omega) (by omega)
theorem BookMerges : ropewaylaw07_BookMerges.Pure := by
  intro a b ⟨_, la, _⟩ ⟨_, lb, _⟩
  have hla : a.length < 4398046511104 := by omega
  have hlb : b.length < 4398046511104 := by omega
  have alive : Ev (fun k => ropewaylaw07_bookAlive.f k) true := Ev.closed ropewaylaw07_bookAlive.mono 60 (by decide +kernel)
  have jt : Ev (fun k => ropewaylaw07_BookMerges.j0 k a b true) true := Ev.const fun k => by simp only [ropewaylaw07_BookMerges.j0]; rfl
  have hall : Ev (fun k => ropewaylaw07_BookMerges.f k a b) true := by
    unfold ropewaylaw07_BookMerges.f
    refine Ev.bind alive (Ev.ite_pos rfl ?_)
    refine Ev.bind (ref_Check_ev a (by omega)) ?_
    by_cases ca : chk (-1) a = true
    · rw [if_pos ca]
      refine Ev.ite_pos rfl ?_
      refine Ev.bind (ref_Check_ev b (by omega)) ?_
      by_cases cb : chk (-1) b = true
      · rw [if_pos cb]
        have hm := merge_len a b
        have hn := news_len a b
        refine Ev.succ ?_
        simp only [ropewaylaw07_BookMerges.j0]
        refine Ev.ite_neg (by simp) ?_
        refine Ev.bind_all rfl ?_
        refine Ev.ite_pos (by simp only [List.length_nil, Nat.zero_add]; exact hla) ?_
        refine Ev.bind_all (show some (([] : List E) ++ a) = some a from rfl) ?_
        refine Ev.bind_all rfl ?_
        refine Ev.ite_pos (by simp only [List.length_nil, Nat.zero_add]; exact hlb) ?_
        refine Ev.bind_all (show some (([] : List E) ++ b) = some b from rfl) ?_
        refine Ev.bind (book_Merge_ev a b (by omega) (by omega)) ?_
        refine Ev.bind (book_News_ev a b (by omega) hlb) ?_
        refine Ev.bind (ref_Merge_ev a b ca cb (by omega) (by omega)) ?_
        refine Ev.bind (ref_Same_self _ (by omega)) (Ev.ite_pos rfl ?_)
        refine Ev.bind (ref_News_ev a b (by omega) hlb) ?_
        refine Ev.bind (ref_Same_self _ (by omega)) (Ev.ite_pos rfl ?_)
        refine Ev.bind (book_Within_ev a b hla (by omega)) ?_
        refine Ev.bind (ref_Within_ev a b hla (by omega)) ?_
        refine Ev.ite_pos (by simp) ?_
        refine Ev.bind (ref_Same_self a (by omega)) (Ev.ite_pos rfl ?_)
        exact Ev.bind (ref_Same_self b (by omega)) (Ev.all fun k => rfl)
      · rw [if_neg cb]; exact jt
    · rw [if_neg ca]
      exact Ev.ite_neg (by simp) jt
  exact hall.rounds

end Go.Proofs.Ytkefmjdhbmmaaaa.Pure
