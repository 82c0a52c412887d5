/- The pure statement of the law SnapRuns: whatever is got, which rounds are needed, with what, and what is found, as the reference has it; for every input. -/
import Derived.Test.YtoelfknhnmhlmaaPSnapRunsx
import Derived.Test.YtoelfknhnmhlmaaSSnapRunsXPure
import Derived.Test.YtoelfknhnmhlmaaSSnapRunsXOpen
namespace Go.Proofs.Ytoelfknhnmhlmaa.Pure
open Go.RowKit Go.Proofs.Ytoelfknhnmhlmaa.PSnapRuns Go.Proofs.YtoelfknhnmhlmaaW.PrintWords Go.Proofs.YtoelfknhnmhlmaaW.PrintLast Go.Proofs.YtoelfknhnmhlmaaW.PrintMore Go.Proofs.YtoelfknhnmhlmaaX
set_option linter.unusedVariables false
set_option linter.unusedSimpArgs false
/-! sets of nodes: two numbers below 64 -/
def pc (a : Int) : Int := (bits_OnesCount.f (IntKind.u64.wrap a)).getD 0
theorem set1 (p : Int → Prop) [DecidablePred p] (h : ∀ a : Fin 64, p (a.val : Int)) {x : Int} (h0 : 0 ≤ x) (h1 : x < 64) : p x := by
  have := h ⟨x.toNat, by omega⟩
  simpa [Int.toNat_of_nonneg h0] using this
theorem set2 (p : Int → Int → Prop) (h : ∀ a b : Fin 64, p (a.val : Int) (b.val : Int)) {x y : Int} (h0 : 0 ≤ x) (h1 : x < 64) (h2 : 0 ≤ y) (h3 : y < 64) : p x y := by
  have := h ⟨x.toNat, by omega⟩ ⟨y.toNat, by omega⟩
  simpa [Int.toNat_of_nonneg h0, Int.toNat_of_nonneg h2] using this
theorem pc_some {x : Int} (h0 : 0 ≤ x) (h1 : x < 64) : bits_OnesCount.f (IntKind.u64.wrap x) = some (pc x) ∧ 0 ≤ pc x ∧ pc x ≤ 6 :=
  set1 (fun x => bits_OnesCount.f (IntKind.u64.wrap x) = some (pc x) ∧ 0 ≤ pc x ∧ pc x ≤ 6) (by decide +kernel) h0 h1
theorem size_eq {a d : Int} (a0 : 0 ≤ a) (a1 : a < 64) (d0 : 0 ≤ d) (d1 : d < 64) : change_Size.f a d = some (pc a + pc d) := by
  obtain ⟨ea, la, ua⟩ := pc_some a0 a1
  obtain ⟨ed, ld, ud⟩ := pc_some d0 d1
  unfold change_Size.f
  rw [ea, ed]
  simp only [Option.bind_some]
  rw [wrap_in (by omega) (by omega)]
theorem name_eq {a d : Int} (a0 : 0 ≤ a) (a1 : a < 64) (d0 : 0 ≤ d) (d1 : d < 64) : change_Name.f a d = some (a * 64 + d) := by
  unfold change_Name.f
  rw [wrap_in (x := a * 64) (by omega) (by omega), wrap_in (by omega) (by omega)]

/-! cells: Of, News, Merge, Changes, Check, Clash -/
abbrev C := S34
abbrev V := S26
theorem getD_at {α : Type} (w : List α) (c z : α) (s : List α) : (w ++ c :: s).getD w.length z = c := by simp [List.getD]
theorem bits_Len_12 {n : Nat} (h : n ≤ 12) : ∃ v, Ev (fun k => bits_Len.f k (IntKind.u64.wrap (n : Int))) v := by
  have : n = 0 ∨ n = 1 ∨ n = 2 ∨ n = 3 ∨ n = 4 ∨ n = 5 ∨ n = 6 ∨ n = 7 ∨ n = 8 ∨ n = 9 ∨ n = 10 ∨ n = 11 ∨ n = 12 := by omega
  rcases this with rfl | rfl | rfl | rfl | rfl | rfl | rfl | rfl | rfl | rfl | rfl | rfl | rfl
  · exact ⟨0, Ev.closed (bits_Len.mono _) 5 (by decide +kernel)⟩
  · exact ⟨1, Ev.closed (bits_Len.mono _) 5 (by decide +kernel)⟩
  · exact ⟨2, Ev.closed (bits_Len.mono _) 5 (by decide +kernel)⟩
  · exact ⟨2, Ev.closed (bits_Len.mono _) 5 (by decide +kernel)⟩
  · exact ⟨3, Ev.closed (bits_Len.mono _) 5 (by decide +kernel)⟩
  · exact ⟨3, Ev.closed (bits_Len.mono _) 5 (by decide +kernel)⟩
  · exact ⟨3, Ev.closed (bits_Len.mono _) 5 (by decide +kernel)⟩
  · exact ⟨3, Ev.closed (bits_Len.mono _) 5 (by decide +kernel)⟩
  · exact ⟨4, Ev.closed (bits_Len.mono _) 5 (by decide +kernel)⟩
  · exact ⟨4, Ev.closed (bits_Len.mono _) 5 (by decide +kernel)⟩
  · exact ⟨4, Ev.closed (bits_Len.mono _) 5 (by decide +kernel)⟩
  · exact ⟨4, Ev.closed (bits_Len.mono _) 5 (by decide +kernel)⟩
  · exact ⟨4, Ev.closed (bits_Len.mono _) 5 (by decide +kernel)⟩
def findC : List C → Int → Option V
  | [], _ => none
  | c :: l, n => if c.f0 = n then some c.f1 else findC l n
def hasC (l : List C) (n : Int) : Bool := (findC l n).isSome
def ofR (o : Option V) : Int × Int × Bool := match o with | some v => (v.f0, v.f1, true) | none => (0, 0, false)
def newsL (old l : List C) : List C := l.filter fun c => !hasC old c.f0
/-! in order of the nodes -/
/-! c: what an insertion sort answers: the same elements, in order -/
/-! cells that can be: in order of their nodes -/
def okC (lo : Int) (c : C) : Bool := decide (lo < c.f0 ∧ c.f0 < 6 ∧ 0 ≤ c.f1.f0 ∧ c.f1.f0 < 64 ∧ 0 ≤ c.f1.f1 ∧ c.f1.f1 < 64 ∧ pc c.f1.f0 + pc c.f1.f1 ≠ 0)
theorem okC_iff (lo : Int) (c : C) : okC lo c = true ↔ (lo < c.f0 ∧ c.f0 < 6 ∧ 0 ≤ c.f1.f0 ∧ c.f1.f0 < 64 ∧ 0 ≤ c.f1.f1 ∧ c.f1.f1 < 64 ∧ pc c.f1.f0 + pc c.f1.f1 ≠ 0) := decide_eq_true_iff
def chk : Int → List C → Bool
  | _, [] => true
  | lo, c :: l => okC lo c && chk c.f0 l
theorem chk_mem {lo : Int} {l : List C} (h : chk lo l = true) : ∀ c ∈ l, okC lo c = true := by
  induction l generalizing lo with
  | nil => intro c hc; cases hc
  | cons y l ih =>
    intro c hc
    simp only [chk, Bool.and_eq_true] at h
    rcases List.mem_cons.1 hc with rfl | hc
    · exact h.1
    · have h1 := (okC_iff _ _).1 h.1
      have h2 := (okC_iff _ _).1 (ih h.2 c hc)
      rw [okC_iff]; omega
theorem chk_mono {lo lo' : Int} {l : List C} (hl : lo' ≤ lo) (h : chk lo l = true) : chk lo' l = true := by
  cases l with
  | nil => rfl
  | cons y l =>
    simp only [chk, Bool.and_eq_true] at h ⊢
    refine ⟨?_, h.2⟩
    have := (okC_iff _ _).1 h.1
    rw [okC_iff]; omega
theorem chk_of {lo : Int} {l : List C} (h1 : ∀ c ∈ l, okC lo c = true) (h2 : l.Pairwise fun a b => a.f0 < b.f0) : chk lo l = true := by
  induction l generalizing lo with
  | nil => rfl
  | cons y l ih =>
    simp only [chk, Bool.and_eq_true]
    refine ⟨h1 y (List.mem_cons_self ..), ih (fun c hc => ?_) (List.pairwise_cons.1 h2).2⟩
    have ha := (okC_iff _ _).1 (h1 c (List.mem_cons_of_mem _ hc))
    have hb := (List.pairwise_cons.1 h2).1 c hc
    rw [okC_iff]; omega
theorem chk_strict {lo : Int} {l : List C} (h : chk lo l = true) : l.Pairwise fun a b => a.f0 < b.f0 := by
  induction l generalizing lo with
  | nil => exact List.Pairwise.nil
  | cons y l ih =>
    simp only [chk, Bool.and_eq_true] at h
    refine List.pairwise_cons.2 ⟨fun c hc => ?_, ih h.2⟩
    exact ((okC_iff _ _).1 (chk_mem h.2 c hc)).1
theorem chk_len {lo : Int} {l : List C} (h : chk lo l = true) (h0 : lo ≤ 5) : (l.length : Int) ≤ 5 - lo := by
  induction l generalizing lo with
  | nil => simp; omega
  | cons y l ih =>
    simp only [chk, Bool.and_eq_true] at h
    have := (okC_iff _ _).1 h.1
    have := ih h.2 (by omega)
    simp only [List.length_cons]; omega
theorem chk_six {l : List C} (h : chk (-1) l = true) : l.length ≤ 6 := by
  have := chk_len h (by omega); omega
theorem find_none {l : List C} {n : Int} (h : ∀ c ∈ l, c.f0 ≠ n) : findC l n = none := by
  induction l with
  | nil => rfl
  | cons y l ih =>
    simp only [findC]
    rw [if_neg (h y (List.mem_cons_self ..)), ih fun x hx => h x (List.mem_cons_of_mem _ hx)]
theorem find_some {l : List C} {n : Int} {v : V} (h : findC l n = some v) : ∃ c ∈ l, c.f0 = n ∧ c.f1 = v := by
  induction l with
  | nil => cases h
  | cons y l ih =>
    simp only [findC] at h
    by_cases k : y.f0 = n
    · rw [if_pos k] at h; exact ⟨y, List.mem_cons_self .., k, Option.some.inj h⟩
    · rw [if_neg k] at h
      obtain ⟨c, hc, e⟩ := ih h
      exact ⟨c, List.mem_cons_of_mem _ hc, e⟩
theorem find_mem {l : List C} (h : l.Pairwise fun a b => a.f0 < b.f0) : ∀ c ∈ l, findC l c.f0 = some c.f1 := by
  induction l with
  | nil => intro c hc; cases hc
  | cons y l ih =>
    intro c hc
    have h' := List.pairwise_cons.1 h
    simp only [findC]
    rcases List.mem_cons.1 hc with rfl | hc
    · rw [if_pos rfl]
    · have := h'.1 c hc
      rw [if_neg (by omega)]
      exact ih h'.2 c hc
/-- two rows in order in which the same is found are the same -/
theorem ext_find {a b : List C} (ha : a.Pairwise fun x y => x.f0 < y.f0) (hb : b.Pairwise fun x y => x.f0 < y.f0) (h : ∀ n, findC a n = findC b n) : a = b := by
  induction a generalizing b with
  | nil =>
    cases b with
    | nil => rfl
    | cons y b =>
      have := h y.f0
      simp only [findC] at this
      rw [if_pos trivial] at this; cases this
  | cons x a ih =>
    cases b with
    | nil =>
      have := h x.f0
      simp only [findC] at this
      rw [if_pos trivial] at this; cases this
    | cons y b =>
      have ha' := List.pairwise_cons.1 ha
      have hb' := List.pairwise_cons.1 hb
      have exy : x.f0 = y.f0 := by
        have hx := h x.f0
        have hy := h y.f0
        simp only [findC] at hx hy
        rw [if_pos trivial] at hx
        by_cases k : y.f0 = x.f0
        · exact k.symm
        · rw [if_neg k] at hx
          obtain ⟨c, hc, e1, _⟩ := find_some hx.symm
          have h1 := hb'.1 c hc
          rw [if_neg (fun e => k e.symm)] at hy
          rw [if_pos trivial] at hy
          obtain ⟨d, hd, e2, _⟩ := find_some hy
          have h2 := ha'.1 d hd
          omega
      have ev : x.f1 = y.f1 := by
        have hx := h x.f0
        simp only [findC] at hx
        rw [if_pos trivial, if_pos exy.symm] at hx
        exact Option.some.inj hx
      have exy' : x = y := by
        cases x; cases y
        simp only at exy ev
        rw [exy, ev]
      rw [exy', ih ha'.2 hb'.2 fun n => ?_]
      have hn := h n
      simp only [findC] at hn
      by_cases k : x.f0 = n
      · rw [find_none fun c hc => ?_, find_none fun c hc => ?_]
        · have := hb'.1 c hc; omega
        · have := ha'.1 c hc; omega
      · rw [if_neg k, if_neg (by omega)] at hn
        exact hn
theorem find_news (a b : List C) (n : Int) : findC (newsL a b) n = if hasC a n = true then none else findC b n := by
  induction b with
  | nil => simp [newsL, findC]
  | cons y b ih =>
    by_cases h : hasC a y.f0 = true
    · rw [show newsL a (y :: b) = newsL a b from List.filter_cons_of_neg (by simpa using h), ih]
      by_cases k : hasC a n = true
      · rw [if_pos k, if_pos k]
      · rw [if_neg k, if_neg k]
        simp only [findC]
        rw [if_neg (fun e : y.f0 = n => k (by rw [← e]; exact h))]
    · rw [show newsL a (y :: b) = y :: newsL a b from List.filter_cons_of_pos (by simpa using h)]
      simp only [findC]
      by_cases k : y.f0 = n
      · rw [if_pos k, if_neg (by rw [← k]; exact h), if_pos k]
      · rw [if_neg k, if_neg k, ih]
theorem find_app (a b : List C) (n : Int) : findC (a ++ b) n = (findC a n).or (findC b n) := by
  induction a with
  | nil => simp [findC]
  | cons y a ih =>
    simp only [List.cons_append, findC]
    by_cases k : y.f0 = n
    · rw [if_pos k, if_pos k]; rfl
    · rw [if_neg k, if_neg k, ih]
theorem strict_news {a b : List C} (h : b.Pairwise fun x y => x.f0 < y.f0) : (newsL a b).Pairwise fun x y => x.f0 < y.f0 := h.sublist List.filter_sublist
theorem chk_news {a b : List C} (h : chk (-1) b = true) : chk (-1) (newsL a b) = true :=
  chk_of (fun c hc => chk_mem h c (List.mem_filter.1 hc).1) (strict_news (chk_strict h))
/-- what is found in a row does not hang on its order, where no node stands twice -/
theorem find_perm {a b : List C} (h : a.Perm b) (hd : a.Pairwise fun x y => x.f0 ≠ y.f0) (n : Int) : findC a n = findC b n := by
  induction h with
  | nil => rfl
  | cons x _ ih =>
    simp only [findC]
    rw [ih (List.pairwise_cons.1 hd).2]
  | swap x y l =>
    have h1 := (List.pairwise_cons.1 hd).1 x (List.mem_cons_self ..)
    simp only [findC]
    by_cases k : x.f0 = n
    · rw [if_pos k, if_pos k, if_neg (by omega)]
    · rw [if_neg k, if_neg k]
  | trans h1 _ ih1 ih2 => exact (ih1 hd).trans (ih2 (h1.pairwise_iff (fun {a b} h => Ne.symm h) |>.1 hd))
theorem same_l0 (xs : List C) (hn : xs.length < 4611686018427387904) (d : Nat) : ∀ (i : Nat), xs.length - i = d → i ≤ xs.length →
    Ev (fun k => ropewayref10_Same.l0 k xs xs (xs.length : Int) (i : Int)) true := by
  induction d with
  | zero =>
    intro i hd hi
    refine Ev.const fun k => ?_
    simp only [ropewayref10_Same.l0]
    rw [if_neg (by omega)]
  | succ d ih =>
    intro i hd hi
    refine Ev.succ ?_
    simp only [ropewayref10_Same.l0]
    refine Ev.ite_pos (by omega) (Ev.ite_pos (by omega) (Ev.ite_pos (by omega) (Ev.ite_pos (by omega) (Ev.ite_neg (by simp) ?_))))
    rw [wrap_nat (by omega)]
    exact ih (i + 1) (by omega) (by omega)
theorem same_ev (xs : List C) (hn : xs.length < 4611686018427387904) : Ev (fun k => ropewayref10_Same.f k xs xs) true := by
  unfold ropewayref10_Same.f
  exact Ev.ite_pos rfl (same_l0 xs hn xs.length 0 (by omega) (by omega))
theorem same_of {xs ys : List C} (h : xs = ys) (hn : xs.length < 4611686018427387904) : Ev (fun k => ropewayref10_Same.f k xs ys) true := by subst h; exact same_ev xs hn

theorem ref_Right_eq (a d : Int) : ropewayref04_Right.f a d = some (decide (0 ≤ a ∧ a < 64 ∧ 0 ≤ d ∧ d < 64)) := by
  unfold ropewayref04_Right.f
  by_cases h1 : a ≥ 0
  · rw [if_pos h1]
    by_cases h2 : a ≤ 63
    · rw [if_pos h2]
      by_cases h3 : d ≥ 0
      · rw [if_pos h3, Option.some.injEq, decide_eq_decide]; omega
      · rw [if_neg h3, decide_eq_false (by omega)]
    · rw [if_neg h2, decide_eq_false (by omega)]
  · rw [if_neg h1, decide_eq_false (by omega)]

/-! cells: the reference's Of, News, Merge, Clash, Check -/
theorem pc_zero {x : Int} (h0 : 0 ≤ x) (h1 : x < 64) : pc x = 0 ↔ x = 0 := set1 (fun x => pc x = 0 ↔ x = 0) (by decide +kernel) h0 h1
theorem rcheck_l0 (xs : List C) (hn : xs.length < 4611686018427387904) (d : Nat) : ∀ (i : Nat) (lo : Int), (i = 0 → lo = -1) → (0 < i → lo = (xs.getD (i - 1) z34).f0) → -1 ≤ lo → xs.length - i = d → i ≤ xs.length →
    Ev (fun k => ropewayref10_Check.l0 k xs xs (xs.length : Int) (i : Int)) (if chk lo (xs.drop i) = true then 0 else 101) := by
  induction d with
  | zero =>
    intro i lo _ _ _ hd hi
    refine Ev.const fun k => ?_
    simp only [ropewayref10_Check.l0]
    rw [if_neg (by omega), List.drop_eq_nil_of_le (by omega)]
    rfl
  | succ d ih =>
    intro i lo z0 z1 hlo hd hi
    have hlt : i < xs.length := by omega
    have e : rd_T34 xs i = xs.getD i z34 := rfl
    rw [drop_cons hlt z34]
    refine Ev.succ ?_
    simp only [ropewayref10_Check.l0]
    refine Ev.ite_pos (by omega) (Ev.ite_pos (by omega) (Ev.ite_pos (by omega) ?_))
    rw [e]
    have ih1 := ih (i + 1) (xs.getD i z34).f0 (by omega) (fun _ => by rw [Nat.add_sub_cancel])
    generalize hx : xs.getD i z34 = x at ih1
    have hprev : 0 < i → wrap64 ((i : Int) - 1) = ((i - 1 : Nat) : Int) ∧ rd_T34 xs ((i - 1 : Nat) : Int) = xs.getD (i - 1) z34 := fun h => ⟨by rw [wrap_in (by omega) (by omega)]; omega, rfl⟩
    have bad : Ev (fun k => ropewayref10_Check.j1 k xs xs (xs.length : Int) (i : Int) true) 101 := Ev.const fun k => by simp only [ropewayref10_Check.j1]; rfl
    have good : ∀ r : Int, Ev (fun k => ropewayref10_Check.l0 k xs xs (xs.length : Int) ((i + 1 : Nat) : Int)) r → Ev (fun k => ropewayref10_Check.j1 k xs xs (xs.length : Int) (i : Int) false) r := fun r h => by
      refine Ev.succ ?_
      simp only [ropewayref10_Check.j1]
      rw [wrap_nat (by omega)]
      exact Ev.ite_neg (by decide) h
    by_cases ok : okC lo x = true
    · rw [show chk lo (x :: xs.drop (i + 1)) = chk x.f0 (xs.drop (i + 1)) by simp [chk, ok]]
      obtain ⟨o1, o2, o3, o4, o5, o6, o7⟩ := (okC_iff lo x).1 ok
      have p0 := pc_zero o3 o4
      have p1 := pc_zero o5 o6
      refine Ev.ite_neg (by omega) (Ev.ite_neg (by omega) ?_)
      refine Ev.bind_all (ref_Right_eq _ _) ?_
      refine Ev.ite_pos (decide_eq_true (by omega)) ?_
      have hnz : ¬ ((x.f1.f0 == 0 && (x.f1.f1 == 0)) = true) := fun h => by
        rw [Bool.and_eq_true, beq_iff_eq, beq_iff_eq] at h
        have q0 := p0.2 h.1
        have q1 := p1.2 h.2
        omega
      refine Ev.ite_neg hnz ?_
      clear p0 p1 o7 hnz
      have rest := ih1 (by omega) (by omega) (by omega)
      refine Ev.ite (fun hp => ?_) (fun _ => good _ rest)
      obtain ⟨hw, e1⟩ := hprev (by omega)
      rw [hw, e1]
      have hz := z1 (by omega)
      rw [show decide ((xs.getD (i - 1) z34).f0 ≥ x.f0) = false from decide_eq_false (by omega)]
      exact Ev.ite_pos (by omega) (Ev.ite_pos (by omega) (good _ rest))
    · rw [show chk lo (x :: xs.drop (i + 1)) = false by simp [chk, ok]]
      rw [show (if false = true then (0 : Int) else 101) = 101 from rfl]
      refine Ev.ite (fun _ => bad) fun h1 => ?_
      refine Ev.ite (fun _ => bad) fun h2 => ?_
      refine Ev.bind_all (ref_Right_eq _ _) ?_
      refine Ev.ite (fun h3 => ?_) (fun _ => bad)
      have h3 := of_decide_eq_true h3
      refine Ev.ite (fun _ => bad) fun h4 => ?_
      have p0 := pc_zero h3.1 h3.2.1
      have p1 := pc_zero h3.2.2.1 h3.2.2.2
      have q0 := (pc_some h3.1 h3.2.1).2
      have q1 := (pc_some h3.2.2.1 h3.2.2.2).2
      have h4' : ¬ (x.f1.f0 = 0 ∧ x.f1.f1 = 0) := fun h => h4 (by rw [h.1, h.2]; rfl)
      have hge : x.f0 ≤ lo := by
        have ok' := mt (okC_iff lo x).2 ok
        omega
      have hi0 : 0 < i := by omega
      obtain ⟨hw, e1⟩ := hprev hi0
      have hz := z1 hi0
      rw [hw, e1]
      rw [show decide ((xs.getD (i - 1) z34).f0 ≥ x.f0) = true from decide_eq_true (by omega)]
      exact Ev.ite_pos (by omega) (Ev.ite_pos (by omega) (Ev.ite_pos (by omega) bad))
theorem rcheck_ev (xs : List C) (hn : xs.length < 4611686018427387904) : Ev (fun k => ropewayref10_Check.f k xs) (if chk (-1) xs = true then 0 else 101) := rcheck_l0 xs hn xs.length 0 (-1) (fun _ => rfl) (by omega) (by omega) (by omega) (by omega)

/-! the order of views -/
def kS (v : V) : Int := (change_Size.f v.f0 v.f1).getD 0
def kN (v : V) : Int := wrap64 (wrap64 (v.f0 * 64) + v.f1)
theorem oc64_some (a : Int) : ∃ r, bits_OnesCount64.f a = some r := ⟨_, rfl⟩
theorem oc_some (a : Int) : ∃ r, bits_OnesCount.f a = some r := by
  obtain ⟨r, h⟩ := oc64_some a
  exact ⟨r, by unfold bits_OnesCount.f; rw [h]; rfl⟩
theorem kS_some (v : V) : change_Size.f v.f0 v.f1 = some (kS v) := by
  obtain ⟨r, h⟩ := oc_some (IntKind.u64.wrap v.f0)
  obtain ⟨q, k⟩ := oc_some (IntKind.u64.wrap v.f1)
  have e : change_Size.f v.f0 v.f1 = some (wrap64 (r + q)) := by
    unfold change_Size.f
    rw [h, k]; rfl
  unfold kS
  rw [e]; rfl
def vlt (a b : V) : Bool := decide (kS a < kS b ∨ kS a = kS b ∧ kN a < kN b)
theorem vlt_iff (a b : V) : vlt a b = true ↔ (kS a < kS b ∨ kS a = kS b ∧ kN a < kN b) := decide_eq_true_iff
theorem compare_int (a b : Int) : cmp_Compare_int.f a b = some (if a < b then -1 else if a > b then 1 else 0) := by
  unfold cmp_Compare_int.f cmp_isNaN_int.f
  (repeat' split) <;> simp_all
theorem or_int (a b : Int) : Ev (fun k => cmp_Or_int.f k [a, b]) (if a = 0 then b else a) := by
  have r0 : rd [a, b] 0 = a := rfl
  have r1 : rd [a, b] 1 = b := rfl
  have v0 : wrap64 (0 + 1) = 1 := by unfold wrap64; omega
  have v1 : wrap64 (1 + 1) = 2 := by unfold wrap64; omega
  have e2 : b = 0 → Ev (fun k => cmp_Or_int.l0 k 0 [a, b] 2 2) b := fun h => Ev.const fun k => by
    simp only [cmp_Or_int.l0]
    rw [if_neg (by decide), h]
  have e1 : Ev (fun k => cmp_Or_int.l0 k 0 [a, b] 2 1) b := by
    refine Ev.succ ?_
    simp only [cmp_Or_int.l0]
    rw [r1, v1]
    refine Ev.ite_pos (by decide) (Ev.ite_pos (by decide) (Ev.ite_pos (by simp) ?_))
    refine Ev.ite (fun h => ?_) (fun h => Ev.all fun k => rfl)
    exact e2 h
  show Ev (fun k => cmp_Or_int.l0 k 0 [a, b] 2 0) _
  refine Ev.succ ?_
  simp only [cmp_Or_int.l0]
  rw [r0, v0]
  refine Ev.ite_pos (by decide) (Ev.ite_pos (by decide) (Ev.ite_pos (by simp) ?_))
  by_cases h : a = 0
  · rw [if_pos h]; exact Ev.ite_pos h e1
  · rw [if_neg h]; exact Ev.ite_neg h (Ev.all fun k => rfl)
theorem name_some (v : V) : change_Name.f v.f0 v.f1 = some (kN v) := rfl
theorem view_compare_ev (a b : V) : ∃ c : Int, Ev (fun k => view_compare.f k a.f0 a.f1 b.f0 b.f1) c ∧ (c < 0 ↔ vlt a b = true) := by
  refine ⟨if (if kS a < kS b then -1 else if kS a > kS b then 1 else 0 : Int) = 0 then (if kN a < kN b then -1 else if kN a > kN b then 1 else 0) else (if kS a < kS b then -1 else if kS a > kS b then 1 else 0), ?_, ?_⟩
  · unfold view_compare.f
    refine Ev.bind_all (kS_some a) (Ev.bind_all (kS_some b) (Ev.bind_all (compare_int _ _) ?_))
    refine Ev.bind_all (name_some a) (Ev.bind_all (name_some b) (Ev.bind_all (compare_int _ _) ?_))
    exact Ev.bind (or_int _ _) (Ev.all fun k => rfl)
  · rw [vlt_iff]
    (repeat' split) <;> omega
theorem view_Less_ev (a b : V) : Ev (fun k => view_Less.f k a.f0 a.f1 b.f0 b.f1) (vlt a b) := by
  obtain ⟨c, hc, h⟩ := view_compare_ev a b
  unfold view_Less.f
  refine Ev.bind hc (Ev.all fun k => ?_)
  congr 1
  rw [Bool.eq_iff_iff, decide_eq_true_iff, h]
def RtV (v : V) : Prop := 0 ≤ v.f0 ∧ v.f0 < 64 ∧ 0 ≤ v.f1 ∧ v.f1 < 64
theorem kS_right {v : V} (h : RtV v) : kS v = pc v.f0 + pc v.f1 := by
  have := size_eq h.1 h.2.1 h.2.2.1 h.2.2.2
  rw [kS_some] at this
  exact Option.some.inj this
theorem kN_right {v : V} (h : RtV v) : kN v = v.f0 * 64 + v.f1 := by
  have := name_eq h.1 h.2.1 h.2.2.1 h.2.2.2
  rw [name_some] at this
  exact Option.some.inj this
theorem vlt_total {a b : V} (ha : RtV a) (hb : RtV b) (h : vlt a b = false) (k : a ≠ b) : vlt b a = true := by
  rw [vlt_iff]
  have h' := mt (vlt_iff a b).2 (by simp [h])
  rw [kN_right ha, kN_right hb] at *
  by_cases e : a.f0 * 64 + a.f1 = b.f0 * 64 + b.f1
  · exfalso
    apply k
    obtain ⟨a0, a1, a2, a3⟩ := ha
    obtain ⟨b0, b1, b2, b3⟩ := hb
    cases a; cases b
    simp only at *
    congr 1 <;> omega
  · omega

/-! cells.Changes -/
theorem vcmp (x y : V) : ∃ c : Int, Ev (fun k => cells_Changes_1.f k x.f0 x.f1 y.f0 y.f1) c ∧ (c < 0 ↔ vlt x y = true) := by
  refine ⟨if vlt x y = true then -1 else 1, ?_, by split <;> simp_all⟩
  unfold cells_Changes_1.f
  refine Ev.bind (view_Less_ev x y) ?_
  exact Ev.all fun k => by split <;> rfl
/-! v: what an insertion sort answers: the same elements, in order -/
theorem vasym {a b : V} (h : vlt a b = true) : vlt b a = false := by
  cases k : vlt b a
  · rfl
  · exact absurd h (by rw [vlt_iff] at *; omega)
theorem vntr {a b c : V} (h : vlt a b = false) (k : vlt b c = false) : vlt a c = false := by
  cases e : vlt a c
  · rfl
  · have h1 := mt (vlt_iff a b).2 (by simp [h])
    have h2 := mt (vlt_iff b c).2 (by simp [k])
    have h3 := (vlt_iff a c).1 e
    exfalso; omega
def vsorted (l : List V) : Prop := l.Pairwise fun a b => vlt b a = false
theorem vl1 (n i : Nat) (hn : n < 4611686018427387904) (m : Nat) : ∀ (p s t : List V) (y : V), p.length = m → (p ++ y :: (s ++ t)).length = n → vsorted (p ++ s) → (∀ z ∈ s, vlt y z = true) →
    ∃ r, r.Perm (p ++ y :: s) ∧ vsorted r ∧ ∀ R : List V, (Ev (fun k => api_View_66.l0 k (r ++ t) 0 (n : Int) (wrap64 ((i : Int) + 1))) R → Ev (fun k => api_View_66.l1 k (p ++ y :: (s ++ t)) 0 (n : Int) (i : Int) (p.length : Int)) R) := by
  induction m with
  | zero =>
    intro p s t y hp hl hs hy
    obtain rfl := List.length_eq_zero_iff.1 hp
    refine ⟨y :: s, List.Perm.refl _, ?_, fun R h => ?_⟩
    · refine List.pairwise_cons.2 ⟨fun z hz => vasym (hy z hz), hs⟩
    · refine Ev.succ ?_
      simp only [api_View_66.l1]
      exact Ev.ite_neg (by simp) h
  | succ m ih =>
    intro p s t y hp hl hs hy
    rcases List.eq_nil_or_concat p with rfl | ⟨q, z, ec⟩
    · simp at hp
    rw [List.concat_eq_append] at ec
    subst ec
    have hq : q.length = m := by simpa using hp
    have e1 : ((q ++ [z]).length : Int) = (q.length : Int) + 1 := by simp
    have len : (q ++ [z] ++ y :: (s ++ t)).length = q.length + 1 + ((s ++ t).length + 1) := by simp; omega
    have wr : wrap64 (((q.length : Int) + 1) - 1) = (q.length : Int) := by have := hl; rw [len] at this; unfold wrap64; omega
    have ry : rd_T26 (q ++ [z] ++ y :: (s ++ t)) ((q.length : Int) + 1) = y := by
      show (q ++ [z] ++ y :: (s ++ t)).getD ((q.length : Int) + 1).toNat _ = y
      rw [show ((q.length : Int) + 1).toNat = (q ++ [z]).length by simp]
      simp [List.getD]
    have rz : rd_T26 (q ++ [z] ++ y :: (s ++ t)) (q.length : Int) = z := by
      show (q ++ [z] ++ y :: (s ++ t)).getD q.length _ = z
      simp [List.getD]
    have st : ((q ++ [z] ++ y :: (s ++ t)).set ((q.length : Int) + 1).toNat z).set (q.length : Int).toNat y = q ++ y :: (z :: s ++ t) := by
      rw [show ((q.length : Int) + 1).toNat = q.length + 1 by omega, Int.toNat_natCast]
      simp [List.set_append]
    obtain ⟨c, hc, hlt⟩ := vcmp y z
    by_cases hyz : vlt y z = true
    · have hs' : vsorted (q ++ z :: s) := by simpa [vsorted] using hs
      obtain ⟨r, hr1, hr2, hr3⟩ := ih q (z :: s) t y hq (by simp at hl ⊢; omega) hs' (fun x hx => by
        rcases List.mem_cons.1 hx with rfl | hx
        · exact hyz
        · exact hy x hx)
      refine ⟨r, hr1.trans ?_, hr2, fun R h => ?_⟩
      · simpa using (List.Perm.append_left q (List.Perm.swap z y s))
      · have hk := hr3 R h
        refine Ev.succ ?_
        simp only [api_View_66.l1]
        rw [e1]
        refine Ev.ite_pos (by omega) (Ev.ite_pos (by omega) (Ev.ite_pos (by rw [len]; omega) ?_))
        rw [wr]
        refine Ev.ite_pos (by omega) (Ev.ite_pos (by rw [len]; omega) ?_)
        rw [ry, rz]
        refine Ev.bind hc (Ev.ite_pos (hlt.2 hyz) ?_)
        have := st
        rw [← this] at hk
        exact hk
    · have hyz' : vlt y z = false := by simpa using hyz
      refine ⟨q ++ [z] ++ y :: s, List.Perm.refl _, ?_, fun R h => ?_⟩
      · have h0 : vsorted ((q ++ [z]) ++ s) := hs
        have h1 := List.pairwise_append.1 h0
        have hq2 := List.pairwise_append.1 h1.1
        refine List.pairwise_append.2 ⟨h1.1, List.pairwise_cons.2 ⟨fun x hx => vasym (hy x hx), h1.2.1⟩, fun x hx w hw => ?_⟩
        rcases List.mem_cons.1 hw with rfl | hw
        · rcases List.mem_append.1 hx with hx | hx
          · exact vntr hyz' (hq2.2.2 x hx z (List.mem_singleton.2 rfl))
          · rw [List.mem_singleton.1 hx]; exact hyz'
        · exact h1.2.2 x hx w hw
      · refine Ev.succ ?_
        simp only [api_View_66.l1]
        rw [e1]
        refine Ev.ite_pos (by omega) (Ev.ite_pos (by omega) (Ev.ite_pos (by rw [len]; omega) ?_))
        rw [wr]
        refine Ev.ite_pos (by omega) (Ev.ite_pos (by rw [len]; omega) ?_)
        rw [ry, rz]
        refine Ev.bind hc (Ev.ite_neg (fun hh => hyz (hlt.1 hh)) ?_)
        simpa using h
theorem vl0 (n : Nat) (hn : n < 4611686018427387904) (d : Nat) : ∀ (sp t : List V), t.length = d → (sp ++ t).length = n → vsorted sp →
    ∃ r, r.Perm (sp ++ t) ∧ vsorted r ∧ Ev (fun k => api_View_66.l0 k (sp ++ t) 0 (n : Int) (sp.length : Int)) r := by
  induction d with
  | zero =>
    intro sp t ht hl hs
    obtain rfl := List.length_eq_zero_iff.1 ht
    refine ⟨sp ++ [], List.Perm.refl _, by simpa using hs, Ev.const fun k => ?_⟩
    simp only [api_View_66.l0]
    rw [if_neg (by simp at hl; omega)]
  | succ d ih =>
    intro sp t ht hl hs
    cases t with
    | nil => simp at ht
    | cons y t =>
      obtain ⟨r, h1, h2, h3⟩ := vl1 n sp.length hn sp.length sp [] t y rfl (by simpa using hl) (by simpa using hs) (fun z hz => by cases hz)
      have hrl : r.length = sp.length + 1 := by simpa using h1.length_eq
      obtain ⟨R, k1, k2, k3⟩ := ih r t (by simpa using ht) (by simp at hl ⊢; omega) h2
      refine ⟨R, k1.trans ?_, k2, ?_⟩
      · simpa using h1.append_right t
      · refine Ev.succ ?_
        simp only [api_View_66.l0]
        refine Ev.ite_pos (by simp at hl; omega) ?_
        refine h3 R ?_
        rw [wrap_nat (by simp at hl; omega), ← hrl]
        exact k3
theorem vf (l : List V) (hn : l.length < 4611686018427387904) : ∃ r, r.Perm l ∧ vsorted r ∧ Ev (fun k => api_View_66.f k l 0 (l.length : Int)) r := by
  cases l with
  | nil =>
    refine ⟨[], List.Perm.refl _, List.Pairwise.nil, Ev.const fun k => ?_⟩
    simp only [api_View_66.f, api_View_66.l0]
    rw [show wrap64 (0 + 1) = 1 by unfold wrap64; omega]
    rfl
  | cons x t =>
    obtain ⟨r, h1, h2, h3⟩ := vl0 (x :: t).length hn t.length [x] t rfl rfl (List.pairwise_singleton _ _)
    refine ⟨r, h1, h2, ?_⟩
    unfold api_View_66.f
    rw [show wrap64 (0 + 1) = 1 by unfold wrap64; omega]
    exact h3
theorem vsort (l : List V) (hn : l.length ≤ 12) : ∃ r, r.Perm l ∧ vsorted r ∧ Ev (fun k => api_View_36.f k l) r := by
  obtain ⟨r, h1, h2, h3⟩ := vf l (by omega)
  obtain ⟨v, hv⟩ := bits_Len_12 hn
  refine ⟨r, h1, h2, ?_⟩
  unfold api_View_36.f
  refine Ev.bind hv ?_
  refine Ev.bind (a := r) ?_ (Ev.all fun k => rfl)
  refine Ev.step' (f := fun k => api_View_50.l0 k l 0 (l.length : Int) v true) ?_ (fun k => rfl)
  refine Ev.succ ?_
  simp only [api_View_50.l0]
  rw [show wrap64 ((l.length : Int) - 0) = (l.length : Int) by unfold wrap64; omega]
  refine Ev.ite_pos (by omega) ?_
  exact Ev.bind h3 (Ev.all fun k => rfl)

def memV (l : List V) (v : V) : Bool := l.any fun w => v.f0 == w.f0 && (v.f1 == w.f1)
theorem memV_iff (l : List V) (v : V) : memV l v = true ↔ v ∈ l := by
  unfold memV
  rw [List.any_eq_true]
  constructor
  · rintro ⟨w, hw, e⟩
    rw [Bool.and_eq_true] at e
    have e1 := LawfulBEq.eq_of_beq e.1
    have e2 := LawfulBEq.eq_of_beq e.2
    have : v = w := by cases v; cases w; simp only at e1 e2; rw [e1, e2]
    rw [this]; exact hw
  · intro h
    exact ⟨v, h, by simp⟩
theorem contains_l0 (xs : List V) (hn : xs.length < 4611686018427387904) (v : V) (d : Nat) : ∀ (i : Nat), xs.length - i = d → i ≤ xs.length →
    ∃ r : Int, Ev (fun k => api_View_49.l0 k xs (xs.length : Int) (i : Int) v.f0 v.f1) r ∧ decide (r ≥ 0) = memV (xs.drop i) v := by
  induction d with
  | zero =>
    intro i hd hi
    refine ⟨-1, Ev.const fun k => ?_, ?_⟩
    · simp only [api_View_49.l0]
      rw [if_neg (by omega)]
    · rw [List.drop_eq_nil_of_le (by omega)]; rfl
  | succ d ih =>
    intro i hd hi
    have hlt : i < xs.length := by omega
    have e : rd_T26 xs i = xs.getD i z26 := rfl
    rw [drop_cons hlt z26]
    generalize hx : xs.getD i z26 = x at e
    by_cases hk : (v.f0 == x.f0 && (v.f1 == x.f1)) = true
    · refine ⟨i, Ev.succ ?_, ?_⟩
      · simp only [api_View_49.l0]
        rw [e]
        exact Ev.ite_pos (by omega) (Ev.ite_pos (by omega) (Ev.ite_pos (by omega) (Ev.ite_pos hk (Ev.all fun k => rfl))))
      · show _ = memV (x :: xs.drop (i + 1)) v
        unfold memV; rw [List.any_cons, hk]; simp
    · obtain ⟨r, hr, hc⟩ := ih (i + 1) (by omega) (by omega)
      refine ⟨r, Ev.succ ?_, ?_⟩
      · simp only [api_View_49.l0]
        rw [e, wrap_nat (by omega)]
        exact Ev.ite_pos (by omega) (Ev.ite_pos (by omega) (Ev.ite_pos (by omega) (Ev.ite_neg hk hr)))
      · rw [hc]
        show _ = memV (x :: xs.drop (i + 1)) v
        unfold memV; rw [List.any_cons, Bool.eq_false_iff.2 hk]; rfl
theorem contains_ev (xs : List V) (hn : xs.length < 4611686018427387904) (v : V) : Ev (fun k => api_View_35.f k xs v.f0 v.f1) (memV xs v) := by
  unfold api_View_35.f
  obtain ⟨r, hr, hc⟩ := contains_l0 xs hn v xs.length 0 (by omega) (by omega)
  refine Ev.bind (show Ev (fun k => api_View_49.f k xs v.f0 v.f1) r from hr) (Ev.all fun k => ?_)
  rw [hc, List.drop_zero]
def dedup : List V → List C → List V
  | acc, [] => acc
  | acc, c :: l => if memV acc c.f1 = true then dedup acc l else dedup (acc ++ [c.f1]) l
theorem dedup_len (l : List C) : ∀ acc, (dedup acc l).length ≤ acc.length + l.length := by
  induction l with
  | nil => intro acc; exact Nat.le_refl _
  | cons c l ih =>
    intro acc
    simp only [dedup]
    split
    · have := ih acc; simp only [List.length_cons]; omega
    · have := ih (acc ++ [c.f1]); simp at this ⊢; omega
theorem dedup_mem (l : List C) (v : V) : ∀ acc, v ∈ dedup acc l ↔ (v ∈ acc ∨ ∃ c ∈ l, c.f1 = v) := by
  induction l with
  | nil => intro acc; simp [dedup]
  | cons c l ih =>
    intro acc
    simp only [dedup]
    by_cases h : memV acc c.f1 = true
    · rw [if_pos h, ih]
      rw [memV_iff] at h
      constructor
      · rintro (k | ⟨x, hx, e⟩)
        · exact Or.inl k
        · exact Or.inr ⟨x, List.mem_cons_of_mem _ hx, e⟩
      · rintro (k | ⟨x, hx, e⟩)
        · exact Or.inl k
        · rcases List.mem_cons.1 hx with rfl | hx
          · rw [e] at h; exact Or.inl h
          · exact Or.inr ⟨x, hx, e⟩
    · rw [if_neg h, ih]
      constructor
      · rintro (k | ⟨x, hx, e⟩)
        · rcases List.mem_append.1 k with k | k
          · exact Or.inl k
          · rw [List.mem_singleton] at k; exact Or.inr ⟨c, List.mem_cons_self .., k.symm⟩
        · exact Or.inr ⟨x, List.mem_cons_of_mem _ hx, e⟩
      · rintro (k | ⟨x, hx, e⟩)
        · exact Or.inl (List.mem_append_left _ k)
        · rcases List.mem_cons.1 hx with rfl | hx
          · rw [e]; exact Or.inl (List.mem_append_right _ (List.mem_singleton.2 rfl))
          · exact Or.inr ⟨x, hx, e⟩
theorem dedup_nodup (l : List C) : ∀ acc : List V, acc.Nodup → (dedup acc l).Nodup := by
  induction l with
  | nil => intro acc h; exact h
  | cons c l ih =>
    intro acc h
    simp only [dedup]
    by_cases k : memV acc c.f1 = true
    · rw [if_pos k]; exact ih acc h
    · rw [if_neg k]
      refine ih _ (List.nodup_append.2 ⟨h, List.pairwise_singleton _ _, ?_⟩)
      intro x hx y hy e
      rw [List.mem_singleton.1 hy] at e
      rw [memV_iff] at k
      rw [e] at hx
      exact k hx
theorem changes_l0 (xs : List C) (hn : xs.length ≤ 12) (R : List V) (d : Nat) : ∀ (i : Nat) (acc : List V), acc.length ≤ i → xs.length - i = d → i ≤ xs.length →
    Ev (fun k => api_View_36.f k (dedup acc (xs.drop i))) R → Ev (fun k => cells_Changes.l0 k acc xs (xs.length : Int) (i : Int)) R := by
  induction d with
  | zero =>
    intro i acc ha hd hi h
    refine Ev.succ ?_
    simp only [cells_Changes.l0]
    rw [List.drop_eq_nil_of_le (by omega)] at h
    exact Ev.ite_neg (by omega) (Ev.bind h (Ev.all fun k => rfl))
  | succ d ih =>
    intro i acc ha hd hi h
    have hlt : i < xs.length := by omega
    have e : rd_T34 xs i = xs.getD i z34 := rfl
    rw [drop_cons hlt z34] at h
    generalize hx : xs.getD i z34 = x at e h
    refine Ev.succ ?_
    simp only [cells_Changes.l0]
    rw [e, wrap_nat (by omega)]
    refine Ev.ite_pos (by omega) (Ev.ite_pos (by omega) (Ev.ite_pos (by omega) ?_))
    refine Ev.bind (contains_ev acc (by omega) x.f1) ?_
    simp only [dedup] at h
    by_cases k : memV acc x.f1 = true
    · rw [if_pos k] at h
      exact Ev.ite_pos k (ih (i + 1) acc (by omega) (by omega) (by omega) h)
    · rw [if_neg k] at h
      exact Ev.ite_neg k (Ev.ite_pos (by omega) (ih (i + 1) (acc ++ [x.f1]) (by simp; omega) (by omega) (by omega) h))
theorem changes_ev (xs : List C) (hn : xs.length ≤ 12) : ∃ r, Ev (fun k => cells_Changes.f k xs) r ∧ r.Nodup ∧ vsorted r ∧ (∀ v, v ∈ r ↔ ∃ c ∈ xs, c.f1 = v) ∧ r.length ≤ xs.length := by
  have hl := dedup_len xs []
  obtain ⟨r, h1, h2, h3⟩ := vsort (dedup [] xs) (by simp at hl; omega)
  refine ⟨r, changes_l0 xs hn r xs.length 0 [] (by simp) (by omega) (by omega) h3, h1.nodup_iff.2 (dedup_nodup xs [] List.nodup_nil), h2, fun v => ?_, by rw [h1.length_eq]; simpa using hl⟩
  rw [h1.mem_iff, dedup_mem]
  simp
theorem nodup_le {l : List V} (h : l.Nodup) : ∀ {m : List V}, (∀ v ∈ l, v ∈ m) → l.length ≤ m.length := by
  induction l with
  | nil => intro m _; exact Nat.zero_le _
  | cons v l ih =>
    intro m k
    obtain ⟨p, q, rfl⟩ := List.append_of_mem (k v (List.mem_cons_self ..))
    have h' := List.nodup_cons.1 h
    have := ih h'.2 (m := p ++ q) fun w hw => by
      have hw2 := k w (List.mem_cons_of_mem _ hw)
      rcases List.mem_append.1 hw2 with h0 | h0
      · exact List.mem_append_left _ h0
      · rcases List.mem_cons.1 h0 with rfl | h0
        · exact absurd hw h'.1
        · exact List.mem_append_right _ h0
    simp at this ⊢
    omega

def bitB (x n : Int) : Bool := x / 2 ^ n.toNat % 2 == 1
def Rt (a d : Int) : Prop := 0 ≤ a ∧ a < 64 ∧ 0 ≤ d ∧ d < 64
theorem bit_fin (p : Int → Int → Prop) (h : ∀ (a : Fin 64) (n : Fin 6), p (a.val : Int) (n.val : Int)) {x n : Int} (h0 : 0 ≤ x) (h1 : x < 64) (h2 : 0 ≤ n) (h3 : n < 6) : p x n := by
  have := h ⟨x.toNat, by omega⟩ ⟨n.toNat, by omega⟩
  simpa [Int.toNat_of_nonneg h0, Int.toNat_of_nonneg h2] using this
theorem shr_bit {x n : Int} (h0 : 0 ≤ x) (h1 : x < 64) (h2 : 0 ≤ n) (h3 : n < 6) : Go.bits .and .i64 (shr .i64 x n) 1 = if bitB x n then 1 else 0 :=
  bit_fin (fun x n => Go.bits .and .i64 (shr .i64 x n) 1 = if bitB x n then 1 else 0) (by decide +kernel) h0 h1 h2 h3

theorem ref_bit_l0 (m : Nat) : ∀ (x : Int) (i n : Nat), n - i = m → i ≤ n → n < 4611686018427387904 → 0 ≤ x → x < 64 → Ev (fun k => ropewayref04_bit.l0 k x (n : Int) (i : Int)) (x / 2 ^ (n - i) % 2 == 1) := by
  induction m with
  | zero =>
    intro x i n hm hi hn h0 h1
    refine Ev.const fun k => ?_
    simp only [ropewayref04_bit.l0]
    rw [if_neg (by omega), show n - i = 0 by omega, Int.tmod_eq_emod_of_nonneg h0]
    simp
  | succ m ih =>
    intro x i n hm hi hn h0 h1
    have := ih (x / 2) (i + 1) n (by omega) (by omega) hn (by omega) (by omega)
    have e : x / 2 ^ (n - i) = x / 2 / 2 ^ (n - (i + 1)) := by
      rw [show n - i = n - (i + 1) + 1 by omega, Int.pow_succ, Int.mul_comm, Int.ediv_ediv_of_nonneg (by omega)]
    rw [e]
    refine Ev.step' this fun k => ?_
    simp only [ropewayref04_bit.l0]
    rw [if_pos (by omega), Int.tdiv_eq_ediv_of_nonneg h0, wrap_in (x := x / 2) (by omega) (by omega), wrap_nat (by omega)]
theorem ref_bit_ev {x n : Int} (h0 : 0 ≤ x) (h1 : x < 64) (h2 : 0 ≤ n) (h3 : n < 4611686018427387904) : Ev (fun k => ropewayref04_bit.f k x n) (bitB x n) := by
  have := ref_bit_l0 n.toNat x 0 n.toNat (by omega) (by omega) (by omega) h0 h1
  rw [Int.toNat_of_nonneg h2] at this
  exact this
theorem ref_Has_ev {a d n : Int} (h : Rt a d) (h2 : 0 ≤ n) (h3 : n < 4611686018427387904) : Ev (fun k => ropewayref04_Has.f k a d n) (bitB a n, bitB d n) := by
  unfold ropewayref04_Has.f
  refine Ev.bind (ref_bit_ev h.1 h.2.1 h2 h3) ?_
  refine Ev.bind (ref_bit_ev h.2.2.1 h.2.2.2 h2 h3) ?_
  exact Ev.all fun k => rfl

def cnt (x : Int) : Nat → Int
  | 0 => 0
  | m + 1 => (if bitB x (5 - (m : Int)) = true then 1 else 0) + cnt x m
theorem cnt_pc {x : Int} (h0 : 0 ≤ x) (h1 : x < 64) : cnt x 6 = pc x := set1 (fun x => cnt x 6 = pc x) (by decide +kernel) h0 h1
theorem ref_Size_l0 (a d : Int) (ha : Rt a d) (m : Nat) : ∀ (i : Nat) (n : Int), 6 - i = m → i ≤ 6 → 0 ≤ n → n + 2 * (m : Int) ≤ 100 →
    Ev (fun k => ropewayref04_Size.l0 k n (i : Int) a d) (n + cnt a m + cnt d m) := by
  induction m with
  | zero =>
    intro i n hm hi h0 h1
    obtain rfl : i = 6 := by omega
    refine Ev.const fun k => ?_
    simp only [ropewayref04_Size.l0]
    rw [if_neg (by decide)]
    simp [cnt]
  | succ m ih =>
    intro i n hm hi h0 h1
    have e : (5 - (m : Int)) = (i : Int) := by omega
    simp only [cnt]
    rw [e]
    have w1 : wrap64 (n + 1) = n + 1 := wrap_in (by omega) (by omega)
    have w2 : wrap64 (n + 1 + 1) = n + 1 + 1 := wrap_in (by omega) (by omega)
    have go : ∀ n' r : Int, 0 ≤ n' → n' ≤ n + 2 → n' + cnt a m + cnt d m = r → Ev (fun k => ropewayref04_Size.l0 k n' ((i + 1 : Nat) : Int) a d) r := by
      intro n' r h2 h3 h4
      rw [← h4]
      exact ih (i + 1) n' (by omega) (by omega) h2 (by omega)
    have gj : ∀ (n' : Int) (b : Bool) (r : Int), 0 ≤ n' → n' ≤ n + 1 → n' + (if b = true then 1 else 0) + cnt a m + cnt d m = r → Ev (fun k => ropewayref04_Size.j1 k n' (i : Int) b a d) r := by
      intro n' b r h2 h3 h4
      refine Ev.succ ?_
      simp only [ropewayref04_Size.j1]
      rw [wrap_nat (by omega), wrap_in (x := n' + 1) (by omega) (by omega)]
      cases b
      · exact Ev.ite_neg (by decide) (go _ _ h2 (by omega) (by simpa using h4))
      · exact Ev.ite_pos rfl (go _ _ (by omega) (by omega) (by simp at h4; omega))
    refine Ev.succ ?_
    simp only [ropewayref04_Size.l0]
    refine Ev.ite_pos (by omega) ?_
    refine Ev.bind (ref_Has_ev ha (by omega) (by omega)) ?_
    rw [w1]
    refine Ev.ite (fun (h1 : bitB a i = true) => ?_) (fun (h1 : ¬ bitB a i = true) => ?_)
    · rw [if_pos h1]; exact gj (n + 1) (bitB d i) _ (by omega) (by omega) (by generalize (if bitB d (i : Int) = true then (1 : Int) else 0) = q; omega)
    · rw [if_neg h1]; exact gj n (bitB d i) _ (by omega) (by omega) (by generalize (if bitB d (i : Int) = true then (1 : Int) else 0) = q; omega)

theorem RtV.rt {v : V} (h : RtV v) : Rt v.f0 v.f1 := h
theorem ref_Size_ev {v : V} (h : RtV v) : Ev (fun k => ropewayref04_Size.f k v.f0 v.f1) (kS v) := by
  have := ref_Size_l0 v.f0 v.f1 h.rt 6 0 0 (by omega) (by omega) (by omega) (by omega)
  rw [cnt_pc h.1 h.2.1, cnt_pc h.2.2.1 h.2.2.2] at this
  rw [kS_right h]
  rw [show (0 : Int) + pc v.f0 + pc v.f1 = pc v.f0 + pc v.f1 by omega] at this
  exact this
theorem ref_Name_eq {v : V} (h : RtV v) : ropewayref04_Name.f v.f0 v.f1 = some (kN v) := by
  unfold ropewayref04_Name.f
  rw [kN_right h]
  obtain ⟨h0, h1, h2, h3⟩ := h
  rw [wrap_in (x := 64 * v.f0) (by omega) (by omega), wrap_in (by omega) (by omega), Int.mul_comm]
theorem ref_Less_ev {a b : V} (ha : RtV a) (hb : RtV b) : Ev (fun k => ropewayref05_Less.f k a.f0 a.f1 b.f0 b.f1) (vlt a b) := by
  unfold ropewayref05_Less.f
  refine Ev.bind (ref_Size_ev ha) (Ev.bind (ref_Size_ev hb) ?_)
  by_cases h : kS a = kS b
  · refine Ev.ite_pos h (Ev.bind_all (ref_Name_eq ha) (Ev.bind_all (ref_Name_eq hb) (Ev.all fun k => ?_)))
    unfold vlt
    rw [Option.some.injEq, decide_eq_decide]; omega
  · refine Ev.ite_neg h (Ev.bind (ref_Size_ev ha) (Ev.bind (ref_Size_ev hb) (Ev.all fun k => ?_)))
    unfold vlt
    rw [Option.some.injEq, decide_eq_decide]; omega

/-! the reference's Changes: each time the least that isn't had yet -/
def pickV (out : List V) : List C → Option V → Option V
  | [], o => o
  | c :: l, o => pickV out l (if memV out c.f1 = true then o else match o with | none => some c.f1 | some b => if vlt c.f1 b = true then some c.f1 else some b)
theorem rchg_l2 (xs : List C) (out : List V) (ho : out.length < 4611686018427387904) (found : Bool) (i : Nat) (b v : V) (n : Int) (R : List V) (d : Nat) : ∀ (j : Nat) (had : Bool), out.length - j = d → j ≤ out.length →
    Ev (fun k => if (had || memV (out.drop j) v) = true then ropewayref10_Changes.j3 k xs out found xs (xs.length : Int) (i : Int) false b.f0 b.f1 n v.f0 v.f1 else
      if found = true then (ropewayref05_Less.f k v.f0 v.f1 b.f0 b.f1).bind fun t => (ropewayref10_Changes.j3 k xs out found xs (xs.length : Int) (i : Int) t b.f0 b.f1 n v.f0 v.f1)
      else ropewayref10_Changes.j3 k xs out found xs (xs.length : Int) (i : Int) true b.f0 b.f1 n v.f0 v.f1) R →
    Ev (fun k => ropewayref10_Changes.l2 k xs out found had xs (xs.length : Int) (i : Int) out (out.length : Int) (j : Int) b.f0 b.f1 n v.f0 v.f1) R := by
  induction d with
  | zero =>
    intro j had hd hj h
    rw [List.drop_eq_nil_of_le (by omega)] at h
    refine Ev.succ ?_
    simp only [ropewayref10_Changes.l2]
    refine Ev.ite_neg (by omega) ?_
    have e : (had || memV [] v) = had := by simp [memV]
    rw [e] at h
    exact h
  | succ d ih =>
    intro j had hd hj h
    have hlt : j < out.length := by omega
    have e : rd_T26 out j = out.getD j z26 := rfl
    rw [drop_cons hlt z26] at h
    refine Ev.succ ?_
    simp only [ropewayref10_Changes.l2]
    rw [e, wrap_nat (by omega)]
    generalize hx : out.getD j z26 = x at h
    refine Ev.ite_pos (by omega) (Ev.ite_pos (by omega) (Ev.ite_pos (by omega) ?_))
    cases had with
    | true => exact Ev.ite_pos rfl (ih (j + 1) true (by omega) (by omega) (by simpa using h))
    | false =>
      refine Ev.ite_neg (by simp) (ih (j + 1) _ (by omega) (by omega) ?_)
      have em : (false || memV (x :: out.drop (j + 1)) v) = ((x.f0 == v.f0 && (x.f1 == v.f1)) || memV (out.drop (j + 1)) v) := by
        simp only [memV, List.any_cons, Bool.false_or]
        congr 1
        rw [Bool.eq_iff_iff]
        simp only [Bool.and_eq_true, beq_iff_eq]
        constructor
        · rintro ⟨h1, h2⟩; exact ⟨h1.symm, h2.symm⟩
        · rintro ⟨h1, h2⟩; exact ⟨h1.symm, h2.symm⟩
      rw [em] at h
      exact h
theorem rchg_l1 (xs : List C) (hx : xs.length < 4611686018427387904) (hr : ∀ c ∈ xs, RtV c.f1) (out : List V) (ho : out.length < 4611686018427387904) (R : List V) (d : Nat) : ∀ (i : Nat) (o : Option V), xs.length - i = d → i ≤ xs.length → (∀ b, o = some b → RtV b) →
    (pickV out (xs.drop i) o = none → R = out) → (∀ b, pickV out (xs.drop i) o = some b → Ev (fun k => if out.length < 8796093022208 then ropewayref10_Changes.l0 k xs (out ++ [b]) else none) R) →
    ∀ z : V, Ev (fun k => ropewayref10_Changes.l1 k xs out o.isSome xs (xs.length : Int) (i : Int) (o.getD z).f0 (o.getD z).f1) R := by
  induction d with
  | zero =>
    intro i o hd hi hb h1 h2 z
    rw [List.drop_eq_nil_of_le (by omega)] at h1 h2
    refine Ev.succ ?_
    simp only [ropewayref10_Changes.l1]
    refine Ev.ite_neg (by omega) ?_
    cases o with
    | none => rw [h1 rfl]; exact Ev.ite_neg (by simp) (Ev.all fun k => rfl)
    | some b => exact Ev.ite_pos rfl (h2 b rfl)
  | succ d ih =>
    intro i o hd hi hb h1 h2 z
    have hlt : i < xs.length := by omega
    have e : rd_T34 xs i = xs.getD i z34 := rfl
    have hm : xs.getD i z34 ∈ xs := by
      rw [List.getD_eq_getElem?_getD, List.getElem?_eq_getElem hlt]; exact List.getElem_mem hlt
    rw [drop_cons hlt z34] at h1 h2
    refine Ev.succ ?_
    simp only [ropewayref10_Changes.l1]
    rw [e]
    generalize xs.getD i z34 = x at h1 h2 hm
    have hxr := hr x hm
    simp only [pickV] at h1 h2
    refine Ev.ite_pos (by omega) (Ev.ite_pos (by omega) (Ev.ite_pos (by omega) ?_))
    refine rchg_l2 xs out ho o.isSome i (o.getD z) x.f1 x.f0 R out.length 0 false (by omega) (by omega) ?_
    rw [List.drop_zero, Bool.false_or]
    have jn : Ev (fun k => ropewayref10_Changes.l1 k xs out o.isSome xs (xs.length : Int) ((i + 1 : Nat) : Int) (o.getD z).f0 (o.getD z).f1) R → Ev (fun k => ropewayref10_Changes.j3 k xs out o.isSome xs (xs.length : Int) (i : Int) false (o.getD z).f0 (o.getD z).f1 x.f0 x.f1.f0 x.f1.f1) R := fun h => by
      refine Ev.succ ?_
      simp only [ropewayref10_Changes.j3]
      rw [wrap_nat (by omega)]
      exact Ev.ite_neg (by decide) h
    have jy : Ev (fun k => ropewayref10_Changes.l1 k xs out true xs (xs.length : Int) ((i + 1 : Nat) : Int) x.f1.f0 x.f1.f1) R → Ev (fun k => ropewayref10_Changes.j3 k xs out o.isSome xs (xs.length : Int) (i : Int) true (o.getD z).f0 (o.getD z).f1 x.f0 x.f1.f0 x.f1.f1) R := fun h => by
      refine Ev.succ ?_
      simp only [ropewayref10_Changes.j3]
      rw [wrap_nat (by omega)]
      exact Ev.ite_pos (by first | trivial | rfl) h
    by_cases hk : memV out x.f1 = true
    · rw [if_pos hk] at h1 h2
      exact Ev.ite_pos hk (jn (ih (i + 1) o (by omega) (by omega) hb h1 h2 z))
    · rw [if_neg hk] at h1 h2
      refine Ev.ite_neg hk ?_
      cases o with
      | none => exact Ev.ite_neg (by simp) (jy (ih (i + 1) (some x.f1) (by omega) (by omega) (fun b e => by cases e; exact hxr) h1 h2 z))
      | some b =>
        refine Ev.ite_pos rfl (Ev.bind (ref_Less_ev hxr (hb b rfl)) ?_)
        simp only at h1 h2
        cases hl : vlt x.f1 b
        · rw [hl] at h1 h2
          rw [show vlt x.f1 ((some b).getD z) = false from hl]
          exact jn (ih (i + 1) (some b) (by omega) (by omega) hb h1 h2 z)
        · rw [hl] at h1 h2
          rw [show vlt x.f1 ((some b).getD z) = true from hl]
          exact jy (ih (i + 1) (some x.f1) (by omega) (by omega) (fun b e => by cases e; exact hxr) h1 h2 z)
theorem pick_mem (out : List V) (l : List C) : ∀ (o : Option V) (b : V), pickV out l o = some b → o = some b ∨ (b ∉ out ∧ ∃ c ∈ l, c.f1 = b) := by
  induction l with
  | nil => intro o b h; exact .inl h
  | cons c l ih =>
    intro o b h
    simp only [pickV] at h
    rcases ih _ b h with h1 | ⟨h1, x, hx, e⟩
    · by_cases hk : memV out c.f1 = true
      · rw [if_pos hk] at h1; exact .inl h1
      · rw [if_neg hk] at h1
        have hn : c.f1 ∉ out := fun hm => hk ((memV_iff out c.f1).2 hm)
        cases o with
        | none => cases h1; exact .inr ⟨hn, c, List.mem_cons_self .., rfl⟩
        | some b0 =>
          simp only at h1
          split at h1
          · cases h1; exact .inr ⟨hn, c, List.mem_cons_self .., rfl⟩
          · exact .inl h1
    · exact .inr ⟨h1, x, List.mem_cons_of_mem _ hx, e⟩
theorem vlt_trans {a b c : V} (h : vlt a b = true) (k : vlt b c = true) : vlt a c = true := by
  rw [vlt_iff] at h k ⊢; omega
theorem vlt_ntrans {a b c : V} (h : vlt a b = false) (k : vlt b c = false) : vlt a c = false := by
  have h' := mt (vlt_iff a b).2 (by rw [h]; simp)
  have k' := mt (vlt_iff b c).2 (by rw [k]; simp)
  rw [Bool.eq_false_iff]
  intro e
  have := (vlt_iff a c).1 e
  omega
theorem vlt_irrefl (a : V) : vlt a a = false := by
  rw [Bool.eq_false_iff]; intro e; have := (vlt_iff a a).1 e; omega
theorem vlt_asymm {a b : V} (h : vlt a b = true) : vlt b a = false := by
  rw [Bool.eq_false_iff]; intro e; have := (vlt_iff a b).1 h; have := (vlt_iff b a).1 e; omega
theorem pick_least (out : List V) (l : List C) : ∀ (o : Option V) (b : V), pickV out l o = some b → (∀ b0, o = some b0 → vlt b0 b = false) ∧ ∀ c ∈ l, c.f1 ∉ out → vlt c.f1 b = false := by
  induction l with
  | nil => intro o b h; exact ⟨fun b0 e => by rw [show pickV out [] o = o from rfl, e] at h; cases h; exact vlt_irrefl _, fun c hc => by simp at hc⟩
  | cons c l ih =>
    intro o b h
    simp only [pickV] at h
    obtain ⟨h1, h2⟩ := ih _ b h
    by_cases hk : memV out c.f1 = true
    · rw [if_pos hk] at h1
      refine ⟨h1, fun x hx hn => ?_⟩
      rcases List.mem_cons.1 hx with rfl | hx
      · exact absurd ((memV_iff out _).1 hk) hn
      · exact h2 x hx hn
    · rw [if_neg hk] at h1
      cases o with
      | none =>
        have := h1 _ rfl
        refine ⟨fun b0 e => by simp at e, fun x hx hn => ?_⟩
        rcases List.mem_cons.1 hx with rfl | hx
        · exact this
        · exact h2 x hx hn
      | some b0 =>
        simp only at h1
        by_cases hl : vlt c.f1 b0 = true
        · rw [if_pos hl] at h1
          have h3 := h1 _ rfl
          refine ⟨fun b1 e => by cases e; exact vlt_ntrans (vlt_asymm hl) h3, fun x hx hn => ?_⟩
          rcases List.mem_cons.1 hx with rfl | hx
          · exact h3
          · exact h2 x hx hn
        · rw [if_neg hl] at h1
          have h3 := h1 _ rfl
          refine ⟨fun b1 e => by cases e; exact h3, fun x hx hn => ?_⟩
          rcases List.mem_cons.1 hx with rfl | hx
          · exact vlt_ntrans (Bool.eq_false_iff.2 hl) h3
          · exact h2 x hx hn
theorem pick_none (out : List V) (l : List C) : ∀ (o : Option V), pickV out l o = none → o = none ∧ ∀ c ∈ l, c.f1 ∈ out := by
  induction l with
  | nil => intro o h; exact ⟨h, fun c hc => by simp at hc⟩
  | cons c l ih =>
    intro o h
    simp only [pickV] at h
    obtain ⟨h1, h2⟩ := ih _ h
    by_cases hk : memV out c.f1 = true
    · rw [if_pos hk] at h1
      refine ⟨h1, fun x hx => ?_⟩
      rcases List.mem_cons.1 hx with rfl | hx
      · exact (memV_iff out _).1 hk
      · exact h2 x hx
    · rw [if_neg hk] at h1
      cases o with
      | none => simp at h1
      | some b0 => simp only at h1; split at h1 <;> simp at h1
theorem rchg_l0 (xs : List C) (hx : xs.length < 4611686018427387904) (hr : ∀ c ∈ xs, RtV c.f1) (r : List V) (hn : r.Nodup) (hs : vsorted r) (hm : ∀ v, v ∈ r ↔ ∃ c ∈ xs, c.f1 = v) (hl : r.length < 8796093022208) (d : Nat) : ∀ (j : Nat), r.length - j = d → j ≤ r.length →
    Ev (fun k => ropewayref10_Changes.l0 k xs (r.take j)) r := by
  have hrr : ∀ v ∈ r, RtV v := fun v hv => by
    obtain ⟨c, hc, rfl⟩ := (hm v).1 hv
    exact hr c hc
  induction d with
  | zero =>
    intro j hd hj
    rw [List.take_of_length_le (by omega)]
    refine Ev.succ ?_
    simp only [ropewayref10_Changes.l0]
    refine rchg_l1 xs hx hr r (by omega) r xs.length 0 none (by omega) (by omega) (fun b e => by simp at e) (fun _ => rfl) (fun b hb => ?_) ⟨0, 0⟩
    rcases pick_mem _ _ _ _ hb with h | ⟨h, c, hc, e⟩
    · simp at h
    · exact absurd ((hm b).2 ⟨c, by simpa using hc, e⟩) h
  | succ d ih =>
    intro j hd hj
    have hlt : j < r.length := by omega
    refine Ev.succ ?_
    simp only [ropewayref10_Changes.l0]
    have hsplit : r = r.take j ++ r[j] :: r.drop (j + 1) := by rw [← List.drop_eq_getElem_cons hlt, List.take_append_drop]
    have hnot : r[j] ∉ r.take j := fun h => by
      rw [hsplit] at hn
      have := (List.nodup_append.1 hn).2.2 _ h _ (List.mem_cons_self ..)
      exact this rfl
    refine rchg_l1 xs hx hr (r.take j) (by rw [List.length_take]; omega) r xs.length 0 none (by omega) (by omega) (fun b e => by simp at e) (fun hp => ?_) (fun b hb => ?_) ⟨0, 0⟩
    · obtain ⟨c, hc, e⟩ := (hm r[j]).1 (List.getElem_mem hlt)
      have := (pick_none _ _ _ hp).2 c (by simpa using hc)
      rw [e] at this
      exact absurd this hnot
    · have hbe : b = r[j] := by
        rcases pick_mem _ _ _ _ hb with h | ⟨h, c, hc, e⟩
        · simp at h
        · have hbr : b ∈ r := (hm b).2 ⟨c, by simpa using hc, e⟩
          obtain ⟨cj, hcj, ej⟩ := (hm r[j]).1 (List.getElem_mem hlt)
          have least := (pick_least _ _ _ _ hb).2 cj (by simpa using hcj) (by rw [ej]; exact hnot)
          rw [ej] at least
          by_cases hne : r[j] = b
          · exact hne.symm
          · have q1 := vlt_total (hrr _ (List.getElem_mem hlt)) (hrr _ hbr) least hne
            have hin : b ∈ r.drop (j + 1) := by
              rw [hsplit] at hbr
              rcases List.mem_append.1 hbr with h1 | h1
              · exact absurd h1 h
              · rcases List.mem_cons.1 h1 with h1 | h1
                · exact absurd h1.symm hne
                · exact h1
            have hp : vsorted (r.take j ++ r[j] :: r.drop (j + 1)) := by rw [← hsplit]; exact hs
            have q2 := (List.pairwise_cons.1 (List.pairwise_append.1 hp).2.1).1 b hin
            exact absurd (q1.symm.trans q2) (by decide)
      subst hbe
      refine Ev.ite_pos (by rw [List.length_take]; omega) ?_
      have := ih (j + 1) (by omega) (by omega)
      rw [List.take_add_one, List.getElem?_eq_getElem hlt] at this
      exact this
theorem rchanges_ev (xs : List C) (hx : xs.length < 4611686018427387904) (hr : ∀ c ∈ xs, RtV c.f1) (r : List V) (hn : r.Nodup) (hs : vsorted r) (hm : ∀ v, v ∈ r ↔ ∃ c ∈ xs, c.f1 = v) (hl : r.length < 8796093022208) : Ev (fun k => ropewayref10_Changes.f k xs) r := rchg_l0 xs hx hr r hn hs hm hl r.length 0 (by omega) (by omega)
theorem vsame_l0 (xs : List V) (hn : xs.length < 4611686018427387904) (d : Nat) : ∀ (i : Nat), xs.length - i = d → i ≤ xs.length →
    Ev (fun k => ropewayref05_Same.l0 k xs xs (xs.length : Int) (i : Int)) true := by
  induction d with
  | zero =>
    intro i hd hi
    refine Ev.const fun k => ?_
    simp only [ropewayref05_Same.l0]
    rw [if_neg (by omega)]
  | succ d ih =>
    intro i hd hi
    refine Ev.succ ?_
    simp only [ropewayref05_Same.l0]
    refine Ev.ite_pos (by omega) (Ev.ite_pos (by omega) (Ev.ite_pos (by omega) (Ev.ite_pos (by omega) (Ev.ite_neg (by simp) ?_))))
    rw [wrap_nat (by omega)]
    exact ih (i + 1) (by omega) (by omega)
theorem vsame_ev (xs : List V) (hn : xs.length < 4611686018427387904) : Ev (fun k => ropewayref05_Same.f k xs xs) true := by
  unfold ropewayref05_Same.f
  exact Ev.ite_pos rfl (vsame_l0 xs hn xs.length 0 (by omega) (by omega))

theorem clone_eq {l : List C} (h : l.length < 5864062014805) : api_Cell.f l = some l := by
  unfold api_Cell.f
  simp [h]
/-! the state of a snap: its own cell (or none), its step, what was told -/
def ownS (m : List C) (s : Int) (t : List C) : Bool := decide (s = 1) && (decide (0 < m.length) && decide (t.length = 0))
def needS (m : List C) (s : Int) (t : List C) : Int × List C × Bool :=
  if s = 4 then (0, [], false) else if s = 0 then (0, [], true) else if s = 2 then (0, [], true) else if ownS m s t = true then (1, m, true) else (1, t, true)
def stepS (m : List C) (s : Int) (t l : List C) : Int × List C :=
  if s = 0 then (if l.length = 0 then (if 0 < m.length then wrap64 (s + 1) else 4) else wrap64 (s + 1), l)
  else if s = 2 then (if l.length = 0 then (if 0 < m.length then wrap64 (s + 1) else 4) else wrap64 (s + 1), l)
  else if s = 1 then (if 0 < m.length then 4 else 2, t) else if s = 3 then (4, t) else (s, t)
theorem update_eq (m : List C) (s : Int) (t : List C) : snap_Snap_update.f m s t = some (decide (0 < m.length)) := by
  unfold snap_Snap_update.f
  congr 1
  exact decide_eq_decide.2 (by omega)
theorem own_eq (m : List C) (s : Int) (t : List C) : snap_Snap_Own.f m s t = some (ownS m s t) := by
  unfold snap_Snap_Own.f ownS
  rw [update_eq]
  by_cases h : s = 1
  · rw [if_pos h, decide_eq_true h]
    simp only [Option.bind_some]
    by_cases k : 0 < m.length
    · rw [decide_eq_true k, if_pos rfl]
      simp only [Bool.true_and]
      congr 1
      by_cases q : t.length = 0
      · simp [q]
      · simp [q]
    · rw [decide_eq_false k, if_neg (by decide)]
      rfl
  · rw [if_neg h, decide_eq_false h]
    rfl
theorem nb (G : Nat → Int → List C → Bool → Option Bool) (m t : List C) (s : Int) (hm : m.length < 5864062014805) (ht : t.length < 5864062014805) (r : Bool) (h : Ev (fun k => G k (needS m s t).1 (needS m s t).2.1 (needS m s t).2.2) r) :
    Ev (fun k => if s = 4 then G k 0 [] false else (if s = 0 then G k 0 [] true else (if s = 2 then G k 0 [] true else ((snap_Snap_Own.f m s t).bind fun b => (if b = true then ((api_Cell.f m).bind fun z => G k 1 z true) else ((api_Cell.f t).bind fun z => G k 1 z true)))))) r := by
  unfold needS at h
  refine Ev.ite (fun h4 => ?_) (fun h4 => Ev.ite (fun h0 => ?_) (fun h0 => Ev.ite (fun h2 => ?_) (fun h2 => Ev.bind_all (own_eq m s t) (Ev.ite (fun ho => Ev.bind_all (clone_eq hm) ?_) (fun ho => Ev.bind_all (clone_eq ht) ?_)))))
  · simpa [h4] using h
  · simpa [h4, h0] using h
  · simpa [h4, h0, h2] using h
  · simpa [h4, h0, h2, ho] using h
  · simpa [h4, h0, h2, ho] using h
theorem sb (G : Nat → Int → List C → Option Bool) (m t l : List C) (s : Int) (hl : l.length < 5864062014805) (r : Bool) (h : Ev (fun k => G k (stepS m s t l).1 (stepS m s t l).2) r) :
    Ev (fun k => if s = 0 then ((api_Cell.f l).bind fun z => (if (l.length : Int) = 0 then ((snap_Snap_update.f m (wrap64 (s + 1)) z).bind fun b => (if b = true then G k (wrap64 (s + 1)) z else G k 4 z)) else G k (wrap64 (s + 1)) z))
      else (if s = 2 then ((api_Cell.f l).bind fun z => (if (l.length : Int) = 0 then ((snap_Snap_update.f m (wrap64 (s + 1)) z).bind fun b => (if b = true then G k (wrap64 (s + 1)) z else G k 4 z)) else G k (wrap64 (s + 1)) z))
      else (if s = 1 then ((snap_Snap_update.f m 2 t).bind fun b => (if b = true then G k 4 t else G k 2 t)) else (if s = 3 then G k 4 t else G k s t)))) r := by
  unfold stepS at h
  refine Ev.ite (fun h0 => ?_) (fun h0 => Ev.ite (fun h2 => ?_) (fun h2 => Ev.ite (fun h1 => Ev.bind_all (update_eq m 2 t) (Ev.ite (fun hu => ?_) (fun hu => ?_))) (fun h1 => Ev.ite (fun h3 => ?_) (fun h3 => ?_))))
  · refine Ev.bind_all (clone_eq hl) (Ev.ite (fun hz => Ev.bind_all (update_eq m _ l) (Ev.ite (fun hu => ?_) (fun hu => ?_))) (fun hz => ?_))
    · have hu := of_decide_eq_true hu
      simpa [h0, show l.length = 0 by omega, hu] using h
    · have hu : ¬ 0 < m.length := by simpa using hu
      simpa [h0, show l.length = 0 by omega, hu] using h
    · simpa [h0, show ¬ l.length = 0 by omega] using h
  · refine Ev.bind_all (clone_eq hl) (Ev.ite (fun hz => Ev.bind_all (update_eq m _ l) (Ev.ite (fun hu => ?_) (fun hu => ?_))) (fun hz => ?_))
    · have hu := of_decide_eq_true hu
      simpa [h0, h2, show l.length = 0 by omega, hu] using h
    · have hu : ¬ 0 < m.length := by simpa using hu
      simpa [h0, h2, show l.length = 0 by omega, hu] using h
    · simpa [h0, h2, show ¬ l.length = 0 by omega] using h
  · have hu := of_decide_eq_true hu
    simpa [h0, h2, h1, hu] using h
  · have hu : ¬ 0 < m.length := by simpa using hu
    simpa [h0, h2, h1, hu] using h
  · simpa [h0, h2, h1, h3] using h
  · simpa [h0, h2, h1, h3] using h
theorem got_eq {u : Bool} {m0 m1 m2 : Int} {g : List (List C)} {l : List C} {p : Int × List C × Bool} (h : ropewayref15_Need.f u m0 m1 m2 g = some p) (hg : g.length < 5864062014805) (hl : l.length < 5864062014805) :
    ropewayref15_Got.f u m0 m1 m2 g l = some (u, m0, m1, m2, if p.2.2 = true then g ++ [l] else g) := by
  obtain ⟨a, x, b⟩ := p
  unfold ropewayref15_Got.f
  rw [h]
  cases b
  · simp
  · simp [hg, hl]
theorem needS_len (m t : List C) (s : Int) {n : Nat} (h0 : 0 < n) (hm : m.length < n) (ht : t.length < n) : (needS m s t).2.1.length < n := by
  unfold needS
  repeat' split
  all_goals first | exact hm | exact ht | exact h0
/-- what is found in the end is alike -/
def EndOk (m : List C) (s : Int) (t : List C) (u : Bool) (m0 m1 m2 : Int) (g : List (List C)) : Prop :=
  ((needS m s t).2.2 = false → Ev (fun k => (snap_Snap_Found.f k m s t).bind fun a => (ropewayref15_Found.f k u m0 m1 m2 g).bind fun b => (ropewayref05_Same.f k a b).bind fun c => some c) true) ∧
  ((needS m s t).2.1.length ≠ 0 → (rd_T34 (needS m s t).2.1 0).f0 ≠ 77)
theorem need_some (m : List C) (s : Int) (t : List C) (h : (needS m s t).2.2 = false) : (needS m s t).2.1 = [] := by
  unfold needS at h ⊢
  split
  · rfl
  · rename_i h4
    rw [if_neg h4] at h
    repeat' split at h
    all_goals cases h
theorem step_chk {m t l : List C} {s : Int} (ht : chk (-1) t = true) (hl : chk (-1) l = true) : chk (-1) (stepS m s t l).2 = true := by
  unfold stepS
  repeat' split
  all_goals first | exact ht | exact hl
theorem head77 {x : List C} (h : chk (-1) x = true) (hl : x.length ≠ 0) : (rd_T34 x 0).f0 ≠ 77 := by
  have e : rd_T34 x 0 = x.getD 0 z34 := rfl
  rw [e]
  have hlt : 0 < x.length := by omega
  have := (okC_iff _ _).1 (chk_mem h _ (getD_mem hlt z34))
  omega
theorem w1 : wrap64 (0 + 1) = 1 := by decide +kernel
theorem w3 : wrap64 (2 + 1) = 3 := by decide +kernel
theorem chg_same {t : List C} (h : chk (-1) t = true) : ∃ r, Ev (fun k => cells_Changes.f k t) r ∧ Ev (fun k => ropewayref10_Changes.f k t) r ∧ Ev (fun k => ropewayref05_Same.f k r r) true := by
  have l6 := chk_six h
  obtain ⟨l, el, nl, sl, ml, ll⟩ := changes_ev t (by omega)
  have hr : ∀ c ∈ t, RtV c.f1 := fun c hc => by
    have := (okC_iff _ _).1 (chk_mem h c hc)
    exact ⟨this.2.2.1, this.2.2.2.1, this.2.2.2.2.1, this.2.2.2.2.2.1⟩
  exact ⟨l, el, rchanges_ev t (by omega) hr l nl sl ml (by omega), vsame_ev l (by omega)⟩
/-! a scan -/
def Sf (s : Int) (t : List C) (g : List (List C)) : Prop :=
  (s = 0 ∧ t = [] ∧ g = []) ∨ (s = 4 ∧ t.length = 0 ∧ g = [t]) ∨ (s = 1 ∧ t.length ≠ 0 ∧ g = [t]) ∨ (∃ l1, s = 2 ∧ t.length ≠ 0 ∧ g = [t, l1]) ∨ (∃ l0 l1, s = 4 ∧ l0.length ≠ 0 ∧ t.length = 0 ∧ g = [l0, l1, t]) ∨ (∃ l0 l1, s = 3 ∧ l0.length ≠ 0 ∧ t.length ≠ 0 ∧ g = [l0, l1, t]) ∨ (∃ l0 l1 l3, s = 4 ∧ l0.length ≠ 0 ∧ t.length ≠ 0 ∧ g = [l0, l1, t, l3])
theorem f_need {s : Int} {t : List C} {g : List (List C)} {m0 m1 m2 : Int} (h : Sf s t g) : ropewayref15_Need.f false m0 m1 m2 g = some (needS [] s t) := by
  unfold ropewayref15_Need.f needS ownS
  rcases h with ⟨rfl, rfl, rfl⟩ | ⟨rfl, h1, rfl⟩ | ⟨rfl, h1, rfl⟩ | ⟨l1, rfl, h1, rfl⟩ | ⟨l0, l1, rfl, h0, h1, rfl⟩ | ⟨l0, l1, rfl, h0, h1, rfl⟩ | ⟨l0, l1, l3, rfl, h0, h1, rfl⟩ <;> simp_all [rd_L3]
theorem f_own {s : Int} {t : List C} {g : List (List C)} {m0 m1 m2 : Int} (h : Sf s t g) : ropewayref15_Own.f false m0 m1 m2 g = some (ownS [] s t) := by
  unfold ropewayref15_Own.f ownS
  simp
theorem f_len {s : Int} {t : List C} {g : List (List C)} (h : Sf s t g) : g.length ≤ 4 := by
  rcases h with ⟨rfl, rfl, rfl⟩ | ⟨rfl, h1, rfl⟩ | ⟨rfl, h1, rfl⟩ | ⟨l1, rfl, h1, rfl⟩ | ⟨l0, l1, rfl, h0, h1, rfl⟩ | ⟨l0, l1, rfl, h0, h1, rfl⟩ | ⟨l0, l1, l3, rfl, h0, h1, rfl⟩ <;> simp
theorem f_step {s : Int} {t l : List C} {g : List (List C)} (h : Sf s t g) : Sf (stepS [] s t l).1 (stepS [] s t l).2 (if (needS [] s t).2.2 = true then g ++ [l] else g) := by
  unfold stepS needS ownS
  rcases h with ⟨rfl, rfl, rfl⟩ | ⟨rfl, h1, rfl⟩ | ⟨rfl, h1, rfl⟩ | ⟨l1, rfl, h1, rfl⟩ | ⟨l0, l1, rfl, h0, h1, rfl⟩ | ⟨l0, l1, rfl, h0, h1, rfl⟩ | ⟨l0, l1, l3, rfl, h0, h1, rfl⟩
  · by_cases hl : l.length = 0
    · refine Or.inr (Or.inl ?_); rw [w1]; simp_all
    · refine Or.inr (Or.inr (Or.inl ?_)); rw [w1]; simp_all
  · refine Or.inr (Or.inl ?_); simp_all
  · refine Or.inr (Or.inr (Or.inr (Or.inl ⟨l, ?_⟩))); simp_all
  · by_cases hl : l.length = 0
    · refine Or.inr (Or.inr (Or.inr (Or.inr (Or.inl ⟨t, l1, ?_⟩)))); rw [w3]; simp_all
    · refine Or.inr (Or.inr (Or.inr (Or.inr (Or.inr (Or.inl ⟨t, l1, ?_⟩))))); rw [w3]; simp_all
  · refine Or.inr (Or.inr (Or.inr (Or.inr (Or.inl ⟨l0, l1, ?_⟩)))); simp_all
  · refine Or.inr (Or.inr (Or.inr (Or.inr (Or.inr (Or.inr ⟨l0, l1, l, ?_⟩))))); simp_all
  · refine Or.inr (Or.inr (Or.inr (Or.inr (Or.inr (Or.inr ⟨l0, l1, l3, ?_⟩))))); simp_all
theorem f_end {s : Int} {t : List C} {g : List (List C)} {m0 m1 m2 : Int} (h : Sf s t g) (ht : chk (-1) t = true) : EndOk [] s t false m0 m1 m2 g := by
  obtain ⟨r, r1, r2, r3⟩ := chg_same ht
  have fnd : Ev (fun k => snap_Snap_Found.f k [] s t) r := by
    unfold snap_Snap_Found.f
    exact Ev.bind_all (update_eq [] s t) (Ev.ite_neg (by decide) (Ev.bind r1 (Ev.now _)))
  have two : ∀ a b : List C, ∀ q : List (List C), Ev (fun k => ropewayref15_Found.f k false m0 m1 m2 (a :: b :: t :: q)) r := fun a b q => by
    have e : rd_L3 (a :: b :: t :: q) 2 = t := rfl
    unfold ropewayref15_Found.f
    refine Ev.ite_neg (by decide) (Ev.succ ?_)
    simp only [ropewayref15_Found.j0]
    rw [e]
    exact Ev.ite_neg (by simp; omega) (Ev.ite_pos (by simp; omega) (Ev.ite_pos (by simp; omega) (Ev.bind r2 (Ev.now _))))
  have one : Ev (fun k => ropewayref15_Found.f k false m0 m1 m2 [t]) r := by
    have e : rd_L3 [t] 0 = t := rfl
    unfold ropewayref15_Found.f
    refine Ev.ite_neg (by decide) (Ev.succ ?_)
    simp only [ropewayref15_Found.j0]
    rw [e]
    exact Ev.ite_neg (by simp) (Ev.ite_neg (by simp) (Ev.ite_pos (by simp) (Ev.bind r2 (Ev.now _))))
  refine ⟨fun hm => ?_, fun hl => ?_⟩
  · have hg : Ev (fun k => ropewayref15_Found.f k false m0 m1 m2 g) r := by
      unfold needS ownS at hm
      rcases h with ⟨rfl, rfl, rfl⟩ | ⟨rfl, h1, rfl⟩ | ⟨rfl, h1, rfl⟩ | ⟨l1, rfl, h1, rfl⟩ | ⟨l0, l1, rfl, h0, h1, rfl⟩ | ⟨l0, l1, rfl, h0, h1, rfl⟩ | ⟨l0, l1, l3, rfl, h0, h1, rfl⟩
      · simp at hm
      · exact one
      · simp at hm
      · simp at hm
      · exact two _ _ _
      · simp at hm
      · exact two _ _ _
    exact Ev.bind fnd (Ev.bind hg (Ev.bind r3 (Ev.now _)))
  · have e : (needS [] s t).2.1 = t := by
      unfold needS ownS at hl ⊢
      rcases h with ⟨rfl, rfl, rfl⟩ | ⟨rfl, h1, rfl⟩ | ⟨rfl, h1, rfl⟩ | ⟨l1, rfl, h1, rfl⟩ | ⟨l0, l1, rfl, h0, h1, rfl⟩ | ⟨l0, l1, rfl, h0, h1, rfl⟩ | ⟨l0, l1, l3, rfl, h0, h1, rfl⟩ <;> simp_all
    rw [e] at hl ⊢
    exact head77 ht hl
/-! an update -/
def St (s : Int) (t : List C) (g : List (List C)) : Prop := (s = 0 ∧ t = [] ∧ g = []) ∨ (s = 1 ∧ g = [t]) ∨ (∃ l1, s = 4 ∧ g = [t, l1])
theorem t_need {s : Int} {t m : List C} {g : List (List C)} {m0 m1 m2 : Int} (e : m = [⟨m0, ⟨m1, m2⟩⟩]) (h : St s t g) : ropewayref15_Need.f true m0 m1 m2 g = some (needS m s t) := by
  unfold ropewayref15_Need.f needS ownS
  subst e
  rcases h with ⟨rfl, rfl, rfl⟩ | ⟨rfl, rfl⟩ | ⟨l1, rfl, rfl⟩
  · simp
  · by_cases h1 : t.length = 0 <;> simp_all [rd_L3]
  · simp
theorem t_own {s : Int} {t m : List C} {g : List (List C)} {m0 m1 m2 : Int} (e : m = [⟨m0, ⟨m1, m2⟩⟩]) (h : St s t g) : ropewayref15_Own.f true m0 m1 m2 g = some (ownS m s t) := by
  unfold ropewayref15_Own.f ownS
  subst e
  rcases h with ⟨rfl, rfl, rfl⟩ | ⟨rfl, rfl⟩ | ⟨l1, rfl, rfl⟩
  · simp
  · by_cases h1 : t.length = 0 <;> simp_all [rd_L3]
  · simp
theorem t_len {s : Int} {t : List C} {g : List (List C)} (h : St s t g) : g.length ≤ 4 := by
  rcases h with ⟨rfl, rfl, rfl⟩ | ⟨rfl, rfl⟩ | ⟨l1, rfl, rfl⟩ <;> simp
theorem t_step {m : List C} (hm : 0 < m.length) {s : Int} {t l : List C} {g : List (List C)} (h : St s t g) : St (stepS m s t l).1 (stepS m s t l).2 (if (needS m s t).2.2 = true then g ++ [l] else g) := by
  unfold stepS needS ownS
  rcases h with ⟨rfl, rfl, rfl⟩ | ⟨rfl, rfl⟩ | ⟨l1, rfl, rfl⟩
  · refine Or.inr (Or.inl ?_); rw [w1]; simp_all
  · refine Or.inr (Or.inr ⟨l, ?_⟩)
    by_cases h1 : t.length = 0 <;> simp_all
  · refine Or.inr (Or.inr ⟨l1, ?_⟩); simp_all
theorem t_end {s : Int} {t m : List C} {g : List (List C)} {m0 m1 m2 : Int} (e : m = [⟨m0, ⟨m1, m2⟩⟩]) (h5 : m0 ≤ 5) (h : St s t g) (ht : chk (-1) t = true) : EndOk m s t true m0 m1 m2 g := by
  refine ⟨fun _ => ?_, fun hl => ?_⟩
  · have f1 : Ev (fun k => snap_Snap_Found.f k m s t) [] := by
      unfold snap_Snap_Found.f
      exact Ev.bind_all (update_eq m s t) (Ev.ite_pos (by rw [e]; rfl) (Ev.now _))
    have f2 : Ev (fun k => ropewayref15_Found.f k true m0 m1 m2 g) [] := by
      unfold ropewayref15_Found.f
      refine Ev.ite_pos rfl (Ev.succ ?_)
      simp only [ropewayref15_Found.j0]
      exact Ev.ite_pos (by first | trivial | rfl) (Ev.now _)
    exact Ev.bind f1 (Ev.bind f2 (Ev.bind (vsame_ev [] (by decide)) (Ev.now _)))
  · unfold needS at hl ⊢
    rcases h with ⟨rfl, rfl, rfl⟩ | ⟨rfl, rfl⟩ | ⟨l1, rfl, rfl⟩
    · simp at hl
    · by_cases ho : ownS m 1 t = true
      · simp only [ho]
        subst e
        show m0 ≠ 77
        omega
      · simp [ho] at hl ⊢
        exact head77 ht (by simpa using hl)
    · simp at hl
theorem l1t (m : List C) (hm : m.length < 5864062014805) (l2 : List (List C)) (i : Nat) (hi : i < 4611686018427387904) (s : Int) (t : List C) (ht : t.length < 5864062014805) (u : Bool) (m0 m1 m2 : Int) (g : List (List C)) (hN : ropewayref15_Need.f u m0 m1 m2 g = some (needS m s t)) (hO : ropewayref15_Own.f u m0 m1 m2 g = some (ownS m s t))
    (ih : Ev (fun k => ropewaylaw15_SnapRuns_t.l0 k l2 (l2.length : Int) ((i + 1 : Nat) : Int) m s t u m0 m1 m2 g) true) (d : Nat) : ∀ (y : List C) (j : Nat), y.length - j = d → j ≤ y.length → y.length < 4611686018427387904 →
    Ev (fun k => ropewaylaw15_SnapRuns_t.l1 k y l2 (l2.length : Int) (i : Int) (y.length : Int) (j : Int) m s t u m0 m1 m2 g) true := by
  induction d with
  | zero =>
    intro y j hd hj hy
    refine Ev.succ ?_
    simp only [ropewaylaw15_SnapRuns_t.l1]
    refine Ev.ite_neg (by omega) ?_
    refine nb (fun k a x b => ropewaylaw15_SnapRuns_t.j4 k a x b l2 (l2.length : Int) (i : Int) m s t u m0 m1 m2 g) m t s (by first | exact hm | simp) ht true ?_
    refine Ev.succ ?_
    simp only [ropewaylaw15_SnapRuns_t.j4]
    have hs := needS_len m t s (n := 4611686018427387904) (by decide) (by have := hm; simp at this ⊢ <;> omega) (by omega)
    refine Ev.bind_all hN (Ev.ite_pos rfl (Ev.bind (same_ev _ hs) (Ev.ite_pos rfl (Ev.ite_neg (by simp) (Ev.bind_all (own_eq _ s t) (Ev.bind_all hO ?_))))))
    rw [show ∀ b : Bool, (b != b) = false from fun b => by simp]
    refine Ev.succ ?_
    simp only [ropewaylaw15_SnapRuns_t.j5]
    rw [wrap_nat hi]
    exact Ev.ite_neg (by decide) ih
  | succ d ihd =>
    intro y j hd hj hy
    refine Ev.succ ?_
    simp only [ropewaylaw15_SnapRuns_t.l1]
    refine Ev.ite_pos (by omega) (Ev.ite_pos (by omega) (Ev.ite_pos (by omega) ?_))
    rw [wrap_nat (by omega)]
    generalize hz : y.set (j : Int).toNat _ = z
    have hzl : z.length = y.length := by rw [← hz, List.length_set]
    have := ihd z (j + 1) (by omega) (by omega) (by omega)
    rw [hzl] at this
    exact this
theorem l2t (m : List C) (hm : m.length < 5864062014805) (s : Int) (t : List C) (ht : t.length < 5864062014805) (u : Bool) (m0 m1 m2 : Int) (g : List (List C)) (hE : EndOk m s t u m0 m1 m2 g) (d : Nat) : ∀ (y : List C) (j : Nat), y.length - j = d → j ≤ y.length → y.length < 4611686018427387904 →
    Ev (fun k => ropewaylaw15_SnapRuns_t.l2 k (needS m s t).1 y (needS m s t).2.2 (y.length : Int) (j : Int) m s t u m0 m1 m2 g) true := by
  induction d with
  | zero =>
    intro y j hd hj hy
    refine Ev.succ ?_
    simp only [ropewaylaw15_SnapRuns_t.l2]
    refine Ev.ite_neg (by omega) ?_
    refine nb (fun k a x b => ropewaylaw15_SnapRuns_t.j8 k (needS m s t).1 (needS m s t).2.2 a x b m s t u m0 m1 m2 g) m t s (by first | exact hm | simp) ht true ?_
    refine Ev.succ ?_
    simp only [ropewaylaw15_SnapRuns_t.j8]
    refine Ev.ite_pos (by first | trivial | rfl) (Ev.ite_pos (by simp) ?_)
    cases hb : (needS m s t).2.2
    · have := need_some m s t hb
      rw [this]
      refine Ev.ite_pos rfl (Ev.ite_neg (by decide) ?_)
      exact hE.1 hb
    · refine Ev.ite (fun _ => Ev.ite_pos rfl (Ev.now _)) (fun hl => Ev.ite_pos (by omega) (Ev.ite_neg (hE.2 (by omega)) (Ev.ite_pos rfl (Ev.now _))))
  | succ d ihd =>
    intro y j hd hj hy
    refine Ev.succ ?_
    simp only [ropewaylaw15_SnapRuns_t.l2]
    refine Ev.ite_pos (by omega) (Ev.ite_pos (by omega) (Ev.ite_pos (by omega) ?_))
    rw [wrap_nat (by omega)]
    generalize hz : y.set (j : Int).toNat _ = z
    have hzl : z.length = y.length := by rw [← hz, List.length_set]
    have := ihd z (j + 1) (by omega) (by omega) (by omega)
    rw [hzl] at this
    exact this
theorem l1f (m : List C) (hm : m.length < 5864062014805) (em : m = []) (l2 : List (List C)) (i : Nat) (hi : i < 4611686018427387904) (s : Int) (t : List C) (ht : t.length < 5864062014805) (u : Bool) (m0 m1 m2 : Int) (g : List (List C)) (hN : ropewayref15_Need.f u m0 m1 m2 g = some (needS m s t)) (hO : ropewayref15_Own.f u m0 m1 m2 g = some (ownS m s t))
    (ih : Ev (fun k => ropewaylaw15_SnapRuns_f.l0 k l2 (l2.length : Int) ((i + 1 : Nat) : Int) s t u m0 m1 m2 g) true) (d : Nat) : ∀ (y : List C) (j : Nat), y.length - j = d → j ≤ y.length → y.length < 4611686018427387904 →
    Ev (fun k => ropewaylaw15_SnapRuns_f.l1 k y l2 (l2.length : Int) (i : Int) (y.length : Int) (j : Int) s t u m0 m1 m2 g) true := by
  induction d with
  | zero =>
    intro y j hd hj hy
    refine Ev.succ ?_
    simp only [ropewaylaw15_SnapRuns_f.l1]
    refine Ev.ite_neg (by omega) ?_
    subst em; refine nb (fun k a x b => ropewaylaw15_SnapRuns_f.j4 k a x b l2 (l2.length : Int) (i : Int) s t u m0 m1 m2 g) ([] : List C) t s (by first | exact hm | simp) ht true ?_
    refine Ev.succ ?_
    simp only [ropewaylaw15_SnapRuns_f.j4]
    have hs := needS_len ([] : List C) t s (n := 4611686018427387904) (by decide) (by have := hm; simp at this ⊢ <;> omega) (by omega)
    refine Ev.bind_all hN (Ev.ite_pos rfl (Ev.bind (same_ev _ hs) (Ev.ite_pos rfl (Ev.ite_neg (by simp) (Ev.bind_all (own_eq _ s t) (Ev.bind_all hO ?_))))))
    rw [show ∀ b : Bool, (b != b) = false from fun b => by simp]
    refine Ev.succ ?_
    simp only [ropewaylaw15_SnapRuns_f.j5]
    rw [wrap_nat hi]
    exact Ev.ite_neg (by decide) ih
  | succ d ihd =>
    intro y j hd hj hy
    refine Ev.succ ?_
    simp only [ropewaylaw15_SnapRuns_f.l1]
    refine Ev.ite_pos (by omega) (Ev.ite_pos (by omega) (Ev.ite_pos (by omega) ?_))
    rw [wrap_nat (by omega)]
    generalize hz : y.set (j : Int).toNat _ = z
    have hzl : z.length = y.length := by rw [← hz, List.length_set]
    have := ihd z (j + 1) (by omega) (by omega) (by omega)
    rw [hzl] at this
    exact this
theorem l2f (m : List C) (hm : m.length < 5864062014805) (em : m = []) (s : Int) (t : List C) (ht : t.length < 5864062014805) (u : Bool) (m0 m1 m2 : Int) (g : List (List C)) (hE : EndOk m s t u m0 m1 m2 g) (d : Nat) : ∀ (y : List C) (j : Nat), y.length - j = d → j ≤ y.length → y.length < 4611686018427387904 →
    Ev (fun k => ropewaylaw15_SnapRuns_f.l2 k (needS m s t).1 y (needS m s t).2.2 (y.length : Int) (j : Int) s t u m0 m1 m2 g) true := by
  induction d with
  | zero =>
    intro y j hd hj hy
    refine Ev.succ ?_
    simp only [ropewaylaw15_SnapRuns_f.l2]
    refine Ev.ite_neg (by omega) ?_
    subst em; refine nb (fun k a x b => ropewaylaw15_SnapRuns_f.j8 k (needS ([] : List C) s t).1 (needS ([] : List C) s t).2.2 a x b s t u m0 m1 m2 g) ([] : List C) t s (by first | exact hm | simp) ht true ?_
    refine Ev.succ ?_
    simp only [ropewaylaw15_SnapRuns_f.j8]
    refine Ev.ite_pos (by first | trivial | rfl) (Ev.ite_pos (by simp) ?_)
    cases hb : (needS ([] : List C) s t).2.2
    · have := need_some ([] : List C) s t hb
      rw [this]
      refine Ev.ite_pos rfl (Ev.ite_neg (by decide) ?_)
      exact hE.1 hb
    · refine Ev.ite (fun _ => Ev.ite_pos rfl (Ev.now _)) (fun hl => Ev.ite_pos (by omega) (Ev.ite_neg (hE.2 (by omega)) (Ev.ite_pos rfl (Ev.now _))))
  | succ d ihd =>
    intro y j hd hj hy
    refine Ev.succ ?_
    simp only [ropewaylaw15_SnapRuns_f.l2]
    refine Ev.ite_pos (by omega) (Ev.ite_pos (by omega) (Ev.ite_pos (by omega) ?_))
    rw [wrap_nat (by omega)]
    generalize hz : y.set (j : Int).toNat _ = z
    have hzl : z.length = y.length := by rw [← hz, List.length_set]
    have := ihd z (j + 1) (by omega) (by omega) (by omega)
    rw [hzl] at this
    exact this
theorem l0t (m : List C) (hm : m.length < 5864062014805) (l2 : List (List C)) (hn : l2.length ≤ 20) (hl : ∀ y ∈ l2, y.length < 5864062014805) (m0 m1 m2 : Int) (em : m = [⟨m0, ⟨m1, m2⟩⟩]) (h5 : m0 ≤ 5) (d : Nat) : ∀ (i : Nat) (s : Int) (t : List C) (g : List (List C)), l2.length - i = d → i ≤ l2.length → St s t g → chk (-1) t = true →
    Ev (fun k => ropewaylaw15_SnapRuns_t.l0 k l2 (l2.length : Int) (i : Int) m s t true m0 m1 m2 g) true := by
  induction d with
  | zero =>
    intro i s t g hd hi hS ht
    have t6 := chk_six ht
    refine Ev.succ ?_
    simp only [ropewaylaw15_SnapRuns_t.l0]
    refine Ev.ite_neg (by omega) ?_
    refine nb (fun k a x b => ropewaylaw15_SnapRuns_t.j6 k a x b m s t true m0 m1 m2 g) m t s (by first | exact hm | simp) (by omega) true ?_
    refine Ev.succ ?_
    simp only [ropewaylaw15_SnapRuns_t.j6]
    have hs := needS_len m t s (n := 4611686018427387904) (by decide) (by have := hm; simp at this ⊢ <;> omega) (by omega)
    exact l2t m hm s t (by omega) true m0 m1 m2 g (t_end em h5 hS ht) _ _ 0 rfl (by omega) hs
  | succ d ihd =>
    intro i s t g hd hi hS ht
    have t6 := chk_six ht
    have hlt : i < l2.length := by omega
    have e1 : rd_L3 l2 (i : Int) = l2.getD i [] := rfl
    have hy := hl _ (getD_mem hlt [])
    refine Ev.succ ?_
    simp only [ropewaylaw15_SnapRuns_t.l0]
    rw [e1]
    generalize l2.getD i [] = y at hy ⊢
    refine Ev.ite_pos (by omega) (Ev.ite_pos (by omega) (Ev.ite_pos (by omega) (Ev.bind (rcheck_ev y (by omega)) ?_)))
    by_cases hc : chk (-1) y = true
    rotate_left
    · rw [if_neg hc]; exact Ev.ite_neg (by decide) (Ev.now _)
    have y6 := chk_six hc
    rw [if_pos hc]
    refine Ev.ite_pos rfl (Ev.bind (Ev.all fun _ => rfl) (Ev.ite_pos (by simp; omega) (Ev.bind (Ev.all fun _ => rfl) ?_)))
    rw [List.nil_append]
    refine sb (fun k s' t' => ropewaylaw15_SnapRuns_t.j2 k y y l2 (l2.length : Int) (i : Int) m s' t' true m0 m1 m2 g) m t y s hy true ?_
    refine Ev.succ ?_
    simp only [ropewaylaw15_SnapRuns_t.j2]
    refine Ev.bind_all (got_eq (t_need em hS) (by have := t_len hS; omega) hy) ?_
    have hS' := t_step (m := m) (l := y) (by rw [em]; exact Nat.zero_lt_one) hS
    have ht' : chk (-1) (stepS m s t y).2 = true := step_chk ht hc
    have t6' := chk_six ht'
    exact l1t m hm l2 i (by omega) _ _ (by omega) true m0 m1 m2 _ (t_need em hS') (t_own em hS') (ihd (i + 1) _ _ _ (by omega) (by omega) hS' ht') y.length y 0 rfl (by omega) (by omega)
theorem l0f (m : List C) (hm : m.length < 5864062014805) (em : m = []) (l2 : List (List C)) (hn : l2.length ≤ 20) (hl : ∀ y ∈ l2, y.length < 5864062014805) (m0 m1 m2 : Int) (d : Nat) : ∀ (i : Nat) (s : Int) (t : List C) (g : List (List C)), l2.length - i = d → i ≤ l2.length → Sf s t g → chk (-1) t = true →
    Ev (fun k => ropewaylaw15_SnapRuns_f.l0 k l2 (l2.length : Int) (i : Int) s t false m0 m1 m2 g) true := by
  induction d with
  | zero =>
    intro i s t g hd hi hS ht
    have t6 := chk_six ht
    refine Ev.succ ?_
    simp only [ropewaylaw15_SnapRuns_f.l0]
    refine Ev.ite_neg (by omega) ?_
    subst em; refine nb (fun k a x b => ropewaylaw15_SnapRuns_f.j6 k a x b s t false m0 m1 m2 g) ([] : List C) t s (by first | exact hm | simp) (by omega) true ?_
    refine Ev.succ ?_
    simp only [ropewaylaw15_SnapRuns_f.j6]
    have hs := needS_len ([] : List C) t s (n := 4611686018427387904) (by decide) (by have := hm; simp at this ⊢ <;> omega) (by omega)
    exact l2f ([] : List C) hm rfl s t (by omega) false m0 m1 m2 g (f_end hS ht) _ _ 0 rfl (by omega) hs
  | succ d ihd =>
    intro i s t g hd hi hS ht
    have t6 := chk_six ht
    have hlt : i < l2.length := by omega
    have e1 : rd_L3 l2 (i : Int) = l2.getD i [] := rfl
    have hy := hl _ (getD_mem hlt [])
    refine Ev.succ ?_
    simp only [ropewaylaw15_SnapRuns_f.l0]
    rw [e1]
    generalize l2.getD i [] = y at hy ⊢
    refine Ev.ite_pos (by omega) (Ev.ite_pos (by omega) (Ev.ite_pos (by omega) (Ev.bind (rcheck_ev y (by omega)) ?_)))
    by_cases hc : chk (-1) y = true
    rotate_left
    · rw [if_neg hc]; exact Ev.ite_neg (by decide) (Ev.now _)
    have y6 := chk_six hc
    rw [if_pos hc]
    refine Ev.ite_pos rfl (Ev.bind (Ev.all fun _ => rfl) (Ev.ite_pos (by simp; omega) (Ev.bind (Ev.all fun _ => rfl) ?_)))
    rw [List.nil_append]
    subst em; refine sb (fun k s' t' => ropewaylaw15_SnapRuns_f.j2 k y y l2 (l2.length : Int) (i : Int) s' t' false m0 m1 m2 g) ([] : List C) t y s hy true ?_
    refine Ev.succ ?_
    simp only [ropewaylaw15_SnapRuns_f.j2]
    refine Ev.bind_all (got_eq (f_need hS) (by have := f_len hS; omega) hy) ?_
    have hS' := f_step (l := y) hS
    have ht' : chk (-1) (stepS ([] : List C) s t y).2 = true := step_chk ht hc
    have t6' := chk_six ht'
    exact l1f ([] : List C) hm rfl l2 i (by omega) _ _ (by omega) false m0 m1 m2 _ (f_need hS') (f_own hS') (ihd (i + 1) _ _ _ (by omega) (by omega) hS' ht') y.length y 0 rfl (by omega) (by omega)
theorem SnapRuns : ropewaylaw15_SnapRuns.Pure := by
  intro u m0 m1 m2 l2 _ _ _ hl
  have hl2 : ∀ y ∈ l2, y.length < 5864062014805 := fun y hy => by
    have := (hl.2.2 y hy).2.1
    omega
  have alive : Ev (fun k => ropewaylaw15_snapAlive.f k) true := Ev.closed ropewaylaw15_snapAlive.mono 60 (by decide +kernel)
  cases u
  · have main : Ev (fun k => ropewaylaw15_SnapRuns_f.f k m0 m1 m2 l2) true := by
      have yes : Ev (fun k => ropewaylaw15_SnapRuns_f.j0 k l2 true m0 m1 m2) true := Ev.const fun k => by
        simp only [ropewaylaw15_SnapRuns_f.j0]; first | rw [if_pos rfl] | rw [if_pos trivial] | simp
      unfold ropewaylaw15_SnapRuns_f.f
      refine Ev.bind alive (Ev.ite_pos rfl (Ev.ite (fun _ => yes) fun hlen => Ev.ite (fun _ => yes) fun h0 => Ev.ite (fun _ => yes) fun h5 => Ev.bind_all (ref_Right_eq _ _) (Ev.ite (fun _ => ?_) fun _ => yes)))
      cases hz : (m1 == 0 && (m2 == 0))
      rotate_left
      · exact yes
      refine Ev.succ ?_
      simp only [ropewaylaw15_SnapRuns_f.j0]
      refine Ev.ite_neg (by decide) ?_
      exact l0f ([] : List C) (by decide) rfl l2 (by omega) hl2 m0 m1 m2 l2.length 0 0 [] [] (by omega) (by omega) (Or.inl ⟨rfl, rfl, rfl⟩) rfl
    exact main.rounds
  · have main : Ev (fun k => ropewaylaw15_SnapRuns_t.f k m0 m1 m2 l2) true := by
      have yes : Ev (fun k => ropewaylaw15_SnapRuns_t.j0 k l2 true m0 m1 m2) true := Ev.const fun k => by
        simp only [ropewaylaw15_SnapRuns_t.j0]; first | rw [if_pos rfl] | rw [if_pos trivial] | simp
      unfold ropewaylaw15_SnapRuns_t.f
      refine Ev.bind alive (Ev.ite_pos rfl (Ev.ite (fun _ => yes) fun hlen => Ev.ite (fun _ => yes) fun h0 => Ev.ite (fun _ => yes) fun h5 => Ev.bind_all (ref_Right_eq _ _) (Ev.ite (fun _ => ?_) fun _ => yes)))
      cases hz : (m1 == 0 && (m2 == 0))
      rotate_left
      · exact yes
      refine Ev.succ ?_
      simp only [ropewaylaw15_SnapRuns_t.j0]
      refine Ev.ite_neg (by decide) ?_
      exact l0t [⟨m0, ⟨m1, m2⟩⟩] (show (1 : Nat) < _ by decide) l2 (by omega) hl2 m0 m1 m2 rfl (by omega) l2.length 0 0 [] [] (by omega) (by omega) (Or.inl ⟨rfl, rfl, rfl⟩) rfl
    exact main.rounds

end Go.Proofs.Ytoelfknhnmhlmaa.Pure
