/- The pure statement of the law ChangeCounts: a set has as many changes as unlike nodes were added, and removed; in any order, and twice, it is the same; for every input. -/
import Derived.Test.YtbnhgckdplndfaaPChangeCountsx
import Derived.Test.YtbnhgckdplndfaaXPure
import Derived.Test.YtbnhgckdplndfaaXOpen
namespace Go.Proofs.Ytbnhgckdplndfaa.Pure
open Go.RowKit Go.Proofs.Ytbnhgckdplndfaa.PChangeCounts Go.Proofs.YtbnhgckdplndfaaW.PrintWords Go.Proofs.YtbnhgckdplndfaaW.PrintLast Go.Proofs.YtbnhgckdplndfaaW.PrintMore Go.Proofs.YtbnhgckdplndfaaX
set_option linter.unusedVariables false
set_option linter.unusedSimpArgs false
/-! sets of nodes: two numbers below 64 -/
def pc (a : Int) : Int := (bits_OnesCount.f (IntKind.u64.wrap a)).getD 0
theorem set1 (p : Int → Prop) [DecidablePred p] (h : ∀ a : Fin 64, p (a.val : Int)) {x : Int} (h0 : 0 ≤ x) (h1 : x < 64) : p x := by
  have := h ⟨x.toNat, by omega⟩
  simpa [Int.toNat_of_nonneg h0] using this
theorem set2 (p : Int → Int → Prop) (h : ∀ a b : Fin 64, p (a.val : Int) (b.val : Int)) {x y : Int} (h0 : 0 ≤ x) (h1 : x < 64) (h2 : 0 ≤ y) (h3 : y < 64) : p x y := by
  have := h ⟨x.toNat, by omega⟩ ⟨y.toNat, by omega⟩
  simpa [Int.toNat_of_nonneg h0, Int.toNat_of_nonneg h2] using this
theorem pc_some {x : Int} (h0 : 0 ≤ x) (h1 : x < 64) : bits_OnesCount.f (IntKind.u64.wrap x) = some (pc x) ∧ 0 ≤ pc x ∧ pc x ≤ 6 :=
  set1 (fun x => bits_OnesCount.f (IntKind.u64.wrap x) = some (pc x) ∧ 0 ≤ pc x ∧ pc x ≤ 6) (by decide +kernel) h0 h1
theorem size_eq {a d : Int} (a0 : 0 ≤ a) (a1 : a < 64) (d0 : 0 ≤ d) (d1 : d < 64) : change_Size.f a d = some (pc a + pc d) := by
  obtain ⟨ea, la, ua⟩ := pc_some a0 a1
  obtain ⟨ed, ld, ud⟩ := pc_some d0 d1
  unfold change_Size.f
  rw [ea, ed]
  simp only [Option.bind_some]
  rw [wrap_in (by omega) (by omega)]
theorem right_eq (a d : Int) : change_Right.f a d = some (decide (0 ≤ a ∧ a < 64 ∧ 0 ≤ d ∧ d < 64)) := by
  unfold change_Right.f
  (repeat' split) <;> simp_all <;> omega
theorem name_eq {a d : Int} (a0 : 0 ≤ a) (a1 : a < 64) (d0 : 0 ≤ d) (d1 : d < 64) : change_Name.f a d = some (a * 64 + d) := by
  unfold change_Name.f
  rw [wrap_in (x := a * 64) (by omega) (by omega), wrap_in (by omega) (by omega)]

/-! six bools as a set's number -/
def toN (f : Nat → Bool) : Int := (if f 0 = true then 1 else 0) + (if f 1 = true then 2 else 0) + (if f 2 = true then 4 else 0) + (if f 3 = true then 8 else 0) + (if f 4 = true then 16 else 0) + (if f 5 = true then 32 else 0)
def up (f : Nat → Bool) (j : Int) (v : Bool) : Nat → Bool := fun i => stA j (i : Int) v (f i)
def six6 (a b c d e f : Bool) : Nat → Bool
  | 0 => a | 1 => b | 2 => c | 3 => d | 4 => e | _ => f
theorem toN_six (f : Nat → Bool) : toN f = toN (six6 (f 0) (f 1) (f 2) (f 3) (f 4) (f 5)) := rfl
theorem toN_range (f : Nat → Bool) : 0 ≤ toN f ∧ toN f < 64 := by
  unfold toN
  constructor <;> (repeat' split) <;> omega

/-- the set of nodes, if all are nodes -/
def ofL : (Nat → Bool) → List Int → Option (Nat → Bool)
  | f, [] => some f
  | f, n :: l => if n < 0 ∨ n > 5 then none else ofL (up f n true) l
theorem or_closed : ∀ a0 a1 a2 a3 a4 a5 : Bool, ∀ n : Fin 6, Go.bits .or .i64 (toN (six6 a0 a1 a2 a3 a4 a5)) (shl .i64 1 (n.val : Int)) = toN (up (six6 a0 a1 a2 a3 a4 a5) (n.val : Int) true) := by decide +kernel
theorem or_up (f : Nat → Bool) {n : Int} (h0 : 0 ≤ n) (h1 : n < 6) : Go.bits .or .i64 (toN f) (shl .i64 1 n) = toN (up f n true) := by
  have := or_closed (f 0) (f 1) (f 2) (f 3) (f 4) (f 5) ⟨n.toNat, by omega⟩
  rw [show ((⟨n.toNat, by omega⟩ : Fin 6).val : Int) = n by simp; omega] at this
  exact this
def maskR (o : Option (Nat → Bool)) : Int × Bool := match o with | some g => (toN g, true) | none => (0, false)
theorem mask_l0 (xs : List Int) (hn : xs.length < 4611686018427387904) (d : Nat) : ∀ (i : Nat) (f : Nat → Bool), xs.length - i = d → i ≤ xs.length →
    Ev (fun k => change_mask.l0 k (toN f) xs (xs.length : Int) (i : Int)) (maskR (ofL f (xs.drop i))) := by
  induction d with
  | zero =>
    intro i f hd hi
    refine Ev.const fun k => ?_
    simp only [change_mask.l0]
    rw [if_neg (by omega), List.drop_eq_nil_of_le (by omega)]
    rfl
  | succ d ih =>
    intro i f hd hi
    have hlt : i < xs.length := by omega
    have e : rd xs (i : Int) = xs.getD i 0 := rfl
    rw [drop_cons hlt 0]
    refine Ev.succ ?_
    simp only [change_mask.l0]
    refine Ev.ite_pos (by omega) (Ev.ite_pos (by omega) (Ev.ite_pos (by omega) ?_))
    rw [e, wrap_nat (by omega)]
    generalize xs.getD i 0 = n
    simp only [ofL]
    by_cases h : n < 0 ∨ n > 5
    · rw [if_pos h]
      refine Ev.ite (fun _ => Ev.all fun k => rfl) fun h1 => ?_
      exact Ev.ite_pos (by omega) (Ev.all fun k => rfl)
    · rw [if_neg h]
      refine Ev.ite_neg (by omega) (Ev.ite_neg (by omega) (Ev.ite_pos (by omega) ?_))
      rw [or_up f (by omega) (by omega)]
      exact ih (i + 1) (up f n true) (by omega) (by omega)
def ff : Nat → Bool := fun _ => false
theorem mask_ev (xs : List Int) (hn : xs.length < 4611686018427387904) : Ev (fun k => change_mask.f k xs) (maskR (ofL ff xs)) := mask_l0 xs hn xs.length 0 ff (by omega) (by omega)
def ofR (f g : Option (Nat → Bool)) : Int × Int × Int := match f, g with | some f, some g => (toN f, toN g, 0) | _, _ => (0, 0, 41)
theorem change_Of_ev (a d : List Int) (ha : a.length < 4611686018427387904) (hd : d.length < 4611686018427387904) : Ev (fun k => change_Of.f k a d) (ofR (ofL ff a) (ofL ff d)) := by
  unfold change_Of.f
  refine Ev.bind (mask_ev a ha) ?_
  refine Ev.bind (mask_ev d hd) ?_
  refine Ev.all fun k => ?_
  cases ofL ff a <;> cases ofL ff d <;> rfl

theorem rd6 (f : Nat → Bool) {n : Int} (h0 : 0 ≤ n) (h1 : n < 6) : rdOf false [f 0, f 1, f 2, f 3, f 4, f 5] n = f n.toNat := by
  have : n = 0 ∨ n = 1 ∨ n = 2 ∨ n = 3 ∨ n = 4 ∨ n = 5 := by omega
  rcases this with rfl | rfl | rfl | rfl | rfl | rfl <;> rfl
/-- how many are in -/
def cN (f : Nat → Bool) : Int := (if f 0 = true then 1 else 0) + (if f 1 = true then 1 else 0) + (if f 2 = true then 1 else 0) + (if f 3 = true then 1 else 0) + (if f 4 = true then 1 else 0) + (if f 5 = true then 1 else 0)
theorem cN_range (f : Nat → Bool) : 0 ≤ cN f ∧ cN f ≤ 6 := by
  unfold cN
  constructor <;> (repeat' split) <;> omega
theorem pc_closed : ∀ a0 a1 a2 a3 a4 a5 : Bool, pc (toN (six6 a0 a1 a2 a3 a4 a5)) = cN (six6 a0 a1 a2 a3 a4 a5) := by decide +kernel
theorem pc_toN (f : Nat → Bool) : pc (toN f) = cN f := pc_closed (f 0) (f 1) (f 2) (f 3) (f 4) (f 5)
theorem cN_up_closed : ∀ a0 a1 a2 a3 a4 a5 : Bool, ∀ n : Fin 6, cN (up (six6 a0 a1 a2 a3 a4 a5) (n.val : Int) true) = (if six6 a0 a1 a2 a3 a4 a5 n.val = true then 0 else 1) + cN (six6 a0 a1 a2 a3 a4 a5) := by decide +kernel
theorem cN_up (f : Nat → Bool) {n : Int} (h0 : 0 ≤ n) (h1 : n < 6) : cN (up f n true) = (if f n.toNat = true then 0 else 1) + cN f := by
  have := cN_up_closed (f 0) (f 1) (f 2) (f 3) (f 4) (f 5) ⟨n.toNat, by omega⟩
  rw [show ((⟨n.toNat, by omega⟩ : Fin 6).val : Int) = n by simp; omega] at this
  refine Eq.trans (show cN (up f n true) = cN (up (six6 (f 0) (f 1) (f 2) (f 3) (f 4) (f 5)) n true) from rfl) (this.trans ?_)
  have e : six6 (f 0) (f 1) (f 2) (f 3) (f 4) (f 5) (⟨n.toNat, by omega⟩ : Fin 6).val = f n.toNat := by
    have : n = 0 ∨ n = 1 ∨ n = 2 ∨ n = 3 ∨ n = 4 ∨ n = 5 := by omega
    rcases this with rfl | rfl | rfl | rfl | rfl | rfl <;> rfl
  rw [e]
  rfl
/-- nodes alone -/
def okN (n : Int) : Bool := decide (0 ≤ n ∧ n < 6)
def fold (f : Nat → Bool) (l : List Int) : Nat → Bool := fun i => f i || l.any fun n => decide (n = (i : Int))
theorem ofL_fold (l : List Int) : ∀ f : Nat → Bool, (∀ n ∈ l, 0 ≤ n ∧ n < 6) → ∃ g, ofL f l = some g ∧ ∀ i, g i = fold f l i := by
  induction l with
  | nil => intro f _; exact ⟨f, rfl, fun i => by simp [fold]⟩
  | cons n l ih =>
    intro f h
    have h1 := h n (List.mem_cons_self ..)
    obtain ⟨g, hg, k⟩ := ih (up f n true) fun m hm => h m (List.mem_cons_of_mem _ hm)
    refine ⟨g, by simp only [ofL]; rw [if_neg (by omega)]; exact hg, fun i => ?_⟩
    rw [k i]
    unfold fold
    rw [List.any_cons]
    show (stA n (i : Int) true (f i) || _) = _
    unfold stA
    by_cases e : n = (i : Int)
    · rw [if_pos e, decide_eq_true e]; simp
    · rw [if_neg e, decide_eq_false e]; simp
theorem ofL_none (l : List Int) : ∀ f : Nat → Bool, (∃ n ∈ l, ¬ (0 ≤ n ∧ n < 6)) → ofL f l = none := by
  induction l with
  | nil => rintro f ⟨n, h, _⟩; cases h
  | cons m l ih =>
    rintro f ⟨n, h, k⟩
    simp only [ofL]
    by_cases hm : m < 0 ∨ m > 5
    · rw [if_pos hm]
    · rw [if_neg hm]
      rcases List.mem_cons.1 h with rfl | h
      · exact absurd (by omega) k
      · exact ih _ ⟨n, h, k⟩
theorem toN_congr {p q : Nat → Bool} (h : ∀ j, p j = q j) : toN p = toN q := by rw [show p = q from funext h]
def twice : List Int → List Int
  | [] => []
  | n :: l => n :: n :: twice l
theorem mem_twice (l : List Int) (n : Int) : n ∈ twice l ↔ n ∈ l := by
  induction l with
  | nil => exact Iff.rfl
  | cons m l ih =>
    simp only [twice, List.mem_cons, ih]
    constructor
    · rintro (h | h | h)
      · exact .inl h
      · exact .inl h
      · exact .inr h
    · rintro (h | h)
      · exact .inl h
      · exact .inr (.inr h)
theorem ofL_mem {a b : List Int} (h : ∀ n, n ∈ a ↔ n ∈ b) : ofL ff a = ofL ff b := by
  by_cases k : ∀ n ∈ a, 0 ≤ n ∧ n < 6
  · obtain ⟨g, hg, kg⟩ := ofL_fold a ff k
    obtain ⟨g', hg', kg'⟩ := ofL_fold b ff fun n hn => k n ((h n).2 hn)
    rw [hg, hg']
    congr 1
    funext i
    rw [kg i, kg' i]
    unfold fold
    congr 1
    rw [Bool.eq_iff_iff, List.any_eq_true, List.any_eq_true]
    constructor
    · rintro ⟨n, hn, e⟩; exact ⟨n, (h n).1 hn, e⟩
    · rintro ⟨n, hn, e⟩; exact ⟨n, (h n).2 hn, e⟩
  · have : ∃ n ∈ a, ¬ (0 ≤ n ∧ n < 6) := by
      apply Classical.byContradiction
      intro z
      apply k
      intro n hn
      apply Classical.byContradiction
      intro y
      exact z ⟨n, hn, y⟩
    obtain ⟨n, hn, hk⟩ := this
    rw [ofL_none a ff ⟨n, hn, hk⟩, ofL_none b ff ⟨n, (h n).1 hn, hk⟩]
theorem twice_snoc (l : List Int) (x : Int) : twice (l ++ [x]) = twice l ++ [x, x] := by
  induction l with
  | nil => rfl
  | cons m l ih => simp only [List.cons_append, twice]; rw [ih]
theorem twice_len (l : List Int) : (twice l).length = 2 * l.length := by
  induction l with
  | nil => rfl
  | cons m l ih => simp only [twice, List.length_cons, ih]; omega
theorem l2_ev (a d : List Int) (F G : Nat → Bool) (many : Int) (ha : a.length ≤ 100) (hd : d.length ≤ 100) (hF : ofL ff a = some F) (hG : ofL ff d = some G) (hm : many = cN F + cN G) : ∀ j : Nat, j ≤ a.length →
    Ev (fun k => ropewaylaw04_ChangeCounts.l2 k a d 0 many (twice ((a.drop j).reverse)) ((j : Int) - 1) (toN F) (toN G)) true := by
  intro j
  induction j with
  | zero =>
    intro _
    refine Ev.succ ?_
    simp only [ropewaylaw04_ChangeCounts.l2]
    refine Ev.ite_neg (by omega) ?_
    have hb : (twice ((a.drop 0).reverse)).length ≤ 200 := by rw [twice_len]; simp; omega
    refine Ev.bind (change_Of_ev _ d (by omega) (by omega)) ?_
    have e : ofL ff (twice ((a.drop 0).reverse)) = ofL ff a := ofL_mem fun n => by rw [mem_twice, List.drop_zero, List.mem_reverse]
    rw [e, hF, hG]
    have rF := toN_range F
    have rG := toN_range G
    refine Ev.ite_pos (by simp) (Ev.ite_pos rfl ?_)
    refine Ev.bind_all (size_eq rF.1 rF.2 rG.1 rG.2) ?_
    refine Ev.ite_pos (by rw [pc_toN, pc_toN]; exact hm.symm) (Ev.all fun k => ?_)
    simp [ofR]
  | succ j ih =>
    intro hj
    have hlt : j < a.length := by omega
    have e1 : ((j + 1 : Nat) : Int) - 1 = (j : Int) := by omega
    have e2 : rd a (j : Int) = a.getD j 0 := rfl
    refine Ev.succ ?_
    simp only [ropewaylaw04_ChangeCounts.l2]
    rw [e1, e2]
    refine Ev.ite_pos (by omega) (Ev.ite_pos (by omega) (Ev.ite_pos (by omega) ?_))
    refine Ev.bind_all rfl ?_
    refine Ev.ite_pos (by rw [twice_len]; simp; omega) ?_
    rw [wrap_in (by omega) (by omega)]
    have e3 : twice ((a.drop (j + 1)).reverse) ++ [a.getD j 0, a.getD j 0] = twice ((a.drop j).reverse) := by
      rw [drop_cons hlt 0, List.reverse_cons, twice_snoc]
    rw [e3]
    exact ih (by omega)
theorem l1_ev (a d : List Int) (F : Nat → Bool) (ha : a.length ≤ 100) (hd : d.length ≤ 100) (hF : ofL ff a = some F) (n : Nat) : ∀ (i : Nat) (g : Nat → Bool), d.length - i = n → i ≤ d.length → ofL g (d.drop i) = ofL ff d →
    Ev (fun k => ropewaylaw04_ChangeCounts.l1 k a d (ofR (some F) (ofL ff d)).2.2 (cN F + cN g) d (d.length : Int) (i : Int) (ofR (some F) (ofL ff d)).1 (ofR (some F) (ofL ff d)).2.1 (g 0) (g 1) (g 2) (g 3) (g 4) (g 5)) true := by
  induction n with
  | zero =>
    intro i g hm hi hg
    rw [List.drop_eq_nil_of_le (by omega)] at hg
    have hG : ofL ff d = some g := hg.symm
    refine Ev.succ ?_
    simp only [ropewaylaw04_ChangeCounts.l1]
    refine Ev.ite_neg (by omega) ?_
    rw [hG, wrap_in (by omega) (by omega)]
    have := l2_ev a d F g (cN F + cN g) ha hd hF hG rfl a.length (Nat.le_refl _)
    rw [List.drop_length] at this
    exact this
  | succ n ih =>
    intro i g hm hi hg
    have hlt : i < d.length := by omega
    have e : rd d (i : Int) = d.getD i 0 := rfl
    rw [drop_cons hlt 0] at hg
    have c1 := cN_range F
    have c2 := cN_range g
    refine Ev.succ ?_
    simp only [ropewaylaw04_ChangeCounts.l1]
    refine Ev.ite_pos (by omega) (Ev.ite_pos (by omega) (Ev.ite_pos (by omega) ?_))
    rw [e]
    generalize d.getD i 0 = x at *
    have jt : (x < 0 ∨ x > 5) → Ev (fun k => ropewaylaw04_ChangeCounts.j4 k a d (ofR (some F) (ofL ff d)).2.2 (cN F + cN g) x d (d.length : Int) (i : Int) true (ofR (some F) (ofL ff d)).1 (ofR (some F) (ofL ff d)).2.1 (g 0) (g 1) (g 2) (g 3) (g 4) (g 5)) true := by
      intro h
      simp only [ofL] at hg
      rw [if_pos h] at hg
      rw [← hg]
      exact Ev.const fun k => by simp only [ropewaylaw04_ChangeCounts.j4]; rfl
    by_cases h0 : x < 0
    · exact Ev.ite_pos h0 (jt (Or.inl h0))
    · refine Ev.ite_neg h0 ?_
      by_cases h1 : x > 5
      · rw [decide_eq_true h1]; exact jt (Or.inr h1)
      · rw [decide_eq_false h1]
        have hg2 : ofL (up g x true) (d.drop (i + 1)) = ofL ff d := by
          simp only [ofL] at hg
          rw [if_neg (by omega)] at hg
          exact hg
        have nx := ih (i + 1) (up g x true) (by omega) (by omega) hg2
        have cu := cN_up g (n := x) (by omega) (by omega)
        refine Ev.succ ?_
        simp only [ropewaylaw04_ChangeCounts.j4]
        refine Ev.ite_neg (by simp) (Ev.ite_pos (by omega) (Ev.ite_pos (by omega) ?_))
        rw [rd6 g (by omega) (by omega), wrap_nat (by omega)]
        by_cases hb : g x.toNat = true
        · refine Ev.ite_pos hb ?_
          rw [if_pos hb, Int.zero_add] at cu
          rw [cu] at nx
          exact nx
        · refine Ev.ite_neg hb ?_
          rw [if_neg hb] at cu
          rw [show cN F + cN (up g x true) = cN F + cN g + 1 by omega] at nx
          rw [wrap_in (x := cN F + cN g + 1) (by omega) (by omega)]
          exact nx
theorem l0_ev (a d : List Int) (ha : a.length ≤ 100) (hd : d.length ≤ 100) (n : Nat) : ∀ (i : Nat) (f : Nat → Bool), a.length - i = n → i ≤ a.length → ofL f (a.drop i) = ofL ff a →
    Ev (fun k => ropewaylaw04_ChangeCounts.l0 k a d (ofR (ofL ff a) (ofL ff d)).2.2 (cN f) a (a.length : Int) (i : Int) (ofR (ofL ff a) (ofL ff d)).1 (ofR (ofL ff a) (ofL ff d)).2.1 (f 0) (f 1) (f 2) (f 3) (f 4) (f 5) false false false false false false) true := by
  induction n with
  | zero =>
    intro i f hm hi hg
    rw [List.drop_eq_nil_of_le (by omega)] at hg
    have hF : ofL ff a = some f := hg.symm
    refine Ev.succ ?_
    simp only [ropewaylaw04_ChangeCounts.l0]
    refine Ev.ite_neg (by omega) ?_
    rw [hF]
    have := l1_ev a d f ha hd hF d.length 0 ff (by omega) (by omega) rfl
    rw [show cN f + cN ff = cN f by simp [show cN ff = 0 from rfl]] at this
    exact this
  | succ n ih =>
    intro i f hm hi hg
    have hlt : i < a.length := by omega
    have e : rd a (i : Int) = a.getD i 0 := rfl
    rw [drop_cons hlt 0] at hg
    have c2 := cN_range f
    refine Ev.succ ?_
    simp only [ropewaylaw04_ChangeCounts.l0]
    refine Ev.ite_pos (by omega) (Ev.ite_pos (by omega) (Ev.ite_pos (by omega) ?_))
    rw [e]
    generalize a.getD i 0 = x at *
    have jt : (x < 0 ∨ x > 5) → Ev (fun k => ropewaylaw04_ChangeCounts.j2 k a d (ofR (ofL ff a) (ofL ff d)).2.2 (cN f) x a (a.length : Int) (i : Int) true (ofR (ofL ff a) (ofL ff d)).1 (ofR (ofL ff a) (ofL ff d)).2.1 (f 0) (f 1) (f 2) (f 3) (f 4) (f 5) false false false false false false) true := by
      intro h
      simp only [ofL] at hg
      rw [if_pos h] at hg
      rw [← hg]
      exact Ev.const fun k => by simp only [ropewaylaw04_ChangeCounts.j2]; rfl
    by_cases h0 : x < 0
    · exact Ev.ite_pos h0 (jt (Or.inl h0))
    · refine Ev.ite_neg h0 ?_
      by_cases h1 : x > 5
      · rw [decide_eq_true h1]; exact jt (Or.inr h1)
      · rw [decide_eq_false h1]
        have hg2 : ofL (up f x true) (a.drop (i + 1)) = ofL ff a := by
          simp only [ofL] at hg
          rw [if_neg (by omega)] at hg
          exact hg
        have nx := ih (i + 1) (up f x true) (by omega) (by omega) hg2
        have cu := cN_up f (n := x) (by omega) (by omega)
        refine Ev.succ ?_
        simp only [ropewaylaw04_ChangeCounts.j2]
        refine Ev.ite_neg (by simp) (Ev.ite_pos (by omega) (Ev.ite_pos (by omega) ?_))
        rw [rd6 f (by omega) (by omega), wrap_nat (by omega)]
        by_cases hb : f x.toNat = true
        · refine Ev.ite_pos hb ?_
          rw [if_pos hb, Int.zero_add] at cu
          rw [cu] at nx
          exact nx
        · refine Ev.ite_neg hb ?_
          rw [if_neg hb] at cu
          rw [show cN (up f x true) = cN f + 1 by omega] at nx
          rw [wrap_in (x := cN f + 1) (by omega) (by omega)]
          exact nx
theorem ChangeCounts : ropewaylaw04_ChangeCounts.Pure := by
  intro a d _ _
  have alive : Ev (fun k => ropewaylaw04_changeAlive.f k) true := Ev.closed ropewaylaw04_changeAlive.mono 40 (by decide +kernel)
  have jt : Ev (fun k => ropewaylaw04_ChangeCounts.j0 k a d true) true := Ev.const fun k => by simp only [ropewaylaw04_ChangeCounts.j0]; rfl
  have hall : Ev (fun k => ropewaylaw04_ChangeCounts.f k a d) true := by
    unfold ropewaylaw04_ChangeCounts.f
    refine Ev.bind alive (Ev.ite_pos rfl ?_)
    refine Ev.ite (fun _ => jt) fun h1 => ?_
    by_cases h2 : (d.length : Int) > 100
    · rw [decide_eq_true h2]; exact jt
    · rw [decide_eq_false h2]
      refine Ev.succ ?_
      simp only [ropewaylaw04_ChangeCounts.j0]
      refine Ev.ite_neg (by simp) ?_
      refine Ev.bind (change_Of_ev a d (by omega) (by omega)) ?_
      exact l0_ev a d (by omega) (by omega) a.length 0 ff (by omega) (by omega) rfl
  exact hall.rounds

end Go.Proofs.Ytbnhgckdplndfaa.Pure
