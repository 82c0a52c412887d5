/- The pure statement of the law ChangeSets: the set of any nodes, and of any name; which sets can be; for every input. -/
import Derived.Test.YtbnhgckdplndfaaPChangeSetsx
import Derived.Test.YtbnhgckdplndfaaXPure
import Derived.Test.YtbnhgckdplndfaaXOpen
namespace Go.Proofs.Ytbnhgckdplndfaa.Pure
open Go.RowKit Go.Proofs.Ytbnhgckdplndfaa.PChangeSets Go.Proofs.YtbnhgckdplndfaaW.PrintWords Go.Proofs.YtbnhgckdplndfaaW.PrintLast Go.Proofs.YtbnhgckdplndfaaW.PrintMore Go.Proofs.YtbnhgckdplndfaaX
set_option linter.unusedVariables false
set_option linter.unusedSimpArgs false
/-! six bools as a set's number -/
def toN (f : Nat → Bool) : Int := (if f 0 = true then 1 else 0) + (if f 1 = true then 2 else 0) + (if f 2 = true then 4 else 0) + (if f 3 = true then 8 else 0) + (if f 4 = true then 16 else 0) + (if f 5 = true then 32 else 0)
def up (f : Nat → Bool) (j : Int) (v : Bool) : Nat → Bool := fun i => stA j (i : Int) v (f i)
def six6 (a b c d e f : Bool) : Nat → Bool
  | 0 => a | 1 => b | 2 => c | 3 => d | 4 => e | _ => f
theorem toN_six (f : Nat → Bool) : toN f = toN (six6 (f 0) (f 1) (f 2) (f 3) (f 4) (f 5)) := rfl
theorem toN_range (f : Nat → Bool) : 0 ≤ toN f ∧ toN f < 64 := by
  unfold toN
  constructor <;> (repeat' split) <;> omega
theorem set_closed : ∀ a0 a1 a2 a3 a4 a5 b0 b1 b2 b3 b4 b5 : Bool, ropewayref04_set.f 8 a0 a1 a2 a3 a4 a5 b0 b1 b2 b3 b4 b5 = some (toN (six6 a0 a1 a2 a3 a4 a5), toN (six6 b0 b1 b2 b3 b4 b5)) := by decide +kernel
theorem set_ev (f g : Nat → Bool) : Ev (fun k => ropewayref04_set.f k (f 0) (f 1) (f 2) (f 3) (f 4) (f 5) (g 0) (g 1) (g 2) (g 3) (g 4) (g 5)) (toN f, toN g) :=
  Ev.closed (ropewayref04_set.mono _ _ _ _ _ _ _ _ _ _ _ _) 8 (set_closed _ _ _ _ _ _ _ _ _ _ _ _)

/-- the set of nodes, if all are nodes -/
def ofL : (Nat → Bool) → List Int → Option (Nat → Bool)
  | f, [] => some f
  | f, n :: l => if n < 0 ∨ n > 5 then none else ofL (up f n true) l
theorem or_closed : ∀ a0 a1 a2 a3 a4 a5 : Bool, ∀ n : Fin 6, Go.bits .or .i64 (toN (six6 a0 a1 a2 a3 a4 a5)) (shl .i64 1 (n.val : Int)) = toN (up (six6 a0 a1 a2 a3 a4 a5) (n.val : Int) true) := by decide +kernel
theorem or_up (f : Nat → Bool) {n : Int} (h0 : 0 ≤ n) (h1 : n < 6) : Go.bits .or .i64 (toN f) (shl .i64 1 n) = toN (up f n true) := by
  have := or_closed (f 0) (f 1) (f 2) (f 3) (f 4) (f 5) ⟨n.toNat, by omega⟩
  rw [show ((⟨n.toNat, by omega⟩ : Fin 6).val : Int) = n by simp; omega] at this
  exact this
def maskR (o : Option (Nat → Bool)) : Int × Bool := match o with | some g => (toN g, true) | none => (0, false)
theorem mask_l0 (xs : List Int) (hn : xs.length < 4611686018427387904) (d : Nat) : ∀ (i : Nat) (f : Nat → Bool), xs.length - i = d → i ≤ xs.length →
    Ev (fun k => change_mask.l0 k (toN f) xs (xs.length : Int) (i : Int)) (maskR (ofL f (xs.drop i))) := by
  induction d with
  | zero =>
    intro i f hd hi
    refine Ev.const fun k => ?_
    simp only [change_mask.l0]
    rw [if_neg (by omega), List.drop_eq_nil_of_le (by omega)]
    rfl
  | succ d ih =>
    intro i f hd hi
    have hlt : i < xs.length := by omega
    have e : rd xs (i : Int) = xs.getD i 0 := rfl
    rw [drop_cons hlt 0]
    refine Ev.succ ?_
    simp only [change_mask.l0]
    refine Ev.ite_pos (by omega) (Ev.ite_pos (by omega) (Ev.ite_pos (by omega) ?_))
    rw [e, wrap_nat (by omega)]
    generalize xs.getD i 0 = n
    simp only [ofL]
    by_cases h : n < 0 ∨ n > 5
    · rw [if_pos h]
      refine Ev.ite (fun _ => Ev.all fun k => rfl) fun h1 => ?_
      exact Ev.ite_pos (by omega) (Ev.all fun k => rfl)
    · rw [if_neg h]
      refine Ev.ite_neg (by omega) (Ev.ite_neg (by omega) (Ev.ite_pos (by omega) ?_))
      rw [or_up f (by omega) (by omega)]
      exact ih (i + 1) (up f n true) (by omega) (by omega)
def ff : Nat → Bool := fun _ => false
theorem mask_ev (xs : List Int) (hn : xs.length < 4611686018427387904) : Ev (fun k => change_mask.f k xs) (maskR (ofL ff xs)) := mask_l0 xs hn xs.length 0 ff (by omega) (by omega)
def ofR (f g : Option (Nat → Bool)) : Int × Int × Int := match f, g with | some f, some g => (toN f, toN g, 0) | _, _ => (0, 0, 41)
theorem change_Of_ev (a d : List Int) (ha : a.length < 4611686018427387904) (hd : d.length < 4611686018427387904) : Ev (fun k => change_Of.f k a d) (ofR (ofL ff a) (ofL ff d)) := by
  unfold change_Of.f
  refine Ev.bind (mask_ev a ha) ?_
  refine Ev.bind (mask_ev d hd) ?_
  refine Ev.all fun k => ?_
  cases ofL ff a <;> cases ofL ff d <;> rfl

theorem ref_Of_l1 (xs : List Int) (hn : xs.length < 4611686018427387904) (f : Nat → Bool) (d : Nat) : ∀ (i : Nat) (g : Nat → Bool), xs.length - i = d → i ≤ xs.length →
    Ev (fun k => ropewayref04_Of.l1 k xs (xs.length : Int) (i : Int) (f 0) (f 1) (f 2) (f 3) (f 4) (f 5) (g 0) (g 1) (g 2) (g 3) (g 4) (g 5)) (ofR (some f) (ofL g (xs.drop i))) := by
  induction d with
  | zero =>
    intro i g hd hi
    refine Ev.succ ?_
    simp only [ropewayref04_Of.l1]
    refine Ev.ite_neg (by omega) ?_
    rw [List.drop_eq_nil_of_le (by omega)]
    exact Ev.bind (set_ev f g) (Ev.all fun k => rfl)
  | succ d ih =>
    intro i g hd hi
    have hlt : i < xs.length := by omega
    have e : rd xs (i : Int) = xs.getD i 0 := rfl
    rw [drop_cons hlt 0]
    refine Ev.succ ?_
    simp only [ropewayref04_Of.l1]
    refine Ev.ite_pos (by omega) (Ev.ite_pos (by omega) (Ev.ite_pos (by omega) ?_))
    rw [e, wrap_nat (by omega)]
    generalize xs.getD i 0 = n
    simp only [ofL]
    by_cases h : n < 0 ∨ n > 5
    · rw [if_pos h]
      refine Ev.ite (fun _ => Ev.all fun k => rfl) fun h1 => ?_
      exact Ev.ite_pos (by omega) (Ev.all fun k => rfl)
    · rw [if_neg h]
      refine Ev.ite_neg (by omega) (Ev.ite_neg (by omega) (Ev.ite_pos (by omega) (Ev.ite_pos (by omega) ?_)))
      exact ih (i + 1) (up g n true) (by omega) (by omega)
theorem ref_Of_l0 (xs ds : List Int) (hn : xs.length < 4611686018427387904) (hm : ds.length < 4611686018427387904) (d : Nat) : ∀ (i : Nat) (f : Nat → Bool), xs.length - i = d → i ≤ xs.length →
    Ev (fun k => ropewayref04_Of.l0 k ds xs (xs.length : Int) (i : Int) (f 0) (f 1) (f 2) (f 3) (f 4) (f 5) false false false false false false) (ofR (ofL f (xs.drop i)) (ofL ff ds)) := by
  induction d with
  | zero =>
    intro i f hd hi
    refine Ev.succ ?_
    simp only [ropewayref04_Of.l0]
    refine Ev.ite_neg (by omega) ?_
    rw [List.drop_eq_nil_of_le (by omega)]
    exact ref_Of_l1 ds hm f ds.length 0 ff (by omega) (by omega)
  | succ d ih =>
    intro i f hd hi
    have hlt : i < xs.length := by omega
    have e : rd xs (i : Int) = xs.getD i 0 := rfl
    rw [drop_cons hlt 0]
    refine Ev.succ ?_
    simp only [ropewayref04_Of.l0]
    refine Ev.ite_pos (by omega) (Ev.ite_pos (by omega) (Ev.ite_pos (by omega) ?_))
    rw [e, wrap_nat (by omega)]
    generalize xs.getD i 0 = n
    simp only [ofL]
    by_cases h : n < 0 ∨ n > 5
    · rw [if_pos h]
      refine Ev.ite (fun _ => Ev.all fun k => rfl) fun h1 => ?_
      exact Ev.ite_pos (by omega) (Ev.all fun k => rfl)
    · rw [if_neg h]
      refine Ev.ite_neg (by omega) (Ev.ite_neg (by omega) (Ev.ite_pos (by omega) (Ev.ite_pos (by omega) ?_)))
      exact ih (i + 1) (up f n true) (by omega) (by omega)
theorem ref_Of_ev (a d : List Int) (ha : a.length < 4611686018427387904) (hd : d.length < 4611686018427387904) : Ev (fun k => ropewayref04_Of.f k a d) (ofR (ofL ff a) (ofL ff d)) := ref_Of_l0 a d ha hd a.length 0 ff (by omega) (by omega)
def namedR (i : Nat) (name : Int) : Int × Int × Int := if 64 * (i : Int) ≤ name ∧ name < 4096 then (name / 64, name % 64, 0) else (0, 0, 41)
theorem ref_Named_l0 (name : Int) (h0 : -9223372036854775808 ≤ name) (h1 : name ≤ 9223372036854775807) (d : Nat) : ∀ i : Nat, 64 - i = d → i ≤ 64 →
    Ev (fun k => ropewayref04_Named.l0 k name (i : Int)) (namedR i name) := by
  induction d with
  | zero =>
    intro i hd hi
    obtain rfl : i = 64 := by omega
    refine Ev.const fun k => ?_
    simp only [ropewayref04_Named.l0]
    rw [if_neg (by decide)]
    unfold namedR
    rw [if_neg (by omega)]
  | succ d ih =>
    intro i hd hi
    have hw : wrap64 (64 * (i : Int)) = 64 * (i : Int) := wrap_in (by omega) (by omega)
    have hw2 : wrap64 (64 * (i : Int) + 63) = 64 * (i : Int) + 63 := wrap_in (by omega) (by omega)
    have nx := ih (i + 1) (by omega) (by omega)
    refine Ev.succ ?_
    simp only [ropewayref04_Named.l0]
    rw [hw, hw2, wrap_nat (by omega)]
    refine Ev.ite_pos (by omega) ?_
    by_cases h : 64 * (i : Int) ≤ name ∧ name ≤ 64 * (i : Int) + 63
    · refine Ev.ite_pos h.1 (Ev.ite_pos h.2 (Ev.all fun k => ?_))
      rw [wrap_in (by omega) (by omega)]
      unfold namedR
      rw [if_pos (by omega), show name / 64 = (i : Int) by omega, show name % 64 = name - 64 * (i : Int) by omega]
    · have e : namedR (i + 1) name = namedR i name := by
        unfold namedR
        by_cases k : 64 * (i : Int) ≤ name ∧ name < 4096
        · rw [if_pos k, if_pos (by omega)]
        · rw [if_neg k, if_neg (by omega)]
      rw [e] at nx
      exact Ev.ite (fun a => Ev.ite_neg (by omega) nx) (fun _ => nx)
theorem named_eq (name : Int) : change_Named.f name = some (namedR 0 name) := by
  unfold change_Named.f namedR
  by_cases h0 : name < 0
  · rw [if_pos h0, if_neg (by omega)]
  · rw [if_neg h0]
    by_cases h1 : name ≥ 4096
    · rw [if_pos h1, if_neg (by omega)]
    · rw [if_neg h1, if_pos (by omega), Int.tdiv_eq_ediv_of_nonneg (by omega), Int.tmod_eq_emod_of_nonneg (by omega), wrap_in (by omega) (by omega)]
theorem ChangeSets : ropewaylaw04_ChangeSets.Pure := by
  intro a d name ⟨_, la, _⟩ ⟨_, ld, _⟩ hn
  obtain ⟨n0, n1⟩ := wf_i64 hn
  have alive : Ev (fun k => ropewaylaw04_changeAlive.f k) true := Ev.closed ropewaylaw04_changeAlive.mono 40 (by decide +kernel)
  have hall : Ev (fun k => ropewaylaw04_ChangeSets.f k a d name) true := by
    unfold ropewaylaw04_ChangeSets.f
    refine Ev.bind_all rfl ?_
    refine Ev.ite_pos (by simp only [List.length_nil, Nat.zero_add]; omega) ?_
    refine Ev.bind_all rfl ?_
    refine Ev.ite_pos (by simp only [List.length_nil, Nat.zero_add]; omega) ?_
    refine Ev.bind (a := ofR (ofL ff a) (ofL ff d)) (change_Of_ev a d (by omega) (by omega)) ?_
    refine Ev.bind (ref_Of_ev a d (by omega) (by omega)) ?_
    refine Ev.bind_all (named_eq name) ?_
    refine Ev.bind (ref_Named_l0 name n0 n1 64 0 (by omega) (by omega)) ?_
    refine Ev.bind alive (Ev.ite_pos rfl ?_)
    refine Ev.ite_pos (by simp) (Ev.ite_pos rfl (Ev.ite_pos (by simp) (Ev.all fun k => ?_)))
    simp
  exact hall.rounds

end Go.Proofs.Ytbnhgckdplndfaa.Pure
