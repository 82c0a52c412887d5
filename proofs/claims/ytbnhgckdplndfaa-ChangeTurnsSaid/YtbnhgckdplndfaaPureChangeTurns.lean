/- The pure statement of the law ChangeTurns: sets may be joined in any order and grouping; each is within them all together, the least such set; what one hasn't, and what it has, are all; for every input. -/
import Derived.Test.YtbnhgckdplndfaaPChangeTurnsx
import Derived.Test.YtbnhgckdplndfaaXPure
import Derived.Test.YtbnhgckdplndfaaXOpen
namespace Go.Proofs.Ytbnhgckdplndfaa.Pure
open Go.RowKit Go.Proofs.Ytbnhgckdplndfaa.PChangeTurns Go.Proofs.YtbnhgckdplndfaaW.PrintWords Go.Proofs.YtbnhgckdplndfaaW.PrintLast Go.Proofs.YtbnhgckdplndfaaW.PrintMore Go.Proofs.YtbnhgckdplndfaaX
set_option linter.unusedVariables false
set_option linter.unusedSimpArgs false
/-! sets of nodes: two numbers below 64 -/
def pc (a : Int) : Int := (bits_OnesCount.f (IntKind.u64.wrap a)).getD 0
theorem set1 (p : Int → Prop) [DecidablePred p] (h : ∀ a : Fin 64, p (a.val : Int)) {x : Int} (h0 : 0 ≤ x) (h1 : x < 64) : p x := by
  have := h ⟨x.toNat, by omega⟩
  simpa [Int.toNat_of_nonneg h0] using this
theorem set2 (p : Int → Int → Prop) (h : ∀ a b : Fin 64, p (a.val : Int) (b.val : Int)) {x y : Int} (h0 : 0 ≤ x) (h1 : x < 64) (h2 : 0 ≤ y) (h3 : y < 64) : p x y := by
  have := h ⟨x.toNat, by omega⟩ ⟨y.toNat, by omega⟩
  simpa [Int.toNat_of_nonneg h0, Int.toNat_of_nonneg h2] using this
theorem pc_some {x : Int} (h0 : 0 ≤ x) (h1 : x < 64) : bits_OnesCount.f (IntKind.u64.wrap x) = some (pc x) ∧ 0 ≤ pc x ∧ pc x ≤ 6 :=
  set1 (fun x => bits_OnesCount.f (IntKind.u64.wrap x) = some (pc x) ∧ 0 ≤ pc x ∧ pc x ≤ 6) (by decide +kernel) h0 h1
theorem size_eq {a d : Int} (a0 : 0 ≤ a) (a1 : a < 64) (d0 : 0 ≤ d) (d1 : d < 64) : change_Size.f a d = some (pc a + pc d) := by
  obtain ⟨ea, la, ua⟩ := pc_some a0 a1
  obtain ⟨ed, ld, ud⟩ := pc_some d0 d1
  unfold change_Size.f
  rw [ea, ed]
  simp only [Option.bind_some]
  rw [wrap_in (by omega) (by omega)]
theorem right_eq (a d : Int) : change_Right.f a d = some (decide (0 ≤ a ∧ a < 64 ∧ 0 ≤ d ∧ d < 64)) := by
  unfold change_Right.f
  (repeat' split) <;> simp_all <;> omega
theorem name_eq {a d : Int} (a0 : 0 ≤ a) (a1 : a < 64) (d0 : 0 ≤ d) (d1 : d < 64) : change_Name.f a d = some (a * 64 + d) := by
  unfold change_Name.f
  rw [wrap_in (x := a * 64) (by omega) (by omega), wrap_in (by omega) (by omega)]

/-! change.Join, Minus: or, and-not of two numbers below 64 -/
def oB (x y : Int) : Int := Go.bits .or .i64 x y
def aB (x y : Int) : Int := Go.bits .andNot .i64 x y
def In64 (x : Int) : Prop := 0 ≤ x ∧ x < 64
theorem pairs {x y : Int} (hx : In64 x) (hy : In64 y) : (0 ≤ oB x y ∧ oB x y < 64) ∧ (0 ≤ aB x y ∧ aB x y < 64) ∧ oB x y = ((x.toNat ||| y.toNat : Nat) : Int) ∧ (aB x y = 0 ↔ oB x y = y) ∧ oB (aB x y) y = oB x y ∧ aB (aB x y) y = aB x y ∧ pc (oB x y) = pc y + pc (aB x y) :=
  set2 (fun x y => (0 ≤ oB x y ∧ oB x y < 64) ∧ (0 ≤ aB x y ∧ aB x y < 64) ∧ oB x y = ((x.toNat ||| y.toNat : Nat) : Int) ∧ (aB x y = 0 ↔ oB x y = y) ∧ oB (aB x y) y = oB x y ∧ aB (aB x y) y = aB x y ∧ pc (oB x y) = pc y + pc (aB x y)) (by decide +kernel) hx.1 hx.2 hy.1 hy.2
theorem oB_in {x y : Int} (hx : In64 x) (hy : In64 y) : In64 (oB x y) := (pairs hx hy).1
theorem aB_in {x y : Int} (hx : In64 x) (hy : In64 y) : In64 (aB x y) := (pairs hx hy).2.1
theorem oB_nat {x y : Int} (hx : In64 x) (hy : In64 y) : oB x y = ((x.toNat ||| y.toNat : Nat) : Int) := (pairs hx hy).2.2.1
theorem in0 : In64 0 := ⟨by decide, by decide⟩
theorem oB_zero {x : Int} (hx : In64 x) : oB 0 x = x := by
  rw [oB_nat in0 hx]; have := hx.1; simp; omega
theorem oB_comm {x y : Int} (hx : In64 x) (hy : In64 y) : oB x y = oB y x := by
  rw [oB_nat hx hy, oB_nat hy hx, Nat.or_comm]
theorem oB_self {x : Int} (hx : In64 x) : oB x x = x := by
  rw [oB_nat hx hx, Nat.or_self]; have := hx.1; simp; omega
theorem oB_assoc {x y z : Int} (hx : In64 x) (hy : In64 y) (hz : In64 z) : oB (oB x y) z = oB x (oB y z) := by
  rw [oB_nat (oB_in hx hy) hz, oB_nat hx (oB_in hy hz), oB_nat hx hy, oB_nat hy hz, Int.toNat_natCast, Int.toNat_natCast, Nat.or_assoc]
def joinL (m : Int × Int) (l : List S38) : Int × Int := l.foldl (fun m v => (oB m.1 v.f0, oB m.2 v.f1)) m
theorem change_Join_l0 (xs : List S38) (hn : xs.length < 4611686018427387904) (d : Nat) : ∀ (i : Nat) (m : Int × Int), xs.length - i = d → i ≤ xs.length →
    Ev (fun k => change_Join.l0 k xs (xs.length : Int) (i : Int) m.1 m.2) (joinL m (xs.drop i)) := by
  induction d with
  | zero =>
    intro i m hd hi
    refine Ev.const fun k => ?_
    simp only [change_Join.l0]
    rw [if_neg (by omega), List.drop_eq_nil_of_le (by omega)]
    rfl
  | succ d ih =>
    intro i m hd hi
    have hlt : i < xs.length := by omega
    rw [drop_cons hlt z38]
    refine Ev.step' (ih (i + 1) (oB m.1 (rd_T38 xs i).f0, oB m.2 (rd_T38 xs i).f1) (by omega) (by omega)) fun k => ?_
    simp only [change_Join.l0]
    rw [if_pos (by omega), if_pos (by omega), if_pos (by omega), wrap_nat (by omega)]
    rfl
theorem change_Join_ev (xs : List S38) (hn : xs.length < 4611686018427387904) : Ev (fun k => change_Join.f k xs) (joinL (0, 0) xs) := change_Join_l0 xs hn xs.length 0 (0, 0) (by omega) (by omega)

theorem join2 {x y u v : Int} (hx : In64 x) (hy : In64 y) : joinL (0, 0) [(⟨x, y⟩ : S38), ⟨u, v⟩] = (oB x u, oB y v) := by
  show (oB (oB 0 x) u, oB (oB 0 y) v) = _
  rw [oB_zero hx, oB_zero hy]
theorem join3 {x y u v p q : Int} (hx : In64 x) (hy : In64 y) : joinL (0, 0) [(⟨x, y⟩ : S38), ⟨u, v⟩, ⟨p, q⟩] = (oB (oB x u) p, oB (oB y v) q) := by
  show (oB (oB (oB 0 x) u) p, oB (oB (oB 0 y) v) q) = _
  rw [oB_zero hx, oB_zero hy]
def wB (a d b e : Int) : Bool := aB a b == 0 && (aB d e == 0)
theorem within_eq (a d b e : Int) : change_Within.f a d b e = some (wB a d b e) := rfl
theorem aB_zero {x y : Int} (hx : In64 x) (hy : In64 y) : aB x y = 0 ↔ oB x y = y := (pairs hx hy).2.2.2.1
theorem up {x y z : Int} (hx : In64 x) (hy : In64 y) (hz : In64 z) : aB x (oB (oB x y) z) = 0 := by
  rw [aB_zero hx (oB_in (oB_in hx hy) hz), oB_assoc hx hy hz, ← oB_assoc hx hx (oB_in hy hz), oB_self hx]
theorem both {x y z : Int} (hx : In64 x) (hy : In64 y) (hz : In64 z) (h : aB x z = 0) : aB y z = 0 ↔ aB (oB x y) z = 0 := by
  rw [aB_zero hx hz] at h
  rw [aB_zero hy hz, aB_zero (oB_in hx hy) hz, oB_assoc hx hy hz]
  constructor
  · intro k; rw [k, h]
  · intro k
    have e : oB y (oB x (oB y z)) = oB x (oB y z) := by
      rw [← oB_assoc hy hx (oB_in hy hz), oB_comm hy hx, oB_assoc hx hy (oB_in hy hz), ← oB_assoc hy hy hz, oB_self hy]
    rw [k] at e
    exact e
theorem ChangeTurns : ropewaylaw04_ChangeTurns.Pure := by
  intro a d b e c g _ _ _ _ _ _
  have ha : Ev (fun k => ropewaylaw04_changeAlive.f k) true := Ev.closed ropewaylaw04_changeAlive.mono 40 (by decide +kernel)
  have jt : Ev (fun k => ropewaylaw04_ChangeTurns.j0 k true a d b e c g) true := Ev.const fun k => by simp only [ropewaylaw04_ChangeTurns.j0]; rfl
  have hall : Ev (fun k => ropewaylaw04_ChangeTurns.f k a d b e c g) true := by
    unfold ropewaylaw04_ChangeTurns.f
    refine Ev.bind ha ?_
    refine Ev.ite_pos rfl ?_
    refine Ev.bind_all (right_eq a d) ?_
    by_cases h1 : 0 ≤ a ∧ a < 64 ∧ 0 ≤ d ∧ d < 64
    · refine Ev.ite_pos (decide_eq_true h1) ?_
      refine Ev.bind_all (right_eq b e) ?_
      by_cases h2 : 0 ≤ b ∧ b < 64 ∧ 0 ≤ e ∧ e < 64
      · refine Ev.ite_pos (decide_eq_true h2) ?_
        refine Ev.bind_all (right_eq c g) ?_
        by_cases h3 : 0 ≤ c ∧ c < 64 ∧ 0 ≤ g ∧ g < 64
        · rw [decide_eq_true h3]
          have hA : In64 a := ⟨h1.1, h1.2.1⟩
          have hD : In64 d := ⟨h1.2.2.1, h1.2.2.2⟩
          have hB : In64 b := ⟨h2.1, h2.2.1⟩
          have hE : In64 e := ⟨h2.2.2.1, h2.2.2.2⟩
          have hC : In64 c := ⟨h3.1, h3.2.1⟩
          have hG : In64 g := ⟨h3.2.2.1, h3.2.2.2⟩
          have J := fun (x y u v : Int) (hx : In64 x) (hy : In64 y) => (join2 (u := u) (v := v) hx hy) ▸ change_Join_ev [(⟨x, y⟩ : S38), ⟨u, v⟩] (by simp)
          have s2 : Ev (fun k => ropewaylaw04_ChangeTurns.j2 k false a d b e) true := by
            refine Ev.succ ?_
            simp only [ropewaylaw04_ChangeTurns.j2]
            refine Ev.ite_neg (by simp) ?_
            refine Ev.bind_all (show change_Minus.f a d b e = some (aB a b, aB d e) from rfl) ?_
            refine Ev.bind_all (show change_Minus.f a d b e = some (aB a b, aB d e) from rfl) ?_
            have ra := aB_in hA hB
            have rd := aB_in hD hE
            obtain ⟨_, _, _, _, p5, p6, p7⟩ := pairs hA hB
            obtain ⟨_, _, _, _, q5, q6, q7⟩ := pairs hD hE
            refine Ev.bind (J _ _ b e ra rd) ?_
            refine Ev.bind (J _ _ b e hA hD) ?_
            refine Ev.ite_pos (by rw [p5, q5]; simp) ?_
            refine Ev.bind_all (show change_Minus.f (aB a b) (aB d e) b e = some (aB (aB a b) b, aB (aB d e) e) from rfl) ?_
            refine Ev.ite_pos (by rw [p6, q6]; simp) ?_
            refine Ev.bind (J _ _ b e hA hD) ?_
            have hw := True.intro
            have o1 := oB_in hA hB
            have o2 := oB_in hD hE
            refine Ev.bind_all (size_eq o1.1 o1.2 o2.1 o2.2) ?_
            refine Ev.bind_all (size_eq hB.1 hB.2 hE.1 hE.2) ?_
            refine Ev.bind_all (size_eq ra.1 ra.2 rd.1 rd.2) ?_
            refine Ev.all fun k => ?_
            have b1 := (pc_some hB.1 hB.2).2
            have b2 := (pc_some hE.1 hE.2).2
            have b3 := (pc_some ra.1 ra.2).2
            have b4 := (pc_some rd.1 rd.2).2
            dsimp only at *
            rw [p7, q7]
            clear p5 p6 p7 q5 q6 q7 hw o1 o2 ra rd J hA hB hC hD hE hG h1 h2 h3 ha jt
            generalize pc b = B at *
            generalize pc e = E at *
            generalize pc (aB a b) = C at *
            generalize pc (aB d e) = D at *
            rw [wrap_in (by omega) (by omega)]
            simp
            omega
          have s1 : Ev (fun k => ropewaylaw04_ChangeTurns.j1 k false a d b e c g) true := by
            refine Ev.succ ?_
            simp only [ropewaylaw04_ChangeTurns.j1]
            refine Ev.ite_neg (by simp) ?_
            refine Ev.bind_all (within_eq a d c g) ?_
            refine Ev.ite (fun hw => ?_) (fun _ => s2)
            refine Ev.bind_all (within_eq b e c g) ?_
            refine Ev.bind (J _ _ b e hA hD) ?_
            refine Ev.bind_all (within_eq _ _ c g) ?_
            have hw2 : aB a c = 0 ∧ aB d g = 0 := by unfold wB at hw; simpa using hw
            have e1 := both hA hB hC hw2.1
            have e2 := both hD hE hG hw2.2
            have ee : (wB b e c g != wB (oB a b) (oB d e) c g) = false := by
              have : wB b e c g = wB (oB a b) (oB d e) c g := by unfold wB; rw [Bool.eq_iff_iff]; simp [e1, e2]
              rw [this]; simp
            rw [ee]
            exact s2
          refine Ev.succ ?_
          simp only [ropewaylaw04_ChangeTurns.j0]
          refine Ev.ite_neg (by simp) ?_
          refine Ev.bind ((join3 (u := b) (v := e) (p := c) (q := g) hA hD) ▸ change_Join_ev [(⟨a, d⟩ : S38), ⟨b, e⟩, ⟨c, g⟩] (by simp)) ?_
          refine Ev.bind (J _ _ a d hB hE) ?_
          refine Ev.bind (J _ _ _ _ hC hG) ?_
          have r1 : oB c (oB b a) = oB (oB a b) c := by rw [oB_comm hB hA, oB_comm hC (oB_in hA hB)]
          have r2 : oB g (oB e d) = oB (oB d e) g := by rw [oB_comm hE hD, oB_comm hG (oB_in hD hE)]
          refine Ev.ite_neg (by simp [r1, r2]) ?_
          refine Ev.bind (J _ _ a d hA hD) ?_
          refine Ev.ite_neg (by simp [oB_self hA, oB_self hD]) ?_
          refine Ev.bind_all (within_eq _ _ _ _) ?_
          refine Ev.ite_pos (by unfold wB; simp [up hA hB hC, up hD hE hG]) ?_
          refine Ev.bind_all (right_eq _ _) ?_
          have l1 := oB_in (oB_in hA hB) hC
          have l2 := oB_in (oB_in hD hE) hG
          rw [decide_eq_true ⟨l1.1, l1.2, l2.1, l2.2⟩]
          exact s1
        · rw [decide_eq_false h3]; exact jt
      · exact Ev.ite_neg (by simpa using h2) jt
    · exact Ev.ite_neg (by simpa using h1) jt
  exact hall.rounds

end Go.Proofs.Ytbnhgckdplndfaa.Pure
