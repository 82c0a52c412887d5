/- The pure statement of the law ChangeBack: a set is that of its name, unlike sets have unlike names, sets within one another are the same; for every input. -/
import Derived.Test.YtbnhgckdplndfaaPChangeBackx
import Derived.Test.YtbnhgckdplndfaaXPure
import Derived.Test.YtbnhgckdplndfaaXOpen
namespace Go.Proofs.Ytbnhgckdplndfaa.Pure
open Go.RowKit Go.Proofs.Ytbnhgckdplndfaa.PChangeBack Go.Proofs.YtbnhgckdplndfaaW.PrintWords Go.Proofs.YtbnhgckdplndfaaW.PrintLast Go.Proofs.YtbnhgckdplndfaaW.PrintMore Go.Proofs.YtbnhgckdplndfaaX
set_option linter.unusedVariables false
set_option linter.unusedSimpArgs false
/-! sets of nodes: two numbers below 64 -/
def pc (a : Int) : Int := (bits_OnesCount.f (IntKind.u64.wrap a)).getD 0
theorem set1 (p : Int → Prop) [DecidablePred p] (h : ∀ a : Fin 64, p (a.val : Int)) {x : Int} (h0 : 0 ≤ x) (h1 : x < 64) : p x := by
  have := h ⟨x.toNat, by omega⟩
  simpa [Int.toNat_of_nonneg h0] using this
theorem set2 (p : Int → Int → Prop) (h : ∀ a b : Fin 64, p (a.val : Int) (b.val : Int)) {x y : Int} (h0 : 0 ≤ x) (h1 : x < 64) (h2 : 0 ≤ y) (h3 : y < 64) : p x y := by
  have := h ⟨x.toNat, by omega⟩ ⟨y.toNat, by omega⟩
  simpa [Int.toNat_of_nonneg h0, Int.toNat_of_nonneg h2] using this
theorem pc_some {x : Int} (h0 : 0 ≤ x) (h1 : x < 64) : bits_OnesCount.f (IntKind.u64.wrap x) = some (pc x) ∧ 0 ≤ pc x ∧ pc x ≤ 6 :=
  set1 (fun x => bits_OnesCount.f (IntKind.u64.wrap x) = some (pc x) ∧ 0 ≤ pc x ∧ pc x ≤ 6) (by decide +kernel) h0 h1
theorem size_eq {a d : Int} (a0 : 0 ≤ a) (a1 : a < 64) (d0 : 0 ≤ d) (d1 : d < 64) : change_Size.f a d = some (pc a + pc d) := by
  obtain ⟨ea, la, ua⟩ := pc_some a0 a1
  obtain ⟨ed, ld, ud⟩ := pc_some d0 d1
  unfold change_Size.f
  rw [ea, ed]
  simp only [Option.bind_some]
  rw [wrap_in (by omega) (by omega)]
theorem right_eq (a d : Int) : change_Right.f a d = some (decide (0 ≤ a ∧ a < 64 ∧ 0 ≤ d ∧ d < 64)) := by
  unfold change_Right.f
  (repeat' split) <;> simp_all <;> omega
theorem name_eq {a d : Int} (a0 : 0 ≤ a) (a1 : a < 64) (d0 : 0 ≤ d) (d1 : d < 64) : change_Name.f a d = some (a * 64 + d) := by
  unfold change_Name.f
  rw [wrap_in (x := a * 64) (by omega) (by omega), wrap_in (by omega) (by omega)]

theorem andNot_same {x y : Int} (h0 : 0 ≤ x) (h1 : x < 64) (h2 : 0 ≤ y) (h3 : y < 64) : (Go.bits .andNot .i64 x y = 0 → Go.bits .andNot .i64 y x = 0 → x = y) ∧ (x = y → Go.bits .andNot .i64 x y = 0) ∧ (Go.bits .andNot .i64 x y = 0 → pc x ≤ pc y) :=
  set2 (fun x y => (Go.bits .andNot .i64 x y = 0 → Go.bits .andNot .i64 y x = 0 → x = y) ∧ (x = y → Go.bits .andNot .i64 x y = 0) ∧ (Go.bits .andNot .i64 x y = 0 → pc x ≤ pc y)) (by decide +kernel) h0 h1 h2 h3
def within (a d b e : Int) : Bool := Go.bits .andNot .i64 a b == 0 && (Go.bits .andNot .i64 d e == 0)
theorem within_eq (a d b e : Int) : change_Within.f a d b e = some (within a d b e) := rfl
theorem named_eq {a d : Int} (a0 : 0 ≤ a) (a1 : a < 64) (d0 : 0 ≤ d) (d1 : d < 64) : change_Named.f (a * 64 + d) = some (a, d, 0) := by
  unfold change_Named.f
  rw [if_neg (by omega), if_neg (by omega), Int.tdiv_eq_ediv_of_nonneg (by omega), Int.tmod_eq_emod_of_nonneg (by omega), wrap_in (by omega) (by omega)]
  have e1 : (a * 64 + d) / 64 = a := by omega
  have e2 : (a * 64 + d) % 64 = d := by omega
  rw [e1, e2]
theorem ChangeBack : ropewaylaw04_ChangeBack.Pure := by
  intro a d b e _ _ _ _
  have ha : Ev (fun k => ropewaylaw04_changeAlive.f k) true := Ev.closed ropewaylaw04_changeAlive.mono 40 (by decide +kernel)
  have jt : Ev (fun k => ropewaylaw04_ChangeBack.j0 k true a d b e) true := Ev.const fun k => by simp only [ropewaylaw04_ChangeBack.j0]; rfl
  have hall : Ev (fun k => ropewaylaw04_ChangeBack.f k a d b e) true := by
    unfold ropewaylaw04_ChangeBack.f
    refine Ev.bind ha ?_
    refine Ev.ite_pos rfl ?_
    refine Ev.bind_all (right_eq a d) ?_
    refine Ev.ite (fun h1 => ?_) (fun _ => jt)
    refine Ev.bind_all (right_eq b e) ?_
    by_cases h2 : 0 ≤ b ∧ b < 64 ∧ 0 ≤ e ∧ e < 64
    · rw [decide_eq_true h2]
      obtain ⟨b0, b1, e0, e1⟩ := h2
      obtain ⟨a0, a1, d0, d1⟩ := of_decide_eq_true h1
      have last : Ev (fun k => ropewaylaw04_ChangeBack.j1 k false a d b e) true := by
        refine Ev.const fun k => ?_
        simp only [ropewaylaw04_ChangeBack.j1]
        rw [if_neg (by decide), within_eq, within_eq, size_eq a0 a1 d0 d1, size_eq b0 b1 e0 e1]
        simp only [Option.bind_some]
        obtain ⟨p1, p2, p3⟩ := andNot_same a0 a1 b0 b1
        obtain ⟨q1, q2, q3⟩ := andNot_same d0 d1 e0 e1
        obtain ⟨r1, r2, r3⟩ := andNot_same b0 b1 a0 a1
        obtain ⟨s1, s2, s3⟩ := andNot_same e0 e1 d0 d1
        unfold within
        have fb : ∀ {x y : Int}, ¬ x = y → (x == y) = false := fun h => beq_eq_false_iff_ne.mpr h
        have tb : ∀ {x y : Int}, x = y → (x == y) = true := fun h => beq_iff_eq.mpr h
        by_cases u : Go.bits .andNot .i64 a b = 0 <;> by_cases v : Go.bits .andNot .i64 d e = 0
        · have w1 := p3 u
          have w2 := q3 v
          have w3 : decide (pc a + pc d ≤ pc b + pc e) = true := decide_eq_true (by omega)
          rw [w3, tb u, tb v]
          by_cases u2 : Go.bits .andNot .i64 b a = 0 <;> by_cases v2 : Go.bits .andNot .i64 e d = 0
          · rw [tb (p1 u u2), tb (q1 v v2), tb u2, tb v2]; rfl
          · rw [fb (show ¬ d = e from fun h => v2 (s2 h.symm)), tb u2, fb v2]; simp
          · rw [fb (show ¬ a = b from fun h => u2 (r2 h.symm)), tb v2, fb u2]; simp
          · rw [fb (show ¬ a = b from fun h => u2 (r2 h.symm)), fb v2, fb u2]; simp
        · rw [fb (show ¬ d = e from fun h => v (q2 h)), fb v]; simp
        · rw [fb (show ¬ a = b from fun h => u (p2 h)), fb u]; simp
        · rw [fb (show ¬ a = b from fun h => u (p2 h)), fb u]; simp
      refine Ev.step' last fun k => ?_
      simp only [ropewaylaw04_ChangeBack.j0]
      rw [if_neg (by decide), name_eq a0 a1 d0 d1, name_eq b0 b1 e0 e1]
      simp only [Option.bind_some]
      rw [named_eq a0 a1 d0 d1]
      simp only [Option.bind_some]
      rw [if_pos trivial, if_neg (by simp)]
      have fin : ((a * 64 + d == b * 64 + e) != (a == b && (d == e))) = false := by
        have fb : ∀ {x y : Int}, ¬ x = y → (x == y) = false := fun h => beq_eq_false_iff_ne.mpr h
        by_cases u : a = b <;> by_cases v : d = e
        · subst a; subst d; simp
        · rw [fb v, fb (show ¬ a * 64 + d = b * 64 + e by omega)]; simp
        · rw [fb u, fb (show ¬ a * 64 + d = b * 64 + e by omega)]; simp
        · rw [fb u, fb (show ¬ a * 64 + d = b * 64 + e by omega)]; simp
      rw [fin]
    · rw [decide_eq_false h2]
      exact jt
  exact hall.rounds

end Go.Proofs.Ytbnhgckdplndfaa.Pure
