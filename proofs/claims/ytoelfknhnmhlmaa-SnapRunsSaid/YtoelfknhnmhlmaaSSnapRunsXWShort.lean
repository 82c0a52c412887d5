/- words of the walk, of which only what this law uses is kept -/
import Derived.Test.YtoelfknhnmhlmaaSSnapRunsWLast
import Derived.Test.YtoelfknhnmhlmaaSSnapRunsWMore
import Derived.KernelRfl
namespace Go.Proofs.YtoelfknhnmhlmaaX
open Go.RowKit Go.Proofs.YtoelfknhnmhlmaaW.PrintWords Go.Proofs.YtoelfknhnmhlmaaW.PrintLast Go.Proofs.YtoelfknhnmhlmaaW.PrintMore
set_option linter.unusedVariables false
section
variable {P : Program} {ops : Array Oper} {Q : Exit → Act → World → Prop}
theorem goL_ {rest : List Oper} {oi : Oper} {a : Act} {w : World} (N : Option Tmp) {f : FuncId} {fn : Func} {as : Array Operand} {ts : Array TypeId} (hf : P.funcs[f]? = some fn) (args : Array Value)
    (h : Calls P f args w fun e w' => ∃ v, e = .returned v ∧ wpList P ops Q rest (a.put N v) w')
    (hd : oi.dst = N := by rfl) (hg : oi.guard = none := by rfl) (hname : (fn.name == "runtime.NumGoroutine") = false := by kernel_rfl) (hb : fn.body.isSome = true := by rfl)
    (hop : oi.op = .call { callee := .value (.func f), args := as, argTypes := ts } := by rfl)
    (hargs : as.map a.eval = args := by (try simp only [List.map_toArray, List.map_cons, List.map_nil]); first | done | rfl | (simp only [List.length_drop, List.length_take]; rfl)) : wpList P ops Q (oi :: rest) a w :=
  goesL_ N hd hg hf hname hb args hop hargs h
end
theorem below_set4 {w W : World} {g j : Nat} {v : Value} (h : Below w.heap.size w W) (hg : Aside0 (w.heap.size ≤ g)) : Below w.heap.size w (W.setCell ⟨g, j, none⟩ v) := below_set h hg.out
theorem bf15_ {W : World} {g2 g : Nat} {j0 j1 j2 j3 j4 j5 j6 j7 j8 j9 j10 j11 j12 j13 j14 : Nat} {y0 y1 y2 y3 y4 y5 y6 y7 y8 y9 y10 y11 y12 y13 y14 : Value} {t : TypeId} {cs : Array Value} (h : W.heap[g2]? = some (.cells cs t (0, 0))) (hg : Aside0 (g2 ≠ g)) : (((((((((((((((W.setCell ⟨g, j0, none⟩ y0).setCell ⟨g, j1, none⟩ y1).setCell ⟨g, j2, none⟩ y2).setCell ⟨g, j3, none⟩ y3).setCell ⟨g, j4, none⟩ y4).setCell ⟨g, j5, none⟩ y5).setCell ⟨g, j6, none⟩ y6).setCell ⟨g, j7, none⟩ y7).setCell ⟨g, j8, none⟩ y8).setCell ⟨g, j9, none⟩ y9).setCell ⟨g, j10, none⟩ y10).setCell ⟨g, j11, none⟩ y11).setCell ⟨g, j12, none⟩ y12).setCell ⟨g, j13, none⟩ y13).setCell ⟨g, j14, none⟩ y14).heap[g2]? = some (.cells cs t (0, 0)) := (blk_far (blk_far (blk_far (blk_far (blk_far (blk_far (blk_far (blk_far (blk_far (blk_far (blk_far (blk_far (blk_far (blk_far (blk_far h (show g2 ≠ (⟨g, _, none⟩ : Addr).block from hg.out) y0) (show g2 ≠ (⟨g, _, none⟩ : Addr).block from hg.out) y1) (show g2 ≠ (⟨g, _, none⟩ : Addr).block from hg.out) y2) (show g2 ≠ (⟨g, _, none⟩ : Addr).block from hg.out) y3) (show g2 ≠ (⟨g, _, none⟩ : Addr).block from hg.out) y4) (show g2 ≠ (⟨g, _, none⟩ : Addr).block from hg.out) y5) (show g2 ≠ (⟨g, _, none⟩ : Addr).block from hg.out) y6) (show g2 ≠ (⟨g, _, none⟩ : Addr).block from hg.out) y7) (show g2 ≠ (⟨g, _, none⟩ : Addr).block from hg.out) y8) (show g2 ≠ (⟨g, _, none⟩ : Addr).block from hg.out) y9) (show g2 ≠ (⟨g, _, none⟩ : Addr).block from hg.out) y10) (show g2 ≠ (⟨g, _, none⟩ : Addr).block from hg.out) y11) (show g2 ≠ (⟨g, _, none⟩ : Addr).block from hg.out) y12) (show g2 ≠ (⟨g, _, none⟩ : Addr).block from hg.out) y13) (show g2 ≠ (⟨g, _, none⟩ : Addr).block from hg.out) y14)
theorem bl15_ {w W : World} {g : Nat} {j0 j1 j2 j3 j4 j5 j6 j7 j8 j9 j10 j11 j12 j13 j14 : Nat} {y0 y1 y2 y3 y4 y5 y6 y7 y8 y9 y10 y11 y12 y13 y14 : Value} (h : Below w.heap.size w W) (hg : Aside0 (w.heap.size ≤ g)) : Below w.heap.size w (((((((((((((((W.setCell ⟨g, j0, none⟩ y0).setCell ⟨g, j1, none⟩ y1).setCell ⟨g, j2, none⟩ y2).setCell ⟨g, j3, none⟩ y3).setCell ⟨g, j4, none⟩ y4).setCell ⟨g, j5, none⟩ y5).setCell ⟨g, j6, none⟩ y6).setCell ⟨g, j7, none⟩ y7).setCell ⟨g, j8, none⟩ y8).setCell ⟨g, j9, none⟩ y9).setCell ⟨g, j10, none⟩ y10).setCell ⟨g, j11, none⟩ y11).setCell ⟨g, j12, none⟩ y12).setCell ⟨g, j13, none⟩ y13).setCell ⟨g, j14, none⟩ y14) := (below_set (below_set (below_set (below_set (below_set (below_set (below_set (below_set (below_set (below_set (below_set (below_set (below_set (below_set (below_set h hg.out) hg.out) hg.out) hg.out) hg.out) hg.out) hg.out) hg.out) hg.out) hg.out) hg.out) hg.out) hg.out) hg.out) hg.out)
theorem bel_ {B : Nat} {a w : World} (h : Below B a w := by repeat (first | (with_reducible first | exact Aside0.out (by assumption) | refine bl15_ ?_ (by with_reducible assumption) | apply below_alloc | apply pw_below_drewN | apply below_drew1 | refine below_set4 ?_ (by assumption)) | exact Aside0.out (by assumption))) : Below B a w := h
theorem blk_ {W : World} {g : Nat} {o : Obj} (h : W.heap[g]? = some o := by (with_reducible repeat (first | refine blk_drewN ?_ _ | refine blk_drew ?_ | refine blk_alloc ?_ _)); exact Aside0.out (by assumption)) : W.heap[g]? = some o := h
theorem blf_ {W : World} {g : Nat} {o : Obj} (h : W.heap[g]? = some o := by (with_reducible repeat (first | refine blk_drewN ?_ _ | refine blk_drew ?_ | refine blk_alloc ?_ _ | refine bf15_ ?_ (by with_reducible assumption) | refine blk_far ?_ (Aside0.out (by assumption)) _)); exact Aside0.out (by assumption)) : W.heap[g]? = some o := h
theorem bb_ {W0 W w1 : World} {g : Nat} {o : Obj} (_ : Aside0 (W0.heap[g]? = some o)) (hb : Below W.heap.size W w1) (h : W.heap[g]? = some o := by (with_reducible repeat (first | refine blk_drewN ?_ _ | refine blk_drew ?_ | refine blk_alloc ?_ _)); exact Aside0.out (by assumption)) : w1.heap[g]? = some o := blk_below h hb
theorem nl_ {W0 W : World} {g g2 : Nat} {o : Obj} (_ : Aside0 (W0.heap[g]? = some o)) (hg : g2 = W.heap.size) (h : W.heap[g]? = some o := by (with_reducible repeat (first | refine blk_drewN ?_ _ | refine blk_drew ?_ | refine blk_alloc ?_ _)); exact Aside0.out (by assumption)) : g ≠ g2 := by rw [hg]; exact Nat.ne_of_lt (blk_lt h)
theorem ng_ {W0 W : World} {g g2 : Nat} {o : Obj} (_ : Aside0 (W0.heap[g]? = some o)) (hg : g2 = W.heap.size) (h : W.heap[g]? = some o := by (with_reducible repeat (first | refine blk_drewN ?_ _ | refine blk_drew ?_ | refine blk_alloc ?_ _)); exact Aside0.out (by assumption)) : g2 ≠ g := by rw [hg]; exact Nat.ne_of_gt (blk_lt h)
theorem bs_ {w W : World} {g2 : Nat} (hg : g2 = W.heap.size) (h : Below w.heap.size w W := by repeat (first | (with_reducible first | exact Aside0.out (by assumption) | apply below_alloc | apply pw_below_drewN | apply below_drew1 | refine bl15_ ?_ (by with_reducible assumption) | refine below_set4 ?_ (by assumption)) | exact Aside0.out (by assumption))) : w.heap.size ≤ g2 := by rw [hg]; exact below_size h
theorem rl_ {α : Type} {d : Kd α} {e : Nat} {W0 W : World} {base : Nat} {ok : Nat → Prop} {v : Value} {xs : List α} (_ : Aside0 (d.R e W0 base ok v xs)) (h : d.R e W base ok v xs := by (with_reducible repeat (first | apply Kd.R_alloc | apply Kd.R_drewN | apply Kd.R_drew)); exact Aside0.out (by assumption)) : d.R e W base ok v xs := h
theorem hb_ {w W : World} {a : Addr} {u : Value} (h : Aside0 (Below w.heap.size w W)) (hw : w.cell? a = some u) : W.cell? a = some u := (h.out.cell (World.block_lt_of_cell? w _ hw)).trans hw
theorem bq_ {W : World} {g : Nat} {t : TypeId} {cs cs' : Array Value} (h : W.heap[g]? = some (.cells cs t (0, 0))) (e : cs = cs') : W.heap[g]? = some (.cells cs' t (0, 0)) := e ▸ h
theorem up_ {α : Type} {f : Nat → Option α} (m : ∀ k, LeO (f k) (f (k + 1))) {a : α} {k : Nat} (h : f k = some a) : ∀ d, f (k + d) = some a
  | 0 => h
  | d + 1 => m _ _ (up_ m h d)
theorem det_ {α : Type} {f : Nat → Option α} (m : ∀ k, LeO (f k) (f (k + 1))) {a b : α} {k k' : Nat} (h : f k = some a) (h' : f k' = some b) : a = b := by
  have h1 := up_ m h k'
  have h2 := up_ m h' k
  rw [Nat.add_comm] at h2
  exact Option.some.inj (h1.symm.trans h2)
abbrev T_ : Bool := true
abbrev F_ : Bool := false
end Go.Proofs.YtoelfknhnmhlmaaX

