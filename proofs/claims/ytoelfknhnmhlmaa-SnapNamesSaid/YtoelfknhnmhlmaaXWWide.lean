/- Values of fifteen cells: read, and written, at one stroke. -/
import Derived.Test.YtoelfknhnmhlmaaXWShort
import Derived.Deep.MidRow
namespace Go.Proofs.YtoelfknhnmhlmaaX
open Go.RowKit Go.Proofs.YtoelfknhnmhlmaaW.PrintWords Go.Proofs.YtoelfknhnmhlmaaW.PrintLast Go.Proofs.YtoelfknhnmhlmaaW.PrintMore
set_option linter.unusedVariables false
theorem lv15_ {P : Program} {w : World} {a : Addr} {ty : TypeId} {d : TypeDesc} {v0 v1 v2 v3 v4 v5 v6 v7 v8 v9 v10 v11 v12 v13 v14 : Value} (hu : P.underlying ty = some d) (hd : d.isRow = true) (hi : (P.info? ty).map (·.size) = some 15) (h0 : w.cell? a = some v0) (h1 : w.cell? ⟨a.block, a.off + 1, none⟩ = some v1) (h2 : w.cell? ⟨a.block, a.off + 2, none⟩ = some v2) (h3 : w.cell? ⟨a.block, a.off + 3, none⟩ = some v3) (h4 : w.cell? ⟨a.block, a.off + 4, none⟩ = some v4) (h5 : w.cell? ⟨a.block, a.off + 5, none⟩ = some v5) (h6 : w.cell? ⟨a.block, a.off + 6, none⟩ = some v6) (h7 : w.cell? ⟨a.block, a.off + 7, none⟩ = some v7) (h8 : w.cell? ⟨a.block, a.off + 8, none⟩ = some v8) (h9 : w.cell? ⟨a.block, a.off + 9, none⟩ = some v9) (h10 : w.cell? ⟨a.block, a.off + 10, none⟩ = some v10) (h11 : w.cell? ⟨a.block, a.off + 11, none⟩ = some v11) (h12 : w.cell? ⟨a.block, a.off + 12, none⟩ = some v12) (h13 : w.cell? ⟨a.block, a.off + 13, none⟩ = some v13) (h14 : w.cell? ⟨a.block, a.off + 14, none⟩ = some v14) :
    (loadVar ty a).run P w = .ok (.agg #[v0, v1, v2, v3, v4, v5, v6, v7, v8, v9, v10, v11, v12, v13, v14]) w := by
  have hc : ∀ j v, [v0, v1, v2, v3, v4, v5, v6, v7, v8, v9, v10, v11, v12, v13, v14][j]? = some v → w.cell? (a.add j) = some v := by
    intro j v hv
    match j, hv with
    | 0, hv => obtain rfl := Option.some.inj hv; exact h0
    | 1, hv => obtain rfl := Option.some.inj hv; exact h1
    | 2, hv => obtain rfl := Option.some.inj hv; exact h2
    | 3, hv => obtain rfl := Option.some.inj hv; exact h3
    | 4, hv => obtain rfl := Option.some.inj hv; exact h4
    | 5, hv => obtain rfl := Option.some.inj hv; exact h5
    | 6, hv => obtain rfl := Option.some.inj hv; exact h6
    | 7, hv => obtain rfl := Option.some.inj hv; exact h7
    | 8, hv => obtain rfl := Option.some.inj hv; exact h8
    | 9, hv => obtain rfl := Option.some.inj hv; exact h9
    | 10, hv => obtain rfl := Option.some.inj hv; exact h10
    | 11, hv => obtain rfl := Option.some.inj hv; exact h11
    | 12, hv => obtain rfl := Option.some.inj hv; exact h12
    | 13, hv => obtain rfl := Option.some.inj hv; exact h13
    | 14, hv => obtain rfl := Option.some.inj hv; exact h14
    | j + 15, hv => simp at hv
  have hl := run_loadCells_list (P := P) w a [v0, v1, v2, v3, v4, v5, v6, v7, v8, v9, v10, v11, v12, v13, v14] hc
  cases hq : P.info? ty with
  | none => simp [hq] at hi
  | some i =>
    have hs : i.size = 15 := by simpa [hq] using hi
    have hagg : (isAgg ty).run P w = .ok true w := by
      unfold isAgg
      rw [Sem.run_bind, run_underlying hu w]
      cases d <;> simp_all
    have hl' : (loadCells a 15).run P w = .ok #[v0, v1, v2, v3, v4, v5, v6, v7, v8, v9, v10, v11, v12, v13, v14] w := hl
    simp [loadVar, Sem.run_bind, hagg, sizeOf, typeInfo, hq, hs, hl']
section
variable {P : Program} {ops : Array Oper} {Q : Exit → Act → World → Prop} {rest : List Oper} {o : Oper} {a : Act} {w : World}
theorem wl15_ {v0 v1 v2 v3 v4 v5 v6 v7 v8 v9 v10 v11 v12 v13 v14 : Value} {A : Addr} {d : TypeDesc} (hgd : o.guard = none) (ty : TypeId) (x : Operand) (ho : o.op = .load ty x) (hx : a.eval x = .pointer (some A)) (hu : P.underlying ty = some d) (hd : d.isRow = true) (hi : (P.info? ty).map (·.size) = some 15)
    (h : wpList P ops Q rest (a.put o.dst (.agg #[v0, v1, v2, v3, v4, v5, v6, v7, v8, v9, v10, v11, v12, v13, v14])) w) (h0 : w.cell? A = some v0 := by with_reducible assumption) (h1 : w.cell? ⟨A.block, A.off + 1, none⟩ = some v1 := by with_reducible assumption) (h2 : w.cell? ⟨A.block, A.off + 2, none⟩ = some v2 := by with_reducible assumption) (h3 : w.cell? ⟨A.block, A.off + 3, none⟩ = some v3 := by with_reducible assumption) (h4 : w.cell? ⟨A.block, A.off + 4, none⟩ = some v4 := by with_reducible assumption) (h5 : w.cell? ⟨A.block, A.off + 5, none⟩ = some v5 := by with_reducible assumption) (h6 : w.cell? ⟨A.block, A.off + 6, none⟩ = some v6 := by with_reducible assumption) (h7 : w.cell? ⟨A.block, A.off + 7, none⟩ = some v7 := by with_reducible assumption) (h8 : w.cell? ⟨A.block, A.off + 8, none⟩ = some v8 := by with_reducible assumption) (h9 : w.cell? ⟨A.block, A.off + 9, none⟩ = some v9 := by with_reducible assumption) (h10 : w.cell? ⟨A.block, A.off + 10, none⟩ = some v10 := by with_reducible assumption) (h11 : w.cell? ⟨A.block, A.off + 11, none⟩ = some v11 := by with_reducible assumption) (h12 : w.cell? ⟨A.block, A.off + 12, none⟩ = some v12 := by with_reducible assumption) (h13 : w.cell? ⟨A.block, A.off + 13, none⟩ = some v13 := by with_reducible assumption) (h14 : w.cell? ⟨A.block, A.off + 14, none⟩ = some v14 := by with_reducible assumption) : wpList P ops Q (o :: rest) a w :=
  wpList_plain hgd fun K hK => by
    unfold Oper.wp execOp
    simp only [ho, hx, Instr.loadAt, Instr.sureAddr, Sem.run_bind, Sem.run_pure, Result.andThen_ok, lv15_ hu hd hi h0 h1 h2 h3 h4 h5 h6 h7 h8 h9 h10 h11 h12 h13 h14]
    exact hK _ _ h
theorem gld_ {t ty : TypeId} {d : Option Tmp} {x : Operand} {pos : _} {af : _} {gd : _} (h : wpList P ops Q ((⟨d, .load t x, ty, pos, af, gd⟩ : Oper) :: rest) a w) : wpList P ops Q ((⟨d, .load t x, ty, pos, af, gd⟩ : Oper) :: rest) a w := h
theorem gst_ {t ty : TypeId} {d : Option Tmp} {x y : Operand} {pos : _} {af : _} {gd : _} (h : wpList P ops Q ((⟨d, .store t x y, ty, pos, af, gd⟩ : Oper) :: rest) a w) : wpList P ops Q ((⟨d, .store t x y, ty, pos, af, gd⟩ : Oper) :: rest) a w := h
theorem there15_ {g : Nat} {t : TypeId} {b0 b1 b2 b3 b4 b5 b6 b7 b8 b9 b10 b11 b12 b13 b14 : Value} (hb : w.heap[g]? = some (.cells #[b0, b1, b2, b3, b4, b5, b6, b7, b8, b9, b10, b11, b12, b13, b14] t (0, 0))) : w.there g 0 15 := by
  intro j hj
  rw [Nat.zero_add]
  refine ⟨?_, blk_frozen hb j⟩
  rw [blk_cell hb j, Array.getElem?_eq_getElem (by simpa using hj)]
  rfl
theorem ws15_ {v0 v1 v2 v3 v4 v5 v6 v7 v8 v9 v10 v11 v12 v13 v14 b0 b1 b2 b3 b4 b5 b6 b7 b8 b9 b10 b11 b12 b13 b14 : Value} {g : Nat} {t : TypeId} (hgd : o.guard = none) (ty : TypeId) (x y : Operand) (ho : o.op = .store ty x y) (hx : a.eval x = .pointer (some ⟨g, 0, none⟩)) (hy : a.eval y = .agg #[v0, v1, v2, v3, v4, v5, v6, v7, v8, v9, v10, v11, v12, v13, v14]) (hi : (P.info? ty).map (·.size) = some 15)
    (h : wpList P ops Q rest (a.put o.dst undef) (((((((((((((((w.setCell ⟨g, 0, none⟩ v0).setCell ⟨g, 1, none⟩ v1).setCell ⟨g, 2, none⟩ v2).setCell ⟨g, 3, none⟩ v3).setCell ⟨g, 4, none⟩ v4).setCell ⟨g, 5, none⟩ v5).setCell ⟨g, 6, none⟩ v6).setCell ⟨g, 7, none⟩ v7).setCell ⟨g, 8, none⟩ v8).setCell ⟨g, 9, none⟩ v9).setCell ⟨g, 10, none⟩ v10).setCell ⟨g, 11, none⟩ v11).setCell ⟨g, 12, none⟩ v12).setCell ⟨g, 13, none⟩ v13).setCell ⟨g, 14, none⟩ v14)) (hb : Aside0 (w.heap[g]? = some (.cells #[b0, b1, b2, b3, b4, b5, b6, b7, b8, b9, b10, b11, b12, b13, b14] t (0, 0))) := by with_reducible assumption) (h1 : [v0, v1, v2, v3, v4, v5, v6, v7, v8, v9, v10, v11, v12, v13, v14].all (·.oneCell') = true := by rfl) : wpList P ops Q (o :: rest) a w :=
  wpList_store_mid hgd ty x y ho g 0 #[v0, v1, v2, v3, v4, v5, v6, v7, v8, v9, v10, v11, v12, v13, v14] hx hy (there15_ hb.out) hi (all_oneCell_toArray fun v hv => List.all_eq_true.1 h1 v hv) h
theorem fxw15_ {W0 W : World} {g : Nat} {t : TypeId} {b0 b1 b2 b3 b4 b5 b6 b7 b8 b9 b10 b11 b12 b13 b14 v0 v1 v2 v3 v4 v5 v6 v7 v8 v9 v10 v11 v12 v13 v14 : Value} (_ : Aside0 (W0.heap[g]? = some (.cells #[b0, b1, b2, b3, b4, b5, b6, b7, b8, b9, b10, b11, b12, b13, b14] t (0, 0)))) (h : W.heap[g]? = some (.cells #[b0, b1, b2, b3, b4, b5, b6, b7, b8, b9, b10, b11, b12, b13, b14] t (0, 0)) := by (with_reducible repeat (first | refine blk_drewN ?_ _ | refine blk_drew ?_ | refine blk_alloc ?_ _)); exact Aside0.out (by with_reducible assumption)) : (((((((((((((((W.setCell ⟨g, 0, none⟩ v0).setCell ⟨g, 1, none⟩ v1).setCell ⟨g, 2, none⟩ v2).setCell ⟨g, 3, none⟩ v3).setCell ⟨g, 4, none⟩ v4).setCell ⟨g, 5, none⟩ v5).setCell ⟨g, 6, none⟩ v6).setCell ⟨g, 7, none⟩ v7).setCell ⟨g, 8, none⟩ v8).setCell ⟨g, 9, none⟩ v9).setCell ⟨g, 10, none⟩ v10).setCell ⟨g, 11, none⟩ v11).setCell ⟨g, 12, none⟩ v12).setCell ⟨g, 13, none⟩ v13).setCell ⟨g, 14, none⟩ v14).heap[g]? = some (.cells #[v0, v1, v2, v3, v4, v5, v6, v7, v8, v9, v10, v11, v12, v13, v14] t (0, 0)) := bq_ (blk_set (blk_set (blk_set (blk_set (blk_set (blk_set (blk_set (blk_set (blk_set (blk_set (blk_set (blk_set (blk_set (blk_set (blk_set h 0 v0) 1 v1) 2 v2) 3 v3) 4 v4) 5 v5) 6 v6) 7 v7) 8 v8) 9 v9) 10 v10) 11 v11) 12 v12) 13 v13) 14 v14) (by kernel_rfl)
theorem wlr15_ {v0 v1 v2 v3 v4 v5 v6 v7 v8 v9 v10 v11 v12 v13 v14 : Value} {g : Nat} {t : TypeId} {d : TypeDesc} (hgd : o.guard = none) (ty : TypeId) (x : Operand) (ho : o.op = .load ty x) (hx : a.eval x = .pointer (some ⟨g, 0, none⟩)) (hu : P.underlying ty = some d) (hd : d.isRow = true) (hi : (P.info? ty).map (·.size) = some 15)
    (h : wpList P ops Q rest (a.put o.dst (.agg #[v0, v1, v2, v3, v4, v5, v6, v7, v8, v9, v10, v11, v12, v13, v14])) w) (hb : w.heap[g]? = some (.cells #[v0, v1, v2, v3, v4, v5, v6, v7, v8, v9, v10, v11, v12, v13, v14] t (0, 0)) := by (repeat (with_reducible first | refine bf15_ ?_ (by with_reducible assumption) | refine blk_drewN ?_ _ | refine blk_drew ?_ | refine blk_alloc ?_ _)); first | exact Aside0.out (by with_reducible assumption) | exact fxw15_ (by with_reducible assumption)) : wpList P ops Q (o :: rest) a w :=
  wl15_ hgd ty x ho hx hu hd hi h ((blk_cell hb 0).trans rfl) ((blk_cell hb 1).trans rfl) ((blk_cell hb 2).trans rfl) ((blk_cell hb 3).trans rfl) ((blk_cell hb 4).trans rfl) ((blk_cell hb 5).trans rfl) ((blk_cell hb 6).trans rfl) ((blk_cell hb 7).trans rfl) ((blk_cell hb 8).trans rfl) ((blk_cell hb 9).trans rfl) ((blk_cell hb 10).trans rfl) ((blk_cell hb 11).trans rfl) ((blk_cell hb 12).trans rfl) ((blk_cell hb 13).trans rfl) ((blk_cell hb 14).trans rfl)
end
end Go.Proofs.YtoelfknhnmhlmaaX
