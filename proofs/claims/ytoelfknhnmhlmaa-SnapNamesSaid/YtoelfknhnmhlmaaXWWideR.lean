/- Values of fifteen cells in a region: read, and written, at one stroke. -/
import Derived.Test.YtoelfknhnmhlmaaXWWide
namespace Go.Proofs.YtoelfknhnmhlmaaX
open Go.RowKit Go.Proofs.YtoelfknhnmhlmaaW.PrintWords Go.Proofs.YtoelfknhnmhlmaaW.PrintLast Go.Proofs.YtoelfknhnmhlmaaW.PrintMore
set_option linter.unusedVariables false
section
variable {P : Program} {o : Oper} {w : World} {ev : Operand → Value}
theorem xl15_ {v0 v1 v2 v3 v4 v5 v6 v7 v8 v9 v10 v11 v12 v13 v14 : Value} {A : Addr} {d : TypeDesc} {ty : TypeId} {x : Operand} (ho : o.op = .load ty x) (hx : ev x = .pointer (some A)) (hu : P.underlying ty = some d) (hd : d.isRow = true) (hi : (P.info? ty).map (·.size) = some 15) (h0 : w.cell? A = some v0 := by assumption) (h1 : w.cell? ⟨A.block, A.off + 1, none⟩ = some v1 := by assumption) (h2 : w.cell? ⟨A.block, A.off + 2, none⟩ = some v2 := by assumption) (h3 : w.cell? ⟨A.block, A.off + 3, none⟩ = some v3 := by assumption) (h4 : w.cell? ⟨A.block, A.off + 4, none⟩ = some v4 := by assumption) (h5 : w.cell? ⟨A.block, A.off + 5, none⟩ = some v5 := by assumption) (h6 : w.cell? ⟨A.block, A.off + 6, none⟩ = some v6 := by assumption) (h7 : w.cell? ⟨A.block, A.off + 7, none⟩ = some v7 := by assumption) (h8 : w.cell? ⟨A.block, A.off + 8, none⟩ = some v8 := by assumption) (h9 : w.cell? ⟨A.block, A.off + 9, none⟩ = some v9 := by assumption) (h10 : w.cell? ⟨A.block, A.off + 10, none⟩ = some v10 := by assumption) (h11 : w.cell? ⟨A.block, A.off + 11, none⟩ = some v11 := by assumption) (h12 : w.cell? ⟨A.block, A.off + 12, none⟩ = some v12 := by assumption) (h13 : w.cell? ⟨A.block, A.off + 13, none⟩ = some v13 := by assumption) (h14 : w.cell? ⟨A.block, A.off + 14, none⟩ = some v14 := by assumption) :
    (execOp ev o).run P w = .ok (.value (.agg #[v0, v1, v2, v3, v4, v5, v6, v7, v8, v9, v10, v11, v12, v13, v14])) w := by
  unfold execOp
  simp only [ho, hx, Instr.loadAt, Instr.sureAddr, Sem.run_bind, Sem.run_pure, Result.andThen_ok, lv15_ hu hd hi h0 h1 h2 h3 h4 h5 h6 h7 h8 h9 h10 h11 h12 h13 h14]
theorem xs15_ {b0 b1 b2 b3 b4 b5 b6 b7 b8 b9 b10 b11 b12 b13 b14 v0 v1 v2 v3 v4 v5 v6 v7 v8 v9 v10 v11 v12 v13 v14 : Value} {g : Nat} {t ty : TypeId} {x y : Operand} (ho : o.op = .store ty x y) (hx : ev x = .pointer (some ⟨g, 0, none⟩)) (hy : ev y = .agg #[v0, v1, v2, v3, v4, v5, v6, v7, v8, v9, v10, v11, v12, v13, v14]) (hi : (P.info? ty).map (·.size) = some 15)
    (hb : Aside0 (w.heap[g]? = some (.cells #[b0, b1, b2, b3, b4, b5, b6, b7, b8, b9, b10, b11, b12, b13, b14] t (0, 0))) := by assumption) (h1 : [v0, v1, v2, v3, v4, v5, v6, v7, v8, v9, v10, v11, v12, v13, v14].all (·.oneCell') = true := by rfl) : (execOp ev o).run P w = .ok .skip (((((((((((((((w.setCell ⟨g, 0, none⟩ v0).setCell ⟨g, 1, none⟩ v1).setCell ⟨g, 2, none⟩ v2).setCell ⟨g, 3, none⟩ v3).setCell ⟨g, 4, none⟩ v4).setCell ⟨g, 5, none⟩ v5).setCell ⟨g, 6, none⟩ v6).setCell ⟨g, 7, none⟩ v7).setCell ⟨g, 8, none⟩ v8).setCell ⟨g, 9, none⟩ v9).setCell ⟨g, 10, none⟩ v10).setCell ⟨g, 11, none⟩ v11).setCell ⟨g, 12, none⟩ v12).setCell ⟨g, 13, none⟩ v13).setCell ⟨g, 14, none⟩ v14) := by
  unfold execOp
  simp only [ho, hx, hy, Instr.storeAt, Instr.sureAddr, Sem.run_bind, Sem.run_pure, Result.andThen_ok, run_storeVar_mid w g 0 ty #[v0, v1, v2, v3, v4, v5, v6, v7, v8, v9, v10, v11, v12, v13, v14] (there15_ hb.out) hi (all_oneCell_toArray fun v hv => List.all_eq_true.1 h1 v hv)]
  rfl
theorem there4_ {g : Nat} {t : TypeId} {b0 b1 b2 b3 : Value} (hb : w.heap[g]? = some (.cells #[b0, b1, b2, b3] t (0, 0))) : w.there g 0 4 := by
  intro j hj
  rw [Nat.zero_add]
  refine ⟨?_, blk_frozen hb j⟩
  rw [blk_cell hb j, Array.getElem?_eq_getElem (by simpa using hj)]
  rfl
theorem xs4_ {b0 b1 b2 b3 v0 v1 v2 v3 : Value} {g : Nat} {t ty : TypeId} {x y : Operand} (ho : o.op = .store ty x y) (hx : ev x = .pointer (some ⟨g, 0, none⟩)) (hy : ev y = .agg #[v0, v1, v2, v3]) (hi : (P.info? ty).map (·.size) = some 4)
    (hb : w.heap[g]? = some (.cells #[b0, b1, b2, b3] t (0, 0))) (h1 : [v0, v1, v2, v3].all (·.oneCell') = true := by rfl) : (execOp ev o).run P w = .ok .skip ((((w.setCell ⟨g, 0, none⟩ v0).setCell ⟨g, 1, none⟩ v1).setCell ⟨g, 2, none⟩ v2).setCell ⟨g, 3, none⟩ v3) := by
  unfold execOp
  simp only [ho, hx, hy, Instr.storeAt, Instr.sureAddr, Sem.run_bind, Sem.run_pure, Result.andThen_ok, run_storeVar_mid w g 0 ty #[v0, v1, v2, v3] (there4_ hb) hi (all_oneCell_toArray fun v hv => List.all_eq_true.1 h1 v hv)]
  rfl
end
end Go.Proofs.YtoelfknhnmhlmaaX
