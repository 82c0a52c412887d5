/- Written by a program of this session (wip/tool/px.py) over the kit's print: what the code that the law RoundStays reaches computes, function by function, and the law's row. -/
import Derived.Test.YtmgiaappokkjfaaPRoundStaysx0
namespace Go.Proofs.Ytmgiaappokkjfaa.PRoundStays
open Go.RowKit Go.Proofs.YtmgiaappokkjfaaX Go.Proofs.YtmgiaappokkjfaaW.PrintWords Go.Proofs.YtmgiaappokkjfaaW.PrintLast Go.Proofs.YtmgiaappokkjfaaW.PrintMore
open Go.Proofs.YtmgiaappokkjfaaW.PrintWords renaming blk_cell → zL, blk_frozen → zF, below_step → zB
open Go.Proofs.YtmgiaappokkjfaaW.PrintWords.Aside0 renaming mk → zM
attribute [local go_sem] max2_int min2_int max_two min_two max_three min_three max_four min_four   -- for this text's walks alone
set_option linter.unusedVariables false
set_option linter.unusedSimpArgs false

attribute [local go_sem] px_store_float px_neg_float
attribute [local go_sem] px_eqarr67 px_nilq24 px_nilq25
/-! ### ropewayref06_Right: function 80 -/
def ropewayref06_Right.f (a0_0 : Int) (a0_1 : Int) : Option (Bool) := if a0_0 = 0 then (some (a0_1 == 0)) else (if a0_0 > 0 then (if a0_0 ≤ 1000000 then (if a0_1 ≥ 0 then (some (decide (a0_1 ≤ 5))) else (some false)) else (some false)) else (some false))
set_option maxHeartbeats 8000000 in
set_option maxRecDepth 100000 in
theorem ropewayref06_Right.calls (a0_0 : Int) (a0_1 : Int) (r : Bool) (w : World) (h : ropewayref06_Right.f a0_0 a0_1 = some r) :
    Calls Try.prog 80 #[.agg #[.int .i64 a0_0, .int .i64 a0_1]] w fun e w' => e = .returned (.bool r) ∧ Below w.heap.size w w' := by
  have hu45 := Try.underlying45
  have HB := zM (Below.refl w.heap.size w)
  have H : (if a0_0 = 0 then (some (a0_1 == 0)) else (if a0_0 > 0 then (if a0_0 ≤ 1000000 then (if a0_1 ≥ 0 then (some (decide (a0_1 ≤ 5))) else (some false)) else (some false)) else (some false))) = some r := h
  clear h
  go_enter Try.func80, Try.ntmps80
  go_upto_region 1 with (first | ((with_reducible refine gate_dst (N := 1) rfl ?_); refine box_event ?hg (N := 1) ?hd (cs := #[.int .i64 a0_0, .int .i64 a0_1]) (t := 45) ?hr ?_; (case hd => rfl); (case hg => rfl); (case hr => first | (go_simp; done) | (go_simp; rfl)); intro gb390 hg w2 hbox hb; have BK390 := zM (hbox); have GW390 := zM (bs_ hg); have GE390 := zM (bs_ hg); replace HB := zM (zB bel_ hb); clear hb hbox hg))
  by_cases c3 : a0_0 = 0
  · rw [if_pos c3] at H
    have c3b0 : (a0_0 == 0) = true := beq_iff_eq.mpr c3
    have c3b1 : (a0_0 != 0) = false := bne_eq_false_iff_eq.mpr c3
    clear c3
    obtain rfl := Option.some.inj H
    have hcz4_0 : w2.cell? ⟨gb390, 0, none⟩ = some (.int .i64 a0_0) := (zL BK390.out 0).trans rfl
    have hcz4_1 : w2.cell? ⟨gb390, 1, none⟩ = some (.int .i64 a0_1) := (zL BK390.out 1).trans rfl
    have hfz4_0 := zF BK390.out 0
    have hfz4_1 := zF BK390.out 1
    go_wp2
    go_ret
    exact ⟨by first | rfl | (simp [errW_none, errW_some] <;> rfl) | (simp [*, errW_none, errW_some] <;> rfl), bel_⟩
  rw [if_neg c3] at H
  have c3b0 : (a0_0 == 0) = false := beq_eq_false_iff_ne.mpr c3
  have c3b1 : (a0_0 != 0) = true := bne_iff_ne.mpr c3
  by_cases c5 : a0_0 > 0
  rotate_left
  · rw [if_neg c5] at H
    have c5b0 : decide (0 < a0_0) = false := decide_eq_false c5
    clear c5
    obtain rfl := Option.some.inj H
    have hcz11_0 : w2.cell? ⟨gb390, 0, none⟩ = some (.int .i64 a0_0) := (zL BK390.out 0).trans rfl
    have hcz11_1 : w2.cell? ⟨gb390, 1, none⟩ = some (.int .i64 a0_1) := (zL BK390.out 1).trans rfl
    have hfz11_0 := zF BK390.out 0
    have hfz11_1 := zF BK390.out 1
    go_wp2
    go_ret
    exact ⟨by first | rfl | (simp [errW_none, errW_some] <;> rfl) | (simp [*, errW_none, errW_some] <;> rfl), bel_⟩
  rw [if_pos c5] at H
  have c5b0 : decide (0 < a0_0) = true := decide_eq_true c5
  clear c5
  by_cases c6 : a0_0 ≤ 1000000
  rotate_left
  · rw [if_neg c6] at H
    have c6b0 : decide (a0_0 ≤ 1000000) = false := decide_eq_false c6
    clear c6
    obtain rfl := Option.some.inj H
    have hcz10_0 : w2.cell? ⟨gb390, 0, none⟩ = some (.int .i64 a0_0) := (zL BK390.out 0).trans rfl
    have hcz10_1 : w2.cell? ⟨gb390, 1, none⟩ = some (.int .i64 a0_1) := (zL BK390.out 1).trans rfl
    have hfz10_0 := zF BK390.out 0
    have hfz10_1 := zF BK390.out 1
    go_wp2
    go_ret
    exact ⟨by first | rfl | (simp [errW_none, errW_some] <;> rfl) | (simp [*, errW_none, errW_some] <;> rfl), bel_⟩
  rw [if_pos c6] at H
  have c6b0 : decide (a0_0 ≤ 1000000) = true := decide_eq_true c6
  clear c6
  by_cases c7 : a0_1 ≥ 0
  · rw [if_pos c7] at H
    have c7b0 : decide (0 ≤ a0_1) = true := decide_eq_true c7
    clear c7
    obtain rfl := Option.some.inj H
    have hcz8_0 : w2.cell? ⟨gb390, 0, none⟩ = some (.int .i64 a0_0) := (zL BK390.out 0).trans rfl
    have hcz8_1 : w2.cell? ⟨gb390, 1, none⟩ = some (.int .i64 a0_1) := (zL BK390.out 1).trans rfl
    have hfz8_0 := zF BK390.out 0
    have hfz8_1 := zF BK390.out 1
    go_wp2
    go_ret
    exact ⟨by first | rfl | (simp [errW_none, errW_some] <;> rfl) | (simp [*, errW_none, errW_some] <;> rfl), bel_⟩
  rw [if_neg c7] at H
  have c7b0 : decide (0 ≤ a0_1) = false := decide_eq_false c7
  clear c7
  obtain rfl := Option.some.inj H
  have hcz9_0 : w2.cell? ⟨gb390, 0, none⟩ = some (.int .i64 a0_0) := (zL BK390.out 0).trans rfl
  have hcz9_1 : w2.cell? ⟨gb390, 1, none⟩ = some (.int .i64 a0_1) := (zL BK390.out 1).trans rfl
  have hfz9_0 := zF BK390.out 0
  have hfz9_1 := zF BK390.out 1
  go_wp2
  go_ret
  exact ⟨by first | rfl | (simp [errW_none, errW_some] <;> rfl) | (simp [*, errW_none, errW_some] <;> rfl), bel_⟩
end Go.Proofs.Ytmgiaappokkjfaa.PRoundStays
