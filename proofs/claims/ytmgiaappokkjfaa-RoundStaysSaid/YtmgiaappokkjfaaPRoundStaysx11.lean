/- Written by a program of this session (wip/tool/px.py) over the kit's print: what the code that the law RoundStays reaches computes, function by function, and the law's row. -/
import Derived.Test.YtmgiaappokkjfaaPRoundStaysx0
namespace Go.Proofs.Ytmgiaappokkjfaa.PRoundStays
open Go.RowKit Go.Proofs.YtmgiaappokkjfaaX Go.Proofs.YtmgiaappokkjfaaW.PrintWords Go.Proofs.YtmgiaappokkjfaaW.PrintLast Go.Proofs.YtmgiaappokkjfaaW.PrintMore
open Go.Proofs.YtmgiaappokkjfaaW.PrintWords renaming blk_cell → zL, blk_frozen → zF, below_step → zB
open Go.Proofs.YtmgiaappokkjfaaW.PrintWords.Aside0 renaming mk → zM
attribute [local go_sem] max2_int min2_int max_two min_two max_three min_three max_four min_four   -- for this text's walks alone
set_option linter.unusedVariables false
set_option linter.unusedSimpArgs false

attribute [local go_sem] px_store_float px_neg_float
attribute [local go_sem] px_eqarr67 px_nilq24 px_nilq25
/-! ### ropewayref04_Right: function 55 -/
def ropewayref04_Right.f (a0_0 : Int) (a0_1 : Int) : Option (Bool) := if a0_0 ≥ 0 then (if a0_0 ≤ 63 then (if a0_1 ≥ 0 then (some (decide (a0_1 ≤ 63))) else (some false)) else (some false)) else (some false)
set_option maxHeartbeats 8000000 in
set_option maxRecDepth 100000 in
theorem ropewayref04_Right.calls (a0_0 : Int) (a0_1 : Int) (r : Bool) (w : World) (h : ropewayref04_Right.f a0_0 a0_1 = some r) :
    Calls Try.prog 55 #[.agg #[.int .i64 a0_0, .int .i64 a0_1]] w fun e w' => e = .returned (.bool r) ∧ Below w.heap.size w w' := by
  have hu23 := Try.underlying23
  have HB := zM (Below.refl w.heap.size w)
  have H : (if a0_0 ≥ 0 then (if a0_0 ≤ 63 then (if a0_1 ≥ 0 then (some (decide (a0_1 ≤ 63))) else (some false)) else (some false)) else (some false)) = some r := h
  clear h
  go_enter Try.func55, Try.ntmps55
  go_upto_region 1 with (first | ((with_reducible refine gate_dst (N := 1) rfl ?_); refine box_event ?hg (N := 1) ?hd (cs := #[.int .i64 a0_0, .int .i64 a0_1]) (t := 23) ?hr ?_; (case hd => rfl); (case hg => rfl); (case hr => first | (go_simp; done) | (go_simp; rfl)); intro gb385 hg w2 hbox hb; have BK385 := zM (hbox); have GW385 := zM (bs_ hg); have GE385 := zM (bs_ hg); replace HB := zM (zB bel_ hb); clear hb hbox hg))
  by_cases c3 : a0_0 ≥ 0
  rotate_left
  · rw [if_neg c3] at H
    have c3b0 : decide (0 ≤ a0_0) = false := decide_eq_false c3
    clear c3
    obtain rfl := Option.some.inj H
    have hcz9_0 : w2.cell? ⟨gb385, 0, none⟩ = some (.int .i64 a0_0) := (zL BK385.out 0).trans rfl
    have hcz9_1 : w2.cell? ⟨gb385, 1, none⟩ = some (.int .i64 a0_1) := (zL BK385.out 1).trans rfl
    have hfz9_0 := zF BK385.out 0
    have hfz9_1 := zF BK385.out 1
    go_wp2
    go_ret
    exact ⟨by first | rfl | (simp [errW_none, errW_some] <;> rfl) | (simp [*, errW_none, errW_some] <;> rfl), bel_⟩
  rw [if_pos c3] at H
  have c3b0 : decide (0 ≤ a0_0) = true := decide_eq_true c3
  clear c3
  by_cases c4 : a0_0 ≤ 63
  rotate_left
  · rw [if_neg c4] at H
    have c4b0 : decide (a0_0 ≤ 63) = false := decide_eq_false c4
    clear c4
    obtain rfl := Option.some.inj H
    have hcz8_0 : w2.cell? ⟨gb385, 0, none⟩ = some (.int .i64 a0_0) := (zL BK385.out 0).trans rfl
    have hcz8_1 : w2.cell? ⟨gb385, 1, none⟩ = some (.int .i64 a0_1) := (zL BK385.out 1).trans rfl
    have hfz8_0 := zF BK385.out 0
    have hfz8_1 := zF BK385.out 1
    go_wp2
    go_ret
    exact ⟨by first | rfl | (simp [errW_none, errW_some] <;> rfl) | (simp [*, errW_none, errW_some] <;> rfl), bel_⟩
  rw [if_pos c4] at H
  have c4b0 : decide (a0_0 ≤ 63) = true := decide_eq_true c4
  clear c4
  by_cases c5 : a0_1 ≥ 0
  · rw [if_pos c5] at H
    have c5b0 : decide (0 ≤ a0_1) = true := decide_eq_true c5
    clear c5
    obtain rfl := Option.some.inj H
    have hcz6_0 : w2.cell? ⟨gb385, 0, none⟩ = some (.int .i64 a0_0) := (zL BK385.out 0).trans rfl
    have hcz6_1 : w2.cell? ⟨gb385, 1, none⟩ = some (.int .i64 a0_1) := (zL BK385.out 1).trans rfl
    have hfz6_0 := zF BK385.out 0
    have hfz6_1 := zF BK385.out 1
    go_wp2
    go_ret
    exact ⟨by first | rfl | (simp [errW_none, errW_some] <;> rfl) | (simp [*, errW_none, errW_some] <;> rfl), bel_⟩
  rw [if_neg c5] at H
  have c5b0 : decide (0 ≤ a0_1) = false := decide_eq_false c5
  clear c5
  obtain rfl := Option.some.inj H
  have hcz7_0 : w2.cell? ⟨gb385, 0, none⟩ = some (.int .i64 a0_0) := (zL BK385.out 0).trans rfl
  have hcz7_1 : w2.cell? ⟨gb385, 1, none⟩ = some (.int .i64 a0_1) := (zL BK385.out 1).trans rfl
  have hfz7_0 := zF BK385.out 0
  have hfz7_1 := zF BK385.out 1
  go_wp2
  go_ret
  exact ⟨by first | rfl | (simp [errW_none, errW_some] <;> rfl) | (simp [*, errW_none, errW_some] <;> rfl), bel_⟩
end Go.Proofs.Ytmgiaappokkjfaa.PRoundStays
