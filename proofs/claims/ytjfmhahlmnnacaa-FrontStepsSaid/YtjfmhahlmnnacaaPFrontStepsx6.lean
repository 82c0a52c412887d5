/- Written by a program of this session (wip/tool/px.py) over the kit's print: what the code that the law FrontSteps reaches computes, function by function, and the law's row. -/
import Derived.Test.YtjfmhahlmnnacaaPFrontStepsx0
namespace Go.Proofs.Ytjfmhahlmnnacaa.PFrontSteps
open Go.RowKit Go.Proofs.YtjfmhahlmnnacaaX Go.Proofs.YtjfmhahlmnnacaaW.PrintWords Go.Proofs.YtjfmhahlmnnacaaW.PrintLast Go.Proofs.YtjfmhahlmnnacaaW.PrintMore
open Go.Proofs.YtjfmhahlmnnacaaW.PrintWords renaming blk_drewN → zN, blk_drew → zD, blk_alloc → zA, blk_cell → zL, blk_frozen → zF, below_step → zB
open Go.Proofs.YtjfmhahlmnnacaaW.PrintWords.Aside0 renaming mk → zM
attribute [local go_sem] max2_int min2_int max_two min_two max_three min_three max_four min_four   -- for this text's walks alone
set_option linter.unusedVariables false
set_option linter.unusedSimpArgs false

attribute [local go_sem] px_nilq22
/-! ### ropewayref04_Right: function 24 -/
def ropewayref04_Right.f (a0_0 : Int) (a0_1 : Int) : Option (Bool) := if a0_0 ≥ 0 then (if a0_0 ≤ 63 then (if a0_1 ≥ 0 then (some (decide (a0_1 ≤ 63))) else (some false)) else (some false)) else (some false)
set_option maxHeartbeats 8000000 in
set_option maxRecDepth 100000 in
theorem ropewayref04_Right.calls (a0_0 : Int) (a0_1 : Int) (r : Bool) (w : World) (h : ropewayref04_Right.f a0_0 a0_1 = some r) :
    Calls Try.prog 24 #[.agg #[.int .i64 a0_0, .int .i64 a0_1]] w fun e w' => e = .returned (.bool r) ∧ Below w.heap.size w w' := by
  have hu24 := Try.underlying24
  have HB := zM (Below.refl w.heap.size w)
  have H : (if a0_0 ≥ 0 then (if a0_0 ≤ 63 then (if a0_1 ≥ 0 then (some (decide (a0_1 ≤ 63))) else (some false)) else (some false)) else (some false)) = some r := h
  clear h
  by_cases c2 : a0_0 ≥ 0
  rotate_left
  · rw [if_neg c2] at H
    have c2b0 : decide (0 ≤ a0_0) = false := decide_eq_false c2
    clear c2
    obtain rfl := Option.some.inj H
    go_enter Try.func24, Try.ntmps24
    go_wp2_with (first | ((with_reducible refine gate_dst (N := 1) rfl ?_); refine box_event ?hg (N := 1) ?hd (cs := #[.int .i64 a0_0, .int .i64 a0_1]) (t := 24) ?hr ?_; (case hd => rfl); (case hg => rfl); (case hr => first | (go_simp; done) | (go_simp; rfl)); intro gb221 hg w11 hbox hb; have BK221 := zM (hbox); have GW221 := zM (bs_ hg); have GE221 := zM (bs_ hg); replace HB := zM (zB bel_ hb); clear hb hbox hg; have hcz12_0 : w11.cell? ⟨gb221, 0, none⟩ = some (.int .i64 a0_0) := (zL BK221.out 0).trans rfl; have hcz12_1 : w11.cell? ⟨gb221, 1, none⟩ = some (.int .i64 a0_1) := (zL BK221.out 1).trans rfl; have hfz12_0 := zF BK221.out 0; have hfz12_1 := zF BK221.out 1))
    go_ret
    exact ⟨by first | rfl | (simp [errW_none, errW_some] <;> rfl) | (simp [*, errW_none, errW_some] <;> rfl), bel_⟩
  rw [if_pos c2] at H
  have c2b0 : decide (0 ≤ a0_0) = true := decide_eq_true c2
  clear c2
  by_cases c3 : a0_0 ≤ 63
  rotate_left
  · rw [if_neg c3] at H
    have c3b0 : decide (a0_0 ≤ 63) = false := decide_eq_false c3
    clear c3
    obtain rfl := Option.some.inj H
    go_enter Try.func24, Try.ntmps24
    go_wp2_with (first | ((with_reducible refine gate_dst (N := 1) rfl ?_); refine box_event ?hg (N := 1) ?hd (cs := #[.int .i64 a0_0, .int .i64 a0_1]) (t := 24) ?hr ?_; (case hd => rfl); (case hg => rfl); (case hr => first | (go_simp; done) | (go_simp; rfl)); intro gb221 hg w9 hbox hb; have BK221 := zM (hbox); have GW221 := zM (bs_ hg); have GE221 := zM (bs_ hg); replace HB := zM (zB bel_ hb); clear hb hbox hg; have hcz10_0 : w9.cell? ⟨gb221, 0, none⟩ = some (.int .i64 a0_0) := (zL BK221.out 0).trans rfl; have hcz10_1 : w9.cell? ⟨gb221, 1, none⟩ = some (.int .i64 a0_1) := (zL BK221.out 1).trans rfl; have hfz10_0 := zF BK221.out 0; have hfz10_1 := zF BK221.out 1))
    go_ret
    exact ⟨by first | rfl | (simp [errW_none, errW_some] <;> rfl) | (simp [*, errW_none, errW_some] <;> rfl), bel_⟩
  rw [if_pos c3] at H
  have c3b0 : decide (a0_0 ≤ 63) = true := decide_eq_true c3
  clear c3
  by_cases c4 : a0_1 ≥ 0
  · rw [if_pos c4] at H
    have c4b0 : decide (0 ≤ a0_1) = true := decide_eq_true c4
    clear c4
    obtain rfl := Option.some.inj H
    go_enter Try.func24, Try.ntmps24
    go_wp2_with (first | ((with_reducible refine gate_dst (N := 1) rfl ?_); refine box_event ?hg (N := 1) ?hd (cs := #[.int .i64 a0_0, .int .i64 a0_1]) (t := 24) ?hr ?_; (case hd => rfl); (case hg => rfl); (case hr => first | (go_simp; done) | (go_simp; rfl)); intro gb221 hg w5 hbox hb; have BK221 := zM (hbox); have GW221 := zM (bs_ hg); have GE221 := zM (bs_ hg); replace HB := zM (zB bel_ hb); clear hb hbox hg; have hcz6_0 : w5.cell? ⟨gb221, 0, none⟩ = some (.int .i64 a0_0) := (zL BK221.out 0).trans rfl; have hcz6_1 : w5.cell? ⟨gb221, 1, none⟩ = some (.int .i64 a0_1) := (zL BK221.out 1).trans rfl; have hfz6_0 := zF BK221.out 0; have hfz6_1 := zF BK221.out 1))
    go_ret
    exact ⟨by first | rfl | (simp [errW_none, errW_some] <;> rfl) | (simp [*, errW_none, errW_some] <;> rfl), bel_⟩
  rw [if_neg c4] at H
  have c4b0 : decide (0 ≤ a0_1) = false := decide_eq_false c4
  clear c4
  obtain rfl := Option.some.inj H
  go_enter Try.func24, Try.ntmps24
  go_wp2_with (first | ((with_reducible refine gate_dst (N := 1) rfl ?_); refine box_event ?hg (N := 1) ?hd (cs := #[.int .i64 a0_0, .int .i64 a0_1]) (t := 24) ?hr ?_; (case hd => rfl); (case hg => rfl); (case hr => first | (go_simp; done) | (go_simp; rfl)); intro gb221 hg w7 hbox hb; have BK221 := zM (hbox); have GW221 := zM (bs_ hg); have GE221 := zM (bs_ hg); replace HB := zM (zB bel_ hb); clear hb hbox hg; have hcz8_0 : w7.cell? ⟨gb221, 0, none⟩ = some (.int .i64 a0_0) := (zL BK221.out 0).trans rfl; have hcz8_1 : w7.cell? ⟨gb221, 1, none⟩ = some (.int .i64 a0_1) := (zL BK221.out 1).trans rfl; have hfz8_0 := zF BK221.out 0; have hfz8_1 := zF BK221.out 1))
  go_ret
  exact ⟨by first | rfl | (simp [errW_none, errW_some] <;> rfl) | (simp [*, errW_none, errW_some] <;> rfl), bel_⟩
/-! ### ropewaylaw16_right: function 12 -/
def ropewaylaw16_right.l0 : Nat → List (S24) → Int → Int → Option (Bool)
  | 0, _, _, _ => none
  | k + 1, x5, x6, x7 => if x7 < x6 then (if 0 ≤ x7 then (if x7 < (x5.length : Int) then ((ropewayref04_Right.f ((rd_T24 x5 x7).f0) ((rd_T24 x5 x7).f1)).bind fun t224 => (if t224 = true then (ropewaylaw16_right.l0 k x5 x6 (wrap64 (x7 + 1))) else (some false))) else (none)) else (none)) else (some true)
def ropewaylaw16_right.f (k : Nat) (l0 : List (S24)) : Option (Bool) := ropewaylaw16_right.l0 k l0 (l0.length : Int) 0
theorem ropewaylaw16_right.mono_l : ∀ k, (∀ y0 y1 y2, LeO (ropewaylaw16_right.l0 k y0 y1 y2) (ropewaylaw16_right.l0 (k + 1) y0 y1 y2))
  | 0 => fun _ _ _ r h => by simp [ropewaylaw16_right.l0] at h
  | k + 1 => by
    have ih0 := ropewaylaw16_right.mono_l k
    · intro y0 y1 y2
      unfold ropewaylaw16_right.l0
      repeat' first
      | (with_reducible exact ih0 _ _ _)
      | (with_reducible exact LeO.refl _)
      | (with_reducible exact LeO.none _)
      | (with_reducible refine LeO.ite ?_ ?_)
      | (with_reducible refine LeO.bind ?_ (fun _ => ?_))
      | exact ih0 _ _ _
      | exact LeO.none _
      | refine LeO.ite ?_ ?_
      | refine LeO.bind ?_ (fun _ => ?_)
theorem ropewaylaw16_right.mono : ∀ a0 k, LeO (ropewaylaw16_right.f k a0) (ropewaylaw16_right.f (k + 1) a0) := by
  intro a0 k
  have ih0 := ropewaylaw16_right.mono_l k
  unfold ropewaylaw16_right.f
  repeat' first
      | (with_reducible exact ih0 _ _ _)
      | (with_reducible exact LeO.refl _)
      | (with_reducible exact LeO.none _)
      | (with_reducible refine LeO.ite ?_ ?_)
      | (with_reducible refine LeO.bind ?_ (fun _ => ?_))
      | exact ih0 _ _ _
      | exact LeO.none _
      | refine LeO.ite ?_ ?_
      | refine LeO.bind ?_ (fun _ => ?_)
set_option maxHeartbeats 8000000 in
set_option maxRecDepth 100000 in
theorem ropewaylaw16_right.calls (k : Nat) (A0 : Option Addr) (c0 : Nat) (l0 : List (S24)) (r : Bool) (w : World) (hr0 : Kd.C k24 w A0 l0.length l0) (hc0 : l0.length ≤ c0) (h : ropewaylaw16_right.f k l0 = some r) :
    Calls Try.prog 12 #[.slice A0 l0.length c0] w fun e w' => e = .returned (.bool r) ∧ Below w.heap.size w w' := by
  have hu24 := Try.underlying24
  have HR0 := zM hr0
  have HC0 := zM hc0
  clear hr0 hc0
  have HB := zM (Below.refl w.heap.size w)
  have H : (ropewaylaw16_right.l0 k l0 (l0.length : Int) 0) = some r := h
  clear h
  have H' := zM H
  clear H
  go_enter Try.func12, Try.ntmps12
  go_wp2
  go_loopg [7] k (fun kq v7 w' => ∃ (x7_1 : Int), v7 = .int .i64 x7_1 ∧ Aside0 (ropewaylaw16_right.l0 kq l0 (l0.length : Int) x7_1 = some r) ∧ Aside0 (kq ≤ k) ∧ Aside0 (Below w.heap.size w w'))
  case atStart => exact ⟨(0), (by first | rfl | (simp; done) | (simp [*]; done) | (simp; grind)), H', ⟨Nat.le_refl _⟩, ⟨bel_⟩⟩
  case round =>
   clear H'
   try clear c1
   obtain ⟨x7_1, rfl, HA, HK1, HB⟩ := hrel
   cases gk with
   | zero => exact absurd HA.out (by simp [ropewaylaw16_right.l0])
   | succ k1 =>
    have H := HA.out
    clear HA
    simp only [ropewaylaw16_right.l0] at H
    by_cases c2 : x7_1 < (l0.length : Int)
    rotate_left
    · rw [if_neg c2] at H
      have c2b0 : decide (x7_1 < (l0.length : Int)) = false := decide_eq_false c2
      clear c2
      obtain rfl := Option.some.inj H
      go_wp2
      go_ret
      exact ⟨by first | rfl | (simp [errW_none, errW_some] <;> rfl) | (simp [*, errW_none, errW_some] <;> rfl), bel_⟩
    rw [if_pos c2] at H
    have c2b0 : decide (x7_1 < (l0.length : Int)) = true := decide_eq_true c2
    clear c2
    by_cases c3 : 0 ≤ x7_1
    rotate_left
    · rw [if_neg c3] at H
      exact absurd H (by simp)
    rw [if_pos c3] at H
    have c3b0 : decide (0 ≤ x7_1) = true := decide_eq_true c3
    clear c3
    by_cases c4 : x7_1 < (l0.length : Int)
    rotate_left
    · rw [if_neg c4] at H
      exact absurd H (by simp)
    rw [if_pos c4] at H
    have c4b0 : decide (x7_1 < (l0.length : Int)) = true := decide_eq_true c4
    clear c4
    replace H := Option.bind_eq_some_iff.mp H
    obtain ⟨t224, A50, H⟩ := H
    replace H : (if t224 = true then (ropewaylaw16_right.l0 k1 l0 (l0.length : Int) (wrap64 (x7_1 + 1))) else (some false)) = some r := H
    have A5 := zM A50
    clear A50
    by_cases c6 : t224 = true
    rotate_left
    · replace c6 := Bool.eq_false_iff.mpr c6
      subst c6
      have H1 : (some false) = some r := by rw [if_neg (show ¬ (false = true) by decide)] at H; exact H
      clear H
      have H := H1
      clear H1
      obtain rfl := Option.some.inj H
      have p222 : 0 ≤ (x7_1 : Int) := of_decide_eq_true (by first | (with_reducible assumption) | assumption)
      have q222 : x7_1 < (l0.length : Int) := of_decide_eq_true (by first | (with_reducible assumption) | assumption)
      obtain ⟨ad222, e222, hx222_0, hx222_1⟩ := at_T24 HR0.out x7_1 p222 q222
      cases e222
      replace hx222_0 := (HB.out.cell (World.block_lt_of_cell? w _ hx222_0)).trans hx222_0
      replace hx222_1 := (HB.out.cell (World.block_lt_of_cell? w _ hx222_1)).trans hx222_1
      replace p222 := eq_true p222
      replace q222 := eq_true q222
      go_wp2_with (first | ((with_reducible refine gate_dst (N := 4) rfl ?_); refine box_event ?hg (N := 4) ?hd (cs := #[.int .i64 0, .int .i64 0]) (t := 24) ?hr ?_; (case hd => rfl); (case hg => rfl); (case hr => first | (go_simp; done) | (go_simp; rfl)); intro gb223 hg w10 hbox hb; have BK223 := zM (hbox); have GW223 := zM (bs_ hg); have GE223 := zM (bs_ hg); replace HB := zM (zB bel_ hb); clear hb hbox hg; have hcz11_0 : w10.cell? ⟨gb223, 0, none⟩ = some (.int .i64 0) := (zL BK223.out 0).trans rfl; have hcz11_1 : w10.cell? ⟨gb223, 1, none⟩ = some (.int .i64 0) := (zL BK223.out 1).trans rfl; have hfz11_0 := zF BK223.out 0; have hfz11_1 := zF BK223.out 1) | ((with_reducible refine gate_callee (f := 24) rfl ?_); refine goL_ (some 12) Try.func24 #[.agg #[.int .i64 ((rd_T24 l0 x7_1).f0), .int .i64 ((rd_T24 l0 x7_1).f1)]] ?_; (with_reducible refine (ropewayref04_Right.calls ((rd_T24 l0 x7_1).f0) ((rd_T24 l0 x7_1).f1) false _ A5.out).mono ?_); rintro e w12 ⟨rfl, hb⟩; refine ⟨_, rfl, ?_⟩; replace BK223 := zM (blk_below (g := gb223) (o := .cells #[.int .i64 ((rd_T24 l0 x7_1).f0), .int .i64 ((rd_T24 l0 x7_1).f1)] 24 (0, 0)) (by (with_reducible repeat (first | refine zN ?_ _ | refine zD ?_ | refine zA ?_ _)); refine blk_put (cs := #[.int .i64 ((rd_T24 l0 x7_1).f0), .int .i64 0]) ?_ 1 _ rfl; (with_reducible repeat (first | refine zN ?_ _ | refine zD ?_ | refine zA ?_ _)); refine blk_put (cs := #[.int .i64 0, .int .i64 0]) ?_ 0 _ rfl; (with_reducible repeat (first | refine zN ?_ _ | refine zD ?_ | refine zA ?_ _)); exact BK223.out) hb); replace HB := zM (zB bel_ hb); (try clear hb); (try clear hb2); (try clear hk); (try clear hi)))
      go_ret
      exact ⟨by first | rfl | (simp [errW_none, errW_some] <;> rfl) | (simp [*, errW_none, errW_some] <;> rfl), bel_⟩
    subst c6
    have H1 : (ropewaylaw16_right.l0 k1 l0 (l0.length : Int) (wrap64 (x7_1 + 1))) = some r := by rw [if_pos rfl] at H; exact H
    clear H
    have H := H1
    clear H1
    have H' := zM H
    clear H
    have p222 : 0 ≤ (x7_1 : Int) := of_decide_eq_true (by first | (with_reducible assumption) | assumption)
    have q222 : x7_1 < (l0.length : Int) := of_decide_eq_true (by first | (with_reducible assumption) | assumption)
    obtain ⟨ad222, e222, hx222_0, hx222_1⟩ := at_T24 HR0.out x7_1 p222 q222
    cases e222
    replace hx222_0 := (HB.out.cell (World.block_lt_of_cell? w _ hx222_0)).trans hx222_0
    replace hx222_1 := (HB.out.cell (World.block_lt_of_cell? w _ hx222_1)).trans hx222_1
    replace p222 := eq_true p222
    replace q222 := eq_true q222
    go_wp2_with (first | ((with_reducible refine gate_dst (N := 4) rfl ?_); refine box_event ?hg (N := 4) ?hd (cs := #[.int .i64 0, .int .i64 0]) (t := 24) ?hr ?_; (case hd => rfl); (case hg => rfl); (case hr => first | (go_simp; done) | (go_simp; rfl)); intro gb223 hg w7 hbox hb; have BK223 := zM (hbox); have GW223 := zM (bs_ hg); have GE223 := zM (bs_ hg); replace HB := zM (zB bel_ hb); clear hb hbox hg; have hcz8_0 : w7.cell? ⟨gb223, 0, none⟩ = some (.int .i64 0) := (zL BK223.out 0).trans rfl; have hcz8_1 : w7.cell? ⟨gb223, 1, none⟩ = some (.int .i64 0) := (zL BK223.out 1).trans rfl; have hfz8_0 := zF BK223.out 0; have hfz8_1 := zF BK223.out 1) | ((with_reducible refine gate_callee (f := 24) rfl ?_); refine goL_ (some 12) Try.func24 #[.agg #[.int .i64 ((rd_T24 l0 x7_1).f0), .int .i64 ((rd_T24 l0 x7_1).f1)]] ?_; (with_reducible refine (ropewayref04_Right.calls ((rd_T24 l0 x7_1).f0) ((rd_T24 l0 x7_1).f1) true _ A5.out).mono ?_); rintro e w9 ⟨rfl, hb⟩; refine ⟨_, rfl, ?_⟩; replace BK223 := zM (blk_below (g := gb223) (o := .cells #[.int .i64 ((rd_T24 l0 x7_1).f0), .int .i64 ((rd_T24 l0 x7_1).f1)] 24 (0, 0)) (by (with_reducible repeat (first | refine zN ?_ _ | refine zD ?_ | refine zA ?_ _)); refine blk_put (cs := #[.int .i64 ((rd_T24 l0 x7_1).f0), .int .i64 0]) ?_ 1 _ rfl; (with_reducible repeat (first | refine zN ?_ _ | refine zD ?_ | refine zA ?_ _)); refine blk_put (cs := #[.int .i64 0, .int .i64 0]) ?_ 0 _ rfl; (with_reducible repeat (first | refine zN ?_ _ | refine zD ?_ | refine zA ?_ _)); exact BK223.out) hb); replace HB := zM (zB bel_ hb); (try clear hb); (try clear hb2); (try clear hk); (try clear hi)))
    go_roundg k1
    case measure => have := HK1.out; omega
    case rel => exact ⟨(wrap64 (x7_1 + 1)), (by first | rfl | (simp; done) | (simp [*]; done) | (simp; grind)), H', ⟨by have := HK1.out; omega⟩, ⟨bel_⟩⟩
/-! ### ropewayref04_bit: function 38 -/
def ropewayref04_bit.l0 : Nat → Int → Int → Int → Option (Bool)
  | 0, _, _, _ => none
  | k + 1, x0, x1, x5 => if x5 < x1 then (ropewayref04_bit.l0 k (wrap64 (Int.tdiv x0 2)) x1 (wrap64 (x5 + 1))) else (some ((Int.tmod x0 2) == 1))
def ropewayref04_bit.f (k : Nat) (a0 : Int) (a1 : Int) : Option (Bool) := ropewayref04_bit.l0 k a0 a1 0
theorem ropewayref04_bit.mono_l : ∀ k, (∀ y0 y1 y2, LeO (ropewayref04_bit.l0 k y0 y1 y2) (ropewayref04_bit.l0 (k + 1) y0 y1 y2))
  | 0 => fun _ _ _ r h => by simp [ropewayref04_bit.l0] at h
  | k + 1 => by
    have ih0 := ropewayref04_bit.mono_l k
    · intro y0 y1 y2
      unfold ropewayref04_bit.l0
      repeat' first
      | (with_reducible exact ih0 _ _ _)
      | (with_reducible exact LeO.refl _)
      | (with_reducible exact LeO.none _)
      | (with_reducible refine LeO.ite ?_ ?_)
      | (with_reducible refine LeO.bind ?_ (fun _ => ?_))
      | exact ih0 _ _ _
      | exact LeO.none _
      | refine LeO.ite ?_ ?_
      | refine LeO.bind ?_ (fun _ => ?_)
theorem ropewayref04_bit.mono : ∀ a0 a1 k, LeO (ropewayref04_bit.f k a0 a1) (ropewayref04_bit.f (k + 1) a0 a1) := by
  intro a0 a1 k
  have ih0 := ropewayref04_bit.mono_l k
  unfold ropewayref04_bit.f
  repeat' first
      | (with_reducible exact ih0 _ _ _)
      | (with_reducible exact LeO.refl _)
      | (with_reducible exact LeO.none _)
      | (with_reducible refine LeO.ite ?_ ?_)
      | (with_reducible refine LeO.bind ?_ (fun _ => ?_))
      | exact ih0 _ _ _
      | exact LeO.none _
      | refine LeO.ite ?_ ?_
      | refine LeO.bind ?_ (fun _ => ?_)
set_option maxHeartbeats 8000000 in
set_option maxRecDepth 100000 in
theorem ropewayref04_bit.calls (k : Nat) (a0 : Int) (a1 : Int) (r : Bool) (w : World) (h : ropewayref04_bit.f k a0 a1 = some r) :
    Calls Try.prog 38 #[.int .i64 a0, .int .i64 a1] w fun e w' => e = .returned (.bool r) ∧ Drawn0 w w' := by
  have H : (ropewayref04_bit.l0 k a0 a1 0) = some r := h
  clear h
  have H' := zM H
  clear H
  go_enter Try.func38, Try.ntmps38
  go_wp2
  go_loopg [0, 5] k (fun kq v0 v5 w' => ∃ (x0_1 : Int) (x5_1 : Int), v0 = .int .i64 x0_1 ∧ v5 = .int .i64 x5_1 ∧ Aside0 (ropewayref04_bit.l0 kq x0_1 a1 x5_1 = some r) ∧ Aside0 (kq ≤ k) ∧ Drawn0 w w')
  case atStart => exact ⟨(a0), (0), (by first | rfl | (simp; done) | (simp [*]; done) | (simp; grind)), (by first | rfl | (simp; done) | (simp [*]; done) | (simp; grind)), H', ⟨Nat.le_refl _⟩, by repeat (first | exact Drawn0.refl _ | apply Drawn0.step)⟩
  case round =>
   clear H'
   try clear p2
   obtain ⟨x0_1, x5_1, rfl, rfl, HA, HK1, ⟨m1, rfl⟩⟩ := hrel
   cases gk with
   | zero => exact absurd HA.out (by simp [ropewayref04_bit.l0])
   | succ k1 =>
    have H := HA.out
    clear HA
    simp only [ropewayref04_bit.l0] at H
    by_cases c3 : x5_1 < a1
    rotate_left
    · rw [if_neg c3] at H
      have c3b0 : decide (x5_1 < a1) = false := decide_eq_false c3
      clear c3
      obtain rfl := Option.some.inj H
      go_wp2
      go_ret
      exact ⟨by first | rfl | (simp; done) | (simp [*]; done) | (simp; grind), by repeat (first | exact Drawn0.refl _ | apply Drawn0.step)⟩
    rw [if_pos c3] at H
    have c3b0 : decide (x5_1 < a1) = true := decide_eq_true c3
    clear c3
    have H' := zM H
    clear H
    go_wp2
    go_roundg k1
    case measure => have := HK1.out; omega
    case rel => exact ⟨(wrap64 (Int.tdiv x0_1 2)), (wrap64 (x5_1 + 1)), (by first | rfl | (simp; done) | (simp [*]; done) | (simp; grind)), (by first | rfl | (simp; done) | (simp [*]; done) | (simp; grind)), H', ⟨by have := HK1.out; omega⟩, by repeat (first | exact Drawn0.refl _ | apply Drawn0.step)⟩
/-! ### ropewayref04_Has: function 30 -/
def ropewayref04_Has.f (k : Nat) (a0_0 : Int) (a0_1 : Int) (a1 : Int) : Option (Bool × Bool) := (ropewayref04_bit.f k a0_0 a1).bind fun t226 => ((ropewayref04_bit.f k a0_1 a1).bind fun t227 => (some (t226, t227)))
theorem ropewayref04_Has.mono : ∀ a0 a1 a2 k, LeO (ropewayref04_Has.f k a0 a1 a2) (ropewayref04_Has.f (k + 1) a0 a1 a2) := by
  intro a0 a1 a2 k
  unfold ropewayref04_Has.f
  repeat' first
      | (with_reducible exact ropewayref04_bit.mono _ _ _)
      | (with_reducible exact LeO.refl _)
      | (with_reducible exact LeO.none _)
      | (with_reducible refine LeO.ite ?_ ?_)
      | (with_reducible refine LeO.bind ?_ (fun _ => ?_))
      | exact ropewayref04_bit.mono _ _ _
      | exact LeO.none _
      | refine LeO.ite ?_ ?_
      | refine LeO.bind ?_ (fun _ => ?_)
set_option maxHeartbeats 8000000 in
set_option maxRecDepth 100000 in
theorem ropewayref04_Has.calls (k : Nat) (a0_0 : Int) (a0_1 : Int) (a1 : Int) (r1 : Bool) (r2 : Bool) (w : World) (h : ropewayref04_Has.f k a0_0 a0_1 a1 = some (r1, r2)) :
    Calls Try.prog 30 #[.agg #[.int .i64 a0_0, .int .i64 a0_1], .int .i64 a1] w fun e w' => e = .returned (.tuple #[.bool r1, .bool r2]) ∧ Below w.heap.size w w' := by
  have hu24 := Try.underlying24
  have HB := zM (Below.refl w.heap.size w)
  have H : ((ropewayref04_bit.f k a0_0 a1).bind fun t226 => ((ropewayref04_bit.f k a0_1 a1).bind fun t227 => (some (t226, t227)))) = some (r1, r2) := h
  clear h
  replace H := Option.bind_eq_some_iff.mp H
  obtain ⟨t226, A30, H⟩ := H
  replace H : ((ropewayref04_bit.f k a0_1 a1).bind fun t227 => (some (t226, t227))) = some (r1, r2) := H
  have A3 := zM A30
  clear A30
  replace H := Option.bind_eq_some_iff.mp H
  obtain ⟨t227, A40, H⟩ := H
  replace H : (some (t226, t227)) = some (r1, r2) := H
  have A4 := zM A40
  clear A40
  simp only [Option.some.injEq, Prod.mk.injEq] at H
  obtain ⟨rfl, rfl⟩ := H
  go_enter Try.func30, Try.ntmps30
  go_wp2_with (first | ((with_reducible refine gate_dst (N := 2) rfl ?_); refine box_event ?hg (N := 2) ?hd (cs := #[.int .i64 a0_0, .int .i64 a0_1]) (t := 24) ?hr ?_; (case hd => rfl); (case hg => rfl); (case hr => first | (go_simp; done) | (go_simp; rfl)); intro gb225 hg w5 hbox hb; have BK225 := zM (hbox); have GW225 := zM (bs_ hg); have GE225 := zM (bs_ hg); replace HB := zM (zB bel_ hb); clear hb hbox hg; have hcz6_0 : w5.cell? ⟨gb225, 0, none⟩ = some (.int .i64 a0_0) := (zL BK225.out 0).trans rfl; have hcz6_1 : w5.cell? ⟨gb225, 1, none⟩ = some (.int .i64 a0_1) := (zL BK225.out 1).trans rfl; have hfz6_0 := zF BK225.out 0; have hfz6_1 := zF BK225.out 1) | (go_at_call 38; (with_reducible refine (ropewayref04_bit.calls k a0_0 a1 t226 _ A3.out).mono ?_); rintro e w' ⟨rfl, ⟨nd, rfl⟩⟩; (try first | exact ⟨rfl, _, World.drewN_drewN _ _ _⟩ | exact ⟨rfl, _, Eq.trans (World.drewN_drewN _ _ _) (congrArg (World.drewN _) (Nat.add_assoc _ _ _))⟩)) | (go_at_call 38; (with_reducible refine (ropewayref04_bit.calls k a0_1 a1 t227 _ A4.out).mono ?_); rintro e w' ⟨rfl, ⟨nd, rfl⟩⟩; (try first | exact ⟨rfl, _, World.drewN_drewN _ _ _⟩ | exact ⟨rfl, _, Eq.trans (World.drewN_drewN _ _ _) (congrArg (World.drewN _) (Nat.add_assoc _ _ _))⟩)))
  repeat (go_quiet (first | ((with_reducible refine gate_dst (N := 2) rfl ?_); refine box_event ?hg (N := 2) ?hd (cs := #[.int .i64 a0_0, .int .i64 a0_1]) (t := 24) ?hr ?_; (case hd => rfl); (case hg => rfl); (case hr => first | (go_simp; done) | (go_simp; rfl)); intro gb225 hg w5 hbox hb; have BK225 := zM (hbox); have GW225 := zM (bs_ hg); have GE225 := zM (bs_ hg); replace HB := zM (zB bel_ hb); clear hb hbox hg; have hcz6_0 : w5.cell? ⟨gb225, 0, none⟩ = some (.int .i64 a0_0) := (zL BK225.out 0).trans rfl; have hcz6_1 : w5.cell? ⟨gb225, 1, none⟩ = some (.int .i64 a0_1) := (zL BK225.out 1).trans rfl; have hfz6_0 := zF BK225.out 0; have hfz6_1 := zF BK225.out 1) | (go_at_call 38; (with_reducible refine (ropewayref04_bit.calls k a0_0 a1 t226 _ A3.out).mono ?_); rintro e w' ⟨rfl, ⟨nd, rfl⟩⟩; (try first | exact ⟨rfl, _, World.drewN_drewN _ _ _⟩ | exact ⟨rfl, _, Eq.trans (World.drewN_drewN _ _ _) (congrArg (World.drewN _) (Nat.add_assoc _ _ _))⟩)) | (go_at_call 38; (with_reducible refine (ropewayref04_bit.calls k a0_1 a1 t227 _ A4.out).mono ?_); rintro e w' ⟨rfl, ⟨nd, rfl⟩⟩; (try first | exact ⟨rfl, _, World.drewN_drewN _ _ _⟩ | exact ⟨rfl, _, Eq.trans (World.drewN_drewN _ _ _) (congrArg (World.drewN _) (Nat.add_assoc _ _ _))⟩))); try go_wp2_with (first | ((with_reducible refine gate_dst (N := 2) rfl ?_); refine box_event ?hg (N := 2) ?hd (cs := #[.int .i64 a0_0, .int .i64 a0_1]) (t := 24) ?hr ?_; (case hd => rfl); (case hg => rfl); (case hr => first | (go_simp; done) | (go_simp; rfl)); intro gb225 hg w5 hbox hb; have BK225 := zM (hbox); have GW225 := zM (bs_ hg); have GE225 := zM (bs_ hg); replace HB := zM (zB bel_ hb); clear hb hbox hg; have hcz6_0 : w5.cell? ⟨gb225, 0, none⟩ = some (.int .i64 a0_0) := (zL BK225.out 0).trans rfl; have hcz6_1 : w5.cell? ⟨gb225, 1, none⟩ = some (.int .i64 a0_1) := (zL BK225.out 1).trans rfl; have hfz6_0 := zF BK225.out 0; have hfz6_1 := zF BK225.out 1) | (go_at_call 38; (with_reducible refine (ropewayref04_bit.calls k a0_0 a1 t226 _ A3.out).mono ?_); rintro e w' ⟨rfl, ⟨nd, rfl⟩⟩; (try first | exact ⟨rfl, _, World.drewN_drewN _ _ _⟩ | exact ⟨rfl, _, Eq.trans (World.drewN_drewN _ _ _) (congrArg (World.drewN _) (Nat.add_assoc _ _ _))⟩)) | (go_at_call 38; (with_reducible refine (ropewayref04_bit.calls k a0_1 a1 t227 _ A4.out).mono ?_); rintro e w' ⟨rfl, ⟨nd, rfl⟩⟩; (try first | exact ⟨rfl, _, World.drewN_drewN _ _ _⟩ | exact ⟨rfl, _, Eq.trans (World.drewN_drewN _ _ _) (congrArg (World.drewN _) (Nat.add_assoc _ _ _))⟩))))
  go_ret2
  exact ⟨by first | rfl | (simp [errW_none, errW_some] <;> rfl) | (simp [*, errW_none, errW_some] <;> rfl), bel_⟩
/-! ### ropewayref04_set: function 31 -/
def ropewayref04_set.l0 : Nat → Int → Int → Bool → Bool → Bool → Bool → Bool → Bool → Bool → Bool → Bool → Bool → Bool → Bool → Int → Int → Option (Int × Int)
  | 0, _, _, _, _, _, _, _, _, _, _, _, _, _, _, _, _ => none
  | k + 1, x6, x7, x229000, x229001, x229002, x229003, x229004, x229005, x230000, x230001, x230002, x230003, x230004, x230005, x232000, x232001 => if x7 < 6 then (if 0 ≤ x7 then (if rdOf false [x229000, x229001, x229002, x229003, x229004, x229005] x7 = true then (if rdOf false [x230000, x230001, x230002, x230003, x230004, x230005] x7 = true then (ropewayref04_set.l0 k (wrap64 (2 * x6)) (wrap64 (x7 + 1)) x229000 x229001 x229002 x229003 x229004 x229005 x230000 x230001 x230002 x230003 x230004 x230005 (wrap64 (x232000 + x6)) (wrap64 (x232001 + x6))) else (ropewayref04_set.l0 k (wrap64 (2 * x6)) (wrap64 (x7 + 1)) x229000 x229001 x229002 x229003 x229004 x229005 x230000 x230001 x230002 x230003 x230004 x230005 (wrap64 (x232000 + x6)) x232001)) else (if rdOf false [x230000, x230001, x230002, x230003, x230004, x230005] x7 = true then (ropewayref04_set.l0 k (wrap64 (2 * x6)) (wrap64 (x7 + 1)) x229000 x229001 x229002 x229003 x229004 x229005 x230000 x230001 x230002 x230003 x230004 x230005 x232000 (wrap64 (x232001 + x6))) else (ropewayref04_set.l0 k (wrap64 (2 * x6)) (wrap64 (x7 + 1)) x229000 x229001 x229002 x229003 x229004 x229005 x230000 x230001 x230002 x230003 x230004 x230005 x232000 x232001))) else (none)) else (some (x232000, x232001))
def ropewayref04_set.f (k : Nat) (a0_0 : Bool) (a0_1 : Bool) (a0_2 : Bool) (a0_3 : Bool) (a0_4 : Bool) (a0_5 : Bool) (a1_0 : Bool) (a1_1 : Bool) (a1_2 : Bool) (a1_3 : Bool) (a1_4 : Bool) (a1_5 : Bool) : Option (Int × Int) := ropewayref04_set.l0 k 1 0 a0_0 a0_1 a0_2 a0_3 a0_4 a0_5 a1_0 a1_1 a1_2 a1_3 a1_4 a1_5 0 0
theorem ropewayref04_set.mono_l : ∀ k, (∀ y0 y1 y2 y3 y4 y5 y6 y7 y8 y9 y10 y11 y12 y13 y14 y15, LeO (ropewayref04_set.l0 k y0 y1 y2 y3 y4 y5 y6 y7 y8 y9 y10 y11 y12 y13 y14 y15) (ropewayref04_set.l0 (k + 1) y0 y1 y2 y3 y4 y5 y6 y7 y8 y9 y10 y11 y12 y13 y14 y15))
  | 0 => fun _ _ _ _ _ _ _ _ _ _ _ _ _ _ _ _ r h => by simp [ropewayref04_set.l0] at h
  | k + 1 => by
    have ih0 := ropewayref04_set.mono_l k
    · intro y0 y1 y2 y3 y4 y5 y6 y7 y8 y9 y10 y11 y12 y13 y14 y15
      unfold ropewayref04_set.l0
      repeat' first
      | (with_reducible exact ih0 _ _ _ _ _ _ _ _ _ _ _ _ _ _ _ _)
      | (with_reducible exact LeO.refl _)
      | (with_reducible exact LeO.none _)
      | (with_reducible refine LeO.ite ?_ ?_)
      | (with_reducible refine LeO.bind ?_ (fun _ => ?_))
      | exact ih0 _ _ _ _ _ _ _ _ _ _ _ _ _ _ _ _
      | exact LeO.none _
      | refine LeO.ite ?_ ?_
      | refine LeO.bind ?_ (fun _ => ?_)
theorem ropewayref04_set.mono : ∀ a0 a1 a2 a3 a4 a5 a6 a7 a8 a9 a10 a11 k, LeO (ropewayref04_set.f k a0 a1 a2 a3 a4 a5 a6 a7 a8 a9 a10 a11) (ropewayref04_set.f (k + 1) a0 a1 a2 a3 a4 a5 a6 a7 a8 a9 a10 a11) := by
  intro a0 a1 a2 a3 a4 a5 a6 a7 a8 a9 a10 a11 k
  have ih0 := ropewayref04_set.mono_l k
  unfold ropewayref04_set.f
  repeat' first
      | (with_reducible exact ih0 _ _ _ _ _ _ _ _ _ _ _ _ _ _ _ _)
      | (with_reducible exact LeO.refl _)
      | (with_reducible exact LeO.none _)
      | (with_reducible refine LeO.ite ?_ ?_)
      | (with_reducible refine LeO.bind ?_ (fun _ => ?_))
      | exact ih0 _ _ _ _ _ _ _ _ _ _ _ _ _ _ _ _
      | exact LeO.none _
      | refine LeO.ite ?_ ?_
      | refine LeO.bind ?_ (fun _ => ?_)
set_option maxHeartbeats 8000000 in
set_option maxRecDepth 100000 in
theorem ropewayref04_set.calls (k : Nat) (a0_0 : Bool) (a0_1 : Bool) (a0_2 : Bool) (a0_3 : Bool) (a0_4 : Bool) (a0_5 : Bool) (a1_0 : Bool) (a1_1 : Bool) (a1_2 : Bool) (a1_3 : Bool) (a1_4 : Bool) (a1_5 : Bool) (r1 : Int) (r2 : Int) (w : World) (h : ropewayref04_set.f k a0_0 a0_1 a0_2 a0_3 a0_4 a0_5 a1_0 a1_1 a1_2 a1_3 a1_4 a1_5 = some (r1, r2)) :
    Calls Try.prog 31 #[.agg #[.bool a0_0, .bool a0_1, .bool a0_2, .bool a0_3, .bool a0_4, .bool a0_5], .agg #[.bool a1_0, .bool a1_1, .bool a1_2, .bool a1_3, .bool a1_4, .bool a1_5]] w fun e w' => e = .returned (.agg #[.int .i64 r1, .int .i64 r2]) ∧ Below w.heap.size w w' := by
  have hu55 := Try.underlying55
  have hu24 := Try.underlying24
  have HB := zM (Below.refl w.heap.size w)
  have H : (ropewayref04_set.l0 k 1 0 a0_0 a0_1 a0_2 a0_3 a0_4 a0_5 a1_0 a1_1 a1_2 a1_3 a1_4 a1_5 0 0) = some (r1, r2) := h
  clear h
  have H' := zM H
  clear H
  go_enter Try.func31, Try.ntmps31
  go_wp2_with (first | ((with_reducible refine gate_dst (N := 2) rfl ?_); refine box_event ?hg (N := 2) ?hd (cs := #[.bool a0_0, .bool a0_1, .bool a0_2, .bool a0_3, .bool a0_4, .bool a0_5]) (t := 55) ?hr ?_; (case hd => rfl); (case hg => rfl); (case hr => first | (go_simp; done) | (go_simp; rfl)); intro gb228 hg w3 hbox hb; have BK228 := zM (hbox); have GW228 := zM (bs_ hg); have GE228 := zM (bs_ hg); replace HB := zM (zB bel_ hb); clear hb hbox hg) | ((with_reducible refine gate_dst (N := 3) rfl ?_); refine box_event ?hg (N := 3) ?hd (cs := #[.bool a1_0, .bool a1_1, .bool a1_2, .bool a1_3, .bool a1_4, .bool a1_5]) (t := 55) ?hr ?_; (case hd => rfl); (case hg => rfl); (case hr => first | (go_simp; done) | (go_simp; rfl)); intro gb229 hg w4 hbox hb; have BK229 := zM (hbox); have GW229 := zM (bs_ hg); have GE229 := zM (bs_ hg); replace HB := zM (zB bel_ hb); have NB228_229 := zM (nl_ BK228 hg); have NB229_228 := zM (ng_ BK228 hg); replace BK228 := zM (bb_ BK228 hb); clear hb hbox hg) | ((with_reducible refine gate_dst (N := 4) rfl ?_); refine box_event ?hg (N := 4) ?hd (cs := #[.int .i64 0, .int .i64 0]) (t := 24) ?hr ?_; (case hd => rfl); (case hg => rfl); (case hr => first | (go_simp; done) | (go_simp; rfl)); intro gb230 hg w5 hbox hb; have BK230 := zM (hbox); have GW230 := zM (bs_ hg); have GE230 := zM (bs_ hg); replace HB := zM (zB bel_ hb); have NB228_230 := zM (nl_ BK228 hg); have NB230_228 := zM (ng_ BK228 hg); replace BK228 := zM (bb_ BK228 hb); have NB229_230 := zM (nl_ BK229 hg); have NB230_229 := zM (ng_ BK229 hg); replace BK229 := zM (bb_ BK229 hb); clear hb hbox hg) | ((with_reducible refine gate_dst (N := 5) rfl ?_); refine box_event ?hg (N := 5) ?hd (cs := #[.int .i64 0, .int .i64 0]) (t := 24) ?hr ?_; (case hd => rfl); (case hg => rfl); (case hr => first | (go_simp; done) | (go_simp; rfl)); intro gb231 hg w6 hbox hb; have BK231 := zM (hbox); have GW231 := zM (bs_ hg); have GE231 := zM (bs_ hg); replace HB := zM (zB bel_ hb); have NB228_231 := zM (nl_ BK228 hg); have NB231_228 := zM (ng_ BK228 hg); replace BK228 := zM (bb_ BK228 hb); have NB229_231 := zM (nl_ BK229 hg); have NB231_229 := zM (ng_ BK229 hg); replace BK229 := zM (bb_ BK229 hb); have NB230_231 := zM (nl_ BK230 hg); have NB231_230 := zM (ng_ BK230 hg); replace BK230 := zM (bb_ BK230 hb); clear hb hbox hg; have hnb7 := NB231_228.out; have hnc7 := NB228_231.out; have hnb8 := NB231_229.out; have hnc8 := NB229_231.out; have hnb9 := NB231_230.out; have hnc9 := NB230_231.out; have hcz10_0 : w6.cell? ⟨gb231, 0, none⟩ = some (.int .i64 0) := (zL BK231.out 0).trans rfl; have hcz10_1 : w6.cell? ⟨gb231, 1, none⟩ = some (.int .i64 0) := (zL BK231.out 1).trans rfl; have hfz10_0 := zF BK231.out 0; have hfz10_1 := zF BK231.out 1))
  go_loopg [6, 7] k (fun kq v6 v7 w' => ∃ (x6_1 : Int) (x7_1 : Int) (x232000_1 : Int) (x232001_1 : Int), v6 = .int .i64 x6_1 ∧ v7 = .int .i64 x7_1 ∧ Aside0 (ropewayref04_set.l0 kq x6_1 x7_1 a0_0 a0_1 a0_2 a0_3 a0_4 a0_5 a1_0 a1_1 a1_2 a1_3 a1_4 a1_5 x232000_1 x232001_1 = some (r1, r2)) ∧ Aside0 (kq ≤ k) ∧ Aside0 (w'.heap[gb228]? = some (.cells #[.bool a0_0, .bool a0_1, .bool a0_2, .bool a0_3, .bool a0_4, .bool a0_5] 55 (0, 0))) ∧ Aside0 (w'.heap[gb229]? = some (.cells #[.bool a1_0, .bool a1_1, .bool a1_2, .bool a1_3, .bool a1_4, .bool a1_5] 55 (0, 0))) ∧ Aside0 (w'.heap[gb230]? = some (.cells #[.int .i64 0, .int .i64 0] 24 (0, 0))) ∧ Aside0 (w'.heap[gb231]? = some (.cells #[.int .i64 x232000_1, .int .i64 x232001_1] 24 (0, 0))) ∧ Aside0 (Below w.heap.size w w'))
  case atStart => exact ⟨(1), (0), (0), (0), (by first | rfl | (simp; done) | (simp [*]; done) | (simp; grind)), (by first | rfl | (simp; done) | (simp [*]; done) | (simp; grind)), H', ⟨Nat.le_refl _⟩, ⟨blf_⟩, ⟨blf_⟩, ⟨blf_⟩, ⟨by (with_reducible repeat (first | refine zN ?_ _ | refine zD ?_ | refine zA ?_ _)); refine blk_put (cs := #[.int .i64 0, .int .i64 0]) ?_ 1 _ rfl; (with_reducible repeat (first | refine zN ?_ _ | refine zD ?_ | refine zA ?_ _)); refine blk_put (cs := #[.int .i64 0, .int .i64 0]) ?_ 0 _ rfl; (with_reducible repeat (first | refine zN ?_ _ | refine zD ?_ | refine zA ?_ _)); exact BK231.out⟩, ⟨bel_⟩⟩
  case round =>
   clear H'
   try clear p2
   try clear c3
   try clear c7
   try clear c8
   try clear c9
   try clear hcz10_0
   try clear hcz10_1
   try clear hfz10_0
   try clear hfz10_1
   obtain ⟨x6_1, x7_1, x232000_1, x232001_1, rfl, rfl, HA, HK1, BK228, BK229, BK230, BK231, HB⟩ := hrel
   cases gk with
   | zero => exact absurd HA.out (by simp [ropewayref04_set.l0])
   | succ k1 =>
    have H := HA.out
    clear HA
    simp only [ropewayref04_set.l0] at H
    by_cases c11 : x7_1 < 6
    rotate_left
    · rw [if_neg c11] at H
      have c11b0 : decide (x7_1 < 6) = false := decide_eq_false c11
      clear c11
      simp only [Option.some.injEq, Prod.mk.injEq] at H
      obtain ⟨rfl, rfl⟩ := H
      have hnb53 := NB231_228.out
      have hnc53 := NB228_231.out
      have hnb54 := NB231_229.out
      have hnc54 := NB229_231.out
      have hnb55 := NB231_230.out
      have hnc55 := NB230_231.out
      have hcz56_0 : wr.cell? ⟨gb231, 0, none⟩ = some (.int .i64 x232000_1) := (zL BK231.out 0).trans rfl
      have hcz56_1 : wr.cell? ⟨gb231, 1, none⟩ = some (.int .i64 x232001_1) := (zL BK231.out 1).trans rfl
      have hfz56_0 := zF BK231.out 0
      have hfz56_1 := zF BK231.out 1
      have hnb57 := NB230_228.out
      have hnc57 := NB228_230.out
      have hnb58 := NB230_229.out
      have hnc58 := NB229_230.out
      have hcz59_0 : wr.cell? ⟨gb230, 0, none⟩ = some (.int .i64 0) := (zL BK230.out 0).trans rfl
      have hcz59_1 : wr.cell? ⟨gb230, 1, none⟩ = some (.int .i64 0) := (zL BK230.out 1).trans rfl
      have hfz59_0 := zF BK230.out 0
      have hfz59_1 := zF BK230.out 1
      go_wp2
      refine bodyPost_ret (results_cell_row rfl _ _ gb230 24 #[.int .i64 x232000_1, .int .i64 x232001_1] (0, 0) _ rfl (by (with_reducible repeat (first | refine zN ?_ _ | refine zD ?_ | refine zA ?_ _)); refine blk_put (cs := #[.int .i64 x232000_1, .int .i64 0]) ?_ 1 _ rfl; (with_reducible repeat (first | refine zN ?_ _ | refine zD ?_ | refine zA ?_ _)); refine blk_put (cs := #[.int .i64 0, .int .i64 0]) ?_ 0 _ rfl; (with_reducible repeat (first | refine zN ?_ _ | refine zD ?_ | refine zA ?_ _)); exact BK230.out) Try.underlying24 rfl (by kernel_rfl)) rfl ?_
      exact ⟨by first | rfl | (simp [errW_none, errW_some] <;> rfl) | (simp [*, errW_none, errW_some] <;> rfl), bel_⟩
    rw [if_pos c11] at H
    have c11b0 : decide (x7_1 < 6) = true := decide_eq_true c11
    clear c11
    by_cases c12 : 0 ≤ x7_1
    rotate_left
    · rw [if_neg c12] at H
      exact absurd H (by simp)
    rw [if_pos c12] at H
    have c12b0 : decide (0 ≤ x7_1) = true := decide_eq_true c12
    clear c12
    obtain ⟨bq13, hbq13⟩ : ∃ b_ : Bool, b_ = (rdOf false [a0_0, a0_1, a0_2, a0_3, a0_4, a0_5] x7_1) := ⟨_, rfl⟩
    replace H : (if bq13 = true then (if rdOf false [a1_0, a1_1, a1_2, a1_3, a1_4, a1_5] x7_1 = true then (ropewayref04_set.l0 k1 (wrap64 (2 * x6_1)) (wrap64 (x7_1 + 1)) a0_0 a0_1 a0_2 a0_3 a0_4 a0_5 a1_0 a1_1 a1_2 a1_3 a1_4 a1_5 (wrap64 (x232000_1 + x6_1)) (wrap64 (x232001_1 + x6_1))) else (ropewayref04_set.l0 k1 (wrap64 (2 * x6_1)) (wrap64 (x7_1 + 1)) a0_0 a0_1 a0_2 a0_3 a0_4 a0_5 a1_0 a1_1 a1_2 a1_3 a1_4 a1_5 (wrap64 (x232000_1 + x6_1)) x232001_1)) else (if rdOf false [a1_0, a1_1, a1_2, a1_3, a1_4, a1_5] x7_1 = true then (ropewayref04_set.l0 k1 (wrap64 (2 * x6_1)) (wrap64 (x7_1 + 1)) a0_0 a0_1 a0_2 a0_3 a0_4 a0_5 a1_0 a1_1 a1_2 a1_3 a1_4 a1_5 x232000_1 (wrap64 (x232001_1 + x6_1))) else (ropewayref04_set.l0 k1 (wrap64 (2 * x6_1)) (wrap64 (x7_1 + 1)) a0_0 a0_1 a0_2 a0_3 a0_4 a0_5 a1_0 a1_1 a1_2 a1_3 a1_4 a1_5 x232000_1 x232001_1))) = some (r1, r2) := by rw [← hbq13] at H; exact H
    have Nbq13 := zM hbq13
    clear hbq13
    by_cases c14 : bq13 = true
    rotate_left
    · replace c14 := Bool.eq_false_iff.mpr c14
      subst c14
      have H1 : (if rdOf false [a1_0, a1_1, a1_2, a1_3, a1_4, a1_5] x7_1 = true then (ropewayref04_set.l0 k1 (wrap64 (2 * x6_1)) (wrap64 (x7_1 + 1)) a0_0 a0_1 a0_2 a0_3 a0_4 a0_5 a1_0 a1_1 a1_2 a1_3 a1_4 a1_5 x232000_1 (wrap64 (x232001_1 + x6_1))) else (ropewayref04_set.l0 k1 (wrap64 (2 * x6_1)) (wrap64 (x7_1 + 1)) a0_0 a0_1 a0_2 a0_3 a0_4 a0_5 a1_0 a1_1 a1_2 a1_3 a1_4 a1_5 x232000_1 x232001_1)) = some (r1, r2) := by rw [if_neg (show ¬ (false = true) by decide)] at H; exact H
      clear H
      have H := H1
      clear H1
      obtain ⟨bq35, hbq35⟩ : ∃ b_ : Bool, b_ = (rdOf false [a1_0, a1_1, a1_2, a1_3, a1_4, a1_5] x7_1) := ⟨_, rfl⟩
      replace H : (if bq35 = true then (ropewayref04_set.l0 k1 (wrap64 (2 * x6_1)) (wrap64 (x7_1 + 1)) a0_0 a0_1 a0_2 a0_3 a0_4 a0_5 a1_0 a1_1 a1_2 a1_3 a1_4 a1_5 x232000_1 (wrap64 (x232001_1 + x6_1))) else (ropewayref04_set.l0 k1 (wrap64 (2 * x6_1)) (wrap64 (x7_1 + 1)) a0_0 a0_1 a0_2 a0_3 a0_4 a0_5 a1_0 a1_1 a1_2 a1_3 a1_4 a1_5 x232000_1 x232001_1)) = some (r1, r2) := by rw [← hbq35] at H; exact H
      have Nbq35 := zM hbq35
      clear hbq35
      by_cases c36 : bq35 = true
      rotate_left
      · replace c36 := Bool.eq_false_iff.mpr c36
        subst c36
        have H1 : (ropewayref04_set.l0 k1 (wrap64 (2 * x6_1)) (wrap64 (x7_1 + 1)) a0_0 a0_1 a0_2 a0_3 a0_4 a0_5 a1_0 a1_1 a1_2 a1_3 a1_4 a1_5 x232000_1 x232001_1) = some (r1, r2) := by rw [if_neg (show ¬ (false = true) by decide)] at H; exact H
        clear H
        have H := H1
        clear H1
        have H' := zM H
        clear H
        have hnb46 := NB228_229.out
        have hnc46 := NB229_228.out
        have hnb47 := NB228_230.out
        have hnc47 := NB230_228.out
        have hnb48 := NB228_231.out
        have hnc48 := NB231_228.out
        have pdz49 : 0 ≤ (x7_1 : Int) := (of_decide_eq_true (by first | (with_reducible assumption) | assumption))
        have qdz49 : (x7_1 : Int) < 6 := (of_decide_eq_true (by first | (with_reducible assumption) | assumption))
        have hcdz49 : wr.cell? ⟨gb228, (x7_1 : Int).toNat, none⟩ = some (.bool (rdOf false [a0_0, a0_1, a0_2, a0_3, a0_4, a0_5] x7_1)) := arrC6 BK228.out x7_1 pdz49 qdz49
        have hfdz49 := zF BK228.out (x7_1 : Int).toNat
        (try rw [← Nbq13.out] at hcdz49)
        (try rw [← Nbq35.out] at hcdz49)
        replace pdz49 := eq_true pdz49
        replace qdz49 := eq_true qdz49
        have hnb50 := NB229_230.out
        have hnc50 := NB230_229.out
        have hnb51 := NB229_231.out
        have hnc51 := NB231_229.out
        have pdz52 : 0 ≤ (x7_1 : Int) := (of_decide_eq_true (by first | (with_reducible assumption) | assumption))
        have qdz52 : (x7_1 : Int) < 6 := (of_decide_eq_true (by first | (with_reducible assumption) | assumption))
        have hcdz52 : wr.cell? ⟨gb229, (x7_1 : Int).toNat, none⟩ = some (.bool (rdOf false [a1_0, a1_1, a1_2, a1_3, a1_4, a1_5] x7_1)) := arrC6 BK229.out x7_1 pdz52 qdz52
        have hfdz52 := zF BK229.out (x7_1 : Int).toNat
        (try rw [← Nbq13.out] at hcdz52)
        (try rw [← Nbq35.out] at hcdz52)
        replace pdz52 := eq_true pdz52
        replace qdz52 := eq_true qdz52
        go_wp2
        go_roundg k1
        case measure => have := HK1.out; omega
        case rel => exact ⟨(wrap64 (2 * x6_1)), (wrap64 (x7_1 + 1)), (x232000_1), (x232001_1), (by first | rfl | (simp; done) | (simp [*]; done) | (simp; grind)), (by first | rfl | (simp; done) | (simp [*]; done) | (simp; grind)), H', ⟨by have := HK1.out; omega⟩, ⟨blf_⟩, ⟨blf_⟩, ⟨blf_⟩, ⟨blf_⟩, ⟨bel_⟩⟩
      subst c36
      have H1 : (ropewayref04_set.l0 k1 (wrap64 (2 * x6_1)) (wrap64 (x7_1 + 1)) a0_0 a0_1 a0_2 a0_3 a0_4 a0_5 a1_0 a1_1 a1_2 a1_3 a1_4 a1_5 x232000_1 (wrap64 (x232001_1 + x6_1))) = some (r1, r2) := by rw [if_pos rfl] at H; exact H
      clear H
      have H := H1
      clear H1
      have H' := zM H
      clear H
      have hnb37 := NB228_229.out
      have hnc37 := NB229_228.out
      have hnb38 := NB228_230.out
      have hnc38 := NB230_228.out
      have hnb39 := NB228_231.out
      have hnc39 := NB231_228.out
      have pdz40 : 0 ≤ (x7_1 : Int) := (of_decide_eq_true (by first | (with_reducible assumption) | assumption))
      have qdz40 : (x7_1 : Int) < 6 := (of_decide_eq_true (by first | (with_reducible assumption) | assumption))
      have hcdz40 : wr.cell? ⟨gb228, (x7_1 : Int).toNat, none⟩ = some (.bool (rdOf false [a0_0, a0_1, a0_2, a0_3, a0_4, a0_5] x7_1)) := arrC6 BK228.out x7_1 pdz40 qdz40
      have hfdz40 := zF BK228.out (x7_1 : Int).toNat
      (try rw [← Nbq13.out] at hcdz40)
      (try rw [← Nbq35.out] at hcdz40)
      replace pdz40 := eq_true pdz40
      replace qdz40 := eq_true qdz40
      have hnb41 := NB229_230.out
      have hnc41 := NB230_229.out
      have hnb42 := NB229_231.out
      have hnc42 := NB231_229.out
      have pdz43 : 0 ≤ (x7_1 : Int) := (of_decide_eq_true (by first | (with_reducible assumption) | assumption))
      have qdz43 : (x7_1 : Int) < 6 := (of_decide_eq_true (by first | (with_reducible assumption) | assumption))
      have hcdz43 : wr.cell? ⟨gb229, (x7_1 : Int).toNat, none⟩ = some (.bool (rdOf false [a1_0, a1_1, a1_2, a1_3, a1_4, a1_5] x7_1)) := arrC6 BK229.out x7_1 pdz43 qdz43
      have hfdz43 := zF BK229.out (x7_1 : Int).toNat
      (try rw [← Nbq13.out] at hcdz43)
      (try rw [← Nbq35.out] at hcdz43)
      replace pdz43 := eq_true pdz43
      replace qdz43 := eq_true qdz43
      have hnb44 := NB231_230.out
      have hnc44 := NB230_231.out
      have hcz45_0 : wr.cell? ⟨gb231, 0, none⟩ = some (.int .i64 x232000_1) := (zL BK231.out 0).trans rfl
      have hcz45_1 : wr.cell? ⟨gb231, 1, none⟩ = some (.int .i64 x232001_1) := (zL BK231.out 1).trans rfl
      have hfz45_0 := zF BK231.out 0
      have hfz45_1 := zF BK231.out 1
      go_wp2
      go_roundg k1
      case measure => have := HK1.out; omega
      case rel => exact ⟨(wrap64 (2 * x6_1)), (wrap64 (x7_1 + 1)), (x232000_1), (wrap64 (x232001_1 + x6_1)), (by first | rfl | (simp; done) | (simp [*]; done) | (simp; grind)), (by first | rfl | (simp; done) | (simp [*]; done) | (simp; grind)), H', ⟨by have := HK1.out; omega⟩, ⟨blf_⟩, ⟨blf_⟩, ⟨blf_⟩, ⟨by (with_reducible repeat (first | refine zN ?_ _ | refine zD ?_ | refine zA ?_ _)); refine blk_put (cs := #[.int .i64 x232000_1, .int .i64 x232001_1]) ?_ 1 _ rfl; (with_reducible repeat (first | refine zN ?_ _ | refine zD ?_ | refine zA ?_ _)); exact BK231.out⟩, ⟨bel_⟩⟩
    subst c14
    have H1 : (if rdOf false [a1_0, a1_1, a1_2, a1_3, a1_4, a1_5] x7_1 = true then (ropewayref04_set.l0 k1 (wrap64 (2 * x6_1)) (wrap64 (x7_1 + 1)) a0_0 a0_1 a0_2 a0_3 a0_4 a0_5 a1_0 a1_1 a1_2 a1_3 a1_4 a1_5 (wrap64 (x232000_1 + x6_1)) (wrap64 (x232001_1 + x6_1))) else (ropewayref04_set.l0 k1 (wrap64 (2 * x6_1)) (wrap64 (x7_1 + 1)) a0_0 a0_1 a0_2 a0_3 a0_4 a0_5 a1_0 a1_1 a1_2 a1_3 a1_4 a1_5 (wrap64 (x232000_1 + x6_1)) x232001_1)) = some (r1, r2) := by rw [if_pos rfl] at H; exact H
    clear H
    have H := H1
    clear H1
    obtain ⟨bq15, hbq15⟩ : ∃ b_ : Bool, b_ = (rdOf false [a1_0, a1_1, a1_2, a1_3, a1_4, a1_5] x7_1) := ⟨_, rfl⟩
    replace H : (if bq15 = true then (ropewayref04_set.l0 k1 (wrap64 (2 * x6_1)) (wrap64 (x7_1 + 1)) a0_0 a0_1 a0_2 a0_3 a0_4 a0_5 a1_0 a1_1 a1_2 a1_3 a1_4 a1_5 (wrap64 (x232000_1 + x6_1)) (wrap64 (x232001_1 + x6_1))) else (ropewayref04_set.l0 k1 (wrap64 (2 * x6_1)) (wrap64 (x7_1 + 1)) a0_0 a0_1 a0_2 a0_3 a0_4 a0_5 a1_0 a1_1 a1_2 a1_3 a1_4 a1_5 (wrap64 (x232000_1 + x6_1)) x232001_1)) = some (r1, r2) := by rw [← hbq15] at H; exact H
    have Nbq15 := zM hbq15
    clear hbq15
    by_cases c16 : bq15 = true
    rotate_left
    · replace c16 := Bool.eq_false_iff.mpr c16
      subst c16
      have H1 : (ropewayref04_set.l0 k1 (wrap64 (2 * x6_1)) (wrap64 (x7_1 + 1)) a0_0 a0_1 a0_2 a0_3 a0_4 a0_5 a1_0 a1_1 a1_2 a1_3 a1_4 a1_5 (wrap64 (x232000_1 + x6_1)) x232001_1) = some (r1, r2) := by rw [if_neg (show ¬ (false = true) by decide)] at H; exact H
      clear H
      have H := H1
      clear H1
      have H' := zM H
      clear H
      have hnb26 := NB228_229.out
      have hnc26 := NB229_228.out
      have hnb27 := NB228_230.out
      have hnc27 := NB230_228.out
      have hnb28 := NB228_231.out
      have hnc28 := NB231_228.out
      have pdz29 : 0 ≤ (x7_1 : Int) := (of_decide_eq_true (by first | (with_reducible assumption) | assumption))
      have qdz29 : (x7_1 : Int) < 6 := (of_decide_eq_true (by first | (with_reducible assumption) | assumption))
      have hcdz29 : wr.cell? ⟨gb228, (x7_1 : Int).toNat, none⟩ = some (.bool (rdOf false [a0_0, a0_1, a0_2, a0_3, a0_4, a0_5] x7_1)) := arrC6 BK228.out x7_1 pdz29 qdz29
      have hfdz29 := zF BK228.out (x7_1 : Int).toNat
      (try rw [← Nbq13.out] at hcdz29)
      (try rw [← Nbq15.out] at hcdz29)
      replace pdz29 := eq_true pdz29
      replace qdz29 := eq_true qdz29
      have hnb30 := NB231_229.out
      have hnc30 := NB229_231.out
      have hnb31 := NB231_230.out
      have hnc31 := NB230_231.out
      have hcz32_0 : wr.cell? ⟨gb231, 0, none⟩ = some (.int .i64 x232000_1) := (zL BK231.out 0).trans rfl
      have hcz32_1 : wr.cell? ⟨gb231, 1, none⟩ = some (.int .i64 x232001_1) := (zL BK231.out 1).trans rfl
      have hfz32_0 := zF BK231.out 0
      have hfz32_1 := zF BK231.out 1
      have hnb33 := NB229_230.out
      have hnc33 := NB230_229.out
      have pdz34 : 0 ≤ (x7_1 : Int) := (of_decide_eq_true (by first | (with_reducible assumption) | assumption))
      have qdz34 : (x7_1 : Int) < 6 := (of_decide_eq_true (by first | (with_reducible assumption) | assumption))
      have hcdz34 : wr.cell? ⟨gb229, (x7_1 : Int).toNat, none⟩ = some (.bool (rdOf false [a1_0, a1_1, a1_2, a1_3, a1_4, a1_5] x7_1)) := arrC6 BK229.out x7_1 pdz34 qdz34
      have hfdz34 := zF BK229.out (x7_1 : Int).toNat
      (try rw [← Nbq13.out] at hcdz34)
      (try rw [← Nbq15.out] at hcdz34)
      replace pdz34 := eq_true pdz34
      replace qdz34 := eq_true qdz34
      go_wp2
      go_roundg k1
      case measure => have := HK1.out; omega
      case rel => exact ⟨(wrap64 (2 * x6_1)), (wrap64 (x7_1 + 1)), (wrap64 (x232000_1 + x6_1)), (x232001_1), (by first | rfl | (simp; done) | (simp [*]; done) | (simp; grind)), (by first | rfl | (simp; done) | (simp [*]; done) | (simp; grind)), H', ⟨by have := HK1.out; omega⟩, ⟨blf_⟩, ⟨blf_⟩, ⟨blf_⟩, ⟨by (with_reducible repeat (first | refine zN ?_ _ | refine zD ?_ | refine zA ?_ _)); refine blk_put (cs := #[.int .i64 x232000_1, .int .i64 x232001_1]) ?_ 0 _ rfl; (with_reducible repeat (first | refine zN ?_ _ | refine zD ?_ | refine zA ?_ _)); exact BK231.out⟩, ⟨bel_⟩⟩
    subst c16
    have H1 : (ropewayref04_set.l0 k1 (wrap64 (2 * x6_1)) (wrap64 (x7_1 + 1)) a0_0 a0_1 a0_2 a0_3 a0_4 a0_5 a1_0 a1_1 a1_2 a1_3 a1_4 a1_5 (wrap64 (x232000_1 + x6_1)) (wrap64 (x232001_1 + x6_1))) = some (r1, r2) := by rw [if_pos rfl] at H; exact H
    clear H
    have H := H1
    clear H1
    have H' := zM H
    clear H
    have hnb17 := NB228_229.out
    have hnc17 := NB229_228.out
    have hnb18 := NB228_230.out
    have hnc18 := NB230_228.out
    have hnb19 := NB228_231.out
    have hnc19 := NB231_228.out
    have pdz20 : 0 ≤ (x7_1 : Int) := (of_decide_eq_true (by first | (with_reducible assumption) | assumption))
    have qdz20 : (x7_1 : Int) < 6 := (of_decide_eq_true (by first | (with_reducible assumption) | assumption))
    have hcdz20 : wr.cell? ⟨gb228, (x7_1 : Int).toNat, none⟩ = some (.bool (rdOf false [a0_0, a0_1, a0_2, a0_3, a0_4, a0_5] x7_1)) := arrC6 BK228.out x7_1 pdz20 qdz20
    have hfdz20 := zF BK228.out (x7_1 : Int).toNat
    (try rw [← Nbq13.out] at hcdz20)
    (try rw [← Nbq15.out] at hcdz20)
    replace pdz20 := eq_true pdz20
    replace qdz20 := eq_true qdz20
    have hnb21 := NB231_229.out
    have hnc21 := NB229_231.out
    have hnb22 := NB231_230.out
    have hnc22 := NB230_231.out
    have hcz23_0 : wr.cell? ⟨gb231, 0, none⟩ = some (.int .i64 x232000_1) := (zL BK231.out 0).trans rfl
    have hcz23_1 : wr.cell? ⟨gb231, 1, none⟩ = some (.int .i64 x232001_1) := (zL BK231.out 1).trans rfl
    have hfz23_0 := zF BK231.out 0
    have hfz23_1 := zF BK231.out 1
    have hnb24 := NB229_230.out
    have hnc24 := NB230_229.out
    have pdz25 : 0 ≤ (x7_1 : Int) := (of_decide_eq_true (by first | (with_reducible assumption) | assumption))
    have qdz25 : (x7_1 : Int) < 6 := (of_decide_eq_true (by first | (with_reducible assumption) | assumption))
    have hcdz25 : wr.cell? ⟨gb229, (x7_1 : Int).toNat, none⟩ = some (.bool (rdOf false [a1_0, a1_1, a1_2, a1_3, a1_4, a1_5] x7_1)) := arrC6 BK229.out x7_1 pdz25 qdz25
    have hfdz25 := zF BK229.out (x7_1 : Int).toNat
    (try rw [← Nbq13.out] at hcdz25)
    (try rw [← Nbq15.out] at hcdz25)
    replace pdz25 := eq_true pdz25
    replace qdz25 := eq_true qdz25
    go_wp2
    go_roundg k1
    case measure => have := HK1.out; omega
    case rel => exact ⟨(wrap64 (2 * x6_1)), (wrap64 (x7_1 + 1)), (wrap64 (x232000_1 + x6_1)), (wrap64 (x232001_1 + x6_1)), (by first | rfl | (simp; done) | (simp [*]; done) | (simp; grind)), (by first | rfl | (simp; done) | (simp [*]; done) | (simp; grind)), H', ⟨by have := HK1.out; omega⟩, ⟨blf_⟩, ⟨blf_⟩, ⟨blf_⟩, ⟨by (with_reducible repeat (first | refine zN ?_ _ | refine zD ?_ | refine zA ?_ _)); refine blk_put (cs := #[.int .i64 (wrap64 (x232000_1 + x6_1)), .int .i64 x232001_1]) ?_ 1 _ rfl; (with_reducible repeat (first | refine zN ?_ _ | refine zD ?_ | refine zA ?_ _)); refine blk_put (cs := #[.int .i64 x232000_1, .int .i64 x232001_1]) ?_ 0 _ rfl; (with_reducible repeat (first | refine zN ?_ _ | refine zD ?_ | refine zA ?_ _)); exact BK231.out⟩, ⟨bel_⟩⟩
end Go.Proofs.Ytjfmhahlmnnacaa.PFrontSteps
