/- Written by a program of this session (wip/tool/px.py) over the kit's print: what the code that the law RoundStays reaches computes, function by function, and the law's row. -/
import Derived.Test.YtmgiaappokkjfaaPRoundStaysx0
import Derived.Test.YtmgiaappokkjfaaPRoundStaysx2
import Derived.Test.YtmgiaappokkjfaaPRoundStaysx7
namespace Go.Proofs.Ytmgiaappokkjfaa.PRoundStays
open Go.RowKit Go.Proofs.YtmgiaappokkjfaaX Go.Proofs.YtmgiaappokkjfaaW.PrintWords Go.Proofs.YtmgiaappokkjfaaW.PrintLast Go.Proofs.YtmgiaappokkjfaaW.PrintMore
open List renaming setIfInBounds_toArray → zS, set_cons_zero → zZ, set_cons_succ → zC
open Go.Proofs.YtmgiaappokkjfaaW.PrintWords renaming blk_drewN → zN, blk_drew → zD, blk_alloc → zA, blk_cell → zL, blk_frozen → zF, below_step → zB
open Go.Proofs.YtmgiaappokkjfaaW.PrintWords.Aside0 renaming mk → zM
attribute [local go_sem] max2_int min2_int max_two min_two max_three min_three max_four min_four   -- for this text's walks alone
set_option linter.unusedVariables false
set_option linter.unusedSimpArgs false

attribute [local go_sem] px_store_float px_neg_float
attribute [local go_sem] px_eqarr67 px_nilq24 px_nilq25
/-! ### slices_Index_int_int: function 88 -/
def slices_Index_int_int.l0 : Nat → List Int → Int → Int → Int → Option (Int)
  | 0, _, _, _, _ => none
  | k + 1, x0, x1, x7, x8 => if x8 < x7 then (if 0 ≤ x8 then (if x8 < (x0.length : Int) then (if x1 = (rd x0 x8) then (some x8) else (slices_Index_int_int.l0 k x0 x1 x7 (wrap64 (x8 + 1)))) else (none)) else (none)) else (some (-1))
def slices_Index_int_int.f (k : Nat) (l0 : List Int) (a1 : Int) : Option (Int) := slices_Index_int_int.l0 k l0 a1 (l0.length : Int) 0
theorem slices_Index_int_int.mono_l : ∀ k, (∀ y0 y1 y2 y3, LeO (slices_Index_int_int.l0 k y0 y1 y2 y3) (slices_Index_int_int.l0 (k + 1) y0 y1 y2 y3))
  | 0 => fun _ _ _ _ r h => by simp [slices_Index_int_int.l0] at h
  | k + 1 => by
    have ih0 := slices_Index_int_int.mono_l k
    · intro y0 y1 y2 y3
      unfold slices_Index_int_int.l0
      repeat' first
      | (with_reducible exact ih0 _ _ _ _)
      | (with_reducible exact LeO.refl _)
      | (with_reducible exact LeO.none _)
      | (with_reducible refine LeO.ite ?_ ?_)
      | (with_reducible refine LeO.bind ?_ (fun _ => ?_))
      | exact ih0 _ _ _ _
      | exact LeO.none _
      | refine LeO.ite ?_ ?_
      | refine LeO.bind ?_ (fun _ => ?_)
theorem slices_Index_int_int.mono : ∀ a0 a1 k, LeO (slices_Index_int_int.f k a0 a1) (slices_Index_int_int.f (k + 1) a0 a1) := by
  intro a0 a1 k
  have ih0 := slices_Index_int_int.mono_l k
  unfold slices_Index_int_int.f
  repeat' first
      | (with_reducible exact ih0 _ _ _ _)
      | (with_reducible exact LeO.refl _)
      | (with_reducible exact LeO.none _)
      | (with_reducible refine LeO.ite ?_ ?_)
      | (with_reducible refine LeO.bind ?_ (fun _ => ?_))
      | exact ih0 _ _ _ _
      | exact LeO.none _
      | refine LeO.ite ?_ ?_
      | refine LeO.bind ?_ (fun _ => ?_)
set_option maxHeartbeats 8000000 in
set_option maxRecDepth 100000 in
theorem slices_Index_int_int.calls (k : Nat) (A0 : Option Addr) (c0 : Nat) (l0 : List Int) (a1 : Int) (r : Int) (w : World) (hr0 : Kd.C (Kd.int .i64) w A0 l0.length l0) (hc0 : l0.length ≤ c0) (h : slices_Index_int_int.f k l0 a1 = some r) :
    Calls Try.prog 88 #[.slice A0 l0.length c0, .int .i64 a1] w fun e w' => e = .returned (.int .i64 r) ∧ Drawn0 w w' := by
  have HR0 := zM hr0
  have HC0 := zM hc0
  clear hr0 hc0
  have H : (slices_Index_int_int.l0 k l0 a1 (l0.length : Int) 0) = some r := h
  clear h
  have H' := zM H
  clear H
  go_enter Try.func88, Try.ntmps88
  go_wp2
  go_loopg [8] k (fun kq v8 w' => ∃ (x8_1 : Int), v8 = .int .i64 x8_1 ∧ Aside0 (slices_Index_int_int.l0 kq l0 a1 (l0.length : Int) x8_1 = some r) ∧ Aside0 (kq ≤ k) ∧ Drawn0 w w')
  case atStart => exact ⟨(0), (by first | rfl | (simp; done) | (simp [*]; done) | (simp; grind)), H', ⟨Nat.le_refl _⟩, by repeat (first | exact Drawn0.refl _ | apply Drawn0.step)⟩
  case round =>
   clear H'
   try clear p2
   obtain ⟨x8_1, rfl, HA, HK1, ⟨m1, rfl⟩⟩ := hrel
   cases gk with
   | zero => exact absurd HA.out (by simp [slices_Index_int_int.l0])
   | succ k1 =>
    have H := HA.out
    clear HA
    simp only [slices_Index_int_int.l0] at H
    by_cases c3 : x8_1 < (l0.length : Int)
    rotate_left
    · rw [if_neg c3] at H
      have c3b0 : decide (x8_1 < (l0.length : Int)) = false := decide_eq_false c3
      clear c3
      obtain rfl := Option.some.inj H
      go_wp2
      go_ret
      exact ⟨by first | rfl | (simp; done) | (simp [*]; done) | (simp; grind), by repeat (first | exact Drawn0.refl _ | apply Drawn0.step)⟩
    rw [if_pos c3] at H
    have c3b0 : decide (x8_1 < (l0.length : Int)) = true := decide_eq_true c3
    clear c3
    by_cases c4 : 0 ≤ x8_1
    rotate_left
    · rw [if_neg c4] at H
      exact absurd H (by simp)
    rw [if_pos c4] at H
    have c4b0 : decide (0 ≤ x8_1) = true := decide_eq_true c4
    clear c4
    by_cases c5 : x8_1 < (l0.length : Int)
    rotate_left
    · rw [if_neg c5] at H
      exact absurd H (by simp)
    rw [if_pos c5] at H
    have c5b0 : decide (x8_1 < (l0.length : Int)) = true := decide_eq_true c5
    clear c5
    by_cases c6 : a1 = (rd l0 x8_1)
    · rw [if_pos c6] at H
      have c6b0 : (a1 == (rd l0 x8_1)) = true := beq_iff_eq.mpr c6
      have c6b1 : (a1 != (rd l0 x8_1)) = false := bne_eq_false_iff_eq.mpr c6
      clear c6
      obtain rfl := Option.some.inj H
      have p258 : 0 ≤ (x8_1 : Int) := of_decide_eq_true (by first | (with_reducible assumption) | assumption)
      have q258 : x8_1 < (l0.length : Int) := of_decide_eq_true (by first | (with_reducible assumption) | assumption)
      obtain ⟨ad258, e258, hx258_0⟩ := Kd.at_int HR0.out x8_1 p258 q258
      cases e258
      replace p258 := eq_true p258
      replace q258 := eq_true q258
      go_wp2
      go_ret
      exact ⟨by first | rfl | (simp; done) | (simp [*]; done) | (simp; grind), by repeat (first | exact Drawn0.refl _ | apply Drawn0.step)⟩
    rw [if_neg c6] at H
    have c6b0 : (a1 == (rd l0 x8_1)) = false := beq_eq_false_iff_ne.mpr c6
    have c6b1 : (a1 != (rd l0 x8_1)) = true := bne_iff_ne.mpr c6
    have H' := zM H
    clear H
    have p258 : 0 ≤ (x8_1 : Int) := of_decide_eq_true (by first | (with_reducible assumption) | assumption)
    have q258 : x8_1 < (l0.length : Int) := of_decide_eq_true (by first | (with_reducible assumption) | assumption)
    obtain ⟨ad258, e258, hx258_0⟩ := Kd.at_int HR0.out x8_1 p258 q258
    cases e258
    replace p258 := eq_true p258
    replace q258 := eq_true q258
    go_wp2
    go_roundg k1
    case measure => have := HK1.out; omega
    case rel => exact ⟨(wrap64 (x8_1 + 1)), (by first | rfl | (simp; done) | (simp [*]; done) | (simp; grind)), H', ⟨by have := HK1.out; omega⟩, by repeat (first | exact Drawn0.refl _ | apply Drawn0.step)⟩
/-! ### slices_Contains_int_int: function 68 -/
def slices_Contains_int_int.f (k : Nat) (l0 : List Int) (a1 : Int) : Option (Bool) := (slices_Index_int_int.f k l0 a1).bind fun t259 => (some (decide (t259 ≥ 0)))
theorem slices_Contains_int_int.mono : ∀ a0 a1 k, LeO (slices_Contains_int_int.f k a0 a1) (slices_Contains_int_int.f (k + 1) a0 a1) := by
  intro a0 a1 k
  unfold slices_Contains_int_int.f
  repeat' first
      | (with_reducible exact slices_Index_int_int.mono _ _ _)
      | (with_reducible exact LeO.refl _)
      | (with_reducible exact LeO.none _)
      | (with_reducible refine LeO.ite ?_ ?_)
      | (with_reducible refine LeO.bind ?_ (fun _ => ?_))
      | exact slices_Index_int_int.mono _ _ _
      | exact LeO.none _
      | refine LeO.ite ?_ ?_
      | refine LeO.bind ?_ (fun _ => ?_)
set_option maxHeartbeats 8000000 in
set_option maxRecDepth 100000 in
theorem slices_Contains_int_int.calls (k : Nat) (A0 : Option Addr) (c0 : Nat) (l0 : List Int) (a1 : Int) (r : Bool) (w : World) (hr0 : Kd.C (Kd.int .i64) w A0 l0.length l0) (hc0 : l0.length ≤ c0) (h : slices_Contains_int_int.f k l0 a1 = some r) :
    Calls Try.prog 68 #[.slice A0 l0.length c0, .int .i64 a1] w fun e w' => e = .returned (.bool r) ∧ Drawn0 w w' := by
  have HR0 := zM hr0
  have HC0 := zM hc0
  clear hr0 hc0
  have H : ((slices_Index_int_int.f k l0 a1).bind fun t259 => (some (decide (t259 ≥ 0)))) = some r := h
  clear h
  replace H := Option.bind_eq_some_iff.mp H
  obtain ⟨t259, A30, H⟩ := H
  replace H : (some (decide (t259 ≥ 0))) = some r := H
  have A3 := zM A30
  clear A30
  obtain rfl := Option.some.inj H
  go_enter Try.func68, Try.ntmps68
  go_wp2_with (first | ((with_reducible refine gate_callee (f := 88) rfl ?_); refine goL_ (some 7) Try.func88 #[.slice A0 l0.length c0, .int .i64 a1] ?_; (with_reducible refine (slices_Index_int_int.calls k _ _ l0 a1 t259 _ ?side1 ?side2 A3.out).mono ?_); (case side1 => repeat (first | exact HR0.out | (with_reducible refine Kd.C_alloc ?_ _) | (with_reducible refine Kd.C_drewN ?_ _) | (with_reducible refine Kd.C_drew ?_))); (case side2 => exact HC0.out); rintro e w' ⟨rfl, ⟨nd, rfl⟩⟩; refine ⟨_, rfl, ?_⟩))
  go_ret
  exact ⟨by first | rfl | (simp; done) | (simp [*]; done) | (simp; grind), by repeat (first | exact Drawn0.refl _ | apply Drawn0.step)⟩
/-! ### view_Enough: function 38 -/
def view_Enough.l0 : Nat → List Int → List Int → Int → List Int → Int → Int → Option (Bool)
  | 0, _, _, _, _, _, _ => none
  | k + 1, x1, x5, x6, x11, x12, x13 => if x13 < x12 then (if 0 ≤ x13 then (if x13 < (x11.length : Int) then ((slices_Contains_int_int.f k x1 (rd x11 x13)).bind fun t265 => (if t265 = true then (view_Enough.l0 k x1 x5 (wrap64 (x6 + 1)) x11 x12 (wrap64 (x13 + 1))) else (view_Enough.l0 k x1 x5 x6 x11 x12 (wrap64 (x13 + 1))))) else (none)) else (none)) else (some (decide ((wrap64 (2 * x6)) > (x5.length : Int))))
def view_Enough.f (k : Nat) (a0_0 : Int) (a0_1 : Int) (l1 : List Int) : Option (Bool) := (view_Members.f k a0_0 a0_1).bind fun t261 => (view_Enough.l0 k l1 t261 0 t261 (t261.length : Int) 0)
theorem view_Enough.mono_l : ∀ k, (∀ y0 y1 y2 y3 y4 y5, LeO (view_Enough.l0 k y0 y1 y2 y3 y4 y5) (view_Enough.l0 (k + 1) y0 y1 y2 y3 y4 y5))
  | 0 => fun _ _ _ _ _ _ r h => by simp [view_Enough.l0] at h
  | k + 1 => by
    have ih0 := view_Enough.mono_l k
    · intro y0 y1 y2 y3 y4 y5
      unfold view_Enough.l0
      repeat' first
      | (with_reducible exact ih0 _ _ _ _ _ _)
      | (with_reducible exact slices_Contains_int_int.mono _ _ _)
      | (with_reducible exact view_Members.mono _ _ _)
      | (with_reducible exact LeO.refl _)
      | (with_reducible exact LeO.none _)
      | (with_reducible refine LeO.ite ?_ ?_)
      | (with_reducible refine LeO.bind ?_ (fun _ => ?_))
      | exact ih0 _ _ _ _ _ _
      | exact slices_Contains_int_int.mono _ _ _
      | exact view_Members.mono _ _ _
      | exact LeO.none _
      | refine LeO.ite ?_ ?_
      | refine LeO.bind ?_ (fun _ => ?_)
theorem view_Enough.mono : ∀ a0 a1 a2 k, LeO (view_Enough.f k a0 a1 a2) (view_Enough.f (k + 1) a0 a1 a2) := by
  intro a0 a1 a2 k
  have ih0 := view_Enough.mono_l k
  unfold view_Enough.f
  repeat' first
      | (with_reducible exact ih0 _ _ _ _ _ _)
      | (with_reducible exact slices_Contains_int_int.mono _ _ _)
      | (with_reducible exact view_Members.mono _ _ _)
      | (with_reducible exact LeO.refl _)
      | (with_reducible exact LeO.none _)
      | (with_reducible refine LeO.ite ?_ ?_)
      | (with_reducible refine LeO.bind ?_ (fun _ => ?_))
      | exact ih0 _ _ _ _ _ _
      | exact slices_Contains_int_int.mono _ _ _
      | exact view_Members.mono _ _ _
      | exact LeO.none _
      | refine LeO.ite ?_ ?_
      | refine LeO.bind ?_ (fun _ => ?_)
set_option maxHeartbeats 8000000 in
set_option maxRecDepth 100000 in
theorem view_Enough.calls (k : Nat) (a0_0 : Int) (a0_1 : Int) (A1 : Option Addr) (c1 : Nat) (l1 : List Int) (r : Bool) (w : World) (hr1 : Kd.C (Kd.int .i64) w A1 l1.length l1) (hc1 : l1.length ≤ c1) (h : view_Enough.f k a0_0 a0_1 l1 = some r) :
    Calls Try.prog 38 #[.agg #[.int .i64 a0_0, .int .i64 a0_1], .slice A1 l1.length c1] w fun e w' => e = .returned (.bool r) ∧ Below w.heap.size w w' := by
  have hu23 := Try.underlying23
  have HR1 := zM hr1
  have HC1 := zM hc1
  clear hr1 hc1
  have HB := zM (Below.refl w.heap.size w)
  have H : ((view_Members.f k a0_0 a0_1).bind fun t261 => (view_Enough.l0 k l1 t261 0 t261 (t261.length : Int) 0)) = some r := h
  clear h
  go_enter Try.func38, Try.ntmps38
  go_upto_region 1 with (first | ((with_reducible refine gate_dst (N := 2) rfl ?_); refine box_event ?hg (N := 2) ?hd (cs := #[.int .i64 a0_0, .int .i64 a0_1]) (t := 23) ?hr ?_; (case hd => rfl); (case hg => rfl); (case hr => first | (go_simp; done) | (go_simp; rfl)); intro gb260 hg w3 hbox hb; have BK260 := zM (hbox); have GW260 := zM (bs_ hg); have GE260 := zM (bs_ hg); replace HB := zM (zB bel_ hb); clear hb hbox hg))
  replace H := Option.bind_eq_some_iff.mp H
  obtain ⟨t261, A40, H⟩ := H
  replace H : (view_Enough.l0 k l1 t261 0 t261 (t261.length : Int) 0) = some r := H
  have A4 := zM A40
  clear A40
  have hcz5_0 : w3.cell? ⟨gb260, 0, none⟩ = some (.int .i64 a0_0) := (zL BK260.out 0).trans rfl
  have hcz5_1 : w3.cell? ⟨gb260, 1, none⟩ = some (.int .i64 a0_1) := (zL BK260.out 1).trans rfl
  have hfz5_0 := zF BK260.out 0
  have hfz5_1 := zF BK260.out 1
  go_upto_region 2 with (first | ((with_reducible refine gate_callee (f := 16) rfl ?_); refine goL_ (some 10) Try.func16 #[.agg #[.int .i64 a0_0, .int .i64 a0_1]] ?_; (with_reducible refine (view_Members.calls k a0_0 a0_1 t261 _ A4.out).mono ?_); rintro e w6 ⟨v262, rfl, ho0, hb⟩; refine ⟨_, rfl, ?_⟩; have HO263 := zM (Kd.R_lower ho0 (below_size bel_)); replace BK260 := zM (bb_ BK260 hb); replace HB := zM (zB bel_ hb); (try clear hb); (try clear hb2); (try clear hk); (try clear hi); (try clear ho0)))
  have H' := zM H
  clear H
  obtain ⟨Ao7, co7, eo7⟩ := Kd.R_slice HO263.out
  subst eo7
  go_wp2
  go_loopg [6, 13] k (fun kq v6 v13 w' => ∃ (x6_1 : Int) (x13_1 : Int), v6 = .int .i64 x6_1 ∧ v13 = .int .i64 x13_1 ∧ Aside0 (view_Enough.l0 kq l1 t261 x6_1 t261 (t261.length : Int) x13_1 = some r) ∧ Aside0 (kq ≤ k) ∧ Aside0 (Kd.R (Kd.int .i64) 3 w' w.heap.size (fun _ => True) (.slice Ao7 t261.length co7) t261) ∧ Aside0 (Kd.R (Kd.int .i64) 3 w' w.heap.size (fun _ => True) (.slice Ao7 t261.length co7) t261) ∧ Aside0 (w'.heap[gb260]? = some (.cells #[.int .i64 a0_0, .int .i64 a0_1] 23 (0, 0))) ∧ Aside0 (Below w.heap.size w w'))
  case atStart => exact ⟨(0), (0), (by first | rfl | (simp; done) | (simp [*]; done) | (simp; grind)), (by first | rfl | (simp; done) | (simp [*]; done) | (simp; grind)), H', ⟨Nat.le_refl _⟩, ⟨by (with_reducible repeat (first | apply Kd.R_alloc | apply Kd.R_drewN | apply Kd.R_drew)); exact HO263.out⟩, ⟨by (with_reducible repeat (first | apply Kd.R_alloc | apply Kd.R_drewN | apply Kd.R_drew)); exact HO263.out⟩, ⟨blf_⟩, ⟨bel_⟩⟩
  case round =>
   clear H'
   try clear c1
   try clear p2
   try clear c3
   try clear hcz5_0
   try clear hcz5_1
   try clear hfz5_0
   try clear hfz5_1
   obtain ⟨x6_1, x13_1, rfl, rfl, HA, HK1, HO_5, HO_11, BK260, HB⟩ := hrel
   cases gk with
   | zero => exact absurd HA.out (by simp [view_Enough.l0])
   | succ k1 =>
    have H := HA.out
    clear HA
    simp only [view_Enough.l0] at H
    by_cases c8 : x13_1 < (t261.length : Int)
    rotate_left
    · rw [if_neg c8] at H
      have c8b0 : decide (x13_1 < (t261.length : Int)) = false := decide_eq_false c8
      clear c8
      obtain rfl := Option.some.inj H
      go_wp2
      go_ret
      exact ⟨by first | rfl | (simp [errW_none, errW_some] <;> rfl) | (simp [*, errW_none, errW_some] <;> rfl), bel_⟩
    rw [if_pos c8] at H
    have c8b0 : decide (x13_1 < (t261.length : Int)) = true := decide_eq_true c8
    clear c8
    by_cases c9 : 0 ≤ x13_1
    rotate_left
    · rw [if_neg c9] at H
      exact absurd H (by simp)
    rw [if_pos c9] at H
    have c9b0 : decide (0 ≤ x13_1) = true := decide_eq_true c9
    clear c9
    by_cases c10 : x13_1 < (t261.length : Int)
    rotate_left
    · rw [if_neg c10] at H
      exact absurd H (by simp)
    rw [if_pos c10] at H
    have c10b0 : decide (x13_1 < (t261.length : Int)) = true := decide_eq_true c10
    clear c10
    replace H := Option.bind_eq_some_iff.mp H
    obtain ⟨t265, A110, H⟩ := H
    replace H : (if t265 = true then (view_Enough.l0 k1 l1 t261 (wrap64 (x6_1 + 1)) t261 (t261.length : Int) (wrap64 (x13_1 + 1))) else (view_Enough.l0 k1 l1 t261 x6_1 t261 (t261.length : Int) (wrap64 (x13_1 + 1)))) = some r := H
    have A11 := zM A110
    clear A110
    by_cases c12 : t265 = true
    · subst c12
      have H1 : (view_Enough.l0 k1 l1 t261 (wrap64 (x6_1 + 1)) t261 (t261.length : Int) (wrap64 (x13_1 + 1))) = some r := by rw [if_pos rfl] at H; exact H
      clear H
      have H := H1
      clear H1
      have p264 : 0 ≤ (x13_1 : Int) := of_decide_eq_true (by first | (with_reducible assumption) | assumption)
      have q264 : x13_1 < (t261.length : Int) := of_decide_eq_true (by first | (with_reducible assumption) | assumption)
      obtain ⟨ad264, e264, hx264_0⟩ := Kd.at_int (Kd.R_reads' HO_11.out).2.2 x13_1 p264 q264
      cases e264
      replace p264 := eq_true p264
      replace q264 := eq_true q264
      go_upto_region 7 with (first | ((with_reducible refine gate_callee (f := 68) rfl ?_); refine goL_ (some 19) Try.func68 #[.slice A1 l1.length c1, .int .i64 (rd t261 x13_1)] ?_; (with_reducible refine (slices_Contains_int_int.calls k1 _ _ l1 (rd t261 x13_1) true _ ?side1 ?side2 A11.out).mono ?_); (case side1 => repeat (first | exact (Kd.C_below HR1.out HB.out) | (with_reducible refine Kd.C_alloc ?_ _) | (with_reducible refine Kd.C_drewN ?_ _) | (with_reducible refine Kd.C_drew ?_))); (case side2 => exact HC1.out); rintro e w' ⟨rfl, ⟨nd, rfl⟩⟩; refine ⟨_, rfl, ?_⟩))
      have H' := zM H
      clear H
      go_wp2
      go_roundg k1
      case measure => have := HK1.out; omega
      case rel => exact ⟨(wrap64 (x6_1 + 1)), (wrap64 (x13_1 + 1)), (by first | rfl | (simp; done) | (simp [*]; done) | (simp; grind)), (by first | rfl | (simp; done) | (simp [*]; done) | (simp; grind)), H', ⟨by have := HK1.out; omega⟩, ⟨by (with_reducible repeat (first | apply Kd.R_alloc | apply Kd.R_drewN | apply Kd.R_drew)); exact HO_5.out⟩, ⟨by (with_reducible repeat (first | apply Kd.R_alloc | apply Kd.R_drewN | apply Kd.R_drew)); exact HO_11.out⟩, ⟨blf_⟩, ⟨bel_⟩⟩
    replace c12 := Bool.eq_false_iff.mpr c12
    subst c12
    have H1 : (view_Enough.l0 k1 l1 t261 x6_1 t261 (t261.length : Int) (wrap64 (x13_1 + 1))) = some r := by rw [if_neg (show ¬ (false = true) by decide)] at H; exact H
    clear H
    have H := H1
    clear H1
    have p264 : 0 ≤ (x13_1 : Int) := of_decide_eq_true (by first | (with_reducible assumption) | assumption)
    have q264 : x13_1 < (t261.length : Int) := of_decide_eq_true (by first | (with_reducible assumption) | assumption)
    obtain ⟨ad264, e264, hx264_0⟩ := Kd.at_int (Kd.R_reads' HO_11.out).2.2 x13_1 p264 q264
    cases e264
    replace p264 := eq_true p264
    replace q264 := eq_true q264
    go_upto_region 8 with (first | ((with_reducible refine gate_callee (f := 68) rfl ?_); refine goL_ (some 19) Try.func68 #[.slice A1 l1.length c1, .int .i64 (rd t261 x13_1)] ?_; (with_reducible refine (slices_Contains_int_int.calls k1 _ _ l1 (rd t261 x13_1) false _ ?side1 ?side2 A11.out).mono ?_); (case side1 => repeat (first | exact (Kd.C_below HR1.out HB.out) | (with_reducible refine Kd.C_alloc ?_ _) | (with_reducible refine Kd.C_drewN ?_ _) | (with_reducible refine Kd.C_drew ?_))); (case side2 => exact HC1.out); rintro e w' ⟨rfl, ⟨nd, rfl⟩⟩; refine ⟨_, rfl, ?_⟩))
    have H' := zM H
    clear H
    go_wp2
    go_roundg k1
    case measure => have := HK1.out; omega
    case rel => exact ⟨(x6_1), (wrap64 (x13_1 + 1)), (by first | rfl | (simp; done) | (simp [*]; done) | (simp; grind)), (by first | rfl | (simp; done) | (simp [*]; done) | (simp; grind)), H', ⟨by have := HK1.out; omega⟩, ⟨by (with_reducible repeat (first | apply Kd.R_alloc | apply Kd.R_drewN | apply Kd.R_drew)); exact HO_5.out⟩, ⟨by (with_reducible repeat (first | apply Kd.R_alloc | apply Kd.R_drewN | apply Kd.R_drew)); exact HO_11.out⟩, ⟨blf_⟩, ⟨bel_⟩⟩
/-! ### round_Round_Done: function 13 -/
def round_Round_Done.f (k : Nat) (a0_0 : Int) (a0_1 : Int) (a0_2 : Int) (a0_3 : Int) (a0_4 : Int) (a0_5 : Int) (a0_6 : Int) (l0_7 : List (S43)) (l0_8 : List (S48)) (a0_9 : Bool) (a0_10 : Bool) (a0_11 : Bool) (a0_12 : Bool) (a0_13 : Bool) (a0_14 : Bool) (l0_15 : List (S43)) (l0_16 : List (S48)) : Option (Bool) := if ((arrNo a0_9 a0_10 a0_11 a0_12 a0_13 a0_14) = true) then (some false) else ((round_Round_Who.f k a0_0 a0_1 a0_2 a0_3 a0_4 a0_5 a0_6 l0_7 l0_8 a0_9 a0_10 a0_11 a0_12 a0_13 a0_14 l0_15 l0_16).bind fun t267 => ((view_Enough.f k a0_5 a0_6 t267).bind fun t270 => (some t270)))
theorem round_Round_Done.mono : ∀ a0 a1 a2 a3 a4 a5 a6 a7 a8 a9 a10 a11 a12 a13 a14 a15 a16 k, LeO (round_Round_Done.f k a0 a1 a2 a3 a4 a5 a6 a7 a8 a9 a10 a11 a12 a13 a14 a15 a16) (round_Round_Done.f (k + 1) a0 a1 a2 a3 a4 a5 a6 a7 a8 a9 a10 a11 a12 a13 a14 a15 a16) := by
  intro a0 a1 a2 a3 a4 a5 a6 a7 a8 a9 a10 a11 a12 a13 a14 a15 a16 k
  unfold round_Round_Done.f
  repeat' first
      | (with_reducible exact round_Round_Who.mono _ _ _ _ _ _ _ _ _ _ _ _ _ _ _ _ _ _)
      | (with_reducible exact view_Enough.mono _ _ _ _)
      | (with_reducible exact LeO.refl _)
      | (with_reducible exact LeO.none _)
      | (with_reducible refine LeO.ite ?_ ?_)
      | (with_reducible refine LeO.bind ?_ (fun _ => ?_))
      | exact round_Round_Who.mono _ _ _ _ _ _ _ _ _ _ _ _ _ _ _ _ _ _
      | exact view_Enough.mono _ _ _ _
      | exact LeO.none _
      | refine LeO.ite ?_ ?_
      | refine LeO.bind ?_ (fun _ => ?_)
def round_Round_Done.T2 : Bool × List (List Nat × List Nat) := (true, [([], []), ([0], [0]), ([1], [1]), ([2], [2]), ([], []), ([3, 4], [3, 4]), ([5], [5]), ([6], [6]), ([7, 6], [6, 7]), ([8, 6], [6, 8]), ([9, 6], [6, 9]), ([10, 6], [6, 10]), ([6], [6]), ([12, 6, 6], [6, 12]), ([11, 13, 13, 6], [6, 11, 13]), ([6, 14], [6, 14]), ([15, 14, 0, 1, 2, 3, 4, 5, 6, 7, 8, 9, 10, 11, 12, 13, 14, 15], [15])])
def round_Round_Done.B2 : List Nat := [0, 1, 3, 7, 0, 31, 63, 127, 255, 511, 1023, 2047, 127, 4223, 16383, 32767, 65535]
theorem round_Round_Done.tab2 : rtab .any (opsOf Try.f13 2) = round_Round_Done.T2 := by kernel_rfl
theorem round_Round_Done.bits2 : waitsOk round_Round_Done.T2.2 round_Round_Done.B2 = true := by kernel_rfl
set_option maxHeartbeats 8000000 in
set_option maxRecDepth 100000 in
theorem round_Round_Done.calls (k : Nat) (g0_0 : Nat) (a0_0 : Int) (a0_1 : Int) (a0_2 : Int) (a0_3 : Int) (a0_4 : Int) (a0_5 : Int) (a0_6 : Int) (A0_7 : Option Addr) (c0_7 : Nat) (l0_7 : List (S43)) (A0_8 : Option Addr) (c0_8 : Nat) (l0_8 : List (S48)) (a0_9 : Bool) (a0_10 : Bool) (a0_11 : Bool) (a0_12 : Bool) (a0_13 : Bool) (a0_14 : Bool) (A0_15 : Option Addr) (c0_15 : Nat) (l0_15 : List (S43)) (A0_16 : Option Addr) (c0_16 : Nat) (l0_16 : List (S48)) (r : Bool) (w : World) (hr0_7 : Kd.C k43 w A0_7 l0_7.length l0_7) (hc0_7 : l0_7.length ≤ c0_7) (hr0_8 : Kd.C k48 w A0_8 l0_8.length l0_8) (hc0_8 : l0_8.length ≤ c0_8) (hr0_15 : Kd.C k43 w A0_15 l0_15.length l0_15) (hc0_15 : l0_15.length ≤ c0_15) (hr0_16 : Kd.C k48 w A0_16 l0_16.length l0_16) (hc0_16 : l0_16.length ≤ c0_16) (hb0_0 : w.heap[g0_0]? = some (.cells #[.int .i64 a0_0, .int .i64 a0_1, .int .i64 a0_2, .int .i64 a0_3, .int .i64 a0_4, .int .i64 a0_5, .int .i64 a0_6, .slice A0_7 l0_7.length c0_7, .slice A0_8 l0_8.length c0_8, .bool a0_9, .bool a0_10, .bool a0_11, .bool a0_12, .bool a0_13, .bool a0_14, .slice A0_15 l0_15.length c0_15, .slice A0_16 l0_16.length c0_16] 71 (0, 0))) (h : round_Round_Done.f k a0_0 a0_1 a0_2 a0_3 a0_4 a0_5 a0_6 l0_7 l0_8 a0_9 a0_10 a0_11 a0_12 a0_13 a0_14 l0_15 l0_16 = some r) :
    Calls Try.prog 13 #[.pointer (some ⟨g0_0, 0, none⟩)] w fun e w' => e = .returned (.bool r) ∧ Below w.heap.size w w' := by
  have hu67 := Try.underlying67
  have hu23 := Try.underlying23
  have HR0_7 := zM hr0_7
  have HC0_7 := zM hc0_7
  clear hr0_7 hc0_7
  have HR0_8 := zM hr0_8
  have HC0_8 := zM hc0_8
  clear hr0_8 hc0_8
  have HR0_15 := zM hr0_15
  have HC0_15 := zM hc0_15
  clear hr0_15 hc0_15
  have HR0_16 := zM hr0_16
  have HC0_16 := zM hc0_16
  clear hr0_16 hc0_16
  have BK40 := zM hb0_0
  clear hb0_0
  have HB := zM (Below.refl w.heap.size w)
  have H : (if ((arrNo a0_9 a0_10 a0_11 a0_12 a0_13 a0_14) = true) then (some false) else ((round_Round_Who.f k a0_0 a0_1 a0_2 a0_3 a0_4 a0_5 a0_6 l0_7 l0_8 a0_9 a0_10 a0_11 a0_12 a0_13 a0_14 l0_15 l0_16).bind fun t267 => ((view_Enough.f k a0_5 a0_6 t267).bind fun t270 => (some t270)))) = some r := h
  clear h
  go_enter Try.func13, Try.ntmps13
  go_upto_region 2 with (first | ((with_reducible refine gate_dst (N := 3) rfl ?_); refine box_event ?hg (N := 3) ?hd (cs := #[.bool false, .bool false, .bool false, .bool false, .bool false, .bool false]) (t := 67) ?hr ?_; (case hd => rfl); (case hg => rfl); (case hr => first | (go_simp; done) | (go_simp; rfl)); intro gb266 hg w2 hbox hb; have BK266 := zM (hbox); have GW266 := zM (bs_ hg); have GE266 := zM (bs_ hg); replace HB := zM (zB bel_ hb); have NB40_266 := zM ((by rw [hg]; exact Nat.ne_of_lt (blk_lt (g := g0_0) (o := .cells #[.int .i64 a0_0, .int .i64 a0_1, .int .i64 a0_2, .int .i64 a0_3, .int .i64 a0_4, .int .i64 a0_5, .int .i64 a0_6, .slice A0_7 l0_7.length c0_7, .slice A0_8 l0_8.length c0_8, .bool a0_9, .bool a0_10, .bool a0_11, .bool a0_12, .bool a0_13, .bool a0_14, .slice A0_15 l0_15.length c0_15, .slice A0_16 l0_16.length c0_16] 71 (0, 0)) blk_) : g0_0 ≠ gb266)); have NB266_40 := zM ((by rw [hg]; exact Nat.ne_of_gt (blk_lt (g := g0_0) (o := .cells #[.int .i64 a0_0, .int .i64 a0_1, .int .i64 a0_2, .int .i64 a0_3, .int .i64 a0_4, .int .i64 a0_5, .int .i64 a0_6, .slice A0_7 l0_7.length c0_7, .slice A0_8 l0_8.length c0_8, .bool a0_9, .bool a0_10, .bool a0_11, .bool a0_12, .bool a0_13, .bool a0_14, .slice A0_15 l0_15.length c0_15, .slice A0_16 l0_16.length c0_16] 71 (0, 0)) blk_) : gb266 ≠ g0_0)); replace BK40 := zM (blk_below (g := g0_0) (o := .cells #[.int .i64 a0_0, .int .i64 a0_1, .int .i64 a0_2, .int .i64 a0_3, .int .i64 a0_4, .int .i64 a0_5, .int .i64 a0_6, .slice A0_7 l0_7.length c0_7, .slice A0_8 l0_8.length c0_8, .bool a0_9, .bool a0_10, .bool a0_11, .bool a0_12, .bool a0_13, .bool a0_14, .slice A0_15 l0_15.length c0_15, .slice A0_16 l0_16.length c0_16] 71 (0, 0)) blk_ hb); clear hb hbox hg; have hnb3 := NB266_40.out; have hnc3 := NB40_266.out; obtain ⟨hcz4_0, hcz4_1, hcz4_2, hcz4_3, hcz4_4, hcz4_5⟩ := r6_ BK266.out; obtain ⟨hfz4_0, hfz4_1, hfz4_2, hfz4_3, hfz4_4, hfz4_5⟩ := f6_ BK266.out) | ((with_reducible refine gate_store (t := 67) (p := 3) rfl ?_); refine store_event (t := 67) (p := 3) (v := ?vo_w5) (w1 := ((((((w2.setCell ⟨gb266, 0, none⟩ (.bool false)).setCell ⟨gb266, 1, none⟩ (.bool false)).setCell ⟨gb266, 2, none⟩ (.bool false)).setCell ⟨gb266, 3, none⟩ (.bool false)).setCell ⟨gb266, 4, none⟩ (.bool false)).setCell ⟨gb266, 5, none⟩ (.bool false))) ?hg ?ho ?hn ?hr ?_; (case ho => rfl); (case hg => rfl); (case hn => rfl); (case hr => first | (go_simp; done) | (go_simp; rfl)); intro w5 hw; replace BK40 : Aside0 (w5.heap[g0_0]? = some (.cells #[.int .i64 a0_0, .int .i64 a0_1, .int .i64 a0_2, .int .i64 a0_3, .int .i64 a0_4, .int .i64 a0_5, .int .i64 a0_6, .slice A0_7 l0_7.length c0_7, .slice A0_8 l0_8.length c0_8, .bool a0_9, .bool a0_10, .bool a0_11, .bool a0_12, .bool a0_13, .bool a0_14, .slice A0_15 l0_15.length c0_15, .slice A0_16 l0_16.length c0_16] 71 (0, 0))) := ⟨(by rw [hw]; exact blf_)⟩; replace BK266 : Aside0 (w5.heap[gb266]? = some (.cells #[.bool false, .bool false, .bool false, .bool false, .bool false, .bool false] 67 (0, 0))) := ⟨(by rw [hw]; exact (by (with_reducible repeat (first | refine zN ?_ _ | refine zD ?_ | refine zA ?_ _)); exact fx6_ BK266))⟩; replace HB : Aside0 (Below w.heap.size w w5) := ⟨(by rw [hw]; exact bel_)⟩; clear hw))
  try clear hcz4_0
  try clear hcz4_1
  try clear hcz4_2
  try clear hcz4_3
  try clear hcz4_4
  try clear hcz4_5
  try clear hfz4_0
  try clear hfz4_1
  try clear hfz4_2
  try clear hfz4_3
  try clear hfz4_4
  try clear hfz4_5
  try clear hnb3
  try clear hnc3
  by_cases c6 : ((arrNo a0_9 a0_10 a0_11 a0_12 a0_13 a0_14) = true)
  · rw [if_pos c6] at H
    have c6b0 : (arrNo a0_9 a0_10 a0_11 a0_12 a0_13 a0_14) = true := c6
    clear c6
    obtain rfl := Option.some.inj H
    try go_wp2
    have hQ0_ : w5.cell? ⟨g0_0, 0, none⟩ = some (.int .i64 a0_0) := (zL BK40.out 0).trans rfl
    have hQ1_ : w5.cell? ⟨g0_0, 1, none⟩ = some (.int .i64 a0_1) := (zL BK40.out 1).trans rfl
    have hQ2_ : w5.cell? ⟨g0_0, 2, none⟩ = some (.int .i64 a0_2) := (zL BK40.out 2).trans rfl
    have hQ3_ : w5.cell? ⟨g0_0, 3, none⟩ = some (.int .i64 a0_3) := (zL BK40.out 3).trans rfl
    have hQ4_ : w5.cell? ⟨g0_0, 4, none⟩ = some (.int .i64 a0_4) := (zL BK40.out 4).trans rfl
    have hQ5_ : w5.cell? ⟨g0_0, 5, none⟩ = some (.int .i64 a0_5) := (zL BK40.out 5).trans rfl
    have hQ6_ : w5.cell? ⟨g0_0, 6, none⟩ = some (.int .i64 a0_6) := (zL BK40.out 6).trans rfl
    have hQ7_ : w5.cell? ⟨g0_0, 7, none⟩ = some (.slice A0_7 l0_7.length c0_7) := (zL BK40.out 7).trans rfl
    have hQ8_ : w5.cell? ⟨g0_0, 8, none⟩ = some (.slice A0_8 l0_8.length c0_8) := (zL BK40.out 8).trans rfl
    have hQ9_ : w5.cell? ⟨g0_0, 9, none⟩ = some (.bool a0_9) := (zL BK40.out 9).trans rfl
    have hQ10_ : w5.cell? ⟨g0_0, 10, none⟩ = some (.bool a0_10) := (zL BK40.out 10).trans rfl
    have hQ11_ : w5.cell? ⟨g0_0, 11, none⟩ = some (.bool a0_11) := (zL BK40.out 11).trans rfl
    have hQ12_ : w5.cell? ⟨g0_0, 12, none⟩ = some (.bool a0_12) := (zL BK40.out 12).trans rfl
    have hQ13_ : w5.cell? ⟨g0_0, 13, none⟩ = some (.bool a0_13) := (zL BK40.out 13).trans rfl
    have hQ14_ : w5.cell? ⟨g0_0, 14, none⟩ = some (.bool a0_14) := (zL BK40.out 14).trans rfl
    have hQ15_ : w5.cell? ⟨g0_0, 15, none⟩ = some (.slice A0_15 l0_15.length c0_15) := (zL BK40.out 15).trans rfl
    have hQ16_ : w5.cell? ⟨g0_0, 16, none⟩ = some (.slice A0_16 l0_16.length c0_16) := (zL BK40.out 16).trans rfl
    have hQ17_ : w5.cell? ⟨gb266, 0, none⟩ = some (.bool false) := (zL BK266.out 0).trans rfl
    have hQ18_ : w5.cell? ⟨gb266, 1, none⟩ = some (.bool false) := (zL BK266.out 1).trans rfl
    have hQ19_ : w5.cell? ⟨gb266, 2, none⟩ = some (.bool false) := (zL BK266.out 2).trans rfl
    have hQ20_ : w5.cell? ⟨gb266, 3, none⟩ = some (.bool false) := (zL BK266.out 3).trans rfl
    have hQ21_ : w5.cell? ⟨gb266, 4, none⟩ = some (.bool false) := (zL BK266.out 4).trans rfl
    have hQ22_ : w5.cell? ⟨gb266, 5, none⟩ = some (.bool false) := (zL BK266.out 5).trans rfl
    go_quiet (fail)
    clear hQ0_ hQ1_ hQ2_ hQ3_ hQ4_ hQ5_ hQ6_ hQ7_ hQ8_ hQ9_ hQ10_ hQ11_ hQ12_ hQ13_ hQ14_ hQ15_ hQ16_ hQ17_ hQ18_ hQ19_ hQ20_ hQ21_ hQ22_
    replace BK40 := zM (zN BK40.out nq)
    replace BK266 := zM (zN BK266.out nq)
    replace HB := zM (pw_below_drewN HB.out nq)
    generalize w5.drewN nq = w7 at BK40 BK266 HB ⊢
    try go_wp2
    go_ret
    exact ⟨by first | rfl | (simp [errW_none, errW_some] <;> rfl) | (simp [*, errW_none, errW_some] <;> rfl), bel_⟩
  rw [if_neg c6] at H
  have c6b0 : (arrNo a0_9 a0_10 a0_11 a0_12 a0_13 a0_14) = false := by simpa using c6
  clear c6
  replace H := Option.bind_eq_some_iff.mp H
  obtain ⟨t267, A80, H⟩ := H
  replace H : ((view_Enough.f k a0_5 a0_6 t267).bind fun t270 => (some t270)) = some r := H
  have A8 := zM A80
  clear A80
  replace H := Option.bind_eq_some_iff.mp H
  obtain ⟨t270, A90, H⟩ := H
  replace H : (some t270) = some r := H
  have A9 := zM A90
  clear A90
  obtain rfl := Option.some.inj H
  try go_wp2
  replace BK40 := zM (zD BK40.out)
  replace BK266 := zM (zD BK266.out)
  replace HB := zM (below_drew1 HB.out)
  refine start_ (n := 17) (S := fun w' => w'.cell? ⟨g0_0, 0, none⟩ = some (.int .i64 a0_0) ∧ w'.cell? ⟨g0_0, 1, none⟩ = some (.int .i64 a0_1) ∧ w'.cell? ⟨g0_0, 2, none⟩ = some (.int .i64 a0_2) ∧ w'.cell? ⟨g0_0, 3, none⟩ = some (.int .i64 a0_3) ∧ w'.cell? ⟨g0_0, 4, none⟩ = some (.int .i64 a0_4) ∧ w'.cell? ⟨g0_0, 5, none⟩ = some (.int .i64 a0_5) ∧ w'.cell? ⟨g0_0, 6, none⟩ = some (.int .i64 a0_6) ∧ w'.cell? ⟨g0_0, 7, none⟩ = some (.slice A0_7 l0_7.length c0_7) ∧ w'.cell? ⟨g0_0, 8, none⟩ = some (.slice A0_8 l0_8.length c0_8) ∧ w'.cell? ⟨g0_0, 9, none⟩ = some (.bool a0_9) ∧ w'.cell? ⟨g0_0, 10, none⟩ = some (.bool a0_10) ∧ w'.cell? ⟨g0_0, 11, none⟩ = some (.bool a0_11) ∧ w'.cell? ⟨g0_0, 12, none⟩ = some (.bool a0_12) ∧ w'.cell? ⟨g0_0, 13, none⟩ = some (.bool a0_13) ∧ w'.cell? ⟨g0_0, 14, none⟩ = some (.bool a0_14) ∧ w'.cell? ⟨g0_0, 15, none⟩ = some (.slice A0_15 l0_15.length c0_15) ∧ w'.cell? ⟨g0_0, 16, none⟩ = some (.slice A0_16 l0_16.length c0_16) ∧ w'.cell? ⟨gb266, 0, none⟩ = some (.bool false) ∧ w'.cell? ⟨gb266, 1, none⟩ = some (.bool false) ∧ w'.cell? ⟨gb266, 2, none⟩ = some (.bool false) ∧ w'.cell? ⟨gb266, 3, none⟩ = some (.bool false) ∧ w'.cell? ⟨gb266, 4, none⟩ = some (.bool false) ∧ w'.cell? ⟨gb266, 5, none⟩ = some (.bool false)) (ds := []) #[F_, F_, F_, F_, F_, F_, F_, F_, F_, F_, F_, F_, F_, F_, F_, F_, F_] (by kernel_rfl) rfl rfl ⟨(zL BK40.out 0).trans rfl, (zL BK40.out 1).trans rfl, (zL BK40.out 2).trans rfl, (zL BK40.out 3).trans rfl, (zL BK40.out 4).trans rfl, (zL BK40.out 5).trans rfl, (zL BK40.out 6).trans rfl, (zL BK40.out 7).trans rfl, (zL BK40.out 8).trans rfl, (zL BK40.out 9).trans rfl, (zL BK40.out 10).trans rfl, (zL BK40.out 11).trans rfl, (zL BK40.out 12).trans rfl, (zL BK40.out 13).trans rfl, (zL BK40.out 14).trans rfl, (zL BK40.out 15).trans rfl, (zL BK40.out 16).trans rfl, (zL BK266.out 0).trans rfl, (zL BK266.out 1).trans rfl, (zL BK266.out 2).trans rfl, (zL BK266.out 3).trans rfl, (zL BK266.out 4).trans rfl, (zL BK266.out 5).trans rfl⟩ (fun hHeld => ?_); refine with_tabW round_Round_Done.tab2 round_Round_Done.bits2 (fun HT_ HW_ => ?_)
  generalize w5.drew = w10 at BK40 BK266 HB hHeld ⊢
  refine put_ HT_ 0 5 (dm_ 17 1) ?_
  refine put_ HT_ 1 6 (dm_ 17 3) ?_
  refine put_ HT_ 2 7 (dm_ 17 7) ?_
  refine tkt_ HT_ HW_ hHeld 3 8 (dm_ 17 15) ?_
  refine tkt_ HT_ HW_ hHeld 4 9 (dm_ 17 31) ?_
  refine put_ HT_ 5 10 (dm_ 17 63) ?_
  refine put_ HT_ 6 11 (dm_ 17 127) ?_
  refine put_ HT_ 7 12 (dm_ 17 255) ?_
  refine put_ HT_ 8 13 (dm_ 17 511) ?_
  refine put_ HT_ 9 14 (dm_ 17 1023) ?_
  refine put_ HT_ 10 15 (dm_ 17 2047) ?_
  refine put_ HT_ 12 17 (dm_ 17 6143) ?_
  refine tkt_ HT_ HW_ hHeld 11 16 (dm_ 17 8191) ?_
  refine one_ (i := 13) (N := some 18) (dm_ 17 16383) rfl rfl (one_of HT_.out (by kernel_rfl)) (by decide) (fun K hK => ?_)
  first | refine goes_ Try.func14 (by kernel_rfl) rfl #[.pointer (some ⟨g0_0, 0, none⟩)] (by rfl) rfl rfl (by (try simp only [List.map_toArray, List.map_cons, List.map_nil]); first | done | rfl | (simp only [List.length_drop, List.length_take]; rfl)) ?_ | refine goesT_ Try.func14 (by kernel_rfl) rfl #[.pointer (some ⟨g0_0, 0, none⟩)] (by rfl) rfl rfl (by rfl) (by (try simp only [List.map_toArray, List.map_cons, List.map_nil]); first | done | rfl | (simp only [List.length_drop, List.length_take]; rfl)) ?_
  with_reducible refine (round_Round_Who.calls k g0_0 a0_0 a0_1 a0_2 a0_3 a0_4 a0_5 a0_6 A0_7 c0_7 l0_7 A0_8 c0_8 l0_8 a0_9 a0_10 a0_11 a0_12 a0_13 a0_14 A0_15 c0_15 l0_15 A0_16 c0_16 l0_16 t267 _ ?side1 ?side2 ?side3 ?side4 ?side5 ?side6 ?side7 ?side8 ?side9 A8.out).mono ?_
  (case side1 => repeat (first | exact (Kd.C_below HR0_7.out HB.out) | (with_reducible refine Kd.C_alloc ?_ _) | (with_reducible refine Kd.C_drewN ?_ _) | (with_reducible refine Kd.C_drew ?_)))
  (case side2 => exact HC0_7.out)
  (case side3 => repeat (first | exact (Kd.C_below HR0_8.out HB.out) | (with_reducible refine Kd.C_alloc ?_ _) | (with_reducible refine Kd.C_drewN ?_ _) | (with_reducible refine Kd.C_drew ?_)))
  (case side4 => exact HC0_8.out)
  (case side5 => repeat (first | exact (Kd.C_below HR0_15.out HB.out) | (with_reducible refine Kd.C_alloc ?_ _) | (with_reducible refine Kd.C_drewN ?_ _) | (with_reducible refine Kd.C_drew ?_)))
  (case side6 => exact HC0_15.out)
  (case side7 => repeat (first | exact (Kd.C_below HR0_16.out HB.out) | (with_reducible refine Kd.C_alloc ?_ _) | (with_reducible refine Kd.C_drewN ?_ _) | (with_reducible refine Kd.C_drew ?_)))
  (case side8 => exact HC0_16.out)
  (case side9 => exact blf_)
  rintro e w11 ⟨v268, rfl, ho0, hb⟩
  refine ⟨_, rfl, ?_⟩
  have HO269 := zM (Kd.R_lower ho0 (below_size bel_))
  replace BK40 := zM (blk_below (g := g0_0) (o := .cells #[.int .i64 a0_0, .int .i64 a0_1, .int .i64 a0_2, .int .i64 a0_3, .int .i64 a0_4, .int .i64 a0_5, .int .i64 a0_6, .slice A0_7 l0_7.length c0_7, .slice A0_8 l0_8.length c0_8, .bool a0_9, .bool a0_10, .bool a0_11, .bool a0_12, .bool a0_13, .bool a0_14, .slice A0_15 l0_15.length c0_15, .slice A0_16 l0_16.length c0_16] 71 (0, 0)) blk_ hb)
  replace BK266 := zM (bb_ BK266 hb)
  replace HB := zM (zB bel_ hb)
  (try clear hb)
  (try clear hb2)
  (try clear hk)
  (try clear hi)
  (try clear ho0)
  obtain ⟨Ao12, co12, eo12⟩ := Kd.R_slice HO269.out
  (first | subst eo12 | (injection eo12 with f1_ f2_ f3_; have f4_ := f1_.symm; have f5_ := f3_.symm; clear f1_ f2_ f3_; subst f4_; subst f5_))
  refine hK.out _ _ ⟨(zL BK40.out 0).trans rfl, (zL BK40.out 1).trans rfl, (zL BK40.out 2).trans rfl, (zL BK40.out 3).trans rfl, (zL BK40.out 4).trans rfl, (zL BK40.out 5).trans rfl, (zL BK40.out 6).trans rfl, (zL BK40.out 7).trans rfl, (zL BK40.out 8).trans rfl, (zL BK40.out 9).trans rfl, (zL BK40.out 10).trans rfl, (zL BK40.out 11).trans rfl, (zL BK40.out 12).trans rfl, (zL BK40.out 13).trans rfl, (zL BK40.out 14).trans rfl, (zL BK40.out 15).trans rfl, (zL BK40.out 16).trans rfl, (zL BK266.out 0).trans rfl, (zL BK266.out 1).trans rfl, (zL BK266.out 2).trans rfl, (zL BK266.out 3).trans rfl, (zL BK266.out 4).trans rfl, (zL BK266.out 5).trans rfl⟩ (fun hHeld => ?_)
  clear hK K
  refine norm_ (a' := ?_) ?_ ?_
  rotate_left
  · show Act.put _ (some 18) _ = _
    simp only [Act.put, zS, zZ, zC, i64_w, i32_w]
    rfl
  refine one_ (i := 14) (N := some 19) (dm_ 17 32767) rfl rfl (one_of HT_.out (by kernel_rfl)) (by decide) (fun K hK => ?_)
  first | refine goes_ Try.func38 (by kernel_rfl) rfl #[.agg #[.int .i64 a0_5, .int .i64 a0_6], .slice Ao12 t267.length co12] (by rfl) rfl rfl (by (try simp only [List.map_toArray, List.map_cons, List.map_nil]); first | done | rfl | (simp only [List.length_drop, List.length_take]; rfl)) ?_ | refine goesT_ Try.func38 (by kernel_rfl) rfl #[.agg #[.int .i64 a0_5, .int .i64 a0_6], .slice Ao12 t267.length co12] (by rfl) rfl rfl (by rfl) (by (try simp only [List.map_toArray, List.map_cons, List.map_nil]); first | done | rfl | (simp only [List.length_drop, List.length_take]; rfl)) ?_
  with_reducible refine (view_Enough.calls k a0_5 a0_6 _ _ t267 t270 _ ?side1 ?side2 A9.out).mono ?_
  (case side1 => repeat (first | exact (Kd.R_reads' HO269.out).2.2 | (with_reducible refine Kd.C_alloc ?_ _) | (with_reducible refine Kd.C_drewN ?_ _) | (with_reducible refine Kd.C_drew ?_)))
  (case side2 => exact (Kd.R_reads' HO269.out).2.1)
  rintro e w13 ⟨rfl, hb⟩
  refine ⟨_, rfl, ?_⟩
  replace HO269 := zM (Kd.R_below (rl_ HO269) hb)
  replace BK40 := zM (blk_below (g := g0_0) (o := .cells #[.int .i64 a0_0, .int .i64 a0_1, .int .i64 a0_2, .int .i64 a0_3, .int .i64 a0_4, .int .i64 a0_5, .int .i64 a0_6, .slice A0_7 l0_7.length c0_7, .slice A0_8 l0_8.length c0_8, .bool a0_9, .bool a0_10, .bool a0_11, .bool a0_12, .bool a0_13, .bool a0_14, .slice A0_15 l0_15.length c0_15, .slice A0_16 l0_16.length c0_16] 71 (0, 0)) blk_ hb)
  replace BK266 := zM (bb_ BK266 hb)
  replace HB := zM (zB bel_ hb)
  (try clear hb)
  (try clear hb2)
  (try clear hk)
  (try clear hi)
  refine hK.out _ _ ⟨(zL BK40.out 0).trans rfl, (zL BK40.out 1).trans rfl, (zL BK40.out 2).trans rfl, (zL BK40.out 3).trans rfl, (zL BK40.out 4).trans rfl, (zL BK40.out 5).trans rfl, (zL BK40.out 6).trans rfl, (zL BK40.out 7).trans rfl, (zL BK40.out 8).trans rfl, (zL BK40.out 9).trans rfl, (zL BK40.out 10).trans rfl, (zL BK40.out 11).trans rfl, (zL BK40.out 12).trans rfl, (zL BK40.out 13).trans rfl, (zL BK40.out 14).trans rfl, (zL BK40.out 15).trans rfl, (zL BK40.out 16).trans rfl, (zL BK266.out 0).trans rfl, (zL BK266.out 1).trans rfl, (zL BK266.out 2).trans rfl, (zL BK266.out 3).trans rfl, (zL BK266.out 4).trans rfl, (zL BK266.out 5).trans rfl⟩ (fun hHeld => ?_)
  clear hK K
  refine norm_ (a' := ?_) ?_ ?_
  rotate_left
  · show Act.put _ (some 19) _ = _
    simp only [Act.put, zS, zZ, zC, i64_w, i32_w]
    rfl
  refine put_ HT_ 15 20 (dm_ 17 65535) ?_
  refine put_ HT_ 16 2 (dm_ 17 131071) ?_
  refine done_ (done_of HT_.out (by kernel_rfl)) ?_
  try go_wp2
  go_ret
  exact ⟨by first | rfl | (simp [errW_none, errW_some] <;> rfl) | (simp [*, errW_none, errW_some] <;> rfl), bel_⟩
/-! ### round_Round_Asks: function 15 -/
def round_Round_Asks.l0 : Nat → List (S27) → List Int → Int → Int → Int → Int → Int → Int → Int → Int → Int → List (S43) → List (S48) → Bool → Bool → Bool → Bool → Bool → Bool → List (S43) → List (S48) → Option ((List (S27)))
  | 0, _, _, _, _, _, _, _, _, _, _, _, _, _, _, _, _, _, _, _, _, _ => none
  | k + 1, x3, x11, x12, x13, x41000, x41001, x41002, x41003, x41004, x41005, x41006, x41007, x41008, x41009, x41010, x41011, x41012, x41013, x41014, x41015, x41016 => if x13 < x12 then (if 0 ≤ x13 then (if x13 < (x11.length : Int) then (if 0 ≤ (rd x11 x13) then (if (rd x11 x13) < 6 then (if (rdOf false [x41009, x41010, x41011, x41012, x41013, x41014] (rd x11 x13) = true) then (round_Round_Asks.l0 k x3 x11 x12 (wrap64 (x13 + 1)) x41000 x41001 x41002 x41003 x41004 x41005 x41006 x41007 x41008 x41009 x41010 x41011 x41012 x41013 x41014 x41015 x41016) else ((round_Round_to.f x41000 x41001 x41002 x41003 x41004 x41005 x41006 x41007 x41008 x41009 x41010 x41011 x41012 x41013 x41014 x41015 x41016 (rd x11 x13)).bind fun bt275 => (if x3.length < 1353245080339 then (round_Round_Asks.l0 k (x3 ++ [(⟨bt275.1, bt275.2.1, bt275.2.2.1, bt275.2.2.2.1, bt275.2.2.2.2.1, (⟨bt275.2.2.2.2.2.1, bt275.2.2.2.2.2.2.1⟩ : S23), bt275.2.2.2.2.2.2.2.1, bt275.2.2.2.2.2.2.2.2⟩ : S27)]) x11 x12 (wrap64 (x13 + 1)) x41000 x41001 x41002 x41003 x41004 x41005 x41006 x41007 x41008 x41009 x41010 x41011 x41012 x41013 x41014 x41015 x41016) else (none)))) else (none)) else (none)) else (none)) else (none)) else (some x3)
def round_Round_Asks.f (k : Nat) (a0_0 : Int) (a0_1 : Int) (a0_2 : Int) (a0_3 : Int) (a0_4 : Int) (a0_5 : Int) (a0_6 : Int) (l0_7 : List (S43)) (l0_8 : List (S48)) (a0_9 : Bool) (a0_10 : Bool) (a0_11 : Bool) (a0_12 : Bool) (a0_13 : Bool) (a0_14 : Bool) (l0_15 : List (S43)) (l0_16 : List (S48)) : Option ((List (S27))) := (view_Members.f k a0_5 a0_6).bind fun t271 => (round_Round_Asks.l0 k ([] : List (S27)) t271 (t271.length : Int) 0 a0_0 a0_1 a0_2 a0_3 a0_4 a0_5 a0_6 l0_7 l0_8 a0_9 a0_10 a0_11 a0_12 a0_13 a0_14 l0_15 l0_16)
theorem round_Round_Asks.mono_l : ∀ k, (∀ y0 y1 y2 y3 y4 y5 y6 y7 y8 y9 y10 y11 y12 y13 y14 y15 y16 y17 y18 y19 y20, LeO (round_Round_Asks.l0 k y0 y1 y2 y3 y4 y5 y6 y7 y8 y9 y10 y11 y12 y13 y14 y15 y16 y17 y18 y19 y20) (round_Round_Asks.l0 (k + 1) y0 y1 y2 y3 y4 y5 y6 y7 y8 y9 y10 y11 y12 y13 y14 y15 y16 y17 y18 y19 y20))
  | 0 => fun _ _ _ _ _ _ _ _ _ _ _ _ _ _ _ _ _ _ _ _ _ r h => by simp [round_Round_Asks.l0] at h
  | k + 1 => by
    have ih0 := round_Round_Asks.mono_l k
    · intro y0 y1 y2 y3 y4 y5 y6 y7 y8 y9 y10 y11 y12 y13 y14 y15 y16 y17 y18 y19 y20
      unfold round_Round_Asks.l0
      repeat' first
      | (with_reducible exact ih0 _ _ _ _ _ _ _ _ _ _ _ _ _ _ _ _ _ _ _ _ _)
      | (with_reducible exact view_Members.mono _ _ _)
      | (with_reducible exact LeO.refl _)
      | (with_reducible exact LeO.none _)
      | (with_reducible refine LeO.ite ?_ ?_)
      | (with_reducible refine LeO.bind ?_ (fun _ => ?_))
      | exact ih0 _ _ _ _ _ _ _ _ _ _ _ _ _ _ _ _ _ _ _ _ _
      | exact view_Members.mono _ _ _
      | exact LeO.none _
      | refine LeO.ite ?_ ?_
      | refine LeO.bind ?_ (fun _ => ?_)
theorem round_Round_Asks.mono : ∀ a0 a1 a2 a3 a4 a5 a6 a7 a8 a9 a10 a11 a12 a13 a14 a15 a16 k, LeO (round_Round_Asks.f k a0 a1 a2 a3 a4 a5 a6 a7 a8 a9 a10 a11 a12 a13 a14 a15 a16) (round_Round_Asks.f (k + 1) a0 a1 a2 a3 a4 a5 a6 a7 a8 a9 a10 a11 a12 a13 a14 a15 a16) := by
  intro a0 a1 a2 a3 a4 a5 a6 a7 a8 a9 a10 a11 a12 a13 a14 a15 a16 k
  have ih0 := round_Round_Asks.mono_l k
  unfold round_Round_Asks.f
  repeat' first
      | (with_reducible exact ih0 _ _ _ _ _ _ _ _ _ _ _ _ _ _ _ _ _ _ _ _ _)
      | (with_reducible exact view_Members.mono _ _ _)
      | (with_reducible exact LeO.refl _)
      | (with_reducible exact LeO.none _)
      | (with_reducible refine LeO.ite ?_ ?_)
      | (with_reducible refine LeO.bind ?_ (fun _ => ?_))
      | exact ih0 _ _ _ _ _ _ _ _ _ _ _ _ _ _ _ _ _ _ _ _ _
      | exact view_Members.mono _ _ _
      | exact LeO.none _
      | refine LeO.ite ?_ ?_
      | refine LeO.bind ?_ (fun _ => ?_)
set_option maxHeartbeats 8000000 in
set_option maxRecDepth 100000 in
theorem round_Round_Asks.calls (k : Nat) (g0_0 : Nat) (a0_0 : Int) (a0_1 : Int) (a0_2 : Int) (a0_3 : Int) (a0_4 : Int) (a0_5 : Int) (a0_6 : Int) (A0_7 : Option Addr) (c0_7 : Nat) (l0_7 : List (S43)) (A0_8 : Option Addr) (c0_8 : Nat) (l0_8 : List (S48)) (a0_9 : Bool) (a0_10 : Bool) (a0_11 : Bool) (a0_12 : Bool) (a0_13 : Bool) (a0_14 : Bool) (A0_15 : Option Addr) (c0_15 : Nat) (l0_15 : List (S43)) (A0_16 : Option Addr) (c0_16 : Nat) (l0_16 : List (S48)) (r : List (S27)) (w : World) (hr0_7 : Kd.C k43 w A0_7 l0_7.length l0_7) (hc0_7 : l0_7.length ≤ c0_7) (hr0_8 : Kd.C k48 w A0_8 l0_8.length l0_8) (hc0_8 : l0_8.length ≤ c0_8) (hr0_15 : Kd.C k43 w A0_15 l0_15.length l0_15) (hc0_15 : l0_15.length ≤ c0_15) (hr0_16 : Kd.C k48 w A0_16 l0_16.length l0_16) (hc0_16 : l0_16.length ≤ c0_16) (hb0_0 : w.heap[g0_0]? = some (.cells #[.int .i64 a0_0, .int .i64 a0_1, .int .i64 a0_2, .int .i64 a0_3, .int .i64 a0_4, .int .i64 a0_5, .int .i64 a0_6, .slice A0_7 l0_7.length c0_7, .slice A0_8 l0_8.length c0_8, .bool a0_9, .bool a0_10, .bool a0_11, .bool a0_12, .bool a0_13, .bool a0_14, .slice A0_15 l0_15.length c0_15, .slice A0_16 l0_16.length c0_16] 71 (0, 0))) (h : round_Round_Asks.f k a0_0 a0_1 a0_2 a0_3 a0_4 a0_5 a0_6 l0_7 l0_8 a0_9 a0_10 a0_11 a0_12 a0_13 a0_14 l0_15 l0_16 = some r) :
    Calls Try.prog 15 #[.pointer (some ⟨g0_0, 0, none⟩)] w fun e w' => ∃ v0_ : Value, e = .returned (v0_) ∧ Kd.S k27 27 w' w.heap.size (fun _ => True) v0_ r ∧ Below w.heap.size w w' := by
  have hu23 := Try.underlying23
  have HR0_7 := zM hr0_7
  have HC0_7 := zM hc0_7
  clear hr0_7 hc0_7
  have HR0_8 := zM hr0_8
  have HC0_8 := zM hc0_8
  clear hr0_8 hc0_8
  have HR0_15 := zM hr0_15
  have HC0_15 := zM hc0_15
  clear hr0_15 hc0_15
  have HR0_16 := zM hr0_16
  have HC0_16 := zM hc0_16
  clear hr0_16 hc0_16
  have BK40 := zM hb0_0
  clear hb0_0
  have HB := zM (Below.refl w.heap.size w)
  have H : ((view_Members.f k a0_5 a0_6).bind fun t271 => (round_Round_Asks.l0 k ([] : List (S27)) t271 (t271.length : Int) 0 a0_0 a0_1 a0_2 a0_3 a0_4 a0_5 a0_6 l0_7 l0_8 a0_9 a0_10 a0_11 a0_12 a0_13 a0_14 l0_15 l0_16)) = some r := h
  clear h
  replace H := Option.bind_eq_some_iff.mp H
  obtain ⟨t271, A20, H⟩ := H
  replace H : (round_Round_Asks.l0 k ([] : List (S27)) t271 (t271.length : Int) 0 a0_0 a0_1 a0_2 a0_3 a0_4 a0_5 a0_6 l0_7 l0_8 a0_9 a0_10 a0_11 a0_12 a0_13 a0_14 l0_15 l0_16) = some r := H
  have A2 := zM A20
  clear A20
  have H' := zM H
  clear H
  have hcz3_0 : w.cell? ⟨g0_0, 0, none⟩ = some (.int .i64 a0_0) := (zL BK40.out 0).trans rfl
  have hcz3_1 : w.cell? ⟨g0_0, 1, none⟩ = some (.int .i64 a0_1) := (zL BK40.out 1).trans rfl
  have hcz3_2 : w.cell? ⟨g0_0, 2, none⟩ = some (.int .i64 a0_2) := (zL BK40.out 2).trans rfl
  have hcz3_3 : w.cell? ⟨g0_0, 3, none⟩ = some (.int .i64 a0_3) := (zL BK40.out 3).trans rfl
  have hcz3_4 : w.cell? ⟨g0_0, 4, none⟩ = some (.int .i64 a0_4) := (zL BK40.out 4).trans rfl
  have hcz3_5 : w.cell? ⟨g0_0, 5, none⟩ = some (.int .i64 a0_5) := (zL BK40.out 5).trans rfl
  have hcz3_6 : w.cell? ⟨g0_0, 6, none⟩ = some (.int .i64 a0_6) := (zL BK40.out 6).trans rfl
  have hcz3_7 : w.cell? ⟨g0_0, 7, none⟩ = some (.slice A0_7 l0_7.length c0_7) := (zL BK40.out 7).trans rfl
  have hcz3_8 : w.cell? ⟨g0_0, 8, none⟩ = some (.slice A0_8 l0_8.length c0_8) := (zL BK40.out 8).trans rfl
  have hcz3_9 : w.cell? ⟨g0_0, 9, none⟩ = some (.bool a0_9) := (zL BK40.out 9).trans rfl
  have hcz3_10 : w.cell? ⟨g0_0, 10, none⟩ = some (.bool a0_10) := (zL BK40.out 10).trans rfl
  have hcz3_11 : w.cell? ⟨g0_0, 11, none⟩ = some (.bool a0_11) := (zL BK40.out 11).trans rfl
  have hcz3_12 : w.cell? ⟨g0_0, 12, none⟩ = some (.bool a0_12) := (zL BK40.out 12).trans rfl
  have hcz3_13 : w.cell? ⟨g0_0, 13, none⟩ = some (.bool a0_13) := (zL BK40.out 13).trans rfl
  have hcz3_14 : w.cell? ⟨g0_0, 14, none⟩ = some (.bool a0_14) := (zL BK40.out 14).trans rfl
  have hcz3_15 : w.cell? ⟨g0_0, 15, none⟩ = some (.slice A0_15 l0_15.length c0_15) := (zL BK40.out 15).trans rfl
  have hcz3_16 : w.cell? ⟨g0_0, 16, none⟩ = some (.slice A0_16 l0_16.length c0_16) := (zL BK40.out 16).trans rfl
  obtain ⟨hfz3_0, hfz3_1, hfz3_2, hfz3_3, hfz3_4, hfz3_5, hfz3_6, hfz3_7, hfz3_8, hfz3_9, hfz3_10, hfz3_11, hfz3_12, hfz3_13, hfz3_14, hfz3_15, hfz3_16⟩ := f17_ BK40.out
  go_enter Try.func15, Try.ntmps15
  go_wp2_with (first | ((with_reducible refine gate_callee (f := 16) rfl ?_); refine goL_ (some 11) Try.func16 #[.agg #[.int .i64 a0_5, .int .i64 a0_6]] ?_; (with_reducible refine (view_Members.calls k a0_5 a0_6 t271 _ A2.out).mono ?_); rintro e w4 ⟨v272, rfl, ho0, hb⟩; refine ⟨_, rfl, ?_⟩; have HO273 := zM (Kd.R_lower ho0 (below_size bel_)); replace BK40 := zM (blk_below (g := g0_0) (o := .cells #[.int .i64 a0_0, .int .i64 a0_1, .int .i64 a0_2, .int .i64 a0_3, .int .i64 a0_4, .int .i64 a0_5, .int .i64 a0_6, .slice A0_7 l0_7.length c0_7, .slice A0_8 l0_8.length c0_8, .bool a0_9, .bool a0_10, .bool a0_11, .bool a0_12, .bool a0_13, .bool a0_14, .slice A0_15 l0_15.length c0_15, .slice A0_16 l0_16.length c0_16] 71 (0, 0)) blk_ hb); replace HB := zM (zB bel_ hb); (try clear hb); (try clear hb2); (try clear hk); (try clear hi); (try clear ho0); obtain ⟨Ao5, co5, eo5⟩ := Kd.R_slice HO273.out; subst eo5))
  go_loopg [3, 13] k (fun kq v3 v13 w' => ∃ (x3_1 : List (S27)) (x13_1 : Int) (x41000_1 : Int) (x41001_1 : Int) (x41002_1 : Int) (x41003_1 : Int) (x41004_1 : Int) (x41005_1 : Int) (x41006_1 : Int) (x41009_1 : Bool) (x41010_1 : Bool) (x41011_1 : Bool) (x41012_1 : Bool) (x41013_1 : Bool) (x41014_1 : Bool), v13 = .int .i64 x13_1 ∧ Aside0 (round_Round_Asks.l0 kq x3_1 t271 (t271.length : Int) x13_1 x41000_1 x41001_1 x41002_1 x41003_1 x41004_1 x41005_1 x41006_1 l0_7 l0_8 x41009_1 x41010_1 x41011_1 x41012_1 x41013_1 x41014_1 l0_15 l0_16 = some r) ∧ Aside0 (kq ≤ k) ∧ Aside0 (Kd.S k27 27 w' w.heap.size (fun _ => True) v3 x3_1) ∧ Aside0 (Kd.R (Kd.int .i64) 3 w' w.heap.size (fun _ => True) (.slice Ao5 t271.length co5) t271) ∧ Aside0 (w'.heap[g0_0]? = some (.cells #[.int .i64 x41000_1, .int .i64 x41001_1, .int .i64 x41002_1, .int .i64 x41003_1, .int .i64 x41004_1, .int .i64 x41005_1, .int .i64 x41006_1, (.slice A0_7 l0_7.length c0_7), (.slice A0_8 l0_8.length c0_8), .bool x41009_1, .bool x41010_1, .bool x41011_1, .bool x41012_1, .bool x41013_1, .bool x41014_1, (.slice A0_15 l0_15.length c0_15), (.slice A0_16 l0_16.length c0_16)] 71 (0, 0))) ∧ Aside0 (Below w.heap.size w w'))
  case atStart => exact ⟨(([] : List (S27))), (0), (a0_0), (a0_1), (a0_2), (a0_3), (a0_4), (a0_5), (a0_6), (a0_9), (a0_10), (a0_11), (a0_12), (a0_13), (a0_14), (by first | rfl | (simp; done) | (simp [*]; done) | (simp; grind)), H', ⟨Nat.le_refl _⟩, ⟨by first | exact Kd.S_nil _ _ _ _ _ | exact Kd.N_nil _ _ _ _ _ | exact Kd.V_nil _ _ _ _ _ | exact Kd.Q_nil _ _ _ _ _ | exact Kd.R_nil _ _ _ _ _⟩, ⟨by (with_reducible repeat (first | apply Kd.R_alloc | apply Kd.R_drewN | apply Kd.R_drew)); exact HO273.out⟩, ⟨blf_⟩, ⟨bel_⟩⟩
  case round =>
   clear H'
   try clear c1
   try clear p2
   try clear hcz3_0
   try clear hcz3_1
   try clear hcz3_10
   try clear hcz3_11
   try clear hcz3_12
   try clear hcz3_13
   try clear hcz3_14
   try clear hcz3_15
   try clear hcz3_16
   try clear hcz3_2
   try clear hcz3_3
   try clear hcz3_4
   try clear hcz3_5
   try clear hcz3_6
   try clear hcz3_7
   try clear hcz3_8
   try clear hcz3_9
   try clear hfz3_0
   try clear hfz3_1
   try clear hfz3_10
   try clear hfz3_11
   try clear hfz3_12
   try clear hfz3_13
   try clear hfz3_14
   try clear hfz3_15
   try clear hfz3_16
   try clear hfz3_2
   try clear hfz3_3
   try clear hfz3_4
   try clear hfz3_5
   try clear hfz3_6
   try clear hfz3_7
   try clear hfz3_8
   try clear hfz3_9
   obtain ⟨x3_1, x13_1, x41000_1, x41001_1, x41002_1, x41003_1, x41004_1, x41005_1, x41006_1, x41009_1, x41010_1, x41011_1, x41012_1, x41013_1, x41014_1, rfl, HA, HK1, HO_3, HO_11, BK40, HB⟩ := hrel
   cases gk with
   | zero => exact absurd HA.out (by simp [round_Round_Asks.l0])
   | succ k1 =>
    have H := HA.out
    clear HA
    simp only [round_Round_Asks.l0] at H
    by_cases c6 : x13_1 < (t271.length : Int)
    rotate_left
    · rw [if_neg c6] at H
      have c6b0 : decide (x13_1 < (t271.length : Int)) = false := decide_eq_false c6
      clear c6
      obtain rfl := Option.some.inj H
      go_wp2
      go_ret
      exact ⟨_, by first | rfl | (simp [errW_none, errW_some] <;> rfl) | (simp [*, errW_none, errW_some] <;> rfl), by (with_reducible repeat (first | apply Kd.S_alloc | apply Kd.S_drewN | apply Kd.S_drew)); exact HO_3.out, bel_⟩
    rw [if_pos c6] at H
    have c6b0 : decide (x13_1 < (t271.length : Int)) = true := decide_eq_true c6
    clear c6
    by_cases c7 : 0 ≤ x13_1
    rotate_left
    · rw [if_neg c7] at H
      exact absurd H (by simp)
    rw [if_pos c7] at H
    have c7b0 : decide (0 ≤ x13_1) = true := decide_eq_true c7
    clear c7
    by_cases c8 : x13_1 < (t271.length : Int)
    rotate_left
    · rw [if_neg c8] at H
      exact absurd H (by simp)
    rw [if_pos c8] at H
    have c8b0 : decide (x13_1 < (t271.length : Int)) = true := decide_eq_true c8
    clear c8
    by_cases c9 : 0 ≤ (rd t271 x13_1)
    rotate_left
    · rw [if_neg c9] at H
      exact absurd H (by simp)
    rw [if_pos c9] at H
    have c9b0 : decide (0 ≤ (rd t271 x13_1)) = true := decide_eq_true c9
    clear c9
    by_cases c10 : (rd t271 x13_1) < 6
    rotate_left
    · rw [if_neg c10] at H
      exact absurd H (by simp)
    rw [if_pos c10] at H
    have c10b0 : decide ((rd t271 x13_1) < 6) = true := decide_eq_true c10
    clear c10
    obtain ⟨bq11, hbq11⟩ : ∃ b_ : Bool, b_ = (rdOf false [x41009_1, x41010_1, x41011_1, x41012_1, x41013_1, x41014_1] (rd t271 x13_1)) := ⟨_, rfl⟩
    replace H : (if (bq11 = true) then (round_Round_Asks.l0 k1 x3_1 t271 (t271.length : Int) (wrap64 (x13_1 + 1)) x41000_1 x41001_1 x41002_1 x41003_1 x41004_1 x41005_1 x41006_1 l0_7 l0_8 x41009_1 x41010_1 x41011_1 x41012_1 x41013_1 x41014_1 l0_15 l0_16) else ((round_Round_to.f x41000_1 x41001_1 x41002_1 x41003_1 x41004_1 x41005_1 x41006_1 l0_7 l0_8 x41009_1 x41010_1 x41011_1 x41012_1 x41013_1 x41014_1 l0_15 l0_16 (rd t271 x13_1)).bind fun bt275 => (if x3_1.length < 1353245080339 then (round_Round_Asks.l0 k1 (x3_1 ++ [(⟨bt275.1, bt275.2.1, bt275.2.2.1, bt275.2.2.2.1, bt275.2.2.2.2.1, (⟨bt275.2.2.2.2.2.1, bt275.2.2.2.2.2.2.1⟩ : S23), bt275.2.2.2.2.2.2.2.1, bt275.2.2.2.2.2.2.2.2⟩ : S27)]) t271 (t271.length : Int) (wrap64 (x13_1 + 1)) x41000_1 x41001_1 x41002_1 x41003_1 x41004_1 x41005_1 x41006_1 l0_7 l0_8 x41009_1 x41010_1 x41011_1 x41012_1 x41013_1 x41014_1 l0_15 l0_16) else (none)))) = some r := by rw [← hbq11] at H; exact H
    have Nbq11 := zM hbq11
    clear hbq11
    by_cases c12 : (bq11 = true)
    · subst c12
      have H1 : (round_Round_Asks.l0 k1 x3_1 t271 (t271.length : Int) (wrap64 (x13_1 + 1)) x41000_1 x41001_1 x41002_1 x41003_1 x41004_1 x41005_1 x41006_1 l0_7 l0_8 x41009_1 x41010_1 x41011_1 x41012_1 x41013_1 x41014_1 l0_15 l0_16) = some r := by rw [if_pos rfl] at H; exact H
      clear H
      have H := H1
      clear H1
      have H' := zM H
      clear H
      have p274 : 0 ≤ (x13_1 : Int) := of_decide_eq_true (by first | (with_reducible assumption) | assumption)
      have q274 : x13_1 < (t271.length : Int) := of_decide_eq_true (by first | (with_reducible assumption) | assumption)
      obtain ⟨ad274, e274, hx274_0⟩ := Kd.at_int (Kd.R_reads' HO_11.out).2.2 x13_1 p274 q274
      cases e274
      replace p274 := eq_true p274
      replace q274 := eq_true q274
      have pdz13 : 0 ≤ ((rd t271 x13_1) : Int) := (of_decide_eq_true (by first | (with_reducible assumption) | assumption))
      have qdz13 : ((rd t271 x13_1) : Int) < 6 := (of_decide_eq_true (by first | (with_reducible assumption) | assumption))
      have hcdz13 : wr.cell? ⟨g0_0, 9 + ((rd t271 x13_1) : Int).toNat, none⟩ = some (.bool (rdOf false [x41009_1, x41010_1, x41011_1, x41012_1, x41013_1, x41014_1] (rd t271 x13_1))) := arrCo (o := 9) BK40.out rfl rfl rfl rfl rfl rfl (rd t271 x13_1) pdz13 qdz13
      have hfdz13 := zF BK40.out (9 + ((rd t271 x13_1) : Int).toNat)
      (try rw [← Nbq11.out] at hcdz13)
      replace pdz13 := eq_true pdz13
      replace qdz13 := eq_true qdz13
      go_wp2
      go_roundg k1
      case measure => have := HK1.out; omega
      case rel => exact ⟨(x3_1), (wrap64 (x13_1 + 1)), (x41000_1), (x41001_1), (x41002_1), (x41003_1), (x41004_1), (x41005_1), (x41006_1), (x41009_1), (x41010_1), (x41011_1), (x41012_1), (x41013_1), (x41014_1), (by first | rfl | (simp; done) | (simp [*]; done) | (simp; grind)), H', ⟨by have := HK1.out; omega⟩, ⟨by (with_reducible repeat (first | apply Kd.S_alloc | apply Kd.S_drewN | apply Kd.S_drew)); exact HO_3.out⟩, ⟨by (with_reducible repeat (first | apply Kd.R_alloc | apply Kd.R_drewN | apply Kd.R_drew)); exact HO_11.out⟩, ⟨blf_⟩, ⟨bel_⟩⟩
    replace c12 := Bool.eq_false_iff.mpr c12
    subst c12
    have H1 : ((round_Round_to.f x41000_1 x41001_1 x41002_1 x41003_1 x41004_1 x41005_1 x41006_1 l0_7 l0_8 x41009_1 x41010_1 x41011_1 x41012_1 x41013_1 x41014_1 l0_15 l0_16 (rd t271 x13_1)).bind fun bt275 => (if x3_1.length < 1353245080339 then (round_Round_Asks.l0 k1 (x3_1 ++ [(⟨bt275.1, bt275.2.1, bt275.2.2.1, bt275.2.2.2.1, bt275.2.2.2.2.1, (⟨bt275.2.2.2.2.2.1, bt275.2.2.2.2.2.2.1⟩ : S23), bt275.2.2.2.2.2.2.2.1, bt275.2.2.2.2.2.2.2.2⟩ : S27)]) t271 (t271.length : Int) (wrap64 (x13_1 + 1)) x41000_1 x41001_1 x41002_1 x41003_1 x41004_1 x41005_1 x41006_1 l0_7 l0_8 x41009_1 x41010_1 x41011_1 x41012_1 x41013_1 x41014_1 l0_15 l0_16) else (none))) = some r := by rw [if_neg (show ¬ (false = true) by decide)] at H; exact H
    clear H
    have H := H1
    clear H1
    replace H := Option.bind_eq_some_iff.mp H
    obtain ⟨⟨t275, t276, t277, t278, t279, t280, t281, t282, t285⟩, A140, H⟩ := H
    replace H : (if x3_1.length < 1353245080339 then (round_Round_Asks.l0 k1 (x3_1 ++ [(⟨t275, t276, t277, t278, t279, (⟨t280, t281⟩ : S23), t282, t285⟩ : S27)]) t271 (t271.length : Int) (wrap64 (x13_1 + 1)) x41000_1 x41001_1 x41002_1 x41003_1 x41004_1 x41005_1 x41006_1 l0_7 l0_8 x41009_1 x41010_1 x41011_1 x41012_1 x41013_1 x41014_1 l0_15 l0_16) else (none)) = some r := H
    have A14 := zM A140
    clear A140
    by_cases c15 : x3_1.length < 1353245080339
    rotate_left
    · rw [if_neg c15] at H
      exact absurd H (by simp)
    rw [if_pos c15] at H
    have LMc15 := zM c15
    clear c15
    obtain ⟨y288, hy288⟩ : ∃ y_ : List (S27), y_ = (x3_1 ++ [(⟨t275, t276, t277, t278, t279, (⟨t280, t281⟩ : S23), t282, t285⟩ : S27)]) := ⟨_, rfl⟩
    replace H : (round_Round_Asks.l0 k1 y288 t271 (t271.length : Int) (wrap64 (x13_1 + 1)) x41000_1 x41001_1 x41002_1 x41003_1 x41004_1 x41005_1 x41006_1 l0_7 l0_8 x41009_1 x41010_1 x41011_1 x41012_1 x41013_1 x41014_1 l0_15 l0_16) = some r := by first | (rw [hy288]; with_reducible exact H) | (have H2_ := (Option.bind_some _ _).symm.trans H; rw [hy288]; with_reducible exact H2_) | (have H2_ := (Option.bind_some _ _).symm.trans H; with_reducible exact H2_) | with_reducible exact H | (rw [hy288]; exact H) | exact H
    have Ny288 := zM hy288
    clear hy288
    have H' := zM H
    clear H
    have p274 : 0 ≤ (x13_1 : Int) := of_decide_eq_true (by first | (with_reducible assumption) | assumption)
    have q274 : x13_1 < (t271.length : Int) := of_decide_eq_true (by first | (with_reducible assumption) | assumption)
    obtain ⟨ad274, e274, hx274_0⟩ := Kd.at_int (Kd.R_reads' HO_11.out).2.2 x13_1 p274 q274
    cases e274
    replace p274 := eq_true p274
    replace q274 := eq_true q274
    have pdz16 : 0 ≤ ((rd t271 x13_1) : Int) := (of_decide_eq_true (by first | (with_reducible assumption) | assumption))
    have qdz16 : ((rd t271 x13_1) : Int) < 6 := (of_decide_eq_true (by first | (with_reducible assumption) | assumption))
    have hcdz16 : wr.cell? ⟨g0_0, 9 + ((rd t271 x13_1) : Int).toNat, none⟩ = some (.bool (rdOf false [x41009_1, x41010_1, x41011_1, x41012_1, x41013_1, x41014_1] (rd t271 x13_1))) := arrCo (o := 9) BK40.out rfl rfl rfl rfl rfl rfl (rd t271 x13_1) pdz16 qdz16
    have hfdz16 := zF BK40.out (9 + ((rd t271 x13_1) : Int).toNat)
    (try rw [← Nbq11.out] at hcdz16)
    replace pdz16 := eq_true pdz16
    replace qdz16 := eq_true qdz16
    go_wp2_with (first | ((with_reducible refine gate_callee (f := 41) rfl ?_); refine goL_ (some 27) Try.func41 #[.pointer (some ⟨g0_0, 0, none⟩), .int .i64 (rd t271 x13_1)] ?_; (with_reducible refine (round_Round_to.calls g0_0 x41000_1 x41001_1 x41002_1 x41003_1 x41004_1 x41005_1 x41006_1 A0_7 c0_7 l0_7 A0_8 c0_8 l0_8 x41009_1 x41010_1 x41011_1 x41012_1 x41013_1 x41014_1 A0_15 c0_15 l0_15 A0_16 c0_16 l0_16 (rd t271 x13_1) t275 t276 t277 t278 t279 t280 t281 t282 t285 _ ?side1 ?side2 ?side3 ?side4 ?side5 ?side6 ?side7 ?side8 ?side9 A14.out).mono ?_); (case side1 => repeat (first | exact (Kd.C_below HR0_7.out HB.out) | (with_reducible refine Kd.C_alloc ?_ _) | (with_reducible refine Kd.C_drewN ?_ _) | (with_reducible refine Kd.C_drew ?_))); (case side2 => exact HC0_7.out); (case side3 => repeat (first | exact (Kd.C_below HR0_8.out HB.out) | (with_reducible refine Kd.C_alloc ?_ _) | (with_reducible refine Kd.C_drewN ?_ _) | (with_reducible refine Kd.C_drew ?_))); (case side4 => exact HC0_8.out); (case side5 => repeat (first | exact (Kd.C_below HR0_15.out HB.out) | (with_reducible refine Kd.C_alloc ?_ _) | (with_reducible refine Kd.C_drewN ?_ _) | (with_reducible refine Kd.C_drew ?_))); (case side6 => exact HC0_15.out); (case side7 => repeat (first | exact (Kd.C_below HR0_16.out HB.out) | (with_reducible refine Kd.C_alloc ?_ _) | (with_reducible refine Kd.C_drewN ?_ _) | (with_reducible refine Kd.C_drew ?_))); (case side8 => exact HC0_16.out); (case side9 => exact blf_); rintro e w17 ⟨v283, v286, rfl, ho0, ho1, hb⟩; refine ⟨_, rfl, ?_⟩; replace HO_3 := zM (Kd.S_mono (Kd.S_told (Kd.S_told (Kd.S_old (by (with_reducible repeat (first | apply Kd.S_alloc | apply Kd.S_drewN | apply Kd.S_drew)); exact HO_3.out) hb) (Kd.R_base ho0)) (Kd.R_base ho1)) (fun _ h_ => h_.1)); replace HO_11 := zM (Kd.R_below (rl_ HO_11) hb); have HO284 := zM (Kd.R_lower ho0 (below_size bel_)); have HO287 := zM (Kd.R_lower ho1 (below_size bel_)); replace BK40 := zM (blk_below (g := g0_0) (o := .cells #[.int .i64 x41000_1, .int .i64 x41001_1, .int .i64 x41002_1, .int .i64 x41003_1, .int .i64 x41004_1, .int .i64 x41005_1, .int .i64 x41006_1, .slice A0_7 l0_7.length c0_7, .slice A0_8 l0_8.length c0_8, .bool x41009_1, .bool x41010_1, .bool x41011_1, .bool x41012_1, .bool x41013_1, .bool x41014_1, .slice A0_15 l0_15.length c0_15, .slice A0_16 l0_16.length c0_16] 71 (0, 0)) blk_ hb); replace HB := zM (zB bel_ hb); (try clear hb); (try clear hb2); (try clear hk); (try clear hi); (try clear ho0); (try clear ho1); obtain ⟨Ao19, co19, eo19⟩ := Kd.R_slice HO284.out; subst eo19; obtain ⟨Ao20, co20, eo20⟩ := Kd.R_slice HO287.out; subst eo20) | ((with_reducible refine gate_builtin (b := .append) (xs := #[.tmp 24, .tmp 28]) rfl ?_); at_builtin; refine Kd.S_append k27 (w0 := w) w.heap.size rfl (.tmp 24) (.tmp 28) 28 27 (.agg #[(.int .i64 0), (.int .i64 0), (.int .i64 0), (.int .i64 0), (.int .i64 0), (.int .i64 0), (.int .i64 0), (.slice none 0 0), (.slice none 0 0)]) 104 rfl Try.underlying28 info27 rfl (by decide) (by omega) u3 x3_1 (⟨t275, t276, t277, t278, t279, (⟨t280, t281⟩ : S23), t282, t285⟩ : S27) [.int .i64 t275, .int .i64 t276, .int .i64 t277, .int .i64 t278, .int .i64 t279, .int .i64 t280, .int .i64 t281, .slice Ao19 t282.length co19, .slice Ao20 t285.length co20] (fun _ => True) (fun k_ => some k_ = (.slice Ao19 t282.length co19 : Value).ownBlock ∨ some k_ = (.slice Ao20 t285.length co20 : Value).ownBlock) rfl rfl ?aP (fun k_ hk_ => hk_.elim (fun h_ => ((Kd.R_mono (ok' := fun k_ => ((fun _ => True)) k_ ∧ some k_ ≠ (u3 : Value).ownBlock) (Kd.R_apart' (HO284.out) (Kd.S_typed HO_3.out) (by decide)) (fun k_ hk => ⟨trivial, hk.2⟩))).1 k_ h_.symm) (fun h_ => ((Kd.R_mono (ok' := fun k_ => ((fun _ => True)) k_ ∧ some k_ ≠ (u3 : Value).ownBlock) (Kd.R_apart' (HO287.out) (Kd.S_typed HO_3.out) (by decide)) (fun k_ hk => ⟨trivial, hk.2⟩))).1 k_ h_.symm)) ?aF ?aO ?aB ?aS ?aL ?_; (case aP => exact k27_mkM _ _ _ (⟨t275, t276, t277, t278, t279, (⟨t280, t281⟩ : S23), t282, t285⟩ : S27) (Kd.R_mono (Kd.R_tight rfl (Kd.R_mono (ok' := fun k_ => ((fun _ => True)) k_ ∧ some k_ ≠ (u3 : Value).ownBlock) (Kd.R_apart' (HO284.out) (Kd.S_typed HO_3.out) (by decide)) (fun k_ hk => ⟨trivial, hk.2⟩))) (fun _ h_ => Or.inl h_)) (Kd.R_mono (Kd.R_tight rfl (Kd.R_mono (ok' := fun k_ => ((fun _ => True)) k_ ∧ some k_ ≠ (u3 : Value).ownBlock) (Kd.R_apart' (HO287.out) (Kd.S_typed HO_3.out) (by decide)) (fun k_ hk => ⟨trivial, hk.2⟩))) (fun _ h_ => Or.inr (h_)))); (case aB => exact bel_); (case aF => exact (fun _ _ => trivial)); (case aO => exact (by (with_reducible repeat (first | apply Kd.S_alloc | apply Kd.S_drewN | apply Kd.S_drew)); exact Kd.S_mono HO_3.out (fun k_ hk => ⟨trivial, fun e_ => e_.elim (fun h_ => hk.1.2 h_) (fun h_ => hk.2 h_)⟩))); (case aS => exact (below_size bel_)); (case aL => have := LMc15.out; omega); intro v289 w18 ho hb hg hat; rw [← Ny288.out] at ho; replace HO_11 := zM (Kd.R_over' (rl_ HO_11) (Kd.S_typed (by (with_reducible repeat (first | apply Kd.S_alloc | apply Kd.S_drewN | apply Kd.S_drew)); exact HO_3.out)) (by decide) hg); replace BK40 := zM (blk_grown (g := g0_0) (o := .cells #[.int .i64 x41000_1, .int .i64 x41001_1, .int .i64 x41002_1, .int .i64 x41003_1, .int .i64 x41004_1, .int .i64 x41005_1, .int .i64 x41006_1, .slice A0_7 l0_7.length c0_7, .slice A0_8 l0_8.length c0_8, .bool x41009_1, .bool x41010_1, .bool x41011_1, .bool x41012_1, .bool x41013_1, .bool x41014_1, .slice A0_15 l0_15.length c0_15, .slice A0_16 l0_16.length c0_16] 71 (0, 0)) blk_ hg (Kd.S_ne HO_3.out BK40.out (by decide))); replace HB := zM (hb); have HO290 := zM (ho); clear HO_3 HO284 HO287; clear ho hb hg hat))
    go_roundg k1
    case measure => have := HK1.out; omega
    case rel => exact ⟨(y288), (wrap64 (x13_1 + 1)), (x41000_1), (x41001_1), (x41002_1), (x41003_1), (x41004_1), (x41005_1), (x41006_1), (x41009_1), (x41010_1), (x41011_1), (x41012_1), (x41013_1), (x41014_1), (by first | rfl | (simp; done) | (simp [*]; done) | (simp; grind)), H', ⟨by have := HK1.out; omega⟩, ⟨by (with_reducible repeat (first | apply Kd.S_alloc | apply Kd.S_drewN | apply Kd.S_drew)); exact HO290.out⟩, ⟨by (with_reducible repeat (first | apply Kd.R_alloc | apply Kd.R_drewN | apply Kd.R_drew)); exact HO_11.out⟩, ⟨blf_⟩, ⟨bel_⟩⟩
end Go.Proofs.Ytmgiaappokkjfaa.PRoundStays
