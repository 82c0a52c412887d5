/- Written by a program of this session (wip/tool/px.py) over the kit's print: what the code that the law RoundStays reaches computes, function by function, and the law's row. -/
import Derived.Test.YtmgiaappokkjfaaPRoundStaysx0
import Derived.Test.YtmgiaappokkjfaaPRoundStaysx15
namespace Go.Proofs.Ytmgiaappokkjfaa.PRoundStays
open Go.RowKit Go.Proofs.YtmgiaappokkjfaaX Go.Proofs.YtmgiaappokkjfaaW.PrintWords Go.Proofs.YtmgiaappokkjfaaW.PrintLast Go.Proofs.YtmgiaappokkjfaaW.PrintMore
open Go.Proofs.YtmgiaappokkjfaaW.PrintWords renaming blk_drewN → zN, blk_drew → zD, blk_alloc → zA, below_step → zB
open Go.Proofs.YtmgiaappokkjfaaW.PrintWords.Aside0 renaming mk → zM
attribute [local go_sem] max2_int min2_int max_two min_two max_three min_three max_four min_four   -- for this text's walks alone
set_option linter.unusedVariables false
set_option linter.unusedSimpArgs false

attribute [local go_sem] px_store_float px_neg_float
attribute [local go_sem] px_eqarr67 px_nilq24 px_nilq25
/-! ### ropewaylaw14_right: function 10 -/
def ropewaylaw14_right.l0 : Nat → List (S27) → Int → Int → Int → Int → Int → Int → Int → Int → Int → List (S43) → List (S48) → Option (Bool)
  | 0, _, _, _, _, _, _, _, _, _, _, _, _ => none
  | k + 1, x8, x9, x10, x400000, x400001, x400002, x400003, x400004, x400005, x400006, x400007, x400008 => if x10 < x9 then (if 0 ≤ x10 then (if x10 < (x8.length : Int) then ((ropewayref11_Right.f k ((rd_T27 x8 x10).f0) ((rd_T27 x8 x10).f1) ((rd_T27 x8 x10).f2) ((rd_T27 x8 x10).f3) ((rd_T27 x8 x10).f4) ((rd_T27 x8 x10).f5.f0) ((rd_T27 x8 x10).f5.f1) ((rd_T27 x8 x10).f6) ((rd_T27 x8 x10).f7)).bind fun t402 => (if t402 = true then (ropewaylaw14_right.l0 k x8 x9 (wrap64 (x10 + 1)) x400000 x400001 x400002 x400003 x400004 x400005 x400006 x400007 x400008) else (some false))) else (none)) else (none)) else ((ropewayref11_Right.f k x400000 x400001 x400002 x400003 x400004 x400005 x400006 x400007 x400008).bind fun t403 => (some t403))
def ropewaylaw14_right.f (k : Nat) (a0_0 : Int) (a0_1 : Int) (a0_2 : Int) (a0_3 : Int) (a0_4 : Int) (a0_5 : Int) (a0_6 : Int) (l0_7 : List (S43)) (l0_8 : List (S48)) (l1 : List (S27)) : Option (Bool) := ropewaylaw14_right.l0 k l1 (l1.length : Int) 0 a0_0 a0_1 0 a0_3 a0_4 a0_5 a0_6 l0_7 l0_8
theorem ropewaylaw14_right.mono_l : ∀ k, (∀ y0 y1 y2 y3 y4 y5 y6 y7 y8 y9 y10 y11, LeO (ropewaylaw14_right.l0 k y0 y1 y2 y3 y4 y5 y6 y7 y8 y9 y10 y11) (ropewaylaw14_right.l0 (k + 1) y0 y1 y2 y3 y4 y5 y6 y7 y8 y9 y10 y11))
  | 0 => fun _ _ _ _ _ _ _ _ _ _ _ _ r h => by simp [ropewaylaw14_right.l0] at h
  | k + 1 => by
    have ih0 := ropewaylaw14_right.mono_l k
    · intro y0 y1 y2 y3 y4 y5 y6 y7 y8 y9 y10 y11
      unfold ropewaylaw14_right.l0
      repeat' first
      | (with_reducible exact ih0 _ _ _ _ _ _ _ _ _ _ _ _)
      | (with_reducible exact ropewayref11_Right.mono _ _ _ _ _ _ _ _ _ _)
      | (with_reducible exact LeO.refl _)
      | (with_reducible exact LeO.none _)
      | (with_reducible refine LeO.ite ?_ ?_)
      | (with_reducible refine LeO.bind ?_ (fun _ => ?_))
      | exact ih0 _ _ _ _ _ _ _ _ _ _ _ _
      | exact ropewayref11_Right.mono _ _ _ _ _ _ _ _ _ _
      | exact LeO.none _
      | refine LeO.ite ?_ ?_
      | refine LeO.bind ?_ (fun _ => ?_)
theorem ropewaylaw14_right.mono : ∀ a0 a1 a2 a3 a4 a5 a6 a7 a8 a9 k, LeO (ropewaylaw14_right.f k a0 a1 a2 a3 a4 a5 a6 a7 a8 a9) (ropewaylaw14_right.f (k + 1) a0 a1 a2 a3 a4 a5 a6 a7 a8 a9) := by
  intro a0 a1 a2 a3 a4 a5 a6 a7 a8 a9 k
  have ih0 := ropewaylaw14_right.mono_l k
  unfold ropewaylaw14_right.f
  repeat' first
      | (with_reducible exact ih0 _ _ _ _ _ _ _ _ _ _ _ _)
      | (with_reducible exact ropewayref11_Right.mono _ _ _ _ _ _ _ _ _ _)
      | (with_reducible exact LeO.refl _)
      | (with_reducible exact LeO.none _)
      | (with_reducible refine LeO.ite ?_ ?_)
      | (with_reducible refine LeO.bind ?_ (fun _ => ?_))
      | exact ih0 _ _ _ _ _ _ _ _ _ _ _ _
      | exact ropewayref11_Right.mono _ _ _ _ _ _ _ _ _ _
      | exact LeO.none _
      | refine LeO.ite ?_ ?_
      | refine LeO.bind ?_ (fun _ => ?_)
set_option maxHeartbeats 8000000 in
set_option maxRecDepth 100000 in
theorem ropewaylaw14_right.calls (k : Nat) (a0_0 : Int) (a0_1 : Int) (a0_2 : Int) (a0_3 : Int) (a0_4 : Int) (a0_5 : Int) (a0_6 : Int) (A0_7 : Option Addr) (c0_7 : Nat) (l0_7 : List (S43)) (A0_8 : Option Addr) (c0_8 : Nat) (l0_8 : List (S48)) (A1 : Option Addr) (c1 : Nat) (l1 : List (S27)) (r : Bool) (w : World) (hr0_7 : Kd.C k43 w A0_7 l0_7.length l0_7) (hc0_7 : l0_7.length ≤ c0_7) (hr0_8 : Kd.C k48 w A0_8 l0_8.length l0_8) (hc0_8 : l0_8.length ≤ c0_8) (hr1 : Kd.C k27 w A1 l1.length l1) (hc1 : l1.length ≤ c1) (h : ropewaylaw14_right.f k a0_0 a0_1 a0_2 a0_3 a0_4 a0_5 a0_6 l0_7 l0_8 l1 = some r) :
    Calls Try.prog 10 #[.agg #[.int .i64 a0_0, .int .i64 a0_1, .int .i64 a0_2, .int .i64 a0_3, .int .i64 a0_4, .int .i64 a0_5, .int .i64 a0_6, .slice A0_7 l0_7.length c0_7, .slice A0_8 l0_8.length c0_8], .slice A1 l1.length c1] w fun e w' => e = .returned (.bool r) ∧ Below w.heap.size w w' := by
  have hu27 := Try.underlying27
  have HR0_7 := zM hr0_7
  have HC0_7 := zM hc0_7
  clear hr0_7 hc0_7
  have HR0_8 := zM hr0_8
  have HC0_8 := zM hc0_8
  clear hr0_8 hc0_8
  have HR1 := zM hr1
  have HC1 := zM hc1
  clear hr1 hc1
  have HB := zM (Below.refl w.heap.size w)
  have H : (ropewaylaw14_right.l0 k l1 (l1.length : Int) 0 a0_0 a0_1 0 a0_3 a0_4 a0_5 a0_6 l0_7 l0_8) = some r := h
  clear h
  have H' := zM H
  clear H
  go_enter Try.func10, Try.ntmps10
  go_wp2_with (first | ((with_reducible refine gate_dst (N := 2) rfl ?_); refine box_event ?hg (N := 2) ?hd (cs := #[.int .i64 a0_0, .int .i64 a0_1, .int .i64 a0_2, .int .i64 a0_3, .int .i64 a0_4, .int .i64 a0_5, .int .i64 a0_6, .slice A0_7 l0_7.length c0_7, .slice A0_8 l0_8.length c0_8]) (t := 27) ?hr ?_; (case hd => rfl); (case hg => rfl); (case hr => first | (go_simp; done) | (go_simp; rfl)); intro gb399 hg w3 hbox hb; have BK399 := zM (hbox); have GW399 := zM (bs_ hg); have GE399 := zM (bs_ hg); replace HB := zM (zB bel_ hb); clear hb hbox hg; obtain ⟨hcz4_0, hcz4_1, hcz4_2, hcz4_3, hcz4_4, hcz4_5, hcz4_6, hcz4_7, hcz4_8⟩ := r9_ BK399.out; obtain ⟨hfz4_0, hfz4_1, hfz4_2, hfz4_3, hfz4_4, hfz4_5, hfz4_6, hfz4_7, hfz4_8⟩ := f9_ BK399.out))
  go_loopg [10] k (fun kq v10 w' => ∃ (x10_1 : Int), v10 = .int .i64 x10_1 ∧ Aside0 (ropewaylaw14_right.l0 kq l1 (l1.length : Int) x10_1 a0_0 a0_1 0 a0_3 a0_4 a0_5 a0_6 l0_7 l0_8 = some r) ∧ Aside0 (kq ≤ k) ∧ Aside0 (w'.heap[gb399]? = some (.cells #[.int .i64 a0_0, .int .i64 a0_1, .int .i64 0, .int .i64 a0_3, .int .i64 a0_4, .int .i64 a0_5, .int .i64 a0_6, (.slice A0_7 l0_7.length c0_7), (.slice A0_8 l0_8.length c0_8)] 27 (0, 0))) ∧ Aside0 (Below w.heap.size w w'))
  case atStart => exact ⟨(0), (by first | rfl | (simp; done) | (simp [*]; done) | (simp; grind)), H', ⟨Nat.le_refl _⟩, ⟨by (with_reducible repeat (first | refine zN ?_ _ | refine zD ?_ | refine zA ?_ _)); refine blk_put (cs := #[.int .i64 a0_0, .int .i64 a0_1, .int .i64 a0_2, .int .i64 a0_3, .int .i64 a0_4, .int .i64 a0_5, .int .i64 a0_6, .slice A0_7 l0_7.length c0_7, .slice A0_8 l0_8.length c0_8]) ?_ 2 _ rfl; (with_reducible repeat (first | refine zN ?_ _ | refine zD ?_ | refine zA ?_ _)); exact BK399.out⟩, ⟨bel_⟩⟩
  case round =>
   clear H'
   try clear c1
   try clear p2
   try clear hcz4_0
   try clear hcz4_1
   try clear hcz4_2
   try clear hcz4_3
   try clear hcz4_4
   try clear hcz4_5
   try clear hcz4_6
   try clear hcz4_7
   try clear hcz4_8
   try clear hfz4_0
   try clear hfz4_1
   try clear hfz4_2
   try clear hfz4_3
   try clear hfz4_4
   try clear hfz4_5
   try clear hfz4_6
   try clear hfz4_7
   try clear hfz4_8
   obtain ⟨x10_1, rfl, HA, HK1, BK399, HB⟩ := hrel
   cases gk with
   | zero => exact absurd HA.out (by simp [ropewaylaw14_right.l0])
   | succ k1 =>
    have H := HA.out
    clear HA
    simp only [ropewaylaw14_right.l0] at H
    by_cases c5 : x10_1 < (l1.length : Int)
    rotate_left
    · rw [if_neg c5] at H
      have c5b0 : decide (x10_1 < (l1.length : Int)) = false := decide_eq_false c5
      clear c5
      replace H := Option.bind_eq_some_iff.mp H
      obtain ⟨t403, A180, H⟩ := H
      replace H : (some t403) = some r := H
      have A18 := zM A180
      clear A180
      obtain rfl := Option.some.inj H
      obtain ⟨hcz19_0, hcz19_1, hcz19_2, hcz19_3, hcz19_4, hcz19_5, hcz19_6, hcz19_7, hcz19_8⟩ := r9_ BK399.out
      obtain ⟨hfz19_0, hfz19_1, hfz19_2, hfz19_3, hfz19_4, hfz19_5, hfz19_6, hfz19_7, hfz19_8⟩ := f9_ BK399.out
      go_wp2_with (first | ((with_reducible refine gate_callee (f := 31) rfl ?_); refine goL_ (some 19) Try.func31 #[.agg #[.int .i64 a0_0, .int .i64 a0_1, .int .i64 0, .int .i64 a0_3, .int .i64 a0_4, .int .i64 a0_5, .int .i64 a0_6, .slice A0_7 l0_7.length c0_7, .slice A0_8 l0_8.length c0_8]] ?_; (with_reducible refine (ropewayref11_Right.calls k1 a0_0 a0_1 0 a0_3 a0_4 a0_5 a0_6 _ _ l0_7 _ _ l0_8 t403 _ ?side1 ?side2 ?side3 ?side4 A18.out).mono ?_); (case side1 => repeat (first | exact (Kd.C_below HR0_7.out HB.out) | (with_reducible refine Kd.C_alloc ?_ _) | (with_reducible refine Kd.C_drewN ?_ _) | (with_reducible refine Kd.C_drew ?_))); (case side2 => exact HC0_7.out); (case side3 => repeat (first | exact (Kd.C_below HR0_8.out HB.out) | (with_reducible refine Kd.C_alloc ?_ _) | (with_reducible refine Kd.C_drewN ?_ _) | (with_reducible refine Kd.C_drew ?_))); (case side4 => exact HC0_8.out); rintro e w20 ⟨rfl, hb⟩; refine ⟨_, rfl, ?_⟩; replace BK399 := zM (bb_ BK399 hb); replace HB := zM (zB bel_ hb); (try clear hb); (try clear hb2); (try clear hk); (try clear hi)))
      go_ret
      exact ⟨by first | rfl | (simp [errW_none, errW_some] <;> rfl) | (simp [*, errW_none, errW_some] <;> rfl), bel_⟩
    rw [if_pos c5] at H
    have c5b0 : decide (x10_1 < (l1.length : Int)) = true := decide_eq_true c5
    clear c5
    by_cases c6 : 0 ≤ x10_1
    rotate_left
    · rw [if_neg c6] at H
      exact absurd H (by simp)
    rw [if_pos c6] at H
    have c6b0 : decide (0 ≤ x10_1) = true := decide_eq_true c6
    clear c6
    by_cases c7 : x10_1 < (l1.length : Int)
    rotate_left
    · rw [if_neg c7] at H
      exact absurd H (by simp)
    rw [if_pos c7] at H
    have c7b0 : decide (x10_1 < (l1.length : Int)) = true := decide_eq_true c7
    clear c7
    replace H := Option.bind_eq_some_iff.mp H
    obtain ⟨t402, A80, H⟩ := H
    replace H : (if t402 = true then (ropewaylaw14_right.l0 k1 l1 (l1.length : Int) (wrap64 (x10_1 + 1)) a0_0 a0_1 0 a0_3 a0_4 a0_5 a0_6 l0_7 l0_8) else (some false)) = some r := H
    have A8 := zM A80
    clear A80
    by_cases c9 : t402 = true
    rotate_left
    · replace c9 := Bool.eq_false_iff.mpr c9
      subst c9
      have H1 : (some false) = some r := by rw [if_neg (show ¬ (false = true) by decide)] at H; exact H
      clear H
      have H := H1
      clear H1
      obtain rfl := Option.some.inj H
      have p400 : 0 ≤ (x10_1 : Int) := of_decide_eq_true (by first | (with_reducible assumption) | assumption)
      have q400 : x10_1 < (l1.length : Int) := of_decide_eq_true (by first | (with_reducible assumption) | assumption)
      obtain ⟨ad400, A400_7, c400_7, A400_8, c400_8, e400, hx400_0, hx400_1, hx400_2, hx400_3, hx400_4, hx400_5, hx400_6, hx400_7, hx400_8, hl400_7, hi400_7, hl400_8, hi400_8⟩ := at_T27 HR1.out x10_1 p400 q400
      cases e400
      replace hx400_0 := (HB.out.cell (World.block_lt_of_cell? w _ hx400_0)).trans hx400_0
      replace hx400_1 := (HB.out.cell (World.block_lt_of_cell? w _ hx400_1)).trans hx400_1
      replace hx400_2 := (HB.out.cell (World.block_lt_of_cell? w _ hx400_2)).trans hx400_2
      replace hx400_3 := (HB.out.cell (World.block_lt_of_cell? w _ hx400_3)).trans hx400_3
      replace hx400_4 := (HB.out.cell (World.block_lt_of_cell? w _ hx400_4)).trans hx400_4
      replace hx400_5 := (HB.out.cell (World.block_lt_of_cell? w _ hx400_5)).trans hx400_5
      replace hx400_6 := (HB.out.cell (World.block_lt_of_cell? w _ hx400_6)).trans hx400_6
      replace hx400_7 := (HB.out.cell (World.block_lt_of_cell? w _ hx400_7)).trans hx400_7
      replace hx400_8 := (HB.out.cell (World.block_lt_of_cell? w _ hx400_8)).trans hx400_8
      have HR400_7 := zM hi400_7
      have HC400_7 := zM hl400_7
      clear hi400_7 hl400_7
      have HR400_8 := zM hi400_8
      have HC400_8 := zM hl400_8
      clear hi400_8 hl400_8
      replace p400 := eq_true p400
      replace q400 := eq_true q400
      go_wp2_with (first | ((with_reducible refine gate_dst (N := 6) rfl ?_); refine box_event ?hg (N := 6) ?hd (cs := #[.int .i64 0, .int .i64 0, .int .i64 0, .int .i64 0, .int .i64 0, .int .i64 0, .int .i64 0, .slice none 0 0, .slice none 0 0]) (t := 27) ?hr ?_; (case hd => rfl); (case hg => rfl); (case hr => first | (go_simp; done) | (go_simp; rfl)); intro gb401 hg w14 hbox hb; have BK401 := zM (hbox); have GW401 := zM (bs_ hg); have GE401 := zM (bs_ hg); replace HB := zM (zB bel_ hb); have NB399_401 := zM (nl_ BK399 hg); have NB401_399 := zM (ng_ BK399 hg); replace BK399 := zM (bb_ BK399 hb); clear hb hbox hg; have hnb15 := NB401_399.out; have hnc15 := NB399_401.out; obtain ⟨hcz16_0, hcz16_1, hcz16_2, hcz16_3, hcz16_4, hcz16_5, hcz16_6, hcz16_7, hcz16_8⟩ := r9_ BK401.out; obtain ⟨hfz16_0, hfz16_1, hfz16_2, hfz16_3, hfz16_4, hfz16_5, hfz16_6, hfz16_7, hfz16_8⟩ := f9_ BK401.out) | ((with_reducible refine gate_callee (f := 31) rfl ?_); refine goL_ (some 15) Try.func31 #[.agg #[.int .i64 ((rd_T27 l1 x10_1).f0), .int .i64 ((rd_T27 l1 x10_1).f1), .int .i64 ((rd_T27 l1 x10_1).f2), .int .i64 ((rd_T27 l1 x10_1).f3), .int .i64 ((rd_T27 l1 x10_1).f4), .int .i64 ((rd_T27 l1 x10_1).f5.f0), .int .i64 ((rd_T27 l1 x10_1).f5.f1), .slice A400_7 ((rd_T27 l1 x10_1).f6).length c400_7, .slice A400_8 ((rd_T27 l1 x10_1).f7).length c400_8]] ?_; (with_reducible refine (ropewayref11_Right.calls k1 ((rd_T27 l1 x10_1).f0) ((rd_T27 l1 x10_1).f1) ((rd_T27 l1 x10_1).f2) ((rd_T27 l1 x10_1).f3) ((rd_T27 l1 x10_1).f4) ((rd_T27 l1 x10_1).f5.f0) ((rd_T27 l1 x10_1).f5.f1) _ _ ((rd_T27 l1 x10_1).f6) _ _ ((rd_T27 l1 x10_1).f7) false _ ?side1 ?side2 ?side3 ?side4 A8.out).mono ?_); (case side1 => exact Kd.C_below HR400_7.out bel_); (case side2 => exact HC400_7.out); (case side3 => exact Kd.C_below HR400_8.out bel_); (case side4 => exact HC400_8.out); rintro e w17 ⟨rfl, hb⟩; refine ⟨_, rfl, ?_⟩; replace BK399 := zM (blk_below (g := gb399) (o := .cells #[.int .i64 a0_0, .int .i64 a0_1, .int .i64 0, .int .i64 a0_3, .int .i64 a0_4, .int .i64 a0_5, .int .i64 a0_6, .slice A0_7 l0_7.length c0_7, .slice A0_8 l0_8.length c0_8] 27 (0, 0)) blf_ hb); replace BK401 := zM (blk_below (g := gb401) (o := .cells #[.int .i64 ((rd_T27 l1 x10_1).f0), .int .i64 ((rd_T27 l1 x10_1).f1), .int .i64 ((rd_T27 l1 x10_1).f2), .int .i64 ((rd_T27 l1 x10_1).f3), .int .i64 ((rd_T27 l1 x10_1).f4), .int .i64 ((rd_T27 l1 x10_1).f5.f0), .int .i64 ((rd_T27 l1 x10_1).f5.f1), .slice A400_7 ((rd_T27 l1 x10_1).f6).length c400_7, .slice A400_8 ((rd_T27 l1 x10_1).f7).length c400_8] 27 (0, 0)) (by (with_reducible repeat (first | refine zN ?_ _ | refine zD ?_ | refine zA ?_ _)); exact fx9_ BK401) hb); replace HB := zM (zB bel_ hb); (try clear hb); (try clear hb2); (try clear hk); (try clear hi)))
      go_ret
      exact ⟨by first | rfl | (simp [errW_none, errW_some] <;> rfl) | (simp [*, errW_none, errW_some] <;> rfl), bel_⟩
    subst c9
    have H1 : (ropewaylaw14_right.l0 k1 l1 (l1.length : Int) (wrap64 (x10_1 + 1)) a0_0 a0_1 0 a0_3 a0_4 a0_5 a0_6 l0_7 l0_8) = some r := by rw [if_pos rfl] at H; exact H
    clear H
    have H := H1
    clear H1
    have H' := zM H
    clear H
    have p400 : 0 ≤ (x10_1 : Int) := of_decide_eq_true (by first | (with_reducible assumption) | assumption)
    have q400 : x10_1 < (l1.length : Int) := of_decide_eq_true (by first | (with_reducible assumption) | assumption)
    obtain ⟨ad400, A400_7, c400_7, A400_8, c400_8, e400, hx400_0, hx400_1, hx400_2, hx400_3, hx400_4, hx400_5, hx400_6, hx400_7, hx400_8, hl400_7, hi400_7, hl400_8, hi400_8⟩ := at_T27 HR1.out x10_1 p400 q400
    cases e400
    replace hx400_0 := (HB.out.cell (World.block_lt_of_cell? w _ hx400_0)).trans hx400_0
    replace hx400_1 := (HB.out.cell (World.block_lt_of_cell? w _ hx400_1)).trans hx400_1
    replace hx400_2 := (HB.out.cell (World.block_lt_of_cell? w _ hx400_2)).trans hx400_2
    replace hx400_3 := (HB.out.cell (World.block_lt_of_cell? w _ hx400_3)).trans hx400_3
    replace hx400_4 := (HB.out.cell (World.block_lt_of_cell? w _ hx400_4)).trans hx400_4
    replace hx400_5 := (HB.out.cell (World.block_lt_of_cell? w _ hx400_5)).trans hx400_5
    replace hx400_6 := (HB.out.cell (World.block_lt_of_cell? w _ hx400_6)).trans hx400_6
    replace hx400_7 := (HB.out.cell (World.block_lt_of_cell? w _ hx400_7)).trans hx400_7
    replace hx400_8 := (HB.out.cell (World.block_lt_of_cell? w _ hx400_8)).trans hx400_8
    have HR400_7 := zM hi400_7
    have HC400_7 := zM hl400_7
    clear hi400_7 hl400_7
    have HR400_8 := zM hi400_8
    have HC400_8 := zM hl400_8
    clear hi400_8 hl400_8
    replace p400 := eq_true p400
    replace q400 := eq_true q400
    go_wp2_with (first | ((with_reducible refine gate_dst (N := 6) rfl ?_); refine box_event ?hg (N := 6) ?hd (cs := #[.int .i64 0, .int .i64 0, .int .i64 0, .int .i64 0, .int .i64 0, .int .i64 0, .int .i64 0, .slice none 0 0, .slice none 0 0]) (t := 27) ?hr ?_; (case hd => rfl); (case hg => rfl); (case hr => first | (go_simp; done) | (go_simp; rfl)); intro gb401 hg w10 hbox hb; have BK401 := zM (hbox); have GW401 := zM (bs_ hg); have GE401 := zM (bs_ hg); replace HB := zM (zB bel_ hb); have NB399_401 := zM (nl_ BK399 hg); have NB401_399 := zM (ng_ BK399 hg); replace BK399 := zM (bb_ BK399 hb); clear hb hbox hg; have hnb11 := NB401_399.out; have hnc11 := NB399_401.out; obtain ⟨hcz12_0, hcz12_1, hcz12_2, hcz12_3, hcz12_4, hcz12_5, hcz12_6, hcz12_7, hcz12_8⟩ := r9_ BK401.out; obtain ⟨hfz12_0, hfz12_1, hfz12_2, hfz12_3, hfz12_4, hfz12_5, hfz12_6, hfz12_7, hfz12_8⟩ := f9_ BK401.out) | ((with_reducible refine gate_callee (f := 31) rfl ?_); refine goL_ (some 15) Try.func31 #[.agg #[.int .i64 ((rd_T27 l1 x10_1).f0), .int .i64 ((rd_T27 l1 x10_1).f1), .int .i64 ((rd_T27 l1 x10_1).f2), .int .i64 ((rd_T27 l1 x10_1).f3), .int .i64 ((rd_T27 l1 x10_1).f4), .int .i64 ((rd_T27 l1 x10_1).f5.f0), .int .i64 ((rd_T27 l1 x10_1).f5.f1), .slice A400_7 ((rd_T27 l1 x10_1).f6).length c400_7, .slice A400_8 ((rd_T27 l1 x10_1).f7).length c400_8]] ?_; (with_reducible refine (ropewayref11_Right.calls k1 ((rd_T27 l1 x10_1).f0) ((rd_T27 l1 x10_1).f1) ((rd_T27 l1 x10_1).f2) ((rd_T27 l1 x10_1).f3) ((rd_T27 l1 x10_1).f4) ((rd_T27 l1 x10_1).f5.f0) ((rd_T27 l1 x10_1).f5.f1) _ _ ((rd_T27 l1 x10_1).f6) _ _ ((rd_T27 l1 x10_1).f7) true _ ?side1 ?side2 ?side3 ?side4 A8.out).mono ?_); (case side1 => exact Kd.C_below HR400_7.out bel_); (case side2 => exact HC400_7.out); (case side3 => exact Kd.C_below HR400_8.out bel_); (case side4 => exact HC400_8.out); rintro e w13 ⟨rfl, hb⟩; refine ⟨_, rfl, ?_⟩; replace BK399 := zM (blk_below (g := gb399) (o := .cells #[.int .i64 a0_0, .int .i64 a0_1, .int .i64 0, .int .i64 a0_3, .int .i64 a0_4, .int .i64 a0_5, .int .i64 a0_6, .slice A0_7 l0_7.length c0_7, .slice A0_8 l0_8.length c0_8] 27 (0, 0)) blf_ hb); replace BK401 := zM (blk_below (g := gb401) (o := .cells #[.int .i64 ((rd_T27 l1 x10_1).f0), .int .i64 ((rd_T27 l1 x10_1).f1), .int .i64 ((rd_T27 l1 x10_1).f2), .int .i64 ((rd_T27 l1 x10_1).f3), .int .i64 ((rd_T27 l1 x10_1).f4), .int .i64 ((rd_T27 l1 x10_1).f5.f0), .int .i64 ((rd_T27 l1 x10_1).f5.f1), .slice A400_7 ((rd_T27 l1 x10_1).f6).length c400_7, .slice A400_8 ((rd_T27 l1 x10_1).f7).length c400_8] 27 (0, 0)) (by (with_reducible repeat (first | refine zN ?_ _ | refine zD ?_ | refine zA ?_ _)); exact fx9_ BK401) hb); replace HB := zM (zB bel_ hb); (try clear hb); (try clear hb2); (try clear hk); (try clear hi)))
    go_roundg k1
    case measure => have := HK1.out; omega
    case rel => exact ⟨(wrap64 (x10_1 + 1)), (by first | rfl | (simp; done) | (simp [*]; done) | (simp; grind)), H', ⟨by have := HK1.out; omega⟩, ⟨blf_⟩, ⟨bel_⟩⟩
end Go.Proofs.Ytmgiaappokkjfaa.PRoundStays
