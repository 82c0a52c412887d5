/- Written by a program of this session (wip/tool/px.py) over the kit's print: what the code that the law SnapRuns reaches computes, function by function, and the law's row. -/
import Derived.Test.YtoelfknhnmhlmaaPSnapRunsx0
import Derived.Test.YtoelfknhnmhlmaaPSnapRunsx1
import Derived.Test.YtoelfknhnmhlmaaPSnapRunsx6
namespace Go.Proofs.Ytoelfknhnmhlmaa.PSnapRuns
open Go.RowKit Go.Proofs.YtoelfknhnmhlmaaX Go.Proofs.YtoelfknhnmhlmaaW.PrintWords Go.Proofs.YtoelfknhnmhlmaaW.PrintLast Go.Proofs.YtoelfknhnmhlmaaW.PrintMore
open List renaming setIfInBounds_toArray → zS, set_cons_zero → zZ, set_cons_succ → zC
open Go.Proofs.YtoelfknhnmhlmaaW.PrintWords renaming blk_drewN → zN, blk_drew → zD, blk_alloc → zA, blk_cell → zL, below_step → zB
open Go.Proofs.YtoelfknhnmhlmaaW.PrintWords.Aside0 renaming mk → zM
attribute [local go_sem] max2_int min2_int max_two min_two max_three min_three max_four min_four   -- for this text's walks alone
set_option linter.unusedVariables false
set_option linter.unusedSimpArgs false

attribute [local go_sem] px_nilq27
attribute [local go_sem high] eqA26
/-! ### ropewayref10_Check: function 14 -/
mutual
def ropewayref10_Check.l0 : Nat → List (S34) → List (S34) → Int → Int → Option (Int)
  | 0, _, _, _, _ => none
  | k + 1, x0, x5, x6, x7 => if x7 < x6 then (if 0 ≤ x7 then (if x7 < (x5.length : Int) then (if ((rd_T34 x5 x7).f0) < 0 then (ropewayref10_Check.j1 k x0 x5 x6 x7 true) else (if ((rd_T34 x5 x7).f0) > 5 then (ropewayref10_Check.j1 k x0 x5 x6 x7 true) else ((ropewayref04_Right.f ((rd_T34 x5 x7).f1.f0) ((rd_T34 x5 x7).f1.f1)).bind fun t185 => (if t185 = true then (if (((rd_T34 x5 x7).f1.f0) == 0 && (((rd_T34 x5 x7).f1.f1) == 0)) = true then (ropewayref10_Check.j1 k x0 x5 x6 x7 true) else (if x7 > 0 then (if 0 ≤ (wrap64 (x7 - 1)) then (if (wrap64 (x7 - 1)) < (x0.length : Int) then (ropewayref10_Check.j1 k x0 x5 x6 x7 (decide (((rd_T34 x0 (wrap64 (x7 - 1))).f0) ≥ ((rd_T34 x5 x7).f0)))) else (none)) else (none)) else (ropewayref10_Check.j1 k x0 x5 x6 x7 false))) else (ropewayref10_Check.j1 k x0 x5 x6 x7 true))))) else (none)) else (none)) else (some 0)
def ropewayref10_Check.j1 : Nat → List (S34) → List (S34) → Int → Int → Bool → Option (Int)
  | 0, _, _, _, _, _ => none
  | k + 1, x0, x5, x6, x7, x46 => if x46 = true then (some 101) else (ropewayref10_Check.l0 k x0 x5 x6 (wrap64 (x7 + 1)))
end
def ropewayref10_Check.f (k : Nat) (l0 : List (S34)) : Option (Int) := ropewayref10_Check.l0 k l0 l0 (l0.length : Int) 0
theorem ropewayref10_Check.mono_l : ∀ k, (∀ y0 y1 y2 y3, LeO (ropewayref10_Check.l0 k y0 y1 y2 y3) (ropewayref10_Check.l0 (k + 1) y0 y1 y2 y3)) ∧ (∀ y0 y1 y2 y3 y4, LeO (ropewayref10_Check.j1 k y0 y1 y2 y3 y4) (ropewayref10_Check.j1 (k + 1) y0 y1 y2 y3 y4))
  | 0 => ⟨fun _ _ _ _ r h => by simp [ropewayref10_Check.l0] at h, fun _ _ _ _ _ r h => by simp [ropewayref10_Check.j1] at h⟩
  | k + 1 => by
    obtain ⟨ih0, ih1⟩ := ropewayref10_Check.mono_l k
    refine ⟨?_, ?_⟩
    · intro y0 y1 y2 y3
      unfold ropewayref10_Check.l0
      repeat' first
      | (with_reducible exact ih0 _ _ _ _)
      | (with_reducible exact ih1 _ _ _ _ _)
      | (with_reducible exact LeO.refl _)
      | (with_reducible exact LeO.none _)
      | (with_reducible refine LeO.ite ?_ ?_)
      | (with_reducible refine LeO.bind ?_ (fun _ => ?_))
      | exact ih0 _ _ _ _
      | exact ih1 _ _ _ _ _
      | exact LeO.none _
      | refine LeO.ite ?_ ?_
      | refine LeO.bind ?_ (fun _ => ?_)
    · intro y0 y1 y2 y3 y4
      unfold ropewayref10_Check.j1
      repeat' first
      | (with_reducible exact ih0 _ _ _ _)
      | (with_reducible exact ih1 _ _ _ _ _)
      | (with_reducible exact LeO.refl _)
      | (with_reducible exact LeO.none _)
      | (with_reducible refine LeO.ite ?_ ?_)
      | (with_reducible refine LeO.bind ?_ (fun _ => ?_))
      | exact ih0 _ _ _ _
      | exact ih1 _ _ _ _ _
      | exact LeO.none _
      | refine LeO.ite ?_ ?_
      | refine LeO.bind ?_ (fun _ => ?_)
theorem ropewayref10_Check.mono : ∀ a0 k, LeO (ropewayref10_Check.f k a0) (ropewayref10_Check.f (k + 1) a0) := by
  intro a0 k
  obtain ⟨ih0, ih1⟩ := ropewayref10_Check.mono_l k
  unfold ropewayref10_Check.f
  repeat' first
      | (with_reducible exact ih0 _ _ _ _)
      | (with_reducible exact ih1 _ _ _ _ _)
      | (with_reducible exact LeO.refl _)
      | (with_reducible exact LeO.none _)
      | (with_reducible refine LeO.ite ?_ ?_)
      | (with_reducible refine LeO.bind ?_ (fun _ => ?_))
      | exact ih0 _ _ _ _
      | exact ih1 _ _ _ _ _
      | exact LeO.none _
      | refine LeO.ite ?_ ?_
      | refine LeO.bind ?_ (fun _ => ?_)
def ropewayref10_Check.T4 : Bool × List (List Nat × List Nat) := (true, [([], []), ([0], [0]), ([1], [1]), ([2], [2]), ([3], [3]), ([4, 3], [3, 4]), ([5, 3], [3, 5]), ([3, 6], [3, 6]), ([7, 3], [7]), ([8], [8]), ([9, 8], [8, 9]), ([10, 8, 8], [8, 10]), ([11, 8], [8, 11]), ([8, 12], [8, 12]), ([13, 11], [13]), ([14], [14]), ([15, 14], [14, 15]), ([14], [14]), ([16, 17, 14], [14, 16, 17]), ([14, 18], [14, 18]), ([19, 14], [19]), ([20], [20]), ([21, 20], [20, 21]), ([22, 20, 20], [20, 22]), ([23], [23]), ([23], [23]), ([25, 23], [23, 25]), ([24, 26, 23], [23, 24, 26]), ([27, 23], [23, 27]), ([28, 23], [23, 28]), ([23], [23]), ([30, 23], [23, 30]), ([29, 31, 23], [23, 29, 31]), ([23, 32, 20], [20, 23, 32]), ([20, 33], [20, 33])])
def ropewayref10_Check.B4 : List Nat := [0, 1, 3, 7, 15, 31, 63, 127, 255, 511, 1023, 2047, 4095, 8191, 16383, 32767, 65535, 32767, 262143, 524287, 1048575, 2097151, 4194303, 8388607, 16777215, 16777215, 50331647, 134217727, 268435455, 536870911, 16777215, 1090519039, 4294967295, 8589934591, 17179869183]
theorem ropewayref10_Check.tab4 : rtab .any (opsOf Try.f14 4) = ropewayref10_Check.T4 := by kernel_rfl
theorem ropewayref10_Check.bits4 : waitsOk ropewayref10_Check.T4.2 ropewayref10_Check.B4 = true := by kernel_rfl
set_option maxHeartbeats 8000000 in
set_option maxRecDepth 100000 in
theorem ropewayref10_Check.calls (k : Nat) (A0 : Option Addr) (c0 : Nat) (l0 : List (S34)) (r : Int) (w : World) (hr0 : Kd.C k34 w A0 l0.length l0) (hc0 : l0.length ≤ c0) (h : ropewayref10_Check.f k l0 = some r) :
    Calls Try.prog 14 #[.slice A0 l0.length c0] w fun e w' => e = .returned (.int .i64 r) ∧ Below w.heap.size w w' := by
  have hu34 := Try.underlying34
  have hu26 := Try.underlying26
  have HR0 := zM hr0
  have HC0 := zM hc0
  clear hr0 hc0
  have HB := zM (Below.refl w.heap.size w)
  have H : (ropewayref10_Check.l0 k l0 l0 (l0.length : Int) 0) = some r := h
  clear h
  have H' := zM H
  clear H
  go_enter Try.func14, Try.ntmps14
  go_wp2
  go_loopg [7] k (fun kq v7 w' => ∃ (x7_1 : Int), v7 = .int .i64 x7_1 ∧ Aside0 (ropewayref10_Check.l0 kq l0 l0 (l0.length : Int) x7_1 = some r) ∧ Aside0 (kq ≤ k) ∧ Aside0 (Below w.heap.size w w'))
  case atStart => exact ⟨(0), (by first | rfl | (simp; done) | (simp [*]; done) | (simp; grind)), H', ⟨Nat.le_refl _⟩, ⟨bel_⟩⟩
  case round =>
   clear H'
   try clear c1
   obtain ⟨x7_1, rfl, HA, HK1, HB⟩ := hrel
   cases gk with
   | zero => exact absurd HA.out (by simp [ropewayref10_Check.l0])
   | succ k1 =>
    have H := HA.out
    clear HA
    simp only [ropewayref10_Check.l0] at H
    by_cases c2 : x7_1 < (l0.length : Int)
    rotate_left
    · rw [if_neg c2] at H
      have c2b0 : decide (x7_1 < (l0.length : Int)) = false := decide_eq_false c2
      clear c2
      obtain rfl := Option.some.inj H
      go_wp2
      go_ret
      exact ⟨by first | rfl | (simp [errW_none, errW_some] <;> rfl) | (simp [*, errW_none, errW_some] <;> rfl), bel_⟩
    rw [if_pos c2] at H
    have c2b0 : decide (x7_1 < (l0.length : Int)) = true := decide_eq_true c2
    clear c2
    by_cases c3 : 0 ≤ x7_1
    rotate_left
    · rw [if_neg c3] at H
      exact absurd H (by simp)
    rw [if_pos c3] at H
    have c3b0 : decide (0 ≤ x7_1) = true := decide_eq_true c3
    clear c3
    by_cases c4 : x7_1 < (l0.length : Int)
    rotate_left
    · rw [if_neg c4] at H
      exact absurd H (by simp)
    rw [if_pos c4] at H
    have c4b0 : decide (x7_1 < (l0.length : Int)) = true := decide_eq_true c4
    clear c4
    have HC5 := zM H
    clear H
    have p183 : 0 ≤ (x7_1 : Int) := of_decide_eq_true (by first | (with_reducible assumption) | assumption)
    have q183 : x7_1 < (l0.length : Int) := of_decide_eq_true (by first | (with_reducible assumption) | assumption)
    obtain ⟨ad183, e183, hx183_0, hx183_1, hx183_2⟩ := at_T34 HR0.out x7_1 p183 q183
    cases e183
    replace hx183_0 := (HB.out.cell (World.block_lt_of_cell? w _ hx183_0)).trans hx183_0
    replace hx183_1 := (HB.out.cell (World.block_lt_of_cell? w _ hx183_1)).trans hx183_1
    replace hx183_2 := (HB.out.cell (World.block_lt_of_cell? w _ hx183_2)).trans hx183_2
    replace p183 := eq_true p183
    replace q183 := eq_true q183
    go_upto_region 4 with (first | ((with_reducible refine gate_dst (N := 4) rfl ?_); refine box_event ?hg (N := 4) ?hd (cs := #[.int .i64 0, .int .i64 0, .int .i64 0]) (t := 34) ?hr ?_; (case hd => rfl); (case hg => rfl); (case hr => first | (go_simp; done) | (go_simp; rfl)); intro gb184 hg w6 hbox hb; have BK184 := zM (hbox); have GW184 := zM (bs_ hg); have GE184 := zM (bs_ hg); replace HB := zM (zB bel_ hb); clear hb hbox hg; obtain ⟨hcz7_0, hcz7_1, hcz7_2⟩ := r3_ BK184.out; obtain ⟨hfz7_0, hfz7_1, hfz7_2⟩ := f3_ BK184.out))
    (try simp only [Act.put, zS, zZ, zC])
    go_cut [46] (fun v46 wc => ∃ (kq : Nat) (x46_4 : Bool), v46 = .bool x46_4 ∧ Aside0 (ropewayref10_Check.j1 kq l0 l0 (l0.length : Int) x7_1 x46_4 = some r) ∧ Aside0 (kq ≤ k1) ∧ Aside0 (wc.heap[gb184]? = some (.cells #[.int .i64 ((rd_T34 l0 x7_1).f0), .int .i64 ((rd_T34 l0 x7_1).f1.f0), .int .i64 ((rd_T34 l0 x7_1).f1.f1)] 34 (0, 0))) ∧ Aside0 (Below w.heap.size w wc))
    case first =>
     have H := HC5.out
     clear HC5
     by_cases c8 : ((rd_T34 l0 x7_1).f0) < 0
     · rw [if_pos c8] at H
       have c8b0 : decide (((rd_T34 l0 x7_1).f0) < 0) = true := decide_eq_true c8
       clear c8
       (first | rw [c8b0] | (simp only [i64_w, i32_w]; rw [c8b0]) | skip)
       have H' := zM H
       clear H
       try go_wp2
       replace BK184 : Aside0 ((((w6.setCell ⟨gb184, 0, none⟩ (.int .i64 ((rd_T34 l0 x7_1).f0))).setCell ⟨gb184, 1, none⟩ (.int .i64 ((rd_T34 l0 x7_1).f1.f0))).setCell ⟨gb184, 2, none⟩ (.int .i64 ((rd_T34 l0 x7_1).f1.f1))).heap[gb184]? = some (.cells #[.int .i64 ((rd_T34 l0 x7_1).f0), .int .i64 ((rd_T34 l0 x7_1).f1.f0), .int .i64 ((rd_T34 l0 x7_1).f1.f1)] 34 (0, 0))) := ⟨by (with_reducible repeat (first | refine zN ?_ _ | refine zD ?_ | refine zA ?_ _)); exact fx3_ BK184⟩
       replace HB : Aside0 (Below w.heap.size w (((w6.setCell ⟨gb184, 0, none⟩ (.int .i64 ((rd_T34 l0 x7_1).f0))).setCell ⟨gb184, 1, none⟩ (.int .i64 ((rd_T34 l0 x7_1).f1.f0))).setCell ⟨gb184, 2, none⟩ (.int .i64 ((rd_T34 l0 x7_1).f1.f1)))) := ⟨bel_⟩
       generalize (((w6.setCell ⟨gb184, 0, none⟩ (.int .i64 ((rd_T34 l0 x7_1).f0))).setCell ⟨gb184, 1, none⟩ (.int .i64 ((rd_T34 l0 x7_1).f1.f0))).setCell ⟨gb184, 2, none⟩ (.int .i64 ((rd_T34 l0 x7_1).f1.f1))) = w9 at BK184 HB ⊢
       have hQ0_ : w9.cell? ⟨gb184, 0, none⟩ = some (.int .i64 ((rd_T34 l0 x7_1).f0)) := (zL BK184.out 0).trans rfl
       have hQ1_ : w9.cell? ⟨gb184, 1, none⟩ = some (.int .i64 ((rd_T34 l0 x7_1).f1.f0)) := (zL BK184.out 1).trans rfl
       have hQ2_ : w9.cell? ⟨gb184, 2, none⟩ = some (.int .i64 ((rd_T34 l0 x7_1).f1.f1)) := (zL BK184.out 2).trans rfl
       go_quiet (fail)
       clear hQ0_ hQ1_ hQ2_
       replace BK184 := zM (zN BK184.out nq)
       replace HB := zM (pw_below_drewN HB.out nq)
       generalize w9.drewN nq = w10 at BK184 HB ⊢
       try go_wp2
       go_meet
       case rel => exact ⟨_, (true), (by first | rfl | (simp; done) | (simp [*]; done) | (simp; grind)), H', ⟨by have := HK1.out; first | omega | exact Nat.le_refl _⟩, ⟨blf_⟩, ⟨bel_⟩⟩
     rw [if_neg c8] at H
     have c8b0 : decide (((rd_T34 l0 x7_1).f0) < 0) = false := decide_eq_false c8
     clear c8
     (first | rw [c8b0] | (simp only [i64_w, i32_w]; rw [c8b0]) | skip)
     by_cases c11 : ((rd_T34 l0 x7_1).f0) > 5
     · rw [if_pos c11] at H
       have c11b0 : decide (5 < ((rd_T34 l0 x7_1).f0)) = true := decide_eq_true c11
       clear c11
       have H' := zM H
       clear H
       try go_wp2
       replace BK184 : Aside0 ((((w6.setCell ⟨gb184, 0, none⟩ (.int .i64 ((rd_T34 l0 x7_1).f0))).setCell ⟨gb184, 1, none⟩ (.int .i64 ((rd_T34 l0 x7_1).f1.f0))).setCell ⟨gb184, 2, none⟩ (.int .i64 ((rd_T34 l0 x7_1).f1.f1))).heap[gb184]? = some (.cells #[.int .i64 ((rd_T34 l0 x7_1).f0), .int .i64 ((rd_T34 l0 x7_1).f1.f0), .int .i64 ((rd_T34 l0 x7_1).f1.f1)] 34 (0, 0))) := ⟨by (with_reducible repeat (first | refine zN ?_ _ | refine zD ?_ | refine zA ?_ _)); exact fx3_ BK184⟩
       replace HB : Aside0 (Below w.heap.size w (((w6.setCell ⟨gb184, 0, none⟩ (.int .i64 ((rd_T34 l0 x7_1).f0))).setCell ⟨gb184, 1, none⟩ (.int .i64 ((rd_T34 l0 x7_1).f1.f0))).setCell ⟨gb184, 2, none⟩ (.int .i64 ((rd_T34 l0 x7_1).f1.f1)))) := ⟨bel_⟩
       generalize (((w6.setCell ⟨gb184, 0, none⟩ (.int .i64 ((rd_T34 l0 x7_1).f0))).setCell ⟨gb184, 1, none⟩ (.int .i64 ((rd_T34 l0 x7_1).f1.f0))).setCell ⟨gb184, 2, none⟩ (.int .i64 ((rd_T34 l0 x7_1).f1.f1))) = w12 at BK184 HB ⊢
       have hQ0_ : w12.cell? ⟨gb184, 0, none⟩ = some (.int .i64 ((rd_T34 l0 x7_1).f0)) := (zL BK184.out 0).trans rfl
       have hQ1_ : w12.cell? ⟨gb184, 1, none⟩ = some (.int .i64 ((rd_T34 l0 x7_1).f1.f0)) := (zL BK184.out 1).trans rfl
       have hQ2_ : w12.cell? ⟨gb184, 2, none⟩ = some (.int .i64 ((rd_T34 l0 x7_1).f1.f1)) := (zL BK184.out 2).trans rfl
       go_quiet (fail)
       clear hQ0_ hQ1_ hQ2_
       replace BK184 := zM (zN BK184.out nq)
       replace HB := zM (pw_below_drewN HB.out nq)
       generalize w12.drewN nq = w13 at BK184 HB ⊢
       try go_wp2
       go_meet
       case rel => exact ⟨_, (true), (by first | rfl | (simp; done) | (simp [*]; done) | (simp; grind)), H', ⟨by have := HK1.out; first | omega | exact Nat.le_refl _⟩, ⟨blf_⟩, ⟨bel_⟩⟩
     rw [if_neg c11] at H
     have c11b0 : decide (5 < ((rd_T34 l0 x7_1).f0)) = false := decide_eq_false c11
     clear c11
     replace H := Option.bind_eq_some_iff.mp H
     obtain ⟨t185, A140, H⟩ := H
     replace H : (if t185 = true then (if (((rd_T34 l0 x7_1).f1.f0) == 0 && (((rd_T34 l0 x7_1).f1.f1) == 0)) = true then (ropewayref10_Check.j1 k1 l0 l0 (l0.length : Int) x7_1 true) else (if x7_1 > 0 then (if 0 ≤ (wrap64 (x7_1 - 1)) then (if (wrap64 (x7_1 - 1)) < (l0.length : Int) then (ropewayref10_Check.j1 k1 l0 l0 (l0.length : Int) x7_1 (decide (((rd_T34 l0 (wrap64 (x7_1 - 1))).f0) ≥ ((rd_T34 l0 x7_1).f0)))) else (none)) else (none)) else (ropewayref10_Check.j1 k1 l0 l0 (l0.length : Int) x7_1 false))) else (ropewayref10_Check.j1 k1 l0 l0 (l0.length : Int) x7_1 true)) = some r := H
     have A14 := zM A140
     clear A140
     by_cases c15 : t185 = true
     rotate_left
     · replace c15 := Bool.eq_false_iff.mpr c15
       subst c15
       have H1 : (ropewayref10_Check.j1 k1 l0 l0 (l0.length : Int) x7_1 true) = some r := by rw [if_neg (show ¬ (false = true) by decide)] at H; exact H
       clear H
       have H := H1
       clear H1
       have H' := zM H
       clear H
       try go_wp2
       replace BK184 : Aside0 ((((w6.setCell ⟨gb184, 0, none⟩ (.int .i64 ((rd_T34 l0 x7_1).f0))).setCell ⟨gb184, 1, none⟩ (.int .i64 ((rd_T34 l0 x7_1).f1.f0))).setCell ⟨gb184, 2, none⟩ (.int .i64 ((rd_T34 l0 x7_1).f1.f1))).heap[gb184]? = some (.cells #[.int .i64 ((rd_T34 l0 x7_1).f0), .int .i64 ((rd_T34 l0 x7_1).f1.f0), .int .i64 ((rd_T34 l0 x7_1).f1.f1)] 34 (0, 0))) := ⟨by (with_reducible repeat (first | refine zN ?_ _ | refine zD ?_ | refine zA ?_ _)); exact fx3_ BK184⟩
       replace HB : Aside0 (Below w.heap.size w (((w6.setCell ⟨gb184, 0, none⟩ (.int .i64 ((rd_T34 l0 x7_1).f0))).setCell ⟨gb184, 1, none⟩ (.int .i64 ((rd_T34 l0 x7_1).f1.f0))).setCell ⟨gb184, 2, none⟩ (.int .i64 ((rd_T34 l0 x7_1).f1.f1)))) := ⟨bel_⟩
       generalize (((w6.setCell ⟨gb184, 0, none⟩ (.int .i64 ((rd_T34 l0 x7_1).f0))).setCell ⟨gb184, 1, none⟩ (.int .i64 ((rd_T34 l0 x7_1).f1.f0))).setCell ⟨gb184, 2, none⟩ (.int .i64 ((rd_T34 l0 x7_1).f1.f1))) = w30 at BK184 HB ⊢
       replace BK184 := zM (zD BK184.out)
       replace HB := zM (below_drew1 HB.out)
       refine start_ (n := 35) (S := fun w' => w'.cell? ⟨gb184, 0, none⟩ = some (.int .i64 ((rd_T34 l0 x7_1).f0)) ∧ w'.cell? ⟨gb184, 1, none⟩ = some (.int .i64 ((rd_T34 l0 x7_1).f1.f0)) ∧ w'.cell? ⟨gb184, 2, none⟩ = some (.int .i64 ((rd_T34 l0 x7_1).f1.f1))) (ds := []) #[F_, F_, F_, F_, F_, F_, F_, F_, F_, F_, F_, F_, F_, F_, F_, F_, F_, F_, F_, F_, F_, F_, F_, F_, F_, F_, F_, F_, F_, F_, F_, F_, F_, F_, F_] (by kernel_rfl) rfl rfl ⟨(zL BK184.out 0).trans rfl, (zL BK184.out 1).trans rfl, (zL BK184.out 2).trans rfl⟩ (fun hHeld => ?_); refine with_tabW ropewayref10_Check.tab4 ropewayref10_Check.bits4 (fun HT_ HW_ => ?_)
       generalize w30.drew = w31 at BK184 HB hHeld ⊢
       refine put_ HT_ 0 12 (dm_ 35 1) ?_
       refine tkt_ HT_ HW_ hHeld 1 13 (dm_ 35 3) ?_
       refine put_ HT_ 2 14 (dm_ 35 7) ?_
       refine put_ HT_ 3 15 (dm_ 35 15) ?_
       refine put_ HT_ 4 16 (dm_ 35 31) ?_
       refine tkt_ HT_ HW_ hHeld 5 17 (dm_ 35 63) ?_
       refine put_ HT_ 6 18 (dm_ 35 127) ?_
       refine put_ HT_ 7 19 (dm_ 35 255) ?_
       refine put_ HT_ 8 20 (dm_ 35 511) ?_
       refine put_ HT_ 9 21 (dm_ 35 1023) ?_
       refine tkt_ HT_ HW_ hHeld 10 22 (dm_ 35 2047) ?_
       refine one_ (i := 11) (N := some 23) (dm_ 35 4095) rfl rfl (one_of HT_.out (by kernel_rfl)) (by decide) (fun K hK => ?_)
       refine goes_ Try.func13 (by kernel_rfl) rfl #[.agg #[.int .i64 ((rd_T34 l0 x7_1).f1.f0), .int .i64 ((rd_T34 l0 x7_1).f1.f1)]] (by rfl) rfl rfl (by (try simp only [List.map_toArray, List.map_cons, List.map_nil]); first | done | rfl | (simp only [List.length_drop, List.length_take]; rfl)) ?_
       with_reducible refine (ropewayref04_Right.calls ((rd_T34 l0 x7_1).f1.f0) ((rd_T34 l0 x7_1).f1.f1) false _ A14.out).mono ?_
       rintro e w32 ⟨rfl, hb⟩
       refine ⟨_, rfl, ?_⟩
       replace BK184 := zM (bb_ BK184 hb)
       replace HB := zM (zB bel_ hb)
       (try clear hb)
       (try clear hb2)
       (try clear hk)
       (try clear hi)
       refine hK.out _ _ ⟨(zL BK184.out 0).trans rfl, (zL BK184.out 1).trans rfl, (zL BK184.out 2).trans rfl⟩ (fun hHeld => ?_)
       clear hK K
       refine norm_ (a' := ?_) ?_ ?_
       rotate_left
       · show Act.put _ (some 23) _ = _
         simp only [Act.put, zS, zZ, zC, i64_w, i32_w]
         rfl
       refine put_ HT_ 12 24 (dm_ 35 8191) ?_
       refine put_ HT_ 13 25 (dm_ 35 16383) ?_
       refine put_ HT_ 14 26 (dm_ 35 32767) ?_
       refine pzt_ HT_ 15 27 (dm_ 35 65535) ?_
       refine pzt_ HT_ 16 28 (dm_ 35 131071) ?_
       refine pzt_ HT_ 17 29 (dm_ 35 262143) ?_
       refine pzt_ HT_ 18 30 (dm_ 35 524287) ?_
       refine put_ HT_ 19 31 (dm_ 35 1048575) ?_
       refine put_ HT_ 20 32 (dm_ 35 2097151) ?_
       refine pzt_ HT_ 21 33 (dm_ 35 4194303) ?_
       refine pzt_ HT_ 22 34 (dm_ 35 8388607) ?_
       refine pzt_ HT_ 23 35 (dm_ 35 16777215) ?_
       refine pzt_ HT_ 24 36 (dm_ 35 33554431) ?_
       refine pzt_ HT_ 25 37 (dm_ 35 67108863) ?_
       refine pzt_ HT_ 26 38 (dm_ 35 134217727) ?_
       refine pzt_ HT_ 27 39 (dm_ 35 268435455) ?_
       refine pzt_ HT_ 28 40 (dm_ 35 536870911) ?_
       refine pzt_ HT_ 29 41 (dm_ 35 1073741823) ?_
       refine pzt_ HT_ 30 42 (dm_ 35 2147483647) ?_
       refine pzt_ HT_ 31 43 (dm_ 35 4294967295) ?_
       refine pzt_ HT_ 32 44 (dm_ 35 8589934591) ?_
       refine pzt_ HT_ 33 45 (dm_ 35 17179869183) ?_
       refine put_ HT_ 34 46 (dm_ 35 34359738367) ?_
       refine done_ (done_of HT_.out (by kernel_rfl)) ?_
       try go_wp2
       go_meet
       case rel => exact ⟨_, (true), (by first | rfl | (simp; done) | (simp [*]; done) | (simp; grind)), H', ⟨by have := HK1.out; first | omega | exact Nat.le_refl _⟩, ⟨blf_⟩, ⟨bel_⟩⟩
     subst c15
     have H1 : (if (((rd_T34 l0 x7_1).f1.f0) == 0 && (((rd_T34 l0 x7_1).f1.f1) == 0)) = true then (ropewayref10_Check.j1 k1 l0 l0 (l0.length : Int) x7_1 true) else (if x7_1 > 0 then (if 0 ≤ (wrap64 (x7_1 - 1)) then (if (wrap64 (x7_1 - 1)) < (l0.length : Int) then (ropewayref10_Check.j1 k1 l0 l0 (l0.length : Int) x7_1 (decide (((rd_T34 l0 (wrap64 (x7_1 - 1))).f0) ≥ ((rd_T34 l0 x7_1).f0)))) else (none)) else (none)) else (ropewayref10_Check.j1 k1 l0 l0 (l0.length : Int) x7_1 false))) = some r := by rw [if_pos rfl] at H; exact H
     clear H
     have H := H1
     clear H1
     by_cases c16 : (((rd_T34 l0 x7_1).f1.f0) == 0 && (((rd_T34 l0 x7_1).f1.f1) == 0)) = true
     · rw [if_pos c16] at H
       have c16b0 : (((rd_T34 l0 x7_1).f1.f0) == 0 && (((rd_T34 l0 x7_1).f1.f1) == 0)) = true := c16
       (try (have c16b1 : decide (((rd_T34 l0 x7_1).f1.f0) = 0 && (((rd_T34 l0 x7_1).f1.f1) == 0)) = true := by simpa using c16))
       (try (have c16b2 : (((rd_T34 l0 x7_1).f1.f0) == 0 && (((rd_T34 l0 x7_1).f1.f1) == 0)) = true := by simpa using c16))
       clear c16
       have H' := zM H
       clear H
       try go_wp2
       replace BK184 : Aside0 ((((w6.setCell ⟨gb184, 0, none⟩ (.int .i64 ((rd_T34 l0 x7_1).f0))).setCell ⟨gb184, 1, none⟩ (.int .i64 ((rd_T34 l0 x7_1).f1.f0))).setCell ⟨gb184, 2, none⟩ (.int .i64 ((rd_T34 l0 x7_1).f1.f1))).heap[gb184]? = some (.cells #[.int .i64 ((rd_T34 l0 x7_1).f0), .int .i64 ((rd_T34 l0 x7_1).f1.f0), .int .i64 ((rd_T34 l0 x7_1).f1.f1)] 34 (0, 0))) := ⟨by (with_reducible repeat (first | refine zN ?_ _ | refine zD ?_ | refine zA ?_ _)); exact fx3_ BK184⟩
       replace HB : Aside0 (Below w.heap.size w (((w6.setCell ⟨gb184, 0, none⟩ (.int .i64 ((rd_T34 l0 x7_1).f0))).setCell ⟨gb184, 1, none⟩ (.int .i64 ((rd_T34 l0 x7_1).f1.f0))).setCell ⟨gb184, 2, none⟩ (.int .i64 ((rd_T34 l0 x7_1).f1.f1)))) := ⟨bel_⟩
       generalize (((w6.setCell ⟨gb184, 0, none⟩ (.int .i64 ((rd_T34 l0 x7_1).f0))).setCell ⟨gb184, 1, none⟩ (.int .i64 ((rd_T34 l0 x7_1).f1.f0))).setCell ⟨gb184, 2, none⟩ (.int .i64 ((rd_T34 l0 x7_1).f1.f1))) = w17 at BK184 HB ⊢
       replace BK184 := zM (zD BK184.out)
       replace HB := zM (below_drew1 HB.out)
       refine start_ (n := 35) (S := fun w' => w'.cell? ⟨gb184, 0, none⟩ = some (.int .i64 ((rd_T34 l0 x7_1).f0)) ∧ w'.cell? ⟨gb184, 1, none⟩ = some (.int .i64 ((rd_T34 l0 x7_1).f1.f0)) ∧ w'.cell? ⟨gb184, 2, none⟩ = some (.int .i64 ((rd_T34 l0 x7_1).f1.f1))) (ds := []) #[F_, F_, F_, F_, F_, F_, F_, F_, F_, F_, F_, F_, F_, F_, F_, F_, F_, F_, F_, F_, F_, F_, F_, F_, F_, F_, F_, F_, F_, F_, F_, F_, F_, F_, F_] (by kernel_rfl) rfl rfl ⟨(zL BK184.out 0).trans rfl, (zL BK184.out 1).trans rfl, (zL BK184.out 2).trans rfl⟩ (fun hHeld => ?_); refine with_tabW ropewayref10_Check.tab4 ropewayref10_Check.bits4 (fun HT_ HW_ => ?_)
       generalize w17.drew = w18 at BK184 HB hHeld ⊢
       refine put_ HT_ 0 12 (dm_ 35 1) ?_
       refine tkt_ HT_ HW_ hHeld 1 13 (dm_ 35 3) ?_
       refine put_ HT_ 2 14 (dm_ 35 7) ?_
       refine put_ HT_ 3 15 (dm_ 35 15) ?_
       refine put_ HT_ 4 16 (dm_ 35 31) ?_
       refine tkt_ HT_ HW_ hHeld 5 17 (dm_ 35 63) ?_
       refine put_ HT_ 6 18 (dm_ 35 127) ?_
       refine put_ HT_ 7 19 (dm_ 35 255) ?_
       refine put_ HT_ 8 20 (dm_ 35 511) ?_
       refine put_ HT_ 9 21 (dm_ 35 1023) ?_
       refine tkt_ HT_ HW_ hHeld 10 22 (dm_ 35 2047) ?_
       refine one_ (i := 11) (N := some 23) (dm_ 35 4095) rfl rfl (one_of HT_.out (by kernel_rfl)) (by decide) (fun K hK => ?_)
       refine goes_ Try.func13 (by kernel_rfl) rfl #[.agg #[.int .i64 ((rd_T34 l0 x7_1).f1.f0), .int .i64 ((rd_T34 l0 x7_1).f1.f1)]] (by rfl) rfl rfl (by (try simp only [List.map_toArray, List.map_cons, List.map_nil]); first | done | rfl | (simp only [List.length_drop, List.length_take]; rfl)) ?_
       with_reducible refine (ropewayref04_Right.calls ((rd_T34 l0 x7_1).f1.f0) ((rd_T34 l0 x7_1).f1.f1) true _ A14.out).mono ?_
       rintro e w19 ⟨rfl, hb⟩
       refine ⟨_, rfl, ?_⟩
       replace BK184 := zM (bb_ BK184 hb)
       replace HB := zM (zB bel_ hb)
       (try clear hb)
       (try clear hb2)
       (try clear hk)
       (try clear hi)
       refine hK.out _ _ ⟨(zL BK184.out 0).trans rfl, (zL BK184.out 1).trans rfl, (zL BK184.out 2).trans rfl⟩ (fun hHeld => ?_)
       clear hK K
       refine norm_ (a' := ?_) ?_ ?_
       rotate_left
       · show Act.put _ (some 23) _ = _
         simp only [Act.put, zS, zZ, zC, i64_w, i32_w]
         rfl
       refine put_ HT_ 12 24 (dm_ 35 8191) ?_
       refine put_ HT_ 13 25 (dm_ 35 16383) ?_
       refine put_ HT_ 14 26 (dm_ 35 32767) ?_
       refine put_ HT_ 15 27 (dm_ 35 65535) ?_
       refine put_ HT_ 17 29 (dm_ 35 196607) ?_
       refine tkt_ HT_ HW_ hHeld 16 28 (dm_ 35 262143) ?_
       refine put_ HT_ 18 30 (dm_ 35 524287) ?_
       refine put_ HT_ 19 31 (dm_ 35 1048575) ?_
       refine put_ HT_ 20 32 (dm_ 35 2097151) ?_
       refine pzt_ HT_ 21 33 (dm_ 35 4194303) ?_
       refine pzt_ HT_ 22 34 (dm_ 35 8388607) ?_
       refine pzt_ HT_ 23 35 (dm_ 35 16777215) ?_
       refine pzt_ HT_ 24 36 (dm_ 35 33554431) ?_
       refine pzt_ HT_ 25 37 (dm_ 35 67108863) ?_
       refine pzt_ HT_ 26 38 (dm_ 35 134217727) ?_
       refine pzt_ HT_ 27 39 (dm_ 35 268435455) ?_
       refine pzt_ HT_ 28 40 (dm_ 35 536870911) ?_
       refine pzt_ HT_ 29 41 (dm_ 35 1073741823) ?_
       refine pzt_ HT_ 30 42 (dm_ 35 2147483647) ?_
       refine pzt_ HT_ 31 43 (dm_ 35 4294967295) ?_
       refine pzt_ HT_ 32 44 (dm_ 35 8589934591) ?_
       refine pzt_ HT_ 33 45 (dm_ 35 17179869183) ?_
       refine put_ HT_ 34 46 (dm_ 35 34359738367) ?_
       refine done_ (done_of HT_.out (by kernel_rfl)) ?_
       try go_wp2
       go_meet
       case rel => exact ⟨_, (true), (by first | rfl | (simp; done) | (simp [*]; done) | (simp; grind)), H', ⟨by have := HK1.out; first | omega | exact Nat.le_refl _⟩, ⟨blf_⟩, ⟨bel_⟩⟩
     rw [if_neg c16] at H
     have c16b0 : (((rd_T34 l0 x7_1).f1.f0) == 0 && (((rd_T34 l0 x7_1).f1.f1) == 0)) = false := by simpa using c16
     (try (have c16b1 : decide (((rd_T34 l0 x7_1).f1.f0) = 0 && (((rd_T34 l0 x7_1).f1.f1) == 0)) = false := by simpa using c16))
     (try (have c16b2 : (((rd_T34 l0 x7_1).f1.f0) == 0 && (((rd_T34 l0 x7_1).f1.f1) == 0)) = false := by simpa using c16))
     (try (have c16b3 : ¬ (((rd_T34 l0 x7_1).f1.f0) = 0 && (((rd_T34 l0 x7_1).f1.f1) == 0)) := by simpa using c16))
     clear c16
     by_cases c20 : x7_1 > 0
     rotate_left
     · rw [if_neg c20] at H
       have c20b0 : decide (0 < x7_1) = false := decide_eq_false c20
       clear c20
       have H' := zM H
       clear H
       try go_wp2
       replace BK184 : Aside0 ((((w6.setCell ⟨gb184, 0, none⟩ (.int .i64 ((rd_T34 l0 x7_1).f0))).setCell ⟨gb184, 1, none⟩ (.int .i64 ((rd_T34 l0 x7_1).f1.f0))).setCell ⟨gb184, 2, none⟩ (.int .i64 ((rd_T34 l0 x7_1).f1.f1))).heap[gb184]? = some (.cells #[.int .i64 ((rd_T34 l0 x7_1).f0), .int .i64 ((rd_T34 l0 x7_1).f1.f0), .int .i64 ((rd_T34 l0 x7_1).f1.f1)] 34 (0, 0))) := ⟨by (with_reducible repeat (first | refine zN ?_ _ | refine zD ?_ | refine zA ?_ _)); exact fx3_ BK184⟩
       replace HB : Aside0 (Below w.heap.size w (((w6.setCell ⟨gb184, 0, none⟩ (.int .i64 ((rd_T34 l0 x7_1).f0))).setCell ⟨gb184, 1, none⟩ (.int .i64 ((rd_T34 l0 x7_1).f1.f0))).setCell ⟨gb184, 2, none⟩ (.int .i64 ((rd_T34 l0 x7_1).f1.f1)))) := ⟨bel_⟩
       generalize (((w6.setCell ⟨gb184, 0, none⟩ (.int .i64 ((rd_T34 l0 x7_1).f0))).setCell ⟨gb184, 1, none⟩ (.int .i64 ((rd_T34 l0 x7_1).f1.f0))).setCell ⟨gb184, 2, none⟩ (.int .i64 ((rd_T34 l0 x7_1).f1.f1))) = w27 at BK184 HB ⊢
       replace BK184 := zM (zD BK184.out)
       replace HB := zM (below_drew1 HB.out)
       refine start_ (n := 35) (S := fun w' => w'.cell? ⟨gb184, 0, none⟩ = some (.int .i64 ((rd_T34 l0 x7_1).f0)) ∧ w'.cell? ⟨gb184, 1, none⟩ = some (.int .i64 ((rd_T34 l0 x7_1).f1.f0)) ∧ w'.cell? ⟨gb184, 2, none⟩ = some (.int .i64 ((rd_T34 l0 x7_1).f1.f1))) (ds := []) #[F_, F_, F_, F_, F_, F_, F_, F_, F_, F_, F_, F_, F_, F_, F_, F_, F_, F_, F_, F_, F_, F_, F_, F_, F_, F_, F_, F_, F_, F_, F_, F_, F_, F_, F_] (by kernel_rfl) rfl rfl ⟨(zL BK184.out 0).trans rfl, (zL BK184.out 1).trans rfl, (zL BK184.out 2).trans rfl⟩ (fun hHeld => ?_); refine with_tabW ropewayref10_Check.tab4 ropewayref10_Check.bits4 (fun HT_ HW_ => ?_)
       generalize w27.drew = w28 at BK184 HB hHeld ⊢
       refine put_ HT_ 0 12 (dm_ 35 1) ?_
       refine tkt_ HT_ HW_ hHeld 1 13 (dm_ 35 3) ?_
       refine put_ HT_ 2 14 (dm_ 35 7) ?_
       refine put_ HT_ 3 15 (dm_ 35 15) ?_
       refine put_ HT_ 4 16 (dm_ 35 31) ?_
       refine tkt_ HT_ HW_ hHeld 5 17 (dm_ 35 63) ?_
       refine put_ HT_ 6 18 (dm_ 35 127) ?_
       refine put_ HT_ 7 19 (dm_ 35 255) ?_
       refine put_ HT_ 8 20 (dm_ 35 511) ?_
       refine put_ HT_ 9 21 (dm_ 35 1023) ?_
       refine tkt_ HT_ HW_ hHeld 10 22 (dm_ 35 2047) ?_
       refine one_ (i := 11) (N := some 23) (dm_ 35 4095) rfl rfl (one_of HT_.out (by kernel_rfl)) (by decide) (fun K hK => ?_)
       refine goes_ Try.func13 (by kernel_rfl) rfl #[.agg #[.int .i64 ((rd_T34 l0 x7_1).f1.f0), .int .i64 ((rd_T34 l0 x7_1).f1.f1)]] (by rfl) rfl rfl (by (try simp only [List.map_toArray, List.map_cons, List.map_nil]); first | done | rfl | (simp only [List.length_drop, List.length_take]; rfl)) ?_
       with_reducible refine (ropewayref04_Right.calls ((rd_T34 l0 x7_1).f1.f0) ((rd_T34 l0 x7_1).f1.f1) true _ A14.out).mono ?_
       rintro e w29 ⟨rfl, hb⟩
       refine ⟨_, rfl, ?_⟩
       replace BK184 := zM (bb_ BK184 hb)
       replace HB := zM (zB bel_ hb)
       (try clear hb)
       (try clear hb2)
       (try clear hk)
       (try clear hi)
       refine hK.out _ _ ⟨(zL BK184.out 0).trans rfl, (zL BK184.out 1).trans rfl, (zL BK184.out 2).trans rfl⟩ (fun hHeld => ?_)
       clear hK K
       refine norm_ (a' := ?_) ?_ ?_
       rotate_left
       · show Act.put _ (some 23) _ = _
         simp only [Act.put, zS, zZ, zC, i64_w, i32_w]
         rfl
       refine put_ HT_ 12 24 (dm_ 35 8191) ?_
       refine put_ HT_ 13 25 (dm_ 35 16383) ?_
       refine put_ HT_ 14 26 (dm_ 35 32767) ?_
       refine put_ HT_ 15 27 (dm_ 35 65535) ?_
       refine put_ HT_ 17 29 (dm_ 35 196607) ?_
       refine tkt_ HT_ HW_ hHeld 16 28 (dm_ 35 262143) ?_
       refine put_ HT_ 18 30 (dm_ 35 524287) ?_
       refine put_ HT_ 19 31 (dm_ 35 1048575) ?_
       refine put_ HT_ 20 32 (dm_ 35 2097151) ?_
       refine put_ HT_ 21 33 (dm_ 35 4194303) ?_
       refine put_ HT_ 22 34 (dm_ 35 8388607) ?_
       refine put_ HT_ 23 35 (dm_ 35 16777215) ?_
       refine pzt_ HT_ 24 36 (dm_ 35 33554431) ?_
       refine pzt_ HT_ 25 37 (dm_ 35 67108863) ?_
       refine pzt_ HT_ 26 38 (dm_ 35 134217727) ?_
       refine pzt_ HT_ 27 39 (dm_ 35 268435455) ?_
       refine pzt_ HT_ 28 40 (dm_ 35 536870911) ?_
       refine pzt_ HT_ 29 41 (dm_ 35 1073741823) ?_
       refine pzt_ HT_ 30 42 (dm_ 35 2147483647) ?_
       refine pzt_ HT_ 31 43 (dm_ 35 4294967295) ?_
       refine pzt_ HT_ 32 44 (dm_ 35 8589934591) ?_
       refine put_ HT_ 33 45 (dm_ 35 17179869183) ?_
       refine put_ HT_ 34 46 (dm_ 35 34359738367) ?_
       refine done_ (done_of HT_.out (by kernel_rfl)) ?_
       try go_wp2
       go_meet
       case rel => exact ⟨_, (false), (by first | rfl | (simp; done) | (simp [*]; done) | (simp; grind)), H', ⟨by have := HK1.out; first | omega | exact Nat.le_refl _⟩, ⟨blf_⟩, ⟨bel_⟩⟩
     rw [if_pos c20] at H
     have c20b0 : decide (0 < x7_1) = true := decide_eq_true c20
     clear c20
     obtain ⟨ji21, hji21⟩ : ∃ j_ : Int, (wrap64 (x7_1 - 1)) = j_ := ⟨_, rfl⟩
     replace H : (if 0 ≤ (ji21) then (if (ji21) < (l0.length : Int) then (ropewayref10_Check.j1 k1 l0 l0 (l0.length : Int) x7_1 (decide (((rd_T34 l0 (ji21)).f0) ≥ ((rd_T34 l0 x7_1).f0)))) else (none)) else (none)) = some r := by first | (rw [hji21] at H; exact H) | (simp only [hji21] at H ⊢; exact H)
     (try rw [hji21] at A14)
     have hji21w : (IntKind.i64.wrap (x7_1 - 1)) = ji21 := (i64_w _).trans hji21
     by_cases c22 : 0 ≤ (ji21)
     rotate_left
     · rw [if_neg c22] at H
       exact absurd H (by simp)
     rw [if_pos c22] at H
     have c22b0 : decide (0 ≤ (ji21)) = true := decide_eq_true c22
     clear c22
     by_cases c23 : (ji21) < (l0.length : Int)
     rotate_left
     · rw [if_neg c23] at H
       exact absurd H (by simp)
     rw [if_pos c23] at H
     have c23b0 : decide ((ji21) < (l0.length : Int)) = true := decide_eq_true c23
     clear c23
     have H' := zM H
     clear H
     try go_wp2
     replace BK184 : Aside0 ((((w6.setCell ⟨gb184, 0, none⟩ (.int .i64 ((rd_T34 l0 x7_1).f0))).setCell ⟨gb184, 1, none⟩ (.int .i64 ((rd_T34 l0 x7_1).f1.f0))).setCell ⟨gb184, 2, none⟩ (.int .i64 ((rd_T34 l0 x7_1).f1.f1))).heap[gb184]? = some (.cells #[.int .i64 ((rd_T34 l0 x7_1).f0), .int .i64 ((rd_T34 l0 x7_1).f1.f0), .int .i64 ((rd_T34 l0 x7_1).f1.f1)] 34 (0, 0))) := ⟨by (with_reducible repeat (first | refine zN ?_ _ | refine zD ?_ | refine zA ?_ _)); exact fx3_ BK184⟩
     replace HB : Aside0 (Below w.heap.size w (((w6.setCell ⟨gb184, 0, none⟩ (.int .i64 ((rd_T34 l0 x7_1).f0))).setCell ⟨gb184, 1, none⟩ (.int .i64 ((rd_T34 l0 x7_1).f1.f0))).setCell ⟨gb184, 2, none⟩ (.int .i64 ((rd_T34 l0 x7_1).f1.f1)))) := ⟨bel_⟩
     generalize (((w6.setCell ⟨gb184, 0, none⟩ (.int .i64 ((rd_T34 l0 x7_1).f0))).setCell ⟨gb184, 1, none⟩ (.int .i64 ((rd_T34 l0 x7_1).f1.f0))).setCell ⟨gb184, 2, none⟩ (.int .i64 ((rd_T34 l0 x7_1).f1.f1))) = w24 at BK184 HB ⊢
     replace BK184 := zM (zD BK184.out)
     replace HB := zM (below_drew1 HB.out)
     have p186 : 0 ≤ ((ji21) : Int) := of_decide_eq_true (by first | (with_reducible assumption) | assumption)
     have q186 : (ji21) < (l0.length : Int) := of_decide_eq_true (by first | (with_reducible assumption) | assumption)
     obtain ⟨ad186, e186, hx186_0, hx186_1, hx186_2⟩ := at_T34 HR0.out (ji21) p186 q186
     have hw186_2 := hx186_2
     have hw186_1 := hx186_1
     have hw186_0 := hx186_0
     obtain rfl : ad183 = ad186 := (by injection e186)
     replace hx186_0 := (HB.out.cell (World.block_lt_of_cell? w _ hx186_0)).trans hx186_0
     replace hx186_1 := (HB.out.cell (World.block_lt_of_cell? w _ hx186_1)).trans hx186_1
     replace hx186_2 := (HB.out.cell (World.block_lt_of_cell? w _ hx186_2)).trans hx186_2
     replace p186 := eq_true p186
     replace q186 := eq_true q186
     refine start_ (n := 35) (S := fun w' => w'.cell? ⟨gb184, 0, none⟩ = some (.int .i64 ((rd_T34 l0 x7_1).f0)) ∧ w'.cell? ⟨gb184, 1, none⟩ = some (.int .i64 ((rd_T34 l0 x7_1).f1.f0)) ∧ w'.cell? ⟨gb184, 2, none⟩ = some (.int .i64 ((rd_T34 l0 x7_1).f1.f1)) ∧ w'.cell? (ad183.add (((ji21)).toNat * 3)) = some (.int .i64 ((rd_T34 l0 (ji21)).f0)) ∧ w'.cell? ⟨(ad183.add (((ji21)).toNat * 3)).block, (ad183.add (((ji21)).toNat * 3)).off + 1, none⟩ = some (.int .i64 ((rd_T34 l0 (ji21)).f1.f0)) ∧ w'.cell? ⟨(ad183.add (((ji21)).toNat * 3)).block, (ad183.add (((ji21)).toNat * 3)).off + 2, none⟩ = some (.int .i64 ((rd_T34 l0 (ji21)).f1.f1))) (ds := []) #[F_, F_, F_, F_, F_, F_, F_, F_, F_, F_, F_, F_, F_, F_, F_, F_, F_, F_, F_, F_, F_, F_, F_, F_, F_, F_, F_, F_, F_, F_, F_, F_, F_, F_, F_] (by kernel_rfl) rfl rfl ⟨(zL BK184.out 0).trans rfl, (zL BK184.out 1).trans rfl, (zL BK184.out 2).trans rfl, (hb_ HB hw186_0), (hb_ HB hw186_1), (hb_ HB hw186_2)⟩ (fun hHeld => ?_); refine with_tabW ropewayref10_Check.tab4 ropewayref10_Check.bits4 (fun HT_ HW_ => ?_)
     generalize w24.drew = w25 at BK184 HB hx186_0 hx186_1 hx186_2 hHeld ⊢
     refine put_ HT_ 0 12 (dm_ 35 1) ?_
     refine tkt_ HT_ HW_ hHeld 1 13 (dm_ 35 3) ?_
     refine put_ HT_ 2 14 (dm_ 35 7) ?_
     refine put_ HT_ 3 15 (dm_ 35 15) ?_
     refine put_ HT_ 4 16 (dm_ 35 31) ?_
     refine tkt_ HT_ HW_ hHeld 5 17 (dm_ 35 63) ?_
     refine put_ HT_ 6 18 (dm_ 35 127) ?_
     refine put_ HT_ 7 19 (dm_ 35 255) ?_
     refine put_ HT_ 8 20 (dm_ 35 511) ?_
     refine put_ HT_ 9 21 (dm_ 35 1023) ?_
     refine tkt_ HT_ HW_ hHeld 10 22 (dm_ 35 2047) ?_
     refine one_ (i := 11) (N := some 23) (dm_ 35 4095) rfl rfl (one_of HT_.out (by kernel_rfl)) (by decide) (fun K hK => ?_)
     refine goes_ Try.func13 (by kernel_rfl) rfl #[.agg #[.int .i64 ((rd_T34 l0 x7_1).f1.f0), .int .i64 ((rd_T34 l0 x7_1).f1.f1)]] (by rfl) rfl rfl (by (try simp only [List.map_toArray, List.map_cons, List.map_nil]); first | done | rfl | (simp only [List.length_drop, List.length_take]; rfl)) ?_
     with_reducible refine (ropewayref04_Right.calls ((rd_T34 l0 x7_1).f1.f0) ((rd_T34 l0 x7_1).f1.f1) true _ A14.out).mono ?_
     rintro e w26 ⟨rfl, hb⟩
     refine ⟨_, rfl, ?_⟩
     replace BK184 := zM (bb_ BK184 hb)
     replace HB := zM (zB bel_ hb)
     (try clear hb)
     (try clear hb2)
     (try clear hk)
     (try clear hi)
     refine hK.out _ _ ⟨(zL BK184.out 0).trans rfl, (zL BK184.out 1).trans rfl, (zL BK184.out 2).trans rfl, (hb_ HB hw186_0), (hb_ HB hw186_1), (hb_ HB hw186_2)⟩ (fun hHeld => ?_)
     clear hK K
     refine norm_ (a' := ?_) ?_ ?_
     rotate_left
     · show Act.put _ (some 23) _ = _
       simp only [Act.put, zS, zZ, zC, i64_w, i32_w]
       rfl
     refine put_ HT_ 12 24 (dm_ 35 8191) ?_
     refine put_ HT_ 13 25 (dm_ 35 16383) ?_
     refine put_ HT_ 14 26 (dm_ 35 32767) ?_
     refine put_ HT_ 15 27 (dm_ 35 65535) ?_
     refine put_ HT_ 17 29 (dm_ 35 196607) ?_
     refine tkt_ HT_ HW_ hHeld 16 28 (dm_ 35 262143) ?_
     refine put_ HT_ 18 30 (dm_ 35 524287) ?_
     refine put_ HT_ 19 31 (dm_ 35 1048575) ?_
     refine put_ HT_ 20 32 (dm_ 35 2097151) ?_
     refine put_ HT_ 21 33 (dm_ 35 4194303) ?_
     refine put_ HT_ 22 34 (dm_ 35 8388607) ?_
     refine put_ HT_ 23 35 (dm_ 35 16777215) ?_
     refine put_ HT_ 24 36 (dm_ 35 33554431) ?_
     refine put_ HT_ 25 37 (dm_ 35 67108863) ?_
     refine put_ HT_ 26 38 (dm_ 35 134217727) ?_
     refine put_ HT_ 27 39 (dm_ 35 268435455) ?_
     refine put_ HT_ 28 40 (dm_ 35 536870911) ?_
     refine put_ HT_ 30 42 (dm_ 35 1610612735) ?_
     refine tkt_ HT_ HW_ hHeld 29 41 (dm_ 35 2147483647) ?_
     refine tkt_ HT_ HW_ hHeld 31 43 (dm_ 35 4294967295) ?_
     refine put_ HT_ 32 44 (dm_ 35 8589934591) ?_
     refine put_ HT_ 33 45 (dm_ 35 17179869183) ?_
     refine put_ HT_ 34 46 (dm_ 35 34359738367) ?_
     refine done_ (done_of HT_.out (by kernel_rfl)) ?_
     try go_wp2
     go_meet
     case rel => exact ⟨_, (decide (((rd_T34 l0 (ji21)).f0) ≥ ((rd_T34 l0 x7_1).f0))), (by first | rfl | (simp; done) | (simp only [← hji21] <;> (first | rfl | simp)) | (simp [*]; done)), H', ⟨by have := HK1.out; first | omega | exact Nat.le_refl _⟩, ⟨blf_⟩, ⟨bel_⟩⟩
    case rest =>
     clear HC5
     try clear c1
     try clear c2
     try clear p2
     try clear c13
     try clear c15
     try clear c20
     try clear c20b0
     try clear c22
     try clear c23
     obtain ⟨kq, x46_4, rfl, HA, HJ4, BK184, HB⟩ := hcut
     cases kq with
     | zero => exact absurd HA.out (by simp [ropewayref10_Check.j1])
     | succ kj4 =>
      have H := HA.out
      clear HA
      simp only [ropewayref10_Check.j1] at H
      by_cases c33 : x46_4 = true
      · subst c33
        have H1 : (some 101) = some r := by rw [if_pos rfl] at H; exact H
        clear H
        have H := H1
        clear H1
        obtain rfl := Option.some.inj H
        go_wp2
        go_ret
        exact ⟨by first | rfl | (simp [errW_none, errW_some] <;> rfl) | (simp [*, errW_none, errW_some] <;> rfl), bel_⟩
      replace c33 := Bool.eq_false_iff.mpr c33
      subst c33
      have H1 : (ropewayref10_Check.l0 kj4 l0 l0 (l0.length : Int) (wrap64 (x7_1 + 1))) = some r := by rw [if_neg (show ¬ (false = true) by decide)] at H; exact H
      clear H
      have H := H1
      clear H1
      have H' := zM H
      clear H
      go_wp2
      go_roundg kj4
      case measure => have := HK1.out; have := HJ4.out; omega
      case rel => exact ⟨(wrap64 (x7_1 + 1)), (by first | rfl | (simp; done) | (simp [*]; done) | (simp; grind)), H', ⟨by have := HK1.out; have := HJ4.out; omega⟩, ⟨bel_⟩⟩
end Go.Proofs.Ytoelfknhnmhlmaa.PSnapRuns
