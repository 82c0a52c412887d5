/- Written by a program of this session (wip/tool/px.py) over the kit's print: what the code that the law RoundStays reaches computes, function by function, and the law's row. -/
import Derived.Test.YtmgiaappokkjfaaPRoundStaysx0
import Derived.Test.YtmgiaappokkjfaaPRoundStaysx1
import Derived.Test.YtmgiaappokkjfaaPRoundStaysx11
namespace Go.Proofs.Ytmgiaappokkjfaa.PRoundStays
open Go.RowKit Go.Proofs.YtmgiaappokkjfaaX Go.Proofs.YtmgiaappokkjfaaW.PrintWords Go.Proofs.YtmgiaappokkjfaaW.PrintLast Go.Proofs.YtmgiaappokkjfaaW.PrintMore
open List renaming setIfInBounds_toArray → zS, set_cons_zero → zZ, set_cons_succ → zC
open Go.Proofs.YtmgiaappokkjfaaW.PrintWords renaming blk_drewN → zN, blk_drew → zD, blk_alloc → zA, blk_cell → zL, blk_frozen → zF, below_step → zB
open Go.Proofs.YtmgiaappokkjfaaW.PrintWords.Aside0 renaming mk → zM
attribute [local go_sem] max2_int min2_int max_two min_two max_three min_three max_four min_four   -- for this text's walks alone
set_option linter.unusedVariables false
set_option linter.unusedSimpArgs false

attribute [local go_sem] px_store_float px_neg_float
attribute [local go_sem] px_eqarr67 px_nilq24 px_nilq25
attribute [local go_sem high] eqA23
/-! ### ropewayref10_Check: function 56 -/
def ropewayref10_Check.l0 : Nat → List (S43) → List (S43) → Int → Int → Option (Int)
  | 0, _, _, _, _ => none
  | k + 1, x0, x5, x6, x7 => if x7 < x6 then (if 0 ≤ x7 then (if x7 < (x5.length : Int) then (if ((rd_T43 x5 x7).f0) < 0 then (some 101) else (if ((rd_T43 x5 x7).f0) > 5 then (some 101) else ((ropewayref04_Right.f ((rd_T43 x5 x7).f1.f0) ((rd_T43 x5 x7).f1.f1)).bind fun t388 => (if t388 = true then (if (((rd_T43 x5 x7).f1.f0) == 0 && (((rd_T43 x5 x7).f1.f1) == 0)) = true then (some 101) else (if x7 > 0 then (if 0 ≤ (wrap64 (x7 - 1)) then (if (wrap64 (x7 - 1)) < (x0.length : Int) then (if ((rd_T43 x0 (wrap64 (x7 - 1))).f0) ≥ ((rd_T43 x5 x7).f0) then (some 101) else (ropewayref10_Check.l0 k x0 x5 x6 (wrap64 (x7 + 1)))) else (none)) else (none)) else (ropewayref10_Check.l0 k x0 x5 x6 (wrap64 (x7 + 1))))) else (some 101))))) else (none)) else (none)) else (some 0)
def ropewayref10_Check.f (k : Nat) (l0 : List (S43)) : Option (Int) := ropewayref10_Check.l0 k l0 l0 (l0.length : Int) 0
theorem ropewayref10_Check.mono_l : ∀ k, (∀ y0 y1 y2 y3, LeO (ropewayref10_Check.l0 k y0 y1 y2 y3) (ropewayref10_Check.l0 (k + 1) y0 y1 y2 y3))
  | 0 => fun _ _ _ _ r h => by simp [ropewayref10_Check.l0] at h
  | k + 1 => by
    have ih0 := ropewayref10_Check.mono_l k
    · intro y0 y1 y2 y3
      unfold ropewayref10_Check.l0
      repeat' first
      | (with_reducible exact ih0 _ _ _ _)
      | (with_reducible exact LeO.refl _)
      | (with_reducible exact LeO.none _)
      | (with_reducible refine LeO.ite ?_ ?_)
      | (with_reducible refine LeO.bind ?_ (fun _ => ?_))
      | exact ih0 _ _ _ _
      | exact LeO.none _
      | refine LeO.ite ?_ ?_
      | refine LeO.bind ?_ (fun _ => ?_)
theorem ropewayref10_Check.mono : ∀ a0 k, LeO (ropewayref10_Check.f k a0) (ropewayref10_Check.f (k + 1) a0) := by
  intro a0 k
  have ih0 := ropewayref10_Check.mono_l k
  unfold ropewayref10_Check.f
  repeat' first
      | (with_reducible exact ih0 _ _ _ _)
      | (with_reducible exact LeO.refl _)
      | (with_reducible exact LeO.none _)
      | (with_reducible refine LeO.ite ?_ ?_)
      | (with_reducible refine LeO.bind ?_ (fun _ => ?_))
      | exact ih0 _ _ _ _
      | exact LeO.none _
      | refine LeO.ite ?_ ?_
      | refine LeO.bind ?_ (fun _ => ?_)
def ropewayref10_Check.T4 : Bool × List (List Nat × List Nat) := (true, [([], []), ([0], [0]), ([1], [1]), ([2], [2]), ([3], [3]), ([4, 3], [3, 4]), ([5, 3], [3, 5]), ([3, 6], [3, 6]), ([7, 3], [7]), ([8], [8]), ([9, 8], [8, 9]), ([10, 8, 8], [8, 10]), ([11, 8], [8, 11]), ([8, 12], [8, 12]), ([13, 11], [13]), ([14], [14]), ([15, 14], [14, 15]), ([14], [14]), ([16, 17, 14], [14, 16, 17]), ([14, 18], [14, 18]), ([19, 14], [19]), ([20], [20]), ([21, 20], [20, 21]), ([22, 20, 20], [20, 22]), ([23], [23]), ([23], [23]), ([25, 23], [23, 25]), ([24, 26, 23], [23, 24, 26]), ([27, 23], [23, 27]), ([28, 23], [23, 28]), ([23], [23]), ([30, 23], [23, 30]), ([29, 31, 23], [23, 29, 31]), ([23, 32, 20], [20, 23, 32]), ([20, 33], [20, 33])])
def ropewayref10_Check.B4 : List Nat := [0, 1, 3, 7, 15, 31, 63, 127, 255, 511, 1023, 2047, 4095, 8191, 16383, 32767, 65535, 32767, 262143, 524287, 1048575, 2097151, 4194303, 8388607, 16777215, 16777215, 50331647, 134217727, 268435455, 536870911, 16777215, 1090519039, 4294967295, 8589934591, 17179869183]
theorem ropewayref10_Check.tab4 : rtab .any (opsOf Try.f56 4) = ropewayref10_Check.T4 := by kernel_rfl
theorem ropewayref10_Check.bits4 : waitsOk ropewayref10_Check.T4.2 ropewayref10_Check.B4 = true := by kernel_rfl
set_option maxHeartbeats 8000000 in
set_option maxRecDepth 100000 in
theorem ropewayref10_Check.calls (k : Nat) (A0 : Option Addr) (c0 : Nat) (l0 : List (S43)) (r : Int) (w : World) (hr0 : Kd.C k43 w A0 l0.length l0) (hc0 : l0.length ≤ c0) (h : ropewayref10_Check.f k l0 = some r) :
    Calls Try.prog 56 #[.slice A0 l0.length c0] w fun e w' => e = .returned (.int .i64 r) ∧ Below w.heap.size w w' := by
  have hu43 := Try.underlying43
  have hu23 := Try.underlying23
  have HR0 := zM hr0
  have HC0 := zM hc0
  clear hr0 hc0
  have HB := zM (Below.refl w.heap.size w)
  have H : (ropewayref10_Check.l0 k l0 l0 (l0.length : Int) 0) = some r := h
  clear h
  have H' := zM H
  clear H
  go_enter Try.func56, Try.ntmps56
  go_wp2
  go_loopg [7] k (fun kq v7 w' => ∃ (x7_1 : Int), v7 = .int .i64 x7_1 ∧ Aside0 (ropewayref10_Check.l0 kq l0 l0 (l0.length : Int) x7_1 = some r) ∧ Aside0 (kq ≤ k) ∧ Aside0 (Below w.heap.size w w'))
  case atStart => exact ⟨(0), (by first | rfl | (simp; done) | (simp [*]; done) | (simp; grind)), H', ⟨Nat.le_refl _⟩, ⟨bel_⟩⟩
  case round =>
   clear H'
   obtain ⟨x7_1, rfl, HA, HK1, HB⟩ := hrel
   cases gk with
   | zero => exact absurd HA.out (by simp [ropewayref10_Check.l0])
   | succ k1 =>
    have H := HA.out
    clear HA
    simp only [ropewayref10_Check.l0] at H
    by_cases c2 : x7_1 < (l0.length : Int)
    rotate_left
    · rw [if_neg c2] at H
      have c2b0 : decide (x7_1 < (l0.length : Int)) = false := decide_eq_false c2
      clear c2
      obtain rfl := Option.some.inj H
      go_wp2
      go_ret
      exact ⟨by first | rfl | (simp [errW_none, errW_some] <;> rfl) | (simp [*, errW_none, errW_some] <;> rfl), bel_⟩
    rw [if_pos c2] at H
    have c2b0 : decide (x7_1 < (l0.length : Int)) = true := decide_eq_true c2
    clear c2
    by_cases c3 : 0 ≤ x7_1
    rotate_left
    · rw [if_neg c3] at H
      exact absurd H (by simp)
    rw [if_pos c3] at H
    have c3b0 : decide (0 ≤ x7_1) = true := decide_eq_true c3
    clear c3
    by_cases c4 : x7_1 < (l0.length : Int)
    rotate_left
    · rw [if_neg c4] at H
      exact absurd H (by simp)
    rw [if_pos c4] at H
    have c4b0 : decide (x7_1 < (l0.length : Int)) = true := decide_eq_true c4
    clear c4
    have p386 : 0 ≤ (x7_1 : Int) := of_decide_eq_true (by first | (with_reducible assumption) | assumption)
    have q386 : x7_1 < (l0.length : Int) := of_decide_eq_true (by first | (with_reducible assumption) | assumption)
    obtain ⟨ad386, e386, hx386_0, hx386_1, hx386_2⟩ := at_T43 HR0.out x7_1 p386 q386
    cases e386
    replace hx386_0 := (HB.out.cell (World.block_lt_of_cell? w _ hx386_0)).trans hx386_0
    replace hx386_1 := (HB.out.cell (World.block_lt_of_cell? w _ hx386_1)).trans hx386_1
    replace hx386_2 := (HB.out.cell (World.block_lt_of_cell? w _ hx386_2)).trans hx386_2
    replace p386 := eq_true p386
    replace q386 := eq_true q386
    go_upto_region 4 with (first | ((with_reducible refine gate_dst (N := 4) rfl ?_); refine box_event ?hg (N := 4) ?hd (cs := #[.int .i64 0, .int .i64 0, .int .i64 0]) (t := 43) ?hr ?_; (case hd => rfl); (case hg => rfl); (case hr => first | (go_simp; done) | (go_simp; rfl)); intro gb387 hg w5 hbox hb; have BK387 := zM (hbox); have GW387 := zM (bs_ hg); have GE387 := zM (bs_ hg); replace HB := zM (zB bel_ hb); clear hb hbox hg; have hcz6_0 : w5.cell? ⟨gb387, 0, none⟩ = some (.int .i64 0) := (zL BK387.out 0).trans rfl; have hcz6_1 : w5.cell? ⟨gb387, 1, none⟩ = some (.int .i64 0) := (zL BK387.out 1).trans rfl; have hcz6_2 : w5.cell? ⟨gb387, 2, none⟩ = some (.int .i64 0) := (zL BK387.out 2).trans rfl; have hfz6_0 := zF BK387.out 0; have hfz6_1 := zF BK387.out 1; have hfz6_2 := zF BK387.out 2) | ((with_reducible refine gate_store (t := 43) (p := 4) rfl ?_); refine store_event (t := 43) (p := 4) (v := ?vo_w7) (w1 := (((w5.setCell ⟨gb387, 0, none⟩ (.int .i64 ((rd_T43 l0 x7_1).f0))).setCell ⟨gb387, 1, none⟩ (.int .i64 ((rd_T43 l0 x7_1).f1.f0))).setCell ⟨gb387, 2, none⟩ (.int .i64 ((rd_T43 l0 x7_1).f1.f1)))) ?hg ?ho ?hn ?hr ?_; (case ho => rfl); (case hg => rfl); (case hn => rfl); (case hr => first | (go_simp; done) | (go_simp; rfl)); intro w7 hw; replace BK387 : Aside0 (w7.heap[gb387]? = some (.cells #[.int .i64 ((rd_T43 l0 x7_1).f0), .int .i64 ((rd_T43 l0 x7_1).f1.f0), .int .i64 ((rd_T43 l0 x7_1).f1.f1)] 43 (0, 0))) := ⟨(by rw [hw]; exact (by (with_reducible repeat (first | refine zN ?_ _ | refine zD ?_ | refine zA ?_ _)); exact fx3_ BK387))⟩; replace HB : Aside0 (Below w.heap.size w w7) := ⟨(by rw [hw]; exact bel_)⟩; clear hw))
    try clear hcz6_0
    try clear hcz6_1
    try clear hcz6_2
    try clear hfz6_0
    try clear hfz6_1
    try clear hfz6_2
    by_cases c8 : ((rd_T43 l0 x7_1).f0) < 0
    · rw [if_pos c8] at H
      have c8b0 : decide (((rd_T43 l0 x7_1).f0) < 0) = true := decide_eq_true c8
      clear c8
      try go_wp2
      have hQ0_ : w7.cell? ⟨gb387, 0, none⟩ = some (.int .i64 ((rd_T43 l0 x7_1).f0)) := (zL BK387.out 0).trans rfl
      have hQ1_ : w7.cell? ⟨gb387, 1, none⟩ = some (.int .i64 ((rd_T43 l0 x7_1).f1.f0)) := (zL BK387.out 1).trans rfl
      have hQ2_ : w7.cell? ⟨gb387, 2, none⟩ = some (.int .i64 ((rd_T43 l0 x7_1).f1.f1)) := (zL BK387.out 2).trans rfl
      go_quiet (fail)
      clear hQ0_ hQ1_ hQ2_
      replace BK387 := zM (zN BK387.out nq)
      replace HB := zM (pw_below_drewN HB.out nq)
      generalize w7.drewN nq = w9 at BK387 HB ⊢
      go_upto_region 5 with (fail)
      obtain rfl := Option.some.inj H
      go_wp2
      go_ret
      exact ⟨by first | rfl | (simp [errW_none, errW_some] <;> rfl) | (simp [*, errW_none, errW_some] <;> rfl), bel_⟩
    rw [if_neg c8] at H
    have c8b0 : decide (((rd_T43 l0 x7_1).f0) < 0) = false := decide_eq_false c8
    clear c8
    by_cases c10 : ((rd_T43 l0 x7_1).f0) > 5
    · rw [if_pos c10] at H
      have c10b0 : decide (5 < ((rd_T43 l0 x7_1).f0)) = true := decide_eq_true c10
      clear c10
      try go_wp2
      have hQ0_ : w7.cell? ⟨gb387, 0, none⟩ = some (.int .i64 ((rd_T43 l0 x7_1).f0)) := (zL BK387.out 0).trans rfl
      have hQ1_ : w7.cell? ⟨gb387, 1, none⟩ = some (.int .i64 ((rd_T43 l0 x7_1).f1.f0)) := (zL BK387.out 1).trans rfl
      have hQ2_ : w7.cell? ⟨gb387, 2, none⟩ = some (.int .i64 ((rd_T43 l0 x7_1).f1.f1)) := (zL BK387.out 2).trans rfl
      go_quiet (fail)
      clear hQ0_ hQ1_ hQ2_
      replace BK387 := zM (zN BK387.out nq)
      replace HB := zM (pw_below_drewN HB.out nq)
      generalize w7.drewN nq = w11 at BK387 HB ⊢
      go_upto_region 5 with (fail)
      obtain rfl := Option.some.inj H
      go_wp2
      go_ret
      exact ⟨by first | rfl | (simp [errW_none, errW_some] <;> rfl) | (simp [*, errW_none, errW_some] <;> rfl), bel_⟩
    rw [if_neg c10] at H
    have c10b0 : decide (5 < ((rd_T43 l0 x7_1).f0)) = false := decide_eq_false c10
    clear c10
    replace H := Option.bind_eq_some_iff.mp H
    obtain ⟨t388, A120, H⟩ := H
    replace H : (if t388 = true then (if (((rd_T43 l0 x7_1).f1.f0) == 0 && (((rd_T43 l0 x7_1).f1.f1) == 0)) = true then (some 101) else (if x7_1 > 0 then (if 0 ≤ (wrap64 (x7_1 - 1)) then (if (wrap64 (x7_1 - 1)) < (l0.length : Int) then (if ((rd_T43 l0 (wrap64 (x7_1 - 1))).f0) ≥ ((rd_T43 l0 x7_1).f0) then (some 101) else (ropewayref10_Check.l0 k1 l0 l0 (l0.length : Int) (wrap64 (x7_1 + 1)))) else (none)) else (none)) else (ropewayref10_Check.l0 k1 l0 l0 (l0.length : Int) (wrap64 (x7_1 + 1))))) else (some 101)) = some r := H
    have A12 := zM A120
    clear A120
    by_cases c13 : t388 = true
    rotate_left
    · replace c13 := Bool.eq_false_iff.mpr c13
      subst c13
      have H1 : (some 101) = some r := by rw [if_neg (show ¬ (false = true) by decide)] at H; exact H
      clear H
      have H := H1
      clear H1
      try go_wp2
      replace BK387 := zM (zD BK387.out)
      replace HB := zM (below_drew1 HB.out)
      refine start_ (n := 35) (S := fun w' => w'.cell? ⟨gb387, 0, none⟩ = some (.int .i64 ((rd_T43 l0 x7_1).f0)) ∧ w'.cell? ⟨gb387, 1, none⟩ = some (.int .i64 ((rd_T43 l0 x7_1).f1.f0)) ∧ w'.cell? ⟨gb387, 2, none⟩ = some (.int .i64 ((rd_T43 l0 x7_1).f1.f1))) (ds := []) #[F_, F_, F_, F_, F_, F_, F_, F_, F_, F_, F_, F_, F_, F_, F_, F_, F_, F_, F_, F_, F_, F_, F_, F_, F_, F_, F_, F_, F_, F_, F_, F_, F_, F_, F_] (by kernel_rfl) rfl rfl ⟨(zL BK387.out 0).trans rfl, (zL BK387.out 1).trans rfl, (zL BK387.out 2).trans rfl⟩ (fun hHeld => ?_); refine with_tabW ropewayref10_Check.tab4 ropewayref10_Check.bits4 (fun HT_ HW_ => ?_)
      generalize w7.drew = w28 at BK387 HB hHeld ⊢
      refine put_ HT_ 0 12 (dm_ 35 1) ?_
      refine tkt_ HT_ HW_ hHeld 1 13 (dm_ 35 3) ?_
      refine put_ HT_ 2 14 (dm_ 35 7) ?_
      refine put_ HT_ 3 15 (dm_ 35 15) ?_
      refine put_ HT_ 4 16 (dm_ 35 31) ?_
      refine tkt_ HT_ HW_ hHeld 5 17 (dm_ 35 63) ?_
      refine put_ HT_ 6 18 (dm_ 35 127) ?_
      refine put_ HT_ 7 19 (dm_ 35 255) ?_
      refine put_ HT_ 8 20 (dm_ 35 511) ?_
      refine put_ HT_ 9 21 (dm_ 35 1023) ?_
      refine tkt_ HT_ HW_ hHeld 10 22 (dm_ 35 2047) ?_
      refine one_ (i := 11) (N := some 23) (dm_ 35 4095) rfl rfl (one_of HT_.out (by kernel_rfl)) (by decide) (fun K hK => ?_)
      refine goes_ Try.func55 (by kernel_rfl) rfl #[.agg #[.int .i64 ((rd_T43 l0 x7_1).f1.f0), .int .i64 ((rd_T43 l0 x7_1).f1.f1)]] (by rfl) rfl rfl (by (try simp only [List.map_toArray, List.map_cons, List.map_nil]); first | done | rfl | (simp only [List.length_drop, List.length_take]; rfl)) ?_
      with_reducible refine (ropewayref04_Right.calls ((rd_T43 l0 x7_1).f1.f0) ((rd_T43 l0 x7_1).f1.f1) false _ A12.out).mono ?_
      rintro e w29 ⟨rfl, hb⟩
      refine ⟨_, rfl, ?_⟩
      replace BK387 := zM (bb_ BK387 hb)
      replace HB := zM (zB bel_ hb)
      (try clear hb)
      (try clear hb2)
      (try clear hk)
      (try clear hi)
      refine hK.out _ _ ⟨(zL BK387.out 0).trans rfl, (zL BK387.out 1).trans rfl, (zL BK387.out 2).trans rfl⟩ (fun hHeld => ?_)
      clear hK K
      refine norm_ (a' := ?_) ?_ ?_
      rotate_left
      · show Act.put _ (some 23) _ = _
        simp only [Act.put, zS, zZ, zC, i64_w, i32_w]
        rfl
      refine put_ HT_ 12 24 (dm_ 35 8191) ?_
      refine put_ HT_ 13 25 (dm_ 35 16383) ?_
      refine put_ HT_ 14 26 (dm_ 35 32767) ?_
      refine pzt_ HT_ 15 27 (dm_ 35 65535) ?_
      refine pzt_ HT_ 16 28 (dm_ 35 131071) ?_
      refine pzt_ HT_ 17 29 (dm_ 35 262143) ?_
      refine pzt_ HT_ 18 30 (dm_ 35 524287) ?_
      refine put_ HT_ 19 31 (dm_ 35 1048575) ?_
      refine put_ HT_ 20 32 (dm_ 35 2097151) ?_
      refine pzt_ HT_ 21 33 (dm_ 35 4194303) ?_
      refine pzt_ HT_ 22 34 (dm_ 35 8388607) ?_
      refine pzt_ HT_ 23 35 (dm_ 35 16777215) ?_
      refine pzt_ HT_ 24 36 (dm_ 35 33554431) ?_
      refine pzt_ HT_ 25 37 (dm_ 35 67108863) ?_
      refine pzt_ HT_ 26 38 (dm_ 35 134217727) ?_
      refine pzt_ HT_ 27 39 (dm_ 35 268435455) ?_
      refine pzt_ HT_ 28 40 (dm_ 35 536870911) ?_
      refine pzt_ HT_ 29 41 (dm_ 35 1073741823) ?_
      refine pzt_ HT_ 30 42 (dm_ 35 2147483647) ?_
      refine pzt_ HT_ 31 43 (dm_ 35 4294967295) ?_
      refine pzt_ HT_ 32 44 (dm_ 35 8589934591) ?_
      refine pzt_ HT_ 33 45 (dm_ 35 17179869183) ?_
      refine put_ HT_ 34 46 (dm_ 35 34359738367) ?_
      refine done_ (done_of HT_.out (by kernel_rfl)) ?_
      go_upto_region 5 with (fail)
      obtain rfl := Option.some.inj H
      go_wp2
      go_ret
      exact ⟨by first | rfl | (simp [errW_none, errW_some] <;> rfl) | (simp [*, errW_none, errW_some] <;> rfl), bel_⟩
    subst c13
    have H1 : (if (((rd_T43 l0 x7_1).f1.f0) == 0 && (((rd_T43 l0 x7_1).f1.f1) == 0)) = true then (some 101) else (if x7_1 > 0 then (if 0 ≤ (wrap64 (x7_1 - 1)) then (if (wrap64 (x7_1 - 1)) < (l0.length : Int) then (if ((rd_T43 l0 (wrap64 (x7_1 - 1))).f0) ≥ ((rd_T43 l0 x7_1).f0) then (some 101) else (ropewayref10_Check.l0 k1 l0 l0 (l0.length : Int) (wrap64 (x7_1 + 1)))) else (none)) else (none)) else (ropewayref10_Check.l0 k1 l0 l0 (l0.length : Int) (wrap64 (x7_1 + 1))))) = some r := by rw [if_pos rfl] at H; exact H
    clear H
    have H := H1
    clear H1
    by_cases c14 : (((rd_T43 l0 x7_1).f1.f0) == 0 && (((rd_T43 l0 x7_1).f1.f1) == 0)) = true
    · rw [if_pos c14] at H
      have c14b0 : (((rd_T43 l0 x7_1).f1.f0) == 0 && (((rd_T43 l0 x7_1).f1.f1) == 0)) = true := c14
      (try (have c14b1 : decide (((rd_T43 l0 x7_1).f1.f0) = 0 && (((rd_T43 l0 x7_1).f1.f1) == 0)) = true := by simpa using c14))
      (try (have c14b2 : (((rd_T43 l0 x7_1).f1.f0) == 0 && (((rd_T43 l0 x7_1).f1.f1) == 0)) = true := by simpa using c14))
      clear c14
      try go_wp2
      replace BK387 := zM (zD BK387.out)
      replace HB := zM (below_drew1 HB.out)
      refine start_ (n := 35) (S := fun w' => w'.cell? ⟨gb387, 0, none⟩ = some (.int .i64 ((rd_T43 l0 x7_1).f0)) ∧ w'.cell? ⟨gb387, 1, none⟩ = some (.int .i64 ((rd_T43 l0 x7_1).f1.f0)) ∧ w'.cell? ⟨gb387, 2, none⟩ = some (.int .i64 ((rd_T43 l0 x7_1).f1.f1))) (ds := []) #[F_, F_, F_, F_, F_, F_, F_, F_, F_, F_, F_, F_, F_, F_, F_, F_, F_, F_, F_, F_, F_, F_, F_, F_, F_, F_, F_, F_, F_, F_, F_, F_, F_, F_, F_] (by kernel_rfl) rfl rfl ⟨(zL BK387.out 0).trans rfl, (zL BK387.out 1).trans rfl, (zL BK387.out 2).trans rfl⟩ (fun hHeld => ?_); refine with_tabW ropewayref10_Check.tab4 ropewayref10_Check.bits4 (fun HT_ HW_ => ?_)
      generalize w7.drew = w15 at BK387 HB hHeld ⊢
      refine put_ HT_ 0 12 (dm_ 35 1) ?_
      refine tkt_ HT_ HW_ hHeld 1 13 (dm_ 35 3) ?_
      refine put_ HT_ 2 14 (dm_ 35 7) ?_
      refine put_ HT_ 3 15 (dm_ 35 15) ?_
      refine put_ HT_ 4 16 (dm_ 35 31) ?_
      refine tkt_ HT_ HW_ hHeld 5 17 (dm_ 35 63) ?_
      refine put_ HT_ 6 18 (dm_ 35 127) ?_
      refine put_ HT_ 7 19 (dm_ 35 255) ?_
      refine put_ HT_ 8 20 (dm_ 35 511) ?_
      refine put_ HT_ 9 21 (dm_ 35 1023) ?_
      refine tkt_ HT_ HW_ hHeld 10 22 (dm_ 35 2047) ?_
      refine one_ (i := 11) (N := some 23) (dm_ 35 4095) rfl rfl (one_of HT_.out (by kernel_rfl)) (by decide) (fun K hK => ?_)
      refine goes_ Try.func55 (by kernel_rfl) rfl #[.agg #[.int .i64 ((rd_T43 l0 x7_1).f1.f0), .int .i64 ((rd_T43 l0 x7_1).f1.f1)]] (by rfl) rfl rfl (by (try simp only [List.map_toArray, List.map_cons, List.map_nil]); first | done | rfl | (simp only [List.length_drop, List.length_take]; rfl)) ?_
      with_reducible refine (ropewayref04_Right.calls ((rd_T43 l0 x7_1).f1.f0) ((rd_T43 l0 x7_1).f1.f1) true _ A12.out).mono ?_
      rintro e w16 ⟨rfl, hb⟩
      refine ⟨_, rfl, ?_⟩
      replace BK387 := zM (bb_ BK387 hb)
      replace HB := zM (zB bel_ hb)
      (try clear hb)
      (try clear hb2)
      (try clear hk)
      (try clear hi)
      refine hK.out _ _ ⟨(zL BK387.out 0).trans rfl, (zL BK387.out 1).trans rfl, (zL BK387.out 2).trans rfl⟩ (fun hHeld => ?_)
      clear hK K
      refine norm_ (a' := ?_) ?_ ?_
      rotate_left
      · show Act.put _ (some 23) _ = _
        simp only [Act.put, zS, zZ, zC, i64_w, i32_w]
        rfl
      refine put_ HT_ 12 24 (dm_ 35 8191) ?_
      refine put_ HT_ 13 25 (dm_ 35 16383) ?_
      refine put_ HT_ 14 26 (dm_ 35 32767) ?_
      refine put_ HT_ 15 27 (dm_ 35 65535) ?_
      refine put_ HT_ 17 29 (dm_ 35 196607) ?_
      refine tkt_ HT_ HW_ hHeld 16 28 (dm_ 35 262143) ?_
      refine put_ HT_ 18 30 (dm_ 35 524287) ?_
      refine put_ HT_ 19 31 (dm_ 35 1048575) ?_
      refine put_ HT_ 20 32 (dm_ 35 2097151) ?_
      refine pzt_ HT_ 21 33 (dm_ 35 4194303) ?_
      refine pzt_ HT_ 22 34 (dm_ 35 8388607) ?_
      refine pzt_ HT_ 23 35 (dm_ 35 16777215) ?_
      refine pzt_ HT_ 24 36 (dm_ 35 33554431) ?_
      refine pzt_ HT_ 25 37 (dm_ 35 67108863) ?_
      refine pzt_ HT_ 26 38 (dm_ 35 134217727) ?_
      refine pzt_ HT_ 27 39 (dm_ 35 268435455) ?_
      refine pzt_ HT_ 28 40 (dm_ 35 536870911) ?_
      refine pzt_ HT_ 29 41 (dm_ 35 1073741823) ?_
      refine pzt_ HT_ 30 42 (dm_ 35 2147483647) ?_
      refine pzt_ HT_ 31 43 (dm_ 35 4294967295) ?_
      refine pzt_ HT_ 32 44 (dm_ 35 8589934591) ?_
      refine pzt_ HT_ 33 45 (dm_ 35 17179869183) ?_
      refine put_ HT_ 34 46 (dm_ 35 34359738367) ?_
      refine done_ (done_of HT_.out (by kernel_rfl)) ?_
      go_upto_region 5 with (fail)
      obtain rfl := Option.some.inj H
      go_wp2
      go_ret
      exact ⟨by first | rfl | (simp [errW_none, errW_some] <;> rfl) | (simp [*, errW_none, errW_some] <;> rfl), bel_⟩
    rw [if_neg c14] at H
    have c14b0 : (((rd_T43 l0 x7_1).f1.f0) == 0 && (((rd_T43 l0 x7_1).f1.f1) == 0)) = false := by simpa using c14
    (try (have c14b1 : decide (((rd_T43 l0 x7_1).f1.f0) = 0 && (((rd_T43 l0 x7_1).f1.f1) == 0)) = false := by simpa using c14))
    (try (have c14b2 : (((rd_T43 l0 x7_1).f1.f0) == 0 && (((rd_T43 l0 x7_1).f1.f1) == 0)) = false := by simpa using c14))
    (try (have c14b3 : ¬ (((rd_T43 l0 x7_1).f1.f0) = 0 && (((rd_T43 l0 x7_1).f1.f1) == 0)) := by simpa using c14))
    clear c14
    by_cases c17 : x7_1 > 0
    rotate_left
    · rw [if_neg c17] at H
      have c17b0 : decide (0 < x7_1) = false := decide_eq_false c17
      clear c17
      try go_wp2
      replace BK387 := zM (zD BK387.out)
      replace HB := zM (below_drew1 HB.out)
      refine start_ (n := 35) (S := fun w' => w'.cell? ⟨gb387, 0, none⟩ = some (.int .i64 ((rd_T43 l0 x7_1).f0)) ∧ w'.cell? ⟨gb387, 1, none⟩ = some (.int .i64 ((rd_T43 l0 x7_1).f1.f0)) ∧ w'.cell? ⟨gb387, 2, none⟩ = some (.int .i64 ((rd_T43 l0 x7_1).f1.f1))) (ds := []) #[F_, F_, F_, F_, F_, F_, F_, F_, F_, F_, F_, F_, F_, F_, F_, F_, F_, F_, F_, F_, F_, F_, F_, F_, F_, F_, F_, F_, F_, F_, F_, F_, F_, F_, F_] (by kernel_rfl) rfl rfl ⟨(zL BK387.out 0).trans rfl, (zL BK387.out 1).trans rfl, (zL BK387.out 2).trans rfl⟩ (fun hHeld => ?_); refine with_tabW ropewayref10_Check.tab4 ropewayref10_Check.bits4 (fun HT_ HW_ => ?_)
      generalize w7.drew = w26 at BK387 HB hHeld ⊢
      refine put_ HT_ 0 12 (dm_ 35 1) ?_
      refine tkt_ HT_ HW_ hHeld 1 13 (dm_ 35 3) ?_
      refine put_ HT_ 2 14 (dm_ 35 7) ?_
      refine put_ HT_ 3 15 (dm_ 35 15) ?_
      refine put_ HT_ 4 16 (dm_ 35 31) ?_
      refine tkt_ HT_ HW_ hHeld 5 17 (dm_ 35 63) ?_
      refine put_ HT_ 6 18 (dm_ 35 127) ?_
      refine put_ HT_ 7 19 (dm_ 35 255) ?_
      refine put_ HT_ 8 20 (dm_ 35 511) ?_
      refine put_ HT_ 9 21 (dm_ 35 1023) ?_
      refine tkt_ HT_ HW_ hHeld 10 22 (dm_ 35 2047) ?_
      refine one_ (i := 11) (N := some 23) (dm_ 35 4095) rfl rfl (one_of HT_.out (by kernel_rfl)) (by decide) (fun K hK => ?_)
      refine goes_ Try.func55 (by kernel_rfl) rfl #[.agg #[.int .i64 ((rd_T43 l0 x7_1).f1.f0), .int .i64 ((rd_T43 l0 x7_1).f1.f1)]] (by rfl) rfl rfl (by (try simp only [List.map_toArray, List.map_cons, List.map_nil]); first | done | rfl | (simp only [List.length_drop, List.length_take]; rfl)) ?_
      with_reducible refine (ropewayref04_Right.calls ((rd_T43 l0 x7_1).f1.f0) ((rd_T43 l0 x7_1).f1.f1) true _ A12.out).mono ?_
      rintro e w27 ⟨rfl, hb⟩
      refine ⟨_, rfl, ?_⟩
      replace BK387 := zM (bb_ BK387 hb)
      replace HB := zM (zB bel_ hb)
      (try clear hb)
      (try clear hb2)
      (try clear hk)
      (try clear hi)
      refine hK.out _ _ ⟨(zL BK387.out 0).trans rfl, (zL BK387.out 1).trans rfl, (zL BK387.out 2).trans rfl⟩ (fun hHeld => ?_)
      clear hK K
      refine norm_ (a' := ?_) ?_ ?_
      rotate_left
      · show Act.put _ (some 23) _ = _
        simp only [Act.put, zS, zZ, zC, i64_w, i32_w]
        rfl
      refine put_ HT_ 12 24 (dm_ 35 8191) ?_
      refine put_ HT_ 13 25 (dm_ 35 16383) ?_
      refine put_ HT_ 14 26 (dm_ 35 32767) ?_
      refine put_ HT_ 15 27 (dm_ 35 65535) ?_
      refine put_ HT_ 17 29 (dm_ 35 196607) ?_
      refine tkt_ HT_ HW_ hHeld 16 28 (dm_ 35 262143) ?_
      refine put_ HT_ 18 30 (dm_ 35 524287) ?_
      refine put_ HT_ 19 31 (dm_ 35 1048575) ?_
      refine put_ HT_ 20 32 (dm_ 35 2097151) ?_
      refine put_ HT_ 21 33 (dm_ 35 4194303) ?_
      refine put_ HT_ 22 34 (dm_ 35 8388607) ?_
      refine put_ HT_ 23 35 (dm_ 35 16777215) ?_
      refine pzt_ HT_ 24 36 (dm_ 35 33554431) ?_
      refine pzt_ HT_ 25 37 (dm_ 35 67108863) ?_
      refine pzt_ HT_ 26 38 (dm_ 35 134217727) ?_
      refine pzt_ HT_ 27 39 (dm_ 35 268435455) ?_
      refine pzt_ HT_ 28 40 (dm_ 35 536870911) ?_
      refine pzt_ HT_ 29 41 (dm_ 35 1073741823) ?_
      refine pzt_ HT_ 30 42 (dm_ 35 2147483647) ?_
      refine pzt_ HT_ 31 43 (dm_ 35 4294967295) ?_
      refine pzt_ HT_ 32 44 (dm_ 35 8589934591) ?_
      refine put_ HT_ 33 45 (dm_ 35 17179869183) ?_
      refine put_ HT_ 34 46 (dm_ 35 34359738367) ?_
      refine done_ (done_of HT_.out (by kernel_rfl)) ?_
      go_upto_region 6 with (fail)
      have H' := zM H
      clear H
      go_wp2
      go_roundg k1
      case measure => have := HK1.out; omega
      case rel => exact ⟨(wrap64 (x7_1 + 1)), (by first | rfl | (simp; done) | (simp [*]; done) | (simp; grind)), H', ⟨by have := HK1.out; omega⟩, ⟨bel_⟩⟩
    rw [if_pos c17] at H
    have c17b0 : decide (0 < x7_1) = true := decide_eq_true c17
    clear c17
    obtain ⟨ji18, hji18⟩ : ∃ j_ : Int, (wrap64 (x7_1 - 1)) = j_ := ⟨_, rfl⟩
    replace H : (if 0 ≤ (ji18) then (if (ji18) < (l0.length : Int) then (if ((rd_T43 l0 (ji18)).f0) ≥ ((rd_T43 l0 x7_1).f0) then (some 101) else (ropewayref10_Check.l0 k1 l0 l0 (l0.length : Int) (wrap64 (x7_1 + 1)))) else (none)) else (none)) = some r := by first | (rw [hji18] at H; exact H) | (simp only [hji18] at H ⊢; exact H)
    (try rw [hji18] at A12)
    have hji18w : (IntKind.i64.wrap (x7_1 - 1)) = ji18 := (i64_w _).trans hji18
    by_cases c19 : 0 ≤ (ji18)
    rotate_left
    · rw [if_neg c19] at H
      exact absurd H (by simp)
    rw [if_pos c19] at H
    have c19b0 : decide (0 ≤ (ji18)) = true := decide_eq_true c19
    clear c19
    by_cases c20 : (ji18) < (l0.length : Int)
    rotate_left
    · rw [if_neg c20] at H
      exact absurd H (by simp)
    rw [if_pos c20] at H
    have c20b0 : decide ((ji18) < (l0.length : Int)) = true := decide_eq_true c20
    clear c20
    by_cases c21 : ((rd_T43 l0 (ji18)).f0) ≥ ((rd_T43 l0 x7_1).f0)
    · rw [if_pos c21] at H
      have c21b0 : decide (((rd_T43 l0 x7_1).f0) ≤ ((rd_T43 l0 (ji18)).f0)) = true := decide_eq_true c21
      clear c21
      try go_wp2
      replace BK387 := zM (zD BK387.out)
      replace HB := zM (below_drew1 HB.out)
      have p389 : 0 ≤ ((ji18) : Int) := of_decide_eq_true (by first | (with_reducible assumption) | assumption)
      have q389 : (ji18) < (l0.length : Int) := of_decide_eq_true (by first | (with_reducible assumption) | assumption)
      obtain ⟨ad389, e389, hx389_0, hx389_1, hx389_2⟩ := at_T43 HR0.out (ji18) p389 q389
      have hw389_2 := hx389_2
      have hw389_1 := hx389_1
      have hw389_0 := hx389_0
      obtain rfl : ad386 = ad389 := (by injection e389)
      replace hx389_0 := (HB.out.cell (World.block_lt_of_cell? w _ hx389_0)).trans hx389_0
      replace hx389_1 := (HB.out.cell (World.block_lt_of_cell? w _ hx389_1)).trans hx389_1
      replace hx389_2 := (HB.out.cell (World.block_lt_of_cell? w _ hx389_2)).trans hx389_2
      replace p389 := eq_true p389
      replace q389 := eq_true q389
      refine start_ (n := 35) (S := fun w' => w'.cell? ⟨gb387, 0, none⟩ = some (.int .i64 ((rd_T43 l0 x7_1).f0)) ∧ w'.cell? ⟨gb387, 1, none⟩ = some (.int .i64 ((rd_T43 l0 x7_1).f1.f0)) ∧ w'.cell? ⟨gb387, 2, none⟩ = some (.int .i64 ((rd_T43 l0 x7_1).f1.f1)) ∧ w'.cell? (ad386.add (((ji18)).toNat * 3)) = some (.int .i64 ((rd_T43 l0 (ji18)).f0)) ∧ w'.cell? ⟨(ad386.add (((ji18)).toNat * 3)).block, (ad386.add (((ji18)).toNat * 3)).off + 1, none⟩ = some (.int .i64 ((rd_T43 l0 (ji18)).f1.f0)) ∧ w'.cell? ⟨(ad386.add (((ji18)).toNat * 3)).block, (ad386.add (((ji18)).toNat * 3)).off + 2, none⟩ = some (.int .i64 ((rd_T43 l0 (ji18)).f1.f1))) (ds := []) #[F_, F_, F_, F_, F_, F_, F_, F_, F_, F_, F_, F_, F_, F_, F_, F_, F_, F_, F_, F_, F_, F_, F_, F_, F_, F_, F_, F_, F_, F_, F_, F_, F_, F_, F_] (by kernel_rfl) rfl rfl ⟨(zL BK387.out 0).trans rfl, (zL BK387.out 1).trans rfl, (zL BK387.out 2).trans rfl, (hb_ HB hw389_0), (hb_ HB hw389_1), (hb_ HB hw389_2)⟩ (fun hHeld => ?_); refine with_tabW ropewayref10_Check.tab4 ropewayref10_Check.bits4 (fun HT_ HW_ => ?_)
      generalize w7.drew = w22 at BK387 HB hx389_0 hx389_1 hx389_2 hHeld ⊢
      refine put_ HT_ 0 12 (dm_ 35 1) ?_
      refine tkt_ HT_ HW_ hHeld 1 13 (dm_ 35 3) ?_
      refine put_ HT_ 2 14 (dm_ 35 7) ?_
      refine put_ HT_ 3 15 (dm_ 35 15) ?_
      refine put_ HT_ 4 16 (dm_ 35 31) ?_
      refine tkt_ HT_ HW_ hHeld 5 17 (dm_ 35 63) ?_
      refine put_ HT_ 6 18 (dm_ 35 127) ?_
      refine put_ HT_ 7 19 (dm_ 35 255) ?_
      refine put_ HT_ 8 20 (dm_ 35 511) ?_
      refine put_ HT_ 9 21 (dm_ 35 1023) ?_
      refine tkt_ HT_ HW_ hHeld 10 22 (dm_ 35 2047) ?_
      refine one_ (i := 11) (N := some 23) (dm_ 35 4095) rfl rfl (one_of HT_.out (by kernel_rfl)) (by decide) (fun K hK => ?_)
      refine goes_ Try.func55 (by kernel_rfl) rfl #[.agg #[.int .i64 ((rd_T43 l0 x7_1).f1.f0), .int .i64 ((rd_T43 l0 x7_1).f1.f1)]] (by rfl) rfl rfl (by (try simp only [List.map_toArray, List.map_cons, List.map_nil]); first | done | rfl | (simp only [List.length_drop, List.length_take]; rfl)) ?_
      with_reducible refine (ropewayref04_Right.calls ((rd_T43 l0 x7_1).f1.f0) ((rd_T43 l0 x7_1).f1.f1) true _ A12.out).mono ?_
      rintro e w23 ⟨rfl, hb⟩
      refine ⟨_, rfl, ?_⟩
      replace BK387 := zM (bb_ BK387 hb)
      replace HB := zM (zB bel_ hb)
      (try clear hb)
      (try clear hb2)
      (try clear hk)
      (try clear hi)
      refine hK.out _ _ ⟨(zL BK387.out 0).trans rfl, (zL BK387.out 1).trans rfl, (zL BK387.out 2).trans rfl, (hb_ HB hw389_0), (hb_ HB hw389_1), (hb_ HB hw389_2)⟩ (fun hHeld => ?_)
      clear hK K
      refine norm_ (a' := ?_) ?_ ?_
      rotate_left
      · show Act.put _ (some 23) _ = _
        simp only [Act.put, zS, zZ, zC, i64_w, i32_w]
        rfl
      refine put_ HT_ 12 24 (dm_ 35 8191) ?_
      refine put_ HT_ 13 25 (dm_ 35 16383) ?_
      refine put_ HT_ 14 26 (dm_ 35 32767) ?_
      refine put_ HT_ 15 27 (dm_ 35 65535) ?_
      refine put_ HT_ 17 29 (dm_ 35 196607) ?_
      refine tkt_ HT_ HW_ hHeld 16 28 (dm_ 35 262143) ?_
      refine put_ HT_ 18 30 (dm_ 35 524287) ?_
      refine put_ HT_ 19 31 (dm_ 35 1048575) ?_
      refine put_ HT_ 20 32 (dm_ 35 2097151) ?_
      refine put_ HT_ 21 33 (dm_ 35 4194303) ?_
      refine put_ HT_ 22 34 (dm_ 35 8388607) ?_
      refine put_ HT_ 23 35 (dm_ 35 16777215) ?_
      refine put_ HT_ 24 36 (dm_ 35 33554431) ?_
      refine put_ HT_ 25 37 (dm_ 35 67108863) ?_
      refine put_ HT_ 26 38 (dm_ 35 134217727) ?_
      refine put_ HT_ 27 39 (dm_ 35 268435455) ?_
      refine put_ HT_ 28 40 (dm_ 35 536870911) ?_
      refine put_ HT_ 30 42 (dm_ 35 1610612735) ?_
      refine tkt_ HT_ HW_ hHeld 29 41 (dm_ 35 2147483647) ?_
      refine tkt_ HT_ HW_ hHeld 31 43 (dm_ 35 4294967295) ?_
      refine put_ HT_ 32 44 (dm_ 35 8589934591) ?_
      refine put_ HT_ 33 45 (dm_ 35 17179869183) ?_
      refine put_ HT_ 34 46 (dm_ 35 34359738367) ?_
      refine done_ (done_of HT_.out (by kernel_rfl)) ?_
      go_upto_region 5 with (fail)
      obtain rfl := Option.some.inj H
      go_wp2
      go_ret
      exact ⟨by first | rfl | (simp [errW_none, errW_some] <;> rfl) | (simp only [← hji18]; first | rfl | (simp [errW_none, errW_some] <;> rfl)) | (simp [*, errW_none, errW_some] <;> rfl), bel_⟩
    rw [if_neg c21] at H
    have c21b0 : decide (((rd_T43 l0 x7_1).f0) ≤ ((rd_T43 l0 (ji18)).f0)) = false := decide_eq_false c21
    clear c21
    try go_wp2
    replace BK387 := zM (zD BK387.out)
    replace HB := zM (below_drew1 HB.out)
    have p389 : 0 ≤ ((ji18) : Int) := of_decide_eq_true (by first | (with_reducible assumption) | assumption)
    have q389 : (ji18) < (l0.length : Int) := of_decide_eq_true (by first | (with_reducible assumption) | assumption)
    obtain ⟨ad389, e389, hx389_0, hx389_1, hx389_2⟩ := at_T43 HR0.out (ji18) p389 q389
    have hw389_2 := hx389_2
    have hw389_1 := hx389_1
    have hw389_0 := hx389_0
    obtain rfl : ad386 = ad389 := (by injection e389)
    replace hx389_0 := (HB.out.cell (World.block_lt_of_cell? w _ hx389_0)).trans hx389_0
    replace hx389_1 := (HB.out.cell (World.block_lt_of_cell? w _ hx389_1)).trans hx389_1
    replace hx389_2 := (HB.out.cell (World.block_lt_of_cell? w _ hx389_2)).trans hx389_2
    replace p389 := eq_true p389
    replace q389 := eq_true q389
    refine start_ (n := 35) (S := fun w' => w'.cell? ⟨gb387, 0, none⟩ = some (.int .i64 ((rd_T43 l0 x7_1).f0)) ∧ w'.cell? ⟨gb387, 1, none⟩ = some (.int .i64 ((rd_T43 l0 x7_1).f1.f0)) ∧ w'.cell? ⟨gb387, 2, none⟩ = some (.int .i64 ((rd_T43 l0 x7_1).f1.f1)) ∧ w'.cell? (ad386.add (((ji18)).toNat * 3)) = some (.int .i64 ((rd_T43 l0 (ji18)).f0)) ∧ w'.cell? ⟨(ad386.add (((ji18)).toNat * 3)).block, (ad386.add (((ji18)).toNat * 3)).off + 1, none⟩ = some (.int .i64 ((rd_T43 l0 (ji18)).f1.f0)) ∧ w'.cell? ⟨(ad386.add (((ji18)).toNat * 3)).block, (ad386.add (((ji18)).toNat * 3)).off + 2, none⟩ = some (.int .i64 ((rd_T43 l0 (ji18)).f1.f1))) (ds := []) #[F_, F_, F_, F_, F_, F_, F_, F_, F_, F_, F_, F_, F_, F_, F_, F_, F_, F_, F_, F_, F_, F_, F_, F_, F_, F_, F_, F_, F_, F_, F_, F_, F_, F_, F_] (by kernel_rfl) rfl rfl ⟨(zL BK387.out 0).trans rfl, (zL BK387.out 1).trans rfl, (zL BK387.out 2).trans rfl, (hb_ HB hw389_0), (hb_ HB hw389_1), (hb_ HB hw389_2)⟩ (fun hHeld => ?_); refine with_tabW ropewayref10_Check.tab4 ropewayref10_Check.bits4 (fun HT_ HW_ => ?_)
    generalize w7.drew = w24 at BK387 HB hx389_0 hx389_1 hx389_2 hHeld ⊢
    refine put_ HT_ 0 12 (dm_ 35 1) ?_
    refine tkt_ HT_ HW_ hHeld 1 13 (dm_ 35 3) ?_
    refine put_ HT_ 2 14 (dm_ 35 7) ?_
    refine put_ HT_ 3 15 (dm_ 35 15) ?_
    refine put_ HT_ 4 16 (dm_ 35 31) ?_
    refine tkt_ HT_ HW_ hHeld 5 17 (dm_ 35 63) ?_
    refine put_ HT_ 6 18 (dm_ 35 127) ?_
    refine put_ HT_ 7 19 (dm_ 35 255) ?_
    refine put_ HT_ 8 20 (dm_ 35 511) ?_
    refine put_ HT_ 9 21 (dm_ 35 1023) ?_
    refine tkt_ HT_ HW_ hHeld 10 22 (dm_ 35 2047) ?_
    refine one_ (i := 11) (N := some 23) (dm_ 35 4095) rfl rfl (one_of HT_.out (by kernel_rfl)) (by decide) (fun K hK => ?_)
    refine goes_ Try.func55 (by kernel_rfl) rfl #[.agg #[.int .i64 ((rd_T43 l0 x7_1).f1.f0), .int .i64 ((rd_T43 l0 x7_1).f1.f1)]] (by rfl) rfl rfl (by (try simp only [List.map_toArray, List.map_cons, List.map_nil]); first | done | rfl | (simp only [List.length_drop, List.length_take]; rfl)) ?_
    with_reducible refine (ropewayref04_Right.calls ((rd_T43 l0 x7_1).f1.f0) ((rd_T43 l0 x7_1).f1.f1) true _ A12.out).mono ?_
    rintro e w25 ⟨rfl, hb⟩
    refine ⟨_, rfl, ?_⟩
    replace BK387 := zM (bb_ BK387 hb)
    replace HB := zM (zB bel_ hb)
    (try clear hb)
    (try clear hb2)
    (try clear hk)
    (try clear hi)
    refine hK.out _ _ ⟨(zL BK387.out 0).trans rfl, (zL BK387.out 1).trans rfl, (zL BK387.out 2).trans rfl, (hb_ HB hw389_0), (hb_ HB hw389_1), (hb_ HB hw389_2)⟩ (fun hHeld => ?_)
    clear hK K
    refine norm_ (a' := ?_) ?_ ?_
    rotate_left
    · show Act.put _ (some 23) _ = _
      simp only [Act.put, zS, zZ, zC, i64_w, i32_w]
      rfl
    refine put_ HT_ 12 24 (dm_ 35 8191) ?_
    refine put_ HT_ 13 25 (dm_ 35 16383) ?_
    refine put_ HT_ 14 26 (dm_ 35 32767) ?_
    refine put_ HT_ 15 27 (dm_ 35 65535) ?_
    refine put_ HT_ 17 29 (dm_ 35 196607) ?_
    refine tkt_ HT_ HW_ hHeld 16 28 (dm_ 35 262143) ?_
    refine put_ HT_ 18 30 (dm_ 35 524287) ?_
    refine put_ HT_ 19 31 (dm_ 35 1048575) ?_
    refine put_ HT_ 20 32 (dm_ 35 2097151) ?_
    refine put_ HT_ 21 33 (dm_ 35 4194303) ?_
    refine put_ HT_ 22 34 (dm_ 35 8388607) ?_
    refine put_ HT_ 23 35 (dm_ 35 16777215) ?_
    refine put_ HT_ 24 36 (dm_ 35 33554431) ?_
    refine put_ HT_ 25 37 (dm_ 35 67108863) ?_
    refine put_ HT_ 26 38 (dm_ 35 134217727) ?_
    refine put_ HT_ 27 39 (dm_ 35 268435455) ?_
    refine put_ HT_ 28 40 (dm_ 35 536870911) ?_
    refine put_ HT_ 30 42 (dm_ 35 1610612735) ?_
    refine tkt_ HT_ HW_ hHeld 29 41 (dm_ 35 2147483647) ?_
    refine tkt_ HT_ HW_ hHeld 31 43 (dm_ 35 4294967295) ?_
    refine put_ HT_ 32 44 (dm_ 35 8589934591) ?_
    refine put_ HT_ 33 45 (dm_ 35 17179869183) ?_
    refine put_ HT_ 34 46 (dm_ 35 34359738367) ?_
    refine done_ (done_of HT_.out (by kernel_rfl)) ?_
    go_upto_region 6 with (fail)
    have H' := zM H
    clear H
    go_wp2
    go_roundg k1
    case measure => have := HK1.out; omega
    case rel => exact ⟨(wrap64 (x7_1 + 1)), (by first | rfl | (simp; done) | (simp [*]; done) | (simp; grind)), H', ⟨by have := HK1.out; omega⟩, ⟨bel_⟩⟩
end Go.Proofs.Ytmgiaappokkjfaa.PRoundStays
