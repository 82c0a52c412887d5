/- Written by a program of this session (wip/tool/px.py) over the kit's print: what the code that the law PastSources reaches computes, function by function, and the law's row. -/
import Derived.Test.YtmenkbdaabjojaaPPastSourcesx0
import Derived.Test.YtmenkbdaabjojaaSPastSourcesXWWideR
import Derived.Test.YtmenkbdaabjojaaPPastSourcesx2
import Derived.Test.YtmenkbdaabjojaaPPastSourcesx3
namespace Go.Proofs.Ytmenkbdaabjojaa.PPastSources
open Go.RowKit Go.Proofs.YtmenkbdaabjojaaX Go.Proofs.YtmenkbdaabjojaaW.PrintWords Go.Proofs.YtmenkbdaabjojaaW.PrintLast Go.Proofs.YtmenkbdaabjojaaW.PrintMore
open List renaming setIfInBounds_toArray → zS, set_cons_zero → zZ, set_cons_succ → zC
open Go.Proofs.YtmenkbdaabjojaaW.PrintWords renaming blk_drewN → zN, blk_drew → zD, blk_alloc → zA, blk_cell → zL, blk_frozen → zF, below_step → zB
open Go.Proofs.YtmenkbdaabjojaaW.PrintWords.Aside0 renaming mk → zM
attribute [local go_sem] max2_int min2_int max_two min_two max_three min_three max_four min_four   -- for this text's walks alone
set_option linter.unusedVariables false
set_option linter.unusedSimpArgs false

attribute [local go_sem] px_store_float px_neg_float px_call40
attribute [local go_sem high] eqA29
/-! ### past_alone: function 25 -/
def past_alone.f (k : Nat) (l0 : List (S35)) (a1 : Int) : Option (Bool) := if 0 ≤ a1 then (if a1 < (l0.length : Int) then (if ((rd_T35 l0 a1).f4.f2.f0) = ((rd_T35 l0 a1).f3.f1) then (if ((rd_T35 l0 a1).f3.f0) = 1 then ((num_Same.f ((rd_T35 l0 a1).f4.f2.f2) ((rd_T35 l0 a1).f3.f2)).bind fun t127 => (if t127 = true then (if ((rd_T35 l0 a1).f4.f2.f1.f1) = ((rd_T35 l0 a1).f0) then (some (decide (((rd_T35 l0 a1).f4.f2.f1.f0) > 0))) else (some false)) else (some false))) else (if (((rd_T35 l0 a1).f4.f2.f1.f0) == 0 && (((rd_T35 l0 a1).f4.f2.f1.f1) == 0)) = true then ((num_Bits.f ((rd_T35 l0 a1).f4.f2.f2)).bind fun t128 => (some (t128 == 0))) else ((past_Source.f k l0 a1).bind fun t129 => (some (decide (t129 ≥ 0)))))) else (some false)) else (none)) else (none)
theorem past_alone.mono : ∀ a0 a1 k, LeO (past_alone.f k a0 a1) (past_alone.f (k + 1) a0 a1) := by
  intro a0 a1 k
  unfold past_alone.f
  repeat' first
      | (with_reducible exact past_Source.mono _ _ _)
      | (with_reducible exact LeO.refl _)
      | (with_reducible exact LeO.none _)
      | (with_reducible refine LeO.ite ?_ ?_)
      | (with_reducible refine LeO.bind ?_ (fun _ => ?_))
      | exact past_Source.mono _ _ _
      | exact LeO.none _
      | refine LeO.ite ?_ ?_
      | refine LeO.bind ?_ (fun _ => ?_)
def past_alone.T1 : Bool × List (List Nat × List Nat) := (true, [([], []), ([], []), ([0, 1], [0, 1]), ([2], [2]), ([], []), ([], []), ([4, 5], [4, 5]), ([6], [6]), ([7], [7]), ([8], [8]), ([], []), ([], []), ([10, 3, 0, 1, 2, 3, 10, 11], [3, 10]), ([11, 9, 12, 0, 1, 2, 3, 4, 5, 6, 7, 8, 9, 10, 11, 12], [9, 11])])
def past_alone.B1 : List Nat := [0, 0, 3, 7, 0, 0, 48, 112, 240, 496, 0, 0, 3087, 8191]
theorem past_alone.tab1 : rtab .any (opsOf Try.f25 1) = past_alone.T1 := by kernel_rfl
theorem past_alone.bits1 : waitsOk past_alone.T1.2 past_alone.B1 = true := by kernel_rfl
set_option maxHeartbeats 40000000 in
set_option maxRecDepth 100000 in
theorem past_alone.calls (k : Nat) (A0 : Option Addr) (c0 : Nat) (l0 : List (S35)) (a1 : Int) (r : Bool) (w : World) (hr0 : Kd.C k35 w A0 l0.length l0) (hc0 : l0.length ≤ c0) (h : past_alone.f k l0 a1 = some r) :
    Calls Try.prog 25 #[.slice A0 l0.length c0, .int .i64 a1] w fun e w' => e = .returned (.bool r) ∧ Below w.heap.size w w' := by
  have hu35 := Try.underlying35
  have hu31 := Try.underlying31
  have hu29 := Try.underlying29
  have HR0 := zM hr0
  have HC0 := zM hc0
  clear hr0 hc0
  have HB := zM (Below.refl w.heap.size w)
  have H : (if 0 ≤ a1 then (if a1 < (l0.length : Int) then (if ((rd_T35 l0 a1).f4.f2.f0) = ((rd_T35 l0 a1).f3.f1) then (if ((rd_T35 l0 a1).f3.f0) = 1 then ((num_Same.f ((rd_T35 l0 a1).f4.f2.f2) ((rd_T35 l0 a1).f3.f2)).bind fun t127 => (if t127 = true then (if ((rd_T35 l0 a1).f4.f2.f1.f1) = ((rd_T35 l0 a1).f0) then (some (decide (((rd_T35 l0 a1).f4.f2.f1.f0) > 0))) else (some false)) else (some false))) else (if (((rd_T35 l0 a1).f4.f2.f1.f0) == 0 && (((rd_T35 l0 a1).f4.f2.f1.f1) == 0)) = true then ((num_Bits.f ((rd_T35 l0 a1).f4.f2.f2)).bind fun t128 => (some (t128 == 0))) else ((past_Source.f k l0 a1).bind fun t129 => (some (decide (t129 ≥ 0)))))) else (some false)) else (none)) else (none)) = some r := h
  clear h
  by_cases c3 : 0 ≤ a1
  rotate_left
  · rw [if_neg c3] at H
    exact absurd H (by simp)
  rw [if_pos c3] at H
  have c3b0 : decide (0 ≤ a1) = true := decide_eq_true c3
  clear c3
  by_cases c4 : a1 < (l0.length : Int)
  rotate_left
  · rw [if_neg c4] at H
    exact absurd H (by simp)
  rw [if_pos c4] at H
  have c4b0 : decide (a1 < (l0.length : Int)) = true := decide_eq_true c4
  clear c4
  go_enter Try.func25, Try.ntmps25
  try go_wp2
  replace HB := zM (below_drew1 HB.out)
  have p123 : 0 ≤ (a1 : Int) := of_decide_eq_true (by first | (with_reducible assumption) | assumption)
  have q123 : a1 < (l0.length : Int) := of_decide_eq_true (by first | (with_reducible assumption) | assumption)
  obtain ⟨ad123, e123, hx123_0, hx123_1, hx123_2, hx123_3, hx123_4, hx123_5, hx123_6, hx123_7, hx123_8, hx123_9, hx123_10, hx123_11, hx123_12, hx123_13, hx123_14⟩ := at_T35 HR0.out a1 p123 q123
  have hw123_14 := hx123_14
  have hw123_13 := hx123_13
  have hw123_12 := hx123_12
  have hw123_11 := hx123_11
  have hw123_10 := hx123_10
  have hw123_9 := hx123_9
  have hw123_8 := hx123_8
  have hw123_7 := hx123_7
  have hw123_6 := hx123_6
  have hw123_5 := hx123_5
  have hw123_4 := hx123_4
  have hw123_3 := hx123_3
  have hw123_2 := hx123_2
  have hw123_1 := hx123_1
  have hw123_0 := hx123_0
  cases e123
  replace hx123_0 := (HB.out.cell (World.block_lt_of_cell? w _ hx123_0)).trans hx123_0
  replace hx123_1 := (HB.out.cell (World.block_lt_of_cell? w _ hx123_1)).trans hx123_1
  replace hx123_2 := (HB.out.cell (World.block_lt_of_cell? w _ hx123_2)).trans hx123_2
  replace hx123_3 := (HB.out.cell (World.block_lt_of_cell? w _ hx123_3)).trans hx123_3
  replace hx123_4 := (HB.out.cell (World.block_lt_of_cell? w _ hx123_4)).trans hx123_4
  replace hx123_5 := (HB.out.cell (World.block_lt_of_cell? w _ hx123_5)).trans hx123_5
  replace hx123_6 := (HB.out.cell (World.block_lt_of_cell? w _ hx123_6)).trans hx123_6
  replace hx123_7 := (HB.out.cell (World.block_lt_of_cell? w _ hx123_7)).trans hx123_7
  replace hx123_8 := (HB.out.cell (World.block_lt_of_cell? w _ hx123_8)).trans hx123_8
  replace hx123_9 := (HB.out.cell (World.block_lt_of_cell? w _ hx123_9)).trans hx123_9
  replace hx123_10 := (HB.out.cell (World.block_lt_of_cell? w _ hx123_10)).trans hx123_10
  replace hx123_11 := (HB.out.cell (World.block_lt_of_cell? w _ hx123_11)).trans hx123_11
  replace hx123_12 := (HB.out.cell (World.block_lt_of_cell? w _ hx123_12)).trans hx123_12
  replace hx123_13 := (HB.out.cell (World.block_lt_of_cell? w _ hx123_13)).trans hx123_13
  replace hx123_14 := (HB.out.cell (World.block_lt_of_cell? w _ hx123_14)).trans hx123_14
  replace p123 := eq_true p123
  replace q123 := eq_true q123
  have p124 : 0 ≤ (a1 : Int) := of_decide_eq_true (by first | (with_reducible assumption) | assumption)
  have q124 : a1 < (l0.length : Int) := of_decide_eq_true (by first | (with_reducible assumption) | assumption)
  obtain ⟨ad124, e124, hx124_0, hx124_1, hx124_2, hx124_3, hx124_4, hx124_5, hx124_6, hx124_7, hx124_8, hx124_9, hx124_10, hx124_11, hx124_12, hx124_13, hx124_14⟩ := at_T35 HR0.out a1 p124 q124
  have hw124_14 := hx124_14
  have hw124_13 := hx124_13
  have hw124_12 := hx124_12
  have hw124_11 := hx124_11
  have hw124_10 := hx124_10
  have hw124_9 := hx124_9
  have hw124_8 := hx124_8
  have hw124_7 := hx124_7
  have hw124_6 := hx124_6
  have hw124_5 := hx124_5
  have hw124_4 := hx124_4
  have hw124_3 := hx124_3
  have hw124_2 := hx124_2
  have hw124_1 := hx124_1
  have hw124_0 := hx124_0
  obtain rfl : ad123 = ad124 := (by injection e124)
  replace hx124_0 := (HB.out.cell (World.block_lt_of_cell? w _ hx124_0)).trans hx124_0
  replace hx124_1 := (HB.out.cell (World.block_lt_of_cell? w _ hx124_1)).trans hx124_1
  replace hx124_2 := (HB.out.cell (World.block_lt_of_cell? w _ hx124_2)).trans hx124_2
  replace hx124_3 := (HB.out.cell (World.block_lt_of_cell? w _ hx124_3)).trans hx124_3
  replace hx124_4 := (HB.out.cell (World.block_lt_of_cell? w _ hx124_4)).trans hx124_4
  replace hx124_5 := (HB.out.cell (World.block_lt_of_cell? w _ hx124_5)).trans hx124_5
  replace hx124_6 := (HB.out.cell (World.block_lt_of_cell? w _ hx124_6)).trans hx124_6
  replace hx124_7 := (HB.out.cell (World.block_lt_of_cell? w _ hx124_7)).trans hx124_7
  replace hx124_8 := (HB.out.cell (World.block_lt_of_cell? w _ hx124_8)).trans hx124_8
  replace hx124_9 := (HB.out.cell (World.block_lt_of_cell? w _ hx124_9)).trans hx124_9
  replace hx124_10 := (HB.out.cell (World.block_lt_of_cell? w _ hx124_10)).trans hx124_10
  replace hx124_11 := (HB.out.cell (World.block_lt_of_cell? w _ hx124_11)).trans hx124_11
  replace hx124_12 := (HB.out.cell (World.block_lt_of_cell? w _ hx124_12)).trans hx124_12
  replace hx124_13 := (HB.out.cell (World.block_lt_of_cell? w _ hx124_13)).trans hx124_13
  replace hx124_14 := (HB.out.cell (World.block_lt_of_cell? w _ hx124_14)).trans hx124_14
  replace p124 := eq_true p124
  replace q124 := eq_true q124
  refine start_ (n := 14) (S := fun w' => w'.cell? (ad123.add ((a1).toNat * 15)) = some (.int .i64 ((rd_T35 l0 a1).f0)) ∧ w'.cell? ⟨(ad123.add ((a1).toNat * 15)).block, (ad123.add ((a1).toNat * 15)).off + 1, none⟩ = some (.int .i64 ((rd_T35 l0 a1).f1)) ∧ w'.cell? ⟨(ad123.add ((a1).toNat * 15)).block, (ad123.add ((a1).toNat * 15)).off + 2, none⟩ = some (.int .i64 ((rd_T35 l0 a1).f2)) ∧ w'.cell? ⟨(ad123.add ((a1).toNat * 15)).block, (ad123.add ((a1).toNat * 15)).off + 3, none⟩ = some (.int .i64 ((rd_T35 l0 a1).f3.f0)) ∧ w'.cell? ⟨(ad123.add ((a1).toNat * 15)).block, (ad123.add ((a1).toNat * 15)).off + 4, none⟩ = some (.int .i64 ((rd_T35 l0 a1).f3.f1)) ∧ w'.cell? ⟨(ad123.add ((a1).toNat * 15)).block, (ad123.add ((a1).toNat * 15)).off + 5, none⟩ = some (.float .f64 ((rd_T35 l0 a1).f3.f2)) ∧ w'.cell? ⟨(ad123.add ((a1).toNat * 15)).block, (ad123.add ((a1).toNat * 15)).off + 6, none⟩ = some (.int .i64 ((rd_T35 l0 a1).f3.f3.f0)) ∧ w'.cell? ⟨(ad123.add ((a1).toNat * 15)).block, (ad123.add ((a1).toNat * 15)).off + 7, none⟩ = some (.int .i64 ((rd_T35 l0 a1).f3.f3.f1)) ∧ w'.cell? ⟨(ad123.add ((a1).toNat * 15)).block, (ad123.add ((a1).toNat * 15)).off + 8, none⟩ = some (.int .i64 ((rd_T35 l0 a1).f4.f0)) ∧ w'.cell? ⟨(ad123.add ((a1).toNat * 15)).block, (ad123.add ((a1).toNat * 15)).off + 9, none⟩ = some (.int .i64 ((rd_T35 l0 a1).f4.f1.f0)) ∧ w'.cell? ⟨(ad123.add ((a1).toNat * 15)).block, (ad123.add ((a1).toNat * 15)).off + 10, none⟩ = some (.int .i64 ((rd_T35 l0 a1).f4.f1.f1)) ∧ w'.cell? ⟨(ad123.add ((a1).toNat * 15)).block, (ad123.add ((a1).toNat * 15)).off + 11, none⟩ = some (.int .i64 ((rd_T35 l0 a1).f4.f2.f0)) ∧ w'.cell? ⟨(ad123.add ((a1).toNat * 15)).block, (ad123.add ((a1).toNat * 15)).off + 12, none⟩ = some (.int .i64 ((rd_T35 l0 a1).f4.f2.f1.f0)) ∧ w'.cell? ⟨(ad123.add ((a1).toNat * 15)).block, (ad123.add ((a1).toNat * 15)).off + 13, none⟩ = some (.int .i64 ((rd_T35 l0 a1).f4.f2.f1.f1)) ∧ w'.cell? ⟨(ad123.add ((a1).toNat * 15)).block, (ad123.add ((a1).toNat * 15)).off + 14, none⟩ = some (.float .f64 ((rd_T35 l0 a1).f4.f2.f2)) ∧ w'.cell? (ad123.add ((a1).toNat * 15)) = some (.int .i64 ((rd_T35 l0 a1).f0)) ∧ w'.cell? ⟨(ad123.add ((a1).toNat * 15)).block, (ad123.add ((a1).toNat * 15)).off + 1, none⟩ = some (.int .i64 ((rd_T35 l0 a1).f1)) ∧ w'.cell? ⟨(ad123.add ((a1).toNat * 15)).block, (ad123.add ((a1).toNat * 15)).off + 2, none⟩ = some (.int .i64 ((rd_T35 l0 a1).f2)) ∧ w'.cell? ⟨(ad123.add ((a1).toNat * 15)).block, (ad123.add ((a1).toNat * 15)).off + 3, none⟩ = some (.int .i64 ((rd_T35 l0 a1).f3.f0)) ∧ w'.cell? ⟨(ad123.add ((a1).toNat * 15)).block, (ad123.add ((a1).toNat * 15)).off + 4, none⟩ = some (.int .i64 ((rd_T35 l0 a1).f3.f1)) ∧ w'.cell? ⟨(ad123.add ((a1).toNat * 15)).block, (ad123.add ((a1).toNat * 15)).off + 5, none⟩ = some (.float .f64 ((rd_T35 l0 a1).f3.f2)) ∧ w'.cell? ⟨(ad123.add ((a1).toNat * 15)).block, (ad123.add ((a1).toNat * 15)).off + 6, none⟩ = some (.int .i64 ((rd_T35 l0 a1).f3.f3.f0)) ∧ w'.cell? ⟨(ad123.add ((a1).toNat * 15)).block, (ad123.add ((a1).toNat * 15)).off + 7, none⟩ = some (.int .i64 ((rd_T35 l0 a1).f3.f3.f1)) ∧ w'.cell? ⟨(ad123.add ((a1).toNat * 15)).block, (ad123.add ((a1).toNat * 15)).off + 8, none⟩ = some (.int .i64 ((rd_T35 l0 a1).f4.f0)) ∧ w'.cell? ⟨(ad123.add ((a1).toNat * 15)).block, (ad123.add ((a1).toNat * 15)).off + 9, none⟩ = some (.int .i64 ((rd_T35 l0 a1).f4.f1.f0)) ∧ w'.cell? ⟨(ad123.add ((a1).toNat * 15)).block, (ad123.add ((a1).toNat * 15)).off + 10, none⟩ = some (.int .i64 ((rd_T35 l0 a1).f4.f1.f1)) ∧ w'.cell? ⟨(ad123.add ((a1).toNat * 15)).block, (ad123.add ((a1).toNat * 15)).off + 11, none⟩ = some (.int .i64 ((rd_T35 l0 a1).f4.f2.f0)) ∧ w'.cell? ⟨(ad123.add ((a1).toNat * 15)).block, (ad123.add ((a1).toNat * 15)).off + 12, none⟩ = some (.int .i64 ((rd_T35 l0 a1).f4.f2.f1.f0)) ∧ w'.cell? ⟨(ad123.add ((a1).toNat * 15)).block, (ad123.add ((a1).toNat * 15)).off + 13, none⟩ = some (.int .i64 ((rd_T35 l0 a1).f4.f2.f1.f1)) ∧ w'.cell? ⟨(ad123.add ((a1).toNat * 15)).block, (ad123.add ((a1).toNat * 15)).off + 14, none⟩ = some (.float .f64 ((rd_T35 l0 a1).f4.f2.f2))) (ds := []) #[F_, F_, F_, F_, F_, F_, F_, F_, F_, F_, F_, F_, F_, F_] (by kernel_rfl) rfl rfl ⟨(hb_ HB hw123_0), (hb_ HB hw123_1), (hb_ HB hw123_2), (hb_ HB hw123_3), (hb_ HB hw123_4), (hb_ HB hw123_5), (hb_ HB hw123_6), (hb_ HB hw123_7), (hb_ HB hw123_8), (hb_ HB hw123_9), (hb_ HB hw123_10), (hb_ HB hw123_11), (hb_ HB hw123_12), (hb_ HB hw123_13), (hb_ HB hw123_14), (hb_ HB hw124_0), (hb_ HB hw124_1), (hb_ HB hw124_2), (hb_ HB hw124_3), (hb_ HB hw124_4), (hb_ HB hw124_5), (hb_ HB hw124_6), (hb_ HB hw124_7), (hb_ HB hw124_8), (hb_ HB hw124_9), (hb_ HB hw124_10), (hb_ HB hw124_11), (hb_ HB hw124_12), (hb_ HB hw124_13), (hb_ HB hw124_14)⟩ (fun hHeld => ?_); refine with_tabW past_alone.tab1 past_alone.bits1 (fun HT_ HW_ => ?_)
  generalize w.drew = w10 at HB hx123_0 hx123_1 hx123_10 hx123_11 hx123_12 hx123_13 hx123_14 hx123_2 hx123_3 hx123_4 hx123_5 hx123_6 hx123_7 hx123_8 hx123_9 hx124_0 hx124_1 hx124_10 hx124_11 hx124_12 hx124_13 hx124_14 hx124_2 hx124_3 hx124_4 hx124_5 hx124_6 hx124_7 hx124_8 hx124_9 hHeld ⊢
  refine pure_ (i := 0) (N := some 7) (v := ?_) (a' := ?_) #[T_, F_, F_, F_, F_, F_, F_, F_, F_, F_, F_, F_, F_, F_] rfl rfl (any_of HT_.out (by kernel_rfl)) (fun _ _ _ h => h) (Or.inl ⟨by rfl, ?_⟩) ?_ ?_
  rotate_left
  · intro w'
    go_simp
    with_reducible rfl
  rotate_left
  · simp only [Act.put, zS, zZ, zC, i64_w, i32_w]
    rfl
  refine pure_ (i := 1) (N := some 8) (v := ?_) (a' := ?_) #[T_, T_, F_, F_, F_, F_, F_, F_, F_, F_, F_, F_, F_, F_] rfl rfl (any_of HT_.out (by kernel_rfl)) (fun _ _ _ h => h) (Or.inl ⟨by rfl, ?_⟩) ?_ ?_
  rotate_left
  · intro w'
    go_simp
    with_reducible rfl
  rotate_left
  · simp only [Act.put, zS, zZ, zC, i64_w, i32_w]
    rfl
  refine pure_ (i := 2) (N := some 9) (v := ?_) (a' := ?_) #[T_, T_, T_, F_, F_, F_, F_, F_, F_, F_, F_, F_, F_, F_] rfl rfl (any_of HT_.out (by kernel_rfl)) (fun _ _ _ h => h) (Or.inl ⟨by rfl, ?_⟩) ?_ ?_
  rotate_left
  · intro w'
    go_simp
    with_reducible rfl
  rotate_left
  · simp only [Act.put, zS, zZ, zC, i64_w, i32_w]
    rfl
  refine pure_ (i := 4) (N := some 11) (v := ?_) (a' := ?_) #[T_, T_, T_, F_, T_, F_, F_, F_, F_, F_, F_, F_, F_, F_] rfl rfl (any_of HT_.out (by kernel_rfl)) (fun _ _ _ h => h) (Or.inl ⟨by rfl, ?_⟩) ?_ ?_
  rotate_left
  · intro w'
    go_simp
    with_reducible rfl
  rotate_left
  · simp only [Act.put, zS, zZ, zC, i64_w, i32_w]
    rfl
  refine pure_ (i := 5) (N := some 12) (v := ?_) (a' := ?_) #[T_, T_, T_, F_, T_, T_, F_, F_, F_, F_, F_, F_, F_, F_] rfl rfl (any_of HT_.out (by kernel_rfl)) (fun _ _ _ h => h) (Or.inl ⟨by rfl, ?_⟩) ?_ ?_
  rotate_left
  · intro w'
    go_simp
    with_reducible rfl
  rotate_left
  · simp only [Act.put, zS, zZ, zC, i64_w, i32_w]
    rfl
  refine pure_ (i := 6) (N := some 13) (v := ?_) (a' := ?_) #[T_, T_, T_, F_, T_, T_, T_, F_, F_, F_, F_, F_, F_, F_] rfl rfl (any_of HT_.out (by kernel_rfl)) (fun _ _ _ h => h) (Or.inl ⟨by rfl, ?_⟩) ?_ ?_
  rotate_left
  · intro w'
    go_simp
    with_reducible rfl
  rotate_left
  · simp only [Act.put, zS, zZ, zC, i64_w, i32_w]
    rfl
  refine pure_ (i := 7) (N := some 14) (v := ?_) (a' := ?_) #[T_, T_, T_, F_, T_, T_, T_, T_, F_, F_, F_, F_, F_, F_] rfl rfl (any_of HT_.out (by kernel_rfl)) (fun _ _ _ h => h) (Or.inl ⟨by rfl, ?_⟩) ?_ ?_
  rotate_left
  · intro w'
    go_simp
    with_reducible rfl
  rotate_left
  · simp only [Act.put, zS, zZ, zC, i64_w, i32_w]
    rfl
  refine pure_ (i := 8) (N := some 15) (v := ?_) (a' := ?_) #[T_, T_, T_, F_, T_, T_, T_, T_, T_, F_, F_, F_, F_, F_] rfl rfl (any_of HT_.out (by kernel_rfl)) (fun _ _ _ h => h) (Or.inl ⟨by rfl, ?_⟩) ?_ ?_
  rotate_left
  · intro w'
    go_simp
    with_reducible rfl
  rotate_left
  · simp only [Act.put, zS, zZ, zC, i64_w, i32_w]
    rfl
  refine take_ (i := 3) (N := some 10) (v := ?_) (a' := ?_) #[T_, T_, T_, T_, T_, T_, T_, T_, T_, F_, F_, F_, F_, F_] rfl rfl (take_ofW HT_.out HW_.out (by kernel_rfl)) (fun _ _ _ h => h) (Or.inl ⟨by rfl, ?_⟩) hHeld ?_ ?_
  rotate_left
  · rintro w' ⟨s0, s1, s2, s3, s4, s5, s6, s7, s8, s9, s10, s11, s12, s13, s14, s15, s16, s17, s18, s19, s20, s21, s22, s23, s24, s25, s26, s27, s28, s29⟩
    first | exact xl15_ rfl rfl Try.underlying35 rfl (by kernel_rfl) | (go_simp; with_reducible rfl)
  rotate_left
  · simp only [Act.put, zS, zZ, zC, i64_w, i32_w]
    rfl
  refine take_ (i := 9) (N := some 16) (v := ?_) (a' := ?_) #[T_, T_, T_, T_, T_, T_, T_, T_, T_, T_, F_, F_, F_, F_] rfl rfl (take_ofW HT_.out HW_.out (by kernel_rfl)) (fun _ _ _ h => h) (Or.inl ⟨by rfl, ?_⟩) hHeld ?_ ?_
  rotate_left
  · rintro w' ⟨s0, s1, s2, s3, s4, s5, s6, s7, s8, s9, s10, s11, s12, s13, s14, s15, s16, s17, s18, s19, s20, s21, s22, s23, s24, s25, s26, s27, s28, s29⟩
    go_simp
    with_reducible rfl
  rotate_left
  · simp only [Act.put, zS, zZ, zC, i64_w, i32_w]
    rfl
  refine join_ (σ := Nat × Nat) 2 #[T_, T_, T_, T_, T_, T_, T_, T_, T_, T_, T_, T_, F_, F_] (fun s_ => [(5, .pointer (some ⟨s_.1, 0, none⟩)), (6, .pointer (some ⟨s_.2, 0, none⟩))]) (fun s_ w' => (w'.cell? (ad123.add ((a1).toNat * 15)) = some (.int .i64 ((rd_T35 l0 a1).f0)) ∧ w'.cell? ⟨(ad123.add ((a1).toNat * 15)).block, (ad123.add ((a1).toNat * 15)).off + 1, none⟩ = some (.int .i64 ((rd_T35 l0 a1).f1)) ∧ w'.cell? ⟨(ad123.add ((a1).toNat * 15)).block, (ad123.add ((a1).toNat * 15)).off + 2, none⟩ = some (.int .i64 ((rd_T35 l0 a1).f2)) ∧ w'.cell? ⟨(ad123.add ((a1).toNat * 15)).block, (ad123.add ((a1).toNat * 15)).off + 3, none⟩ = some (.int .i64 ((rd_T35 l0 a1).f3.f0)) ∧ w'.cell? ⟨(ad123.add ((a1).toNat * 15)).block, (ad123.add ((a1).toNat * 15)).off + 4, none⟩ = some (.int .i64 ((rd_T35 l0 a1).f3.f1)) ∧ w'.cell? ⟨(ad123.add ((a1).toNat * 15)).block, (ad123.add ((a1).toNat * 15)).off + 5, none⟩ = some (.float .f64 ((rd_T35 l0 a1).f3.f2)) ∧ w'.cell? ⟨(ad123.add ((a1).toNat * 15)).block, (ad123.add ((a1).toNat * 15)).off + 6, none⟩ = some (.int .i64 ((rd_T35 l0 a1).f3.f3.f0)) ∧ w'.cell? ⟨(ad123.add ((a1).toNat * 15)).block, (ad123.add ((a1).toNat * 15)).off + 7, none⟩ = some (.int .i64 ((rd_T35 l0 a1).f3.f3.f1)) ∧ w'.cell? ⟨(ad123.add ((a1).toNat * 15)).block, (ad123.add ((a1).toNat * 15)).off + 8, none⟩ = some (.int .i64 ((rd_T35 l0 a1).f4.f0)) ∧ w'.cell? ⟨(ad123.add ((a1).toNat * 15)).block, (ad123.add ((a1).toNat * 15)).off + 9, none⟩ = some (.int .i64 ((rd_T35 l0 a1).f4.f1.f0)) ∧ w'.cell? ⟨(ad123.add ((a1).toNat * 15)).block, (ad123.add ((a1).toNat * 15)).off + 10, none⟩ = some (.int .i64 ((rd_T35 l0 a1).f4.f1.f1)) ∧ w'.cell? ⟨(ad123.add ((a1).toNat * 15)).block, (ad123.add ((a1).toNat * 15)).off + 11, none⟩ = some (.int .i64 ((rd_T35 l0 a1).f4.f2.f0)) ∧ w'.cell? ⟨(ad123.add ((a1).toNat * 15)).block, (ad123.add ((a1).toNat * 15)).off + 12, none⟩ = some (.int .i64 ((rd_T35 l0 a1).f4.f2.f1.f0)) ∧ w'.cell? ⟨(ad123.add ((a1).toNat * 15)).block, (ad123.add ((a1).toNat * 15)).off + 13, none⟩ = some (.int .i64 ((rd_T35 l0 a1).f4.f2.f1.f1)) ∧ w'.cell? ⟨(ad123.add ((a1).toNat * 15)).block, (ad123.add ((a1).toNat * 15)).off + 14, none⟩ = some (.float .f64 ((rd_T35 l0 a1).f4.f2.f2)) ∧ w'.cell? (ad123.add ((a1).toNat * 15)) = some (.int .i64 ((rd_T35 l0 a1).f0)) ∧ w'.cell? ⟨(ad123.add ((a1).toNat * 15)).block, (ad123.add ((a1).toNat * 15)).off + 1, none⟩ = some (.int .i64 ((rd_T35 l0 a1).f1)) ∧ w'.cell? ⟨(ad123.add ((a1).toNat * 15)).block, (ad123.add ((a1).toNat * 15)).off + 2, none⟩ = some (.int .i64 ((rd_T35 l0 a1).f2)) ∧ w'.cell? ⟨(ad123.add ((a1).toNat * 15)).block, (ad123.add ((a1).toNat * 15)).off + 3, none⟩ = some (.int .i64 ((rd_T35 l0 a1).f3.f0)) ∧ w'.cell? ⟨(ad123.add ((a1).toNat * 15)).block, (ad123.add ((a1).toNat * 15)).off + 4, none⟩ = some (.int .i64 ((rd_T35 l0 a1).f3.f1)) ∧ w'.cell? ⟨(ad123.add ((a1).toNat * 15)).block, (ad123.add ((a1).toNat * 15)).off + 5, none⟩ = some (.float .f64 ((rd_T35 l0 a1).f3.f2)) ∧ w'.cell? ⟨(ad123.add ((a1).toNat * 15)).block, (ad123.add ((a1).toNat * 15)).off + 6, none⟩ = some (.int .i64 ((rd_T35 l0 a1).f3.f3.f0)) ∧ w'.cell? ⟨(ad123.add ((a1).toNat * 15)).block, (ad123.add ((a1).toNat * 15)).off + 7, none⟩ = some (.int .i64 ((rd_T35 l0 a1).f3.f3.f1)) ∧ w'.cell? ⟨(ad123.add ((a1).toNat * 15)).block, (ad123.add ((a1).toNat * 15)).off + 8, none⟩ = some (.int .i64 ((rd_T35 l0 a1).f4.f0)) ∧ w'.cell? ⟨(ad123.add ((a1).toNat * 15)).block, (ad123.add ((a1).toNat * 15)).off + 9, none⟩ = some (.int .i64 ((rd_T35 l0 a1).f4.f1.f0)) ∧ w'.cell? ⟨(ad123.add ((a1).toNat * 15)).block, (ad123.add ((a1).toNat * 15)).off + 10, none⟩ = some (.int .i64 ((rd_T35 l0 a1).f4.f1.f1)) ∧ w'.cell? ⟨(ad123.add ((a1).toNat * 15)).block, (ad123.add ((a1).toNat * 15)).off + 11, none⟩ = some (.int .i64 ((rd_T35 l0 a1).f4.f2.f0)) ∧ w'.cell? ⟨(ad123.add ((a1).toNat * 15)).block, (ad123.add ((a1).toNat * 15)).off + 12, none⟩ = some (.int .i64 ((rd_T35 l0 a1).f4.f2.f1.f0)) ∧ w'.cell? ⟨(ad123.add ((a1).toNat * 15)).block, (ad123.add ((a1).toNat * 15)).off + 13, none⟩ = some (.int .i64 ((rd_T35 l0 a1).f4.f2.f1.f1)) ∧ w'.cell? ⟨(ad123.add ((a1).toNat * 15)).block, (ad123.add ((a1).toNat * 15)).off + 14, none⟩ = some (.float .f64 ((rd_T35 l0 a1).f4.f2.f2))) ∧ (w'.heap[s_.1]? = some (.cells #[.int .i64 0, .int .i64 0, .int .i64 0, .int .i64 0, .int .i64 0, .float .f64 0, .int .i64 0, .int .i64 0, .int .i64 0, .int .i64 0, .int .i64 0, .int .i64 0, .int .i64 0, .int .i64 0, .float .f64 0] 35 (0, 0))) ∧ (w'.heap[s_.2]? = some (.cells #[.int .i64 0, .int .i64 0, .int .i64 0, .float .f64 0] 31 (0, 0))) ∧ (w.heap.size ≤ s_.1) ∧ (w.heap.size ≤ s_.1) ∧ (s_.2 ≠ s_.1) ∧ (s_.1 ≠ s_.2) ∧ (w.heap.size ≤ s_.2) ∧ (w.heap.size ≤ s_.2) ∧ (Below w.heap.size w w')) ?_ ?_
  rotate_left
  · intro hCont
    refine two_ (i := 10) (j := 11) (Ni := some 5) (Nj := some 6) #[T_, T_, T_, T_, T_, T_, T_, T_, T_, T_, T_, F_, F_, F_] #[T_, T_, T_, T_, T_, T_, T_, T_, T_, T_, F_, T_, F_, F_] rfl rfl rfl rfl (two_of HT_.out (by kernel_rfl)) (by decide) (by decide) (fun K hK => ?_) (fun K hK => ?_)
    rotate_left
    · skip
      refine box_step ?hg (N := 6) ?hd (cs := #[.int .i64 0, .int .i64 0, .int .i64 0, .float .f64 0]) (t := 31) ?hr ?_; (case hd => rfl); (case hg => rfl); (case hr => first | (go_simp; done) | (go_simp; rfl))
      intro gb126 hg w11 hbox hb
      have BK126 := zM (hbox)
      have GW126 := zM (bs_ hg)
      have GE126 := zM (bs_ hg)
      replace HB := zM (zB bel_ hb)
      clear hb hbox hg
      refine hK.out _ _ ⟨(hb_ HB hw123_0), (hb_ HB hw123_1), (hb_ HB hw123_2), (hb_ HB hw123_3), (hb_ HB hw123_4), (hb_ HB hw123_5), (hb_ HB hw123_6), (hb_ HB hw123_7), (hb_ HB hw123_8), (hb_ HB hw123_9), (hb_ HB hw123_10), (hb_ HB hw123_11), (hb_ HB hw123_12), (hb_ HB hw123_13), (hb_ HB hw123_14), (hb_ HB hw124_0), (hb_ HB hw124_1), (hb_ HB hw124_2), (hb_ HB hw124_3), (hb_ HB hw124_4), (hb_ HB hw124_5), (hb_ HB hw124_6), (hb_ HB hw124_7), (hb_ HB hw124_8), (hb_ HB hw124_9), (hb_ HB hw124_10), (hb_ HB hw124_11), (hb_ HB hw124_12), (hb_ HB hw124_13), (hb_ HB hw124_14)⟩ (fun hHeld => ?_)
      clear hK K
      refine norm_ (a' := ?_) ?_ ?_
      rotate_left
      · show Act.put _ (some 6) _ = _
        simp only [Act.put, zS, zZ, zC, i64_w, i32_w]
        rfl
      refine one_ (i := 10) (N := some 5) #[T_, T_, T_, T_, T_, T_, T_, T_, T_, T_, T_, T_, F_, F_] rfl rfl (one_of HT_.out (by kernel_rfl)) (by decide) (fun K hK => ?_)
      refine box_step ?hg (N := 5) ?hd (cs := #[.int .i64 0, .int .i64 0, .int .i64 0, .int .i64 0, .int .i64 0, .float .f64 0, .int .i64 0, .int .i64 0, .int .i64 0, .int .i64 0, .int .i64 0, .int .i64 0, .int .i64 0, .int .i64 0, .float .f64 0]) (t := 35) ?hr ?_; (case hd => rfl); (case hg => rfl); (case hr => first | (go_simp; done) | (go_simp; rfl))
      intro gb125 hg w12 hbox hb
      have BK125 := zM (hbox)
      have GW125 := zM (bs_ hg)
      have GE125 := zM (bs_ hg)
      replace HB := zM (zB bel_ hb)
      have NB126_125 := zM (nl_ BK126 hg)
      have NB125_126 := zM (ng_ BK126 hg)
      replace BK126 := zM (bb_ BK126 hb)
      clear hb hbox hg
      refine hK.out _ _ ⟨(hb_ HB hw123_0), (hb_ HB hw123_1), (hb_ HB hw123_2), (hb_ HB hw123_3), (hb_ HB hw123_4), (hb_ HB hw123_5), (hb_ HB hw123_6), (hb_ HB hw123_7), (hb_ HB hw123_8), (hb_ HB hw123_9), (hb_ HB hw123_10), (hb_ HB hw123_11), (hb_ HB hw123_12), (hb_ HB hw123_13), (hb_ HB hw123_14), (hb_ HB hw124_0), (hb_ HB hw124_1), (hb_ HB hw124_2), (hb_ HB hw124_3), (hb_ HB hw124_4), (hb_ HB hw124_5), (hb_ HB hw124_6), (hb_ HB hw124_7), (hb_ HB hw124_8), (hb_ HB hw124_9), (hb_ HB hw124_10), (hb_ HB hw124_11), (hb_ HB hw124_12), (hb_ HB hw124_13), (hb_ HB hw124_14)⟩ (fun hHeld => ?_)
      clear hK K
      refine norm_ (a' := ?_) ?_ ?_
      rotate_left
      · show Act.put _ (some 5) _ = _
        simp only [Act.put, zS, zZ, zC, i64_w, i32_w]
        rfl
      exact norm_ (by simp only [putAll, Act.put, zS, zZ, zC]) (hCont (gb125, gb126) _ ⟨hHeld, blk_, blk_, GW125.out, GE125.out, NB126_125.out, NB125_126.out, GW126.out, GE126.out, bel_⟩)
    skip
    refine box_step ?hg (N := 5) ?hd (cs := #[.int .i64 0, .int .i64 0, .int .i64 0, .int .i64 0, .int .i64 0, .float .f64 0, .int .i64 0, .int .i64 0, .int .i64 0, .int .i64 0, .int .i64 0, .int .i64 0, .int .i64 0, .int .i64 0, .float .f64 0]) (t := 35) ?hr ?_; (case hd => rfl); (case hg => rfl); (case hr => first | (go_simp; done) | (go_simp; rfl))
    intro gb125 hg w11 hbox hb
    have BK125 := zM (hbox)
    have GW125 := zM (bs_ hg)
    have GE125 := zM (bs_ hg)
    replace HB := zM (zB bel_ hb)
    clear hb hbox hg
    refine hK.out _ _ ⟨(hb_ HB hw123_0), (hb_ HB hw123_1), (hb_ HB hw123_2), (hb_ HB hw123_3), (hb_ HB hw123_4), (hb_ HB hw123_5), (hb_ HB hw123_6), (hb_ HB hw123_7), (hb_ HB hw123_8), (hb_ HB hw123_9), (hb_ HB hw123_10), (hb_ HB hw123_11), (hb_ HB hw123_12), (hb_ HB hw123_13), (hb_ HB hw123_14), (hb_ HB hw124_0), (hb_ HB hw124_1), (hb_ HB hw124_2), (hb_ HB hw124_3), (hb_ HB hw124_4), (hb_ HB hw124_5), (hb_ HB hw124_6), (hb_ HB hw124_7), (hb_ HB hw124_8), (hb_ HB hw124_9), (hb_ HB hw124_10), (hb_ HB hw124_11), (hb_ HB hw124_12), (hb_ HB hw124_13), (hb_ HB hw124_14)⟩ (fun hHeld => ?_)
    clear hK K
    refine norm_ (a' := ?_) ?_ ?_
    rotate_left
    · show Act.put _ (some 5) _ = _
      simp only [Act.put, zS, zZ, zC, i64_w, i32_w]
      rfl
    refine one_ (i := 11) (N := some 6) #[T_, T_, T_, T_, T_, T_, T_, T_, T_, T_, T_, T_, F_, F_] rfl rfl (one_of HT_.out (by kernel_rfl)) (by decide) (fun K hK => ?_)
    refine box_step ?hg (N := 6) ?hd (cs := #[.int .i64 0, .int .i64 0, .int .i64 0, .float .f64 0]) (t := 31) ?hr ?_; (case hd => rfl); (case hg => rfl); (case hr => first | (go_simp; done) | (go_simp; rfl))
    intro gb126 hg w12 hbox hb
    have BK126 := zM (hbox)
    have GW126 := zM (bs_ hg)
    have GE126 := zM (bs_ hg)
    replace HB := zM (zB bel_ hb)
    have NB125_126 := zM (nl_ BK125 hg)
    have NB126_125 := zM (ng_ BK125 hg)
    replace BK125 := zM (bb_ BK125 hb)
    clear hb hbox hg
    refine hK.out _ _ ⟨(hb_ HB hw123_0), (hb_ HB hw123_1), (hb_ HB hw123_2), (hb_ HB hw123_3), (hb_ HB hw123_4), (hb_ HB hw123_5), (hb_ HB hw123_6), (hb_ HB hw123_7), (hb_ HB hw123_8), (hb_ HB hw123_9), (hb_ HB hw123_10), (hb_ HB hw123_11), (hb_ HB hw123_12), (hb_ HB hw123_13), (hb_ HB hw123_14), (hb_ HB hw124_0), (hb_ HB hw124_1), (hb_ HB hw124_2), (hb_ HB hw124_3), (hb_ HB hw124_4), (hb_ HB hw124_5), (hb_ HB hw124_6), (hb_ HB hw124_7), (hb_ HB hw124_8), (hb_ HB hw124_9), (hb_ HB hw124_10), (hb_ HB hw124_11), (hb_ HB hw124_12), (hb_ HB hw124_13), (hb_ HB hw124_14)⟩ (fun hHeld => ?_)
    clear hK K
    refine norm_ (a' := ?_) ?_ ?_
    rotate_left
    · show Act.put _ (some 6) _ = _
      simp only [Act.put, zS, zZ, zC, i64_w, i32_w]
      rfl
    exact norm_ (by simp only [putAll, Act.put, zS, zZ, zC]) (hCont (gb125, gb126) _ ⟨hHeld, blk_, blk_, GW125.out, GE125.out, NB126_125.out, NB125_126.out, GW126.out, GE126.out, bel_⟩)
  rintro ⟨gb125, gb126⟩ w13 ⟨hS_, h0_, h1_, h2_, h3_, h4_, h5_, h6_, h7_, h8_⟩
  have BK125 : Aside0 (w13.heap[gb125]? = some (.cells #[.int .i64 0, .int .i64 0, .int .i64 0, .int .i64 0, .int .i64 0, .float .f64 0, .int .i64 0, .int .i64 0, .int .i64 0, .int .i64 0, .int .i64 0, .int .i64 0, .int .i64 0, .int .i64 0, .float .f64 0] 35 (0, 0))) := ⟨h0_⟩
  have BK126 : Aside0 (w13.heap[gb126]? = some (.cells #[.int .i64 0, .int .i64 0, .int .i64 0, .float .f64 0] 31 (0, 0))) := ⟨h1_⟩
  have GW125 : Aside0 (w.heap.size ≤ gb125) := ⟨h2_⟩
  have GE125 : Aside0 (w.heap.size ≤ gb125) := ⟨h3_⟩
  have NB126_125 : Aside0 (gb126 ≠ gb125) := ⟨h4_⟩
  have NB125_126 : Aside0 (gb125 ≠ gb126) := ⟨h5_⟩
  have GW126 : Aside0 (w.heap.size ≤ gb126) := ⟨h6_⟩
  have GE126 : Aside0 (w.heap.size ≤ gb126) := ⟨h7_⟩
  replace HB : Aside0 (Below w.heap.size w w13) := ⟨h8_⟩
  clear h0_ h1_ h2_ h3_ h4_ h5_ h6_ h7_ h8_
  have hHeld : w13.cell? (ad123.add ((a1).toNat * 15)) = some (.int .i64 ((rd_T35 l0 a1).f0)) ∧ w13.cell? ⟨(ad123.add ((a1).toNat * 15)).block, (ad123.add ((a1).toNat * 15)).off + 1, none⟩ = some (.int .i64 ((rd_T35 l0 a1).f1)) ∧ w13.cell? ⟨(ad123.add ((a1).toNat * 15)).block, (ad123.add ((a1).toNat * 15)).off + 2, none⟩ = some (.int .i64 ((rd_T35 l0 a1).f2)) ∧ w13.cell? ⟨(ad123.add ((a1).toNat * 15)).block, (ad123.add ((a1).toNat * 15)).off + 3, none⟩ = some (.int .i64 ((rd_T35 l0 a1).f3.f0)) ∧ w13.cell? ⟨(ad123.add ((a1).toNat * 15)).block, (ad123.add ((a1).toNat * 15)).off + 4, none⟩ = some (.int .i64 ((rd_T35 l0 a1).f3.f1)) ∧ w13.cell? ⟨(ad123.add ((a1).toNat * 15)).block, (ad123.add ((a1).toNat * 15)).off + 5, none⟩ = some (.float .f64 ((rd_T35 l0 a1).f3.f2)) ∧ w13.cell? ⟨(ad123.add ((a1).toNat * 15)).block, (ad123.add ((a1).toNat * 15)).off + 6, none⟩ = some (.int .i64 ((rd_T35 l0 a1).f3.f3.f0)) ∧ w13.cell? ⟨(ad123.add ((a1).toNat * 15)).block, (ad123.add ((a1).toNat * 15)).off + 7, none⟩ = some (.int .i64 ((rd_T35 l0 a1).f3.f3.f1)) ∧ w13.cell? ⟨(ad123.add ((a1).toNat * 15)).block, (ad123.add ((a1).toNat * 15)).off + 8, none⟩ = some (.int .i64 ((rd_T35 l0 a1).f4.f0)) ∧ w13.cell? ⟨(ad123.add ((a1).toNat * 15)).block, (ad123.add ((a1).toNat * 15)).off + 9, none⟩ = some (.int .i64 ((rd_T35 l0 a1).f4.f1.f0)) ∧ w13.cell? ⟨(ad123.add ((a1).toNat * 15)).block, (ad123.add ((a1).toNat * 15)).off + 10, none⟩ = some (.int .i64 ((rd_T35 l0 a1).f4.f1.f1)) ∧ w13.cell? ⟨(ad123.add ((a1).toNat * 15)).block, (ad123.add ((a1).toNat * 15)).off + 11, none⟩ = some (.int .i64 ((rd_T35 l0 a1).f4.f2.f0)) ∧ w13.cell? ⟨(ad123.add ((a1).toNat * 15)).block, (ad123.add ((a1).toNat * 15)).off + 12, none⟩ = some (.int .i64 ((rd_T35 l0 a1).f4.f2.f1.f0)) ∧ w13.cell? ⟨(ad123.add ((a1).toNat * 15)).block, (ad123.add ((a1).toNat * 15)).off + 13, none⟩ = some (.int .i64 ((rd_T35 l0 a1).f4.f2.f1.f1)) ∧ w13.cell? ⟨(ad123.add ((a1).toNat * 15)).block, (ad123.add ((a1).toNat * 15)).off + 14, none⟩ = some (.float .f64 ((rd_T35 l0 a1).f4.f2.f2)) ∧ w13.cell? (ad123.add ((a1).toNat * 15)) = some (.int .i64 ((rd_T35 l0 a1).f0)) ∧ w13.cell? ⟨(ad123.add ((a1).toNat * 15)).block, (ad123.add ((a1).toNat * 15)).off + 1, none⟩ = some (.int .i64 ((rd_T35 l0 a1).f1)) ∧ w13.cell? ⟨(ad123.add ((a1).toNat * 15)).block, (ad123.add ((a1).toNat * 15)).off + 2, none⟩ = some (.int .i64 ((rd_T35 l0 a1).f2)) ∧ w13.cell? ⟨(ad123.add ((a1).toNat * 15)).block, (ad123.add ((a1).toNat * 15)).off + 3, none⟩ = some (.int .i64 ((rd_T35 l0 a1).f3.f0)) ∧ w13.cell? ⟨(ad123.add ((a1).toNat * 15)).block, (ad123.add ((a1).toNat * 15)).off + 4, none⟩ = some (.int .i64 ((rd_T35 l0 a1).f3.f1)) ∧ w13.cell? ⟨(ad123.add ((a1).toNat * 15)).block, (ad123.add ((a1).toNat * 15)).off + 5, none⟩ = some (.float .f64 ((rd_T35 l0 a1).f3.f2)) ∧ w13.cell? ⟨(ad123.add ((a1).toNat * 15)).block, (ad123.add ((a1).toNat * 15)).off + 6, none⟩ = some (.int .i64 ((rd_T35 l0 a1).f3.f3.f0)) ∧ w13.cell? ⟨(ad123.add ((a1).toNat * 15)).block, (ad123.add ((a1).toNat * 15)).off + 7, none⟩ = some (.int .i64 ((rd_T35 l0 a1).f3.f3.f1)) ∧ w13.cell? ⟨(ad123.add ((a1).toNat * 15)).block, (ad123.add ((a1).toNat * 15)).off + 8, none⟩ = some (.int .i64 ((rd_T35 l0 a1).f4.f0)) ∧ w13.cell? ⟨(ad123.add ((a1).toNat * 15)).block, (ad123.add ((a1).toNat * 15)).off + 9, none⟩ = some (.int .i64 ((rd_T35 l0 a1).f4.f1.f0)) ∧ w13.cell? ⟨(ad123.add ((a1).toNat * 15)).block, (ad123.add ((a1).toNat * 15)).off + 10, none⟩ = some (.int .i64 ((rd_T35 l0 a1).f4.f1.f1)) ∧ w13.cell? ⟨(ad123.add ((a1).toNat * 15)).block, (ad123.add ((a1).toNat * 15)).off + 11, none⟩ = some (.int .i64 ((rd_T35 l0 a1).f4.f2.f0)) ∧ w13.cell? ⟨(ad123.add ((a1).toNat * 15)).block, (ad123.add ((a1).toNat * 15)).off + 12, none⟩ = some (.int .i64 ((rd_T35 l0 a1).f4.f2.f1.f0)) ∧ w13.cell? ⟨(ad123.add ((a1).toNat * 15)).block, (ad123.add ((a1).toNat * 15)).off + 13, none⟩ = some (.int .i64 ((rd_T35 l0 a1).f4.f2.f1.f1)) ∧ w13.cell? ⟨(ad123.add ((a1).toNat * 15)).block, (ad123.add ((a1).toNat * 15)).off + 14, none⟩ = some (.float .f64 ((rd_T35 l0 a1).f4.f2.f2)) := hS_
  refine norm_ (a' := ?_) ?_ ?_
  rotate_left
  · simp only [putAll, Act.put, zS, zZ, zC]
    rfl
  refine one_ (i := 12) (N := none) #[T_, T_, T_, T_, T_, T_, T_, T_, T_, T_, T_, T_, T_, F_] rfl rfl (one_of HT_.out (by kernel_rfl)) (by decide) (fun K hK => ?_)
  have hs14 : w13.cell? ⟨gb125, 0, none⟩ = some (.int .i64 0) := (zL BK125.out 0).trans rfl
  have hfs14 := zF BK125.out 0
  have hns14_1 := NB126_125.out
  have hms14_1 := NB125_126.out
  have hs15 : w13.cell? ⟨gb125, 1, none⟩ = some (.int .i64 0) := (zL BK125.out 1).trans rfl
  have hfs15 := zF BK125.out 1
  have hns15_1 := NB126_125.out
  have hms15_1 := NB125_126.out
  have hs16 : w13.cell? ⟨gb125, 2, none⟩ = some (.int .i64 0) := (zL BK125.out 2).trans rfl
  have hfs16 := zF BK125.out 2
  have hns16_1 := NB126_125.out
  have hms16_1 := NB125_126.out
  have hs17 : w13.cell? ⟨gb125, 3, none⟩ = some (.int .i64 0) := (zL BK125.out 3).trans rfl
  have hfs17 := zF BK125.out 3
  have hns17_1 := NB126_125.out
  have hms17_1 := NB125_126.out
  have hs18 : w13.cell? ⟨gb125, 4, none⟩ = some (.int .i64 0) := (zL BK125.out 4).trans rfl
  have hfs18 := zF BK125.out 4
  have hns18_1 := NB126_125.out
  have hms18_1 := NB125_126.out
  have hs19 : w13.cell? ⟨gb125, 5, none⟩ = some (.float .f64 0) := (zL BK125.out 5).trans rfl
  have hfs19 := zF BK125.out 5
  have hns19_1 := NB126_125.out
  have hms19_1 := NB125_126.out
  have hs20 : w13.cell? ⟨gb125, 6, none⟩ = some (.int .i64 0) := (zL BK125.out 6).trans rfl
  have hfs20 := zF BK125.out 6
  have hns20_1 := NB126_125.out
  have hms20_1 := NB125_126.out
  have hs21 : w13.cell? ⟨gb125, 7, none⟩ = some (.int .i64 0) := (zL BK125.out 7).trans rfl
  have hfs21 := zF BK125.out 7
  have hns21_1 := NB126_125.out
  have hms21_1 := NB125_126.out
  have hs22 : w13.cell? ⟨gb125, 8, none⟩ = some (.int .i64 0) := (zL BK125.out 8).trans rfl
  have hfs22 := zF BK125.out 8
  have hns22_1 := NB126_125.out
  have hms22_1 := NB125_126.out
  have hs23 : w13.cell? ⟨gb125, 9, none⟩ = some (.int .i64 0) := (zL BK125.out 9).trans rfl
  have hfs23 := zF BK125.out 9
  have hns23_1 := NB126_125.out
  have hms23_1 := NB125_126.out
  have hs24 : w13.cell? ⟨gb125, 10, none⟩ = some (.int .i64 0) := (zL BK125.out 10).trans rfl
  have hfs24 := zF BK125.out 10
  have hns24_1 := NB126_125.out
  have hms24_1 := NB125_126.out
  have hs25 : w13.cell? ⟨gb125, 11, none⟩ = some (.int .i64 0) := (zL BK125.out 11).trans rfl
  have hfs25 := zF BK125.out 11
  have hns25_1 := NB126_125.out
  have hms25_1 := NB125_126.out
  have hs26 : w13.cell? ⟨gb125, 12, none⟩ = some (.int .i64 0) := (zL BK125.out 12).trans rfl
  have hfs26 := zF BK125.out 12
  have hns26_1 := NB126_125.out
  have hms26_1 := NB125_126.out
  have hs27 : w13.cell? ⟨gb125, 13, none⟩ = some (.int .i64 0) := (zL BK125.out 13).trans rfl
  have hfs27 := zF BK125.out 13
  have hns27_1 := NB126_125.out
  have hms27_1 := NB125_126.out
  have hs28 : w13.cell? ⟨gb125, 14, none⟩ = some (.float .f64 0) := (zL BK125.out 14).trans rfl
  have hfs28 := zF BK125.out 14
  have hns28_1 := NB126_125.out
  have hms28_1 := NB125_126.out
  refine skip_ (by rfl) rfl (xs15_ rfl rfl rfl (by kernel_rfl) (hb := BK125)) ?_
  refine hK.out _ _ ⟨(c15_ hw123_0 GW125 (hHeld.1)), (c15_ hw123_1 GW125 (hHeld.2.1)), (c15_ hw123_2 GW125 (hHeld.2.2.1)), (c15_ hw123_3 GW125 (hHeld.2.2.2.1)), (c15_ hw123_4 GW125 (hHeld.2.2.2.2.1)), (c15_ hw123_5 GW125 (hHeld.2.2.2.2.2.1)), (c15_ hw123_6 GW125 (hHeld.2.2.2.2.2.2.1)), (c15_ hw123_7 GW125 (hHeld.2.2.2.2.2.2.2.1)), (c15_ hw123_8 GW125 (hHeld.2.2.2.2.2.2.2.2.1)), (c15_ hw123_9 GW125 (hHeld.2.2.2.2.2.2.2.2.2.1)), (c15_ hw123_10 GW125 (hHeld.2.2.2.2.2.2.2.2.2.2.1)), (c15_ hw123_11 GW125 (hHeld.2.2.2.2.2.2.2.2.2.2.2.1)), (c15_ hw123_12 GW125 (hHeld.2.2.2.2.2.2.2.2.2.2.2.2.1)), (c15_ hw123_13 GW125 (hHeld.2.2.2.2.2.2.2.2.2.2.2.2.2.1)), (c15_ hw123_14 GW125 (hHeld.2.2.2.2.2.2.2.2.2.2.2.2.2.2.1)), (c15_ hw124_0 GW125 (hHeld.2.2.2.2.2.2.2.2.2.2.2.2.2.2.2.1)), (c15_ hw124_1 GW125 (hHeld.2.2.2.2.2.2.2.2.2.2.2.2.2.2.2.2.1)), (c15_ hw124_2 GW125 (hHeld.2.2.2.2.2.2.2.2.2.2.2.2.2.2.2.2.2.1)), (c15_ hw124_3 GW125 (hHeld.2.2.2.2.2.2.2.2.2.2.2.2.2.2.2.2.2.2.1)), (c15_ hw124_4 GW125 (hHeld.2.2.2.2.2.2.2.2.2.2.2.2.2.2.2.2.2.2.2.1)), (c15_ hw124_5 GW125 (hHeld.2.2.2.2.2.2.2.2.2.2.2.2.2.2.2.2.2.2.2.2.1)), (c15_ hw124_6 GW125 (hHeld.2.2.2.2.2.2.2.2.2.2.2.2.2.2.2.2.2.2.2.2.2.1)), (c15_ hw124_7 GW125 (hHeld.2.2.2.2.2.2.2.2.2.2.2.2.2.2.2.2.2.2.2.2.2.2.1)), (c15_ hw124_8 GW125 (hHeld.2.2.2.2.2.2.2.2.2.2.2.2.2.2.2.2.2.2.2.2.2.2.2.1)), (c15_ hw124_9 GW125 (hHeld.2.2.2.2.2.2.2.2.2.2.2.2.2.2.2.2.2.2.2.2.2.2.2.2.1)), (c15_ hw124_10 GW125 (hHeld.2.2.2.2.2.2.2.2.2.2.2.2.2.2.2.2.2.2.2.2.2.2.2.2.2.1)), (c15_ hw124_11 GW125 (hHeld.2.2.2.2.2.2.2.2.2.2.2.2.2.2.2.2.2.2.2.2.2.2.2.2.2.2.1)), (c15_ hw124_12 GW125 (hHeld.2.2.2.2.2.2.2.2.2.2.2.2.2.2.2.2.2.2.2.2.2.2.2.2.2.2.2.1)), (c15_ hw124_13 GW125 (hHeld.2.2.2.2.2.2.2.2.2.2.2.2.2.2.2.2.2.2.2.2.2.2.2.2.2.2.2.2.1)), (c15_ hw124_14 GW125 (hHeld.2.2.2.2.2.2.2.2.2.2.2.2.2.2.2.2.2.2.2.2.2.2.2.2.2.2.2.2.2))⟩ (fun hHeld => ?_)
  clear hK K
  refine one_ (i := 13) (N := none) #[T_, T_, T_, T_, T_, T_, T_, T_, T_, T_, T_, T_, T_, T_] rfl rfl (one_of HT_.out (by kernel_rfl)) (by decide) (fun K hK => ?_)
  have hs29 : w13.cell? ⟨gb126, 0, none⟩ = some (.int .i64 0) := (zL BK126.out 0).trans rfl
  have hfs29 := zF BK126.out 0
  have hns29_0 := NB125_126.out
  have hms29_0 := NB126_125.out
  have hs30 : w13.cell? ⟨gb126, 1, none⟩ = some (.int .i64 0) := (zL BK126.out 1).trans rfl
  have hfs30 := zF BK126.out 1
  have hns30_0 := NB125_126.out
  have hms30_0 := NB126_125.out
  have hs31 : w13.cell? ⟨gb126, 2, none⟩ = some (.int .i64 0) := (zL BK126.out 2).trans rfl
  have hfs31 := zF BK126.out 2
  have hns31_0 := NB125_126.out
  have hms31_0 := NB126_125.out
  have hs32 : w13.cell? ⟨gb126, 3, none⟩ = some (.float .f64 0) := (zL BK126.out 3).trans rfl
  have hfs32 := zF BK126.out 3
  have hns32_0 := NB125_126.out
  have hms32_0 := NB126_125.out
  generalize hW_ : World.setCell _ _ _ = w99_
  have B1_ : w99_.heap[gb126]? = some (.cells #[.int .i64 0, .int .i64 0, .int .i64 0, .float .f64 0] 31 (0, 0)) := by rw [← hW_]; exact bf15_ BK126.out NB126_125
  refine skip_ (by rfl) rfl (xs4_ rfl rfl rfl (by kernel_rfl) B1_) ?_
  subst hW_
  refine hK.out _ _ ⟨(c4_ hw123_0 GW126 (hHeld.1)), (c4_ hw123_1 GW126 (hHeld.2.1)), (c4_ hw123_2 GW126 (hHeld.2.2.1)), (c4_ hw123_3 GW126 (hHeld.2.2.2.1)), (c4_ hw123_4 GW126 (hHeld.2.2.2.2.1)), (c4_ hw123_5 GW126 (hHeld.2.2.2.2.2.1)), (c4_ hw123_6 GW126 (hHeld.2.2.2.2.2.2.1)), (c4_ hw123_7 GW126 (hHeld.2.2.2.2.2.2.2.1)), (c4_ hw123_8 GW126 (hHeld.2.2.2.2.2.2.2.2.1)), (c4_ hw123_9 GW126 (hHeld.2.2.2.2.2.2.2.2.2.1)), (c4_ hw123_10 GW126 (hHeld.2.2.2.2.2.2.2.2.2.2.1)), (c4_ hw123_11 GW126 (hHeld.2.2.2.2.2.2.2.2.2.2.2.1)), (c4_ hw123_12 GW126 (hHeld.2.2.2.2.2.2.2.2.2.2.2.2.1)), (c4_ hw123_13 GW126 (hHeld.2.2.2.2.2.2.2.2.2.2.2.2.2.1)), (c4_ hw123_14 GW126 (hHeld.2.2.2.2.2.2.2.2.2.2.2.2.2.2.1)), (c4_ hw124_0 GW126 (hHeld.2.2.2.2.2.2.2.2.2.2.2.2.2.2.2.1)), (c4_ hw124_1 GW126 (hHeld.2.2.2.2.2.2.2.2.2.2.2.2.2.2.2.2.1)), (c4_ hw124_2 GW126 (hHeld.2.2.2.2.2.2.2.2.2.2.2.2.2.2.2.2.2.1)), (c4_ hw124_3 GW126 (hHeld.2.2.2.2.2.2.2.2.2.2.2.2.2.2.2.2.2.2.1)), (c4_ hw124_4 GW126 (hHeld.2.2.2.2.2.2.2.2.2.2.2.2.2.2.2.2.2.2.2.1)), (c4_ hw124_5 GW126 (hHeld.2.2.2.2.2.2.2.2.2.2.2.2.2.2.2.2.2.2.2.2.1)), (c4_ hw124_6 GW126 (hHeld.2.2.2.2.2.2.2.2.2.2.2.2.2.2.2.2.2.2.2.2.2.1)), (c4_ hw124_7 GW126 (hHeld.2.2.2.2.2.2.2.2.2.2.2.2.2.2.2.2.2.2.2.2.2.2.1)), (c4_ hw124_8 GW126 (hHeld.2.2.2.2.2.2.2.2.2.2.2.2.2.2.2.2.2.2.2.2.2.2.2.1)), (c4_ hw124_9 GW126 (hHeld.2.2.2.2.2.2.2.2.2.2.2.2.2.2.2.2.2.2.2.2.2.2.2.2.1)), (c4_ hw124_10 GW126 (hHeld.2.2.2.2.2.2.2.2.2.2.2.2.2.2.2.2.2.2.2.2.2.2.2.2.2.1)), (c4_ hw124_11 GW126 (hHeld.2.2.2.2.2.2.2.2.2.2.2.2.2.2.2.2.2.2.2.2.2.2.2.2.2.2.1)), (c4_ hw124_12 GW126 (hHeld.2.2.2.2.2.2.2.2.2.2.2.2.2.2.2.2.2.2.2.2.2.2.2.2.2.2.2.1)), (c4_ hw124_13 GW126 (hHeld.2.2.2.2.2.2.2.2.2.2.2.2.2.2.2.2.2.2.2.2.2.2.2.2.2.2.2.2.1)), (c4_ hw124_14 GW126 (hHeld.2.2.2.2.2.2.2.2.2.2.2.2.2.2.2.2.2.2.2.2.2.2.2.2.2.2.2.2.2))⟩ (fun hHeld => ?_)
  clear hK K
  refine done_ (done_of HT_.out (by kernel_rfl)) ?_
  have hnb33 := NB126_125.out
  have hnc33 := NB125_126.out
  obtain ⟨hcz34_0, hcz34_1, hcz34_2, hcz34_3⟩ := r4_ BK126.out
  obtain ⟨hfz34_0, hfz34_1, hfz34_2, hfz34_3⟩ := f4_ BK126.out
  obtain ⟨hcz35_0, hcz35_1, hcz35_2, hcz35_3, hcz35_4, hcz35_5, hcz35_6, hcz35_7, hcz35_8, hcz35_9, hcz35_10, hcz35_11, hcz35_12, hcz35_13, hcz35_14⟩ := r15_ BK125.out
  obtain ⟨hfz35_0, hfz35_1, hfz35_2, hfz35_3, hfz35_4, hfz35_5, hfz35_6, hfz35_7, hfz35_8, hfz35_9, hfz35_10, hfz35_11, hfz35_12, hfz35_13, hfz35_14⟩ := f15_ BK125.out
  by_cases c5 : ((rd_T35 l0 a1).f4.f2.f0) = ((rd_T35 l0 a1).f3.f1)
  rotate_left
  · rw [if_neg c5] at H
    have c5b0 : (((rd_T35 l0 a1).f4.f2.f0) == ((rd_T35 l0 a1).f3.f1)) = false := beq_eq_false_iff_ne.mpr c5
    have c5b1 : (((rd_T35 l0 a1).f4.f2.f0) != ((rd_T35 l0 a1).f3.f1)) = true := bne_iff_ne.mpr c5
    obtain rfl := Option.some.inj H
    try go_wp2
    go_ret
    exact ⟨by first | rfl | (simp [errW_none, errW_some] <;> rfl) | (simp [*, errW_none, errW_some] <;> rfl), bel_⟩
  rw [if_pos c5] at H
  have c5b0 : (((rd_T35 l0 a1).f4.f2.f0) == ((rd_T35 l0 a1).f3.f1)) = true := beq_iff_eq.mpr c5
  have c5b1 : (((rd_T35 l0 a1).f4.f2.f0) != ((rd_T35 l0 a1).f3.f1)) = false := bne_eq_false_iff_eq.mpr c5
  clear c5
  by_cases c6 : ((rd_T35 l0 a1).f3.f0) = 1
  rotate_left
  · rw [if_neg c6] at H
    have c6b0 : (((rd_T35 l0 a1).f3.f0) == 1) = false := beq_eq_false_iff_ne.mpr c6
    have c6b1 : (((rd_T35 l0 a1).f3.f0) != 1) = true := bne_iff_ne.mpr c6
    by_cases c88 : (((rd_T35 l0 a1).f4.f2.f1.f0) == 0 && (((rd_T35 l0 a1).f4.f2.f1.f1) == 0)) = true
    · rw [if_pos c88] at H
      have c88b0 : (((rd_T35 l0 a1).f4.f2.f1.f0) == 0 && (((rd_T35 l0 a1).f4.f2.f1.f1) == 0)) = true := c88
      (try (have c88b1 : decide (((rd_T35 l0 a1).f4.f2.f1.f0) = 0 && (((rd_T35 l0 a1).f4.f2.f1.f1) == 0)) = true := by simpa using c88))
      (try (have c88b2 : (((rd_T35 l0 a1).f4.f2.f1.f0) == 0 && (((rd_T35 l0 a1).f4.f2.f1.f1) == 0)) = true := by simpa using c88))
      clear c88
      replace H := Option.bind_eq_some_iff.mp H
      obtain ⟨t128, A890, H⟩ := H
      replace H : (some (t128 == 0)) = some r := H
      have A89 := zM A890
      clear A890
      obtain rfl := Option.some.inj H
      try go_wp2_with (first | ((with_reducible refine gate_callee (f := 42) rfl ?_); refine goL_ (some 53) Try.func42 #[.float .f64 ((rd_T35 l0 a1).f4.f2.f2)] ?_; (with_reducible refine (num_Bits.calls ((rd_T35 l0 a1).f4.f2.f2) t128 _ A89.out).mono ?_); rintro e w' ⟨rfl, ⟨nd, rfl⟩⟩; refine ⟨_, rfl, ?_⟩))
      go_ret
      exact ⟨by first | rfl | (simp [errW_none, errW_some] <;> rfl) | (simp [*, errW_none, errW_some] <;> rfl), bel_⟩
    rw [if_neg c88] at H
    have c88b0 : (((rd_T35 l0 a1).f4.f2.f1.f0) == 0 && (((rd_T35 l0 a1).f4.f2.f1.f1) == 0)) = false := by simpa using c88
    (try (have c88b1 : decide (((rd_T35 l0 a1).f4.f2.f1.f0) = 0 && (((rd_T35 l0 a1).f4.f2.f1.f1) == 0)) = false := by simpa using c88))
    (try (have c88b2 : (((rd_T35 l0 a1).f4.f2.f1.f0) == 0 && (((rd_T35 l0 a1).f4.f2.f1.f1) == 0)) = false := by simpa using c88))
    (try (have c88b3 : ¬ (((rd_T35 l0 a1).f4.f2.f1.f0) = 0 && (((rd_T35 l0 a1).f4.f2.f1.f1) == 0)) := by simpa using c88))
    clear c88
    replace H := Option.bind_eq_some_iff.mp H
    obtain ⟨t129, A1160, H⟩ := H
    replace H : (some (decide (t129 ≥ 0))) = some r := H
    have A116 := zM A1160
    clear A1160
    obtain rfl := Option.some.inj H
    try go_wp2_with (first | ((with_reducible refine gld_ (t := 35) ?_); (try (refine gate_guard (by rfl) ?_; dsimp only)); first | refine wl15_ rfl 35 _ rfl rfl Try.underlying35 rfl (by kernel_rfl) ?_ | refine wlr15_ rfl 35 _ rfl rfl Try.underlying35 rfl (by kernel_rfl) ?_) | ((with_reducible refine gst_ (t := 35) ?_); refine ws15_ rfl 35 _ _ rfl rfl rfl (by kernel_rfl) ?_) | ((with_reducible refine gate_callee (f := 13) rfl ?_); refine goL_ (some 57) Try.func13 #[.slice (some ad123) l0.length c0, .int .i64 a1] ?_; (with_reducible refine (past_Source.calls k _ _ l0 a1 t129 _ ?side1 ?side2 A116.out).mono ?_); (case side1 => exact Kd.C_below HR0.out bel_); (case side2 => exact HC0.out); rintro e w143 ⟨rfl, hb⟩; refine ⟨_, rfl, ?_⟩; replace BK125 := zM (blk_below (g := gb125) (o := .cells (e35_ (rd_T35 l0 a1)) 35 (0, 0)) (by (with_reducible repeat (first | refine zN ?_ _ | refine zD ?_ | refine zA ?_ _)); refine blk_far ?_ NB125_126.out _; (with_reducible repeat (first | refine zN ?_ _ | refine zD ?_ | refine zA ?_ _)); refine blk_far ?_ NB125_126.out _; (with_reducible repeat (first | refine zN ?_ _ | refine zD ?_ | refine zA ?_ _)); refine blk_far ?_ NB125_126.out _; (with_reducible repeat (first | refine zN ?_ _ | refine zD ?_ | refine zA ?_ _)); refine blk_far ?_ NB125_126.out _; (with_reducible repeat (first | refine zN ?_ _ | refine zD ?_ | refine zA ?_ _)); refine blk_put (cs := #[.int .i64 ((rd_T35 l0 a1).f0), .int .i64 ((rd_T35 l0 a1).f1), .int .i64 ((rd_T35 l0 a1).f2), .int .i64 ((rd_T35 l0 a1).f3.f0), .int .i64 ((rd_T35 l0 a1).f3.f1), .float .f64 ((rd_T35 l0 a1).f3.f2), .int .i64 ((rd_T35 l0 a1).f3.f3.f0), .int .i64 ((rd_T35 l0 a1).f3.f3.f1), .int .i64 ((rd_T35 l0 a1).f4.f0), .int .i64 ((rd_T35 l0 a1).f4.f1.f0), .int .i64 ((rd_T35 l0 a1).f4.f1.f1), .int .i64 ((rd_T35 l0 a1).f4.f2.f0), .int .i64 ((rd_T35 l0 a1).f4.f2.f1.f0), .int .i64 ((rd_T35 l0 a1).f4.f2.f1.f1), .float .f64 0]) ?_ 14 _ rfl; (with_reducible repeat (first | refine zN ?_ _ | refine zD ?_ | refine zA ?_ _)); refine blk_put (cs := #[.int .i64 ((rd_T35 l0 a1).f0), .int .i64 ((rd_T35 l0 a1).f1), .int .i64 ((rd_T35 l0 a1).f2), .int .i64 ((rd_T35 l0 a1).f3.f0), .int .i64 ((rd_T35 l0 a1).f3.f1), .float .f64 ((rd_T35 l0 a1).f3.f2), .int .i64 ((rd_T35 l0 a1).f3.f3.f0), .int .i64 ((rd_T35 l0 a1).f3.f3.f1), .int .i64 ((rd_T35 l0 a1).f4.f0), .int .i64 ((rd_T35 l0 a1).f4.f1.f0), .int .i64 ((rd_T35 l0 a1).f4.f1.f1), .int .i64 ((rd_T35 l0 a1).f4.f2.f0), .int .i64 ((rd_T35 l0 a1).f4.f2.f1.f0), .int .i64 0, .float .f64 0]) ?_ 13 _ rfl; (with_reducible repeat (first | refine zN ?_ _ | refine zD ?_ | refine zA ?_ _)); refine blk_put (cs := #[.int .i64 ((rd_T35 l0 a1).f0), .int .i64 ((rd_T35 l0 a1).f1), .int .i64 ((rd_T35 l0 a1).f2), .int .i64 ((rd_T35 l0 a1).f3.f0), .int .i64 ((rd_T35 l0 a1).f3.f1), .float .f64 ((rd_T35 l0 a1).f3.f2), .int .i64 ((rd_T35 l0 a1).f3.f3.f0), .int .i64 ((rd_T35 l0 a1).f3.f3.f1), .int .i64 ((rd_T35 l0 a1).f4.f0), .int .i64 ((rd_T35 l0 a1).f4.f1.f0), .int .i64 ((rd_T35 l0 a1).f4.f1.f1), .int .i64 ((rd_T35 l0 a1).f4.f2.f0), .int .i64 0, .int .i64 0, .float .f64 0]) ?_ 12 _ rfl; (with_reducible repeat (first | refine zN ?_ _ | refine zD ?_ | refine zA ?_ _)); refine blk_put (cs := #[.int .i64 ((rd_T35 l0 a1).f0), .int .i64 ((rd_T35 l0 a1).f1), .int .i64 ((rd_T35 l0 a1).f2), .int .i64 ((rd_T35 l0 a1).f3.f0), .int .i64 ((rd_T35 l0 a1).f3.f1), .float .f64 ((rd_T35 l0 a1).f3.f2), .int .i64 ((rd_T35 l0 a1).f3.f3.f0), .int .i64 ((rd_T35 l0 a1).f3.f3.f1), .int .i64 ((rd_T35 l0 a1).f4.f0), .int .i64 ((rd_T35 l0 a1).f4.f1.f0), .int .i64 ((rd_T35 l0 a1).f4.f1.f1), .int .i64 0, .int .i64 0, .int .i64 0, .float .f64 0]) ?_ 11 _ rfl; (with_reducible repeat (first | refine zN ?_ _ | refine zD ?_ | refine zA ?_ _)); refine blk_put (cs := #[.int .i64 ((rd_T35 l0 a1).f0), .int .i64 ((rd_T35 l0 a1).f1), .int .i64 ((rd_T35 l0 a1).f2), .int .i64 ((rd_T35 l0 a1).f3.f0), .int .i64 ((rd_T35 l0 a1).f3.f1), .float .f64 ((rd_T35 l0 a1).f3.f2), .int .i64 ((rd_T35 l0 a1).f3.f3.f0), .int .i64 ((rd_T35 l0 a1).f3.f3.f1), .int .i64 ((rd_T35 l0 a1).f4.f0), .int .i64 ((rd_T35 l0 a1).f4.f1.f0), .int .i64 0, .int .i64 0, .int .i64 0, .int .i64 0, .float .f64 0]) ?_ 10 _ rfl; (with_reducible repeat (first | refine zN ?_ _ | refine zD ?_ | refine zA ?_ _)); refine blk_put (cs := #[.int .i64 ((rd_T35 l0 a1).f0), .int .i64 ((rd_T35 l0 a1).f1), .int .i64 ((rd_T35 l0 a1).f2), .int .i64 ((rd_T35 l0 a1).f3.f0), .int .i64 ((rd_T35 l0 a1).f3.f1), .float .f64 ((rd_T35 l0 a1).f3.f2), .int .i64 ((rd_T35 l0 a1).f3.f3.f0), .int .i64 ((rd_T35 l0 a1).f3.f3.f1), .int .i64 ((rd_T35 l0 a1).f4.f0), .int .i64 0, .int .i64 0, .int .i64 0, .int .i64 0, .int .i64 0, .float .f64 0]) ?_ 9 _ rfl; (with_reducible repeat (first | refine zN ?_ _ | refine zD ?_ | refine zA ?_ _)); refine blk_put (cs := #[.int .i64 ((rd_T35 l0 a1).f0), .int .i64 ((rd_T35 l0 a1).f1), .int .i64 ((rd_T35 l0 a1).f2), .int .i64 ((rd_T35 l0 a1).f3.f0), .int .i64 ((rd_T35 l0 a1).f3.f1), .float .f64 ((rd_T35 l0 a1).f3.f2), .int .i64 ((rd_T35 l0 a1).f3.f3.f0), .int .i64 ((rd_T35 l0 a1).f3.f3.f1), .int .i64 0, .int .i64 0, .int .i64 0, .int .i64 0, .int .i64 0, .int .i64 0, .float .f64 0]) ?_ 8 _ rfl; (with_reducible repeat (first | refine zN ?_ _ | refine zD ?_ | refine zA ?_ _)); refine blk_put (cs := #[.int .i64 ((rd_T35 l0 a1).f0), .int .i64 ((rd_T35 l0 a1).f1), .int .i64 ((rd_T35 l0 a1).f2), .int .i64 ((rd_T35 l0 a1).f3.f0), .int .i64 ((rd_T35 l0 a1).f3.f1), .float .f64 ((rd_T35 l0 a1).f3.f2), .int .i64 ((rd_T35 l0 a1).f3.f3.f0), .int .i64 0, .int .i64 0, .int .i64 0, .int .i64 0, .int .i64 0, .int .i64 0, .int .i64 0, .float .f64 0]) ?_ 7 _ rfl; (with_reducible repeat (first | refine zN ?_ _ | refine zD ?_ | refine zA ?_ _)); refine blk_put (cs := #[.int .i64 ((rd_T35 l0 a1).f0), .int .i64 ((rd_T35 l0 a1).f1), .int .i64 ((rd_T35 l0 a1).f2), .int .i64 ((rd_T35 l0 a1).f3.f0), .int .i64 ((rd_T35 l0 a1).f3.f1), .float .f64 ((rd_T35 l0 a1).f3.f2), .int .i64 0, .int .i64 0, .int .i64 0, .int .i64 0, .int .i64 0, .int .i64 0, .int .i64 0, .int .i64 0, .float .f64 0]) ?_ 6 _ rfl; (with_reducible repeat (first | refine zN ?_ _ | refine zD ?_ | refine zA ?_ _)); refine blk_put (cs := #[.int .i64 ((rd_T35 l0 a1).f0), .int .i64 ((rd_T35 l0 a1).f1), .int .i64 ((rd_T35 l0 a1).f2), .int .i64 ((rd_T35 l0 a1).f3.f0), .int .i64 ((rd_T35 l0 a1).f3.f1), .float .f64 0, .int .i64 0, .int .i64 0, .int .i64 0, .int .i64 0, .int .i64 0, .int .i64 0, .int .i64 0, .int .i64 0, .float .f64 0]) ?_ 5 _ rfl; (with_reducible repeat (first | refine zN ?_ _ | refine zD ?_ | refine zA ?_ _)); refine blk_put (cs := #[.int .i64 ((rd_T35 l0 a1).f0), .int .i64 ((rd_T35 l0 a1).f1), .int .i64 ((rd_T35 l0 a1).f2), .int .i64 ((rd_T35 l0 a1).f3.f0), .int .i64 0, .float .f64 0, .int .i64 0, .int .i64 0, .int .i64 0, .int .i64 0, .int .i64 0, .int .i64 0, .int .i64 0, .int .i64 0, .float .f64 0]) ?_ 4 _ rfl; (with_reducible repeat (first | refine zN ?_ _ | refine zD ?_ | refine zA ?_ _)); refine blk_put (cs := #[.int .i64 ((rd_T35 l0 a1).f0), .int .i64 ((rd_T35 l0 a1).f1), .int .i64 ((rd_T35 l0 a1).f2), .int .i64 0, .int .i64 0, .float .f64 0, .int .i64 0, .int .i64 0, .int .i64 0, .int .i64 0, .int .i64 0, .int .i64 0, .int .i64 0, .int .i64 0, .float .f64 0]) ?_ 3 _ rfl; (with_reducible repeat (first | refine zN ?_ _ | refine zD ?_ | refine zA ?_ _)); refine blk_put (cs := #[.int .i64 ((rd_T35 l0 a1).f0), .int .i64 ((rd_T35 l0 a1).f1), .int .i64 0, .int .i64 0, .int .i64 0, .float .f64 0, .int .i64 0, .int .i64 0, .int .i64 0, .int .i64 0, .int .i64 0, .int .i64 0, .int .i64 0, .int .i64 0, .float .f64 0]) ?_ 2 _ rfl; (with_reducible repeat (first | refine zN ?_ _ | refine zD ?_ | refine zA ?_ _)); refine blk_put (cs := #[.int .i64 ((rd_T35 l0 a1).f0), .int .i64 0, .int .i64 0, .int .i64 0, .int .i64 0, .float .f64 0, .int .i64 0, .int .i64 0, .int .i64 0, .int .i64 0, .int .i64 0, .int .i64 0, .int .i64 0, .int .i64 0, .float .f64 0]) ?_ 1 _ rfl; (with_reducible repeat (first | refine zN ?_ _ | refine zD ?_ | refine zA ?_ _)); refine blk_put (cs := #[.int .i64 0, .int .i64 0, .int .i64 0, .int .i64 0, .int .i64 0, .float .f64 0, .int .i64 0, .int .i64 0, .int .i64 0, .int .i64 0, .int .i64 0, .int .i64 0, .int .i64 0, .int .i64 0, .float .f64 0]) ?_ 0 _ rfl; (with_reducible repeat (first | refine zN ?_ _ | refine zD ?_ | refine zA ?_ _)); exact BK125.out) hb); replace BK126 := zM (blk_below (g := gb126) (o := .cells #[.int .i64 ((rd_T35 l0 a1).f4.f2.f0), .int .i64 ((rd_T35 l0 a1).f4.f2.f1.f0), .int .i64 ((rd_T35 l0 a1).f4.f2.f1.f1), .float .f64 ((rd_T35 l0 a1).f4.f2.f2)] 31 (0, 0)) (by (with_reducible repeat (first | refine zN ?_ _ | refine zD ?_ | refine zA ?_ _)); refine blk_put (cs := #[.int .i64 ((rd_T35 l0 a1).f4.f2.f0), .int .i64 ((rd_T35 l0 a1).f4.f2.f1.f0), .int .i64 ((rd_T35 l0 a1).f4.f2.f1.f1), .float .f64 0]) ?_ 3 _ rfl; (with_reducible repeat (first | refine zN ?_ _ | refine zD ?_ | refine zA ?_ _)); refine blk_put (cs := #[.int .i64 ((rd_T35 l0 a1).f4.f2.f0), .int .i64 ((rd_T35 l0 a1).f4.f2.f1.f0), .int .i64 0, .float .f64 0]) ?_ 2 _ rfl; (with_reducible repeat (first | refine zN ?_ _ | refine zD ?_ | refine zA ?_ _)); refine blk_put (cs := #[.int .i64 ((rd_T35 l0 a1).f4.f2.f0), .int .i64 0, .int .i64 0, .float .f64 0]) ?_ 1 _ rfl; (with_reducible repeat (first | refine zN ?_ _ | refine zD ?_ | refine zA ?_ _)); refine blk_put (cs := #[.int .i64 0, .int .i64 0, .int .i64 0, .float .f64 0]) ?_ 0 _ rfl; (with_reducible repeat (first | refine zN ?_ _ | refine zD ?_ | refine zA ?_ _)); refine blk_far ?_ NB126_125.out _; (with_reducible repeat (first | refine zN ?_ _ | refine zD ?_ | refine zA ?_ _)); refine blk_far ?_ NB126_125.out _; (with_reducible repeat (first | refine zN ?_ _ | refine zD ?_ | refine zA ?_ _)); refine blk_far ?_ NB126_125.out _; (with_reducible repeat (first | refine zN ?_ _ | refine zD ?_ | refine zA ?_ _)); refine blk_far ?_ NB126_125.out _; (with_reducible repeat (first | refine zN ?_ _ | refine zD ?_ | refine zA ?_ _)); refine blk_far ?_ NB126_125.out _; (with_reducible repeat (first | refine zN ?_ _ | refine zD ?_ | refine zA ?_ _)); refine blk_far ?_ NB126_125.out _; (with_reducible repeat (first | refine zN ?_ _ | refine zD ?_ | refine zA ?_ _)); refine blk_far ?_ NB126_125.out _; (with_reducible repeat (first | refine zN ?_ _ | refine zD ?_ | refine zA ?_ _)); refine blk_far ?_ NB126_125.out _; (with_reducible repeat (first | refine zN ?_ _ | refine zD ?_ | refine zA ?_ _)); refine blk_far ?_ NB126_125.out _; (with_reducible repeat (first | refine zN ?_ _ | refine zD ?_ | refine zA ?_ _)); refine blk_far ?_ NB126_125.out _; (with_reducible repeat (first | refine zN ?_ _ | refine zD ?_ | refine zA ?_ _)); refine blk_far ?_ NB126_125.out _; (with_reducible repeat (first | refine zN ?_ _ | refine zD ?_ | refine zA ?_ _)); refine blk_far ?_ NB126_125.out _; (with_reducible repeat (first | refine zN ?_ _ | refine zD ?_ | refine zA ?_ _)); refine blk_far ?_ NB126_125.out _; (with_reducible repeat (first | refine zN ?_ _ | refine zD ?_ | refine zA ?_ _)); refine blk_far ?_ NB126_125.out _; (with_reducible repeat (first | refine zN ?_ _ | refine zD ?_ | refine zA ?_ _)); refine blk_far ?_ NB126_125.out _; (with_reducible repeat (first | refine zN ?_ _ | refine zD ?_ | refine zA ?_ _)); exact BK126.out) hb); replace HB := zM (zB bel_ hb); (try clear hb); (try clear hb2); (try clear hk); (try clear hi)))
    go_ret
    exact ⟨by first | rfl | (simp [errW_none, errW_some] <;> rfl) | (simp [*, errW_none, errW_some] <;> rfl), bel_⟩
  rw [if_pos c6] at H
  have c6b0 : (((rd_T35 l0 a1).f3.f0) == 1) = true := beq_iff_eq.mpr c6
  have c6b1 : (((rd_T35 l0 a1).f3.f0) != 1) = false := bne_eq_false_iff_eq.mpr c6
  clear c6
  replace H := Option.bind_eq_some_iff.mp H
  obtain ⟨t127, A70, H⟩ := H
  replace H : (if t127 = true then (if ((rd_T35 l0 a1).f4.f2.f1.f1) = ((rd_T35 l0 a1).f0) then (some (decide (((rd_T35 l0 a1).f4.f2.f1.f0) > 0))) else (some false)) else (some false)) = some r := H
  have A7 := zM A70
  clear A70
  by_cases c8 : t127 = true
  rotate_left
  · replace c8 := Bool.eq_false_iff.mpr c8
    subst c8
    have H1 : (some false) = some r := by rw [if_neg (show ¬ (false = true) by decide)] at H; exact H
    clear H
    have H := H1
    clear H1
    obtain rfl := Option.some.inj H
    try go_wp2_with (first | ((with_reducible refine gate_callee (f := 41) rfl ?_); refine goL_ (some 32) Try.func41 #[.float .f64 ((rd_T35 l0 a1).f4.f2.f2), .float .f64 ((rd_T35 l0 a1).f3.f2)] ?_; (with_reducible refine (num_Same.calls ((rd_T35 l0 a1).f4.f2.f2) ((rd_T35 l0 a1).f3.f2) false _ A7.out).mono ?_); rintro e w' ⟨rfl, ⟨nd, rfl⟩⟩; refine ⟨_, rfl, ?_⟩))
    go_ret
    exact ⟨by first | rfl | (simp [errW_none, errW_some] <;> rfl) | (simp [*, errW_none, errW_some] <;> rfl), bel_⟩
  subst c8
  have H1 : (if ((rd_T35 l0 a1).f4.f2.f1.f1) = ((rd_T35 l0 a1).f0) then (some (decide (((rd_T35 l0 a1).f4.f2.f1.f0) > 0))) else (some false)) = some r := by rw [if_pos rfl] at H; exact H
  clear H
  have H := H1
  clear H1
  by_cases c9 : ((rd_T35 l0 a1).f4.f2.f1.f1) = ((rd_T35 l0 a1).f0)
  rotate_left
  · rw [if_neg c9] at H
    have c9b0 : (((rd_T35 l0 a1).f4.f2.f1.f1) == ((rd_T35 l0 a1).f0)) = false := beq_eq_false_iff_ne.mpr c9
    have c9b1 : (((rd_T35 l0 a1).f4.f2.f1.f1) != ((rd_T35 l0 a1).f0)) = true := bne_iff_ne.mpr c9
    obtain rfl := Option.some.inj H
    try go_wp2_with (first | ((with_reducible refine gate_callee (f := 41) rfl ?_); refine goL_ (some 32) Try.func41 #[.float .f64 ((rd_T35 l0 a1).f4.f2.f2), .float .f64 ((rd_T35 l0 a1).f3.f2)] ?_; (with_reducible refine (num_Same.calls ((rd_T35 l0 a1).f4.f2.f2) ((rd_T35 l0 a1).f3.f2) true _ A7.out).mono ?_); rintro e w' ⟨rfl, ⟨nd, rfl⟩⟩; refine ⟨_, rfl, ?_⟩))
    go_ret
    exact ⟨by first | rfl | (simp [errW_none, errW_some] <;> rfl) | (simp [*, errW_none, errW_some] <;> rfl), bel_⟩
  rw [if_pos c9] at H
  have c9b0 : (((rd_T35 l0 a1).f4.f2.f1.f1) == ((rd_T35 l0 a1).f0)) = true := beq_iff_eq.mpr c9
  have c9b1 : (((rd_T35 l0 a1).f4.f2.f1.f1) != ((rd_T35 l0 a1).f0)) = false := bne_eq_false_iff_eq.mpr c9
  clear c9
  obtain rfl := Option.some.inj H
  try go_wp2_with (first | ((with_reducible refine gate_callee (f := 41) rfl ?_); refine goL_ (some 32) Try.func41 #[.float .f64 ((rd_T35 l0 a1).f4.f2.f2), .float .f64 ((rd_T35 l0 a1).f3.f2)] ?_; (with_reducible refine (num_Same.calls ((rd_T35 l0 a1).f4.f2.f2) ((rd_T35 l0 a1).f3.f2) true _ A7.out).mono ?_); rintro e w' ⟨rfl, ⟨nd, rfl⟩⟩; refine ⟨_, rfl, ?_⟩))
  go_ret
  exact ⟨by first | rfl | (simp [errW_none, errW_some] <;> rfl) | (simp [*, errW_none, errW_some] <;> rfl), bel_⟩

end Go.Proofs.Ytmenkbdaabjojaa.PPastSources
