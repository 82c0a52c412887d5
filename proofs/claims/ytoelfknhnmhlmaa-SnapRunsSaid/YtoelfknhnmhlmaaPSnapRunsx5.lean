/- Written by a program of this session (wip/tool/px.py) over the kit's print: what the code that the law SnapRuns reaches computes, function by function, and the law's row. -/
import Derived.Test.YtoelfknhnmhlmaaPSnapRunsx0
import Derived.Test.YtoelfknhnmhlmaaPSnapRunsx4
namespace Go.Proofs.Ytoelfknhnmhlmaa.PSnapRuns
open Go.RowKit Go.Proofs.YtoelfknhnmhlmaaX Go.Proofs.YtoelfknhnmhlmaaW.PrintWords Go.Proofs.YtoelfknhnmhlmaaW.PrintLast Go.Proofs.YtoelfknhnmhlmaaW.PrintMore
open List renaming setIfInBounds_toArray → zS, set_cons_zero → zZ, set_cons_succ → zC
open Go.Proofs.YtoelfknhnmhlmaaW.PrintWords renaming below_step → zB
open Go.Proofs.YtoelfknhnmhlmaaW.PrintWords.Aside0 renaming mk → zM
attribute [local go_sem] max2_int min2_int max_two min_two max_three min_three max_four min_four   -- for this text's walks alone
set_option linter.unusedVariables false
set_option linter.unusedSimpArgs false

attribute [local go_sem] px_nilq27
/-! ### api_View_66: function 66 -/
mutual
def api_View_66.l0 : Nat → List (S26) → Int → Int → Int → Option ((List (S26)))
  | 0, _, _, _, _ => none
  | k + 1, x0, x1, x2, x8 => if x8 < x2 then (api_View_66.l1 k x0 x1 x2 x8 x8) else (some x0)
def api_View_66.l1 : Nat → List (S26) → Int → Int → Int → Int → Option ((List (S26)))
  | 0, _, _, _, _, _ => none
  | k + 1, x0, x1, x2, x8, x9 => if x9 > x1 then (if 0 ≤ x9 then (if x9 < (x0.length : Int) then (if 0 ≤ (wrap64 (x9 - 1)) then (if (wrap64 (x9 - 1)) < (x0.length : Int) then ((cells_Changes_1.f k ((rd_T26 x0 x9).f0) ((rd_T26 x0 x9).f1) ((rd_T26 x0 (wrap64 (x9 - 1))).f0) ((rd_T26 x0 (wrap64 (x9 - 1))).f1)).bind fun t141 => (if t141 < 0 then (api_View_66.l1 k ((x0.set (x9 : Int).toNat (⟨(rd_T26 x0 (wrap64 (x9 - 1))).f0, (rd_T26 x0 (wrap64 (x9 - 1))).f1⟩ : S26)).set ((wrap64 (x9 - 1)) : Int).toNat (⟨(rd_T26 x0 x9).f0, (rd_T26 x0 x9).f1⟩ : S26)) x1 x2 x8 (wrap64 (x9 - 1))) else (api_View_66.l0 k x0 x1 x2 (wrap64 (x8 + 1))))) else (none)) else (none)) else (none)) else (none)) else (api_View_66.l0 k x0 x1 x2 (wrap64 (x8 + 1)))
end
def api_View_66.f (k : Nat) (l0 : List (S26)) (a1 : Int) (a2 : Int)  : Option ((List (S26))) := api_View_66.l0 k l0 a1 a2 (wrap64 (a1 + 1))
theorem api_View_66.mono_l : ∀ k, (∀ y0 y1 y2 y3, LeO (api_View_66.l0 k y0 y1 y2 y3) (api_View_66.l0 (k + 1) y0 y1 y2 y3)) ∧ (∀ y0 y1 y2 y3 y4, LeO (api_View_66.l1 k y0 y1 y2 y3 y4) (api_View_66.l1 (k + 1) y0 y1 y2 y3 y4))
  | 0 => ⟨fun _ _ _ _ r h => by simp [api_View_66.l0] at h, fun _ _ _ _ _ r h => by simp [api_View_66.l1] at h⟩
  | k + 1 => by
    obtain ⟨ih0, ih1⟩ := api_View_66.mono_l k
    refine ⟨?_, ?_⟩
    · intro y0 y1 y2 y3
      unfold api_View_66.l0
      repeat' first
      | (with_reducible exact ih0 _ _ _ _)
      | (with_reducible exact ih1 _ _ _ _ _)
      | (with_reducible exact cells_Changes_1.mono _ _ _ _ _)
      | (with_reducible exact LeO.refl _)
      | (with_reducible exact LeO.none _)
      | (with_reducible refine LeO.ite ?_ ?_)
      | (with_reducible refine LeO.bind ?_ (fun _ => ?_))
      | exact ih0 _ _ _ _
      | exact ih1 _ _ _ _ _
      | exact cells_Changes_1.mono _ _ _ _ _
      | exact LeO.none _
      | refine LeO.ite ?_ ?_
      | refine LeO.bind ?_ (fun _ => ?_)
    · intro y0 y1 y2 y3 y4
      unfold api_View_66.l1
      repeat' first
      | (with_reducible exact ih0 _ _ _ _)
      | (with_reducible exact ih1 _ _ _ _ _)
      | (with_reducible exact cells_Changes_1.mono _ _ _ _ _)
      | (with_reducible exact LeO.refl _)
      | (with_reducible exact LeO.none _)
      | (with_reducible refine LeO.ite ?_ ?_)
      | (with_reducible refine LeO.bind ?_ (fun _ => ?_))
      | exact ih0 _ _ _ _
      | exact ih1 _ _ _ _ _
      | exact cells_Changes_1.mono _ _ _ _ _
      | exact LeO.none _
      | refine LeO.ite ?_ ?_
      | refine LeO.bind ?_ (fun _ => ?_)
theorem api_View_66.mono : ∀ a0 a1 a2 k, LeO (api_View_66.f k a0 a1 a2) (api_View_66.f (k + 1) a0 a1 a2) := by
  intro a0 a1 a2 k
  obtain ⟨ih0, ih1⟩ := api_View_66.mono_l k
  unfold api_View_66.f
  repeat' first
      | (with_reducible exact ih0 _ _ _ _)
      | (with_reducible exact ih1 _ _ _ _ _)
      | (with_reducible exact cells_Changes_1.mono _ _ _ _ _)
      | (with_reducible exact LeO.refl _)
      | (with_reducible exact LeO.none _)
      | (with_reducible refine LeO.ite ?_ ?_)
      | (with_reducible refine LeO.bind ?_ (fun _ => ?_))
      | exact ih0 _ _ _ _
      | exact ih1 _ _ _ _ _
      | exact cells_Changes_1.mono _ _ _ _ _
      | exact LeO.none _
      | refine LeO.ite ?_ ?_
      | refine LeO.bind ?_ (fun _ => ?_)
def api_View_66.T4 : Bool × List (List Nat × List Nat) := (true, [([], []), ([], []), ([0, 1], [0, 1]), ([2], [2]), ([3], [3]), ([3], [3]), ([3], [3]), ([5, 6, 3], [3, 5, 6]), ([7, 3], [3, 7]), ([3], [3]), ([3], [3]), ([10, 3], [3, 10]), ([9, 11, 3], [3, 9, 11]), ([12, 3], [3, 12]), ([4, 8, 13, 3, 3], [3, 4, 8, 13]), ([14, 3], [3, 14]), ([3, 15], [3, 15])])
def api_View_66.B4 : List Nat := [0, 0, 3, 7, 15, 15, 15, 111, 239, 15, 15, 1039, 3599, 7695, 16383, 32767, 65535]
theorem api_View_66.tab4 : rtab .any (opsOf Try.f66 4) = api_View_66.T4 := by kernel_rfl
theorem api_View_66.bits4 : waitsOk api_View_66.T4.2 api_View_66.B4 = true := by kernel_rfl
def api_View_66.T6 : Bool × List (List Nat × List Nat) := (true, [([], []), ([], []), ([], []), ([], []), ([3], [3]), ([], []), ([], []), ([6], [6]), ([5, 7], [5, 7]), ([8], [8]), ([], []), ([], []), ([10, 11], [10, 11]), ([12], [12]), ([0, 1, 0, 1, 5, 6, 7, 8, 9, 13], [0, 1]), ([14, 9, 0, 1, 5, 6, 7, 8, 9, 13], [9, 14]), ([2, 4, 0, 1, 2, 3, 4, 5, 6, 7, 8, 9, 10, 11, 12, 13, 14, 15], [2, 4]), ([16, 13, 15, 0, 1, 2, 3, 4, 5, 6, 7, 8, 9, 10, 11, 12, 13, 14, 15], [13, 16])])
def api_View_66.B6 : List Nat := [0, 0, 0, 0, 8, 0, 0, 64, 224, 480, 0, 0, 3072, 7168, 16355, 32739, 65535, 131071]
theorem api_View_66.tab6 : rtab .any (opsOf Try.f66 6) = api_View_66.T6 := by kernel_rfl
theorem api_View_66.bits6 : waitsOk api_View_66.T6.2 api_View_66.B6 = true := by kernel_rfl
set_option maxHeartbeats 8000000 in
set_option maxRecDepth 100000 in
theorem api_View_66.calls (k : Nat) (P0_ : Nat → Prop) (u9000_ : Value) (l0 : List (S26)) (a1 : Int) (a2 : Int)  (r : List (S26)) (w0 w : World) (hB : Below w0.heap.size w0 w) (ho0 : Kd.R k26 26 w w0.heap.size P0_ u9000_ l0) (h : api_View_66.f k l0 a1 a2 = some r) :
    Calls Try.prog 66 #[u9000_, .int .i64 a1, .int .i64 a2, .func (.func 37) #[] #[]] w fun e w' => e = .returned (.tuple #[]) ∧ Kd.R k26 26 w' w0.heap.size (fun k_ => (P0_ k_ ∨ w.heap.size ≤ k_)) u9000_ r ∧ Below w0.heap.size w0 w' ∧ Kept w w' (fun k_ => P0_ k_) := by
  have hu26 := Try.underlying26
  have HO0 := zM (show Kd.R k26 26 w w0.heap.size (fun k_ => (P0_ k_ ∨ w.heap.size ≤ k_)) u9000_ l0 from Kd.R_mono ho0 (fun k_ hk => (.inl hk)))
  have HK := zM (Kept.refl w (fun k_ => P0_ k_))
  have HW0 := zM hB.size
  have HB := zM hB
  clear hB
  have H : (api_View_66.l0 k l0 a1 a2 (wrap64 (a1 + 1))) = some r := h
  clear h
  have H' := zM H
  clear H
  go_enter Try.func66, Try.ntmps66
  go_wp2
  go_loopg [8] k (fun kq v8 w' => ∃ (x0_1 : List (S26)) (x8_1 : Int), v8 = .int .i64 x8_1 ∧ Aside0 (api_View_66.l0 kq x0_1 a1 a2 x8_1 = some r) ∧ Aside0 (kq ≤ k) ∧ Aside0 (Kd.R k26 26 w' w0.heap.size (fun k_ => (P0_ k_ ∨ w.heap.size ≤ k_)) u9000_ x0_1) ∧ Aside0 (Kept w w' (fun k_ => P0_ k_)) ∧ Aside0 (Below w0.heap.size w0 w'))
  case atStart => exact ⟨(l0), (wrap64 (a1 + 1)), (by first | rfl | (simp; done) | (simp [*]; done) | (simp; grind)), H', ⟨Nat.le_refl _⟩, ⟨by (with_reducible repeat (first | apply Kd.R_alloc | apply Kd.R_drewN | apply Kd.R_drew)); exact HO0.out⟩, ⟨by repeat (first | (with_reducible first | exact HK.out | apply Kept.alloc | apply Kept.drewN | apply Kept.drew) | exact HK.out)⟩, ⟨bel_⟩⟩
  case round =>
   clear H'
   try clear p2
   obtain ⟨x0_1, x8_1, rfl, HA, HK1, HO_0, HK, HB⟩ := hrel
   cases gk with
   | zero => exact absurd HA.out (by simp [api_View_66.l0])
   | succ k1 =>
    have H := HA.out
    clear HA
    simp only [api_View_66.l0] at H
    by_cases c5 : x8_1 < a2
    rotate_left
    · rw [if_neg c5] at H
      have c5b0 : decide (x8_1 < a2) = false := decide_eq_false c5
      clear c5
      obtain rfl := Option.some.inj H
      go_wp2
      first | go_end0 | ((try simp only [Exit.inBlock, Exit.then]); refine bodyPost_ret (results_none rfl _ _ _) rfl ?_)
      exact ⟨by first | rfl | (simp [errW_none, errW_some] <;> rfl) | (simp [*, errW_none, errW_some] <;> rfl), by (with_reducible repeat (first | apply Kd.R_alloc | apply Kd.R_drewN | apply Kd.R_drew)); exact HO_0.out, by repeat (first | (with_reducible first | exact HB.out | apply below_alloc | apply pw_below_drewN | apply below_drew1) | exact HB.out), by repeat (first | (with_reducible first | exact HK.out | apply Kept.alloc | apply Kept.drewN | apply Kept.drew) | exact HK.out)⟩
    rw [if_pos c5] at H
    have c5b0 : decide (x8_1 < a2) = true := decide_eq_true c5
    clear c5
    have H' := zM H
    clear H
    go_wp2
    go_loopg [9] k1 (fun kq v9 w' => ∃ (x0_2 : List (S26)) (x9_2 : Int), v9 = .int .i64 x9_2 ∧ Aside0 (api_View_66.l1 kq x0_2 a1 a2 x8_1 x9_2 = some r) ∧ Aside0 (kq ≤ k1) ∧ Aside0 (Kd.R k26 26 w' w0.heap.size (fun k_ => (P0_ k_ ∨ w.heap.size ≤ k_)) u9000_ x0_2) ∧ Aside0 (Kept w w' (fun k_ => P0_ k_)) ∧ Aside0 (Below w0.heap.size w0 w'))
    case atStart => exact ⟨(x0_1), (x8_1), (by first | rfl | (simp; done) | (simp [*]; done) | (simp; grind)), H', ⟨Nat.le_refl _⟩, ⟨by (with_reducible repeat (first | apply Kd.R_alloc | apply Kd.R_drewN | apply Kd.R_drew)); exact HO_0.out⟩, ⟨by repeat (first | (with_reducible first | exact HK.out | apply Kept.alloc | apply Kept.drewN | apply Kept.drew) | exact HK.out)⟩, ⟨bel_⟩⟩
    case round =>
     clear H'
     try clear p2
     try clear c5
     try clear c5b0
     try clear p2
     obtain ⟨x0_2, x9_2, rfl, HA, HK2, HO_0, HK, HB⟩ := hrel
     cases gk with
     | zero => exact absurd HA.out (by simp [api_View_66.l1])
     | succ k2 =>
      have H := HA.out
      clear HA
      simp only [api_View_66.l1] at H
      by_cases c6 : x9_2 > a1
      rotate_left
      · rw [if_neg c6] at H
        have c6b0 : decide (a1 < x9_2) = false := decide_eq_false c6
        clear c6
        have H' := zM H
        clear H
        try go_wp2
        go_quiet (fail)
        replace HO_0 := zM (Kd.R_drewN HO_0.out nq)
        replace HK := zM (Kept.drewN HK.out nq)
        replace HB := zM (pw_below_drewN HB.out nq)
        generalize wr.drewN nq = w25 at HO_0 HK HB ⊢
        try go_wp2
        go_roundg k2
        case measure => have := HK1.out; have := HK2.out; omega
        case rel => exact ⟨(x0_2), (wrap64 (x8_1 + 1)), (by first | rfl | (simp; done) | (simp [*]; done) | (simp; grind)), H', ⟨by have := HK1.out; have := HK2.out; omega⟩, ⟨by (with_reducible repeat (first | apply Kd.R_alloc | apply Kd.R_drewN | apply Kd.R_drew)); exact HO_0.out⟩, ⟨by repeat (first | (with_reducible first | exact HK.out | apply Kept.alloc | apply Kept.drewN | apply Kept.drew) | exact HK.out)⟩, ⟨bel_⟩⟩
      rw [if_pos c6] at H
      have c6b0 : decide (a1 < x9_2) = true := decide_eq_true c6
      clear c6
      by_cases c7 : 0 ≤ x9_2
      rotate_left
      · rw [if_neg c7] at H
        exact absurd H (by simp)
      rw [if_pos c7] at H
      have c7b0 : decide (0 ≤ x9_2) = true := decide_eq_true c7
      clear c7
      by_cases c8 : x9_2 < (x0_2.length : Int)
      rotate_left
      · rw [if_neg c8] at H
        exact absurd H (by simp)
      rw [if_pos c8] at H
      have c8b0 : decide (x9_2 < (x0_2.length : Int)) = true := decide_eq_true c8
      clear c8
      obtain ⟨ji9, hji9⟩ : ∃ j_ : Int, (wrap64 (x9_2 - 1)) = j_ := ⟨_, rfl⟩
      replace H : (if 0 ≤ (ji9) then (if (ji9) < (x0_2.length : Int) then ((cells_Changes_1.f k2 ((rd_T26 x0_2 x9_2).f0) ((rd_T26 x0_2 x9_2).f1) ((rd_T26 x0_2 (ji9)).f0) ((rd_T26 x0_2 (ji9)).f1)).bind fun t141 => (if t141 < 0 then (api_View_66.l1 k2 ((x0_2.set (x9_2 : Int).toNat (⟨(rd_T26 x0_2 (ji9)).f0, (rd_T26 x0_2 (ji9)).f1⟩ : S26)).set ((ji9) : Int).toNat (⟨(rd_T26 x0_2 x9_2).f0, (rd_T26 x0_2 x9_2).f1⟩ : S26)) a1 a2 x8_1 ji9) else (api_View_66.l0 k2 x0_2 a1 a2 (wrap64 (x8_1 + 1))))) else (none)) else (none)) = some r := by first | (rw [hji9] at H; exact H) | (simp only [hji9] at H ⊢; exact H)
      have hji9w : (IntKind.i64.wrap (x9_2 - 1)) = ji9 := (i64_w _).trans hji9
      by_cases c10 : 0 ≤ (ji9)
      rotate_left
      · rw [if_neg c10] at H
        exact absurd H (by simp)
      rw [if_pos c10] at H
      have c10b0 : decide (0 ≤ (ji9)) = true := decide_eq_true c10
      clear c10
      by_cases c11 : (ji9) < (x0_2.length : Int)
      rotate_left
      · rw [if_neg c11] at H
        exact absurd H (by simp)
      rw [if_pos c11] at H
      have c11b0 : decide ((ji9) < (x0_2.length : Int)) = true := decide_eq_true c11
      clear c11
      replace H := Option.bind_eq_some_iff.mp H
      obtain ⟨t141, A120, H⟩ := H
      replace H : (if t141 < 0 then (api_View_66.l1 k2 ((x0_2.set (x9_2 : Int).toNat (⟨(rd_T26 x0_2 (ji9)).f0, (rd_T26 x0_2 (ji9)).f1⟩ : S26)).set ((ji9) : Int).toNat (⟨(rd_T26 x0_2 x9_2).f0, (rd_T26 x0_2 x9_2).f1⟩ : S26)) a1 a2 x8_1 ji9) else (api_View_66.l0 k2 x0_2 a1 a2 (wrap64 (x8_1 + 1)))) = some r := H
      have A12 := zM A120
      clear A120
      by_cases c13 : t141 < 0
      rotate_left
      · rw [if_neg c13] at H
        have c13b0 : decide (t141 < 0) = false := decide_eq_false c13
        clear c13
        have H' := zM H
        clear H
        try go_wp2
        replace HO_0 := zM (Kd.R_drew HO_0.out)
        replace HK := zM (Kept.drew HK.out)
        replace HB := zM (below_drew1 HB.out)
        obtain ⟨Ao23, co23, eo23⟩ := Kd.R_slice HO_0.out
        (first | subst eo23 | (injection eo23 with f1_ f2_ f3_; have f4_ := f1_.symm; have f5_ := f3_.symm; clear f1_ f2_ f3_; subst f4_; subst f5_))
        have p139 : 0 ≤ (x9_2 : Int) := of_decide_eq_true (by first | (with_reducible assumption) | assumption)
        have q139 : x9_2 < (x0_2.length : Int) := of_decide_eq_true (by first | (with_reducible assumption) | assumption)
        obtain ⟨ad139, e139, hx139_0, hx139_1⟩ := at_T26 (Kd.R_reads' HO_0.out).2.2 x9_2 p139 q139
        cases e139
        replace p139 := eq_true p139
        replace q139 := eq_true q139
        have p140 : 0 ≤ ((ji9) : Int) := of_decide_eq_true (by first | (with_reducible assumption) | assumption)
        have q140 : (ji9) < (x0_2.length : Int) := of_decide_eq_true (by first | (with_reducible assumption) | assumption)
        obtain ⟨ad140, e140, hx140_0, hx140_1⟩ := at_T26 (Kd.R_reads' HO_0.out).2.2 (ji9) p140 q140
        obtain rfl : ad139 = ad140 := (by injection e140)
        replace p140 := eq_true p140
        replace q140 := eq_true q140
        refine start_ (n := 17) (S := fun w' => w'.cell? (ad139.add ((x9_2).toNat * 2)) = some (.int .i64 ((rd_T26 x0_2 x9_2).f0)) ∧ w'.cell? ⟨(ad139.add ((x9_2).toNat * 2)).block, (ad139.add ((x9_2).toNat * 2)).off + 1, none⟩ = some (.int .i64 ((rd_T26 x0_2 x9_2).f1)) ∧ w'.cell? (ad139.add (((ji9)).toNat * 2)) = some (.int .i64 ((rd_T26 x0_2 (ji9)).f0)) ∧ w'.cell? ⟨(ad139.add (((ji9)).toNat * 2)).block, (ad139.add (((ji9)).toNat * 2)).off + 1, none⟩ = some (.int .i64 ((rd_T26 x0_2 (ji9)).f1))) (ds := []) #[F_, F_, F_, F_, F_, F_, F_, F_, F_, F_, F_, F_, F_, F_, F_, F_, F_] (by kernel_rfl) rfl rfl ⟨hx139_0, hx139_1, hx140_0, hx140_1⟩ (fun hHeld => ?_); refine with_tabW api_View_66.tab4 api_View_66.bits4 (fun HT_ HW_ => ?_)
        generalize wr.drew = w22 at HO_0 HK HB hx139_0 hx139_1 hx140_0 hx140_1 hHeld ⊢
        refine put_ HT_ 0 18 (dm_ 17 1) ?_
        refine put_ HT_ 1 19 (dm_ 17 3) ?_
        refine put_ HT_ 2 20 (dm_ 17 7) ?_
        refine put_ HT_ 3 21 (dm_ 17 15) ?_
        refine put_ HT_ 4 22 (dm_ 17 31) ?_
        refine put_ HT_ 5 23 (dm_ 17 63) ?_
        refine put_ HT_ 6 24 (dm_ 17 127) ?_
        refine put_ HT_ 7 25 (dm_ 17 255) ?_
        refine put_ HT_ 9 27 (dm_ 17 767) ?_
        refine put_ HT_ 10 28 (dm_ 17 1791) ?_
        refine put_ HT_ 11 29 (dm_ 17 3839) ?_
        refine put_ HT_ 12 30 (dm_ 17 7935) ?_
        refine tkt_ HT_ HW_ hHeld 8 26 (dm_ 17 8191) ?_
        refine tkt_ HT_ HW_ hHeld 13 31 (dm_ 17 16383) ?_
        refine one_ (i := 14) (N := some 32) (dm_ 17 32767) rfl rfl (one_of HT_.out (by kernel_rfl)) (by decide) (fun K hK => ?_)
        first | refine goes_ Try.func37 (by kernel_rfl) rfl #[.agg #[.int .i64 ((rd_T26 x0_2 x9_2).f0), .int .i64 ((rd_T26 x0_2 x9_2).f1)], .agg #[.int .i64 ((rd_T26 x0_2 (ji9)).f0), .int .i64 ((rd_T26 x0_2 (ji9)).f1)]] (by rfl) rfl rfl (by (try simp only [List.map_toArray, List.map_cons, List.map_nil]); first | done | (simp only [hji9]; rfl) | rfl | (simp only [List.length_drop, List.length_take]; rfl)) ?_ | refine goesT_ Try.func37 (by kernel_rfl) rfl #[.agg #[.int .i64 ((rd_T26 x0_2 x9_2).f0), .int .i64 ((rd_T26 x0_2 x9_2).f1)], .agg #[.int .i64 ((rd_T26 x0_2 (ji9)).f0), .int .i64 ((rd_T26 x0_2 (ji9)).f1)]] (by rfl) rfl rfl (by rfl) (by (try simp only [List.map_toArray, List.map_cons, List.map_nil]); first | done | (simp only [hji9]; rfl) | rfl | (simp only [List.length_drop, List.length_take]; rfl)) ?_
        with_reducible refine (cells_Changes_1.calls k2 ((rd_T26 x0_2 x9_2).f0) ((rd_T26 x0_2 x9_2).f1) ((rd_T26 x0_2 (ji9)).f0) ((rd_T26 x0_2 (ji9)).f1) t141 _ A12.out).mono ?_
        rintro e w24 ⟨rfl, hb⟩
        have HS0_ := (hb.cell (World.block_lt_of_cell? _ _ (hHeld.1))).trans (hHeld.1)
        have HS1_ := (hb.cell (World.block_lt_of_cell? _ _ (hHeld.2.1))).trans (hHeld.2.1)
        have HS2_ := (hb.cell (World.block_lt_of_cell? _ _ (hHeld.2.2.1))).trans (hHeld.2.2.1)
        have HS3_ := (hb.cell (World.block_lt_of_cell? _ _ (hHeld.2.2.2))).trans (hHeld.2.2.2)
        refine ⟨_, rfl, ?_⟩
        replace HO_0 := zM (Kd.R_below (rl_ HO_0) hb)
        replace HK := zM (Kept.below (S := (fun k_ => P0_ k_)) (by repeat (first | (with_reducible first | exact HK.out | apply Kept.alloc | apply Kept.drewN | apply Kept.drew) | exact HK.out)) hb)
        replace HB := zM (zB bel_ hb)
        (try clear hb)
        (try clear hb2)
        (try clear hk)
        (try clear hi)
        refine hK.out _ _ ⟨HS0_, HS1_, HS2_, HS3_⟩ (fun hHeld => ?_)
        clear hK K
        refine norm_ (a' := ?_) ?_ ?_
        rotate_left
        · show Act.put _ (some 32) _ = _
          simp only [Act.put, zS, zZ, zC, i64_w, i32_w]
          rfl
        refine put_ HT_ 15 33 (dm_ 17 65535) ?_
        refine put_ HT_ 16 34 (dm_ 17 131071) ?_
        refine done_ (done_of HT_.out (by kernel_rfl)) ?_
        try go_wp2
        go_roundg k2
        case measure => have := HK1.out; have := HK2.out; omega
        case rel => exact ⟨(x0_2), (wrap64 (x8_1 + 1)), (by first | rfl | (simp; done) | (simp [*]; done) | (simp; grind)), H', ⟨by have := HK1.out; have := HK2.out; omega⟩, ⟨by (with_reducible repeat (first | apply Kd.R_alloc | apply Kd.R_drewN | apply Kd.R_drew)); exact HO_0.out⟩, ⟨by repeat (first | (with_reducible first | exact HK.out | apply Kept.alloc | apply Kept.drewN | apply Kept.drew) | exact HK.out)⟩, ⟨bel_⟩⟩
      rw [if_pos c13] at H
      have c13b0 : decide (t141 < 0) = true := decide_eq_true c13
      clear c13
      obtain ⟨y144, hy144⟩ : ∃ y_ : List (S26), y_ = (x0_2.set (x9_2 : Int).toNat (⟨(rd_T26 x0_2 (ji9)).f0, (rd_T26 x0_2 (ji9)).f1⟩ : S26)) := ⟨_, rfl⟩
      replace H : (api_View_66.l1 k2 (y144.set ((ji9) : Int).toNat (⟨(rd_T26 x0_2 x9_2).f0, (rd_T26 x0_2 x9_2).f1⟩ : S26)) a1 a2 x8_1 ji9) = some r := by first | (rw [hy144]; with_reducible exact H) | (have H2_ := (Option.bind_some _ _).symm.trans H; rw [hy144]; with_reducible exact H2_) | (have H2_ := (Option.bind_some _ _).symm.trans H; with_reducible exact H2_) | with_reducible exact H | (rw [hy144]; exact H) | exact H
      have Ny144 := zM hy144
      clear hy144
      obtain ⟨y145, hy145⟩ : ∃ y_ : List (S26), y_ = (y144.set ((ji9) : Int).toNat (⟨(rd_T26 x0_2 x9_2).f0, (rd_T26 x0_2 x9_2).f1⟩ : S26)) := ⟨_, rfl⟩
      replace H : (api_View_66.l1 k2 y145 a1 a2 x8_1 ji9) = some r := by first | (rw [hy145]; with_reducible exact H) | (have H2_ := (Option.bind_some _ _).symm.trans H; rw [hy145]; with_reducible exact H2_) | (have H2_ := (Option.bind_some _ _).symm.trans H; with_reducible exact H2_) | with_reducible exact H | (rw [hy145]; exact H) | exact H
      have Ny145 := zM hy145
      clear hy145
      have H' := zM H
      clear H
      try go_wp2
      replace HO_0 := zM (Kd.R_drew HO_0.out)
      replace HK := zM (Kept.drew HK.out)
      replace HB := zM (below_drew1 HB.out)
      obtain ⟨Ao17, co17, eo17⟩ := Kd.R_slice HO_0.out
      (first | subst eo17 | (injection eo17 with f1_ f2_ f3_; have f4_ := f1_.symm; have f5_ := f3_.symm; clear f1_ f2_ f3_; subst f4_; subst f5_))
      have p139 : 0 ≤ (x9_2 : Int) := of_decide_eq_true (by first | (with_reducible assumption) | assumption)
      have q139 : x9_2 < (x0_2.length : Int) := of_decide_eq_true (by first | (with_reducible assumption) | assumption)
      obtain ⟨ad139, e139, hx139_0, hx139_1⟩ := at_T26 (Kd.R_reads' HO_0.out).2.2 x9_2 p139 q139
      cases e139
      replace p139 := eq_true p139
      replace q139 := eq_true q139
      have p140 : 0 ≤ ((ji9) : Int) := of_decide_eq_true (by first | (with_reducible assumption) | assumption)
      have q140 : (ji9) < (x0_2.length : Int) := of_decide_eq_true (by first | (with_reducible assumption) | assumption)
      obtain ⟨ad140, e140, hx140_0, hx140_1⟩ := at_T26 (Kd.R_reads' HO_0.out).2.2 (ji9) p140 q140
      obtain rfl : ad139 = ad140 := (by injection e140)
      replace p140 := eq_true p140
      replace q140 := eq_true q140
      refine start_ (n := 17) (S := fun w' => w'.cell? (ad139.add ((x9_2).toNat * 2)) = some (.int .i64 ((rd_T26 x0_2 x9_2).f0)) ∧ w'.cell? ⟨(ad139.add ((x9_2).toNat * 2)).block, (ad139.add ((x9_2).toNat * 2)).off + 1, none⟩ = some (.int .i64 ((rd_T26 x0_2 x9_2).f1)) ∧ w'.cell? (ad139.add (((ji9)).toNat * 2)) = some (.int .i64 ((rd_T26 x0_2 (ji9)).f0)) ∧ w'.cell? ⟨(ad139.add (((ji9)).toNat * 2)).block, (ad139.add (((ji9)).toNat * 2)).off + 1, none⟩ = some (.int .i64 ((rd_T26 x0_2 (ji9)).f1))) (ds := []) #[F_, F_, F_, F_, F_, F_, F_, F_, F_, F_, F_, F_, F_, F_, F_, F_, F_] (by kernel_rfl) rfl rfl ⟨hx139_0, hx139_1, hx140_0, hx140_1⟩ (fun hHeld => ?_); refine with_tabW api_View_66.tab4 api_View_66.bits4 (fun HT_ HW_ => ?_)
      generalize wr.drew = w16 at HO_0 HK HB hx139_0 hx139_1 hx140_0 hx140_1 hHeld ⊢
      refine put_ HT_ 0 18 (dm_ 17 1) ?_
      refine put_ HT_ 1 19 (dm_ 17 3) ?_
      refine put_ HT_ 2 20 (dm_ 17 7) ?_
      refine put_ HT_ 3 21 (dm_ 17 15) ?_
      refine put_ HT_ 4 22 (dm_ 17 31) ?_
      refine put_ HT_ 5 23 (dm_ 17 63) ?_
      refine put_ HT_ 6 24 (dm_ 17 127) ?_
      refine put_ HT_ 7 25 (dm_ 17 255) ?_
      refine put_ HT_ 9 27 (dm_ 17 767) ?_
      refine put_ HT_ 10 28 (dm_ 17 1791) ?_
      refine put_ HT_ 11 29 (dm_ 17 3839) ?_
      refine put_ HT_ 12 30 (dm_ 17 7935) ?_
      refine tkt_ HT_ HW_ hHeld 8 26 (dm_ 17 8191) ?_
      refine tkt_ HT_ HW_ hHeld 13 31 (dm_ 17 16383) ?_
      refine one_ (i := 14) (N := some 32) (dm_ 17 32767) rfl rfl (one_of HT_.out (by kernel_rfl)) (by decide) (fun K hK => ?_)
      first | refine goes_ Try.func37 (by kernel_rfl) rfl #[.agg #[.int .i64 ((rd_T26 x0_2 x9_2).f0), .int .i64 ((rd_T26 x0_2 x9_2).f1)], .agg #[.int .i64 ((rd_T26 x0_2 (ji9)).f0), .int .i64 ((rd_T26 x0_2 (ji9)).f1)]] (by rfl) rfl rfl (by (try simp only [List.map_toArray, List.map_cons, List.map_nil]); first | done | (simp only [hji9]; rfl) | rfl | (simp only [List.length_drop, List.length_take]; rfl)) ?_ | refine goesT_ Try.func37 (by kernel_rfl) rfl #[.agg #[.int .i64 ((rd_T26 x0_2 x9_2).f0), .int .i64 ((rd_T26 x0_2 x9_2).f1)], .agg #[.int .i64 ((rd_T26 x0_2 (ji9)).f0), .int .i64 ((rd_T26 x0_2 (ji9)).f1)]] (by rfl) rfl rfl (by rfl) (by (try simp only [List.map_toArray, List.map_cons, List.map_nil]); first | done | (simp only [hji9]; rfl) | rfl | (simp only [List.length_drop, List.length_take]; rfl)) ?_
      with_reducible refine (cells_Changes_1.calls k2 ((rd_T26 x0_2 x9_2).f0) ((rd_T26 x0_2 x9_2).f1) ((rd_T26 x0_2 (ji9)).f0) ((rd_T26 x0_2 (ji9)).f1) t141 _ A12.out).mono ?_
      rintro e w18 ⟨rfl, hb⟩
      have HS0_ := (hb.cell (World.block_lt_of_cell? _ _ (hHeld.1))).trans (hHeld.1)
      have HS1_ := (hb.cell (World.block_lt_of_cell? _ _ (hHeld.2.1))).trans (hHeld.2.1)
      have HS2_ := (hb.cell (World.block_lt_of_cell? _ _ (hHeld.2.2.1))).trans (hHeld.2.2.1)
      have HS3_ := (hb.cell (World.block_lt_of_cell? _ _ (hHeld.2.2.2))).trans (hHeld.2.2.2)
      refine ⟨_, rfl, ?_⟩
      replace HO_0 := zM (Kd.R_below (rl_ HO_0) hb)
      replace HK := zM (Kept.below (S := (fun k_ => P0_ k_)) (by repeat (first | (with_reducible first | exact HK.out | apply Kept.alloc | apply Kept.drewN | apply Kept.drew) | exact HK.out)) hb)
      replace HB := zM (zB bel_ hb)
      (try clear hb)
      (try clear hb2)
      (try clear hk)
      (try clear hi)
      refine hK.out _ _ ⟨HS0_, HS1_, HS2_, HS3_⟩ (fun hHeld => ?_)
      clear hK K
      refine norm_ (a' := ?_) ?_ ?_
      rotate_left
      · show Act.put _ (some 32) _ = _
        simp only [Act.put, zS, zZ, zC, i64_w, i32_w]
        rfl
      refine put_ HT_ 15 33 (dm_ 17 65535) ?_
      refine put_ HT_ 16 34 (dm_ 17 131071) ?_
      refine done_ (done_of HT_.out (by kernel_rfl)) ?_
      try go_wp2
      replace HO_0 := zM (Kd.R_drew HO_0.out)
      replace HK := zM (Kept.drew HK.out)
      replace HB := zM (below_drew1 HB.out)
      have p142 : 0 ≤ ((ji9) : Int) := of_decide_eq_true (by first | (with_reducible assumption) | assumption)
      have q142 : (ji9) < (x0_2.length : Int) := of_decide_eq_true (by first | (with_reducible assumption) | assumption)
      obtain ⟨ad142, e142, hx142_0, hx142_1⟩ := at_T26 (Kd.R_reads' HO_0.out).2.2 (ji9) p142 q142
      obtain rfl : ad139 = ad142 := (by injection e142)
      replace p142 := eq_true p142
      replace q142 := eq_true q142
      have p143 : 0 ≤ (x9_2 : Int) := of_decide_eq_true (by first | (with_reducible assumption) | assumption)
      have q143 : x9_2 < (x0_2.length : Int) := of_decide_eq_true (by first | (with_reducible assumption) | assumption)
      obtain ⟨ad143, e143, hx143_0, hx143_1⟩ := at_T26 (Kd.R_reads' HO_0.out).2.2 x9_2 p143 q143
      obtain rfl : ad139 = ad143 := (by injection e143)
      replace p143 := eq_true p143
      replace q143 := eq_true q143
      have p14 : 0 ≤ (x9_2 : Int) := of_decide_eq_true (by first | (with_reducible assumption) | assumption)
      have q14 : (x9_2 : Int) < ((x0_2.length : Int) : Int) := of_decide_eq_true (by first | (with_reducible assumption) | assumption)
      obtain ⟨go14, co14, eo14, gb14, gl14, cl14, HG14⟩ := Kd.R_form HO_0.out (by omega)
      (first | cases eo14 | (injection eo14 with ea_ en_ ec_; (first | subst ea_ | (injection ea_ with ea_; subst ea_)); subst ec_; clear en_))
      have GB14 := zM gb14
      have GG14 := zM HG14
      clear gb14 gl14 HG14
      have HMgo14 := zM (show (P0_ go14 ∨ w.heap.size ≤ go14) from (HO_0.out.1 _ rfl))
      (first | simp only [add_plain] at hx139_0 | skip)
      (first | simp only [add_plain] at hx139_1 | skip)
      (first | simp only [add_plain] at hx140_0 | skip)
      (first | simp only [add_plain] at hx140_1 | skip)
      (first | simp only [add_plain] at hx142_0 | skip)
      (first | simp only [add_plain] at hx142_1 | skip)
      (first | simp only [add_plain] at hx143_0 | skip)
      (first | simp only [add_plain] at hx143_1 | skip)
      obtain ⟨ce14, hcl14, hM14, hcc14, hfr14⟩ := Kd.R_elem HO_0.out z26 (x9_2 : Int) p14 q14
      obtain rfl := k26_openM hM14
      have hx14_0 : World.cell? _ ⟨go14, (x9_2 : Int).toNat * 2, none⟩ = some (.int .i64 ((rd_T26 x0_2 x9_2).f0)) := hcc14 0 _ rfl
      have hx14_1 : World.cell? _ ⟨go14, (x9_2 : Int).toNat * 2 + 1, none⟩ = some (.int .i64 ((rd_T26 x0_2 x9_2).f1)) := hcc14 1 _ rfl
      have hf14_0 : World.frozen? _ ⟨go14, (x9_2 : Int).toNat * 2, none⟩ = false := hfr14 0
      have hf14_1 : World.frozen? _ ⟨go14, (x9_2 : Int).toNat * 2 + 1, none⟩ = false := hfr14 1
      clear hcl14 hcc14 hfr14 hM14
      replace p14 := eq_true p14
      replace q14 := eq_true q14
      obtain ⟨ce20, hcl20, hM20, hcc20, hfr20⟩ := Kd.R_elem HO_0.out z26 (x9_2 : Int) (of_decide_eq_true (by first | (with_reducible assumption) | assumption)) (by have h_ : (x9_2 : Int) < ((x0_2.length : Int) : Int) := of_decide_eq_true (by first | (with_reducible assumption) | assumption); first | exact h_ | (have e_ := (Kd.R_reads' HO_0.out).1; omega) | simpa using h_)
      obtain rfl := k26_openM hM20
      have HP20 := (Kd.R_seg HO_0.out (x9_2 : Int) (of_decide_eq_true (by first | (with_reducible assumption) | assumption)) (by have h_ : (x9_2 : Int) < ((x0_2.length : Int) : Int) := of_decide_eq_true (by first | (with_reducible assumption) | assumption); first | exact h_ | (have e_ := (Kd.R_reads' HO_0.out).1; omega) | simpa using h_) (seg := [.int .i64 ((rd_T26 x0_2 (ji9)).f0), .int .i64 ((rd_T26 x0_2 (ji9)).f1)]) (j := 0) hcl20 hcc20 (show 2 ≤ 2 from by decide) (x' := (⟨(rd_T26 x0_2 (ji9)).f0, (rd_T26 x0_2 (ji9)).f1⟩ : S26)) (k26_mkM _ _ _ (⟨(rd_T26 x0_2 (ji9)).f0, (rd_T26 x0_2 (ji9)).f1⟩ : S26) ) (fun _ hk => hk)).1
      rw [← Ny144.out] at HP20
      have HQ20 := zM HP20
      clear hcl20 hcc20 hfr20 hM20 HP20
      have p15 : 0 ≤ ((ji9) : Int) := of_decide_eq_true (by first | (with_reducible assumption) | assumption)
      have q15 : ((ji9) : Int) < ((x0_2.length : Int) : Int) := of_decide_eq_true (by first | (with_reducible assumption) | assumption)
      obtain ⟨ce15, hcl15, hM15, hcc15, hfr15⟩ := Kd.R_elem HQ20.out z26 ((ji9) : Int) p15 q15
      obtain rfl := k26_openM hM15
      have hx15_0 : World.cell? _ ⟨go14, ((ji9) : Int).toNat * 2, none⟩ = some (.int .i64 ((rd_T26 y144 (ji9)).f0)) := hcc15 0 _ rfl
      have hx15_1 : World.cell? _ ⟨go14, ((ji9) : Int).toNat * 2 + 1, none⟩ = some (.int .i64 ((rd_T26 y144 (ji9)).f1)) := hcc15 1 _ rfl
      have hf15_0 : World.frozen? _ ⟨go14, ((ji9) : Int).toNat * 2, none⟩ = false := hfr15 0
      have hf15_1 : World.frozen? _ ⟨go14, ((ji9) : Int).toNat * 2 + 1, none⟩ = false := hfr15 1
      clear hcl15 hcc15 hfr15 hM15
      replace p15 := eq_true p15
      replace q15 := eq_true q15
      obtain ⟨ce21, hcl21, hM21, hcc21, hfr21⟩ := Kd.R_elem HQ20.out z26 ((ji9) : Int) (of_decide_eq_true (by first | (with_reducible assumption) | assumption)) (by have h_ : ((ji9) : Int) < ((x0_2.length : Int) : Int) := of_decide_eq_true (by first | (with_reducible assumption) | assumption); first | exact h_ | (have e_ := (Kd.R_reads' HO_0.out).1; omega) | simpa using h_)
      obtain rfl := k26_openM hM21
      have HP21 := (Kd.R_seg HQ20.out ((ji9) : Int) (of_decide_eq_true (by first | (with_reducible assumption) | assumption)) (by have h_ : ((ji9) : Int) < ((x0_2.length : Int) : Int) := of_decide_eq_true (by first | (with_reducible assumption) | assumption); first | exact h_ | (have e_ := (Kd.R_reads' HO_0.out).1; omega) | simpa using h_) (seg := [.int .i64 ((rd_T26 x0_2 x9_2).f0), .int .i64 ((rd_T26 x0_2 x9_2).f1)]) (j := 0) hcl21 hcc21 (show 2 ≤ 2 from by decide) (x' := (⟨(rd_T26 x0_2 x9_2).f0, (rd_T26 x0_2 x9_2).f1⟩ : S26)) (k26_mkM _ _ _ (⟨(rd_T26 x0_2 x9_2).f0, (rd_T26 x0_2 x9_2).f1⟩ : S26) ) (fun _ hk => hk)).1
      rw [← Ny145.out] at HP21
      have HQ21 := zM HP21
      clear hcl21 hcc21 hfr21 hM21 HP21
      refine start_ (n := 18) (S := fun w' => w'.cell? ⟨go14, (((ji9)).toNat * 2), none⟩ = some (.int .i64 ((rd_T26 x0_2 (ji9)).f0)) ∧ w'.cell? ⟨go14, (((ji9)).toNat * 2) + 1, none⟩ = some (.int .i64 ((rd_T26 x0_2 (ji9)).f1)) ∧ w'.cell? ⟨go14, ((x9_2).toNat * 2), none⟩ = some (.int .i64 ((rd_T26 x0_2 x9_2).f0)) ∧ w'.cell? ⟨go14, ((x9_2).toNat * 2) + 1, none⟩ = some (.int .i64 ((rd_T26 x0_2 x9_2).f1))) (ds := [15, 17]) #[F_, F_, F_, F_, F_, F_, F_, F_, F_, F_, F_, F_, F_, F_, F_, F_, F_, F_] (by kernel_rfl) rfl rfl ⟨hx142_0, hx142_1, hx143_0, hx143_1⟩ (fun hHeld => ?_); refine with_tabW api_View_66.tab6 api_View_66.bits6 (fun HT_ HW_ => ?_)
      generalize w18.drew = w19 at HO_0 HK HB GG14 HQ20 HQ21 hf14_0 hf14_1 hf15_0 hf15_1 hx139_0 hx139_1 hx140_0 hx140_1 hx142_0 hx142_1 hx143_0 hx143_1 hx14_0 hx14_1 hx15_0 hx15_1 hHeld ⊢
      (try (have hy14_0 := hx14_0; simp only [World.setCells, show k26.sz = 2 from rfl, Nat.add_zero] at hy14_0; (try simp [go_sem] at hy14_0)))
      (try (have hg14_0 := hf14_0; simp only [World.setCells, show k26.sz = 2 from rfl, Nat.add_zero] at hg14_0; (try simp [go_sem] at hg14_0)))
      (try (have hy14_1 := hx14_1; simp only [World.setCells, show k26.sz = 2 from rfl, Nat.add_zero] at hy14_1; (try simp [go_sem] at hy14_1)))
      (try (have hg14_1 := hf14_1; simp only [World.setCells, show k26.sz = 2 from rfl, Nat.add_zero] at hg14_1; (try simp [go_sem] at hg14_1)))
      (try (have hy15_0 := hx15_0; simp only [World.setCells, show k26.sz = 2 from rfl, Nat.add_zero] at hy15_0; (try simp [go_sem] at hy15_0)))
      (try (have hg15_0 := hf15_0; simp only [World.setCells, show k26.sz = 2 from rfl, Nat.add_zero] at hg15_0; (try simp [go_sem] at hg15_0)))
      (try (have hy15_1 := hx15_1; simp only [World.setCells, show k26.sz = 2 from rfl, Nat.add_zero] at hy15_1; (try simp [go_sem] at hy15_1)))
      (try (have hg15_1 := hf15_1; simp only [World.setCells, show k26.sz = 2 from rfl, Nat.add_zero] at hg15_1; (try simp [go_sem] at hg15_1)))
      refine put_ HT_ 0 37 (dm_ 18 1) ?_
      refine put_ HT_ 1 38 (dm_ 18 3) ?_
      refine put_ HT_ 2 39 (dm_ 18 7) ?_
      refine put_ HT_ 3 40 (dm_ 18 15) ?_
      refine put_ HT_ 4 41 (dm_ 18 31) ?_
      refine put_ HT_ 5 42 (dm_ 18 63) ?_
      refine put_ HT_ 6 43 (dm_ 18 127) ?_
      refine put_ HT_ 7 44 (dm_ 18 255) ?_
      refine put_ HT_ 8 45 (dm_ 18 511) ?_
      refine put_ HT_ 10 47 (dm_ 18 1535) ?_
      refine put_ HT_ 11 48 (dm_ 18 3583) ?_
      refine put_ HT_ 12 49 (dm_ 18 7679) ?_
      refine tkt_ HT_ HW_ hHeld 9 46 (dm_ 18 8191) ?_
      refine tkt_ HT_ HW_ hHeld 13 50 (dm_ 18 16383) ?_
      refine put_ HT_ 14 51 (dm_ 18 32767) ?_
      refine last_ (i := 15) (N := none) #[T_, T_, T_, T_, T_, T_, T_, T_, T_, T_, T_, T_, T_, T_, T_, T_, F_, F_] rfl rfl (one_of HT_.out (by kernel_rfl)) (by decide) (fun K hK => ?_)
      refine skip_ (w1 := ?_) (by rfl) rfl ?_ ?_
      rotate_left
      · go_simp
        rfl
      refine hK.out _ _ ?_
      clear hK K
      refine put_ HT_ 16 52 (dm_ 18 131071) ?_
      refine last_ (i := 17) (N := none) #[T_, T_, T_, T_, T_, T_, T_, T_, T_, T_, T_, T_, T_, T_, T_, T_, T_, T_] rfl rfl (one_of HT_.out (by kernel_rfl)) (by decide) (fun K hK => ?_)
      refine skip_ (w1 := ?_) (by rfl) rfl ?_ ?_
      rotate_left
      · go_simp
        rfl
      refine hK.out _ _ ?_
      clear hK K
      refine done_ (done_of HT_.out (by kernel_rfl)) ?_
      try go_wp2
      go_roundg k2
      case measure => have := HK1.out; have := HK2.out; omega
      case rel => exact ⟨(y145), (ji9), (by first | rfl | (simp; done) | (simp only [← hji9] <;> (first | rfl | simp)) | (simp [*]; done)), H', ⟨by have := HK1.out; have := HK2.out; omega⟩, ⟨by (with_reducible repeat (first | apply Kd.R_alloc | apply Kd.R_drewN | apply Kd.R_drew)); exact HQ21.out⟩, ⟨by repeat (first | (with_reducible first | exact HK.out | apply Kept.alloc | apply Kept.drewN | apply Kept.drew | refine Kept.setCell ?_ HMgo14.out _ | refine Kept.setCell ?_ HMgo14.out _ | refine Kept.setCell ?_ HMgo14.out _ | refine Kept.setCell ?_ HMgo14.out _) | exact HK.out)⟩, ⟨by repeat (first | (with_reducible first | exact HB.out | apply below_alloc | apply pw_below_drewN | apply below_drew1 | refine below_set ?_ GB14.out | refine below_set ?_ GB14.out | refine below_set ?_ GB14.out | refine below_set ?_ GB14.out) | exact HB.out)⟩⟩
end Go.Proofs.Ytoelfknhnmhlmaa.PSnapRuns
