/- Written by a program of this session (wip/tool/px.py) over the kit's print: what the code that the law PastSources reaches computes, function by function, and the law's row. -/
import Derived.Test.YtmenkbdaabjojaaPPastSourcesx0
import Derived.Test.YtmenkbdaabjojaaPPastSourcesx3
import Derived.Test.YtmenkbdaabjojaaPPastSourcesx4
import Derived.Test.YtmenkbdaabjojaaPPastSourcesx6
namespace Go.Proofs.Ytmenkbdaabjojaa.PPastSources
open Go.RowKit Go.Proofs.YtmenkbdaabjojaaX Go.Proofs.YtmenkbdaabjojaaW.PrintWords Go.Proofs.YtmenkbdaabjojaaW.PrintLast Go.Proofs.YtmenkbdaabjojaaW.PrintMore
open List renaming setIfInBounds_toArray → zS, set_cons_zero → zZ, set_cons_succ → zC
open Go.Proofs.YtmenkbdaabjojaaW.PrintWords renaming blk_drewN → zN, blk_drew → zD, blk_alloc → zA, blk_cell → zL, blk_frozen → zF, below_step → zB
open Go.Proofs.YtmenkbdaabjojaaW.PrintWords.Aside0 renaming mk → zM
attribute [local go_sem] max2_int min2_int max_two min_two max_three min_three max_four min_four   -- for this text's walks alone
set_option linter.unusedVariables false
set_option linter.unusedSimpArgs false

attribute [local go_sem] px_store_float px_neg_float px_call40
/-! ### past_Fits: function 8 -/
mutual
def past_Fits.l0 : Nat → List (S35) → List (S35) → Int → Int → Option (Bool)
  | 0, _, _, _, _ => none
  | k + 1, x0, x7, x8, x9 => if x9 < x8 then (if 0 ≤ x9 then (if x9 < (x7.length : Int) then ((past_keyed.f ((rd_T35 x7 x9).f0) ((rd_T35 x7 x9).f1) ((rd_T35 x7 x9).f2) ((rd_T35 x7 x9).f3.f0) ((rd_T35 x7 x9).f3.f1) ((rd_T35 x7 x9).f3.f2) ((rd_T35 x7 x9).f3.f3.f0) ((rd_T35 x7 x9).f3.f3.f1) ((rd_T35 x7 x9).f4.f0) ((rd_T35 x7 x9).f4.f1.f0) ((rd_T35 x7 x9).f4.f1.f1) ((rd_T35 x7 x9).f4.f2.f0) ((rd_T35 x7 x9).f4.f2.f1.f0) ((rd_T35 x7 x9).f4.f2.f1.f1) ((rd_T35 x7 x9).f4.f2.f2)).bind fun t155 => (if t155 = true then ((past_Well.f ((rd_T35 x7 x9).f0) ((rd_T35 x7 x9).f1) ((rd_T35 x7 x9).f2) ((rd_T35 x7 x9).f3.f0) ((rd_T35 x7 x9).f3.f1) ((rd_T35 x7 x9).f3.f2) ((rd_T35 x7 x9).f3.f3.f0) ((rd_T35 x7 x9).f3.f3.f1) ((rd_T35 x7 x9).f4.f0) ((rd_T35 x7 x9).f4.f1.f0) ((rd_T35 x7 x9).f4.f1.f1) ((rd_T35 x7 x9).f4.f2.f0) ((rd_T35 x7 x9).f4.f2.f1.f0) ((rd_T35 x7 x9).f4.f2.f1.f1) ((rd_T35 x7 x9).f4.f2.f2)).bind fun t156 => (past_Fits.j1 k x0 x9 x7 x8 x9 (!t156) ((rd_T35 x7 x9).f0) ((rd_T35 x7 x9).f1) ((rd_T35 x7 x9).f2) ((rd_T35 x7 x9).f3.f0) ((rd_T35 x7 x9).f3.f1) ((rd_T35 x7 x9).f3.f2) ((rd_T35 x7 x9).f3.f3.f0) ((rd_T35 x7 x9).f3.f3.f1) ((rd_T35 x7 x9).f4.f0) ((rd_T35 x7 x9).f4.f1.f0) ((rd_T35 x7 x9).f4.f1.f1) ((rd_T35 x7 x9).f4.f2.f0) ((rd_T35 x7 x9).f4.f2.f1.f0) ((rd_T35 x7 x9).f4.f2.f1.f1) ((rd_T35 x7 x9).f4.f2.f2))) else (past_Fits.j1 k x0 x9 x7 x8 x9 true ((rd_T35 x7 x9).f0) ((rd_T35 x7 x9).f1) ((rd_T35 x7 x9).f2) ((rd_T35 x7 x9).f3.f0) ((rd_T35 x7 x9).f3.f1) ((rd_T35 x7 x9).f3.f2) ((rd_T35 x7 x9).f3.f3.f0) ((rd_T35 x7 x9).f3.f3.f1) ((rd_T35 x7 x9).f4.f0) ((rd_T35 x7 x9).f4.f1.f0) ((rd_T35 x7 x9).f4.f1.f1) ((rd_T35 x7 x9).f4.f2.f0) ((rd_T35 x7 x9).f4.f2.f1.f0) ((rd_T35 x7 x9).f4.f2.f1.f1) ((rd_T35 x7 x9).f4.f2.f2)))) else (none)) else (none)) else (some true)
def past_Fits.j1 : Nat → List (S35) → Int → List (S35) → Int → Int → Bool → Int → Int → Int → Int → Int → Nat → Int → Int → Int → Int → Int → Int → Int → Int → Nat → Option (Bool)
  | 0, _, _, _, _, _, _, _, _, _, _, _, _, _, _, _, _, _, _, _, _, _ => none
  | k + 1, x0, x3, x7, x8, x9, x21, x155000, x155001, x155002, x155003, x155004, x155005, x155006, x155007, x155008, x155009, x155010, x155011, x155012, x155013, x155014 => if x21 = true then (past_Fits.l0 k x0 x7 x8 (wrap64 (x9 + 1))) else ((past_alone.f k x0 x3).bind fun t157 => (if t157 = true then (past_Fits.l1 k x0 x3 x7 x8 x9 x0 (x0.length : Int) 0 x155000 x155001 x155002 x155003 x155004 x155005 x155006 x155007 x155008 x155009 x155010 x155011 x155012 x155013 x155014) else (some false)))
def past_Fits.l1 : Nat → List (S35) → Int → List (S35) → Int → Int → List (S35) → Int → Int → Int → Int → Int → Int → Int → Nat → Int → Int → Int → Int → Int → Int → Int → Int → Nat → Option (Bool)
  | 0, _, _, _, _, _, _, _, _, _, _, _, _, _, _, _, _, _, _, _, _, _, _, _ => none
  | k + 1, x0, x3, x7, x8, x9, x26, x27, x28, x155000, x155001, x155002, x155003, x155004, x155005, x155006, x155007, x155008, x155009, x155010, x155011, x155012, x155013, x155014 => if x28 < x27 then (if 0 ≤ x28 then (if x28 < (x26.length : Int) then (if x28 = x3 then (past_Fits.l1 k x0 x3 x7 x8 x9 x26 x27 (wrap64 (x28 + 1)) x155000 x155001 x155002 x155003 x155004 x155005 x155006 x155007 x155008 x155009 x155010 x155011 x155012 x155013 x155014) else ((past_keyed.f ((rd_T35 x26 x28).f0) ((rd_T35 x26 x28).f1) ((rd_T35 x26 x28).f2) ((rd_T35 x26 x28).f3.f0) ((rd_T35 x26 x28).f3.f1) ((rd_T35 x26 x28).f3.f2) ((rd_T35 x26 x28).f3.f3.f0) ((rd_T35 x26 x28).f3.f3.f1) ((rd_T35 x26 x28).f4.f0) ((rd_T35 x26 x28).f4.f1.f0) ((rd_T35 x26 x28).f4.f1.f1) ((rd_T35 x26 x28).f4.f2.f0) ((rd_T35 x26 x28).f4.f2.f1.f0) ((rd_T35 x26 x28).f4.f2.f1.f1) ((rd_T35 x26 x28).f4.f2.f2)).bind fun t160 => (if t160 = true then ((past_Well.f ((rd_T35 x26 x28).f0) ((rd_T35 x26 x28).f1) ((rd_T35 x26 x28).f2) ((rd_T35 x26 x28).f3.f0) ((rd_T35 x26 x28).f3.f1) ((rd_T35 x26 x28).f3.f2) ((rd_T35 x26 x28).f3.f3.f0) ((rd_T35 x26 x28).f3.f3.f1) ((rd_T35 x26 x28).f4.f0) ((rd_T35 x26 x28).f4.f1.f0) ((rd_T35 x26 x28).f4.f1.f1) ((rd_T35 x26 x28).f4.f2.f0) ((rd_T35 x26 x28).f4.f2.f1.f0) ((rd_T35 x26 x28).f4.f2.f1.f1) ((rd_T35 x26 x28).f4.f2.f2)).bind fun t161 => (if t161 = true then ((past_pair.f k x155000 x155001 x155002 x155003 x155004 x155005 x155006 x155007 x155008 x155009 x155010 x155011 x155012 x155013 x155014 ((rd_T35 x26 x28).f0) ((rd_T35 x26 x28).f1) ((rd_T35 x26 x28).f2) ((rd_T35 x26 x28).f3.f0) ((rd_T35 x26 x28).f3.f1) ((rd_T35 x26 x28).f3.f2) ((rd_T35 x26 x28).f3.f3.f0) ((rd_T35 x26 x28).f3.f3.f1) ((rd_T35 x26 x28).f4.f0) ((rd_T35 x26 x28).f4.f1.f0) ((rd_T35 x26 x28).f4.f1.f1) ((rd_T35 x26 x28).f4.f2.f0) ((rd_T35 x26 x28).f4.f2.f1.f0) ((rd_T35 x26 x28).f4.f2.f1.f1) ((rd_T35 x26 x28).f4.f2.f2)).bind fun t162 => (if t162 = true then (past_Fits.l1 k x0 x3 x7 x8 x9 x26 x27 (wrap64 (x28 + 1)) x155000 x155001 x155002 x155003 x155004 x155005 x155006 x155007 x155008 x155009 x155010 x155011 x155012 x155013 x155014) else (some false))) else (past_Fits.l1 k x0 x3 x7 x8 x9 x26 x27 (wrap64 (x28 + 1)) x155000 x155001 x155002 x155003 x155004 x155005 x155006 x155007 x155008 x155009 x155010 x155011 x155012 x155013 x155014))) else (past_Fits.l1 k x0 x3 x7 x8 x9 x26 x27 (wrap64 (x28 + 1)) x155000 x155001 x155002 x155003 x155004 x155005 x155006 x155007 x155008 x155009 x155010 x155011 x155012 x155013 x155014)))) else (none)) else (none)) else (past_Fits.l0 k x0 x7 x8 (wrap64 (x9 + 1)))
end
def past_Fits.f (k : Nat) (l0 : List (S35)) : Option (Bool) := past_Fits.l0 k l0 l0 (l0.length : Int) 0
theorem past_Fits.mono_l : ∀ k, (∀ y0 y1 y2 y3, LeO (past_Fits.l0 k y0 y1 y2 y3) (past_Fits.l0 (k + 1) y0 y1 y2 y3)) ∧ (∀ y0 y1 y2 y3 y4 y5 y6 y7 y8 y9 y10 y11 y12 y13 y14 y15 y16 y17 y18 y19 y20, LeO (past_Fits.j1 k y0 y1 y2 y3 y4 y5 y6 y7 y8 y9 y10 y11 y12 y13 y14 y15 y16 y17 y18 y19 y20) (past_Fits.j1 (k + 1) y0 y1 y2 y3 y4 y5 y6 y7 y8 y9 y10 y11 y12 y13 y14 y15 y16 y17 y18 y19 y20)) ∧ (∀ y0 y1 y2 y3 y4 y5 y6 y7 y8 y9 y10 y11 y12 y13 y14 y15 y16 y17 y18 y19 y20 y21 y22, LeO (past_Fits.l1 k y0 y1 y2 y3 y4 y5 y6 y7 y8 y9 y10 y11 y12 y13 y14 y15 y16 y17 y18 y19 y20 y21 y22) (past_Fits.l1 (k + 1) y0 y1 y2 y3 y4 y5 y6 y7 y8 y9 y10 y11 y12 y13 y14 y15 y16 y17 y18 y19 y20 y21 y22))
  | 0 => ⟨fun _ _ _ _ r h => by simp [past_Fits.l0] at h, fun _ _ _ _ _ _ _ _ _ _ _ _ _ _ _ _ _ _ _ _ _ r h => by simp [past_Fits.j1] at h, fun _ _ _ _ _ _ _ _ _ _ _ _ _ _ _ _ _ _ _ _ _ _ _ r h => by simp [past_Fits.l1] at h⟩
  | k + 1 => by
    obtain ⟨ih0, ih1, ih2⟩ := past_Fits.mono_l k
    refine ⟨?_, ?_, ?_⟩
    · intro y0 y1 y2 y3
      unfold past_Fits.l0
      repeat' first
      | (with_reducible exact ih0 _ _ _ _)
      | (with_reducible exact ih1 _ _ _ _ _ _ _ _ _ _ _ _ _ _ _ _ _ _ _ _ _)
      | (with_reducible exact ih2 _ _ _ _ _ _ _ _ _ _ _ _ _ _ _ _ _ _ _ _ _ _ _)
      | (with_reducible exact past_alone.mono _ _ _)
      | (with_reducible exact past_pair.mono _ _ _ _ _ _ _ _ _ _ _ _ _ _ _ _ _ _ _ _ _ _ _ _ _ _ _ _ _ _ _)
      | (with_reducible exact LeO.refl _)
      | (with_reducible exact LeO.none _)
      | (with_reducible refine LeO.ite ?_ ?_)
      | (with_reducible refine LeO.bind ?_ (fun _ => ?_))
      | exact ih0 _ _ _ _
      | exact ih1 _ _ _ _ _ _ _ _ _ _ _ _ _ _ _ _ _ _ _ _ _
      | exact ih2 _ _ _ _ _ _ _ _ _ _ _ _ _ _ _ _ _ _ _ _ _ _ _
      | exact past_alone.mono _ _ _
      | exact past_pair.mono _ _ _ _ _ _ _ _ _ _ _ _ _ _ _ _ _ _ _ _ _ _ _ _ _ _ _ _ _ _ _
      | exact LeO.none _
      | refine LeO.ite ?_ ?_
      | refine LeO.bind ?_ (fun _ => ?_)
    · intro y0 y1 y2 y3 y4 y5 y6 y7 y8 y9 y10 y11 y12 y13 y14 y15 y16 y17 y18 y19 y20
      unfold past_Fits.j1
      repeat' first
      | (with_reducible exact ih0 _ _ _ _)
      | (with_reducible exact ih1 _ _ _ _ _ _ _ _ _ _ _ _ _ _ _ _ _ _ _ _ _)
      | (with_reducible exact ih2 _ _ _ _ _ _ _ _ _ _ _ _ _ _ _ _ _ _ _ _ _ _ _)
      | (with_reducible exact past_alone.mono _ _ _)
      | (with_reducible exact past_pair.mono _ _ _ _ _ _ _ _ _ _ _ _ _ _ _ _ _ _ _ _ _ _ _ _ _ _ _ _ _ _ _)
      | (with_reducible exact LeO.refl _)
      | (with_reducible exact LeO.none _)
      | (with_reducible refine LeO.ite ?_ ?_)
      | (with_reducible refine LeO.bind ?_ (fun _ => ?_))
      | exact ih0 _ _ _ _
      | exact ih1 _ _ _ _ _ _ _ _ _ _ _ _ _ _ _ _ _ _ _ _ _
      | exact ih2 _ _ _ _ _ _ _ _ _ _ _ _ _ _ _ _ _ _ _ _ _ _ _
      | exact past_alone.mono _ _ _
      | exact past_pair.mono _ _ _ _ _ _ _ _ _ _ _ _ _ _ _ _ _ _ _ _ _ _ _ _ _ _ _ _ _ _ _
      | exact LeO.none _
      | refine LeO.ite ?_ ?_
      | refine LeO.bind ?_ (fun _ => ?_)
    · intro y0 y1 y2 y3 y4 y5 y6 y7 y8 y9 y10 y11 y12 y13 y14 y15 y16 y17 y18 y19 y20 y21 y22
      unfold past_Fits.l1
      repeat' first
      | (with_reducible exact ih0 _ _ _ _)
      | (with_reducible exact ih1 _ _ _ _ _ _ _ _ _ _ _ _ _ _ _ _ _ _ _ _ _)
      | (with_reducible exact ih2 _ _ _ _ _ _ _ _ _ _ _ _ _ _ _ _ _ _ _ _ _ _ _)
      | (with_reducible exact past_alone.mono _ _ _)
      | (with_reducible exact past_pair.mono _ _ _ _ _ _ _ _ _ _ _ _ _ _ _ _ _ _ _ _ _ _ _ _ _ _ _ _ _ _ _)
      | (with_reducible exact LeO.refl _)
      | (with_reducible exact LeO.none _)
      | (with_reducible refine LeO.ite ?_ ?_)
      | (with_reducible refine LeO.bind ?_ (fun _ => ?_))
      | exact ih0 _ _ _ _
      | exact ih1 _ _ _ _ _ _ _ _ _ _ _ _ _ _ _ _ _ _ _ _ _
      | exact ih2 _ _ _ _ _ _ _ _ _ _ _ _ _ _ _ _ _ _ _ _ _ _ _
      | exact past_alone.mono _ _ _
      | exact past_pair.mono _ _ _ _ _ _ _ _ _ _ _ _ _ _ _ _ _ _ _ _ _ _ _ _ _ _ _ _ _ _ _
      | exact LeO.none _
      | refine LeO.ite ?_ ?_
      | refine LeO.bind ?_ (fun _ => ?_)
theorem past_Fits.mono : ∀ a0 k, LeO (past_Fits.f k a0) (past_Fits.f (k + 1) a0) := by
  intro a0 k
  obtain ⟨ih0, ih1, ih2⟩ := past_Fits.mono_l k
  unfold past_Fits.f
  repeat' first
      | (with_reducible exact ih0 _ _ _ _)
      | (with_reducible exact ih1 _ _ _ _ _ _ _ _ _ _ _ _ _ _ _ _ _ _ _ _ _)
      | (with_reducible exact ih2 _ _ _ _ _ _ _ _ _ _ _ _ _ _ _ _ _ _ _ _ _ _ _)
      | (with_reducible exact past_alone.mono _ _ _)
      | (with_reducible exact past_pair.mono _ _ _ _ _ _ _ _ _ _ _ _ _ _ _ _ _ _ _ _ _ _ _ _ _ _ _ _ _ _ _)
      | (with_reducible exact LeO.refl _)
      | (with_reducible exact LeO.none _)
      | (with_reducible refine LeO.ite ?_ ?_)
      | (with_reducible refine LeO.bind ?_ (fun _ => ?_))
      | exact ih0 _ _ _ _
      | exact ih1 _ _ _ _ _ _ _ _ _ _ _ _ _ _ _ _ _ _ _ _ _
      | exact ih2 _ _ _ _ _ _ _ _ _ _ _ _ _ _ _ _ _ _ _ _ _ _ _
      | exact past_alone.mono _ _ _
      | exact past_pair.mono _ _ _ _ _ _ _ _ _ _ _ _ _ _ _ _ _ _ _ _ _ _ _ _ _ _ _ _ _ _ _
      | exact LeO.none _
      | refine LeO.ite ?_ ?_
      | refine LeO.bind ?_ (fun _ => ?_)
set_option maxHeartbeats 8000000 in
set_option maxRecDepth 100000 in
theorem past_Fits.calls (k : Nat) (A0 : Option Addr) (c0 : Nat) (l0 : List (S35)) (r : Bool) (w : World) (hr0 : Kd.C k35 w A0 l0.length l0) (hc0 : l0.length ≤ c0) (h : past_Fits.f k l0 = some r) :
    Calls Try.prog 8 #[.slice A0 l0.length c0] w fun e w' => e = .returned (.bool r) ∧ Below w.heap.size w w' := by
  have hu35 := Try.underlying35
  have HR0 := zM hr0
  have HC0 := zM hc0
  clear hr0 hc0
  have HB := zM (Below.refl w.heap.size w)
  have H : (past_Fits.l0 k l0 l0 (l0.length : Int) 0) = some r := h
  clear h
  have H' := zM H
  clear H
  go_enter Try.func8, Try.ntmps8
  (try apply wp_scope_straight)
  go_wp2_with (first | go_step3 | go_in)
  go_loopg [9] k (fun kq v9 w' => ∃ (x9_1 : Int), v9 = .int .i64 x9_1 ∧ Aside0 (past_Fits.l0 kq l0 l0 (l0.length : Int) x9_1 = some r) ∧ Aside0 (kq ≤ k) ∧ Aside0 (Below w.heap.size w w'))
  case atStart => exact ⟨(0), (by first | rfl | (simp; done) | (simp [*]; done) | (simp; grind)), H', ⟨Nat.le_refl _⟩, ⟨bel_⟩⟩
  case round =>
   clear H'
   try clear HB
   obtain ⟨x9_1, rfl, HA, HK1, HB⟩ := hrel
   cases gk with
   | zero => exact absurd HA.out (by simp [past_Fits.l0])
   | succ k1 =>
    have H := HA.out
    clear HA
    simp only [past_Fits.l0] at H
    by_cases c2 : x9_1 < (l0.length : Int)
    rotate_left
    · rw [if_neg c2] at H
      have c2b0 : decide (x9_1 < (l0.length : Int)) = false := decide_eq_false c2
      clear c2
      obtain rfl := Option.some.inj H
      go_wp2_with (first | go_step3 | go_in)
      (try rw [Exit.noGoto_ret])
      go_ret
      exact ⟨by first | rfl | (simp [errW_none, errW_some] <;> rfl) | (simp [*, errW_none, errW_some] <;> rfl), bel_⟩
    rw [if_pos c2] at H
    have c2b0 : decide (x9_1 < (l0.length : Int)) = true := decide_eq_true c2
    clear c2
    by_cases c3 : 0 ≤ x9_1
    rotate_left
    · rw [if_neg c3] at H
      exact absurd H (by simp)
    rw [if_pos c3] at H
    have c3b0 : decide (0 ≤ x9_1) = true := decide_eq_true c3
    clear c3
    by_cases c4 : x9_1 < (l0.length : Int)
    rotate_left
    · rw [if_neg c4] at H
      exact absurd H (by simp)
    rw [if_pos c4] at H
    have c4b0 : decide (x9_1 < (l0.length : Int)) = true := decide_eq_true c4
    clear c4
    have HC5 := zM H
    clear H
    have p153 : 0 ≤ (x9_1 : Int) := of_decide_eq_true (by first | (with_reducible assumption) | assumption)
    have q153 : x9_1 < (l0.length : Int) := of_decide_eq_true (by first | (with_reducible assumption) | assumption)
    obtain ⟨ad153, e153, hx153_0, hx153_1, hx153_2, hx153_3, hx153_4, hx153_5, hx153_6, hx153_7, hx153_8, hx153_9, hx153_10, hx153_11, hx153_12, hx153_13, hx153_14⟩ := at_T35 HR0.out x9_1 p153 q153
    cases e153
    replace hx153_0 := (HB.out.cell (World.block_lt_of_cell? w _ hx153_0)).trans hx153_0
    replace hx153_1 := (HB.out.cell (World.block_lt_of_cell? w _ hx153_1)).trans hx153_1
    replace hx153_2 := (HB.out.cell (World.block_lt_of_cell? w _ hx153_2)).trans hx153_2
    replace hx153_3 := (HB.out.cell (World.block_lt_of_cell? w _ hx153_3)).trans hx153_3
    replace hx153_4 := (HB.out.cell (World.block_lt_of_cell? w _ hx153_4)).trans hx153_4
    replace hx153_5 := (HB.out.cell (World.block_lt_of_cell? w _ hx153_5)).trans hx153_5
    replace hx153_6 := (HB.out.cell (World.block_lt_of_cell? w _ hx153_6)).trans hx153_6
    replace hx153_7 := (HB.out.cell (World.block_lt_of_cell? w _ hx153_7)).trans hx153_7
    replace hx153_8 := (HB.out.cell (World.block_lt_of_cell? w _ hx153_8)).trans hx153_8
    replace hx153_9 := (HB.out.cell (World.block_lt_of_cell? w _ hx153_9)).trans hx153_9
    replace hx153_10 := (HB.out.cell (World.block_lt_of_cell? w _ hx153_10)).trans hx153_10
    replace hx153_11 := (HB.out.cell (World.block_lt_of_cell? w _ hx153_11)).trans hx153_11
    replace hx153_12 := (HB.out.cell (World.block_lt_of_cell? w _ hx153_12)).trans hx153_12
    replace hx153_13 := (HB.out.cell (World.block_lt_of_cell? w _ hx153_13)).trans hx153_13
    replace hx153_14 := (HB.out.cell (World.block_lt_of_cell? w _ hx153_14)).trans hx153_14
    replace p153 := eq_true p153
    replace q153 := eq_true q153
    go_upto_region 4 with (first | ((with_reducible refine gld_ (t := 35) ?_); (try (refine gate_guard (by rfl) ?_; dsimp only)); first | refine wl15_ rfl 35 _ rfl rfl Try.underlying35 rfl (by kernel_rfl) ?_ | refine wlr15_ (g := gb154) rfl 35 _ rfl rfl Try.underlying35 rfl (by kernel_rfl) ?_ (hb := BK154.out) | refine wlr15_ (g := gb159) rfl 35 _ rfl rfl Try.underlying35 rfl (by kernel_rfl) ?_ (hb := BK159.out)) | ((with_reducible refine gst_ (t := 35) ?_); refine ws15_ (g := gb154) rfl 35 _ _ rfl rfl rfl (by kernel_rfl) ?_ (hb := BK154); generalize hW_ : World.setCell _ _ _ = w9_; replace BK154 : Aside0 (w9_.heap[gb154]? = some (.cells (e35_ (rd_T35 l0 x9_1)) 35 (0, 0))) := ⟨by rw [← hW_]; exact fxw15_ BK154⟩; replace HB : Aside0 (Below w.heap.size w w9_) := ⟨by rw [← hW_]; exact bl15_ HB.out GE154⟩; clear hW_) | ((with_reducible refine gst_ (t := 35) ?_); refine ws15_ (g := gb159) rfl 35 _ _ rfl rfl rfl (by kernel_rfl) ?_ (hb := BK159); generalize hW_ : World.setCell _ _ _ = w9_; replace BK159 : Aside0 (w9_.heap[gb159]? = some (.cells (e35_ (rd_T35 l0 x28_3)) 35 (0, 0))) := ⟨by rw [← hW_]; exact fxw15_ BK159⟩; replace BK154 : Aside0 (w9_.heap[gb154]? = some (.cells (e35_ (rd_T35 l0 x9_1)) 35 (0, 0))) := ⟨by rw [← hW_]; exact bf15_ BK154.out NB154_159⟩; replace HB : Aside0 (Below w.heap.size w w9_) := ⟨by rw [← hW_]; exact bl15_ HB.out GE159⟩; clear hW_) | ((with_reducible refine gate_dst (N := 4) rfl ?_); refine box_event ?hg (N := 4) ?hd (cs := #[.int .i64 0, .int .i64 0, .int .i64 0, .int .i64 0, .int .i64 0, .float .f64 0, .int .i64 0, .int .i64 0, .int .i64 0, .int .i64 0, .int .i64 0, .int .i64 0, .int .i64 0, .int .i64 0, .float .f64 0]) (t := 35) ?hr ?_; (case hd => rfl); (case hg => rfl); (case hr => first | (go_simp; done) | (go_simp; rfl)); intro gb154 hg w6 hbox hb; have BK154 := zM (hbox); have GW154 := zM (bs_ hg); have GE154 := zM (bs_ hg); replace HB := zM (zB bel_ hb); clear hb hbox hg; obtain ⟨hcz7_0, hcz7_1, hcz7_2, hcz7_3, hcz7_4, hcz7_5, hcz7_6, hcz7_7, hcz7_8, hcz7_9, hcz7_10, hcz7_11, hcz7_12, hcz7_13, hcz7_14⟩ := r15_ BK154.out; obtain ⟨hfz7_0, hfz7_1, hfz7_2, hfz7_3, hfz7_4, hfz7_5, hfz7_6, hfz7_7, hfz7_8, hfz7_9, hfz7_10, hfz7_11, hfz7_12, hfz7_13, hfz7_14⟩ := f15_ BK154.out))
    (try simp only [Act.put, zS, zZ, zC])
    go_cut [21] (fun v21 wc => ∃ (kq : Nat) (x21_4 : Bool), v21 = .bool x21_4 ∧ Aside0 (past_Fits.j1 kq l0 x9_1 l0 (l0.length : Int) x9_1 x21_4 ((rd_T35 l0 x9_1).f0) ((rd_T35 l0 x9_1).f1) ((rd_T35 l0 x9_1).f2) ((rd_T35 l0 x9_1).f3.f0) ((rd_T35 l0 x9_1).f3.f1) ((rd_T35 l0 x9_1).f3.f2) ((rd_T35 l0 x9_1).f3.f3.f0) ((rd_T35 l0 x9_1).f3.f3.f1) ((rd_T35 l0 x9_1).f4.f0) ((rd_T35 l0 x9_1).f4.f1.f0) ((rd_T35 l0 x9_1).f4.f1.f1) ((rd_T35 l0 x9_1).f4.f2.f0) ((rd_T35 l0 x9_1).f4.f2.f1.f0) ((rd_T35 l0 x9_1).f4.f2.f1.f1) ((rd_T35 l0 x9_1).f4.f2.f2) = some r) ∧ Aside0 (kq ≤ k1) ∧ Aside0 (wc.heap[gb154]? = some (.cells (e35_ (rd_T35 l0 x9_1)) 35 (0, 0))) ∧ Aside0 (Below w.heap.size w wc))
    case first =>
     have H := HC5.out
     clear HC5
     replace H := Option.bind_eq_some_iff.mp H
     obtain ⟨t155, A80, H⟩ := H
     replace H : (if t155 = true then ((past_Well.f ((rd_T35 l0 x9_1).f0) ((rd_T35 l0 x9_1).f1) ((rd_T35 l0 x9_1).f2) ((rd_T35 l0 x9_1).f3.f0) ((rd_T35 l0 x9_1).f3.f1) ((rd_T35 l0 x9_1).f3.f2) ((rd_T35 l0 x9_1).f3.f3.f0) ((rd_T35 l0 x9_1).f3.f3.f1) ((rd_T35 l0 x9_1).f4.f0) ((rd_T35 l0 x9_1).f4.f1.f0) ((rd_T35 l0 x9_1).f4.f1.f1) ((rd_T35 l0 x9_1).f4.f2.f0) ((rd_T35 l0 x9_1).f4.f2.f1.f0) ((rd_T35 l0 x9_1).f4.f2.f1.f1) ((rd_T35 l0 x9_1).f4.f2.f2)).bind fun t156 => (past_Fits.j1 k1 l0 x9_1 l0 (l0.length : Int) x9_1 (!t156) ((rd_T35 l0 x9_1).f0) ((rd_T35 l0 x9_1).f1) ((rd_T35 l0 x9_1).f2) ((rd_T35 l0 x9_1).f3.f0) ((rd_T35 l0 x9_1).f3.f1) ((rd_T35 l0 x9_1).f3.f2) ((rd_T35 l0 x9_1).f3.f3.f0) ((rd_T35 l0 x9_1).f3.f3.f1) ((rd_T35 l0 x9_1).f4.f0) ((rd_T35 l0 x9_1).f4.f1.f0) ((rd_T35 l0 x9_1).f4.f1.f1) ((rd_T35 l0 x9_1).f4.f2.f0) ((rd_T35 l0 x9_1).f4.f2.f1.f0) ((rd_T35 l0 x9_1).f4.f2.f1.f1) ((rd_T35 l0 x9_1).f4.f2.f2))) else (past_Fits.j1 k1 l0 x9_1 l0 (l0.length : Int) x9_1 true ((rd_T35 l0 x9_1).f0) ((rd_T35 l0 x9_1).f1) ((rd_T35 l0 x9_1).f2) ((rd_T35 l0 x9_1).f3.f0) ((rd_T35 l0 x9_1).f3.f1) ((rd_T35 l0 x9_1).f3.f2) ((rd_T35 l0 x9_1).f3.f3.f0) ((rd_T35 l0 x9_1).f3.f3.f1) ((rd_T35 l0 x9_1).f4.f0) ((rd_T35 l0 x9_1).f4.f1.f0) ((rd_T35 l0 x9_1).f4.f1.f1) ((rd_T35 l0 x9_1).f4.f2.f0) ((rd_T35 l0 x9_1).f4.f2.f1.f0) ((rd_T35 l0 x9_1).f4.f2.f1.f1) ((rd_T35 l0 x9_1).f4.f2.f2))) = some r := H
     have A8 := zM A80
     clear A80
     by_cases c9 : t155 = true
     rotate_left
     · replace c9 := Bool.eq_false_iff.mpr c9
       subst c9
       have H1 : (past_Fits.j1 k1 l0 x9_1 l0 (l0.length : Int) x9_1 true ((rd_T35 l0 x9_1).f0) ((rd_T35 l0 x9_1).f1) ((rd_T35 l0 x9_1).f2) ((rd_T35 l0 x9_1).f3.f0) ((rd_T35 l0 x9_1).f3.f1) ((rd_T35 l0 x9_1).f3.f2) ((rd_T35 l0 x9_1).f3.f3.f0) ((rd_T35 l0 x9_1).f3.f3.f1) ((rd_T35 l0 x9_1).f4.f0) ((rd_T35 l0 x9_1).f4.f1.f0) ((rd_T35 l0 x9_1).f4.f1.f1) ((rd_T35 l0 x9_1).f4.f2.f0) ((rd_T35 l0 x9_1).f4.f2.f1.f0) ((rd_T35 l0 x9_1).f4.f2.f1.f1) ((rd_T35 l0 x9_1).f4.f2.f2)) = some r := by rw [if_neg (show ¬ (false = true) by decide)] at H; exact H
       clear H
       have H := H1
       clear H1
       have H' := zM H
       clear H
       obtain ⟨hcz15_0, hcz15_1, hcz15_2, hcz15_3, hcz15_4, hcz15_5, hcz15_6, hcz15_7, hcz15_8, hcz15_9, hcz15_10, hcz15_11, hcz15_12, hcz15_13, hcz15_14⟩ := r15_ BK154.out
       obtain ⟨hfz15_0, hfz15_1, hfz15_2, hfz15_3, hfz15_4, hfz15_5, hfz15_6, hfz15_7, hfz15_8, hfz15_9, hfz15_10, hfz15_11, hfz15_12, hfz15_13, hfz15_14⟩ := f15_ BK154.out
       go_wp2_with (first | ((with_reducible refine gld_ (t := 35) ?_); (try (refine gate_guard (by rfl) ?_; dsimp only)); first | refine wl15_ rfl 35 _ rfl rfl Try.underlying35 rfl (by kernel_rfl) ?_ | refine wlr15_ (g := gb154) rfl 35 _ rfl rfl Try.underlying35 rfl (by kernel_rfl) ?_ (hb := BK154.out) | refine wlr15_ (g := gb159) rfl 35 _ rfl rfl Try.underlying35 rfl (by kernel_rfl) ?_ (hb := BK159.out)) | ((with_reducible refine gst_ (t := 35) ?_); refine ws15_ (g := gb154) rfl 35 _ _ rfl rfl rfl (by kernel_rfl) ?_ (hb := BK154); generalize hW_ : World.setCell _ _ _ = w9_; replace BK154 : Aside0 (w9_.heap[gb154]? = some (.cells (e35_ (rd_T35 l0 x9_1)) 35 (0, 0))) := ⟨by rw [← hW_]; exact fxw15_ BK154⟩; replace HB : Aside0 (Below w.heap.size w w9_) := ⟨by rw [← hW_]; exact bl15_ HB.out GE154⟩; clear hW_) | ((with_reducible refine gst_ (t := 35) ?_); refine ws15_ (g := gb159) rfl 35 _ _ rfl rfl rfl (by kernel_rfl) ?_ (hb := BK159); generalize hW_ : World.setCell _ _ _ = w9_; replace BK159 : Aside0 (w9_.heap[gb159]? = some (.cells (e35_ (rd_T35 l0 x28_3)) 35 (0, 0))) := ⟨by rw [← hW_]; exact fxw15_ BK159⟩; replace BK154 : Aside0 (w9_.heap[gb154]? = some (.cells (e35_ (rd_T35 l0 x9_1)) 35 (0, 0))) := ⟨by rw [← hW_]; exact bf15_ BK154.out NB154_159⟩; replace HB : Aside0 (Below w.heap.size w w9_) := ⟨by rw [← hW_]; exact bl15_ HB.out GE159⟩; clear hW_) | go_step3 | ((with_reducible refine gate_callee (f := 24) rfl ?_); refine goL_ (some 15) Try.func24 #[.agg (e35_ (rd_T35 l0 x9_1))] ?_; (with_reducible refine (past_keyed.calls ((rd_T35 l0 x9_1).f0) ((rd_T35 l0 x9_1).f1) ((rd_T35 l0 x9_1).f2) ((rd_T35 l0 x9_1).f3.f0) ((rd_T35 l0 x9_1).f3.f1) ((rd_T35 l0 x9_1).f3.f2) ((rd_T35 l0 x9_1).f3.f3.f0) ((rd_T35 l0 x9_1).f3.f3.f1) ((rd_T35 l0 x9_1).f4.f0) ((rd_T35 l0 x9_1).f4.f1.f0) ((rd_T35 l0 x9_1).f4.f1.f1) ((rd_T35 l0 x9_1).f4.f2.f0) ((rd_T35 l0 x9_1).f4.f2.f1.f0) ((rd_T35 l0 x9_1).f4.f2.f1.f1) ((rd_T35 l0 x9_1).f4.f2.f2) false _ A8.out).mono ?_); rintro e w16 ⟨rfl, hb⟩; refine ⟨_, rfl, ?_⟩; replace BK154 := zM (blk_below (g := gb154) (o := .cells (e35_ (rd_T35 l0 x9_1)) 35 (0, 0)) (by (with_reducible repeat (first | refine zN ?_ _ | refine zD ?_ | refine zA ?_ _)); first | exact BK154.out | exact fx15_ BK154) hb); replace HB := zM (zB bel_ hb); (try clear hb); (try clear hb2); (try clear hk); (try clear hi)))
       go_meet
       case rel => exact ⟨_, (true), (by first | rfl | (simp; done) | (simp [*]; done) | (simp; grind)), H', ⟨by have := HK1.out; first | omega | exact Nat.le_refl _⟩, ⟨blf_⟩, ⟨bel_⟩⟩
     subst c9
     have H1 : ((past_Well.f ((rd_T35 l0 x9_1).f0) ((rd_T35 l0 x9_1).f1) ((rd_T35 l0 x9_1).f2) ((rd_T35 l0 x9_1).f3.f0) ((rd_T35 l0 x9_1).f3.f1) ((rd_T35 l0 x9_1).f3.f2) ((rd_T35 l0 x9_1).f3.f3.f0) ((rd_T35 l0 x9_1).f3.f3.f1) ((rd_T35 l0 x9_1).f4.f0) ((rd_T35 l0 x9_1).f4.f1.f0) ((rd_T35 l0 x9_1).f4.f1.f1) ((rd_T35 l0 x9_1).f4.f2.f0) ((rd_T35 l0 x9_1).f4.f2.f1.f0) ((rd_T35 l0 x9_1).f4.f2.f1.f1) ((rd_T35 l0 x9_1).f4.f2.f2)).bind fun t156 => (past_Fits.j1 k1 l0 x9_1 l0 (l0.length : Int) x9_1 (!t156) ((rd_T35 l0 x9_1).f0) ((rd_T35 l0 x9_1).f1) ((rd_T35 l0 x9_1).f2) ((rd_T35 l0 x9_1).f3.f0) ((rd_T35 l0 x9_1).f3.f1) ((rd_T35 l0 x9_1).f3.f2) ((rd_T35 l0 x9_1).f3.f3.f0) ((rd_T35 l0 x9_1).f3.f3.f1) ((rd_T35 l0 x9_1).f4.f0) ((rd_T35 l0 x9_1).f4.f1.f0) ((rd_T35 l0 x9_1).f4.f1.f1) ((rd_T35 l0 x9_1).f4.f2.f0) ((rd_T35 l0 x9_1).f4.f2.f1.f0) ((rd_T35 l0 x9_1).f4.f2.f1.f1) ((rd_T35 l0 x9_1).f4.f2.f2))) = some r := by rw [if_pos rfl] at H; exact H
     clear H
     have H := H1
     clear H1
     replace H := Option.bind_eq_some_iff.mp H
     obtain ⟨t156, A100, H⟩ := H
     replace H : (past_Fits.j1 k1 l0 x9_1 l0 (l0.length : Int) x9_1 (!t156) ((rd_T35 l0 x9_1).f0) ((rd_T35 l0 x9_1).f1) ((rd_T35 l0 x9_1).f2) ((rd_T35 l0 x9_1).f3.f0) ((rd_T35 l0 x9_1).f3.f1) ((rd_T35 l0 x9_1).f3.f2) ((rd_T35 l0 x9_1).f3.f3.f0) ((rd_T35 l0 x9_1).f3.f3.f1) ((rd_T35 l0 x9_1).f4.f0) ((rd_T35 l0 x9_1).f4.f1.f0) ((rd_T35 l0 x9_1).f4.f1.f1) ((rd_T35 l0 x9_1).f4.f2.f0) ((rd_T35 l0 x9_1).f4.f2.f1.f0) ((rd_T35 l0 x9_1).f4.f2.f1.f1) ((rd_T35 l0 x9_1).f4.f2.f2)) = some r := H
     have A10 := zM A100
     clear A100
     have H' := zM H
     clear H
     obtain ⟨hcz11_0, hcz11_1, hcz11_2, hcz11_3, hcz11_4, hcz11_5, hcz11_6, hcz11_7, hcz11_8, hcz11_9, hcz11_10, hcz11_11, hcz11_12, hcz11_13, hcz11_14⟩ := r15_ BK154.out
     obtain ⟨hfz11_0, hfz11_1, hfz11_2, hfz11_3, hfz11_4, hfz11_5, hfz11_6, hfz11_7, hfz11_8, hfz11_9, hfz11_10, hfz11_11, hfz11_12, hfz11_13, hfz11_14⟩ := f15_ BK154.out
     go_wp2_with (first | ((with_reducible refine gld_ (t := 35) ?_); (try (refine gate_guard (by rfl) ?_; dsimp only)); first | refine wl15_ rfl 35 _ rfl rfl Try.underlying35 rfl (by kernel_rfl) ?_ | refine wlr15_ (g := gb154) rfl 35 _ rfl rfl Try.underlying35 rfl (by kernel_rfl) ?_ (hb := BK154.out) | refine wlr15_ (g := gb159) rfl 35 _ rfl rfl Try.underlying35 rfl (by kernel_rfl) ?_ (hb := BK159.out)) | ((with_reducible refine gst_ (t := 35) ?_); refine ws15_ (g := gb154) rfl 35 _ _ rfl rfl rfl (by kernel_rfl) ?_ (hb := BK154); generalize hW_ : World.setCell _ _ _ = w9_; replace BK154 : Aside0 (w9_.heap[gb154]? = some (.cells (e35_ (rd_T35 l0 x9_1)) 35 (0, 0))) := ⟨by rw [← hW_]; exact fxw15_ BK154⟩; replace HB : Aside0 (Below w.heap.size w w9_) := ⟨by rw [← hW_]; exact bl15_ HB.out GE154⟩; clear hW_) | ((with_reducible refine gst_ (t := 35) ?_); refine ws15_ (g := gb159) rfl 35 _ _ rfl rfl rfl (by kernel_rfl) ?_ (hb := BK159); generalize hW_ : World.setCell _ _ _ = w9_; replace BK159 : Aside0 (w9_.heap[gb159]? = some (.cells (e35_ (rd_T35 l0 x28_3)) 35 (0, 0))) := ⟨by rw [← hW_]; exact fxw15_ BK159⟩; replace BK154 : Aside0 (w9_.heap[gb154]? = some (.cells (e35_ (rd_T35 l0 x9_1)) 35 (0, 0))) := ⟨by rw [← hW_]; exact bf15_ BK154.out NB154_159⟩; replace HB : Aside0 (Below w.heap.size w w9_) := ⟨by rw [← hW_]; exact bl15_ HB.out GE159⟩; clear hW_) | go_step3 | ((with_reducible refine gate_callee (f := 24) rfl ?_); refine goL_ (some 15) Try.func24 #[.agg (e35_ (rd_T35 l0 x9_1))] ?_; (with_reducible refine (past_keyed.calls ((rd_T35 l0 x9_1).f0) ((rd_T35 l0 x9_1).f1) ((rd_T35 l0 x9_1).f2) ((rd_T35 l0 x9_1).f3.f0) ((rd_T35 l0 x9_1).f3.f1) ((rd_T35 l0 x9_1).f3.f2) ((rd_T35 l0 x9_1).f3.f3.f0) ((rd_T35 l0 x9_1).f3.f3.f1) ((rd_T35 l0 x9_1).f4.f0) ((rd_T35 l0 x9_1).f4.f1.f0) ((rd_T35 l0 x9_1).f4.f1.f1) ((rd_T35 l0 x9_1).f4.f2.f0) ((rd_T35 l0 x9_1).f4.f2.f1.f0) ((rd_T35 l0 x9_1).f4.f2.f1.f1) ((rd_T35 l0 x9_1).f4.f2.f2) true _ A8.out).mono ?_); rintro e w12 ⟨rfl, hb⟩; refine ⟨_, rfl, ?_⟩; replace BK154 := zM (blk_below (g := gb154) (o := .cells (e35_ (rd_T35 l0 x9_1)) 35 (0, 0)) (by (with_reducible repeat (first | refine zN ?_ _ | refine zD ?_ | refine zA ?_ _)); first | exact BK154.out | exact fx15_ BK154) hb); replace HB := zM (zB bel_ hb); (try clear hb); (try clear hb2); (try clear hk); (try clear hi); obtain ⟨hcz13_0, hcz13_1, hcz13_2, hcz13_3, hcz13_4, hcz13_5, hcz13_6, hcz13_7, hcz13_8, hcz13_9, hcz13_10, hcz13_11, hcz13_12, hcz13_13, hcz13_14⟩ := r15_ BK154.out; obtain ⟨hfz13_0, hfz13_1, hfz13_2, hfz13_3, hfz13_4, hfz13_5, hfz13_6, hfz13_7, hfz13_8, hfz13_9, hfz13_10, hfz13_11, hfz13_12, hfz13_13, hfz13_14⟩ := f15_ BK154.out) | (go_at_call 11; (with_reducible refine (past_Well.calls ((rd_T35 l0 x9_1).f0) ((rd_T35 l0 x9_1).f1) ((rd_T35 l0 x9_1).f2) ((rd_T35 l0 x9_1).f3.f0) ((rd_T35 l0 x9_1).f3.f1) ((rd_T35 l0 x9_1).f3.f2) ((rd_T35 l0 x9_1).f3.f3.f0) ((rd_T35 l0 x9_1).f3.f3.f1) ((rd_T35 l0 x9_1).f4.f0) ((rd_T35 l0 x9_1).f4.f1.f0) ((rd_T35 l0 x9_1).f4.f1.f1) ((rd_T35 l0 x9_1).f4.f2.f0) ((rd_T35 l0 x9_1).f4.f2.f1.f0) ((rd_T35 l0 x9_1).f4.f2.f1.f1) ((rd_T35 l0 x9_1).f4.f2.f2) t156 _ A10.out).mono ?_); rintro e w14 ⟨rfl, hb⟩; replace BK154 := zM (bb_ BK154 hb); replace HB := zM (zB bel_ hb); (try clear hb); (try clear hb2); (try clear hk); (try clear hi)))
     go_meet
     case rel => exact ⟨_, (!t156), (by first | rfl | (simp; done) | (simp [*]; done) | (simp; grind)), H', ⟨by have := HK1.out; first | omega | exact Nat.le_refl _⟩, ⟨blf_⟩, ⟨bel_⟩⟩
    case rest =>
     clear HC5
     try clear p1
     try clear q1
     try clear hx1
     try clear c2
     try clear c2b0
     try clear p2
     try clear c3
     try clear c3b0
     try clear c4
     try clear c4b0
     try clear c8
     try clear c9
     try clear p15
     try clear q15
     try clear hx15
     try clear hcz11_0
     try clear hcz11_1
     try clear hcz11_10
     try clear hcz11_11
     try clear hcz11_12
     try clear hcz11_13
     try clear hcz11_14
     try clear hcz11_2
     try clear hcz11_3
     try clear hcz11_4
     try clear hcz11_5
     try clear hcz11_6
     try clear hcz11_7
     try clear hcz11_8
     try clear hcz11_9
     try clear hcz13_0
     try clear hcz13_1
     try clear hcz13_10
     try clear hcz13_11
     try clear hcz13_12
     try clear hcz13_13
     try clear hcz13_14
     try clear hcz13_2
     try clear hcz13_3
     try clear hcz13_4
     try clear hcz13_5
     try clear hcz13_6
     try clear hcz13_7
     try clear hcz13_8
     try clear hcz13_9
     try clear hcz15_0
     try clear hcz15_1
     try clear hcz15_10
     try clear hcz15_11
     try clear hcz15_12
     try clear hcz15_13
     try clear hcz15_14
     try clear hcz15_2
     try clear hcz15_3
     try clear hcz15_4
     try clear hcz15_5
     try clear hcz15_6
     try clear hcz15_7
     try clear hcz15_8
     try clear hcz15_9
     try clear hcz7_0
     try clear hcz7_1
     try clear hcz7_10
     try clear hcz7_11
     try clear hcz7_12
     try clear hcz7_13
     try clear hcz7_14
     try clear hcz7_2
     try clear hcz7_3
     try clear hcz7_4
     try clear hcz7_5
     try clear hcz7_6
     try clear hcz7_7
     try clear hcz7_8
     try clear hcz7_9
     try clear hfz11_0
     try clear hfz11_1
     try clear hfz11_10
     try clear hfz11_11
     try clear hfz11_12
     try clear hfz11_13
     try clear hfz11_14
     try clear hfz11_2
     try clear hfz11_3
     try clear hfz11_4
     try clear hfz11_5
     try clear hfz11_6
     try clear hfz11_7
     try clear hfz11_8
     try clear hfz11_9
     try clear hfz13_0
     try clear hfz13_1
     try clear hfz13_10
     try clear hfz13_11
     try clear hfz13_12
     try clear hfz13_13
     try clear hfz13_14
     try clear hfz13_2
     try clear hfz13_3
     try clear hfz13_4
     try clear hfz13_5
     try clear hfz13_6
     try clear hfz13_7
     try clear hfz13_8
     try clear hfz13_9
     try clear hfz15_0
     try clear hfz15_1
     try clear hfz15_10
     try clear hfz15_11
     try clear hfz15_12
     try clear hfz15_13
     try clear hfz15_14
     try clear hfz15_2
     try clear hfz15_3
     try clear hfz15_4
     try clear hfz15_5
     try clear hfz15_6
     try clear hfz15_7
     try clear hfz15_8
     try clear hfz15_9
     try clear hfz7_0
     try clear hfz7_1
     try clear hfz7_10
     try clear hfz7_11
     try clear hfz7_12
     try clear hfz7_13
     try clear hfz7_14
     try clear hfz7_2
     try clear hfz7_3
     try clear hfz7_4
     try clear hfz7_5
     try clear hfz7_6
     try clear hfz7_7
     try clear hfz7_8
     try clear hfz7_9
     try clear hx153_0
     try clear hx153_1
     try clear hx153_10
     try clear hx153_11
     try clear hx153_12
     try clear hx153_13
     try clear hx153_14
     try clear hx153_2
     try clear hx153_3
     try clear hx153_4
     try clear hx153_5
     try clear hx153_6
     try clear hx153_7
     try clear hx153_8
     try clear hx153_9
     try clear p153
     try clear q153
     obtain ⟨kq, x21_4, rfl, HA, HJ4, BK154, HB⟩ := hcut
     cases kq with
     | zero => exact absurd HA.out (by simp [past_Fits.j1])
     | succ kj4 =>
      have H := HA.out
      clear HA
      simp only [past_Fits.j1] at H
      by_cases c17 : x21_4 = true
      · subst c17
        have H1 : (past_Fits.l0 kj4 l0 l0 (l0.length : Int) (wrap64 (x9_1 + 1))) = some r := by rw [if_pos rfl] at H; exact H
        clear H
        have H := H1
        clear H1
        have H' := zM H
        clear H
        go_wp2_with (first | go_step3 | go_in)
        go_roundg kj4
        case measure => have := HK1.out; have := HJ4.out; omega
        case rel => exact ⟨(wrap64 (x9_1 + 1)), (by first | rfl | (simp; done) | (simp [*]; done) | (simp; grind)), H', ⟨by have := HK1.out; have := HJ4.out; omega⟩, ⟨bel_⟩⟩
      replace c17 := Bool.eq_false_iff.mpr c17
      subst c17
      have H1 : ((past_alone.f kj4 l0 x9_1).bind fun t157 => (if t157 = true then (past_Fits.l1 kj4 l0 x9_1 l0 (l0.length : Int) x9_1 l0 (l0.length : Int) 0 ((rd_T35 l0 x9_1).f0) ((rd_T35 l0 x9_1).f1) ((rd_T35 l0 x9_1).f2) ((rd_T35 l0 x9_1).f3.f0) ((rd_T35 l0 x9_1).f3.f1) ((rd_T35 l0 x9_1).f3.f2) ((rd_T35 l0 x9_1).f3.f3.f0) ((rd_T35 l0 x9_1).f3.f3.f1) ((rd_T35 l0 x9_1).f4.f0) ((rd_T35 l0 x9_1).f4.f1.f0) ((rd_T35 l0 x9_1).f4.f1.f1) ((rd_T35 l0 x9_1).f4.f2.f0) ((rd_T35 l0 x9_1).f4.f2.f1.f0) ((rd_T35 l0 x9_1).f4.f2.f1.f1) ((rd_T35 l0 x9_1).f4.f2.f2)) else (some false))) = some r := by rw [if_neg (show ¬ (false = true) by decide)] at H; exact H
      clear H
      have H := H1
      clear H1
      replace H := Option.bind_eq_some_iff.mp H
      obtain ⟨t157, A180, H⟩ := H
      replace H : (if t157 = true then (past_Fits.l1 kj4 l0 x9_1 l0 (l0.length : Int) x9_1 l0 (l0.length : Int) 0 ((rd_T35 l0 x9_1).f0) ((rd_T35 l0 x9_1).f1) ((rd_T35 l0 x9_1).f2) ((rd_T35 l0 x9_1).f3.f0) ((rd_T35 l0 x9_1).f3.f1) ((rd_T35 l0 x9_1).f3.f2) ((rd_T35 l0 x9_1).f3.f3.f0) ((rd_T35 l0 x9_1).f3.f3.f1) ((rd_T35 l0 x9_1).f4.f0) ((rd_T35 l0 x9_1).f4.f1.f0) ((rd_T35 l0 x9_1).f4.f1.f1) ((rd_T35 l0 x9_1).f4.f2.f0) ((rd_T35 l0 x9_1).f4.f2.f1.f0) ((rd_T35 l0 x9_1).f4.f2.f1.f1) ((rd_T35 l0 x9_1).f4.f2.f2)) else (some false)) = some r := H
      have A18 := zM A180
      clear A180
      by_cases c19 : t157 = true
      rotate_left
      · replace c19 := Bool.eq_false_iff.mpr c19
        subst c19
        have H1 : (some false) = some r := by rw [if_neg (show ¬ (false = true) by decide)] at H; exact H
        clear H
        have H := H1
        clear H1
        obtain rfl := Option.some.inj H
        go_wp2_with (first | go_step3 | ((with_reducible refine gate_callee (f := 25) rfl ?_); refine goL_ (some 24) Try.func25 #[.slice (some ad153) l0.length c0, .int .i64 x9_1] ?_; (with_reducible refine (past_alone.calls kj4 _ _ l0 x9_1 false _ ?side1 ?side2 A18.out).mono ?_); (case side1 => repeat (first | exact (Kd.C_below HR0.out HB.out) | (with_reducible refine Kd.C_alloc ?_ _) | (with_reducible refine Kd.C_drewN ?_ _) | (with_reducible refine Kd.C_drew ?_))); (case side2 => exact HC0.out); rintro e w62 ⟨rfl, hb⟩; refine ⟨_, rfl, ?_⟩; replace BK154 := zM (bb_ BK154 hb); replace HB := zM (zB bel_ hb); (try clear hb); (try clear hb2); (try clear hk); (try clear hi)))
        (try rw [Exit.noGoto_ret])
        go_ret
        exact ⟨by first | rfl | (simp [errW_none, errW_some] <;> rfl) | (simp [*, errW_none, errW_some] <;> rfl), bel_⟩
      subst c19
      have H1 : (past_Fits.l1 kj4 l0 x9_1 l0 (l0.length : Int) x9_1 l0 (l0.length : Int) 0 ((rd_T35 l0 x9_1).f0) ((rd_T35 l0 x9_1).f1) ((rd_T35 l0 x9_1).f2) ((rd_T35 l0 x9_1).f3.f0) ((rd_T35 l0 x9_1).f3.f1) ((rd_T35 l0 x9_1).f3.f2) ((rd_T35 l0 x9_1).f3.f3.f0) ((rd_T35 l0 x9_1).f3.f3.f1) ((rd_T35 l0 x9_1).f4.f0) ((rd_T35 l0 x9_1).f4.f1.f0) ((rd_T35 l0 x9_1).f4.f1.f1) ((rd_T35 l0 x9_1).f4.f2.f0) ((rd_T35 l0 x9_1).f4.f2.f1.f0) ((rd_T35 l0 x9_1).f4.f2.f1.f1) ((rd_T35 l0 x9_1).f4.f2.f2)) = some r := by rw [if_pos rfl] at H; exact H
      clear H
      have H := H1
      clear H1
      have H' := zM H
      clear H
      go_wp2_with (first | go_step3 | ((with_reducible refine gate_callee (f := 25) rfl ?_); refine goL_ (some 24) Try.func25 #[.slice (some ad153) l0.length c0, .int .i64 x9_1] ?_; (with_reducible refine (past_alone.calls kj4 _ _ l0 x9_1 true _ ?side1 ?side2 A18.out).mono ?_); (case side1 => repeat (first | exact (Kd.C_below HR0.out HB.out) | (with_reducible refine Kd.C_alloc ?_ _) | (with_reducible refine Kd.C_drewN ?_ _) | (with_reducible refine Kd.C_drew ?_))); (case side2 => exact HC0.out); rintro e w20 ⟨rfl, hb⟩; refine ⟨_, rfl, ?_⟩; replace BK154 := zM (bb_ BK154 hb); replace HB := zM (zB bel_ hb); (try clear hb); (try clear hb2); (try clear hk); (try clear hi)))
      go_loopg [28] kj4 (fun kq v28 w' => ∃ (x28_3 : Int), v28 = .int .i64 x28_3 ∧ Aside0 (past_Fits.l1 kq l0 x9_1 l0 (l0.length : Int) x9_1 l0 (l0.length : Int) x28_3 ((rd_T35 l0 x9_1).f0) ((rd_T35 l0 x9_1).f1) ((rd_T35 l0 x9_1).f2) ((rd_T35 l0 x9_1).f3.f0) ((rd_T35 l0 x9_1).f3.f1) ((rd_T35 l0 x9_1).f3.f2) ((rd_T35 l0 x9_1).f3.f3.f0) ((rd_T35 l0 x9_1).f3.f3.f1) ((rd_T35 l0 x9_1).f4.f0) ((rd_T35 l0 x9_1).f4.f1.f0) ((rd_T35 l0 x9_1).f4.f1.f1) ((rd_T35 l0 x9_1).f4.f2.f0) ((rd_T35 l0 x9_1).f4.f2.f1.f0) ((rd_T35 l0 x9_1).f4.f2.f1.f1) ((rd_T35 l0 x9_1).f4.f2.f2) = some r) ∧ Aside0 (kq ≤ kj4) ∧ Aside0 (w'.heap[gb154]? = some (.cells (e35_ (rd_T35 l0 x9_1)) 35 (0, 0))) ∧ Aside0 (Below w.heap.size w w'))
      case atStart => exact ⟨(0), (by first | rfl | (simp; done) | (simp [*]; done) | (simp; grind)), H', ⟨Nat.le_refl _⟩, ⟨blf_⟩, ⟨bel_⟩⟩
      case round =>
       clear H'
       try clear c1
       try clear p1
       try clear q1
       try clear hx1
       try clear c2
       try clear c2b0
       try clear p2
       try clear c3
       try clear c3b0
       try clear c4
       try clear c4b0
       try clear p6
       try clear c8
       try clear c9
       try clear p15
       try clear q15
       try clear hx15
       try clear c17
       try clear c19
       try clear hcz11_0
       try clear hcz11_1
       try clear hcz11_10
       try clear hcz11_11
       try clear hcz11_12
       try clear hcz11_13
       try clear hcz11_14
       try clear hcz11_2
       try clear hcz11_3
       try clear hcz11_4
       try clear hcz11_5
       try clear hcz11_6
       try clear hcz11_7
       try clear hcz11_8
       try clear hcz11_9
       try clear hcz13_0
       try clear hcz13_1
       try clear hcz13_10
       try clear hcz13_11
       try clear hcz13_12
       try clear hcz13_13
       try clear hcz13_14
       try clear hcz13_2
       try clear hcz13_3
       try clear hcz13_4
       try clear hcz13_5
       try clear hcz13_6
       try clear hcz13_7
       try clear hcz13_8
       try clear hcz13_9
       try clear hcz15_0
       try clear hcz15_1
       try clear hcz15_10
       try clear hcz15_11
       try clear hcz15_12
       try clear hcz15_13
       try clear hcz15_14
       try clear hcz15_2
       try clear hcz15_3
       try clear hcz15_4
       try clear hcz15_5
       try clear hcz15_6
       try clear hcz15_7
       try clear hcz15_8
       try clear hcz15_9
       try clear hcz7_0
       try clear hcz7_1
       try clear hcz7_10
       try clear hcz7_11
       try clear hcz7_12
       try clear hcz7_13
       try clear hcz7_14
       try clear hcz7_2
       try clear hcz7_3
       try clear hcz7_4
       try clear hcz7_5
       try clear hcz7_6
       try clear hcz7_7
       try clear hcz7_8
       try clear hcz7_9
       try clear hfz11_0
       try clear hfz11_1
       try clear hfz11_10
       try clear hfz11_11
       try clear hfz11_12
       try clear hfz11_13
       try clear hfz11_14
       try clear hfz11_2
       try clear hfz11_3
       try clear hfz11_4
       try clear hfz11_5
       try clear hfz11_6
       try clear hfz11_7
       try clear hfz11_8
       try clear hfz11_9
       try clear hfz13_0
       try clear hfz13_1
       try clear hfz13_10
       try clear hfz13_11
       try clear hfz13_12
       try clear hfz13_13
       try clear hfz13_14
       try clear hfz13_2
       try clear hfz13_3
       try clear hfz13_4
       try clear hfz13_5
       try clear hfz13_6
       try clear hfz13_7
       try clear hfz13_8
       try clear hfz13_9
       try clear hfz15_0
       try clear hfz15_1
       try clear hfz15_10
       try clear hfz15_11
       try clear hfz15_12
       try clear hfz15_13
       try clear hfz15_14
       try clear hfz15_2
       try clear hfz15_3
       try clear hfz15_4
       try clear hfz15_5
       try clear hfz15_6
       try clear hfz15_7
       try clear hfz15_8
       try clear hfz15_9
       try clear hfz7_0
       try clear hfz7_1
       try clear hfz7_10
       try clear hfz7_11
       try clear hfz7_12
       try clear hfz7_13
       try clear hfz7_14
       try clear hfz7_2
       try clear hfz7_3
       try clear hfz7_4
       try clear hfz7_5
       try clear hfz7_6
       try clear hfz7_7
       try clear hfz7_8
       try clear hfz7_9
       try clear hx153_0
       try clear hx153_1
       try clear hx153_10
       try clear hx153_11
       try clear hx153_12
       try clear hx153_13
       try clear hx153_14
       try clear hx153_2
       try clear hx153_3
       try clear hx153_4
       try clear hx153_5
       try clear hx153_6
       try clear hx153_7
       try clear hx153_8
       try clear hx153_9
       try clear p1
       try clear p15
       try clear p153
       try clear p2
       try clear q1
       try clear q15
       try clear q153
       try clear BK154
       try clear HB
       obtain ⟨x28_3, rfl, HA, HK3, BK154, HB⟩ := hrel
       cases gk with
       | zero => exact absurd HA.out (by simp [past_Fits.l1])
       | succ k3 =>
        have H := HA.out
        clear HA
        simp only [past_Fits.l1] at H
        by_cases c21 : x28_3 < (l0.length : Int)
        rotate_left
        · rw [if_neg c21] at H
          have c21b0 : decide (x28_3 < (l0.length : Int)) = false := decide_eq_false c21
          clear c21
          have H' := zM H
          clear H
          go_wp2_with (first | go_step3 | go_in)
          go_roundg k3
          case measure => have := HK1.out; have := HJ4.out; have := HK3.out; omega
          case rel => exact ⟨(wrap64 (x9_1 + 1)), (by first | rfl | (simp; done) | (simp [*]; done) | (simp; grind)), H', ⟨by have := HK1.out; have := HJ4.out; have := HK3.out; omega⟩, ⟨bel_⟩⟩
        rw [if_pos c21] at H
        have c21b0 : decide (x28_3 < (l0.length : Int)) = true := decide_eq_true c21
        clear c21
        by_cases c22 : 0 ≤ x28_3
        rotate_left
        · rw [if_neg c22] at H
          exact absurd H (by simp)
        rw [if_pos c22] at H
        have c22b0 : decide (0 ≤ x28_3) = true := decide_eq_true c22
        clear c22
        by_cases c23 : x28_3 < (l0.length : Int)
        rotate_left
        · rw [if_neg c23] at H
          exact absurd H (by simp)
        rw [if_pos c23] at H
        have c23b0 : decide (x28_3 < (l0.length : Int)) = true := decide_eq_true c23
        clear c23
        by_cases c24 : x28_3 = x9_1
        · rw [if_pos c24] at H
          have c24b0 : (x28_3 == x9_1) = true := beq_iff_eq.mpr c24
          have c24b1 : (x28_3 != x9_1) = false := bne_eq_false_iff_eq.mpr c24
          clear c24
          have H' := zM H
          clear H
          have p158 : 0 ≤ (x28_3 : Int) := of_decide_eq_true (by first | (with_reducible assumption) | assumption)
          have q158 : x28_3 < (l0.length : Int) := of_decide_eq_true (by first | (with_reducible assumption) | assumption)
          obtain ⟨ad158, e158, hx158_0, hx158_1, hx158_2, hx158_3, hx158_4, hx158_5, hx158_6, hx158_7, hx158_8, hx158_9, hx158_10, hx158_11, hx158_12, hx158_13, hx158_14⟩ := at_T35 HR0.out x28_3 p158 q158
          obtain rfl : ad153 = ad158 := (by injection e158)
          replace hx158_0 := (HB.out.cell (World.block_lt_of_cell? w _ hx158_0)).trans hx158_0
          replace hx158_1 := (HB.out.cell (World.block_lt_of_cell? w _ hx158_1)).trans hx158_1
          replace hx158_2 := (HB.out.cell (World.block_lt_of_cell? w _ hx158_2)).trans hx158_2
          replace hx158_3 := (HB.out.cell (World.block_lt_of_cell? w _ hx158_3)).trans hx158_3
          replace hx158_4 := (HB.out.cell (World.block_lt_of_cell? w _ hx158_4)).trans hx158_4
          replace hx158_5 := (HB.out.cell (World.block_lt_of_cell? w _ hx158_5)).trans hx158_5
          replace hx158_6 := (HB.out.cell (World.block_lt_of_cell? w _ hx158_6)).trans hx158_6
          replace hx158_7 := (HB.out.cell (World.block_lt_of_cell? w _ hx158_7)).trans hx158_7
          replace hx158_8 := (HB.out.cell (World.block_lt_of_cell? w _ hx158_8)).trans hx158_8
          replace hx158_9 := (HB.out.cell (World.block_lt_of_cell? w _ hx158_9)).trans hx158_9
          replace hx158_10 := (HB.out.cell (World.block_lt_of_cell? w _ hx158_10)).trans hx158_10
          replace hx158_11 := (HB.out.cell (World.block_lt_of_cell? w _ hx158_11)).trans hx158_11
          replace hx158_12 := (HB.out.cell (World.block_lt_of_cell? w _ hx158_12)).trans hx158_12
          replace hx158_13 := (HB.out.cell (World.block_lt_of_cell? w _ hx158_13)).trans hx158_13
          replace hx158_14 := (HB.out.cell (World.block_lt_of_cell? w _ hx158_14)).trans hx158_14
          replace p158 := eq_true p158
          replace q158 := eq_true q158
          go_wp2_with (first | ((with_reducible refine gld_ (t := 35) ?_); (try (refine gate_guard (by rfl) ?_; dsimp only)); first | refine wl15_ rfl 35 _ rfl rfl Try.underlying35 rfl (by kernel_rfl) ?_ | refine wlr15_ (g := gb154) rfl 35 _ rfl rfl Try.underlying35 rfl (by kernel_rfl) ?_ (hb := BK154.out) | refine wlr15_ (g := gb159) rfl 35 _ rfl rfl Try.underlying35 rfl (by kernel_rfl) ?_ (hb := BK159.out)) | ((with_reducible refine gst_ (t := 35) ?_); refine ws15_ (g := gb154) rfl 35 _ _ rfl rfl rfl (by kernel_rfl) ?_ (hb := BK154); generalize hW_ : World.setCell _ _ _ = w9_; replace BK154 : Aside0 (w9_.heap[gb154]? = some (.cells (e35_ (rd_T35 l0 x9_1)) 35 (0, 0))) := ⟨by rw [← hW_]; exact fxw15_ BK154⟩; replace HB : Aside0 (Below w.heap.size w w9_) := ⟨by rw [← hW_]; exact bl15_ HB.out GE154⟩; clear hW_) | ((with_reducible refine gst_ (t := 35) ?_); refine ws15_ (g := gb159) rfl 35 _ _ rfl rfl rfl (by kernel_rfl) ?_ (hb := BK159); generalize hW_ : World.setCell _ _ _ = w9_; replace BK159 : Aside0 (w9_.heap[gb159]? = some (.cells (e35_ (rd_T35 l0 x28_3)) 35 (0, 0))) := ⟨by rw [← hW_]; exact fxw15_ BK159⟩; replace BK154 : Aside0 (w9_.heap[gb154]? = some (.cells (e35_ (rd_T35 l0 x9_1)) 35 (0, 0))) := ⟨by rw [← hW_]; exact bf15_ BK154.out NB154_159⟩; replace HB : Aside0 (Below w.heap.size w w9_) := ⟨by rw [← hW_]; exact bl15_ HB.out GE159⟩; clear hW_) | go_step3 | ((with_reducible refine gate_dst (N := 6) rfl ?_); refine box_event ?hg (N := 6) ?hd (cs := #[.int .i64 0, .int .i64 0, .int .i64 0, .int .i64 0, .int .i64 0, .float .f64 0, .int .i64 0, .int .i64 0, .int .i64 0, .int .i64 0, .int .i64 0, .int .i64 0, .int .i64 0, .int .i64 0, .float .f64 0]) (t := 35) ?hr ?_; (case hd => rfl); (case hg => rfl); (case hr => first | (go_simp; done) | (go_simp; rfl)); intro gb159 hg w25 hbox hb; have BK159 := zM (hbox); have GW159 := zM (bs_ hg); have GE159 := zM (bs_ hg); replace HB := zM (zB bel_ hb); have NB154_159 := zM (nl_ BK154 hg); have NB159_154 := zM (ng_ BK154 hg); replace BK154 := zM (bb_ BK154 hb); clear hb hbox hg; have hnb26 := NB159_154.out; have hnc26 := NB154_159.out; obtain ⟨hcz27_0, hcz27_1, hcz27_2, hcz27_3, hcz27_4, hcz27_5, hcz27_6, hcz27_7, hcz27_8, hcz27_9, hcz27_10, hcz27_11, hcz27_12, hcz27_13, hcz27_14⟩ := r15_ BK159.out; obtain ⟨hfz27_0, hfz27_1, hfz27_2, hfz27_3, hfz27_4, hfz27_5, hfz27_6, hfz27_7, hfz27_8, hfz27_9, hfz27_10, hfz27_11, hfz27_12, hfz27_13, hfz27_14⟩ := f15_ BK159.out))
          go_roundg k3
          case measure => have := HK1.out; have := HJ4.out; have := HK3.out; omega
          case rel => exact ⟨(wrap64 (x28_3 + 1)), (by first | rfl | (simp; done) | (simp [*]; done) | (simp; grind)), H', ⟨by have := HK1.out; have := HJ4.out; have := HK3.out; omega⟩, ⟨blf_⟩, ⟨bel_⟩⟩
        rw [if_neg c24] at H
        have c24b0 : (x28_3 == x9_1) = false := beq_eq_false_iff_ne.mpr c24
        have c24b1 : (x28_3 != x9_1) = true := bne_iff_ne.mpr c24
        replace H := Option.bind_eq_some_iff.mp H
        obtain ⟨t160, A280, H⟩ := H
        replace H : (if t160 = true then ((past_Well.f ((rd_T35 l0 x28_3).f0) ((rd_T35 l0 x28_3).f1) ((rd_T35 l0 x28_3).f2) ((rd_T35 l0 x28_3).f3.f0) ((rd_T35 l0 x28_3).f3.f1) ((rd_T35 l0 x28_3).f3.f2) ((rd_T35 l0 x28_3).f3.f3.f0) ((rd_T35 l0 x28_3).f3.f3.f1) ((rd_T35 l0 x28_3).f4.f0) ((rd_T35 l0 x28_3).f4.f1.f0) ((rd_T35 l0 x28_3).f4.f1.f1) ((rd_T35 l0 x28_3).f4.f2.f0) ((rd_T35 l0 x28_3).f4.f2.f1.f0) ((rd_T35 l0 x28_3).f4.f2.f1.f1) ((rd_T35 l0 x28_3).f4.f2.f2)).bind fun t161 => (if t161 = true then ((past_pair.f k3 ((rd_T35 l0 x9_1).f0) ((rd_T35 l0 x9_1).f1) ((rd_T35 l0 x9_1).f2) ((rd_T35 l0 x9_1).f3.f0) ((rd_T35 l0 x9_1).f3.f1) ((rd_T35 l0 x9_1).f3.f2) ((rd_T35 l0 x9_1).f3.f3.f0) ((rd_T35 l0 x9_1).f3.f3.f1) ((rd_T35 l0 x9_1).f4.f0) ((rd_T35 l0 x9_1).f4.f1.f0) ((rd_T35 l0 x9_1).f4.f1.f1) ((rd_T35 l0 x9_1).f4.f2.f0) ((rd_T35 l0 x9_1).f4.f2.f1.f0) ((rd_T35 l0 x9_1).f4.f2.f1.f1) ((rd_T35 l0 x9_1).f4.f2.f2) ((rd_T35 l0 x28_3).f0) ((rd_T35 l0 x28_3).f1) ((rd_T35 l0 x28_3).f2) ((rd_T35 l0 x28_3).f3.f0) ((rd_T35 l0 x28_3).f3.f1) ((rd_T35 l0 x28_3).f3.f2) ((rd_T35 l0 x28_3).f3.f3.f0) ((rd_T35 l0 x28_3).f3.f3.f1) ((rd_T35 l0 x28_3).f4.f0) ((rd_T35 l0 x28_3).f4.f1.f0) ((rd_T35 l0 x28_3).f4.f1.f1) ((rd_T35 l0 x28_3).f4.f2.f0) ((rd_T35 l0 x28_3).f4.f2.f1.f0) ((rd_T35 l0 x28_3).f4.f2.f1.f1) ((rd_T35 l0 x28_3).f4.f2.f2)).bind fun t162 => (if t162 = true then (past_Fits.l1 k3 l0 x9_1 l0 (l0.length : Int) x9_1 l0 (l0.length : Int) (wrap64 (x28_3 + 1)) ((rd_T35 l0 x9_1).f0) ((rd_T35 l0 x9_1).f1) ((rd_T35 l0 x9_1).f2) ((rd_T35 l0 x9_1).f3.f0) ((rd_T35 l0 x9_1).f3.f1) ((rd_T35 l0 x9_1).f3.f2) ((rd_T35 l0 x9_1).f3.f3.f0) ((rd_T35 l0 x9_1).f3.f3.f1) ((rd_T35 l0 x9_1).f4.f0) ((rd_T35 l0 x9_1).f4.f1.f0) ((rd_T35 l0 x9_1).f4.f1.f1) ((rd_T35 l0 x9_1).f4.f2.f0) ((rd_T35 l0 x9_1).f4.f2.f1.f0) ((rd_T35 l0 x9_1).f4.f2.f1.f1) ((rd_T35 l0 x9_1).f4.f2.f2)) else (some false))) else (past_Fits.l1 k3 l0 x9_1 l0 (l0.length : Int) x9_1 l0 (l0.length : Int) (wrap64 (x28_3 + 1)) ((rd_T35 l0 x9_1).f0) ((rd_T35 l0 x9_1).f1) ((rd_T35 l0 x9_1).f2) ((rd_T35 l0 x9_1).f3.f0) ((rd_T35 l0 x9_1).f3.f1) ((rd_T35 l0 x9_1).f3.f2) ((rd_T35 l0 x9_1).f3.f3.f0) ((rd_T35 l0 x9_1).f3.f3.f1) ((rd_T35 l0 x9_1).f4.f0) ((rd_T35 l0 x9_1).f4.f1.f0) ((rd_T35 l0 x9_1).f4.f1.f1) ((rd_T35 l0 x9_1).f4.f2.f0) ((rd_T35 l0 x9_1).f4.f2.f1.f0) ((rd_T35 l0 x9_1).f4.f2.f1.f1) ((rd_T35 l0 x9_1).f4.f2.f2)))) else (past_Fits.l1 k3 l0 x9_1 l0 (l0.length : Int) x9_1 l0 (l0.length : Int) (wrap64 (x28_3 + 1)) ((rd_T35 l0 x9_1).f0) ((rd_T35 l0 x9_1).f1) ((rd_T35 l0 x9_1).f2) ((rd_T35 l0 x9_1).f3.f0) ((rd_T35 l0 x9_1).f3.f1) ((rd_T35 l0 x9_1).f3.f2) ((rd_T35 l0 x9_1).f3.f3.f0) ((rd_T35 l0 x9_1).f3.f3.f1) ((rd_T35 l0 x9_1).f4.f0) ((rd_T35 l0 x9_1).f4.f1.f0) ((rd_T35 l0 x9_1).f4.f1.f1) ((rd_T35 l0 x9_1).f4.f2.f0) ((rd_T35 l0 x9_1).f4.f2.f1.f0) ((rd_T35 l0 x9_1).f4.f2.f1.f1) ((rd_T35 l0 x9_1).f4.f2.f2))) = some r := H
        have A28 := zM A280
        clear A280
        by_cases c29 : t160 = true
        rotate_left
        · replace c29 := Bool.eq_false_iff.mpr c29
          subst c29
          have H1 : (past_Fits.l1 k3 l0 x9_1 l0 (l0.length : Int) x9_1 l0 (l0.length : Int) (wrap64 (x28_3 + 1)) ((rd_T35 l0 x9_1).f0) ((rd_T35 l0 x9_1).f1) ((rd_T35 l0 x9_1).f2) ((rd_T35 l0 x9_1).f3.f0) ((rd_T35 l0 x9_1).f3.f1) ((rd_T35 l0 x9_1).f3.f2) ((rd_T35 l0 x9_1).f3.f3.f0) ((rd_T35 l0 x9_1).f3.f3.f1) ((rd_T35 l0 x9_1).f4.f0) ((rd_T35 l0 x9_1).f4.f1.f0) ((rd_T35 l0 x9_1).f4.f1.f1) ((rd_T35 l0 x9_1).f4.f2.f0) ((rd_T35 l0 x9_1).f4.f2.f1.f0) ((rd_T35 l0 x9_1).f4.f2.f1.f1) ((rd_T35 l0 x9_1).f4.f2.f2)) = some r := by rw [if_neg (show ¬ (false = true) by decide)] at H; exact H
          clear H
          have H := H1
          clear H1
          have H' := zM H
          clear H
          have p158 : 0 ≤ (x28_3 : Int) := of_decide_eq_true (by first | (with_reducible assumption) | assumption)
          have q158 : x28_3 < (l0.length : Int) := of_decide_eq_true (by first | (with_reducible assumption) | assumption)
          obtain ⟨ad158, e158, hx158_0, hx158_1, hx158_2, hx158_3, hx158_4, hx158_5, hx158_6, hx158_7, hx158_8, hx158_9, hx158_10, hx158_11, hx158_12, hx158_13, hx158_14⟩ := at_T35 HR0.out x28_3 p158 q158
          obtain rfl : ad153 = ad158 := (by injection e158)
          replace hx158_0 := (HB.out.cell (World.block_lt_of_cell? w _ hx158_0)).trans hx158_0
          replace hx158_1 := (HB.out.cell (World.block_lt_of_cell? w _ hx158_1)).trans hx158_1
          replace hx158_2 := (HB.out.cell (World.block_lt_of_cell? w _ hx158_2)).trans hx158_2
          replace hx158_3 := (HB.out.cell (World.block_lt_of_cell? w _ hx158_3)).trans hx158_3
          replace hx158_4 := (HB.out.cell (World.block_lt_of_cell? w _ hx158_4)).trans hx158_4
          replace hx158_5 := (HB.out.cell (World.block_lt_of_cell? w _ hx158_5)).trans hx158_5
          replace hx158_6 := (HB.out.cell (World.block_lt_of_cell? w _ hx158_6)).trans hx158_6
          replace hx158_7 := (HB.out.cell (World.block_lt_of_cell? w _ hx158_7)).trans hx158_7
          replace hx158_8 := (HB.out.cell (World.block_lt_of_cell? w _ hx158_8)).trans hx158_8
          replace hx158_9 := (HB.out.cell (World.block_lt_of_cell? w _ hx158_9)).trans hx158_9
          replace hx158_10 := (HB.out.cell (World.block_lt_of_cell? w _ hx158_10)).trans hx158_10
          replace hx158_11 := (HB.out.cell (World.block_lt_of_cell? w _ hx158_11)).trans hx158_11
          replace hx158_12 := (HB.out.cell (World.block_lt_of_cell? w _ hx158_12)).trans hx158_12
          replace hx158_13 := (HB.out.cell (World.block_lt_of_cell? w _ hx158_13)).trans hx158_13
          replace hx158_14 := (HB.out.cell (World.block_lt_of_cell? w _ hx158_14)).trans hx158_14
          replace p158 := eq_true p158
          replace q158 := eq_true q158
          go_wp2_with (first | ((with_reducible refine gld_ (t := 35) ?_); (try (refine gate_guard (by rfl) ?_; dsimp only)); first | refine wl15_ rfl 35 _ rfl rfl Try.underlying35 rfl (by kernel_rfl) ?_ | refine wlr15_ (g := gb154) rfl 35 _ rfl rfl Try.underlying35 rfl (by kernel_rfl) ?_ (hb := BK154.out) | refine wlr15_ (g := gb159) rfl 35 _ rfl rfl Try.underlying35 rfl (by kernel_rfl) ?_ (hb := BK159.out)) | ((with_reducible refine gst_ (t := 35) ?_); refine ws15_ (g := gb154) rfl 35 _ _ rfl rfl rfl (by kernel_rfl) ?_ (hb := BK154); generalize hW_ : World.setCell _ _ _ = w9_; replace BK154 : Aside0 (w9_.heap[gb154]? = some (.cells (e35_ (rd_T35 l0 x9_1)) 35 (0, 0))) := ⟨by rw [← hW_]; exact fxw15_ BK154⟩; replace HB : Aside0 (Below w.heap.size w w9_) := ⟨by rw [← hW_]; exact bl15_ HB.out GE154⟩; clear hW_) | ((with_reducible refine gst_ (t := 35) ?_); refine ws15_ (g := gb159) rfl 35 _ _ rfl rfl rfl (by kernel_rfl) ?_ (hb := BK159); generalize hW_ : World.setCell _ _ _ = w9_; replace BK159 : Aside0 (w9_.heap[gb159]? = some (.cells (e35_ (rd_T35 l0 x28_3)) 35 (0, 0))) := ⟨by rw [← hW_]; exact fxw15_ BK159⟩; replace BK154 : Aside0 (w9_.heap[gb154]? = some (.cells (e35_ (rd_T35 l0 x9_1)) 35 (0, 0))) := ⟨by rw [← hW_]; exact bf15_ BK154.out NB154_159⟩; replace HB : Aside0 (Below w.heap.size w w9_) := ⟨by rw [← hW_]; exact bl15_ HB.out GE159⟩; clear hW_) | go_step3 | ((with_reducible refine gate_dst (N := 6) rfl ?_); refine box_event ?hg (N := 6) ?hd (cs := #[.int .i64 0, .int .i64 0, .int .i64 0, .int .i64 0, .int .i64 0, .float .f64 0, .int .i64 0, .int .i64 0, .int .i64 0, .int .i64 0, .int .i64 0, .int .i64 0, .int .i64 0, .int .i64 0, .float .f64 0]) (t := 35) ?hr ?_; (case hd => rfl); (case hg => rfl); (case hr => first | (go_simp; done) | (go_simp; rfl)); intro gb159 hg w58 hbox hb; have BK159 := zM (hbox); have GW159 := zM (bs_ hg); have GE159 := zM (bs_ hg); replace HB := zM (zB bel_ hb); have NB154_159 := zM (nl_ BK154 hg); have NB159_154 := zM (ng_ BK154 hg); replace BK154 := zM (bb_ BK154 hb); clear hb hbox hg; have hnb59 := NB159_154.out; have hnc59 := NB154_159.out; obtain ⟨hcz60_0, hcz60_1, hcz60_2, hcz60_3, hcz60_4, hcz60_5, hcz60_6, hcz60_7, hcz60_8, hcz60_9, hcz60_10, hcz60_11, hcz60_12, hcz60_13, hcz60_14⟩ := r15_ BK159.out; obtain ⟨hfz60_0, hfz60_1, hfz60_2, hfz60_3, hfz60_4, hfz60_5, hfz60_6, hfz60_7, hfz60_8, hfz60_9, hfz60_10, hfz60_11, hfz60_12, hfz60_13, hfz60_14⟩ := f15_ BK159.out) | (go_at_call 24; (with_reducible refine (past_keyed.calls ((rd_T35 l0 x28_3).f0) ((rd_T35 l0 x28_3).f1) ((rd_T35 l0 x28_3).f2) ((rd_T35 l0 x28_3).f3.f0) ((rd_T35 l0 x28_3).f3.f1) ((rd_T35 l0 x28_3).f3.f2) ((rd_T35 l0 x28_3).f3.f3.f0) ((rd_T35 l0 x28_3).f3.f3.f1) ((rd_T35 l0 x28_3).f4.f0) ((rd_T35 l0 x28_3).f4.f1.f0) ((rd_T35 l0 x28_3).f4.f1.f1) ((rd_T35 l0 x28_3).f4.f2.f0) ((rd_T35 l0 x28_3).f4.f2.f1.f0) ((rd_T35 l0 x28_3).f4.f2.f1.f1) ((rd_T35 l0 x28_3).f4.f2.f2) false _ A28.out).mono ?_); rintro e w61 ⟨rfl, hb⟩; replace BK154 := zM (blk_below (g := gb154) (o := .cells (e35_ (rd_T35 l0 x9_1)) 35 (0, 0)) blf_ hb); replace BK159 := zM (blk_below (g := gb159) (o := .cells (e35_ (rd_T35 l0 x28_3)) 35 (0, 0)) (by (with_reducible repeat (first | refine zN ?_ _ | refine zD ?_ | refine zA ?_ _)); first | exact BK159.out | exact fx15_ BK159) hb); replace HB := zM (zB bel_ hb); (try clear hb); (try clear hb2); (try clear hk); (try clear hi)))
          go_roundg k3
          case measure => have := HK1.out; have := HJ4.out; have := HK3.out; omega
          case rel => exact ⟨(wrap64 (x28_3 + 1)), (by first | rfl | (simp; done) | (simp [*]; done) | (simp; grind)), H', ⟨by have := HK1.out; have := HJ4.out; have := HK3.out; omega⟩, ⟨blf_⟩, ⟨bel_⟩⟩
        subst c29
        have H1 : ((past_Well.f ((rd_T35 l0 x28_3).f0) ((rd_T35 l0 x28_3).f1) ((rd_T35 l0 x28_3).f2) ((rd_T35 l0 x28_3).f3.f0) ((rd_T35 l0 x28_3).f3.f1) ((rd_T35 l0 x28_3).f3.f2) ((rd_T35 l0 x28_3).f3.f3.f0) ((rd_T35 l0 x28_3).f3.f3.f1) ((rd_T35 l0 x28_3).f4.f0) ((rd_T35 l0 x28_3).f4.f1.f0) ((rd_T35 l0 x28_3).f4.f1.f1) ((rd_T35 l0 x28_3).f4.f2.f0) ((rd_T35 l0 x28_3).f4.f2.f1.f0) ((rd_T35 l0 x28_3).f4.f2.f1.f1) ((rd_T35 l0 x28_3).f4.f2.f2)).bind fun t161 => (if t161 = true then ((past_pair.f k3 ((rd_T35 l0 x9_1).f0) ((rd_T35 l0 x9_1).f1) ((rd_T35 l0 x9_1).f2) ((rd_T35 l0 x9_1).f3.f0) ((rd_T35 l0 x9_1).f3.f1) ((rd_T35 l0 x9_1).f3.f2) ((rd_T35 l0 x9_1).f3.f3.f0) ((rd_T35 l0 x9_1).f3.f3.f1) ((rd_T35 l0 x9_1).f4.f0) ((rd_T35 l0 x9_1).f4.f1.f0) ((rd_T35 l0 x9_1).f4.f1.f1) ((rd_T35 l0 x9_1).f4.f2.f0) ((rd_T35 l0 x9_1).f4.f2.f1.f0) ((rd_T35 l0 x9_1).f4.f2.f1.f1) ((rd_T35 l0 x9_1).f4.f2.f2) ((rd_T35 l0 x28_3).f0) ((rd_T35 l0 x28_3).f1) ((rd_T35 l0 x28_3).f2) ((rd_T35 l0 x28_3).f3.f0) ((rd_T35 l0 x28_3).f3.f1) ((rd_T35 l0 x28_3).f3.f2) ((rd_T35 l0 x28_3).f3.f3.f0) ((rd_T35 l0 x28_3).f3.f3.f1) ((rd_T35 l0 x28_3).f4.f0) ((rd_T35 l0 x28_3).f4.f1.f0) ((rd_T35 l0 x28_3).f4.f1.f1) ((rd_T35 l0 x28_3).f4.f2.f0) ((rd_T35 l0 x28_3).f4.f2.f1.f0) ((rd_T35 l0 x28_3).f4.f2.f1.f1) ((rd_T35 l0 x28_3).f4.f2.f2)).bind fun t162 => (if t162 = true then (past_Fits.l1 k3 l0 x9_1 l0 (l0.length : Int) x9_1 l0 (l0.length : Int) (wrap64 (x28_3 + 1)) ((rd_T35 l0 x9_1).f0) ((rd_T35 l0 x9_1).f1) ((rd_T35 l0 x9_1).f2) ((rd_T35 l0 x9_1).f3.f0) ((rd_T35 l0 x9_1).f3.f1) ((rd_T35 l0 x9_1).f3.f2) ((rd_T35 l0 x9_1).f3.f3.f0) ((rd_T35 l0 x9_1).f3.f3.f1) ((rd_T35 l0 x9_1).f4.f0) ((rd_T35 l0 x9_1).f4.f1.f0) ((rd_T35 l0 x9_1).f4.f1.f1) ((rd_T35 l0 x9_1).f4.f2.f0) ((rd_T35 l0 x9_1).f4.f2.f1.f0) ((rd_T35 l0 x9_1).f4.f2.f1.f1) ((rd_T35 l0 x9_1).f4.f2.f2)) else (some false))) else (past_Fits.l1 k3 l0 x9_1 l0 (l0.length : Int) x9_1 l0 (l0.length : Int) (wrap64 (x28_3 + 1)) ((rd_T35 l0 x9_1).f0) ((rd_T35 l0 x9_1).f1) ((rd_T35 l0 x9_1).f2) ((rd_T35 l0 x9_1).f3.f0) ((rd_T35 l0 x9_1).f3.f1) ((rd_T35 l0 x9_1).f3.f2) ((rd_T35 l0 x9_1).f3.f3.f0) ((rd_T35 l0 x9_1).f3.f3.f1) ((rd_T35 l0 x9_1).f4.f0) ((rd_T35 l0 x9_1).f4.f1.f0) ((rd_T35 l0 x9_1).f4.f1.f1) ((rd_T35 l0 x9_1).f4.f2.f0) ((rd_T35 l0 x9_1).f4.f2.f1.f0) ((rd_T35 l0 x9_1).f4.f2.f1.f1) ((rd_T35 l0 x9_1).f4.f2.f2)))) = some r := by rw [if_pos rfl] at H; exact H
        clear H
        have H := H1
        clear H1
        replace H := Option.bind_eq_some_iff.mp H
        obtain ⟨t161, A300, H⟩ := H
        replace H : (if t161 = true then ((past_pair.f k3 ((rd_T35 l0 x9_1).f0) ((rd_T35 l0 x9_1).f1) ((rd_T35 l0 x9_1).f2) ((rd_T35 l0 x9_1).f3.f0) ((rd_T35 l0 x9_1).f3.f1) ((rd_T35 l0 x9_1).f3.f2) ((rd_T35 l0 x9_1).f3.f3.f0) ((rd_T35 l0 x9_1).f3.f3.f1) ((rd_T35 l0 x9_1).f4.f0) ((rd_T35 l0 x9_1).f4.f1.f0) ((rd_T35 l0 x9_1).f4.f1.f1) ((rd_T35 l0 x9_1).f4.f2.f0) ((rd_T35 l0 x9_1).f4.f2.f1.f0) ((rd_T35 l0 x9_1).f4.f2.f1.f1) ((rd_T35 l0 x9_1).f4.f2.f2) ((rd_T35 l0 x28_3).f0) ((rd_T35 l0 x28_3).f1) ((rd_T35 l0 x28_3).f2) ((rd_T35 l0 x28_3).f3.f0) ((rd_T35 l0 x28_3).f3.f1) ((rd_T35 l0 x28_3).f3.f2) ((rd_T35 l0 x28_3).f3.f3.f0) ((rd_T35 l0 x28_3).f3.f3.f1) ((rd_T35 l0 x28_3).f4.f0) ((rd_T35 l0 x28_3).f4.f1.f0) ((rd_T35 l0 x28_3).f4.f1.f1) ((rd_T35 l0 x28_3).f4.f2.f0) ((rd_T35 l0 x28_3).f4.f2.f1.f0) ((rd_T35 l0 x28_3).f4.f2.f1.f1) ((rd_T35 l0 x28_3).f4.f2.f2)).bind fun t162 => (if t162 = true then (past_Fits.l1 k3 l0 x9_1 l0 (l0.length : Int) x9_1 l0 (l0.length : Int) (wrap64 (x28_3 + 1)) ((rd_T35 l0 x9_1).f0) ((rd_T35 l0 x9_1).f1) ((rd_T35 l0 x9_1).f2) ((rd_T35 l0 x9_1).f3.f0) ((rd_T35 l0 x9_1).f3.f1) ((rd_T35 l0 x9_1).f3.f2) ((rd_T35 l0 x9_1).f3.f3.f0) ((rd_T35 l0 x9_1).f3.f3.f1) ((rd_T35 l0 x9_1).f4.f0) ((rd_T35 l0 x9_1).f4.f1.f0) ((rd_T35 l0 x9_1).f4.f1.f1) ((rd_T35 l0 x9_1).f4.f2.f0) ((rd_T35 l0 x9_1).f4.f2.f1.f0) ((rd_T35 l0 x9_1).f4.f2.f1.f1) ((rd_T35 l0 x9_1).f4.f2.f2)) else (some false))) else (past_Fits.l1 k3 l0 x9_1 l0 (l0.length : Int) x9_1 l0 (l0.length : Int) (wrap64 (x28_3 + 1)) ((rd_T35 l0 x9_1).f0) ((rd_T35 l0 x9_1).f1) ((rd_T35 l0 x9_1).f2) ((rd_T35 l0 x9_1).f3.f0) ((rd_T35 l0 x9_1).f3.f1) ((rd_T35 l0 x9_1).f3.f2) ((rd_T35 l0 x9_1).f3.f3.f0) ((rd_T35 l0 x9_1).f3.f3.f1) ((rd_T35 l0 x9_1).f4.f0) ((rd_T35 l0 x9_1).f4.f1.f0) ((rd_T35 l0 x9_1).f4.f1.f1) ((rd_T35 l0 x9_1).f4.f2.f0) ((rd_T35 l0 x9_1).f4.f2.f1.f0) ((rd_T35 l0 x9_1).f4.f2.f1.f1) ((rd_T35 l0 x9_1).f4.f2.f2))) = some r := H
        have A30 := zM A300
        clear A300
        by_cases c31 : t161 = true
        rotate_left
        · replace c31 := Bool.eq_false_iff.mpr c31
          subst c31
          have H1 : (past_Fits.l1 k3 l0 x9_1 l0 (l0.length : Int) x9_1 l0 (l0.length : Int) (wrap64 (x28_3 + 1)) ((rd_T35 l0 x9_1).f0) ((rd_T35 l0 x9_1).f1) ((rd_T35 l0 x9_1).f2) ((rd_T35 l0 x9_1).f3.f0) ((rd_T35 l0 x9_1).f3.f1) ((rd_T35 l0 x9_1).f3.f2) ((rd_T35 l0 x9_1).f3.f3.f0) ((rd_T35 l0 x9_1).f3.f3.f1) ((rd_T35 l0 x9_1).f4.f0) ((rd_T35 l0 x9_1).f4.f1.f0) ((rd_T35 l0 x9_1).f4.f1.f1) ((rd_T35 l0 x9_1).f4.f2.f0) ((rd_T35 l0 x9_1).f4.f2.f1.f0) ((rd_T35 l0 x9_1).f4.f2.f1.f1) ((rd_T35 l0 x9_1).f4.f2.f2)) = some r := by rw [if_neg (show ¬ (false = true) by decide)] at H; exact H
          clear H
          have H := H1
          clear H1
          have H' := zM H
          clear H
          have p158 : 0 ≤ (x28_3 : Int) := of_decide_eq_true (by first | (with_reducible assumption) | assumption)
          have q158 : x28_3 < (l0.length : Int) := of_decide_eq_true (by first | (with_reducible assumption) | assumption)
          obtain ⟨ad158, e158, hx158_0, hx158_1, hx158_2, hx158_3, hx158_4, hx158_5, hx158_6, hx158_7, hx158_8, hx158_9, hx158_10, hx158_11, hx158_12, hx158_13, hx158_14⟩ := at_T35 HR0.out x28_3 p158 q158
          obtain rfl : ad153 = ad158 := (by injection e158)
          replace hx158_0 := (HB.out.cell (World.block_lt_of_cell? w _ hx158_0)).trans hx158_0
          replace hx158_1 := (HB.out.cell (World.block_lt_of_cell? w _ hx158_1)).trans hx158_1
          replace hx158_2 := (HB.out.cell (World.block_lt_of_cell? w _ hx158_2)).trans hx158_2
          replace hx158_3 := (HB.out.cell (World.block_lt_of_cell? w _ hx158_3)).trans hx158_3
          replace hx158_4 := (HB.out.cell (World.block_lt_of_cell? w _ hx158_4)).trans hx158_4
          replace hx158_5 := (HB.out.cell (World.block_lt_of_cell? w _ hx158_5)).trans hx158_5
          replace hx158_6 := (HB.out.cell (World.block_lt_of_cell? w _ hx158_6)).trans hx158_6
          replace hx158_7 := (HB.out.cell (World.block_lt_of_cell? w _ hx158_7)).trans hx158_7
          replace hx158_8 := (HB.out.cell (World.block_lt_of_cell? w _ hx158_8)).trans hx158_8
          replace hx158_9 := (HB.out.cell (World.block_lt_of_cell? w _ hx158_9)).trans hx158_9
          replace hx158_10 := (HB.out.cell (World.block_lt_of_cell? w _ hx158_10)).trans hx158_10
          replace hx158_11 := (HB.out.cell (World.block_lt_of_cell? w _ hx158_11)).trans hx158_11
          replace hx158_12 := (HB.out.cell (World.block_lt_of_cell? w _ hx158_12)).trans hx158_12
          replace hx158_13 := (HB.out.cell (World.block_lt_of_cell? w _ hx158_13)).trans hx158_13
          replace hx158_14 := (HB.out.cell (World.block_lt_of_cell? w _ hx158_14)).trans hx158_14
          replace p158 := eq_true p158
          replace q158 := eq_true q158
          go_wp2_with (first | ((with_reducible refine gld_ (t := 35) ?_); (try (refine gate_guard (by rfl) ?_; dsimp only)); first | refine wl15_ rfl 35 _ rfl rfl Try.underlying35 rfl (by kernel_rfl) ?_ | refine wlr15_ (g := gb154) rfl 35 _ rfl rfl Try.underlying35 rfl (by kernel_rfl) ?_ (hb := BK154.out) | refine wlr15_ (g := gb159) rfl 35 _ rfl rfl Try.underlying35 rfl (by kernel_rfl) ?_ (hb := BK159.out)) | ((with_reducible refine gst_ (t := 35) ?_); refine ws15_ (g := gb154) rfl 35 _ _ rfl rfl rfl (by kernel_rfl) ?_ (hb := BK154); generalize hW_ : World.setCell _ _ _ = w9_; replace BK154 : Aside0 (w9_.heap[gb154]? = some (.cells (e35_ (rd_T35 l0 x9_1)) 35 (0, 0))) := ⟨by rw [← hW_]; exact fxw15_ BK154⟩; replace HB : Aside0 (Below w.heap.size w w9_) := ⟨by rw [← hW_]; exact bl15_ HB.out GE154⟩; clear hW_) | ((with_reducible refine gst_ (t := 35) ?_); refine ws15_ (g := gb159) rfl 35 _ _ rfl rfl rfl (by kernel_rfl) ?_ (hb := BK159); generalize hW_ : World.setCell _ _ _ = w9_; replace BK159 : Aside0 (w9_.heap[gb159]? = some (.cells (e35_ (rd_T35 l0 x28_3)) 35 (0, 0))) := ⟨by rw [← hW_]; exact fxw15_ BK159⟩; replace BK154 : Aside0 (w9_.heap[gb154]? = some (.cells (e35_ (rd_T35 l0 x9_1)) 35 (0, 0))) := ⟨by rw [← hW_]; exact bf15_ BK154.out NB154_159⟩; replace HB : Aside0 (Below w.heap.size w w9_) := ⟨by rw [← hW_]; exact bl15_ HB.out GE159⟩; clear hW_) | go_step3 | ((with_reducible refine gate_dst (N := 6) rfl ?_); refine box_event ?hg (N := 6) ?hd (cs := #[.int .i64 0, .int .i64 0, .int .i64 0, .int .i64 0, .int .i64 0, .float .f64 0, .int .i64 0, .int .i64 0, .int .i64 0, .int .i64 0, .int .i64 0, .int .i64 0, .int .i64 0, .int .i64 0, .float .f64 0]) (t := 35) ?hr ?_; (case hd => rfl); (case hg => rfl); (case hr => first | (go_simp; done) | (go_simp; rfl)); intro gb159 hg w52 hbox hb; have BK159 := zM (hbox); have GW159 := zM (bs_ hg); have GE159 := zM (bs_ hg); replace HB := zM (zB bel_ hb); have NB154_159 := zM (nl_ BK154 hg); have NB159_154 := zM (ng_ BK154 hg); replace BK154 := zM (bb_ BK154 hb); clear hb hbox hg; have hnb53 := NB159_154.out; have hnc53 := NB154_159.out; obtain ⟨hcz54_0, hcz54_1, hcz54_2, hcz54_3, hcz54_4, hcz54_5, hcz54_6, hcz54_7, hcz54_8, hcz54_9, hcz54_10, hcz54_11, hcz54_12, hcz54_13, hcz54_14⟩ := r15_ BK159.out; obtain ⟨hfz54_0, hfz54_1, hfz54_2, hfz54_3, hfz54_4, hfz54_5, hfz54_6, hfz54_7, hfz54_8, hfz54_9, hfz54_10, hfz54_11, hfz54_12, hfz54_13, hfz54_14⟩ := f15_ BK159.out) | (go_at_call 24; (with_reducible refine (past_keyed.calls ((rd_T35 l0 x28_3).f0) ((rd_T35 l0 x28_3).f1) ((rd_T35 l0 x28_3).f2) ((rd_T35 l0 x28_3).f3.f0) ((rd_T35 l0 x28_3).f3.f1) ((rd_T35 l0 x28_3).f3.f2) ((rd_T35 l0 x28_3).f3.f3.f0) ((rd_T35 l0 x28_3).f3.f3.f1) ((rd_T35 l0 x28_3).f4.f0) ((rd_T35 l0 x28_3).f4.f1.f0) ((rd_T35 l0 x28_3).f4.f1.f1) ((rd_T35 l0 x28_3).f4.f2.f0) ((rd_T35 l0 x28_3).f4.f2.f1.f0) ((rd_T35 l0 x28_3).f4.f2.f1.f1) ((rd_T35 l0 x28_3).f4.f2.f2) true _ A28.out).mono ?_); rintro e w55 ⟨rfl, hb⟩; replace BK154 := zM (blk_below (g := gb154) (o := .cells (e35_ (rd_T35 l0 x9_1)) 35 (0, 0)) blf_ hb); replace BK159 := zM (blk_below (g := gb159) (o := .cells (e35_ (rd_T35 l0 x28_3)) 35 (0, 0)) (by (with_reducible repeat (first | refine zN ?_ _ | refine zD ?_ | refine zA ?_ _)); first | exact BK159.out | exact fx15_ BK159) hb); replace HB := zM (zB bel_ hb); (try clear hb); (try clear hb2); (try clear hk); (try clear hi); obtain ⟨hcz56_0, hcz56_1, hcz56_2, hcz56_3, hcz56_4, hcz56_5, hcz56_6, hcz56_7, hcz56_8, hcz56_9, hcz56_10, hcz56_11, hcz56_12, hcz56_13, hcz56_14⟩ := r15_ BK159.out; obtain ⟨hfz56_0, hfz56_1, hfz56_2, hfz56_3, hfz56_4, hfz56_5, hfz56_6, hfz56_7, hfz56_8, hfz56_9, hfz56_10, hfz56_11, hfz56_12, hfz56_13, hfz56_14⟩ := f15_ BK159.out) | (go_at_call 11; (with_reducible refine (past_Well.calls ((rd_T35 l0 x28_3).f0) ((rd_T35 l0 x28_3).f1) ((rd_T35 l0 x28_3).f2) ((rd_T35 l0 x28_3).f3.f0) ((rd_T35 l0 x28_3).f3.f1) ((rd_T35 l0 x28_3).f3.f2) ((rd_T35 l0 x28_3).f3.f3.f0) ((rd_T35 l0 x28_3).f3.f3.f1) ((rd_T35 l0 x28_3).f4.f0) ((rd_T35 l0 x28_3).f4.f1.f0) ((rd_T35 l0 x28_3).f4.f1.f1) ((rd_T35 l0 x28_3).f4.f2.f0) ((rd_T35 l0 x28_3).f4.f2.f1.f0) ((rd_T35 l0 x28_3).f4.f2.f1.f1) ((rd_T35 l0 x28_3).f4.f2.f2) false _ A30.out).mono ?_); rintro e w57 ⟨rfl, hb⟩; replace BK154 := zM (bb_ BK154 hb); replace BK159 := zM (bb_ BK159 hb); replace HB := zM (zB bel_ hb); (try clear hb); (try clear hb2); (try clear hk); (try clear hi)))
          go_roundg k3
          case measure => have := HK1.out; have := HJ4.out; have := HK3.out; omega
          case rel => exact ⟨(wrap64 (x28_3 + 1)), (by first | rfl | (simp; done) | (simp [*]; done) | (simp; grind)), H', ⟨by have := HK1.out; have := HJ4.out; have := HK3.out; omega⟩, ⟨blf_⟩, ⟨bel_⟩⟩
        subst c31
        have H1 : ((past_pair.f k3 ((rd_T35 l0 x9_1).f0) ((rd_T35 l0 x9_1).f1) ((rd_T35 l0 x9_1).f2) ((rd_T35 l0 x9_1).f3.f0) ((rd_T35 l0 x9_1).f3.f1) ((rd_T35 l0 x9_1).f3.f2) ((rd_T35 l0 x9_1).f3.f3.f0) ((rd_T35 l0 x9_1).f3.f3.f1) ((rd_T35 l0 x9_1).f4.f0) ((rd_T35 l0 x9_1).f4.f1.f0) ((rd_T35 l0 x9_1).f4.f1.f1) ((rd_T35 l0 x9_1).f4.f2.f0) ((rd_T35 l0 x9_1).f4.f2.f1.f0) ((rd_T35 l0 x9_1).f4.f2.f1.f1) ((rd_T35 l0 x9_1).f4.f2.f2) ((rd_T35 l0 x28_3).f0) ((rd_T35 l0 x28_3).f1) ((rd_T35 l0 x28_3).f2) ((rd_T35 l0 x28_3).f3.f0) ((rd_T35 l0 x28_3).f3.f1) ((rd_T35 l0 x28_3).f3.f2) ((rd_T35 l0 x28_3).f3.f3.f0) ((rd_T35 l0 x28_3).f3.f3.f1) ((rd_T35 l0 x28_3).f4.f0) ((rd_T35 l0 x28_3).f4.f1.f0) ((rd_T35 l0 x28_3).f4.f1.f1) ((rd_T35 l0 x28_3).f4.f2.f0) ((rd_T35 l0 x28_3).f4.f2.f1.f0) ((rd_T35 l0 x28_3).f4.f2.f1.f1) ((rd_T35 l0 x28_3).f4.f2.f2)).bind fun t162 => (if t162 = true then (past_Fits.l1 k3 l0 x9_1 l0 (l0.length : Int) x9_1 l0 (l0.length : Int) (wrap64 (x28_3 + 1)) ((rd_T35 l0 x9_1).f0) ((rd_T35 l0 x9_1).f1) ((rd_T35 l0 x9_1).f2) ((rd_T35 l0 x9_1).f3.f0) ((rd_T35 l0 x9_1).f3.f1) ((rd_T35 l0 x9_1).f3.f2) ((rd_T35 l0 x9_1).f3.f3.f0) ((rd_T35 l0 x9_1).f3.f3.f1) ((rd_T35 l0 x9_1).f4.f0) ((rd_T35 l0 x9_1).f4.f1.f0) ((rd_T35 l0 x9_1).f4.f1.f1) ((rd_T35 l0 x9_1).f4.f2.f0) ((rd_T35 l0 x9_1).f4.f2.f1.f0) ((rd_T35 l0 x9_1).f4.f2.f1.f1) ((rd_T35 l0 x9_1).f4.f2.f2)) else (some false))) = some r := by rw [if_pos rfl] at H; exact H
        clear H
        have H := H1
        clear H1
        replace H := Option.bind_eq_some_iff.mp H
        obtain ⟨t162, A320, H⟩ := H
        replace H : (if t162 = true then (past_Fits.l1 k3 l0 x9_1 l0 (l0.length : Int) x9_1 l0 (l0.length : Int) (wrap64 (x28_3 + 1)) ((rd_T35 l0 x9_1).f0) ((rd_T35 l0 x9_1).f1) ((rd_T35 l0 x9_1).f2) ((rd_T35 l0 x9_1).f3.f0) ((rd_T35 l0 x9_1).f3.f1) ((rd_T35 l0 x9_1).f3.f2) ((rd_T35 l0 x9_1).f3.f3.f0) ((rd_T35 l0 x9_1).f3.f3.f1) ((rd_T35 l0 x9_1).f4.f0) ((rd_T35 l0 x9_1).f4.f1.f0) ((rd_T35 l0 x9_1).f4.f1.f1) ((rd_T35 l0 x9_1).f4.f2.f0) ((rd_T35 l0 x9_1).f4.f2.f1.f0) ((rd_T35 l0 x9_1).f4.f2.f1.f1) ((rd_T35 l0 x9_1).f4.f2.f2)) else (some false)) = some r := H
        have A32 := zM A320
        clear A320
        by_cases c33 : t162 = true
        rotate_left
        · replace c33 := Bool.eq_false_iff.mpr c33
          subst c33
          have H1 : (some false) = some r := by rw [if_neg (show ¬ (false = true) by decide)] at H; exact H
          clear H
          have H := H1
          clear H1
          obtain rfl := Option.some.inj H
          have p158 : 0 ≤ (x28_3 : Int) := of_decide_eq_true (by first | (with_reducible assumption) | assumption)
          have q158 : x28_3 < (l0.length : Int) := of_decide_eq_true (by first | (with_reducible assumption) | assumption)
          obtain ⟨ad158, e158, hx158_0, hx158_1, hx158_2, hx158_3, hx158_4, hx158_5, hx158_6, hx158_7, hx158_8, hx158_9, hx158_10, hx158_11, hx158_12, hx158_13, hx158_14⟩ := at_T35 HR0.out x28_3 p158 q158
          obtain rfl : ad153 = ad158 := (by injection e158)
          replace hx158_0 := (HB.out.cell (World.block_lt_of_cell? w _ hx158_0)).trans hx158_0
          replace hx158_1 := (HB.out.cell (World.block_lt_of_cell? w _ hx158_1)).trans hx158_1
          replace hx158_2 := (HB.out.cell (World.block_lt_of_cell? w _ hx158_2)).trans hx158_2
          replace hx158_3 := (HB.out.cell (World.block_lt_of_cell? w _ hx158_3)).trans hx158_3
          replace hx158_4 := (HB.out.cell (World.block_lt_of_cell? w _ hx158_4)).trans hx158_4
          replace hx158_5 := (HB.out.cell (World.block_lt_of_cell? w _ hx158_5)).trans hx158_5
          replace hx158_6 := (HB.out.cell (World.block_lt_of_cell? w _ hx158_6)).trans hx158_6
          replace hx158_7 := (HB.out.cell (World.block_lt_of_cell? w _ hx158_7)).trans hx158_7
          replace hx158_8 := (HB.out.cell (World.block_lt_of_cell? w _ hx158_8)).trans hx158_8
          replace hx158_9 := (HB.out.cell (World.block_lt_of_cell? w _ hx158_9)).trans hx158_9
          replace hx158_10 := (HB.out.cell (World.block_lt_of_cell? w _ hx158_10)).trans hx158_10
          replace hx158_11 := (HB.out.cell (World.block_lt_of_cell? w _ hx158_11)).trans hx158_11
          replace hx158_12 := (HB.out.cell (World.block_lt_of_cell? w _ hx158_12)).trans hx158_12
          replace hx158_13 := (HB.out.cell (World.block_lt_of_cell? w _ hx158_13)).trans hx158_13
          replace hx158_14 := (HB.out.cell (World.block_lt_of_cell? w _ hx158_14)).trans hx158_14
          replace p158 := eq_true p158
          replace q158 := eq_true q158
          go_wp2_with (first | ((with_reducible refine gld_ (t := 35) ?_); (try (refine gate_guard (by rfl) ?_; dsimp only)); first | refine wl15_ rfl 35 _ rfl rfl Try.underlying35 rfl (by kernel_rfl) ?_ | refine wlr15_ (g := gb154) rfl 35 _ rfl rfl Try.underlying35 rfl (by kernel_rfl) ?_ (hb := BK154.out) | refine wlr15_ (g := gb159) rfl 35 _ rfl rfl Try.underlying35 rfl (by kernel_rfl) ?_ (hb := BK159.out)) | ((with_reducible refine gst_ (t := 35) ?_); refine ws15_ (g := gb154) rfl 35 _ _ rfl rfl rfl (by kernel_rfl) ?_ (hb := BK154); generalize hW_ : World.setCell _ _ _ = w9_; replace BK154 : Aside0 (w9_.heap[gb154]? = some (.cells (e35_ (rd_T35 l0 x9_1)) 35 (0, 0))) := ⟨by rw [← hW_]; exact fxw15_ BK154⟩; replace HB : Aside0 (Below w.heap.size w w9_) := ⟨by rw [← hW_]; exact bl15_ HB.out GE154⟩; clear hW_) | ((with_reducible refine gst_ (t := 35) ?_); refine ws15_ (g := gb159) rfl 35 _ _ rfl rfl rfl (by kernel_rfl) ?_ (hb := BK159); generalize hW_ : World.setCell _ _ _ = w9_; replace BK159 : Aside0 (w9_.heap[gb159]? = some (.cells (e35_ (rd_T35 l0 x28_3)) 35 (0, 0))) := ⟨by rw [← hW_]; exact fxw15_ BK159⟩; replace BK154 : Aside0 (w9_.heap[gb154]? = some (.cells (e35_ (rd_T35 l0 x9_1)) 35 (0, 0))) := ⟨by rw [← hW_]; exact bf15_ BK154.out NB154_159⟩; replace HB : Aside0 (Below w.heap.size w w9_) := ⟨by rw [← hW_]; exact bl15_ HB.out GE159⟩; clear hW_) | go_step3 | ((with_reducible refine gate_dst (N := 6) rfl ?_); refine box_event ?hg (N := 6) ?hd (cs := #[.int .i64 0, .int .i64 0, .int .i64 0, .int .i64 0, .int .i64 0, .float .f64 0, .int .i64 0, .int .i64 0, .int .i64 0, .int .i64 0, .int .i64 0, .int .i64 0, .int .i64 0, .int .i64 0, .float .f64 0]) (t := 35) ?hr ?_; (case hd => rfl); (case hg => rfl); (case hr => first | (go_simp; done) | (go_simp; rfl)); intro gb159 hg w43 hbox hb; have BK159 := zM (hbox); have GW159 := zM (bs_ hg); have GE159 := zM (bs_ hg); replace HB := zM (zB bel_ hb); have NB154_159 := zM (nl_ BK154 hg); have NB159_154 := zM (ng_ BK154 hg); replace BK154 := zM (bb_ BK154 hb); clear hb hbox hg; have hnb44 := NB159_154.out; have hnc44 := NB154_159.out; obtain ⟨hcz45_0, hcz45_1, hcz45_2, hcz45_3, hcz45_4, hcz45_5, hcz45_6, hcz45_7, hcz45_8, hcz45_9, hcz45_10, hcz45_11, hcz45_12, hcz45_13, hcz45_14⟩ := r15_ BK159.out; obtain ⟨hfz45_0, hfz45_1, hfz45_2, hfz45_3, hfz45_4, hfz45_5, hfz45_6, hfz45_7, hfz45_8, hfz45_9, hfz45_10, hfz45_11, hfz45_12, hfz45_13, hfz45_14⟩ := f15_ BK159.out) | (go_at_call 24; (with_reducible refine (past_keyed.calls ((rd_T35 l0 x28_3).f0) ((rd_T35 l0 x28_3).f1) ((rd_T35 l0 x28_3).f2) ((rd_T35 l0 x28_3).f3.f0) ((rd_T35 l0 x28_3).f3.f1) ((rd_T35 l0 x28_3).f3.f2) ((rd_T35 l0 x28_3).f3.f3.f0) ((rd_T35 l0 x28_3).f3.f3.f1) ((rd_T35 l0 x28_3).f4.f0) ((rd_T35 l0 x28_3).f4.f1.f0) ((rd_T35 l0 x28_3).f4.f1.f1) ((rd_T35 l0 x28_3).f4.f2.f0) ((rd_T35 l0 x28_3).f4.f2.f1.f0) ((rd_T35 l0 x28_3).f4.f2.f1.f1) ((rd_T35 l0 x28_3).f4.f2.f2) true _ A28.out).mono ?_); rintro e w46 ⟨rfl, hb⟩; replace BK154 := zM (blk_below (g := gb154) (o := .cells (e35_ (rd_T35 l0 x9_1)) 35 (0, 0)) blf_ hb); replace BK159 := zM (blk_below (g := gb159) (o := .cells (e35_ (rd_T35 l0 x28_3)) 35 (0, 0)) (by (with_reducible repeat (first | refine zN ?_ _ | refine zD ?_ | refine zA ?_ _)); first | exact BK159.out | exact fx15_ BK159) hb); replace HB := zM (zB bel_ hb); (try clear hb); (try clear hb2); (try clear hk); (try clear hi); obtain ⟨hcz47_0, hcz47_1, hcz47_2, hcz47_3, hcz47_4, hcz47_5, hcz47_6, hcz47_7, hcz47_8, hcz47_9, hcz47_10, hcz47_11, hcz47_12, hcz47_13, hcz47_14⟩ := r15_ BK159.out; obtain ⟨hfz47_0, hfz47_1, hfz47_2, hfz47_3, hfz47_4, hfz47_5, hfz47_6, hfz47_7, hfz47_8, hfz47_9, hfz47_10, hfz47_11, hfz47_12, hfz47_13, hfz47_14⟩ := f15_ BK159.out) | (go_at_call 11; (with_reducible refine (past_Well.calls ((rd_T35 l0 x28_3).f0) ((rd_T35 l0 x28_3).f1) ((rd_T35 l0 x28_3).f2) ((rd_T35 l0 x28_3).f3.f0) ((rd_T35 l0 x28_3).f3.f1) ((rd_T35 l0 x28_3).f3.f2) ((rd_T35 l0 x28_3).f3.f3.f0) ((rd_T35 l0 x28_3).f3.f3.f1) ((rd_T35 l0 x28_3).f4.f0) ((rd_T35 l0 x28_3).f4.f1.f0) ((rd_T35 l0 x28_3).f4.f1.f1) ((rd_T35 l0 x28_3).f4.f2.f0) ((rd_T35 l0 x28_3).f4.f2.f1.f0) ((rd_T35 l0 x28_3).f4.f2.f1.f1) ((rd_T35 l0 x28_3).f4.f2.f2) true _ A30.out).mono ?_); rintro e w48 ⟨rfl, hb⟩; replace BK154 := zM (bb_ BK154 hb); replace BK159 := zM (bb_ BK159 hb); replace HB := zM (zB bel_ hb); (try clear hb); (try clear hb2); (try clear hk); (try clear hi); obtain ⟨hcz49_0, hcz49_1, hcz49_2, hcz49_3, hcz49_4, hcz49_5, hcz49_6, hcz49_7, hcz49_8, hcz49_9, hcz49_10, hcz49_11, hcz49_12, hcz49_13, hcz49_14⟩ := r15_ BK154.out; obtain ⟨hfz49_0, hfz49_1, hfz49_2, hfz49_3, hfz49_4, hfz49_5, hfz49_6, hfz49_7, hfz49_8, hfz49_9, hfz49_10, hfz49_11, hfz49_12, hfz49_13, hfz49_14⟩ := f15_ BK154.out; obtain ⟨hcz50_0, hcz50_1, hcz50_2, hcz50_3, hcz50_4, hcz50_5, hcz50_6, hcz50_7, hcz50_8, hcz50_9, hcz50_10, hcz50_11, hcz50_12, hcz50_13, hcz50_14⟩ := r15_ BK159.out; obtain ⟨hfz50_0, hfz50_1, hfz50_2, hfz50_3, hfz50_4, hfz50_5, hfz50_6, hfz50_7, hfz50_8, hfz50_9, hfz50_10, hfz50_11, hfz50_12, hfz50_13, hfz50_14⟩ := f15_ BK159.out) | (go_at_call 26; (with_reducible refine (past_pair.calls k3 ((rd_T35 l0 x9_1).f0) ((rd_T35 l0 x9_1).f1) ((rd_T35 l0 x9_1).f2) ((rd_T35 l0 x9_1).f3.f0) ((rd_T35 l0 x9_1).f3.f1) ((rd_T35 l0 x9_1).f3.f2) ((rd_T35 l0 x9_1).f3.f3.f0) ((rd_T35 l0 x9_1).f3.f3.f1) ((rd_T35 l0 x9_1).f4.f0) ((rd_T35 l0 x9_1).f4.f1.f0) ((rd_T35 l0 x9_1).f4.f1.f1) ((rd_T35 l0 x9_1).f4.f2.f0) ((rd_T35 l0 x9_1).f4.f2.f1.f0) ((rd_T35 l0 x9_1).f4.f2.f1.f1) ((rd_T35 l0 x9_1).f4.f2.f2) ((rd_T35 l0 x28_3).f0) ((rd_T35 l0 x28_3).f1) ((rd_T35 l0 x28_3).f2) ((rd_T35 l0 x28_3).f3.f0) ((rd_T35 l0 x28_3).f3.f1) ((rd_T35 l0 x28_3).f3.f2) ((rd_T35 l0 x28_3).f3.f3.f0) ((rd_T35 l0 x28_3).f3.f3.f1) ((rd_T35 l0 x28_3).f4.f0) ((rd_T35 l0 x28_3).f4.f1.f0) ((rd_T35 l0 x28_3).f4.f1.f1) ((rd_T35 l0 x28_3).f4.f2.f0) ((rd_T35 l0 x28_3).f4.f2.f1.f0) ((rd_T35 l0 x28_3).f4.f2.f1.f1) ((rd_T35 l0 x28_3).f4.f2.f2) false _ A32.out).mono ?_); rintro e w51 ⟨rfl, hb⟩; replace BK154 := zM (bb_ BK154 hb); replace BK159 := zM (bb_ BK159 hb); replace HB := zM (zB bel_ hb); (try clear hb); (try clear hb2); (try clear hk); (try clear hi)))
          (try rw [Exit.noGoto_ret])
          go_ret
          exact ⟨by first | rfl | (simp [errW_none, errW_some] <;> rfl) | (simp [*, errW_none, errW_some] <;> rfl), bel_⟩
        subst c33
        have H1 : (past_Fits.l1 k3 l0 x9_1 l0 (l0.length : Int) x9_1 l0 (l0.length : Int) (wrap64 (x28_3 + 1)) ((rd_T35 l0 x9_1).f0) ((rd_T35 l0 x9_1).f1) ((rd_T35 l0 x9_1).f2) ((rd_T35 l0 x9_1).f3.f0) ((rd_T35 l0 x9_1).f3.f1) ((rd_T35 l0 x9_1).f3.f2) ((rd_T35 l0 x9_1).f3.f3.f0) ((rd_T35 l0 x9_1).f3.f3.f1) ((rd_T35 l0 x9_1).f4.f0) ((rd_T35 l0 x9_1).f4.f1.f0) ((rd_T35 l0 x9_1).f4.f1.f1) ((rd_T35 l0 x9_1).f4.f2.f0) ((rd_T35 l0 x9_1).f4.f2.f1.f0) ((rd_T35 l0 x9_1).f4.f2.f1.f1) ((rd_T35 l0 x9_1).f4.f2.f2)) = some r := by rw [if_pos rfl] at H; exact H
        clear H
        have H := H1
        clear H1
        have H' := zM H
        clear H
        have p158 : 0 ≤ (x28_3 : Int) := of_decide_eq_true (by first | (with_reducible assumption) | assumption)
        have q158 : x28_3 < (l0.length : Int) := of_decide_eq_true (by first | (with_reducible assumption) | assumption)
        obtain ⟨ad158, e158, hx158_0, hx158_1, hx158_2, hx158_3, hx158_4, hx158_5, hx158_6, hx158_7, hx158_8, hx158_9, hx158_10, hx158_11, hx158_12, hx158_13, hx158_14⟩ := at_T35 HR0.out x28_3 p158 q158
        obtain rfl : ad153 = ad158 := (by injection e158)
        replace hx158_0 := (HB.out.cell (World.block_lt_of_cell? w _ hx158_0)).trans hx158_0
        replace hx158_1 := (HB.out.cell (World.block_lt_of_cell? w _ hx158_1)).trans hx158_1
        replace hx158_2 := (HB.out.cell (World.block_lt_of_cell? w _ hx158_2)).trans hx158_2
        replace hx158_3 := (HB.out.cell (World.block_lt_of_cell? w _ hx158_3)).trans hx158_3
        replace hx158_4 := (HB.out.cell (World.block_lt_of_cell? w _ hx158_4)).trans hx158_4
        replace hx158_5 := (HB.out.cell (World.block_lt_of_cell? w _ hx158_5)).trans hx158_5
        replace hx158_6 := (HB.out.cell (World.block_lt_of_cell? w _ hx158_6)).trans hx158_6
        replace hx158_7 := (HB.out.cell (World.block_lt_of_cell? w _ hx158_7)).trans hx158_7
        replace hx158_8 := (HB.out.cell (World.block_lt_of_cell? w _ hx158_8)).trans hx158_8
        replace hx158_9 := (HB.out.cell (World.block_lt_of_cell? w _ hx158_9)).trans hx158_9
        replace hx158_10 := (HB.out.cell (World.block_lt_of_cell? w _ hx158_10)).trans hx158_10
        replace hx158_11 := (HB.out.cell (World.block_lt_of_cell? w _ hx158_11)).trans hx158_11
        replace hx158_12 := (HB.out.cell (World.block_lt_of_cell? w _ hx158_12)).trans hx158_12
        replace hx158_13 := (HB.out.cell (World.block_lt_of_cell? w _ hx158_13)).trans hx158_13
        replace hx158_14 := (HB.out.cell (World.block_lt_of_cell? w _ hx158_14)).trans hx158_14
        replace p158 := eq_true p158
        replace q158 := eq_true q158
        go_wp2_with (first | ((with_reducible refine gld_ (t := 35) ?_); (try (refine gate_guard (by rfl) ?_; dsimp only)); first | refine wl15_ rfl 35 _ rfl rfl Try.underlying35 rfl (by kernel_rfl) ?_ | refine wlr15_ (g := gb154) rfl 35 _ rfl rfl Try.underlying35 rfl (by kernel_rfl) ?_ (hb := BK154.out) | refine wlr15_ (g := gb159) rfl 35 _ rfl rfl Try.underlying35 rfl (by kernel_rfl) ?_ (hb := BK159.out)) | ((with_reducible refine gst_ (t := 35) ?_); refine ws15_ (g := gb154) rfl 35 _ _ rfl rfl rfl (by kernel_rfl) ?_ (hb := BK154); generalize hW_ : World.setCell _ _ _ = w9_; replace BK154 : Aside0 (w9_.heap[gb154]? = some (.cells (e35_ (rd_T35 l0 x9_1)) 35 (0, 0))) := ⟨by rw [← hW_]; exact fxw15_ BK154⟩; replace HB : Aside0 (Below w.heap.size w w9_) := ⟨by rw [← hW_]; exact bl15_ HB.out GE154⟩; clear hW_) | ((with_reducible refine gst_ (t := 35) ?_); refine ws15_ (g := gb159) rfl 35 _ _ rfl rfl rfl (by kernel_rfl) ?_ (hb := BK159); generalize hW_ : World.setCell _ _ _ = w9_; replace BK159 : Aside0 (w9_.heap[gb159]? = some (.cells (e35_ (rd_T35 l0 x28_3)) 35 (0, 0))) := ⟨by rw [← hW_]; exact fxw15_ BK159⟩; replace BK154 : Aside0 (w9_.heap[gb154]? = some (.cells (e35_ (rd_T35 l0 x9_1)) 35 (0, 0))) := ⟨by rw [← hW_]; exact bf15_ BK154.out NB154_159⟩; replace HB : Aside0 (Below w.heap.size w w9_) := ⟨by rw [← hW_]; exact bl15_ HB.out GE159⟩; clear hW_) | go_step3 | ((with_reducible refine gate_dst (N := 6) rfl ?_); refine box_event ?hg (N := 6) ?hd (cs := #[.int .i64 0, .int .i64 0, .int .i64 0, .int .i64 0, .int .i64 0, .float .f64 0, .int .i64 0, .int .i64 0, .int .i64 0, .int .i64 0, .int .i64 0, .int .i64 0, .int .i64 0, .int .i64 0, .float .f64 0]) (t := 35) ?hr ?_; (case hd => rfl); (case hg => rfl); (case hr => first | (go_simp; done) | (go_simp; rfl)); intro gb159 hg w34 hbox hb; have BK159 := zM (hbox); have GW159 := zM (bs_ hg); have GE159 := zM (bs_ hg); replace HB := zM (zB bel_ hb); have NB154_159 := zM (nl_ BK154 hg); have NB159_154 := zM (ng_ BK154 hg); replace BK154 := zM (bb_ BK154 hb); clear hb hbox hg; have hnb35 := NB159_154.out; have hnc35 := NB154_159.out; obtain ⟨hcz36_0, hcz36_1, hcz36_2, hcz36_3, hcz36_4, hcz36_5, hcz36_6, hcz36_7, hcz36_8, hcz36_9, hcz36_10, hcz36_11, hcz36_12, hcz36_13, hcz36_14⟩ := r15_ BK159.out; obtain ⟨hfz36_0, hfz36_1, hfz36_2, hfz36_3, hfz36_4, hfz36_5, hfz36_6, hfz36_7, hfz36_8, hfz36_9, hfz36_10, hfz36_11, hfz36_12, hfz36_13, hfz36_14⟩ := f15_ BK159.out) | (go_at_call 24; (with_reducible refine (past_keyed.calls ((rd_T35 l0 x28_3).f0) ((rd_T35 l0 x28_3).f1) ((rd_T35 l0 x28_3).f2) ((rd_T35 l0 x28_3).f3.f0) ((rd_T35 l0 x28_3).f3.f1) ((rd_T35 l0 x28_3).f3.f2) ((rd_T35 l0 x28_3).f3.f3.f0) ((rd_T35 l0 x28_3).f3.f3.f1) ((rd_T35 l0 x28_3).f4.f0) ((rd_T35 l0 x28_3).f4.f1.f0) ((rd_T35 l0 x28_3).f4.f1.f1) ((rd_T35 l0 x28_3).f4.f2.f0) ((rd_T35 l0 x28_3).f4.f2.f1.f0) ((rd_T35 l0 x28_3).f4.f2.f1.f1) ((rd_T35 l0 x28_3).f4.f2.f2) true _ A28.out).mono ?_); rintro e w37 ⟨rfl, hb⟩; replace BK154 := zM (blk_below (g := gb154) (o := .cells (e35_ (rd_T35 l0 x9_1)) 35 (0, 0)) blf_ hb); replace BK159 := zM (blk_below (g := gb159) (o := .cells (e35_ (rd_T35 l0 x28_3)) 35 (0, 0)) (by (with_reducible repeat (first | refine zN ?_ _ | refine zD ?_ | refine zA ?_ _)); first | exact BK159.out | exact fx15_ BK159) hb); replace HB := zM (zB bel_ hb); (try clear hb); (try clear hb2); (try clear hk); (try clear hi); obtain ⟨hcz38_0, hcz38_1, hcz38_2, hcz38_3, hcz38_4, hcz38_5, hcz38_6, hcz38_7, hcz38_8, hcz38_9, hcz38_10, hcz38_11, hcz38_12, hcz38_13, hcz38_14⟩ := r15_ BK159.out; obtain ⟨hfz38_0, hfz38_1, hfz38_2, hfz38_3, hfz38_4, hfz38_5, hfz38_6, hfz38_7, hfz38_8, hfz38_9, hfz38_10, hfz38_11, hfz38_12, hfz38_13, hfz38_14⟩ := f15_ BK159.out) | (go_at_call 11; (with_reducible refine (past_Well.calls ((rd_T35 l0 x28_3).f0) ((rd_T35 l0 x28_3).f1) ((rd_T35 l0 x28_3).f2) ((rd_T35 l0 x28_3).f3.f0) ((rd_T35 l0 x28_3).f3.f1) ((rd_T35 l0 x28_3).f3.f2) ((rd_T35 l0 x28_3).f3.f3.f0) ((rd_T35 l0 x28_3).f3.f3.f1) ((rd_T35 l0 x28_3).f4.f0) ((rd_T35 l0 x28_3).f4.f1.f0) ((rd_T35 l0 x28_3).f4.f1.f1) ((rd_T35 l0 x28_3).f4.f2.f0) ((rd_T35 l0 x28_3).f4.f2.f1.f0) ((rd_T35 l0 x28_3).f4.f2.f1.f1) ((rd_T35 l0 x28_3).f4.f2.f2) true _ A30.out).mono ?_); rintro e w39 ⟨rfl, hb⟩; replace BK154 := zM (bb_ BK154 hb); replace BK159 := zM (bb_ BK159 hb); replace HB := zM (zB bel_ hb); (try clear hb); (try clear hb2); (try clear hk); (try clear hi); obtain ⟨hcz40_0, hcz40_1, hcz40_2, hcz40_3, hcz40_4, hcz40_5, hcz40_6, hcz40_7, hcz40_8, hcz40_9, hcz40_10, hcz40_11, hcz40_12, hcz40_13, hcz40_14⟩ := r15_ BK154.out; obtain ⟨hfz40_0, hfz40_1, hfz40_2, hfz40_3, hfz40_4, hfz40_5, hfz40_6, hfz40_7, hfz40_8, hfz40_9, hfz40_10, hfz40_11, hfz40_12, hfz40_13, hfz40_14⟩ := f15_ BK154.out; obtain ⟨hcz41_0, hcz41_1, hcz41_2, hcz41_3, hcz41_4, hcz41_5, hcz41_6, hcz41_7, hcz41_8, hcz41_9, hcz41_10, hcz41_11, hcz41_12, hcz41_13, hcz41_14⟩ := r15_ BK159.out; obtain ⟨hfz41_0, hfz41_1, hfz41_2, hfz41_3, hfz41_4, hfz41_5, hfz41_6, hfz41_7, hfz41_8, hfz41_9, hfz41_10, hfz41_11, hfz41_12, hfz41_13, hfz41_14⟩ := f15_ BK159.out) | (go_at_call 26; (with_reducible refine (past_pair.calls k3 ((rd_T35 l0 x9_1).f0) ((rd_T35 l0 x9_1).f1) ((rd_T35 l0 x9_1).f2) ((rd_T35 l0 x9_1).f3.f0) ((rd_T35 l0 x9_1).f3.f1) ((rd_T35 l0 x9_1).f3.f2) ((rd_T35 l0 x9_1).f3.f3.f0) ((rd_T35 l0 x9_1).f3.f3.f1) ((rd_T35 l0 x9_1).f4.f0) ((rd_T35 l0 x9_1).f4.f1.f0) ((rd_T35 l0 x9_1).f4.f1.f1) ((rd_T35 l0 x9_1).f4.f2.f0) ((rd_T35 l0 x9_1).f4.f2.f1.f0) ((rd_T35 l0 x9_1).f4.f2.f1.f1) ((rd_T35 l0 x9_1).f4.f2.f2) ((rd_T35 l0 x28_3).f0) ((rd_T35 l0 x28_3).f1) ((rd_T35 l0 x28_3).f2) ((rd_T35 l0 x28_3).f3.f0) ((rd_T35 l0 x28_3).f3.f1) ((rd_T35 l0 x28_3).f3.f2) ((rd_T35 l0 x28_3).f3.f3.f0) ((rd_T35 l0 x28_3).f3.f3.f1) ((rd_T35 l0 x28_3).f4.f0) ((rd_T35 l0 x28_3).f4.f1.f0) ((rd_T35 l0 x28_3).f4.f1.f1) ((rd_T35 l0 x28_3).f4.f2.f0) ((rd_T35 l0 x28_3).f4.f2.f1.f0) ((rd_T35 l0 x28_3).f4.f2.f1.f1) ((rd_T35 l0 x28_3).f4.f2.f2) true _ A32.out).mono ?_); rintro e w42 ⟨rfl, hb⟩; replace BK154 := zM (bb_ BK154 hb); replace BK159 := zM (bb_ BK159 hb); replace HB := zM (zB bel_ hb); (try clear hb); (try clear hb2); (try clear hk); (try clear hi)))
        go_roundg k3
        case measure => have := HK1.out; have := HJ4.out; have := HK3.out; omega
        case rel => exact ⟨(wrap64 (x28_3 + 1)), (by first | rfl | (simp; done) | (simp [*]; done) | (simp; grind)), H', ⟨by have := HK1.out; have := HJ4.out; have := HK3.out; omega⟩, ⟨blf_⟩, ⟨bel_⟩⟩
/-! ### change_Minus: function 45 -/
def change_Minus.f (a0_0 : Int) (a0_1 : Int) (a1_0 : Int) (a1_1 : Int) : Option (Int × Int) := some (Go.bits .andNot .i64 a0_0 a1_0, Go.bits .andNot .i64 a0_1 a1_1)
set_option maxHeartbeats 8000000 in
set_option maxRecDepth 100000 in
theorem change_Minus.calls (a0_0 : Int) (a0_1 : Int) (a1_0 : Int) (a1_1 : Int) (r1 : Int) (r2 : Int) (w : World) (h : change_Minus.f a0_0 a0_1 a1_0 a1_1 = some (r1, r2)) :
    Calls Try.prog 45 #[.agg #[.int .i64 a0_0, .int .i64 a0_1], .agg #[.int .i64 a1_0, .int .i64 a1_1]] w fun e w' => e = .returned (.agg #[.int .i64 r1, .int .i64 r2]) ∧ Below w.heap.size w w' := by
  have hu24 := Try.underlying24
  have HB := zM (Below.refl w.heap.size w)
  have H : (some (Go.bits .andNot .i64 a0_0 a1_0, Go.bits .andNot .i64 a0_1 a1_1)) = some (r1, r2) := h
  clear h
  simp only [Option.some.injEq, Prod.mk.injEq] at H
  obtain ⟨rfl, rfl⟩ := H
  go_enter Try.func45, Try.ntmps45
  go_wp2_with (first | ((with_reducible refine gld_ (t := 35) ?_); (try (refine gate_guard (by rfl) ?_; dsimp only)); first | refine wl15_ rfl 35 _ rfl rfl Try.underlying35 rfl (by kernel_rfl) ?_ | refine wlr15_ rfl 35 _ rfl rfl Try.underlying35 rfl (by kernel_rfl) ?_) | ((with_reducible refine gst_ (t := 35) ?_); refine ws15_ rfl 35 _ _ rfl rfl rfl (by kernel_rfl) ?_) | ((with_reducible refine gate_dst (N := 2) rfl ?_); refine box_event ?hg (N := 2) ?hd (cs := #[.int .i64 a0_0, .int .i64 a0_1]) (t := 24) ?hr ?_; (case hd => rfl); (case hg => rfl); (case hr => first | (go_simp; done) | (go_simp; rfl)); intro gb163 hg w3 hbox hb; have BK163 := zM (hbox); have GW163 := zM (bs_ hg); have GE163 := zM (bs_ hg); replace HB := zM (zB bel_ hb); clear hb hbox hg) | ((with_reducible refine gate_dst (N := 3) rfl ?_); refine box_event ?hg (N := 3) ?hd (cs := #[.int .i64 a1_0, .int .i64 a1_1]) (t := 24) ?hr ?_; (case hd => rfl); (case hg => rfl); (case hr => first | (go_simp; done) | (go_simp; rfl)); intro gb164 hg w4 hbox hb; have BK164 := zM (hbox); have GW164 := zM (bs_ hg); have GE164 := zM (bs_ hg); replace HB := zM (zB bel_ hb); have NB163_164 := zM (nl_ BK163 hg); have NB164_163 := zM (ng_ BK163 hg); replace BK163 := zM (bb_ BK163 hb); clear hb hbox hg) | ((with_reducible refine gate_dst (N := 4) rfl ?_); refine box_event ?hg (N := 4) ?hd (cs := #[.int .i64 0, .int .i64 0]) (t := 24) ?hr ?_; (case hd => rfl); (case hg => rfl); (case hr => first | (go_simp; done) | (go_simp; rfl)); intro gb165 hg w5 hbox hb; have BK165 := zM (hbox); have GW165 := zM (bs_ hg); have GE165 := zM (bs_ hg); replace HB := zM (zB bel_ hb); have NB163_165 := zM (nl_ BK163 hg); have NB165_163 := zM (ng_ BK163 hg); replace BK163 := zM (bb_ BK163 hb); have NB164_165 := zM (nl_ BK164 hg); have NB165_164 := zM (ng_ BK164 hg); replace BK164 := zM (bb_ BK164 hb); clear hb hbox hg; have hnb6 := NB163_164.out; have hnc6 := NB164_163.out; have hnb7 := NB163_165.out; have hnc7 := NB165_163.out; have hcz8_0 : w5.cell? ⟨gb163, 0, none⟩ = some (.int .i64 a0_0) := (zL BK163.out 0).trans rfl; have hcz8_1 : w5.cell? ⟨gb163, 1, none⟩ = some (.int .i64 a0_1) := (zL BK163.out 1).trans rfl; have hfz8_0 := zF BK163.out 0; have hfz8_1 := zF BK163.out 1; have hnb9 := NB164_165.out; have hnc9 := NB165_164.out; have hcz10_0 : w5.cell? ⟨gb164, 0, none⟩ = some (.int .i64 a1_0) := (zL BK164.out 0).trans rfl; have hcz10_1 : w5.cell? ⟨gb164, 1, none⟩ = some (.int .i64 a1_1) := (zL BK164.out 1).trans rfl; have hfz10_0 := zF BK164.out 0; have hfz10_1 := zF BK164.out 1; have hcz11_0 : w5.cell? ⟨gb165, 0, none⟩ = some (.int .i64 0) := (zL BK165.out 0).trans rfl; have hcz11_1 : w5.cell? ⟨gb165, 1, none⟩ = some (.int .i64 0) := (zL BK165.out 1).trans rfl; have hfz11_0 := zF BK165.out 0; have hfz11_1 := zF BK165.out 1))
  refine bodyPost_ret (results_cell_row rfl _ _ gb165 24 #[.int .i64 (Go.bits .andNot .i64 a0_0 a1_0), .int .i64 (Go.bits .andNot .i64 a0_1 a1_1)] (0, 0) _ rfl (by (with_reducible repeat (first | refine zN ?_ _ | refine zD ?_ | refine zA ?_ _)); refine blk_put (cs := #[.int .i64 (Go.bits .andNot .i64 a0_0 a1_0), .int .i64 0]) ?_ 1 _ rfl; (with_reducible repeat (first | refine zN ?_ _ | refine zD ?_ | refine zA ?_ _)); refine blk_put (cs := #[.int .i64 0, .int .i64 0]) ?_ 0 _ rfl; (with_reducible repeat (first | refine zN ?_ _ | refine zD ?_ | refine zA ?_ _)); exact BK165.out) Try.underlying24 rfl (by kernel_rfl)) rfl ?_
  exact ⟨by first | rfl | (simp [errW_none, errW_some] <;> rfl) | (simp [*, errW_none, errW_some] <;> rfl), bel_⟩
end Go.Proofs.Ytmenkbdaabjojaa.PPastSources
