/- Written by a program of this session (wip/tool/px.py) over the kit's print: what the code that the law PastNames reaches computes, function by function, and the law's row. -/
import Derived.Test.YtmenkbdaabjojaaPPastNamesx0
import Derived.Test.YtmenkbdaabjojaaPPastNamesx3
import Derived.Test.YtmenkbdaabjojaaPPastNamesx5
import Derived.Test.YtmenkbdaabjojaaPPastNamesx7
import Derived.Test.YtmenkbdaabjojaaPPastNamesx10
import Derived.Test.YtmenkbdaabjojaaPPastNamesx11
import Derived.Test.YtmenkbdaabjojaaPPastNamesx12
namespace Go.Proofs.Ytmenkbdaabjojaa.PPastNames
open Go.RowKit Go.Proofs.YtmenkbdaabjojaaX Go.Proofs.YtmenkbdaabjojaaW.PrintWords Go.Proofs.YtmenkbdaabjojaaW.PrintLast Go.Proofs.YtmenkbdaabjojaaW.PrintMore
open Go.Proofs.YtmenkbdaabjojaaW.PrintWords renaming blk_drewN → zN, blk_drew → zD, blk_alloc → zA, below_step → zB
open Go.Proofs.YtmenkbdaabjojaaW.PrintWords.Aside0 renaming mk → zM
attribute [local go_sem] max2_int min2_int max_two min_two max_three min_three max_four min_four   -- for this text's walks alone
set_option linter.unusedVariables false
set_option linter.unusedSimpArgs false

attribute [local go_sem] px_store_float px_neg_float px_call40
/-! ### ropewaylaw21_PastNames: function 3 -/
def ropewaylaw21_PastNames.f (k : Nat)  : Option (Bool) := (ropewaylaw21_pastAlive.f k).bind fun t328 => (if t328 = true then ((past_Fits.f k ([] : List (S35))).bind fun t329 => (if t329 = true then ((past_Views.f k 0 0 ([] : List (S35))).bind fun t330 => (if t330 = true then ((past_Grows.f k ([] : List (S35))).bind fun t331 => (if t331 = true then ((past_Well.f 0 0 (-1) 0 0 0 0 0 0 0 0 0 0 0 0).bind fun t332 => (if t332 = true then (some false) else ((past_Before.f 0 0 (-1) 0 0 0 0 0 0 0 0 0 0 0 0 0 9 0 0 0 0 0 0 0 0 0 0 0 0 0).bind fun t333 => (if t333 = true then (some false) else ((past_Source.f k ([] : List (S35)) 0).bind fun t334 => (some (t334 == (-1)))))))) else (some false))) else (some false))) else (some false))) else (some false))
theorem ropewaylaw21_PastNames.mono : ∀ k, LeO (ropewaylaw21_PastNames.f k ) (ropewaylaw21_PastNames.f (k + 1) ) := by
  intro  k
  unfold ropewaylaw21_PastNames.f
  repeat' first
      | (with_reducible exact past_Fits.mono _ _)
      | (with_reducible exact past_Grows.mono _ _)
      | (with_reducible exact past_Source.mono _ _ _)
      | (with_reducible exact past_Views.mono _ _ _ _)
      | (with_reducible exact ropewaylaw21_pastAlive.mono _)
      | (with_reducible exact LeO.refl _)
      | (with_reducible exact LeO.none _)
      | (with_reducible refine LeO.ite ?_ ?_)
      | (with_reducible refine LeO.bind ?_ (fun _ => ?_))
      | exact past_Fits.mono _ _
      | exact past_Grows.mono _ _
      | exact past_Source.mono _ _ _
      | exact past_Views.mono _ _ _ _
      | exact ropewaylaw21_pastAlive.mono _
      | exact LeO.none _
      | refine LeO.ite ?_ ?_
      | refine LeO.bind ?_ (fun _ => ?_)
set_option maxHeartbeats 8000000 in
set_option maxRecDepth 100000 in
theorem ropewaylaw21_PastNames.calls (k : Nat)  (r : Bool) (w : World) (hr1_ : Aside0 (r = true)) (h : ropewaylaw21_PastNames.f k  = some r) :
    Calls Try.prog 3 #[] w fun e w' => e = .returned (.bool r) ∧ Below w.heap.size w w' := by
  have hu35 := Try.underlying35
  have hu24 := Try.underlying24
  have HB := zM (Below.refl w.heap.size w)
  have H : ((ropewaylaw21_pastAlive.f k).bind fun t328 => (if t328 = true then ((past_Fits.f k ([] : List (S35))).bind fun t329 => (if t329 = true then ((past_Views.f k 0 0 ([] : List (S35))).bind fun t330 => (if t330 = true then ((past_Grows.f k ([] : List (S35))).bind fun t331 => (if t331 = true then ((past_Well.f 0 0 (-1) 0 0 0 0 0 0 0 0 0 0 0 0).bind fun t332 => (if t332 = true then (some false) else ((past_Before.f 0 0 (-1) 0 0 0 0 0 0 0 0 0 0 0 0 0 9 0 0 0 0 0 0 0 0 0 0 0 0 0).bind fun t333 => (if t333 = true then (some false) else ((past_Source.f k ([] : List (S35)) 0).bind fun t334 => (some (t334 == (-1)))))))) else (some false))) else (some false))) else (some false))) else (some false))) = some r := h
  clear h
  replace H := Option.bind_eq_some_iff.mp H
  obtain ⟨t328, A10, H⟩ := H
  replace H : (if t328 = true then ((past_Fits.f k ([] : List (S35))).bind fun t329 => (if t329 = true then ((past_Views.f k 0 0 ([] : List (S35))).bind fun t330 => (if t330 = true then ((past_Grows.f k ([] : List (S35))).bind fun t331 => (if t331 = true then ((past_Well.f 0 0 (-1) 0 0 0 0 0 0 0 0 0 0 0 0).bind fun t332 => (if t332 = true then (some false) else ((past_Before.f 0 0 (-1) 0 0 0 0 0 0 0 0 0 0 0 0 0 9 0 0 0 0 0 0 0 0 0 0 0 0 0).bind fun t333 => (if t333 = true then (some false) else ((past_Source.f k ([] : List (S35)) 0).bind fun t334 => (some (t334 == (-1)))))))) else (some false))) else (some false))) else (some false))) else (some false)) = some r := H
  have A1 := zM A10
  clear A10
  by_cases c2 : t328 = true
  rotate_left
  · replace c2 := Bool.eq_false_iff.mpr c2
    subst c2
    have H1 : (some false) = some r := by rw [if_neg (show ¬ (false = true) by decide)] at H; exact H
    clear H
    have H := H1
    clear H1
    exact absurd (Option.some.inj H) (by rw [hr1_.out]; decide)
  subst c2
  have H1 : ((past_Fits.f k ([] : List (S35))).bind fun t329 => (if t329 = true then ((past_Views.f k 0 0 ([] : List (S35))).bind fun t330 => (if t330 = true then ((past_Grows.f k ([] : List (S35))).bind fun t331 => (if t331 = true then ((past_Well.f 0 0 (-1) 0 0 0 0 0 0 0 0 0 0 0 0).bind fun t332 => (if t332 = true then (some false) else ((past_Before.f 0 0 (-1) 0 0 0 0 0 0 0 0 0 0 0 0 0 9 0 0 0 0 0 0 0 0 0 0 0 0 0).bind fun t333 => (if t333 = true then (some false) else ((past_Source.f k ([] : List (S35)) 0).bind fun t334 => (some (t334 == (-1)))))))) else (some false))) else (some false))) else (some false))) = some r := by rw [if_pos rfl] at H; exact H
  clear H
  have H := H1
  clear H1
  replace H := Option.bind_eq_some_iff.mp H
  obtain ⟨t329, A30, H⟩ := H
  replace H : (if t329 = true then ((past_Views.f k 0 0 ([] : List (S35))).bind fun t330 => (if t330 = true then ((past_Grows.f k ([] : List (S35))).bind fun t331 => (if t331 = true then ((past_Well.f 0 0 (-1) 0 0 0 0 0 0 0 0 0 0 0 0).bind fun t332 => (if t332 = true then (some false) else ((past_Before.f 0 0 (-1) 0 0 0 0 0 0 0 0 0 0 0 0 0 9 0 0 0 0 0 0 0 0 0 0 0 0 0).bind fun t333 => (if t333 = true then (some false) else ((past_Source.f k ([] : List (S35)) 0).bind fun t334 => (some (t334 == (-1)))))))) else (some false))) else (some false))) else (some false)) = some r := H
  have A3 := zM A30
  clear A30
  by_cases c4 : t329 = true
  rotate_left
  · replace c4 := Bool.eq_false_iff.mpr c4
    subst c4
    have H1 : (some false) = some r := by rw [if_neg (show ¬ (false = true) by decide)] at H; exact H
    clear H
    have H := H1
    clear H1
    exact absurd (Option.some.inj H) (by rw [hr1_.out]; decide)
  subst c4
  have H1 : ((past_Views.f k 0 0 ([] : List (S35))).bind fun t330 => (if t330 = true then ((past_Grows.f k ([] : List (S35))).bind fun t331 => (if t331 = true then ((past_Well.f 0 0 (-1) 0 0 0 0 0 0 0 0 0 0 0 0).bind fun t332 => (if t332 = true then (some false) else ((past_Before.f 0 0 (-1) 0 0 0 0 0 0 0 0 0 0 0 0 0 9 0 0 0 0 0 0 0 0 0 0 0 0 0).bind fun t333 => (if t333 = true then (some false) else ((past_Source.f k ([] : List (S35)) 0).bind fun t334 => (some (t334 == (-1)))))))) else (some false))) else (some false))) = some r := by rw [if_pos rfl] at H; exact H
  clear H
  have H := H1
  clear H1
  replace H := Option.bind_eq_some_iff.mp H
  obtain ⟨t330, A50, H⟩ := H
  replace H : (if t330 = true then ((past_Grows.f k ([] : List (S35))).bind fun t331 => (if t331 = true then ((past_Well.f 0 0 (-1) 0 0 0 0 0 0 0 0 0 0 0 0).bind fun t332 => (if t332 = true then (some false) else ((past_Before.f 0 0 (-1) 0 0 0 0 0 0 0 0 0 0 0 0 0 9 0 0 0 0 0 0 0 0 0 0 0 0 0).bind fun t333 => (if t333 = true then (some false) else ((past_Source.f k ([] : List (S35)) 0).bind fun t334 => (some (t334 == (-1)))))))) else (some false))) else (some false)) = some r := H
  have A5 := zM A50
  clear A50
  by_cases c6 : t330 = true
  rotate_left
  · replace c6 := Bool.eq_false_iff.mpr c6
    subst c6
    have H1 : (some false) = some r := by rw [if_neg (show ¬ (false = true) by decide)] at H; exact H
    clear H
    have H := H1
    clear H1
    exact absurd (Option.some.inj H) (by rw [hr1_.out]; decide)
  subst c6
  have H1 : ((past_Grows.f k ([] : List (S35))).bind fun t331 => (if t331 = true then ((past_Well.f 0 0 (-1) 0 0 0 0 0 0 0 0 0 0 0 0).bind fun t332 => (if t332 = true then (some false) else ((past_Before.f 0 0 (-1) 0 0 0 0 0 0 0 0 0 0 0 0 0 9 0 0 0 0 0 0 0 0 0 0 0 0 0).bind fun t333 => (if t333 = true then (some false) else ((past_Source.f k ([] : List (S35)) 0).bind fun t334 => (some (t334 == (-1)))))))) else (some false))) = some r := by rw [if_pos rfl] at H; exact H
  clear H
  have H := H1
  clear H1
  replace H := Option.bind_eq_some_iff.mp H
  obtain ⟨t331, A70, H⟩ := H
  replace H : (if t331 = true then ((past_Well.f 0 0 (-1) 0 0 0 0 0 0 0 0 0 0 0 0).bind fun t332 => (if t332 = true then (some false) else ((past_Before.f 0 0 (-1) 0 0 0 0 0 0 0 0 0 0 0 0 0 9 0 0 0 0 0 0 0 0 0 0 0 0 0).bind fun t333 => (if t333 = true then (some false) else ((past_Source.f k ([] : List (S35)) 0).bind fun t334 => (some (t334 == (-1)))))))) else (some false)) = some r := H
  have A7 := zM A70
  clear A70
  by_cases c8 : t331 = true
  rotate_left
  · replace c8 := Bool.eq_false_iff.mpr c8
    subst c8
    have H1 : (some false) = some r := by rw [if_neg (show ¬ (false = true) by decide)] at H; exact H
    clear H
    have H := H1
    clear H1
    exact absurd (Option.some.inj H) (by rw [hr1_.out]; decide)
  subst c8
  have H1 : ((past_Well.f 0 0 (-1) 0 0 0 0 0 0 0 0 0 0 0 0).bind fun t332 => (if t332 = true then (some false) else ((past_Before.f 0 0 (-1) 0 0 0 0 0 0 0 0 0 0 0 0 0 9 0 0 0 0 0 0 0 0 0 0 0 0 0).bind fun t333 => (if t333 = true then (some false) else ((past_Source.f k ([] : List (S35)) 0).bind fun t334 => (some (t334 == (-1)))))))) = some r := by rw [if_pos rfl] at H; exact H
  clear H
  have H := H1
  clear H1
  replace H := Option.bind_eq_some_iff.mp H
  obtain ⟨t332, A90, H⟩ := H
  replace H : (if t332 = true then (some false) else ((past_Before.f 0 0 (-1) 0 0 0 0 0 0 0 0 0 0 0 0 0 9 0 0 0 0 0 0 0 0 0 0 0 0 0).bind fun t333 => (if t333 = true then (some false) else ((past_Source.f k ([] : List (S35)) 0).bind fun t334 => (some (t334 == (-1))))))) = some r := H
  have A9 := zM A90
  clear A90
  by_cases c10 : t332 = true
  · subst c10
    have H1 : (some false) = some r := by rw [if_pos rfl] at H; exact H
    clear H
    have H := H1
    clear H1
    exact absurd (Option.some.inj H) (by rw [hr1_.out]; decide)
  replace c10 := Bool.eq_false_iff.mpr c10
  subst c10
  have H1 : ((past_Before.f 0 0 (-1) 0 0 0 0 0 0 0 0 0 0 0 0 0 9 0 0 0 0 0 0 0 0 0 0 0 0 0).bind fun t333 => (if t333 = true then (some false) else ((past_Source.f k ([] : List (S35)) 0).bind fun t334 => (some (t334 == (-1)))))) = some r := by rw [if_neg (show ¬ (false = true) by decide)] at H; exact H
  clear H
  have H := H1
  clear H1
  replace H := Option.bind_eq_some_iff.mp H
  obtain ⟨t333, A110, H⟩ := H
  replace H : (if t333 = true then (some false) else ((past_Source.f k ([] : List (S35)) 0).bind fun t334 => (some (t334 == (-1))))) = some r := H
  have A11 := zM A110
  clear A110
  by_cases c12 : t333 = true
  · subst c12
    have H1 : (some false) = some r := by rw [if_pos rfl] at H; exact H
    clear H
    have H := H1
    clear H1
    exact absurd (Option.some.inj H) (by rw [hr1_.out]; decide)
  replace c12 := Bool.eq_false_iff.mpr c12
  subst c12
  have H1 : ((past_Source.f k ([] : List (S35)) 0).bind fun t334 => (some (t334 == (-1)))) = some r := by rw [if_neg (show ¬ (false = true) by decide)] at H; exact H
  clear H
  have H := H1
  clear H1
  replace H := Option.bind_eq_some_iff.mp H
  obtain ⟨t334, A130, H⟩ := H
  replace H : (some (t334 == (-1))) = some r := H
  have A13 := zM A130
  clear A130
  obtain rfl := Option.some.inj H
  go_enter Try.func3, Try.ntmps3
  go_wp2_with (first | ((with_reducible refine gld_ (t := 35) ?_); (try (refine gate_guard (by rfl) ?_; dsimp only)); first | refine wl15_ rfl 35 _ rfl rfl Try.underlying35 rfl (by kernel_rfl) ?_ | refine wlr15_ rfl 35 _ rfl rfl Try.underlying35 rfl (by kernel_rfl) ?_) | ((with_reducible refine gst_ (t := 35) ?_); refine ws15_ rfl 35 _ _ rfl rfl rfl (by kernel_rfl) ?_) | ((with_reducible refine gate_dst (N := 1) rfl ?_); refine box_event ?hg (N := 1) ?hd (cs := #[.int .i64 0, .int .i64 0, .int .i64 0, .int .i64 0, .int .i64 0, .float .f64 0, .int .i64 0, .int .i64 0, .int .i64 0, .int .i64 0, .int .i64 0, .int .i64 0, .int .i64 0, .int .i64 0, .float .f64 0]) (t := 35) ?hr ?_; (case hd => rfl); (case hg => rfl); (case hr => first | (go_simp; done) | (go_simp; rfl)); intro gb327 hg w14 hbox hb; have BK327 := zM (hbox); have GW327 := zM (bs_ hg); have GE327 := zM (bs_ hg); replace HB := zM (zB bel_ hb); clear hb hbox hg; obtain ⟨hcz15_0, hcz15_1, hcz15_2, hcz15_3, hcz15_4, hcz15_5, hcz15_6, hcz15_7, hcz15_8, hcz15_9, hcz15_10, hcz15_11, hcz15_12, hcz15_13, hcz15_14⟩ := r15_ BK327.out; obtain ⟨hfz15_0, hfz15_1, hfz15_2, hfz15_3, hfz15_4, hfz15_5, hfz15_6, hfz15_7, hfz15_8, hfz15_9, hfz15_10, hfz15_11, hfz15_12, hfz15_13, hfz15_14⟩ := f15_ BK327.out) | ((with_reducible refine gate_callee (f := 7) rfl ?_); refine goL_ (some 3) Try.func7 #[] ?_; (with_reducible refine (ropewaylaw21_pastAlive.calls k  true _ A1.out).mono ?_); rintro e w16 ⟨rfl, hb⟩; refine ⟨_, rfl, ?_⟩; replace BK327 := zM (blk_below (g := gb327) (o := .cells #[.int .i64 0, .int .i64 0, .int .i64 (-1), .int .i64 0, .int .i64 0, .float .f64 0, .int .i64 0, .int .i64 0, .int .i64 0, .int .i64 0, .int .i64 0, .int .i64 0, .int .i64 0, .int .i64 0, .float .f64 0] 35 (0, 0)) (by (with_reducible repeat (first | refine zN ?_ _ | refine zD ?_ | refine zA ?_ _)); exact fx15_ BK327) hb); replace HB := zM (zB bel_ hb); (try clear hb); (try clear hb2); (try clear hk); (try clear hi)) | (go_at_call 8; (with_reducible refine calls_of_args (args' := #[.slice none 0 0]) rfl ?_); (refine (past_Fits.calls k _ _ ([] : List (S35)) true _ ?side1 ?side2 A3.out).mono ?_); (case side1 => exact Kd.C_nil _ _); (case side2 => exact Nat.le_refl _); rintro e w17 ⟨rfl, hb⟩; replace BK327 := zM (bb_ BK327 hb); replace HB := zM (zB bel_ hb); (try clear hb); (try clear hb2); (try clear hk); (try clear hi)) | (go_at_call 9; (with_reducible refine calls_of_args (args' := #[.agg #[.int .i64 0, .int .i64 0], .slice none 0 0]) rfl ?_); (refine (past_Views.calls k 0 0 _ _ ([] : List (S35)) true _ ?side1 ?side2 A5.out).mono ?_); (case side1 => exact Kd.C_nil _ _); (case side2 => exact Nat.le_refl _); rintro e w18 ⟨rfl, hb⟩; replace BK327 := zM (bb_ BK327 hb); replace HB := zM (zB bel_ hb); (try clear hb); (try clear hb2); (try clear hk); (try clear hi)) | (go_at_call 10; (with_reducible refine calls_of_args (args' := #[.slice none 0 0]) rfl ?_); (refine (past_Grows.calls k _ _ ([] : List (S35)) true _ ?side1 ?side2 A7.out).mono ?_); (case side1 => exact Kd.C_nil _ _); (case side2 => exact Nat.le_refl _); rintro e w19 ⟨rfl, hb⟩; replace BK327 := zM (bb_ BK327 hb); replace HB := zM (zB bel_ hb); (try clear hb); (try clear hb2); (try clear hk); (try clear hi); obtain ⟨hcz20_0, hcz20_1, hcz20_2, hcz20_3, hcz20_4, hcz20_5, hcz20_6, hcz20_7, hcz20_8, hcz20_9, hcz20_10, hcz20_11, hcz20_12, hcz20_13, hcz20_14⟩ := r15_ BK327.out; obtain ⟨hfz20_0, hfz20_1, hfz20_2, hfz20_3, hfz20_4, hfz20_5, hfz20_6, hfz20_7, hfz20_8, hfz20_9, hfz20_10, hfz20_11, hfz20_12, hfz20_13, hfz20_14⟩ := f15_ BK327.out) | (go_at_call 11; (with_reducible refine (past_Well.calls 0 0 (-1) 0 0 0 0 0 0 0 0 0 0 0 0 false _ A9.out).mono ?_); rintro e w21 ⟨rfl, hb⟩; replace BK327 := zM (bb_ BK327 hb); replace HB := zM (zB bel_ hb); (try clear hb); (try clear hb2); (try clear hk); (try clear hi); obtain ⟨hcz22_0, hcz22_1, hcz22_2, hcz22_3, hcz22_4, hcz22_5, hcz22_6, hcz22_7, hcz22_8, hcz22_9, hcz22_10, hcz22_11, hcz22_12, hcz22_13, hcz22_14⟩ := r15_ BK327.out; obtain ⟨hfz22_0, hfz22_1, hfz22_2, hfz22_3, hfz22_4, hfz22_5, hfz22_6, hfz22_7, hfz22_8, hfz22_9, hfz22_10, hfz22_11, hfz22_12, hfz22_13, hfz22_14⟩ := f15_ BK327.out) | (go_at_call 12; (with_reducible refine (past_Before.calls 0 0 (-1) 0 0 0 0 0 0 0 0 0 0 0 0 0 9 0 0 0 0 0 0 0 0 0 0 0 0 0 false _ A11.out).mono ?_); rintro e w23 ⟨rfl, hb⟩; replace BK327 := zM (bb_ BK327 hb); replace HB := zM (zB bel_ hb); (try clear hb); (try clear hb2); (try clear hk); (try clear hi)) | (go_at_call 13; (with_reducible refine calls_of_args (args' := #[.slice none 0 0, .int .i64 0]) rfl ?_); (refine (past_Source.calls k _ _ ([] : List (S35)) 0 t334 _ ?side1 ?side2 A13.out).mono ?_); (case side1 => exact Kd.C_nil _ _); (case side2 => exact Nat.le_refl _); rintro e w24 ⟨rfl, hb⟩; replace BK327 := zM (bb_ BK327 hb); replace HB := zM (zB bel_ hb); (try clear hb); (try clear hb2); (try clear hk); (try clear hi)))
  go_ret
  exact ⟨by first | rfl | (simp [errW_none, errW_some] <;> rfl) | (simp [*, errW_none, errW_some] <;> rfl), bel_⟩
/-- THE ONE PURE STATEMENT of ropewaylaw21_PastNames. -/
def ropewaylaw21_PastNames.Pure : Prop := ∃ k, ropewaylaw21_PastNames.f k  = some true

end Go.Proofs.Ytmenkbdaabjojaa.PPastNames
