/- Written by a program of this session (wip/tool/px.py) over the kit's print: what the code that the law FrontTurns reaches computes, function by function, and the law's row. -/
import Derived.Test.YtjfmhahlmnnacaaPFrontTurnsx0
import Derived.Test.YtjfmhahlmnnacaaPFrontTurnsx1
import Derived.Test.YtjfmhahlmnnacaaPFrontTurnsx2
import Derived.Test.YtjfmhahlmnnacaaPFrontTurnsx4
namespace Go.Proofs.Ytjfmhahlmnnacaa.PFrontTurns
open Go.RowKit Go.Proofs.YtjfmhahlmnnacaaX Go.Proofs.YtjfmhahlmnnacaaW.PrintWords Go.Proofs.YtjfmhahlmnnacaaW.PrintLast Go.Proofs.YtjfmhahlmnnacaaW.PrintMore
open List renaming setIfInBounds_toArray → zS, set_cons_zero → zZ, set_cons_succ → zC
open Go.Proofs.YtjfmhahlmnnacaaW.PrintWords renaming blk_drewN → zN, blk_drew → zD, blk_alloc → zA, blk_cell → zL, blk_frozen → zF, below_step → zB
open Go.Proofs.YtjfmhahlmnnacaaW.PrintWords.Aside0 renaming mk → zM
attribute [local go_sem] max2_int min2_int max_two min_two max_three min_three max_four min_four   -- for this text's walks alone
set_option linter.unusedVariables false
set_option linter.unusedSimpArgs false

attribute [local go_sem] px_nilq22
attribute [local go_sem high] eqA24
/-! ### ropewaylaw16_frontAlive: function 8 -/
def ropewaylaw16_frontAlive.f (k : Nat)  : Option (Bool) := (front_New.f k 7 0 8 0).bind fun bt197 => ((front_Step.f k bt197.1 bt197.2.1 bt197.2.2 7 0 (([(⟨0, 1⟩ : S24)] : List (S24)))).bind fun bt206 => ((front_Least.f bt197.1 bt197.2.1 bt197.2.2).bind fun bt212 => (if (bt212.1 == 7 && (bt212.2 == 0)) = true then ((front_Want.f bt197.1 bt197.2.1 bt197.2.2 7 0).bind fun bt214 => (if (bt214.1 == 8 && (bt214.2 == 0)) = true then (if (bt206.1.length : Int) = 1 then ((front_Least.f bt206.1 bt206.2.1 bt206.2.2).bind fun bt216 => (if (bt216.1 == 7 && (bt216.2 == 1)) = true then (if (bt206.2.1 == 15 && (bt206.2.2 == 1)) = true then ((front_Least.f bt206.1 bt206.2.1 bt206.2.2).bind fun bt218 => ((front_Ends.f bt206.1 bt206.2.1 bt206.2.2 bt218.1 bt218.2).bind fun t220 => (some (!t220)))) else (some false)) else (some false))) else (some false)) else (some false))) else (some false))))
theorem ropewaylaw16_frontAlive.mono : ∀ k, LeO (ropewaylaw16_frontAlive.f k ) (ropewaylaw16_frontAlive.f (k + 1) ) := by
  intro  k
  unfold ropewaylaw16_frontAlive.f
  repeat' first
      | (with_reducible exact front_New.mono _ _ _ _ _)
      | (with_reducible exact front_Step.mono _ _ _ _ _ _ _)
      | (with_reducible exact LeO.refl _)
      | (with_reducible exact LeO.none _)
      | (with_reducible refine LeO.ite ?_ ?_)
      | (with_reducible refine LeO.bind ?_ (fun _ => ?_))
      | exact front_New.mono _ _ _ _ _
      | exact front_Step.mono _ _ _ _ _ _ _
      | exact LeO.none _
      | refine LeO.ite ?_ ?_
      | refine LeO.bind ?_ (fun _ => ?_)
def ropewaylaw16_frontAlive.T3 : Bool × List (List Nat × List Nat) := (true, [([], []), ([0], [0]), ([], []), ([1, 2], [1, 2]), ([3, 1], [3]), ([4], [4]), ([4], [4]), ([5, 6, 4, 4], [4, 5, 6]), ([4], [4]), ([7, 8, 4], [4, 7, 8]), ([4, 9], [4, 9]), ([10, 7], [10]), ([11], [11]), ([12, 11], [11, 12]), ([13, 11], [11, 13]), ([14, 11], [11, 14]), ([11, 15], [11, 15]), ([16, 11], [16]), ([17], [17]), ([18, 17, 17], [17, 18]), ([17], [17]), ([19, 20, 17], [17, 19, 20]), ([17, 21], [17, 21]), ([22, 19], [22]), ([23], [23]), ([24, 23], [23, 24]), ([23], [23]), ([25, 26, 23], [23, 25, 26]), ([23, 27], [23, 27]), ([28, 23], [28]), ([29], [29]), ([29], [29]), ([31, 29, 29], [29, 31]), ([30, 32, 32, 29], [29, 30, 32]), ([33, 29], [29, 33]), ([29, 34], [29, 34]), ([35, 33, 0, 1, 2, 3, 4, 5, 6, 7, 8, 9, 10, 11, 12, 13, 14, 15, 16, 17, 18, 19, 20, 21, 22, 23, 24, 25, 26, 27, 28, 29, 30, 31, 32, 33, 34, 35], [35])])
def ropewaylaw16_frontAlive.B3 : List Nat := [0, 1, 0, 7, 15, 31, 31, 127, 31, 511, 1023, 2047, 4095, 8191, 16383, 32767, 65535, 131071, 262143, 524287, 262143, 2097151, 4194303, 8388607, 16777215, 33554431, 16777215, 134217727, 268435455, 536870911, 1073741823, 1073741823, 3221225471, 8589934591, 17179869183, 34359738367, 68719476735]
theorem ropewaylaw16_frontAlive.tab3 : rtab .any (opsOf Try.f8 3) = ropewaylaw16_frontAlive.T3 := by kernel_rfl
theorem ropewaylaw16_frontAlive.bits3 : waitsOk ropewaylaw16_frontAlive.T3.2 ropewaylaw16_frontAlive.B3 = true := by kernel_rfl
set_option maxHeartbeats 8000000 in
set_option maxRecDepth 100000 in
theorem ropewaylaw16_frontAlive.calls (k : Nat)  (r : Bool) (w : World) (h : ropewaylaw16_frontAlive.f k  = some r) :
    Calls Try.prog 8 #[] w fun e w' => e = .returned (.bool r) ∧ Below w.heap.size w w' := by
  have hu24 := Try.underlying24
  have hu26 := Try.underlying26
  have HB := zM (Below.refl w.heap.size w)
  have H : ((front_New.f k 7 0 8 0).bind fun bt197 => ((front_Step.f k bt197.1 bt197.2.1 bt197.2.2 7 0 (([(⟨0, 1⟩ : S24)] : List (S24)))).bind fun bt206 => ((front_Least.f bt197.1 bt197.2.1 bt197.2.2).bind fun bt212 => (if (bt212.1 == 7 && (bt212.2 == 0)) = true then ((front_Want.f bt197.1 bt197.2.1 bt197.2.2 7 0).bind fun bt214 => (if (bt214.1 == 8 && (bt214.2 == 0)) = true then (if (bt206.1.length : Int) = 1 then ((front_Least.f bt206.1 bt206.2.1 bt206.2.2).bind fun bt216 => (if (bt216.1 == 7 && (bt216.2 == 1)) = true then (if (bt206.2.1 == 15 && (bt206.2.2 == 1)) = true then ((front_Least.f bt206.1 bt206.2.1 bt206.2.2).bind fun bt218 => ((front_Ends.f bt206.1 bt206.2.1 bt206.2.2 bt218.1 bt218.2).bind fun t220 => (some (!t220)))) else (some false)) else (some false))) else (some false)) else (some false))) else (some false))))) = some r := h
  have hr_ : r = true := det_ ropewaylaw16_frontAlive.mono h (show ropewaylaw16_frontAlive.f 60 = some true by decide +kernel)
  clear h
  replace H := Option.bind_eq_some_iff.mp H
  obtain ⟨⟨t197, t200, t201⟩, A10, H⟩ := H
  replace H : ((front_Step.f k t197 t200 t201 7 0 (([(⟨0, 1⟩ : S24)] : List (S24)))).bind fun bt206 => ((front_Least.f t197 t200 t201).bind fun bt212 => (if (bt212.1 == 7 && (bt212.2 == 0)) = true then ((front_Want.f t197 t200 t201 7 0).bind fun bt214 => (if (bt214.1 == 8 && (bt214.2 == 0)) = true then (if (bt206.1.length : Int) = 1 then ((front_Least.f bt206.1 bt206.2.1 bt206.2.2).bind fun bt216 => (if (bt216.1 == 7 && (bt216.2 == 1)) = true then (if (bt206.2.1 == 15 && (bt206.2.2 == 1)) = true then ((front_Least.f bt206.1 bt206.2.1 bt206.2.2).bind fun bt218 => ((front_Ends.f bt206.1 bt206.2.1 bt206.2.2 bt218.1 bt218.2).bind fun t220 => (some (!t220)))) else (some false)) else (some false))) else (some false)) else (some false))) else (some false)))) = some r := H
  have A1 := zM A10
  clear A10
  obtain ⟨y203, hy203⟩ : ∃ y_ : List (S24), y_ = (([(⟨0, 1⟩ : S24)] : List (S24))) := ⟨_, rfl⟩
  replace H : ((front_Step.f k t197 t200 t201 7 0 y203).bind fun bt206 => ((front_Least.f t197 t200 t201).bind fun bt212 => (if (bt212.1 == 7 && (bt212.2 == 0)) = true then ((front_Want.f t197 t200 t201 7 0).bind fun bt214 => (if (bt214.1 == 8 && (bt214.2 == 0)) = true then (if (bt206.1.length : Int) = 1 then ((front_Least.f bt206.1 bt206.2.1 bt206.2.2).bind fun bt216 => (if (bt216.1 == 7 && (bt216.2 == 1)) = true then (if (bt206.2.1 == 15 && (bt206.2.2 == 1)) = true then ((front_Least.f bt206.1 bt206.2.1 bt206.2.2).bind fun bt218 => ((front_Ends.f bt206.1 bt206.2.1 bt206.2.2 bt218.1 bt218.2).bind fun t220 => (some (!t220)))) else (some false)) else (some false))) else (some false)) else (some false))) else (some false)))) = some r := by first | (rw [hy203]; with_reducible exact H) | (have H2_ := (Option.bind_some _ _).symm.trans H; rw [hy203]; with_reducible exact H2_) | (have H2_ := (Option.bind_some _ _).symm.trans H; with_reducible exact H2_) | with_reducible exact H | (rw [hy203]; exact H) | exact H
  have Ny203 := zM hy203
  clear hy203
  replace H := Option.bind_eq_some_iff.mp H
  obtain ⟨⟨t206, t209, t210⟩, A20, H⟩ := H
  replace H : ((front_Least.f t197 t200 t201).bind fun bt212 => (if (bt212.1 == 7 && (bt212.2 == 0)) = true then ((front_Want.f t197 t200 t201 7 0).bind fun bt214 => (if (bt214.1 == 8 && (bt214.2 == 0)) = true then (if (t206.length : Int) = 1 then ((front_Least.f t206 t209 t210).bind fun bt216 => (if (bt216.1 == 7 && (bt216.2 == 1)) = true then (if (t209 == 15 && (t210 == 1)) = true then ((front_Least.f t206 t209 t210).bind fun bt218 => ((front_Ends.f t206 t209 t210 bt218.1 bt218.2).bind fun t220 => (some (!t220)))) else (some false)) else (some false))) else (some false)) else (some false))) else (some false))) = some r := H
  have A2 := zM A20
  clear A20
  replace H := Option.bind_eq_some_iff.mp H
  obtain ⟨⟨t212, t213⟩, A30, H⟩ := H
  replace H : (if (t212 == 7 && (t213 == 0)) = true then ((front_Want.f t197 t200 t201 7 0).bind fun bt214 => (if (bt214.1 == 8 && (bt214.2 == 0)) = true then (if (t206.length : Int) = 1 then ((front_Least.f t206 t209 t210).bind fun bt216 => (if (bt216.1 == 7 && (bt216.2 == 1)) = true then (if (t209 == 15 && (t210 == 1)) = true then ((front_Least.f t206 t209 t210).bind fun bt218 => ((front_Ends.f t206 t209 t210 bt218.1 bt218.2).bind fun t220 => (some (!t220)))) else (some false)) else (some false))) else (some false)) else (some false))) else (some false)) = some r := H
  have A3 := zM A30
  clear A30
  by_cases c4 : (t212 == 7 && (t213 == 0)) = true
  rotate_left
  · rw [if_neg c4] at H
    have c4b0 : (t212 == 7 && (t213 == 0)) = false := by simpa using c4
    (try (have c4b1 : decide (t212 = 7 && (t213 == 0)) = false := by simpa using c4))
    (try (have c4b2 : (t212 == 7 && (t213 == 0)) = false := by simpa using c4))
    (try (have c4b3 : ¬ (t212 = 7 && (t213 == 0)) := by simpa using c4))
    clear c4
    exact absurd ((Option.some.inj H).trans hr_) (by decide)
  rw [if_pos c4] at H
  have c4b0 : (t212 == 7 && (t213 == 0)) = true := c4
  (try (have c4b1 : decide (t212 = 7 && (t213 == 0)) = true := by simpa using c4))
  (try (have c4b2 : (t212 == 7 && (t213 == 0)) = true := by simpa using c4))
  clear c4
  replace H := Option.bind_eq_some_iff.mp H
  obtain ⟨⟨t214, t215⟩, A50, H⟩ := H
  replace H : (if (t214 == 8 && (t215 == 0)) = true then (if (t206.length : Int) = 1 then ((front_Least.f t206 t209 t210).bind fun bt216 => (if (bt216.1 == 7 && (bt216.2 == 1)) = true then (if (t209 == 15 && (t210 == 1)) = true then ((front_Least.f t206 t209 t210).bind fun bt218 => ((front_Ends.f t206 t209 t210 bt218.1 bt218.2).bind fun t220 => (some (!t220)))) else (some false)) else (some false))) else (some false)) else (some false)) = some r := H
  have A5 := zM A50
  clear A50
  by_cases c6 : (t214 == 8 && (t215 == 0)) = true
  rotate_left
  · rw [if_neg c6] at H
    have c6b0 : (t214 == 8 && (t215 == 0)) = false := by simpa using c6
    (try (have c6b1 : decide (t214 = 8 && (t215 == 0)) = false := by simpa using c6))
    (try (have c6b2 : (t214 == 8 && (t215 == 0)) = false := by simpa using c6))
    (try (have c6b3 : ¬ (t214 = 8 && (t215 == 0)) := by simpa using c6))
    clear c6
    exact absurd ((Option.some.inj H).trans hr_) (by decide)
  rw [if_pos c6] at H
  have c6b0 : (t214 == 8 && (t215 == 0)) = true := c6
  (try (have c6b1 : decide (t214 = 8 && (t215 == 0)) = true := by simpa using c6))
  (try (have c6b2 : (t214 == 8 && (t215 == 0)) = true := by simpa using c6))
  clear c6
  by_cases c7 : (t206.length : Int) = 1
  rotate_left
  · rw [if_neg c7] at H
    have c7b0 : ((t206.length : Int) == 1) = false := beq_eq_false_iff_ne.mpr c7
    have c7b1 : ((t206.length : Int) != 1) = true := bne_iff_ne.mpr c7
    exact absurd ((Option.some.inj H).trans hr_) (by decide)
  rw [if_pos c7] at H
  have c7b0 : ((t206.length : Int) == 1) = true := beq_iff_eq.mpr c7
  have c7b1 : ((t206.length : Int) != 1) = false := bne_eq_false_iff_eq.mpr c7
  clear c7
  replace H := Option.bind_eq_some_iff.mp H
  obtain ⟨⟨t216, t217⟩, A80, H⟩ := H
  replace H : (if (t216 == 7 && (t217 == 1)) = true then (if (t209 == 15 && (t210 == 1)) = true then ((front_Least.f t206 t209 t210).bind fun bt218 => ((front_Ends.f t206 t209 t210 bt218.1 bt218.2).bind fun t220 => (some (!t220)))) else (some false)) else (some false)) = some r := H
  have A8 := zM A80
  clear A80
  by_cases c9 : (t216 == 7 && (t217 == 1)) = true
  rotate_left
  · rw [if_neg c9] at H
    have c9b0 : (t216 == 7 && (t217 == 1)) = false := by simpa using c9
    (try (have c9b1 : decide (t216 = 7 && (t217 == 1)) = false := by simpa using c9))
    (try (have c9b2 : (t216 == 7 && (t217 == 1)) = false := by simpa using c9))
    (try (have c9b3 : ¬ (t216 = 7 && (t217 == 1)) := by simpa using c9))
    clear c9
    exact absurd ((Option.some.inj H).trans hr_) (by decide)
  rw [if_pos c9] at H
  have c9b0 : (t216 == 7 && (t217 == 1)) = true := c9
  (try (have c9b1 : decide (t216 = 7 && (t217 == 1)) = true := by simpa using c9))
  (try (have c9b2 : (t216 == 7 && (t217 == 1)) = true := by simpa using c9))
  clear c9
  by_cases c10 : (t209 == 15 && (t210 == 1)) = true
  rotate_left
  · rw [if_neg c10] at H
    have c10b0 : (t209 == 15 && (t210 == 1)) = false := by simpa using c10
    (try (have c10b1 : decide (t209 = 15 && (t210 == 1)) = false := by simpa using c10))
    (try (have c10b2 : (t209 == 15 && (t210 == 1)) = false := by simpa using c10))
    (try (have c10b3 : ¬ (t209 = 15 && (t210 == 1)) := by simpa using c10))
    clear c10
    exact absurd ((Option.some.inj H).trans hr_) (by decide)
  rw [if_pos c10] at H
  have c10b0 : (t209 == 15 && (t210 == 1)) = true := c10
  (try (have c10b1 : decide (t209 = 15 && (t210 == 1)) = true := by simpa using c10))
  (try (have c10b2 : (t209 == 15 && (t210 == 1)) = true := by simpa using c10))
  clear c10
  replace H := Option.bind_eq_some_iff.mp H
  obtain ⟨⟨t218, t219⟩, A110, H⟩ := H
  replace H : ((front_Ends.f t206 t209 t210 t218 t219).bind fun t220 => (some (!t220))) = some r := H
  have A11 := zM A110
  clear A110
  replace H := Option.bind_eq_some_iff.mp H
  obtain ⟨t220, A120, H⟩ := H
  replace H : (some (!t220)) = some r := H
  have A12 := zM A120
  clear A120
  obtain rfl := Option.some.inj H
  go_enter Try.func8, Try.ntmps8
  try go_wp2_with (first | ((with_reducible refine gate_callee (f := 7) rfl ?_); refine goL_ (some 5) Try.func7 #[.agg #[.int .i64 7, .int .i64 0], .agg #[.int .i64 8, .int .i64 0]] ?_; (with_reducible refine (front_New.calls k 7 0 8 0 t197 t200 t201 _ A1.out).mono ?_); rintro e w13 ⟨v198, rfl, ho0, hb⟩; refine ⟨_, rfl, ?_⟩; have HO199 := zM (Kd.R_lower ho0 (below_size bel_)); replace HB := zM (zB bel_ hb); (try clear hb); (try clear hb2); (try clear hk); (try clear hi); (try clear ho0)) | ((with_reducible refine gate_dst (N := 1) rfl ?_); (try (refine gate_guard (by rfl) ?_; dsimp only)); refine box_event ?hg (N := 1) ?hd (cs := #[.slice none 0 0, .int .i64 0, .int .i64 0]) (t := 26) ?hr ?_; (case hd => rfl); (case hg => rfl); (case hr => first | (go_simp; done) | (go_simp; rfl)); intro gb202 hg w14 hbox hb; replace HO199 := zM (Kd.R_below (rl_ HO199) hb); have BK202 := zM (hbox); have GW202 := zM (bs_ hg); have GE202 := zM (bs_ hg); replace HB := zM (zB bel_ hb); clear hb hbox hg; obtain ⟨Ao15, co15, eo15⟩ := Kd.R_slice HO199.out; subst eo15; have hcz16_0 : w14.cell? ⟨gb202, 0, none⟩ = some (.slice none 0 0) := (zL BK202.out 0).trans rfl; have hcz16_1 : w14.cell? ⟨gb202, 1, none⟩ = some (.int .i64 0) := (zL BK202.out 1).trans rfl; have hcz16_2 : w14.cell? ⟨gb202, 2, none⟩ = some (.int .i64 0) := (zL BK202.out 2).trans rfl; have hfz16_0 := zF BK202.out 0; have hfz16_1 := zF BK202.out 1; have hfz16_2 := zF BK202.out 2) | ((with_reducible refine gate_dst (N := 9) rfl ?_); (try (refine gate_guard (by rfl) ?_; dsimp only)); refine Kd.R_lit k24 _ 24 ?hg (N := 9) ?hd (xs := ([(⟨0, 1⟩ : S24)] : List (S24))) (inner := [.int .i64 0, .int .i64 1]) (ok := fun _ => True) (okp := fun _ => True) ?hr ?hp (fun _ hk => hk) trivial (Below.refl _ _) (Nat.le_refl _) (by simp) ?_; (case hd => rfl); (case hg => rfl); (case hr => first | (go_simp; done) | (go_simp; rfl)); (case hp => exact (Reps.c2 (show Kd.M k24 _ _ _ (⟨0, 1⟩ : S24) [.int .i64 0, .int .i64 1] from (k24_mkM _ _ _ (⟨0, 1⟩ : S24) )) (Reps.none _ _))); intro v204 w17 ho18 hb hg_ hnew_; clear hg_ hnew_; (first | rw [← Ny203.out] at ho18 | (simp only [Int.reduceToNat] at ho18; rw [← Ny203.out] at ho18)); have HO205 := zM (Kd.R_lower (Kd.R_new' ho18 (Kd.R_lt (by (with_reducible repeat (first | apply Kd.R_alloc | apply Kd.R_drewN | apply Kd.R_drew)); exact (Kd.R_mono (Kd.R_far (p := ⟨gb202, 2, none⟩) (Kd.R_far (p := ⟨gb202, 1, none⟩) (Kd.R_far (p := ⟨gb202, 0, none⟩) (Kd.R_types HO199.out BK202.out (by decide)) (fun _ hk => hk.2) (.slice Ao15 t197.length co15)) (fun _ hk => hk.2) (.int .i64 t200)) (fun _ hk => hk.2) (.int .i64 t201)) (fun _ h_ => h_.1))))) (below_size bel_)); replace HO199 := zM (Kd.R_elder' (by (with_reducible repeat (first | apply Kd.R_alloc | apply Kd.R_drewN | apply Kd.R_drew)); exact (Kd.R_mono (Kd.R_far (p := ⟨gb202, 2, none⟩) (Kd.R_far (p := ⟨gb202, 1, none⟩) (Kd.R_far (p := ⟨gb202, 0, none⟩) (Kd.R_types HO199.out BK202.out (by decide)) (fun _ hk => hk.2) (.slice Ao15 t197.length co15)) (fun _ hk => hk.2) (.int .i64 t200)) (fun _ hk => hk.2) (.int .i64 t201)) (fun _ h_ => h_.1))) (Kd.R_base ho18) hb); replace BK202 := zM (blk_below (g := gb202) (o := .cells #[.slice Ao15 t197.length co15, .int .i64 t200, .int .i64 t201] 26 (0, 0)) (by (with_reducible repeat (first | refine zN ?_ _ | refine zD ?_ | refine zA ?_ _)); refine blk_put (cs := #[.slice Ao15 t197.length co15, .int .i64 t200, .int .i64 0]) ?_ 2 _ rfl; (with_reducible repeat (first | refine zN ?_ _ | refine zD ?_ | refine zA ?_ _)); refine blk_put (cs := #[.slice Ao15 t197.length co15, .int .i64 0, .int .i64 0]) ?_ 1 _ rfl; (with_reducible repeat (first | refine zN ?_ _ | refine zD ?_ | refine zA ?_ _)); refine blk_put (cs := #[.slice none 0 0, .int .i64 0, .int .i64 0]) ?_ 0 _ rfl; (with_reducible repeat (first | refine zN ?_ _ | refine zD ?_ | refine zA ?_ _)); exact BK202.out) hb); replace HB := zM (zB bel_ hb); clear hb ho18; obtain ⟨Ao19, co19, eo19⟩ := Kd.R_slice HO205.out; subst eo19) | ((with_reducible refine gate_callee (f := 14) rfl ?_); refine goL_ (some 10) Try.func14 #[.agg #[.slice Ao15 t197.length co15, .int .i64 t200, .int .i64 t201], .agg #[.int .i64 7, .int .i64 0], .slice Ao19 y203.length co19] ?_; (with_reducible refine (front_Step.calls k _ _ t197 t200 t201 7 0 _ _ y203 t206 t209 t210 _ ?side1 ?side2 ?side3 ?side4 A2.out).mono ?_); (case side1 => repeat (first | exact (Kd.R_reads' HO199.out).2.2 | (with_reducible refine Kd.C_alloc ?_ _) | (with_reducible refine Kd.C_drewN ?_ _) | (with_reducible refine Kd.C_drew ?_))); (case side2 => exact (Kd.R_reads' HO199.out).2.1); (case side3 => repeat (first | exact (Kd.R_reads' HO205.out).2.2 | (with_reducible refine Kd.C_alloc ?_ _) | (with_reducible refine Kd.C_drewN ?_ _) | (with_reducible refine Kd.C_drew ?_))); (case side4 => exact (Kd.R_reads' HO205.out).2.1); rintro e w20 ⟨v207, rfl, ho0, hb⟩; refine ⟨_, rfl, ?_⟩; have HO208 := zM (Kd.R_lower (Kd.R_new' (Kd.R_new' ho0 (Kd.R_lt (rl_ HO199))) (Kd.R_lt (rl_ HO205))) (below_size bel_)); replace HO199 := zM (Kd.R_elder' (rl_ HO199) (Kd.R_base ho0) hb); replace HO205 := zM (Kd.R_elder' (rl_ HO205) (Kd.R_base ho0) hb); replace BK202 := zM (bb_ BK202 hb); replace HB := zM (zB bel_ hb); (try clear hb); (try clear hb2); (try clear hk); (try clear hi); (try clear ho0)) | ((with_reducible refine gate_dst (N := 2) rfl ?_); (try (refine gate_guard (by rfl) ?_; dsimp only)); refine box_event ?hg (N := 2) ?hd (cs := #[.slice none 0 0, .int .i64 0, .int .i64 0]) (t := 26) ?hr ?_; (case hd => rfl); (case hg => rfl); (case hr => first | (go_simp; done) | (go_simp; rfl)); intro gb211 hg w21 hbox hb; replace HO199 := zM (Kd.R_below (rl_ HO199) hb); replace HO205 := zM (Kd.R_below (rl_ HO205) hb); replace HO208 := zM (Kd.R_below (rl_ HO208) hb); have BK211 := zM (hbox); have GW211 := zM (bs_ hg); have GE211 := zM (bs_ hg); replace HB := zM (zB bel_ hb); have NB202_211 := zM (nl_ BK202 hg); have NB211_202 := zM (ng_ BK202 hg); replace BK202 := zM (bb_ BK202 hb); clear hb hbox hg; obtain ⟨Ao22, co22, eo22⟩ := Kd.R_slice HO208.out; subst eo22; have hnb23 := NB211_202.out; have hnc23 := NB202_211.out; have hcz24_0 : w21.cell? ⟨gb211, 0, none⟩ = some (.slice none 0 0) := (zL BK211.out 0).trans rfl; have hcz24_1 : w21.cell? ⟨gb211, 1, none⟩ = some (.int .i64 0) := (zL BK211.out 1).trans rfl; have hcz24_2 : w21.cell? ⟨gb211, 2, none⟩ = some (.int .i64 0) := (zL BK211.out 2).trans rfl; have hfz24_0 := zF BK211.out 0; have hfz24_1 := zF BK211.out 1; have hfz24_2 := zF BK211.out 2))
  replace HO199 : Aside0 (Kd.R k24 24 (((w21.setCell ⟨gb211, 0, none⟩ (.slice Ao22 t206.length co22)).setCell ⟨gb211, 1, none⟩ (.int .i64 t209)).setCell ⟨gb211, 2, none⟩ (.int .i64 t210)) w.heap.size (fun k_ => some k_ ≠ (.slice Ao19 y203.length co19 : Value).ownBlock ∧ some k_ ≠ (.slice Ao22 t206.length co22 : Value).ownBlock) (.slice Ao15 t197.length co15) t197) := ⟨by (with_reducible repeat (first | apply Kd.R_alloc | apply Kd.R_drewN | apply Kd.R_drew)); exact Kd.R_mono (Kd.R_far (p := ⟨gb211, 2, none⟩) (Kd.R_far (p := ⟨gb211, 1, none⟩) (Kd.R_far (p := ⟨gb211, 0, none⟩) (Kd.R_types HO199.out BK211.out (by decide)) (fun _ hk => hk.2) (.slice Ao22 t206.length co22)) (fun _ hk => hk.2) (.int .i64 t209)) (fun _ hk => hk.2) (.int .i64 t210)) (fun _ hk => ⟨hk.1.1.2, hk.1.2⟩)⟩
  replace HO205 : Aside0 (Kd.R k24 24 (((w21.setCell ⟨gb211, 0, none⟩ (.slice Ao22 t206.length co22)).setCell ⟨gb211, 1, none⟩ (.int .i64 t209)).setCell ⟨gb211, 2, none⟩ (.int .i64 t210)) w.heap.size (fun k_ => some k_ ≠ (.slice Ao15 t197.length co15 : Value).ownBlock ∧ some k_ ≠ (.slice Ao22 t206.length co22 : Value).ownBlock) (.slice Ao19 y203.length co19) y203) := ⟨by (with_reducible repeat (first | apply Kd.R_alloc | apply Kd.R_drewN | apply Kd.R_drew)); exact Kd.R_mono (Kd.R_far (p := ⟨gb211, 2, none⟩) (Kd.R_far (p := ⟨gb211, 1, none⟩) (Kd.R_far (p := ⟨gb211, 0, none⟩) (Kd.R_types HO205.out BK211.out (by decide)) (fun _ hk => hk.2) (.slice Ao22 t206.length co22)) (fun _ hk => hk.2) (.int .i64 t209)) (fun _ hk => hk.2) (.int .i64 t210)) (fun _ hk => ⟨hk.1.1.2, hk.1.2⟩)⟩
  replace HO208 : Aside0 (Kd.R k24 24 (((w21.setCell ⟨gb211, 0, none⟩ (.slice Ao22 t206.length co22)).setCell ⟨gb211, 1, none⟩ (.int .i64 t209)).setCell ⟨gb211, 2, none⟩ (.int .i64 t210)) w.heap.size (fun k_ => some k_ ≠ (.slice Ao15 t197.length co15 : Value).ownBlock ∧ some k_ ≠ (.slice Ao19 y203.length co19 : Value).ownBlock) (.slice Ao22 t206.length co22) t206) := ⟨by (with_reducible repeat (first | apply Kd.R_alloc | apply Kd.R_drewN | apply Kd.R_drew)); exact Kd.R_mono (Kd.R_far (p := ⟨gb211, 2, none⟩) (Kd.R_far (p := ⟨gb211, 1, none⟩) (Kd.R_far (p := ⟨gb211, 0, none⟩) (Kd.R_types HO208.out BK211.out (by decide)) (fun _ hk => hk.2) (.slice Ao22 t206.length co22)) (fun _ hk => hk.2) (.int .i64 t209)) (fun _ hk => hk.2) (.int .i64 t210)) (fun _ hk => ⟨hk.1.1.2, hk.1.2⟩)⟩
  replace BK202 : Aside0 ((((w21.setCell ⟨gb211, 0, none⟩ (.slice Ao22 t206.length co22)).setCell ⟨gb211, 1, none⟩ (.int .i64 t209)).setCell ⟨gb211, 2, none⟩ (.int .i64 t210)).heap[gb202]? = some (.cells #[.slice Ao15 t197.length co15, .int .i64 t200, .int .i64 t201] 26 (0, 0))) := ⟨blf_⟩
  replace BK211 : Aside0 ((((w21.setCell ⟨gb211, 0, none⟩ (.slice Ao22 t206.length co22)).setCell ⟨gb211, 1, none⟩ (.int .i64 t209)).setCell ⟨gb211, 2, none⟩ (.int .i64 t210)).heap[gb211]? = some (.cells #[.slice Ao22 t206.length co22, .int .i64 t209, .int .i64 t210] 26 (0, 0))) := ⟨by (with_reducible repeat (first | refine zN ?_ _ | refine zD ?_ | refine zA ?_ _)); refine blk_put (cs := #[.slice Ao22 t206.length co22, .int .i64 t209, .int .i64 0]) ?_ 2 _ rfl; (with_reducible repeat (first | refine zN ?_ _ | refine zD ?_ | refine zA ?_ _)); refine blk_put (cs := #[.slice Ao22 t206.length co22, .int .i64 0, .int .i64 0]) ?_ 1 _ rfl; (with_reducible repeat (first | refine zN ?_ _ | refine zD ?_ | refine zA ?_ _)); refine blk_put (cs := #[.slice none 0 0, .int .i64 0, .int .i64 0]) ?_ 0 _ rfl; (with_reducible repeat (first | refine zN ?_ _ | refine zD ?_ | refine zA ?_ _)); exact BK211.out⟩
  replace HB : Aside0 (Below w.heap.size w (((w21.setCell ⟨gb211, 0, none⟩ (.slice Ao22 t206.length co22)).setCell ⟨gb211, 1, none⟩ (.int .i64 t209)).setCell ⟨gb211, 2, none⟩ (.int .i64 t210))) := ⟨bel_⟩
  generalize (((w21.setCell ⟨gb211, 0, none⟩ (.slice Ao22 t206.length co22)).setCell ⟨gb211, 1, none⟩ (.int .i64 t209)).setCell ⟨gb211, 2, none⟩ (.int .i64 t210)) = w25 at HO199 HO205 HO208 BK202 BK211 HB ⊢
  replace HO199 := zM (Kd.R_drew HO199.out)
  replace HO205 := zM (Kd.R_drew HO205.out)
  replace HO208 := zM (Kd.R_drew HO208.out)
  replace BK202 := zM (zD BK202.out)
  replace BK211 := zM (zD BK211.out)
  replace HB := zM (below_drew1 HB.out)
  refine start_ (n := 37) (S := fun w' => w'.cell? ⟨gb202, 0, none⟩ = some (.slice Ao15 t197.length co15) ∧ w'.cell? ⟨gb202, 1, none⟩ = some (.int .i64 t200) ∧ w'.cell? ⟨gb202, 2, none⟩ = some (.int .i64 t201) ∧ w'.cell? ⟨gb211, 0, none⟩ = some (.slice Ao22 t206.length co22) ∧ w'.cell? ⟨gb211, 1, none⟩ = some (.int .i64 t209) ∧ w'.cell? ⟨gb211, 2, none⟩ = some (.int .i64 t210)) (ds := []) #[F_, F_, F_, F_, F_, F_, F_, F_, F_, F_, F_, F_, F_, F_, F_, F_, F_, F_, F_, F_, F_, F_, F_, F_, F_, F_, F_, F_, F_, F_, F_, F_, F_, F_, F_, F_, F_] (by kernel_rfl) rfl rfl ⟨(zL BK202.out 0).trans rfl, (zL BK202.out 1).trans rfl, (zL BK202.out 2).trans rfl, (zL BK211.out 0).trans rfl, (zL BK211.out 1).trans rfl, (zL BK211.out 2).trans rfl⟩ (fun hHeld => ?_); refine with_tabW ropewaylaw16_frontAlive.tab3 ropewaylaw16_frontAlive.bits3 (fun HT_ HW_ => ?_)
  generalize w25.drew = w26 at HO199 HO205 HO208 BK202 BK211 HB hHeld ⊢
  refine pure_ (i := 2) (N := some 13) (v := ?_) (a' := ?_) #[F_, F_, T_, F_, F_, F_, F_, F_, F_, F_, F_, F_, F_, F_, F_, F_, F_, F_, F_, F_, F_, F_, F_, F_, F_, F_, F_, F_, F_, F_, F_, F_, F_, F_, F_, F_, F_] rfl rfl (any_of HT_.out (by kernel_rfl)) (fun _ _ _ h => h) (Or.inl ⟨by rfl, ?_⟩) ?_ ?_
  rotate_left
  · intro w'
    go_simp
    with_reducible rfl
  rotate_left
  · simp only [Act.put, zS, zZ, zC, i64_w, i32_w]
    rfl
  refine take_ (i := 0) (N := some 11) (v := ?_) (a' := ?_) #[T_, F_, T_, F_, F_, F_, F_, F_, F_, F_, F_, F_, F_, F_, F_, F_, F_, F_, F_, F_, F_, F_, F_, F_, F_, F_, F_, F_, F_, F_, F_, F_, F_, F_, F_, F_, F_] rfl rfl (take_ofW HT_.out HW_.out (by kernel_rfl)) (fun _ _ _ h => h) (Or.inl ⟨by rfl, ?_⟩) hHeld ?_ ?_
  rotate_left
  · rintro w' ⟨s0, s1, s2, s3, s4, s5⟩
    go_simp
    with_reducible rfl
  rotate_left
  · simp only [Act.put, zS, zZ, zC, i64_w, i32_w]
    rfl
  refine one_ (i := 1) (N := some 12) #[T_, T_, T_, F_, F_, F_, F_, F_, F_, F_, F_, F_, F_, F_, F_, F_, F_, F_, F_, F_, F_, F_, F_, F_, F_, F_, F_, F_, F_, F_, F_, F_, F_, F_, F_, F_, F_] rfl rfl (one_of HT_.out (by kernel_rfl)) (by decide) (fun K hK => ?_)
  refine goes_ Try.func10 (by kernel_rfl) rfl #[.agg #[.slice Ao15 t197.length co15, .int .i64 t200, .int .i64 t201]] (by rfl) rfl rfl (by (try simp only [List.map_toArray, List.map_cons, List.map_nil]); first | done | rfl | (simp only [List.length_drop, List.length_take]; rfl)) ?_
  with_reducible refine (front_Least.calls _ _ t197 t200 t201 t212 t213 _ ?side1 ?side2 A3.out).mono ?_
  (case side1 => repeat (first | exact (Kd.R_reads' HO199.out).2.2 | (with_reducible refine Kd.C_alloc ?_ _) | (with_reducible refine Kd.C_drewN ?_ _) | (with_reducible refine Kd.C_drew ?_)))
  (case side2 => exact (Kd.R_reads' HO199.out).2.1)
  rintro e w27 ⟨rfl, hb⟩
  refine ⟨_, rfl, ?_⟩
  replace HO199 := zM (Kd.R_below (rl_ HO199) hb)
  replace HO205 := zM (Kd.R_below (rl_ HO205) hb)
  replace HO208 := zM (Kd.R_below (rl_ HO208) hb)
  replace BK202 := zM (bb_ BK202 hb)
  replace BK211 := zM (bb_ BK211 hb)
  replace HB := zM (zB bel_ hb)
  (try clear hb)
  (try clear hb2)
  (try clear hk)
  (try clear hi)
  refine hK.out _ _ ⟨(zL BK202.out 0).trans rfl, (zL BK202.out 1).trans rfl, (zL BK202.out 2).trans rfl, (zL BK211.out 0).trans rfl, (zL BK211.out 1).trans rfl, (zL BK211.out 2).trans rfl⟩ (fun hHeld => ?_)
  clear hK K
  refine norm_ (a' := ?_) ?_ ?_
  rotate_left
  · show Act.put _ (some 12) _ = _
    simp only [Act.put, zS, zZ, zC, i64_w, i32_w]
    rfl
  refine pure_ (i := 3) (N := some 14) (v := ?_) (a' := ?_) #[T_, T_, T_, T_, F_, F_, F_, F_, F_, F_, F_, F_, F_, F_, F_, F_, F_, F_, F_, F_, F_, F_, F_, F_, F_, F_, F_, F_, F_, F_, F_, F_, F_, F_, F_, F_, F_] rfl rfl (any_of HT_.out (by kernel_rfl)) (fun _ _ _ h => h) (Or.inl ⟨by rfl, ?_⟩) ?_ ?_
  rotate_left
  · intro w'
    go_simp
    with_reducible rfl
  rotate_left
  · simp only [Act.put, zS, zZ, zC, i64_w, i32_w]
    rfl
  refine pure_ (i := 4) (N := some 15) (v := ?_) (a' := ?_) #[T_, T_, T_, T_, T_, F_, F_, F_, F_, F_, F_, F_, F_, F_, F_, F_, F_, F_, F_, F_, F_, F_, F_, F_, F_, F_, F_, F_, F_, F_, F_, F_, F_, F_, F_, F_, F_] rfl rfl (any_of HT_.out (by kernel_rfl)) (fun _ _ _ h => h) (Or.inl ⟨by rfl, ?_⟩) ?_ ?_
  rotate_left
  · intro w'
    go_simp
    with_reducible rfl
  rotate_left
  · simp only [Act.put, zS, zZ, zC, i64_w, i32_w]
    rfl
  refine pure_ (i := 6) (N := some 17) (v := ?_) (a' := ?_) #[T_, T_, T_, T_, T_, F_, T_, F_, F_, F_, F_, F_, F_, F_, F_, F_, F_, F_, F_, F_, F_, F_, F_, F_, F_, F_, F_, F_, F_, F_, F_, F_, F_, F_, F_, F_, F_] rfl rfl (any_of HT_.out (by kernel_rfl)) (fun _ _ _ h => h) (Or.inl ⟨by rfl, ?_⟩) ?_ ?_
  rotate_left
  · intro w'
    go_simp
    with_reducible rfl
  rotate_left
  · simp only [Act.put, zS, zZ, zC, i64_w, i32_w]
    rfl
  refine pure_ (i := 8) (N := some 19) (v := ?_) (a' := ?_) #[T_, T_, T_, T_, T_, F_, T_, F_, T_, F_, F_, F_, F_, F_, F_, F_, F_, F_, F_, F_, F_, F_, F_, F_, F_, F_, F_, F_, F_, F_, F_, F_, F_, F_, F_, F_, F_] rfl rfl (any_of HT_.out (by kernel_rfl)) (fun _ _ _ h => h) (Or.inl ⟨by rfl, ?_⟩) ?_ ?_
  rotate_left
  · intro w'
    go_simp
    with_reducible rfl
  rotate_left
  · simp only [Act.put, zS, zZ, zC, i64_w, i32_w]
    rfl
  refine take_ (i := 5) (N := some 16) (v := ?_) (a' := ?_) #[T_, T_, T_, T_, T_, T_, T_, F_, T_, F_, F_, F_, F_, F_, F_, F_, F_, F_, F_, F_, F_, F_, F_, F_, F_, F_, F_, F_, F_, F_, F_, F_, F_, F_, F_, F_, F_] rfl rfl (take_ofW HT_.out HW_.out (by kernel_rfl)) (fun _ _ _ h => h) (Or.inl ⟨by rfl, ?_⟩) hHeld ?_ ?_
  rotate_left
  · rintro w' ⟨s0, s1, s2, s3, s4, s5⟩
    go_simp
    with_reducible rfl
  rotate_left
  · simp only [Act.put, zS, zZ, zC, i64_w, i32_w]
    rfl
  refine one_ (i := 7) (N := some 18) #[T_, T_, T_, T_, T_, T_, T_, T_, T_, F_, F_, F_, F_, F_, F_, F_, F_, F_, F_, F_, F_, F_, F_, F_, F_, F_, F_, F_, F_, F_, F_, F_, F_, F_, F_, F_, F_] rfl rfl (one_of HT_.out (by kernel_rfl)) (by decide) (fun K hK => ?_)
  refine goes_ Try.func11 (by kernel_rfl) rfl #[.agg #[.slice Ao15 t197.length co15, .int .i64 t200, .int .i64 t201], .agg #[.int .i64 7, .int .i64 0]] (by rfl) rfl rfl (by (try simp only [List.map_toArray, List.map_cons, List.map_nil]); first | done | rfl | (simp only [List.length_drop, List.length_take]; rfl)) ?_
  with_reducible refine (front_Want.calls _ _ t197 t200 t201 7 0 t214 t215 _ ?side1 ?side2 A5.out).mono ?_
  (case side1 => repeat (first | exact (Kd.R_reads' HO199.out).2.2 | (with_reducible refine Kd.C_alloc ?_ _) | (with_reducible refine Kd.C_drewN ?_ _) | (with_reducible refine Kd.C_drew ?_)))
  (case side2 => exact (Kd.R_reads' HO199.out).2.1)
  rintro e w28 ⟨rfl, hb⟩
  refine ⟨_, rfl, ?_⟩
  replace HO199 := zM (Kd.R_below (rl_ HO199) hb)
  replace HO205 := zM (Kd.R_below (rl_ HO205) hb)
  replace HO208 := zM (Kd.R_below (rl_ HO208) hb)
  replace BK202 := zM (bb_ BK202 hb)
  replace BK211 := zM (bb_ BK211 hb)
  replace HB := zM (zB bel_ hb)
  (try clear hb)
  (try clear hb2)
  (try clear hk)
  (try clear hi)
  refine hK.out _ _ ⟨(zL BK202.out 0).trans rfl, (zL BK202.out 1).trans rfl, (zL BK202.out 2).trans rfl, (zL BK211.out 0).trans rfl, (zL BK211.out 1).trans rfl, (zL BK211.out 2).trans rfl⟩ (fun hHeld => ?_)
  clear hK K
  refine norm_ (a' := ?_) ?_ ?_
  rotate_left
  · show Act.put _ (some 18) _ = _
    simp only [Act.put, zS, zZ, zC, i64_w, i32_w]
    rfl
  refine pure_ (i := 9) (N := some 20) (v := ?_) (a' := ?_) #[T_, T_, T_, T_, T_, T_, T_, T_, T_, T_, F_, F_, F_, F_, F_, F_, F_, F_, F_, F_, F_, F_, F_, F_, F_, F_, F_, F_, F_, F_, F_, F_, F_, F_, F_, F_, F_] rfl rfl (any_of HT_.out (by kernel_rfl)) (fun _ _ _ h => h) (Or.inl ⟨by rfl, ?_⟩) ?_ ?_
  rotate_left
  · intro w'
    go_simp
    with_reducible rfl
  rotate_left
  · simp only [Act.put, zS, zZ, zC, i64_w, i32_w]
    rfl
  refine pure_ (i := 10) (N := some 21) (v := ?_) (a' := ?_) #[T_, T_, T_, T_, T_, T_, T_, T_, T_, T_, T_, F_, F_, F_, F_, F_, F_, F_, F_, F_, F_, F_, F_, F_, F_, F_, F_, F_, F_, F_, F_, F_, F_, F_, F_, F_, F_] rfl rfl (any_of HT_.out (by kernel_rfl)) (fun _ _ _ h => h) (Or.inl ⟨by rfl, ?_⟩) ?_ ?_
  rotate_left
  · intro w'
    go_simp
    with_reducible rfl
  rotate_left
  · simp only [Act.put, zS, zZ, zC, i64_w, i32_w]
    rfl
  refine pure_ (i := 11) (N := some 22) (v := ?_) (a' := ?_) #[T_, T_, T_, T_, T_, T_, T_, T_, T_, T_, T_, T_, F_, F_, F_, F_, F_, F_, F_, F_, F_, F_, F_, F_, F_, F_, F_, F_, F_, F_, F_, F_, F_, F_, F_, F_, F_] rfl rfl (any_of HT_.out (by kernel_rfl)) (fun _ _ _ h => h) (Or.inl ⟨by rfl, ?_⟩) ?_ ?_
  rotate_left
  · intro w'
    go_simp
    with_reducible rfl
  rotate_left
  · simp only [Act.put, zS, zZ, zC, i64_w, i32_w]
    rfl
  refine pure_ (i := 12) (N := some 23) (v := ?_) (a' := ?_) #[T_, T_, T_, T_, T_, T_, T_, T_, T_, T_, T_, T_, T_, F_, F_, F_, F_, F_, F_, F_, F_, F_, F_, F_, F_, F_, F_, F_, F_, F_, F_, F_, F_, F_, F_, F_, F_] rfl rfl (any_of HT_.out (by kernel_rfl)) (fun _ _ _ h => h) (Or.inl ⟨by rfl, ?_⟩) ?_ ?_
  rotate_left
  · intro w'
    go_simp
    with_reducible rfl
  rotate_left
  · simp only [Act.put, zS, zZ, zC, i64_w, i32_w]
    rfl
  refine take_ (i := 13) (N := some 24) (v := ?_) (a' := ?_) #[T_, T_, T_, T_, T_, T_, T_, T_, T_, T_, T_, T_, T_, T_, F_, F_, F_, F_, F_, F_, F_, F_, F_, F_, F_, F_, F_, F_, F_, F_, F_, F_, F_, F_, F_, F_, F_] rfl rfl (take_ofW HT_.out HW_.out (by kernel_rfl)) (fun _ _ _ h => h) (Or.inl ⟨by rfl, ?_⟩) hHeld ?_ ?_
  rotate_left
  · rintro w' ⟨s0, s1, s2, s3, s4, s5⟩
    go_simp
    with_reducible rfl
  rotate_left
  · simp only [Act.put, zS, zZ, zC, i64_w, i32_w]
    rfl
  refine pure_ (i := 14) (N := some 25) (v := ?_) (a' := ?_) #[T_, T_, T_, T_, T_, T_, T_, T_, T_, T_, T_, T_, T_, T_, T_, F_, F_, F_, F_, F_, F_, F_, F_, F_, F_, F_, F_, F_, F_, F_, F_, F_, F_, F_, F_, F_, F_] rfl rfl (any_of HT_.out (by kernel_rfl)) (fun _ _ _ h => h) (Or.inl ⟨by rfl, ?_⟩) ?_ ?_
  rotate_left
  · intro w'
    go_simp
    with_reducible rfl
  rotate_left
  · simp only [Act.put, zS, zZ, zC, i64_w, i32_w]
    rfl
  refine pure_ (i := 15) (N := some 26) (v := ?_) (a' := ?_) #[T_, T_, T_, T_, T_, T_, T_, T_, T_, T_, T_, T_, T_, T_, T_, T_, F_, F_, F_, F_, F_, F_, F_, F_, F_, F_, F_, F_, F_, F_, F_, F_, F_, F_, F_, F_, F_] rfl rfl (any_of HT_.out (by kernel_rfl)) (fun _ _ _ h => h) (Or.inl ⟨by rfl, ?_⟩) ?_ ?_
  rotate_left
  · intro w'
    go_simp
    with_reducible rfl
  rotate_left
  · simp only [Act.put, zS, zZ, zC, i64_w, i32_w]
    rfl
  refine pure_ (i := 16) (N := some 27) (v := ?_) (a' := ?_) #[T_, T_, T_, T_, T_, T_, T_, T_, T_, T_, T_, T_, T_, T_, T_, T_, T_, F_, F_, F_, F_, F_, F_, F_, F_, F_, F_, F_, F_, F_, F_, F_, F_, F_, F_, F_, F_] rfl rfl (any_of HT_.out (by kernel_rfl)) (fun _ _ _ h => h) (Or.inl ⟨by rfl, ?_⟩) ?_ ?_
  rotate_left
  · intro w'
    go_simp
    with_reducible rfl
  rotate_left
  · simp only [Act.put, zS, zZ, zC, i64_w, i32_w]
    rfl
  refine pure_ (i := 17) (N := some 28) (v := ?_) (a' := ?_) #[T_, T_, T_, T_, T_, T_, T_, T_, T_, T_, T_, T_, T_, T_, T_, T_, T_, T_, F_, F_, F_, F_, F_, F_, F_, F_, F_, F_, F_, F_, F_, F_, F_, F_, F_, F_, F_] rfl rfl (any_of HT_.out (by kernel_rfl)) (fun _ _ _ h => h) (Or.inl ⟨by rfl, ?_⟩) ?_ ?_
  rotate_left
  · intro w'
    go_simp
    with_reducible rfl
  rotate_left
  · simp only [Act.put, zS, zZ, zC, i64_w, i32_w]
    rfl
  refine pure_ (i := 20) (N := some 31) (v := ?_) (a' := ?_) #[T_, T_, T_, T_, T_, T_, T_, T_, T_, T_, T_, T_, T_, T_, T_, T_, T_, T_, F_, F_, T_, F_, F_, F_, F_, F_, F_, F_, F_, F_, F_, F_, F_, F_, F_, F_, F_] rfl rfl (any_of HT_.out (by kernel_rfl)) (fun _ _ _ h => h) (Or.inl ⟨by rfl, ?_⟩) ?_ ?_
  rotate_left
  · intro w'
    go_simp
    with_reducible rfl
  rotate_left
  · simp only [Act.put, zS, zZ, zC, i64_w, i32_w]
    rfl
  refine take_ (i := 18) (N := some 29) (v := ?_) (a' := ?_) #[T_, T_, T_, T_, T_, T_, T_, T_, T_, T_, T_, T_, T_, T_, T_, T_, T_, T_, T_, F_, T_, F_, F_, F_, F_, F_, F_, F_, F_, F_, F_, F_, F_, F_, F_, F_, F_] rfl rfl (take_ofW HT_.out HW_.out (by kernel_rfl)) (fun _ _ _ h => h) (Or.inl ⟨by rfl, ?_⟩) hHeld ?_ ?_
  rotate_left
  · rintro w' ⟨s0, s1, s2, s3, s4, s5⟩
    go_simp
    with_reducible rfl
  rotate_left
  · simp only [Act.put, zS, zZ, zC, i64_w, i32_w]
    rfl
  refine one_ (i := 19) (N := some 30) #[T_, T_, T_, T_, T_, T_, T_, T_, T_, T_, T_, T_, T_, T_, T_, T_, T_, T_, T_, T_, T_, F_, F_, F_, F_, F_, F_, F_, F_, F_, F_, F_, F_, F_, F_, F_, F_] rfl rfl (one_of HT_.out (by kernel_rfl)) (by decide) (fun K hK => ?_)
  refine goes_ Try.func10 (by kernel_rfl) rfl #[.agg #[.slice Ao22 t206.length co22, .int .i64 t209, .int .i64 t210]] (by rfl) rfl rfl (by (try simp only [List.map_toArray, List.map_cons, List.map_nil]); first | done | rfl | (simp only [List.length_drop, List.length_take]; rfl)) ?_
  with_reducible refine (front_Least.calls _ _ t206 t209 t210 t216 t217 _ ?side1 ?side2 A8.out).mono ?_
  (case side1 => repeat (first | exact (Kd.R_reads' HO208.out).2.2 | (with_reducible refine Kd.C_alloc ?_ _) | (with_reducible refine Kd.C_drewN ?_ _) | (with_reducible refine Kd.C_drew ?_)))
  (case side2 => exact (Kd.R_reads' HO208.out).2.1)
  rintro e w29 ⟨rfl, hb⟩
  refine ⟨_, rfl, ?_⟩
  replace HO199 := zM (Kd.R_below (rl_ HO199) hb)
  replace HO205 := zM (Kd.R_below (rl_ HO205) hb)
  replace HO208 := zM (Kd.R_below (rl_ HO208) hb)
  replace BK202 := zM (bb_ BK202 hb)
  replace BK211 := zM (bb_ BK211 hb)
  replace HB := zM (zB bel_ hb)
  (try clear hb)
  (try clear hb2)
  (try clear hk)
  (try clear hi)
  refine hK.out _ _ ⟨(zL BK202.out 0).trans rfl, (zL BK202.out 1).trans rfl, (zL BK202.out 2).trans rfl, (zL BK211.out 0).trans rfl, (zL BK211.out 1).trans rfl, (zL BK211.out 2).trans rfl⟩ (fun hHeld => ?_)
  clear hK K
  refine norm_ (a' := ?_) ?_ ?_
  rotate_left
  · show Act.put _ (some 30) _ = _
    simp only [Act.put, zS, zZ, zC, i64_w, i32_w]
    rfl
  refine pure_ (i := 21) (N := some 32) (v := ?_) (a' := ?_) #[T_, T_, T_, T_, T_, T_, T_, T_, T_, T_, T_, T_, T_, T_, T_, T_, T_, T_, T_, T_, T_, T_, F_, F_, F_, F_, F_, F_, F_, F_, F_, F_, F_, F_, F_, F_, F_] rfl rfl (any_of HT_.out (by kernel_rfl)) (fun _ _ _ h => h) (Or.inl ⟨by rfl, ?_⟩) ?_ ?_
  rotate_left
  · intro w'
    go_simp
    with_reducible rfl
  rotate_left
  · simp only [Act.put, zS, zZ, zC, i64_w, i32_w]
    rfl
  refine pure_ (i := 22) (N := some 33) (v := ?_) (a' := ?_) #[T_, T_, T_, T_, T_, T_, T_, T_, T_, T_, T_, T_, T_, T_, T_, T_, T_, T_, T_, T_, T_, T_, T_, F_, F_, F_, F_, F_, F_, F_, F_, F_, F_, F_, F_, F_, F_] rfl rfl (any_of HT_.out (by kernel_rfl)) (fun _ _ _ h => h) (Or.inl ⟨by rfl, ?_⟩) ?_ ?_
  rotate_left
  · intro w'
    go_simp
    with_reducible rfl
  rotate_left
  · simp only [Act.put, zS, zZ, zC, i64_w, i32_w]
    rfl
  refine pure_ (i := 23) (N := some 34) (v := ?_) (a' := ?_) #[T_, T_, T_, T_, T_, T_, T_, T_, T_, T_, T_, T_, T_, T_, T_, T_, T_, T_, T_, T_, T_, T_, T_, T_, F_, F_, F_, F_, F_, F_, F_, F_, F_, F_, F_, F_, F_] rfl rfl (any_of HT_.out (by kernel_rfl)) (fun _ _ _ h => h) (Or.inl ⟨by rfl, ?_⟩) ?_ ?_
  rotate_left
  · intro w'
    go_simp
    with_reducible rfl
  rotate_left
  · simp only [Act.put, zS, zZ, zC, i64_w, i32_w]
    rfl
  refine pure_ (i := 24) (N := some 35) (v := ?_) (a' := ?_) #[T_, T_, T_, T_, T_, T_, T_, T_, T_, T_, T_, T_, T_, T_, T_, T_, T_, T_, T_, T_, T_, T_, T_, T_, T_, F_, F_, F_, F_, F_, F_, F_, F_, F_, F_, F_, F_] rfl rfl (any_of HT_.out (by kernel_rfl)) (fun _ _ _ h => h) (Or.inl ⟨by rfl, ?_⟩) ?_ ?_
  rotate_left
  · intro w'
    go_simp
    with_reducible rfl
  rotate_left
  · simp only [Act.put, zS, zZ, zC, i64_w, i32_w]
    rfl
  refine pure_ (i := 26) (N := some 37) (v := ?_) (a' := ?_) #[T_, T_, T_, T_, T_, T_, T_, T_, T_, T_, T_, T_, T_, T_, T_, T_, T_, T_, T_, T_, T_, T_, T_, T_, T_, F_, T_, F_, F_, F_, F_, F_, F_, F_, F_, F_, F_] rfl rfl (any_of HT_.out (by kernel_rfl)) (fun _ _ _ h => h) (Or.inl ⟨by rfl, ?_⟩) ?_ ?_
  rotate_left
  · intro w'
    go_simp
    with_reducible rfl
  rotate_left
  · simp only [Act.put, zS, zZ, zC, i64_w, i32_w]
    rfl
  refine take_ (i := 25) (N := some 36) (v := ?_) (a' := ?_) #[T_, T_, T_, T_, T_, T_, T_, T_, T_, T_, T_, T_, T_, T_, T_, T_, T_, T_, T_, T_, T_, T_, T_, T_, T_, T_, T_, F_, F_, F_, F_, F_, F_, F_, F_, F_, F_] rfl rfl (take_ofW HT_.out HW_.out (by kernel_rfl)) (fun _ _ _ h => h) (Or.inl ⟨by rfl, ?_⟩) hHeld ?_ ?_
  rotate_left
  · rintro w' ⟨s0, s1, s2, s3, s4, s5⟩
    go_simp
    with_reducible rfl
  rotate_left
  · simp only [Act.put, zS, zZ, zC, i64_w, i32_w]
    rfl
  refine pure_ (i := 27) (N := some 38) (v := ?_) (a' := ?_) #[T_, T_, T_, T_, T_, T_, T_, T_, T_, T_, T_, T_, T_, T_, T_, T_, T_, T_, T_, T_, T_, T_, T_, T_, T_, T_, T_, T_, F_, F_, F_, F_, F_, F_, F_, F_, F_] rfl rfl (any_of HT_.out (by kernel_rfl)) (fun _ _ _ h => h) (Or.inl ⟨by rfl, ?_⟩) ?_ ?_
  rotate_left
  · intro w'
    go_simp
    with_reducible rfl
  rotate_left
  · simp only [Act.put, zS, zZ, zC, i64_w, i32_w]
    rfl
  refine pure_ (i := 28) (N := some 39) (v := ?_) (a' := ?_) #[T_, T_, T_, T_, T_, T_, T_, T_, T_, T_, T_, T_, T_, T_, T_, T_, T_, T_, T_, T_, T_, T_, T_, T_, T_, T_, T_, T_, T_, F_, F_, F_, F_, F_, F_, F_, F_] rfl rfl (any_of HT_.out (by kernel_rfl)) (fun _ _ _ h => h) (Or.inl ⟨by rfl, ?_⟩) ?_ ?_
  rotate_left
  · intro w'
    go_simp
    with_reducible rfl
  rotate_left
  · simp only [Act.put, zS, zZ, zC, i64_w, i32_w]
    rfl
  refine pure_ (i := 29) (N := some 40) (v := ?_) (a' := ?_) #[T_, T_, T_, T_, T_, T_, T_, T_, T_, T_, T_, T_, T_, T_, T_, T_, T_, T_, T_, T_, T_, T_, T_, T_, T_, T_, T_, T_, T_, T_, F_, F_, F_, F_, F_, F_, F_] rfl rfl (any_of HT_.out (by kernel_rfl)) (fun _ _ _ h => h) (Or.inl ⟨by rfl, ?_⟩) ?_ ?_
  rotate_left
  · intro w'
    go_simp
    with_reducible rfl
  rotate_left
  · simp only [Act.put, zS, zZ, zC, i64_w, i32_w]
    rfl
  refine take_ (i := 30) (N := some 41) (v := ?_) (a' := ?_) #[T_, T_, T_, T_, T_, T_, T_, T_, T_, T_, T_, T_, T_, T_, T_, T_, T_, T_, T_, T_, T_, T_, T_, T_, T_, T_, T_, T_, T_, T_, T_, F_, F_, F_, F_, F_, F_] rfl rfl (take_ofW HT_.out HW_.out (by kernel_rfl)) (fun _ _ _ h => h) (Or.inl ⟨by rfl, ?_⟩) hHeld ?_ ?_
  rotate_left
  · rintro w' ⟨s0, s1, s2, s3, s4, s5⟩
    go_simp
    with_reducible rfl
  rotate_left
  · simp only [Act.put, zS, zZ, zC, i64_w, i32_w]
    rfl
  refine take_ (i := 31) (N := some 42) (v := ?_) (a' := ?_) #[T_, T_, T_, T_, T_, T_, T_, T_, T_, T_, T_, T_, T_, T_, T_, T_, T_, T_, T_, T_, T_, T_, T_, T_, T_, T_, T_, T_, T_, T_, T_, T_, F_, F_, F_, F_, F_] rfl rfl (take_ofW HT_.out HW_.out (by kernel_rfl)) (fun _ _ _ h => h) (Or.inl ⟨by rfl, ?_⟩) hHeld ?_ ?_
  rotate_left
  · rintro w' ⟨s0, s1, s2, s3, s4, s5⟩
    go_simp
    with_reducible rfl
  rotate_left
  · simp only [Act.put, zS, zZ, zC, i64_w, i32_w]
    rfl
  refine one_ (i := 32) (N := some 43) #[T_, T_, T_, T_, T_, T_, T_, T_, T_, T_, T_, T_, T_, T_, T_, T_, T_, T_, T_, T_, T_, T_, T_, T_, T_, T_, T_, T_, T_, T_, T_, T_, T_, F_, F_, F_, F_] rfl rfl (one_of HT_.out (by kernel_rfl)) (by decide) (fun K hK => ?_)
  refine goes_ Try.func10 (by kernel_rfl) rfl #[.agg #[.slice Ao22 t206.length co22, .int .i64 t209, .int .i64 t210]] (by rfl) rfl rfl (by (try simp only [List.map_toArray, List.map_cons, List.map_nil]); first | done | rfl | (simp only [List.length_drop, List.length_take]; rfl)) ?_
  with_reducible refine (front_Least.calls _ _ t206 t209 t210 t218 t219 _ ?side1 ?side2 A11.out).mono ?_
  (case side1 => repeat (first | exact (Kd.R_reads' HO208.out).2.2 | (with_reducible refine Kd.C_alloc ?_ _) | (with_reducible refine Kd.C_drewN ?_ _) | (with_reducible refine Kd.C_drew ?_)))
  (case side2 => exact (Kd.R_reads' HO208.out).2.1)
  rintro e w30 ⟨rfl, hb⟩
  refine ⟨_, rfl, ?_⟩
  replace HO199 := zM (Kd.R_below (rl_ HO199) hb)
  replace HO205 := zM (Kd.R_below (rl_ HO205) hb)
  replace HO208 := zM (Kd.R_below (rl_ HO208) hb)
  replace BK202 := zM (bb_ BK202 hb)
  replace BK211 := zM (bb_ BK211 hb)
  replace HB := zM (zB bel_ hb)
  (try clear hb)
  (try clear hb2)
  (try clear hk)
  (try clear hi)
  refine hK.out _ _ ⟨(zL BK202.out 0).trans rfl, (zL BK202.out 1).trans rfl, (zL BK202.out 2).trans rfl, (zL BK211.out 0).trans rfl, (zL BK211.out 1).trans rfl, (zL BK211.out 2).trans rfl⟩ (fun hHeld => ?_)
  clear hK K
  refine norm_ (a' := ?_) ?_ ?_
  rotate_left
  · show Act.put _ (some 43) _ = _
    simp only [Act.put, zS, zZ, zC, i64_w, i32_w]
    rfl
  refine one_ (i := 33) (N := some 44) #[T_, T_, T_, T_, T_, T_, T_, T_, T_, T_, T_, T_, T_, T_, T_, T_, T_, T_, T_, T_, T_, T_, T_, T_, T_, T_, T_, T_, T_, T_, T_, T_, T_, T_, F_, F_, F_] rfl rfl (one_of HT_.out (by kernel_rfl)) (by decide) (fun K hK => ?_)
  refine goes_ Try.func9 (by kernel_rfl) rfl #[.agg #[.slice Ao22 t206.length co22, .int .i64 t209, .int .i64 t210], .agg #[.int .i64 t218, .int .i64 t219]] (by rfl) rfl rfl (by (try simp only [List.map_toArray, List.map_cons, List.map_nil]); first | done | rfl | (simp only [List.length_drop, List.length_take]; rfl)) ?_
  with_reducible refine (front_Ends.calls _ _ t206 t209 t210 t218 t219 t220 _ ?side1 ?side2 A12.out).mono ?_
  (case side1 => repeat (first | exact (Kd.R_reads' HO208.out).2.2 | (with_reducible refine Kd.C_alloc ?_ _) | (with_reducible refine Kd.C_drewN ?_ _) | (with_reducible refine Kd.C_drew ?_)))
  (case side2 => exact (Kd.R_reads' HO208.out).2.1)
  rintro e w31 ⟨rfl, hb⟩
  refine ⟨_, rfl, ?_⟩
  replace HO199 := zM (Kd.R_below (rl_ HO199) hb)
  replace HO205 := zM (Kd.R_below (rl_ HO205) hb)
  replace HO208 := zM (Kd.R_below (rl_ HO208) hb)
  replace BK202 := zM (bb_ BK202 hb)
  replace BK211 := zM (bb_ BK211 hb)
  replace HB := zM (zB bel_ hb)
  (try clear hb)
  (try clear hb2)
  (try clear hk)
  (try clear hi)
  refine hK.out _ _ ⟨(zL BK202.out 0).trans rfl, (zL BK202.out 1).trans rfl, (zL BK202.out 2).trans rfl, (zL BK211.out 0).trans rfl, (zL BK211.out 1).trans rfl, (zL BK211.out 2).trans rfl⟩ (fun hHeld => ?_)
  clear hK K
  refine norm_ (a' := ?_) ?_ ?_
  rotate_left
  · show Act.put _ (some 44) _ = _
    simp only [Act.put, zS, zZ, zC, i64_w, i32_w]
    rfl
  refine pure_ (i := 34) (N := some 45) (v := ?_) (a' := ?_) #[T_, T_, T_, T_, T_, T_, T_, T_, T_, T_, T_, T_, T_, T_, T_, T_, T_, T_, T_, T_, T_, T_, T_, T_, T_, T_, T_, T_, T_, T_, T_, T_, T_, T_, T_, F_, F_] rfl rfl (any_of HT_.out (by kernel_rfl)) (fun _ _ _ h => h) (Or.inl ⟨by rfl, ?_⟩) ?_ ?_
  rotate_left
  · intro w'
    go_simp
    with_reducible rfl
  rotate_left
  · simp only [Act.put, zS, zZ, zC, i64_w, i32_w]
    rfl
  refine pure_ (i := 35) (N := some 46) (v := ?_) (a' := ?_) #[T_, T_, T_, T_, T_, T_, T_, T_, T_, T_, T_, T_, T_, T_, T_, T_, T_, T_, T_, T_, T_, T_, T_, T_, T_, T_, T_, T_, T_, T_, T_, T_, T_, T_, T_, T_, F_] rfl rfl (any_of HT_.out (by kernel_rfl)) (fun _ _ _ h => h) (Or.inl ⟨by rfl, ?_⟩) ?_ ?_
  rotate_left
  · intro w'
    go_simp
    with_reducible rfl
  rotate_left
  · simp only [Act.put, zS, zZ, zC, i64_w, i32_w]
    rfl
  refine pure_ (i := 36) (N := some 0) (v := ?_) (a' := ?_) #[T_, T_, T_, T_, T_, T_, T_, T_, T_, T_, T_, T_, T_, T_, T_, T_, T_, T_, T_, T_, T_, T_, T_, T_, T_, T_, T_, T_, T_, T_, T_, T_, T_, T_, T_, T_, T_] rfl rfl (any_of HT_.out (by kernel_rfl)) (fun _ _ _ h => h) (Or.inl ⟨by rfl, ?_⟩) ?_ ?_
  rotate_left
  · intro w'
    go_simp
    with_reducible rfl
  rotate_left
  · simp only [Act.put, zS, zZ, zC, i64_w, i32_w]
    rfl
  refine done_ (done_of HT_.out (by kernel_rfl)) ?_
  try go_wp2
  go_ret
  exact ⟨by first | rfl | (simp [errW_none, errW_some] <;> rfl) | (simp [*, errW_none, errW_some] <;> rfl), bel_⟩
end Go.Proofs.Ytjfmhahlmnnacaa.PFrontTurns
