/- Written by a program of this session (wip/tool/px.py) over the kit's print: what the code that the law PastSources reaches computes, function by function, and the law's row. -/
import Derived.Test.YtmenkbdaabjojaaPPastSourcesx0
import Derived.Test.YtmenkbdaabjojaaPPastSourcesx2
namespace Go.Proofs.Ytmenkbdaabjojaa.PPastSources
open Go.RowKit Go.Proofs.YtmenkbdaabjojaaX Go.Proofs.YtmenkbdaabjojaaW.PrintWords Go.Proofs.YtmenkbdaabjojaaW.PrintLast Go.Proofs.YtmenkbdaabjojaaW.PrintMore
open List renaming setIfInBounds_toArray → zS, set_cons_zero → zZ, set_cons_succ → zC
open Go.Proofs.YtmenkbdaabjojaaW.PrintWords renaming blk_drew → zD, blk_cell → zL, blk_frozen → zF, below_step → zB
open Go.Proofs.YtmenkbdaabjojaaW.PrintWords.Aside0 renaming mk → zM
attribute [local go_sem] max2_int min2_int max_two min_two max_three min_three max_four min_four   -- for this text's walks alone
set_option linter.unusedVariables false
set_option linter.unusedSimpArgs false

attribute [local go_sem] px_store_float px_neg_float px_call40
attribute [local go_sem high] eqA29
/-! ### past_Well: function 11 -/
def past_Well.f (a0_0 : Int) (a0_1 : Int) (a0_2 : Int) (a0_3 : Int) (a0_4 : Int) (a0_5 : Nat) (a0_6 : Int) (a0_7 : Int) (a0_8 : Int) (a0_9 : Int) (a0_10 : Int) (a0_11 : Int) (a0_12 : Int) (a0_13 : Int) (a0_14 : Nat) : Option (Bool) := if a0_2 ≥ 0 then (some (a0_8 == 0)) else (some false)
set_option maxHeartbeats 8000000 in
set_option maxRecDepth 100000 in
theorem past_Well.calls (a0_0 : Int) (a0_1 : Int) (a0_2 : Int) (a0_3 : Int) (a0_4 : Int) (a0_5 : Nat) (a0_6 : Int) (a0_7 : Int) (a0_8 : Int) (a0_9 : Int) (a0_10 : Int) (a0_11 : Int) (a0_12 : Int) (a0_13 : Int) (a0_14 : Nat) (r : Bool) (w : World) (h : past_Well.f a0_0 a0_1 a0_2 a0_3 a0_4 a0_5 a0_6 a0_7 a0_8 a0_9 a0_10 a0_11 a0_12 a0_13 a0_14 = some r) :
    Calls Try.prog 11 #[.agg #[.int .i64 a0_0, .int .i64 a0_1, .int .i64 a0_2, .int .i64 a0_3, .int .i64 a0_4, .float .f64 a0_5, .int .i64 a0_6, .int .i64 a0_7, .int .i64 a0_8, .int .i64 a0_9, .int .i64 a0_10, .int .i64 a0_11, .int .i64 a0_12, .int .i64 a0_13, .float .f64 a0_14]] w fun e w' => e = .returned (.bool r) ∧ Below w.heap.size w w' := by
  have hu35 := Try.underlying35
  have HB := zM (Below.refl w.heap.size w)
  have H : (if a0_2 ≥ 0 then (some (a0_8 == 0)) else (some false)) = some r := h
  clear h
  by_cases c2 : a0_2 ≥ 0
  · rw [if_pos c2] at H
    have c2b0 : decide (0 ≤ a0_2) = true := decide_eq_true c2
    clear c2
    obtain rfl := Option.some.inj H
    go_enter Try.func11, Try.ntmps11
    go_wp2_with (first | ((with_reducible refine gld_ (t := 35) ?_); (try (refine gate_guard (by rfl) ?_; dsimp only)); first | refine wl15_ rfl 35 _ rfl rfl Try.underlying35 rfl (by kernel_rfl) ?_ | refine wlr15_ rfl 35 _ rfl rfl Try.underlying35 rfl (by kernel_rfl) ?_) | ((with_reducible refine gst_ (t := 35) ?_); refine ws15_ rfl 35 _ _ rfl rfl rfl (by kernel_rfl) ?_) | ((with_reducible refine gate_dst (N := 1) rfl ?_); refine box_event ?hg (N := 1) ?hd (cs := #[.int .i64 a0_0, .int .i64 a0_1, .int .i64 a0_2, .int .i64 a0_3, .int .i64 a0_4, .float .f64 a0_5, .int .i64 a0_6, .int .i64 a0_7, .int .i64 a0_8, .int .i64 a0_9, .int .i64 a0_10, .int .i64 a0_11, .int .i64 a0_12, .int .i64 a0_13, .float .f64 a0_14]) (t := 35) ?hr ?_; (case hd => rfl); (case hg => rfl); (case hr => first | (go_simp; done) | (go_simp; rfl)); intro gb101 hg w3 hbox hb; have BK101 := zM (hbox); have GW101 := zM (bs_ hg); have GE101 := zM (bs_ hg); replace HB := zM (zB bel_ hb); clear hb hbox hg; obtain ⟨hcz4_0, hcz4_1, hcz4_2, hcz4_3, hcz4_4, hcz4_5, hcz4_6, hcz4_7, hcz4_8, hcz4_9, hcz4_10, hcz4_11, hcz4_12, hcz4_13, hcz4_14⟩ := r15_ BK101.out; obtain ⟨hfz4_0, hfz4_1, hfz4_2, hfz4_3, hfz4_4, hfz4_5, hfz4_6, hfz4_7, hfz4_8, hfz4_9, hfz4_10, hfz4_11, hfz4_12, hfz4_13, hfz4_14⟩ := f15_ BK101.out))
    go_ret
    exact ⟨by first | rfl | (simp [errW_none, errW_some] <;> rfl) | (simp [*, errW_none, errW_some] <;> rfl), bel_⟩
  rw [if_neg c2] at H
  have c2b0 : decide (0 ≤ a0_2) = false := decide_eq_false c2
  clear c2
  obtain rfl := Option.some.inj H
  go_enter Try.func11, Try.ntmps11
  go_wp2_with (first | ((with_reducible refine gld_ (t := 35) ?_); (try (refine gate_guard (by rfl) ?_; dsimp only)); first | refine wl15_ rfl 35 _ rfl rfl Try.underlying35 rfl (by kernel_rfl) ?_ | refine wlr15_ rfl 35 _ rfl rfl Try.underlying35 rfl (by kernel_rfl) ?_) | ((with_reducible refine gst_ (t := 35) ?_); refine ws15_ rfl 35 _ _ rfl rfl rfl (by kernel_rfl) ?_) | ((with_reducible refine gate_dst (N := 1) rfl ?_); refine box_event ?hg (N := 1) ?hd (cs := #[.int .i64 a0_0, .int .i64 a0_1, .int .i64 a0_2, .int .i64 a0_3, .int .i64 a0_4, .float .f64 a0_5, .int .i64 a0_6, .int .i64 a0_7, .int .i64 a0_8, .int .i64 a0_9, .int .i64 a0_10, .int .i64 a0_11, .int .i64 a0_12, .int .i64 a0_13, .float .f64 a0_14]) (t := 35) ?hr ?_; (case hd => rfl); (case hg => rfl); (case hr => first | (go_simp; done) | (go_simp; rfl)); intro gb101 hg w5 hbox hb; have BK101 := zM (hbox); have GW101 := zM (bs_ hg); have GE101 := zM (bs_ hg); replace HB := zM (zB bel_ hb); clear hb hbox hg; obtain ⟨hcz6_0, hcz6_1, hcz6_2, hcz6_3, hcz6_4, hcz6_5, hcz6_6, hcz6_7, hcz6_8, hcz6_9, hcz6_10, hcz6_11, hcz6_12, hcz6_13, hcz6_14⟩ := r15_ BK101.out; obtain ⟨hfz6_0, hfz6_1, hfz6_2, hfz6_3, hfz6_4, hfz6_5, hfz6_6, hfz6_7, hfz6_8, hfz6_9, hfz6_10, hfz6_11, hfz6_12, hfz6_13, hfz6_14⟩ := f15_ BK101.out))
  go_ret
  exact ⟨by first | rfl | (simp [errW_none, errW_some] <;> rfl) | (simp [*, errW_none, errW_some] <;> rfl), bel_⟩
/-! ### past_keyed: function 24 -/
def past_keyed.f (a0_0 : Int) (a0_1 : Int) (a0_2 : Int) (a0_3 : Int) (a0_4 : Int) (a0_5 : Nat) (a0_6 : Int) (a0_7 : Int) (a0_8 : Int) (a0_9 : Int) (a0_10 : Int) (a0_11 : Int) (a0_12 : Int) (a0_13 : Int) (a0_14 : Nat) : Option (Bool) := if a0_3 = 0 then (some true) else (some (a0_3 == 1))
set_option maxHeartbeats 8000000 in
set_option maxRecDepth 100000 in
theorem past_keyed.calls (a0_0 : Int) (a0_1 : Int) (a0_2 : Int) (a0_3 : Int) (a0_4 : Int) (a0_5 : Nat) (a0_6 : Int) (a0_7 : Int) (a0_8 : Int) (a0_9 : Int) (a0_10 : Int) (a0_11 : Int) (a0_12 : Int) (a0_13 : Int) (a0_14 : Nat) (r : Bool) (w : World) (h : past_keyed.f a0_0 a0_1 a0_2 a0_3 a0_4 a0_5 a0_6 a0_7 a0_8 a0_9 a0_10 a0_11 a0_12 a0_13 a0_14 = some r) :
    Calls Try.prog 24 #[.agg #[.int .i64 a0_0, .int .i64 a0_1, .int .i64 a0_2, .int .i64 a0_3, .int .i64 a0_4, .float .f64 a0_5, .int .i64 a0_6, .int .i64 a0_7, .int .i64 a0_8, .int .i64 a0_9, .int .i64 a0_10, .int .i64 a0_11, .int .i64 a0_12, .int .i64 a0_13, .float .f64 a0_14]] w fun e w' => e = .returned (.bool r) ∧ Below w.heap.size w w' := by
  have hu35 := Try.underlying35
  have HB := zM (Below.refl w.heap.size w)
  have H : (if a0_3 = 0 then (some true) else (some (a0_3 == 1))) = some r := h
  clear h
  by_cases c2 : a0_3 = 0
  rotate_left
  · rw [if_neg c2] at H
    have c2b0 : (a0_3 == 0) = false := beq_eq_false_iff_ne.mpr c2
    have c2b1 : (a0_3 != 0) = true := bne_iff_ne.mpr c2
    obtain rfl := Option.some.inj H
    go_enter Try.func24, Try.ntmps24
    go_wp2_with (first | ((with_reducible refine gld_ (t := 35) ?_); (try (refine gate_guard (by rfl) ?_; dsimp only)); first | refine wl15_ rfl 35 _ rfl rfl Try.underlying35 rfl (by kernel_rfl) ?_ | refine wlr15_ rfl 35 _ rfl rfl Try.underlying35 rfl (by kernel_rfl) ?_) | ((with_reducible refine gst_ (t := 35) ?_); refine ws15_ rfl 35 _ _ rfl rfl rfl (by kernel_rfl) ?_) | ((with_reducible refine gate_dst (N := 1) rfl ?_); refine box_event ?hg (N := 1) ?hd (cs := #[.int .i64 a0_0, .int .i64 a0_1, .int .i64 a0_2, .int .i64 a0_3, .int .i64 a0_4, .float .f64 a0_5, .int .i64 a0_6, .int .i64 a0_7, .int .i64 a0_8, .int .i64 a0_9, .int .i64 a0_10, .int .i64 a0_11, .int .i64 a0_12, .int .i64 a0_13, .float .f64 a0_14]) (t := 35) ?hr ?_; (case hd => rfl); (case hg => rfl); (case hr => first | (go_simp; done) | (go_simp; rfl)); intro gb102 hg w5 hbox hb; have BK102 := zM (hbox); have GW102 := zM (bs_ hg); have GE102 := zM (bs_ hg); replace HB := zM (zB bel_ hb); clear hb hbox hg; obtain ⟨hcz6_0, hcz6_1, hcz6_2, hcz6_3, hcz6_4, hcz6_5, hcz6_6, hcz6_7, hcz6_8, hcz6_9, hcz6_10, hcz6_11, hcz6_12, hcz6_13, hcz6_14⟩ := r15_ BK102.out; obtain ⟨hfz6_0, hfz6_1, hfz6_2, hfz6_3, hfz6_4, hfz6_5, hfz6_6, hfz6_7, hfz6_8, hfz6_9, hfz6_10, hfz6_11, hfz6_12, hfz6_13, hfz6_14⟩ := f15_ BK102.out))
    go_ret
    exact ⟨by first | rfl | (simp [errW_none, errW_some] <;> rfl) | (simp [*, errW_none, errW_some] <;> rfl), bel_⟩
  rw [if_pos c2] at H
  have c2b0 : (a0_3 == 0) = true := beq_iff_eq.mpr c2
  have c2b1 : (a0_3 != 0) = false := bne_eq_false_iff_eq.mpr c2
  clear c2
  obtain rfl := Option.some.inj H
  go_enter Try.func24, Try.ntmps24
  go_wp2_with (first | ((with_reducible refine gld_ (t := 35) ?_); (try (refine gate_guard (by rfl) ?_; dsimp only)); first | refine wl15_ rfl 35 _ rfl rfl Try.underlying35 rfl (by kernel_rfl) ?_ | refine wlr15_ rfl 35 _ rfl rfl Try.underlying35 rfl (by kernel_rfl) ?_) | ((with_reducible refine gst_ (t := 35) ?_); refine ws15_ rfl 35 _ _ rfl rfl rfl (by kernel_rfl) ?_) | ((with_reducible refine gate_dst (N := 1) rfl ?_); refine box_event ?hg (N := 1) ?hd (cs := #[.int .i64 a0_0, .int .i64 a0_1, .int .i64 a0_2, .int .i64 a0_3, .int .i64 a0_4, .float .f64 a0_5, .int .i64 a0_6, .int .i64 a0_7, .int .i64 a0_8, .int .i64 a0_9, .int .i64 a0_10, .int .i64 a0_11, .int .i64 a0_12, .int .i64 a0_13, .float .f64 a0_14]) (t := 35) ?hr ?_; (case hd => rfl); (case hg => rfl); (case hr => first | (go_simp; done) | (go_simp; rfl)); intro gb102 hg w3 hbox hb; have BK102 := zM (hbox); have GW102 := zM (bs_ hg); have GE102 := zM (bs_ hg); replace HB := zM (zB bel_ hb); clear hb hbox hg; obtain ⟨hcz4_0, hcz4_1, hcz4_2, hcz4_3, hcz4_4, hcz4_5, hcz4_6, hcz4_7, hcz4_8, hcz4_9, hcz4_10, hcz4_11, hcz4_12, hcz4_13, hcz4_14⟩ := r15_ BK102.out; obtain ⟨hfz4_0, hfz4_1, hfz4_2, hfz4_3, hfz4_4, hfz4_5, hfz4_6, hfz4_7, hfz4_8, hfz4_9, hfz4_10, hfz4_11, hfz4_12, hfz4_13, hfz4_14⟩ := f15_ BK102.out))
  go_ret
  exact ⟨by first | rfl | (simp [errW_none, errW_some] <;> rfl) | (simp [*, errW_none, errW_some] <;> rfl), bel_⟩
/-! ### num_Bits: function 42 -/
def num_Bits.f (a0 : Nat) : Option (Int) := if (FloatKind.f64.format.order a0 a0 != some .eq) = true then (some 9221120237041090561) else (some ((a0 : Nat) : Int))
set_option maxHeartbeats 8000000 in
set_option maxRecDepth 100000 in
theorem num_Bits.calls (a0 : Nat) (r : Int) (w : World) (h : num_Bits.f a0 = some r) :
    Calls Try.prog 42 #[.float .f64 a0] w fun e w' => e = .returned (.int .u64 r) ∧ Drawn0 w w' := by
  have H : (if (FloatKind.f64.format.order a0 a0 != some .eq) = true then (some 9221120237041090561) else (some ((a0 : Nat) : Int))) = some r := h
  clear h
  by_cases c2 : (FloatKind.f64.format.order a0 a0 != some .eq) = true
  rotate_left
  · rw [if_neg c2] at H
    have c2b0 : (FloatKind.f64.format.order a0 a0 != some .eq) = false := by simpa using c2
    (try (have c2b1 : decide (FloatKind.f64.format.order a0 a0 = some .eq) = true := by simpa using c2))
    (try (have c2b2 : (FloatKind.f64.format.order a0 a0 == some .eq) = true := by simpa using c2))
    clear c2
    obtain rfl := Option.some.inj H
    go_enter Try.func42, Try.ntmps42
    go_wp2
    go_ret
    exact ⟨by first | rfl | (simp; done) | (simp [*]; done) | (simp; grind), by repeat (first | exact Drawn0.refl _ | apply Drawn0.step)⟩
  rw [if_pos c2] at H
  have c2b0 : (FloatKind.f64.format.order a0 a0 != some .eq) = true := c2
  (try (have c2b1 : decide (FloatKind.f64.format.order a0 a0 = some .eq) = false := by simpa using c2))
  (try (have c2b2 : (FloatKind.f64.format.order a0 a0 == some .eq) = false := by simpa using c2))
  (try (have c2b3 : ¬ (FloatKind.f64.format.order a0 a0 = some .eq) := by simpa using c2))
  clear c2
  obtain rfl := Option.some.inj H
  go_enter Try.func42, Try.ntmps42
  go_wp2
  go_ret
  exact ⟨by first | rfl | (simp; done) | (simp [*]; done) | (simp; grind), by repeat (first | exact Drawn0.refl _ | apply Drawn0.step)⟩
/-! ### num_Same: function 41 -/
def num_Same.f (a0 : Nat) (a1 : Nat) : Option (Bool) := (num_Bits.f a0).bind fun t103 => ((num_Bits.f a1).bind fun t104 => (some (t103 == t104)))
set_option maxHeartbeats 8000000 in
set_option maxRecDepth 100000 in
theorem num_Same.calls (a0 : Nat) (a1 : Nat) (r : Bool) (w : World) (h : num_Same.f a0 a1 = some r) :
    Calls Try.prog 41 #[.float .f64 a0, .float .f64 a1] w fun e w' => e = .returned (.bool r) ∧ Drawn0 w w' := by
  have H : ((num_Bits.f a0).bind fun t103 => ((num_Bits.f a1).bind fun t104 => (some (t103 == t104)))) = some r := h
  clear h
  replace H := Option.bind_eq_some_iff.mp H
  obtain ⟨t103, A30, H⟩ := H
  replace H : ((num_Bits.f a1).bind fun t104 => (some (t103 == t104))) = some r := H
  have A3 := zM A30
  clear A30
  replace H := Option.bind_eq_some_iff.mp H
  obtain ⟨t104, A40, H⟩ := H
  replace H : (some (t103 == t104)) = some r := H
  have A4 := zM A40
  clear A40
  obtain rfl := Option.some.inj H
  go_enter Try.func41, Try.ntmps41
  go_wp2_with (first | ((with_reducible refine gate_callee (f := 42) rfl ?_); refine goL_ (some 6) Try.func42 #[.float .f64 a0] ?_; (with_reducible refine (num_Bits.calls a0 t103 _ A3.out).mono ?_); rintro e w' ⟨rfl, ⟨nd, rfl⟩⟩; refine ⟨_, rfl, ?_⟩) | ((with_reducible refine gate_callee (f := 42) rfl ?_); refine goL_ (some 8) Try.func42 #[.float .f64 a1] ?_; (with_reducible refine (num_Bits.calls a1 t104 _ A4.out).mono ?_); rintro e w' ⟨rfl, ⟨nd, rfl⟩⟩; refine ⟨_, rfl, ?_⟩))
  go_ret
  exact ⟨by first | rfl | (simp; done) | (simp [*]; done) | (simp; grind), by repeat (first | exact Drawn0.refl _ | apply Drawn0.step)⟩
/-! ### past_wrote: function 32 -/
def past_wrote.f (a0_0 : Int) (a0_1 : Int) (a0_2 : Int) (a0_3 : Int) (a0_4 : Int) (a0_5 : Nat) (a0_6 : Int) (a0_7 : Int) (a0_8 : Int) (a0_9 : Int) (a0_10 : Int) (a0_11 : Int) (a0_12 : Int) (a0_13 : Int) (a0_14 : Nat) (a1_0 : Int) (a1_1 : Int) (a1_2 : Int) (a1_3 : Nat) (a2 : Int) (a3 : Int) : Option (Bool) := if a0_3 = 1 then (if a0_4 = a2 then (if a0_1 > a3 then (some false) else (if a0_0 = a1_2 then ((num_Same.f a0_5 a1_3).bind fun t107 => (if t107 = true then ((past_Well.f a0_0 a0_1 a0_2 a0_3 a0_4 a0_5 a0_6 a0_7 a0_8 a0_9 a0_10 a0_11 a0_12 a0_13 a0_14).bind fun t108 => (if t108 = true then (some (a0_12 == a1_1 && (a0_13 == a1_2))) else (some true))) else (some false))) else (some false))) else (some false)) else (some false)
set_option maxHeartbeats 8000000 in
set_option maxRecDepth 100000 in
theorem past_wrote.calls (a0_0 : Int) (a0_1 : Int) (a0_2 : Int) (a0_3 : Int) (a0_4 : Int) (a0_5 : Nat) (a0_6 : Int) (a0_7 : Int) (a0_8 : Int) (a0_9 : Int) (a0_10 : Int) (a0_11 : Int) (a0_12 : Int) (a0_13 : Int) (a0_14 : Nat) (a1_0 : Int) (a1_1 : Int) (a1_2 : Int) (a1_3 : Nat) (a2 : Int) (a3 : Int) (r : Bool) (w : World) (h : past_wrote.f a0_0 a0_1 a0_2 a0_3 a0_4 a0_5 a0_6 a0_7 a0_8 a0_9 a0_10 a0_11 a0_12 a0_13 a0_14 a1_0 a1_1 a1_2 a1_3 a2 a3 = some r) :
    Calls Try.prog 32 #[.agg #[.int .i64 a0_0, .int .i64 a0_1, .int .i64 a0_2, .int .i64 a0_3, .int .i64 a0_4, .float .f64 a0_5, .int .i64 a0_6, .int .i64 a0_7, .int .i64 a0_8, .int .i64 a0_9, .int .i64 a0_10, .int .i64 a0_11, .int .i64 a0_12, .int .i64 a0_13, .float .f64 a0_14], .agg #[.int .i64 a1_0, .int .i64 a1_1, .int .i64 a1_2, .float .f64 a1_3], .int .i64 a2, .int .i64 a3] w fun e w' => e = .returned (.bool r) ∧ Below w.heap.size w w' := by
  have hu35 := Try.underlying35
  have hu31 := Try.underlying31
  have hu29 := Try.underlying29
  have HB := zM (Below.refl w.heap.size w)
  have H : (if a0_3 = 1 then (if a0_4 = a2 then (if a0_1 > a3 then (some false) else (if a0_0 = a1_2 then ((num_Same.f a0_5 a1_3).bind fun t107 => (if t107 = true then ((past_Well.f a0_0 a0_1 a0_2 a0_3 a0_4 a0_5 a0_6 a0_7 a0_8 a0_9 a0_10 a0_11 a0_12 a0_13 a0_14).bind fun t108 => (if t108 = true then (some (a0_12 == a1_1 && (a0_13 == a1_2))) else (some true))) else (some false))) else (some false))) else (some false)) else (some false)) = some r := h
  clear h
  by_cases c5 : a0_3 = 1
  rotate_left
  · rw [if_neg c5] at H
    have c5b0 : (a0_3 == 1) = false := beq_eq_false_iff_ne.mpr c5
    have c5b1 : (a0_3 != 1) = true := bne_iff_ne.mpr c5
    obtain rfl := Option.some.inj H
    go_enter Try.func32, Try.ntmps32
    go_wp2_with (first | ((with_reducible refine gld_ (t := 35) ?_); (try (refine gate_guard (by rfl) ?_; dsimp only)); first | refine wl15_ rfl 35 _ rfl rfl Try.underlying35 rfl (by kernel_rfl) ?_ | refine wlr15_ rfl 35 _ rfl rfl Try.underlying35 rfl (by kernel_rfl) ?_) | ((with_reducible refine gst_ (t := 35) ?_); refine ws15_ rfl 35 _ _ rfl rfl rfl (by kernel_rfl) ?_) | ((with_reducible refine gate_dst (N := 4) rfl ?_); refine box_event ?hg (N := 4) ?hd (cs := #[.int .i64 a0_0, .int .i64 a0_1, .int .i64 a0_2, .int .i64 a0_3, .int .i64 a0_4, .float .f64 a0_5, .int .i64 a0_6, .int .i64 a0_7, .int .i64 a0_8, .int .i64 a0_9, .int .i64 a0_10, .int .i64 a0_11, .int .i64 a0_12, .int .i64 a0_13, .float .f64 a0_14]) (t := 35) ?hr ?_; (case hd => rfl); (case hg => rfl); (case hr => first | (go_simp; done) | (go_simp; rfl)); intro gb105 hg w45 hbox hb; have BK105 := zM (hbox); have GW105 := zM (bs_ hg); have GE105 := zM (bs_ hg); replace HB := zM (zB bel_ hb); clear hb hbox hg) | ((with_reducible refine gate_dst (N := 5) rfl ?_); refine box_event ?hg (N := 5) ?hd (cs := #[.int .i64 a1_0, .int .i64 a1_1, .int .i64 a1_2, .float .f64 a1_3]) (t := 31) ?hr ?_; (case hd => rfl); (case hg => rfl); (case hr => first | (go_simp; done) | (go_simp; rfl)); intro gb106 hg w46 hbox hb; have BK106 := zM (hbox); have GW106 := zM (bs_ hg); have GE106 := zM (bs_ hg); replace HB := zM (zB bel_ hb); have NB105_106 := zM (nl_ BK105 hg); have NB106_105 := zM (ng_ BK105 hg); replace BK105 := zM (bb_ BK105 hb); clear hb hbox hg; have hnb47 := NB105_106.out; have hnc47 := NB106_105.out; obtain ⟨hcz48_0, hcz48_1, hcz48_2, hcz48_3, hcz48_4, hcz48_5, hcz48_6, hcz48_7, hcz48_8, hcz48_9, hcz48_10, hcz48_11, hcz48_12, hcz48_13, hcz48_14⟩ := r15_ BK105.out; obtain ⟨hfz48_0, hfz48_1, hfz48_2, hfz48_3, hfz48_4, hfz48_5, hfz48_6, hfz48_7, hfz48_8, hfz48_9, hfz48_10, hfz48_11, hfz48_12, hfz48_13, hfz48_14⟩ := f15_ BK105.out))
    go_ret
    exact ⟨by first | rfl | (simp [errW_none, errW_some] <;> rfl) | (simp [*, errW_none, errW_some] <;> rfl), bel_⟩
  rw [if_pos c5] at H
  have c5b0 : (a0_3 == 1) = true := beq_iff_eq.mpr c5
  have c5b1 : (a0_3 != 1) = false := bne_eq_false_iff_eq.mpr c5
  clear c5
  by_cases c6 : a0_4 = a2
  rotate_left
  · rw [if_neg c6] at H
    have c6b0 : (a0_4 == a2) = false := beq_eq_false_iff_ne.mpr c6
    have c6b1 : (a0_4 != a2) = true := bne_iff_ne.mpr c6
    obtain rfl := Option.some.inj H
    go_enter Try.func32, Try.ntmps32
    go_wp2_with (first | ((with_reducible refine gld_ (t := 35) ?_); (try (refine gate_guard (by rfl) ?_; dsimp only)); first | refine wl15_ rfl 35 _ rfl rfl Try.underlying35 rfl (by kernel_rfl) ?_ | refine wlr15_ rfl 35 _ rfl rfl Try.underlying35 rfl (by kernel_rfl) ?_) | ((with_reducible refine gst_ (t := 35) ?_); refine ws15_ rfl 35 _ _ rfl rfl rfl (by kernel_rfl) ?_) | ((with_reducible refine gate_dst (N := 4) rfl ?_); refine box_event ?hg (N := 4) ?hd (cs := #[.int .i64 a0_0, .int .i64 a0_1, .int .i64 a0_2, .int .i64 a0_3, .int .i64 a0_4, .float .f64 a0_5, .int .i64 a0_6, .int .i64 a0_7, .int .i64 a0_8, .int .i64 a0_9, .int .i64 a0_10, .int .i64 a0_11, .int .i64 a0_12, .int .i64 a0_13, .float .f64 a0_14]) (t := 35) ?hr ?_; (case hd => rfl); (case hg => rfl); (case hr => first | (go_simp; done) | (go_simp; rfl)); intro gb105 hg w41 hbox hb; have BK105 := zM (hbox); have GW105 := zM (bs_ hg); have GE105 := zM (bs_ hg); replace HB := zM (zB bel_ hb); clear hb hbox hg) | ((with_reducible refine gate_dst (N := 5) rfl ?_); refine box_event ?hg (N := 5) ?hd (cs := #[.int .i64 a1_0, .int .i64 a1_1, .int .i64 a1_2, .float .f64 a1_3]) (t := 31) ?hr ?_; (case hd => rfl); (case hg => rfl); (case hr => first | (go_simp; done) | (go_simp; rfl)); intro gb106 hg w42 hbox hb; have BK106 := zM (hbox); have GW106 := zM (bs_ hg); have GE106 := zM (bs_ hg); replace HB := zM (zB bel_ hb); have NB105_106 := zM (nl_ BK105 hg); have NB106_105 := zM (ng_ BK105 hg); replace BK105 := zM (bb_ BK105 hb); clear hb hbox hg; have hnb43 := NB105_106.out; have hnc43 := NB106_105.out; obtain ⟨hcz44_0, hcz44_1, hcz44_2, hcz44_3, hcz44_4, hcz44_5, hcz44_6, hcz44_7, hcz44_8, hcz44_9, hcz44_10, hcz44_11, hcz44_12, hcz44_13, hcz44_14⟩ := r15_ BK105.out; obtain ⟨hfz44_0, hfz44_1, hfz44_2, hfz44_3, hfz44_4, hfz44_5, hfz44_6, hfz44_7, hfz44_8, hfz44_9, hfz44_10, hfz44_11, hfz44_12, hfz44_13, hfz44_14⟩ := f15_ BK105.out))
    go_ret
    exact ⟨by first | rfl | (simp [errW_none, errW_some] <;> rfl) | (simp [*, errW_none, errW_some] <;> rfl), bel_⟩
  rw [if_pos c6] at H
  have c6b0 : (a0_4 == a2) = true := beq_iff_eq.mpr c6
  have c6b1 : (a0_4 != a2) = false := bne_eq_false_iff_eq.mpr c6
  clear c6
  by_cases c7 : a0_1 > a3
  · rw [if_pos c7] at H
    have c7b0 : decide (a3 < a0_1) = true := decide_eq_true c7
    clear c7
    obtain rfl := Option.some.inj H
    go_enter Try.func32, Try.ntmps32
    go_wp2_with (first | ((with_reducible refine gld_ (t := 35) ?_); (try (refine gate_guard (by rfl) ?_; dsimp only)); first | refine wl15_ rfl 35 _ rfl rfl Try.underlying35 rfl (by kernel_rfl) ?_ | refine wlr15_ rfl 35 _ rfl rfl Try.underlying35 rfl (by kernel_rfl) ?_) | ((with_reducible refine gst_ (t := 35) ?_); refine ws15_ rfl 35 _ _ rfl rfl rfl (by kernel_rfl) ?_) | ((with_reducible refine gate_dst (N := 4) rfl ?_); refine box_event ?hg (N := 4) ?hd (cs := #[.int .i64 a0_0, .int .i64 a0_1, .int .i64 a0_2, .int .i64 a0_3, .int .i64 a0_4, .float .f64 a0_5, .int .i64 a0_6, .int .i64 a0_7, .int .i64 a0_8, .int .i64 a0_9, .int .i64 a0_10, .int .i64 a0_11, .int .i64 a0_12, .int .i64 a0_13, .float .f64 a0_14]) (t := 35) ?hr ?_; (case hd => rfl); (case hg => rfl); (case hr => first | (go_simp; done) | (go_simp; rfl)); intro gb105 hg w8 hbox hb; have BK105 := zM (hbox); have GW105 := zM (bs_ hg); have GE105 := zM (bs_ hg); replace HB := zM (zB bel_ hb); clear hb hbox hg) | ((with_reducible refine gate_dst (N := 5) rfl ?_); refine box_event ?hg (N := 5) ?hd (cs := #[.int .i64 a1_0, .int .i64 a1_1, .int .i64 a1_2, .float .f64 a1_3]) (t := 31) ?hr ?_; (case hd => rfl); (case hg => rfl); (case hr => first | (go_simp; done) | (go_simp; rfl)); intro gb106 hg w9 hbox hb; have BK106 := zM (hbox); have GW106 := zM (bs_ hg); have GE106 := zM (bs_ hg); replace HB := zM (zB bel_ hb); have NB105_106 := zM (nl_ BK105 hg); have NB106_105 := zM (ng_ BK105 hg); replace BK105 := zM (bb_ BK105 hb); clear hb hbox hg; have hnb10 := NB105_106.out; have hnc10 := NB106_105.out; obtain ⟨hcz11_0, hcz11_1, hcz11_2, hcz11_3, hcz11_4, hcz11_5, hcz11_6, hcz11_7, hcz11_8, hcz11_9, hcz11_10, hcz11_11, hcz11_12, hcz11_13, hcz11_14⟩ := r15_ BK105.out; obtain ⟨hfz11_0, hfz11_1, hfz11_2, hfz11_3, hfz11_4, hfz11_5, hfz11_6, hfz11_7, hfz11_8, hfz11_9, hfz11_10, hfz11_11, hfz11_12, hfz11_13, hfz11_14⟩ := f15_ BK105.out))
    go_ret
    exact ⟨by first | rfl | (simp [errW_none, errW_some] <;> rfl) | (simp [*, errW_none, errW_some] <;> rfl), bel_⟩
  rw [if_neg c7] at H
  have c7b0 : decide (a3 < a0_1) = false := decide_eq_false c7
  clear c7
  by_cases c12 : a0_0 = a1_2
  rotate_left
  · rw [if_neg c12] at H
    have c12b0 : (a0_0 == a1_2) = false := beq_eq_false_iff_ne.mpr c12
    have c12b1 : (a0_0 != a1_2) = true := bne_iff_ne.mpr c12
    obtain rfl := Option.some.inj H
    go_enter Try.func32, Try.ntmps32
    go_wp2_with (first | ((with_reducible refine gld_ (t := 35) ?_); (try (refine gate_guard (by rfl) ?_; dsimp only)); first | refine wl15_ rfl 35 _ rfl rfl Try.underlying35 rfl (by kernel_rfl) ?_ | refine wlr15_ rfl 35 _ rfl rfl Try.underlying35 rfl (by kernel_rfl) ?_) | ((with_reducible refine gst_ (t := 35) ?_); refine ws15_ rfl 35 _ _ rfl rfl rfl (by kernel_rfl) ?_) | ((with_reducible refine gate_dst (N := 4) rfl ?_); refine box_event ?hg (N := 4) ?hd (cs := #[.int .i64 a0_0, .int .i64 a0_1, .int .i64 a0_2, .int .i64 a0_3, .int .i64 a0_4, .float .f64 a0_5, .int .i64 a0_6, .int .i64 a0_7, .int .i64 a0_8, .int .i64 a0_9, .int .i64 a0_10, .int .i64 a0_11, .int .i64 a0_12, .int .i64 a0_13, .float .f64 a0_14]) (t := 35) ?hr ?_; (case hd => rfl); (case hg => rfl); (case hr => first | (go_simp; done) | (go_simp; rfl)); intro gb105 hg w36 hbox hb; have BK105 := zM (hbox); have GW105 := zM (bs_ hg); have GE105 := zM (bs_ hg); replace HB := zM (zB bel_ hb); clear hb hbox hg) | ((with_reducible refine gate_dst (N := 5) rfl ?_); refine box_event ?hg (N := 5) ?hd (cs := #[.int .i64 a1_0, .int .i64 a1_1, .int .i64 a1_2, .float .f64 a1_3]) (t := 31) ?hr ?_; (case hd => rfl); (case hg => rfl); (case hr => first | (go_simp; done) | (go_simp; rfl)); intro gb106 hg w37 hbox hb; have BK106 := zM (hbox); have GW106 := zM (bs_ hg); have GE106 := zM (bs_ hg); replace HB := zM (zB bel_ hb); have NB105_106 := zM (nl_ BK105 hg); have NB106_105 := zM (ng_ BK105 hg); replace BK105 := zM (bb_ BK105 hb); clear hb hbox hg; have hnb38 := NB105_106.out; have hnc38 := NB106_105.out; obtain ⟨hcz39_0, hcz39_1, hcz39_2, hcz39_3, hcz39_4, hcz39_5, hcz39_6, hcz39_7, hcz39_8, hcz39_9, hcz39_10, hcz39_11, hcz39_12, hcz39_13, hcz39_14⟩ := r15_ BK105.out; obtain ⟨hfz39_0, hfz39_1, hfz39_2, hfz39_3, hfz39_4, hfz39_5, hfz39_6, hfz39_7, hfz39_8, hfz39_9, hfz39_10, hfz39_11, hfz39_12, hfz39_13, hfz39_14⟩ := f15_ BK105.out; obtain ⟨hcz40_0, hcz40_1, hcz40_2, hcz40_3⟩ := r4_ BK106.out; obtain ⟨hfz40_0, hfz40_1, hfz40_2, hfz40_3⟩ := f4_ BK106.out))
    go_ret
    exact ⟨by first | rfl | (simp [errW_none, errW_some] <;> rfl) | (simp [*, errW_none, errW_some] <;> rfl), bel_⟩
  rw [if_pos c12] at H
  have c12b0 : (a0_0 == a1_2) = true := beq_iff_eq.mpr c12
  have c12b1 : (a0_0 != a1_2) = false := bne_eq_false_iff_eq.mpr c12
  clear c12
  replace H := Option.bind_eq_some_iff.mp H
  obtain ⟨t107, A130, H⟩ := H
  replace H : (if t107 = true then ((past_Well.f a0_0 a0_1 a0_2 a0_3 a0_4 a0_5 a0_6 a0_7 a0_8 a0_9 a0_10 a0_11 a0_12 a0_13 a0_14).bind fun t108 => (if t108 = true then (some (a0_12 == a1_1 && (a0_13 == a1_2))) else (some true))) else (some false)) = some r := H
  have A13 := zM A130
  clear A130
  by_cases c14 : t107 = true
  rotate_left
  · replace c14 := Bool.eq_false_iff.mpr c14
    subst c14
    have H1 : (some false) = some r := by rw [if_neg (show ¬ (false = true) by decide)] at H; exact H
    clear H
    have H := H1
    clear H1
    obtain rfl := Option.some.inj H
    go_enter Try.func32, Try.ntmps32
    go_wp2_with (first | ((with_reducible refine gld_ (t := 35) ?_); (try (refine gate_guard (by rfl) ?_; dsimp only)); first | refine wl15_ rfl 35 _ rfl rfl Try.underlying35 rfl (by kernel_rfl) ?_ | refine wlr15_ rfl 35 _ rfl rfl Try.underlying35 rfl (by kernel_rfl) ?_) | ((with_reducible refine gst_ (t := 35) ?_); refine ws15_ rfl 35 _ _ rfl rfl rfl (by kernel_rfl) ?_) | ((with_reducible refine gate_dst (N := 4) rfl ?_); refine box_event ?hg (N := 4) ?hd (cs := #[.int .i64 a0_0, .int .i64 a0_1, .int .i64 a0_2, .int .i64 a0_3, .int .i64 a0_4, .float .f64 a0_5, .int .i64 a0_6, .int .i64 a0_7, .int .i64 a0_8, .int .i64 a0_9, .int .i64 a0_10, .int .i64 a0_11, .int .i64 a0_12, .int .i64 a0_13, .float .f64 a0_14]) (t := 35) ?hr ?_; (case hd => rfl); (case hg => rfl); (case hr => first | (go_simp; done) | (go_simp; rfl)); intro gb105 hg w31 hbox hb; have BK105 := zM (hbox); have GW105 := zM (bs_ hg); have GE105 := zM (bs_ hg); replace HB := zM (zB bel_ hb); clear hb hbox hg) | ((with_reducible refine gate_dst (N := 5) rfl ?_); refine box_event ?hg (N := 5) ?hd (cs := #[.int .i64 a1_0, .int .i64 a1_1, .int .i64 a1_2, .float .f64 a1_3]) (t := 31) ?hr ?_; (case hd => rfl); (case hg => rfl); (case hr => first | (go_simp; done) | (go_simp; rfl)); intro gb106 hg w32 hbox hb; have BK106 := zM (hbox); have GW106 := zM (bs_ hg); have GE106 := zM (bs_ hg); replace HB := zM (zB bel_ hb); have NB105_106 := zM (nl_ BK105 hg); have NB106_105 := zM (ng_ BK105 hg); replace BK105 := zM (bb_ BK105 hb); clear hb hbox hg; have hnb33 := NB105_106.out; have hnc33 := NB106_105.out; obtain ⟨hcz34_0, hcz34_1, hcz34_2, hcz34_3, hcz34_4, hcz34_5, hcz34_6, hcz34_7, hcz34_8, hcz34_9, hcz34_10, hcz34_11, hcz34_12, hcz34_13, hcz34_14⟩ := r15_ BK105.out; obtain ⟨hfz34_0, hfz34_1, hfz34_2, hfz34_3, hfz34_4, hfz34_5, hfz34_6, hfz34_7, hfz34_8, hfz34_9, hfz34_10, hfz34_11, hfz34_12, hfz34_13, hfz34_14⟩ := f15_ BK105.out; obtain ⟨hcz35_0, hcz35_1, hcz35_2, hcz35_3⟩ := r4_ BK106.out; obtain ⟨hfz35_0, hfz35_1, hfz35_2, hfz35_3⟩ := f4_ BK106.out) | (go_at_call 41; (with_reducible refine (num_Same.calls a0_5 a1_3 false _ A13.out).mono ?_); rintro e w' ⟨rfl, ⟨nd, rfl⟩⟩))
    go_ret
    exact ⟨by first | rfl | (simp [errW_none, errW_some] <;> rfl) | (simp [*, errW_none, errW_some] <;> rfl), bel_⟩
  subst c14
  have H1 : ((past_Well.f a0_0 a0_1 a0_2 a0_3 a0_4 a0_5 a0_6 a0_7 a0_8 a0_9 a0_10 a0_11 a0_12 a0_13 a0_14).bind fun t108 => (if t108 = true then (some (a0_12 == a1_1 && (a0_13 == a1_2))) else (some true))) = some r := by rw [if_pos rfl] at H; exact H
  clear H
  have H := H1
  clear H1
  replace H := Option.bind_eq_some_iff.mp H
  obtain ⟨t108, A150, H⟩ := H
  replace H : (if t108 = true then (some (a0_12 == a1_1 && (a0_13 == a1_2))) else (some true)) = some r := H
  have A15 := zM A150
  clear A150
  by_cases c16 : t108 = true
  rotate_left
  · replace c16 := Bool.eq_false_iff.mpr c16
    subst c16
    have H1 : (some true) = some r := by rw [if_neg (show ¬ (false = true) by decide)] at H; exact H
    clear H
    have H := H1
    clear H1
    obtain rfl := Option.some.inj H
    go_enter Try.func32, Try.ntmps32
    go_wp2_with (first | ((with_reducible refine gld_ (t := 35) ?_); (try (refine gate_guard (by rfl) ?_; dsimp only)); first | refine wl15_ rfl 35 _ rfl rfl Try.underlying35 rfl (by kernel_rfl) ?_ | refine wlr15_ rfl 35 _ rfl rfl Try.underlying35 rfl (by kernel_rfl) ?_) | ((with_reducible refine gst_ (t := 35) ?_); refine ws15_ rfl 35 _ _ rfl rfl rfl (by kernel_rfl) ?_) | ((with_reducible refine gate_dst (N := 4) rfl ?_); refine box_event ?hg (N := 4) ?hd (cs := #[.int .i64 a0_0, .int .i64 a0_1, .int .i64 a0_2, .int .i64 a0_3, .int .i64 a0_4, .float .f64 a0_5, .int .i64 a0_6, .int .i64 a0_7, .int .i64 a0_8, .int .i64 a0_9, .int .i64 a0_10, .int .i64 a0_11, .int .i64 a0_12, .int .i64 a0_13, .float .f64 a0_14]) (t := 35) ?hr ?_; (case hd => rfl); (case hg => rfl); (case hr => first | (go_simp; done) | (go_simp; rfl)); intro gb105 hg w25 hbox hb; have BK105 := zM (hbox); have GW105 := zM (bs_ hg); have GE105 := zM (bs_ hg); replace HB := zM (zB bel_ hb); clear hb hbox hg) | ((with_reducible refine gate_dst (N := 5) rfl ?_); refine box_event ?hg (N := 5) ?hd (cs := #[.int .i64 a1_0, .int .i64 a1_1, .int .i64 a1_2, .float .f64 a1_3]) (t := 31) ?hr ?_; (case hd => rfl); (case hg => rfl); (case hr => first | (go_simp; done) | (go_simp; rfl)); intro gb106 hg w26 hbox hb; have BK106 := zM (hbox); have GW106 := zM (bs_ hg); have GE106 := zM (bs_ hg); replace HB := zM (zB bel_ hb); have NB105_106 := zM (nl_ BK105 hg); have NB106_105 := zM (ng_ BK105 hg); replace BK105 := zM (bb_ BK105 hb); clear hb hbox hg; have hnb27 := NB105_106.out; have hnc27 := NB106_105.out; obtain ⟨hcz28_0, hcz28_1, hcz28_2, hcz28_3, hcz28_4, hcz28_5, hcz28_6, hcz28_7, hcz28_8, hcz28_9, hcz28_10, hcz28_11, hcz28_12, hcz28_13, hcz28_14⟩ := r15_ BK105.out; obtain ⟨hfz28_0, hfz28_1, hfz28_2, hfz28_3, hfz28_4, hfz28_5, hfz28_6, hfz28_7, hfz28_8, hfz28_9, hfz28_10, hfz28_11, hfz28_12, hfz28_13, hfz28_14⟩ := f15_ BK105.out; obtain ⟨hcz29_0, hcz29_1, hcz29_2, hcz29_3⟩ := r4_ BK106.out; obtain ⟨hfz29_0, hfz29_1, hfz29_2, hfz29_3⟩ := f4_ BK106.out) | (go_at_call 41; (with_reducible refine (num_Same.calls a0_5 a1_3 true _ A13.out).mono ?_); rintro e w' ⟨rfl, ⟨nd, rfl⟩⟩) | ((with_reducible refine gate_callee (f := 11) rfl ?_); refine goL_ (some 44) Try.func11 #[.agg #[.int .i64 a0_0, .int .i64 a0_1, .int .i64 a0_2, .int .i64 a0_3, .int .i64 a0_4, .float .f64 a0_5, .int .i64 a0_6, .int .i64 a0_7, .int .i64 a0_8, .int .i64 a0_9, .int .i64 a0_10, .int .i64 a0_11, .int .i64 a0_12, .int .i64 a0_13, .float .f64 a0_14]] ?_; (with_reducible refine (past_Well.calls a0_0 a0_1 a0_2 a0_3 a0_4 a0_5 a0_6 a0_7 a0_8 a0_9 a0_10 a0_11 a0_12 a0_13 a0_14 false _ A15.out).mono ?_); rintro e w30 ⟨rfl, hb⟩; refine ⟨_, rfl, ?_⟩; replace BK105 := zM (bb_ BK105 hb); replace BK106 := zM (bb_ BK106 hb); replace HB := zM (zB bel_ hb); (try clear hb); (try clear hb2); (try clear hk); (try clear hi)))
    go_ret
    exact ⟨by first | rfl | (simp [errW_none, errW_some] <;> rfl) | (simp [*, errW_none, errW_some] <;> rfl), bel_⟩
  subst c16
  have H1 : (some (a0_12 == a1_1 && (a0_13 == a1_2))) = some r := by rw [if_pos rfl] at H; exact H
  clear H
  have H := H1
  clear H1
  obtain rfl := Option.some.inj H
  go_enter Try.func32, Try.ntmps32
  go_wp2_with (first | ((with_reducible refine gld_ (t := 35) ?_); (try (refine gate_guard (by rfl) ?_; dsimp only)); first | refine wl15_ rfl 35 _ rfl rfl Try.underlying35 rfl (by kernel_rfl) ?_ | refine wlr15_ rfl 35 _ rfl rfl Try.underlying35 rfl (by kernel_rfl) ?_) | ((with_reducible refine gst_ (t := 35) ?_); refine ws15_ rfl 35 _ _ rfl rfl rfl (by kernel_rfl) ?_) | ((with_reducible refine gate_dst (N := 4) rfl ?_); refine box_event ?hg (N := 4) ?hd (cs := #[.int .i64 a0_0, .int .i64 a0_1, .int .i64 a0_2, .int .i64 a0_3, .int .i64 a0_4, .float .f64 a0_5, .int .i64 a0_6, .int .i64 a0_7, .int .i64 a0_8, .int .i64 a0_9, .int .i64 a0_10, .int .i64 a0_11, .int .i64 a0_12, .int .i64 a0_13, .float .f64 a0_14]) (t := 35) ?hr ?_; (case hd => rfl); (case hg => rfl); (case hr => first | (go_simp; done) | (go_simp; rfl)); intro gb105 hg w17 hbox hb; have BK105 := zM (hbox); have GW105 := zM (bs_ hg); have GE105 := zM (bs_ hg); replace HB := zM (zB bel_ hb); clear hb hbox hg) | ((with_reducible refine gate_dst (N := 5) rfl ?_); refine box_event ?hg (N := 5) ?hd (cs := #[.int .i64 a1_0, .int .i64 a1_1, .int .i64 a1_2, .float .f64 a1_3]) (t := 31) ?hr ?_; (case hd => rfl); (case hg => rfl); (case hr => first | (go_simp; done) | (go_simp; rfl)); intro gb106 hg w18 hbox hb; have BK106 := zM (hbox); have GW106 := zM (bs_ hg); have GE106 := zM (bs_ hg); replace HB := zM (zB bel_ hb); have NB105_106 := zM (nl_ BK105 hg); have NB106_105 := zM (ng_ BK105 hg); replace BK105 := zM (bb_ BK105 hb); clear hb hbox hg; have hnb19 := NB105_106.out; have hnc19 := NB106_105.out; obtain ⟨hcz20_0, hcz20_1, hcz20_2, hcz20_3, hcz20_4, hcz20_5, hcz20_6, hcz20_7, hcz20_8, hcz20_9, hcz20_10, hcz20_11, hcz20_12, hcz20_13, hcz20_14⟩ := r15_ BK105.out; obtain ⟨hfz20_0, hfz20_1, hfz20_2, hfz20_3, hfz20_4, hfz20_5, hfz20_6, hfz20_7, hfz20_8, hfz20_9, hfz20_10, hfz20_11, hfz20_12, hfz20_13, hfz20_14⟩ := f15_ BK105.out; obtain ⟨hcz21_0, hcz21_1, hcz21_2, hcz21_3⟩ := r4_ BK106.out; obtain ⟨hfz21_0, hfz21_1, hfz21_2, hfz21_3⟩ := f4_ BK106.out) | (go_at_call 41; (with_reducible refine (num_Same.calls a0_5 a1_3 true _ A13.out).mono ?_); rintro e w' ⟨rfl, ⟨nd, rfl⟩⟩) | ((with_reducible refine gate_callee (f := 11) rfl ?_); refine goL_ (some 44) Try.func11 #[.agg #[.int .i64 a0_0, .int .i64 a0_1, .int .i64 a0_2, .int .i64 a0_3, .int .i64 a0_4, .float .f64 a0_5, .int .i64 a0_6, .int .i64 a0_7, .int .i64 a0_8, .int .i64 a0_9, .int .i64 a0_10, .int .i64 a0_11, .int .i64 a0_12, .int .i64 a0_13, .float .f64 a0_14]] ?_; (with_reducible refine (past_Well.calls a0_0 a0_1 a0_2 a0_3 a0_4 a0_5 a0_6 a0_7 a0_8 a0_9 a0_10 a0_11 a0_12 a0_13 a0_14 true _ A15.out).mono ?_); rintro e w22 ⟨rfl, hb⟩; refine ⟨_, rfl, ?_⟩; replace BK105 := zM (bb_ BK105 hb); replace BK106 := zM (bb_ BK106 hb); replace HB := zM (zB bel_ hb); (try clear hb); (try clear hb2); (try clear hk); (try clear hi); obtain ⟨hcz23_0, hcz23_1, hcz23_2, hcz23_3, hcz23_4, hcz23_5, hcz23_6, hcz23_7, hcz23_8, hcz23_9, hcz23_10, hcz23_11, hcz23_12, hcz23_13, hcz23_14⟩ := r15_ BK105.out; obtain ⟨hfz23_0, hfz23_1, hfz23_2, hfz23_3, hfz23_4, hfz23_5, hfz23_6, hfz23_7, hfz23_8, hfz23_9, hfz23_10, hfz23_11, hfz23_12, hfz23_13, hfz23_14⟩ := f15_ BK105.out; obtain ⟨hcz24_0, hcz24_1, hcz24_2, hcz24_3⟩ := r4_ BK106.out; obtain ⟨hfz24_0, hfz24_1, hfz24_2, hfz24_3⟩ := f4_ BK106.out))
  go_ret
  exact ⟨by first | rfl | (simp [errW_none, errW_some] <;> rfl) | (simp [*, errW_none, errW_some] <;> rfl), bel_⟩
/-! ### past_Source_1: function 31 -/
def past_Source_1.f (a0_0 : Int) (a0_1 : Int) (a0_2 : Int) (a0_3 : Int) (a0_4 : Int) (a0_5 : Nat) (a0_6 : Int) (a0_7 : Int) (a0_8 : Int) (a0_9 : Int) (a0_10 : Int) (a0_11 : Int) (a0_12 : Int) (a0_13 : Int) (a0_14 : Nat) (l1_0 : List (S35)) (a2_0 : Int) : Option (Bool) := if 0 ≤ a2_0 then (if a2_0 < (l1_0.length : Int) then ((past_wrote.f a0_0 a0_1 a0_2 a0_3 a0_4 a0_5 a0_6 a0_7 a0_8 a0_9 a0_10 a0_11 a0_12 a0_13 a0_14 ((rd_T35 l1_0 a2_0).f4.f2.f0) ((rd_T35 l1_0 a2_0).f4.f2.f1.f0) ((rd_T35 l1_0 a2_0).f4.f2.f1.f1) ((rd_T35 l1_0 a2_0).f4.f2.f2) ((rd_T35 l1_0 a2_0).f3.f1) ((rd_T35 l1_0 a2_0).f2)).bind fun t113 => (some t113)) else (none)) else (none)
def past_Source_1.T1 : Bool × List (List Nat × List Nat) := (true, [([], []), ([], []), ([], []), ([1, 2], [1, 2]), ([3], [3]), ([4], [4]), ([5], [5]), ([], []), ([], []), ([7, 8], [7, 8]), ([9], [9]), ([10], [10]), ([11], [11]), ([], []), ([], []), ([13, 14], [13, 14]), ([15], [15]), ([16], [16]), ([0, 6, 12, 17], [0, 6, 12, 17]), ([18, 18, 0, 1, 2, 3, 4, 5, 6, 7, 8, 9, 10, 11, 12, 13, 14, 15, 16, 17, 18], [18])])
def past_Source_1.B1 : List Nat := [0, 0, 0, 6, 14, 30, 62, 0, 0, 384, 896, 1920, 3968, 0, 0, 24576, 57344, 122880, 262143, 524287]
theorem past_Source_1.tab1 : rtab .any (opsOf Try.f31 1) = past_Source_1.T1 := by kernel_rfl
theorem past_Source_1.bits1 : waitsOk past_Source_1.T1.2 past_Source_1.B1 = true := by kernel_rfl
set_option maxHeartbeats 8000000 in
set_option maxRecDepth 100000 in
theorem past_Source_1.calls (a0_0 : Int) (a0_1 : Int) (a0_2 : Int) (a0_3 : Int) (a0_4 : Int) (a0_5 : Nat) (a0_6 : Int) (a0_7 : Int) (a0_8 : Int) (a0_9 : Int) (a0_10 : Int) (a0_11 : Int) (a0_12 : Int) (a0_13 : Int) (a0_14 : Nat) (g1_0 : Nat) (A1_0 : Option Addr) (c1_0 : Nat) (l1_0 : List (S35)) (g2_0 : Nat) (a2_0 : Int) (r : Bool) (w : World) (hr1_0 : Kd.C k35 w A1_0 l1_0.length l1_0) (hc1_0 : l1_0.length ≤ c1_0) (hb1_0 : w.heap[g1_0]? = some (.cells #[.slice A1_0 l1_0.length c1_0] 42 (0, 0))) (hb2_0 : w.heap[g2_0]? = some (.cells #[.int .i64 a2_0] 3 (0, 0))) (h : past_Source_1.f a0_0 a0_1 a0_2 a0_3 a0_4 a0_5 a0_6 a0_7 a0_8 a0_9 a0_10 a0_11 a0_12 a0_13 a0_14 l1_0 a2_0 = some r) :
    Calls Try.prog 31 #[.agg #[.int .i64 a0_0, .int .i64 a0_1, .int .i64 a0_2, .int .i64 a0_3, .int .i64 a0_4, .float .f64 a0_5, .int .i64 a0_6, .int .i64 a0_7, .int .i64 a0_8, .int .i64 a0_9, .int .i64 a0_10, .int .i64 a0_11, .int .i64 a0_12, .int .i64 a0_13, .float .f64 a0_14], .pointer (some ⟨g1_0, 0, none⟩), .pointer (some ⟨g2_0, 0, none⟩)] w fun e w' => e = .returned (.bool r) ∧ Below w.heap.size w w' := by
  have hu35 := Try.underlying35
  have hu31 := Try.underlying31
  have HR1_0 := zM hr1_0
  have HC1_0 := zM hc1_0
  clear hr1_0 hc1_0
  have BK50 := zM hb1_0
  clear hb1_0
  have BK60 := zM hb2_0
  clear hb2_0
  have HB := zM (Below.refl w.heap.size w)
  have H : (if 0 ≤ a2_0 then (if a2_0 < (l1_0.length : Int) then ((past_wrote.f a0_0 a0_1 a0_2 a0_3 a0_4 a0_5 a0_6 a0_7 a0_8 a0_9 a0_10 a0_11 a0_12 a0_13 a0_14 ((rd_T35 l1_0 a2_0).f4.f2.f0) ((rd_T35 l1_0 a2_0).f4.f2.f1.f0) ((rd_T35 l1_0 a2_0).f4.f2.f1.f1) ((rd_T35 l1_0 a2_0).f4.f2.f2) ((rd_T35 l1_0 a2_0).f3.f1) ((rd_T35 l1_0 a2_0).f2)).bind fun t113 => (some t113)) else (none)) else (none)) = some r := h
  clear h
  by_cases c4 : 0 ≤ a2_0
  rotate_left
  · rw [if_neg c4] at H
    exact absurd H (by simp)
  rw [if_pos c4] at H
  have c4b0 : decide (0 ≤ a2_0) = true := decide_eq_true c4
  clear c4
  by_cases c5 : a2_0 < (l1_0.length : Int)
  rotate_left
  · rw [if_neg c5] at H
    exact absurd H (by simp)
  rw [if_pos c5] at H
  have c5b0 : decide (a2_0 < (l1_0.length : Int)) = true := decide_eq_true c5
  clear c5
  replace H := Option.bind_eq_some_iff.mp H
  obtain ⟨t113, A60, H⟩ := H
  replace H : (some t113) = some r := H
  have A6 := zM A60
  clear A60
  obtain rfl := Option.some.inj H
  go_enter Try.func31, Try.ntmps31
  try go_wp2_with (first | ((with_reducible refine gld_ (t := 35) ?_); (try (refine gate_guard (by rfl) ?_; dsimp only)); first | refine wl15_ rfl 35 _ rfl rfl Try.underlying35 rfl (by kernel_rfl) ?_ | refine wlr15_ rfl 35 _ rfl rfl Try.underlying35 rfl (by kernel_rfl) ?_) | ((with_reducible refine gst_ (t := 35) ?_); refine ws15_ rfl 35 _ _ rfl rfl rfl (by kernel_rfl) ?_) | ((with_reducible refine gate_dst (N := 3) rfl ?_); refine box_event ?hg (N := 3) ?hd (cs := #[.int .i64 a0_0, .int .i64 a0_1, .int .i64 a0_2, .int .i64 a0_3, .int .i64 a0_4, .float .f64 a0_5, .int .i64 a0_6, .int .i64 a0_7, .int .i64 a0_8, .int .i64 a0_9, .int .i64 a0_10, .int .i64 a0_11, .int .i64 a0_12, .int .i64 a0_13, .float .f64 a0_14]) (t := 35) ?hr ?_; (case hd => rfl); (case hg => rfl); (case hr => first | (go_simp; done) | (go_simp; rfl)); intro gb109 hg w7 hbox hb; have n0_ := zM (blk_below (g := g1_0) (o := .cells #[.slice A1_0 l1_0.length c1_0] 42 (0, 0)) blk_ hb); have n1_ := zM (blk_below (g := g2_0) (o := .cells #[.int .i64 a2_0] 3 (0, 0)) blk_ hb); have n2_ := zM (zB bel_ hb); have n3_ := zM (hbox); have n4_ := zM (bs_ hg); have n5_ := zM (bs_ hg); have n6_ := zM ((by rw [hg]; exact Nat.ne_of_lt (blk_lt (g := g1_0) (o := .cells #[.slice A1_0 l1_0.length c1_0] 42 (0, 0)) blk_) : g1_0 ≠ gb109)); have n7_ := zM ((by rw [hg]; exact Nat.ne_of_gt (blk_lt (g := g1_0) (o := .cells #[.slice A1_0 l1_0.length c1_0] 42 (0, 0)) blk_) : gb109 ≠ g1_0)); have n8_ := zM ((by rw [hg]; exact Nat.ne_of_lt (blk_lt (g := g2_0) (o := .cells #[.int .i64 a2_0] 3 (0, 0)) blk_) : g2_0 ≠ gb109)); have n9_ := zM ((by rw [hg]; exact Nat.ne_of_gt (blk_lt (g := g2_0) (o := .cells #[.int .i64 a2_0] 3 (0, 0)) blk_) : gb109 ≠ g2_0)); clear BK50; clear BK60; clear HB; have BK50 := n0_; have BK60 := n1_; have HB := n2_; have BK109 := n3_; have GW109 := n4_; have GE109 := n5_; have NB50_109 := n6_; have NB109_50 := n7_; have NB60_109 := n8_; have NB109_60 := n9_; clear n0_ n1_ n2_ n3_ n4_ n5_ n6_ n7_ n8_ n9_; clear hb hbox hg))
  replace BK50 := zM (zD BK50.out)
  replace BK60 := zM (zD BK60.out)
  replace BK109 := zM (zD BK109.out)
  replace HB := zM (below_drew1 HB.out)
  have p110 : 0 ≤ (a2_0 : Int) := of_decide_eq_true (by first | (with_reducible assumption) | assumption)
  have q110 : a2_0 < (l1_0.length : Int) := of_decide_eq_true (by first | (with_reducible assumption) | assumption)
  obtain ⟨ad110, e110, hx110_0, hx110_1, hx110_2, hx110_3, hx110_4, hx110_5, hx110_6, hx110_7, hx110_8, hx110_9, hx110_10, hx110_11, hx110_12, hx110_13, hx110_14⟩ := at_T35 HR1_0.out a2_0 p110 q110
  have hw110_14 := hx110_14
  have hw110_13 := hx110_13
  have hw110_12 := hx110_12
  have hw110_11 := hx110_11
  have hw110_10 := hx110_10
  have hw110_9 := hx110_9
  have hw110_8 := hx110_8
  have hw110_7 := hx110_7
  have hw110_6 := hx110_6
  have hw110_5 := hx110_5
  have hw110_4 := hx110_4
  have hw110_3 := hx110_3
  have hw110_2 := hx110_2
  have hw110_1 := hx110_1
  have hw110_0 := hx110_0
  cases e110
  replace hx110_0 := (HB.out.cell (World.block_lt_of_cell? w _ hx110_0)).trans hx110_0
  replace hx110_1 := (HB.out.cell (World.block_lt_of_cell? w _ hx110_1)).trans hx110_1
  replace hx110_2 := (HB.out.cell (World.block_lt_of_cell? w _ hx110_2)).trans hx110_2
  replace hx110_3 := (HB.out.cell (World.block_lt_of_cell? w _ hx110_3)).trans hx110_3
  replace hx110_4 := (HB.out.cell (World.block_lt_of_cell? w _ hx110_4)).trans hx110_4
  replace hx110_5 := (HB.out.cell (World.block_lt_of_cell? w _ hx110_5)).trans hx110_5
  replace hx110_6 := (HB.out.cell (World.block_lt_of_cell? w _ hx110_6)).trans hx110_6
  replace hx110_7 := (HB.out.cell (World.block_lt_of_cell? w _ hx110_7)).trans hx110_7
  replace hx110_8 := (HB.out.cell (World.block_lt_of_cell? w _ hx110_8)).trans hx110_8
  replace hx110_9 := (HB.out.cell (World.block_lt_of_cell? w _ hx110_9)).trans hx110_9
  replace hx110_10 := (HB.out.cell (World.block_lt_of_cell? w _ hx110_10)).trans hx110_10
  replace hx110_11 := (HB.out.cell (World.block_lt_of_cell? w _ hx110_11)).trans hx110_11
  replace hx110_12 := (HB.out.cell (World.block_lt_of_cell? w _ hx110_12)).trans hx110_12
  replace hx110_13 := (HB.out.cell (World.block_lt_of_cell? w _ hx110_13)).trans hx110_13
  replace hx110_14 := (HB.out.cell (World.block_lt_of_cell? w _ hx110_14)).trans hx110_14
  replace p110 := eq_true p110
  replace q110 := eq_true q110
  have p111 : 0 ≤ (a2_0 : Int) := of_decide_eq_true (by first | (with_reducible assumption) | assumption)
  have q111 : a2_0 < (l1_0.length : Int) := of_decide_eq_true (by first | (with_reducible assumption) | assumption)
  obtain ⟨ad111, e111, hx111_0, hx111_1, hx111_2, hx111_3, hx111_4, hx111_5, hx111_6, hx111_7, hx111_8, hx111_9, hx111_10, hx111_11, hx111_12, hx111_13, hx111_14⟩ := at_T35 HR1_0.out a2_0 p111 q111
  have hw111_14 := hx111_14
  have hw111_13 := hx111_13
  have hw111_12 := hx111_12
  have hw111_11 := hx111_11
  have hw111_10 := hx111_10
  have hw111_9 := hx111_9
  have hw111_8 := hx111_8
  have hw111_7 := hx111_7
  have hw111_6 := hx111_6
  have hw111_5 := hx111_5
  have hw111_4 := hx111_4
  have hw111_3 := hx111_3
  have hw111_2 := hx111_2
  have hw111_1 := hx111_1
  have hw111_0 := hx111_0
  obtain rfl : ad110 = ad111 := (by injection e111)
  replace hx111_0 := (HB.out.cell (World.block_lt_of_cell? w _ hx111_0)).trans hx111_0
  replace hx111_1 := (HB.out.cell (World.block_lt_of_cell? w _ hx111_1)).trans hx111_1
  replace hx111_2 := (HB.out.cell (World.block_lt_of_cell? w _ hx111_2)).trans hx111_2
  replace hx111_3 := (HB.out.cell (World.block_lt_of_cell? w _ hx111_3)).trans hx111_3
  replace hx111_4 := (HB.out.cell (World.block_lt_of_cell? w _ hx111_4)).trans hx111_4
  replace hx111_5 := (HB.out.cell (World.block_lt_of_cell? w _ hx111_5)).trans hx111_5
  replace hx111_6 := (HB.out.cell (World.block_lt_of_cell? w _ hx111_6)).trans hx111_6
  replace hx111_7 := (HB.out.cell (World.block_lt_of_cell? w _ hx111_7)).trans hx111_7
  replace hx111_8 := (HB.out.cell (World.block_lt_of_cell? w _ hx111_8)).trans hx111_8
  replace hx111_9 := (HB.out.cell (World.block_lt_of_cell? w _ hx111_9)).trans hx111_9
  replace hx111_10 := (HB.out.cell (World.block_lt_of_cell? w _ hx111_10)).trans hx111_10
  replace hx111_11 := (HB.out.cell (World.block_lt_of_cell? w _ hx111_11)).trans hx111_11
  replace hx111_12 := (HB.out.cell (World.block_lt_of_cell? w _ hx111_12)).trans hx111_12
  replace hx111_13 := (HB.out.cell (World.block_lt_of_cell? w _ hx111_13)).trans hx111_13
  replace hx111_14 := (HB.out.cell (World.block_lt_of_cell? w _ hx111_14)).trans hx111_14
  replace p111 := eq_true p111
  replace q111 := eq_true q111
  have p112 : 0 ≤ (a2_0 : Int) := of_decide_eq_true (by first | (with_reducible assumption) | assumption)
  have q112 : a2_0 < (l1_0.length : Int) := of_decide_eq_true (by first | (with_reducible assumption) | assumption)
  obtain ⟨ad112, e112, hx112_0, hx112_1, hx112_2, hx112_3, hx112_4, hx112_5, hx112_6, hx112_7, hx112_8, hx112_9, hx112_10, hx112_11, hx112_12, hx112_13, hx112_14⟩ := at_T35 HR1_0.out a2_0 p112 q112
  have hw112_14 := hx112_14
  have hw112_13 := hx112_13
  have hw112_12 := hx112_12
  have hw112_11 := hx112_11
  have hw112_10 := hx112_10
  have hw112_9 := hx112_9
  have hw112_8 := hx112_8
  have hw112_7 := hx112_7
  have hw112_6 := hx112_6
  have hw112_5 := hx112_5
  have hw112_4 := hx112_4
  have hw112_3 := hx112_3
  have hw112_2 := hx112_2
  have hw112_1 := hx112_1
  have hw112_0 := hx112_0
  obtain rfl : ad110 = ad112 := (by injection e112)
  replace hx112_0 := (HB.out.cell (World.block_lt_of_cell? w _ hx112_0)).trans hx112_0
  replace hx112_1 := (HB.out.cell (World.block_lt_of_cell? w _ hx112_1)).trans hx112_1
  replace hx112_2 := (HB.out.cell (World.block_lt_of_cell? w _ hx112_2)).trans hx112_2
  replace hx112_3 := (HB.out.cell (World.block_lt_of_cell? w _ hx112_3)).trans hx112_3
  replace hx112_4 := (HB.out.cell (World.block_lt_of_cell? w _ hx112_4)).trans hx112_4
  replace hx112_5 := (HB.out.cell (World.block_lt_of_cell? w _ hx112_5)).trans hx112_5
  replace hx112_6 := (HB.out.cell (World.block_lt_of_cell? w _ hx112_6)).trans hx112_6
  replace hx112_7 := (HB.out.cell (World.block_lt_of_cell? w _ hx112_7)).trans hx112_7
  replace hx112_8 := (HB.out.cell (World.block_lt_of_cell? w _ hx112_8)).trans hx112_8
  replace hx112_9 := (HB.out.cell (World.block_lt_of_cell? w _ hx112_9)).trans hx112_9
  replace hx112_10 := (HB.out.cell (World.block_lt_of_cell? w _ hx112_10)).trans hx112_10
  replace hx112_11 := (HB.out.cell (World.block_lt_of_cell? w _ hx112_11)).trans hx112_11
  replace hx112_12 := (HB.out.cell (World.block_lt_of_cell? w _ hx112_12)).trans hx112_12
  replace hx112_13 := (HB.out.cell (World.block_lt_of_cell? w _ hx112_13)).trans hx112_13
  replace hx112_14 := (HB.out.cell (World.block_lt_of_cell? w _ hx112_14)).trans hx112_14
  replace p112 := eq_true p112
  replace q112 := eq_true q112
  refine start_ (n := 20) (S := fun w' => w'.cell? ⟨gb109, 0, none⟩ = some (.int .i64 a0_0) ∧ w'.cell? ⟨gb109, 1, none⟩ = some (.int .i64 a0_1) ∧ w'.cell? ⟨gb109, 2, none⟩ = some (.int .i64 a0_2) ∧ w'.cell? ⟨gb109, 3, none⟩ = some (.int .i64 a0_3) ∧ w'.cell? ⟨gb109, 4, none⟩ = some (.int .i64 a0_4) ∧ w'.cell? ⟨gb109, 5, none⟩ = some (.float .f64 a0_5) ∧ w'.cell? ⟨gb109, 6, none⟩ = some (.int .i64 a0_6) ∧ w'.cell? ⟨gb109, 7, none⟩ = some (.int .i64 a0_7) ∧ w'.cell? ⟨gb109, 8, none⟩ = some (.int .i64 a0_8) ∧ w'.cell? ⟨gb109, 9, none⟩ = some (.int .i64 a0_9) ∧ w'.cell? ⟨gb109, 10, none⟩ = some (.int .i64 a0_10) ∧ w'.cell? ⟨gb109, 11, none⟩ = some (.int .i64 a0_11) ∧ w'.cell? ⟨gb109, 12, none⟩ = some (.int .i64 a0_12) ∧ w'.cell? ⟨gb109, 13, none⟩ = some (.int .i64 a0_13) ∧ w'.cell? ⟨gb109, 14, none⟩ = some (.float .f64 a0_14) ∧ w'.cell? ⟨g1_0, 0, none⟩ = some (.slice (some ad110) l1_0.length c1_0) ∧ w'.cell? ⟨g2_0, 0, none⟩ = some (.int .i64 a2_0) ∧ w'.cell? (ad110.add ((a2_0).toNat * 15)) = some (.int .i64 ((rd_T35 l1_0 a2_0).f0)) ∧ w'.cell? ⟨(ad110.add ((a2_0).toNat * 15)).block, (ad110.add ((a2_0).toNat * 15)).off + 1, none⟩ = some (.int .i64 ((rd_T35 l1_0 a2_0).f1)) ∧ w'.cell? ⟨(ad110.add ((a2_0).toNat * 15)).block, (ad110.add ((a2_0).toNat * 15)).off + 2, none⟩ = some (.int .i64 ((rd_T35 l1_0 a2_0).f2)) ∧ w'.cell? ⟨(ad110.add ((a2_0).toNat * 15)).block, (ad110.add ((a2_0).toNat * 15)).off + 3, none⟩ = some (.int .i64 ((rd_T35 l1_0 a2_0).f3.f0)) ∧ w'.cell? ⟨(ad110.add ((a2_0).toNat * 15)).block, (ad110.add ((a2_0).toNat * 15)).off + 4, none⟩ = some (.int .i64 ((rd_T35 l1_0 a2_0).f3.f1)) ∧ w'.cell? ⟨(ad110.add ((a2_0).toNat * 15)).block, (ad110.add ((a2_0).toNat * 15)).off + 5, none⟩ = some (.float .f64 ((rd_T35 l1_0 a2_0).f3.f2)) ∧ w'.cell? ⟨(ad110.add ((a2_0).toNat * 15)).block, (ad110.add ((a2_0).toNat * 15)).off + 6, none⟩ = some (.int .i64 ((rd_T35 l1_0 a2_0).f3.f3.f0)) ∧ w'.cell? ⟨(ad110.add ((a2_0).toNat * 15)).block, (ad110.add ((a2_0).toNat * 15)).off + 7, none⟩ = some (.int .i64 ((rd_T35 l1_0 a2_0).f3.f3.f1)) ∧ w'.cell? ⟨(ad110.add ((a2_0).toNat * 15)).block, (ad110.add ((a2_0).toNat * 15)).off + 8, none⟩ = some (.int .i64 ((rd_T35 l1_0 a2_0).f4.f0)) ∧ w'.cell? ⟨(ad110.add ((a2_0).toNat * 15)).block, (ad110.add ((a2_0).toNat * 15)).off + 9, none⟩ = some (.int .i64 ((rd_T35 l1_0 a2_0).f4.f1.f0)) ∧ w'.cell? ⟨(ad110.add ((a2_0).toNat * 15)).block, (ad110.add ((a2_0).toNat * 15)).off + 10, none⟩ = some (.int .i64 ((rd_T35 l1_0 a2_0).f4.f1.f1)) ∧ w'.cell? ⟨(ad110.add ((a2_0).toNat * 15)).block, (ad110.add ((a2_0).toNat * 15)).off + 11, none⟩ = some (.int .i64 ((rd_T35 l1_0 a2_0).f4.f2.f0)) ∧ w'.cell? ⟨(ad110.add ((a2_0).toNat * 15)).block, (ad110.add ((a2_0).toNat * 15)).off + 12, none⟩ = some (.int .i64 ((rd_T35 l1_0 a2_0).f4.f2.f1.f0)) ∧ w'.cell? ⟨(ad110.add ((a2_0).toNat * 15)).block, (ad110.add ((a2_0).toNat * 15)).off + 13, none⟩ = some (.int .i64 ((rd_T35 l1_0 a2_0).f4.f2.f1.f1)) ∧ w'.cell? ⟨(ad110.add ((a2_0).toNat * 15)).block, (ad110.add ((a2_0).toNat * 15)).off + 14, none⟩ = some (.float .f64 ((rd_T35 l1_0 a2_0).f4.f2.f2)) ∧ w'.cell? (ad110.add ((a2_0).toNat * 15)) = some (.int .i64 ((rd_T35 l1_0 a2_0).f0)) ∧ w'.cell? ⟨(ad110.add ((a2_0).toNat * 15)).block, (ad110.add ((a2_0).toNat * 15)).off + 1, none⟩ = some (.int .i64 ((rd_T35 l1_0 a2_0).f1)) ∧ w'.cell? ⟨(ad110.add ((a2_0).toNat * 15)).block, (ad110.add ((a2_0).toNat * 15)).off + 2, none⟩ = some (.int .i64 ((rd_T35 l1_0 a2_0).f2)) ∧ w'.cell? ⟨(ad110.add ((a2_0).toNat * 15)).block, (ad110.add ((a2_0).toNat * 15)).off + 3, none⟩ = some (.int .i64 ((rd_T35 l1_0 a2_0).f3.f0)) ∧ w'.cell? ⟨(ad110.add ((a2_0).toNat * 15)).block, (ad110.add ((a2_0).toNat * 15)).off + 4, none⟩ = some (.int .i64 ((rd_T35 l1_0 a2_0).f3.f1)) ∧ w'.cell? ⟨(ad110.add ((a2_0).toNat * 15)).block, (ad110.add ((a2_0).toNat * 15)).off + 5, none⟩ = some (.float .f64 ((rd_T35 l1_0 a2_0).f3.f2)) ∧ w'.cell? ⟨(ad110.add ((a2_0).toNat * 15)).block, (ad110.add ((a2_0).toNat * 15)).off + 6, none⟩ = some (.int .i64 ((rd_T35 l1_0 a2_0).f3.f3.f0)) ∧ w'.cell? ⟨(ad110.add ((a2_0).toNat * 15)).block, (ad110.add ((a2_0).toNat * 15)).off + 7, none⟩ = some (.int .i64 ((rd_T35 l1_0 a2_0).f3.f3.f1)) ∧ w'.cell? ⟨(ad110.add ((a2_0).toNat * 15)).block, (ad110.add ((a2_0).toNat * 15)).off + 8, none⟩ = some (.int .i64 ((rd_T35 l1_0 a2_0).f4.f0)) ∧ w'.cell? ⟨(ad110.add ((a2_0).toNat * 15)).block, (ad110.add ((a2_0).toNat * 15)).off + 9, none⟩ = some (.int .i64 ((rd_T35 l1_0 a2_0).f4.f1.f0)) ∧ w'.cell? ⟨(ad110.add ((a2_0).toNat * 15)).block, (ad110.add ((a2_0).toNat * 15)).off + 10, none⟩ = some (.int .i64 ((rd_T35 l1_0 a2_0).f4.f1.f1)) ∧ w'.cell? ⟨(ad110.add ((a2_0).toNat * 15)).block, (ad110.add ((a2_0).toNat * 15)).off + 11, none⟩ = some (.int .i64 ((rd_T35 l1_0 a2_0).f4.f2.f0)) ∧ w'.cell? ⟨(ad110.add ((a2_0).toNat * 15)).block, (ad110.add ((a2_0).toNat * 15)).off + 12, none⟩ = some (.int .i64 ((rd_T35 l1_0 a2_0).f4.f2.f1.f0)) ∧ w'.cell? ⟨(ad110.add ((a2_0).toNat * 15)).block, (ad110.add ((a2_0).toNat * 15)).off + 13, none⟩ = some (.int .i64 ((rd_T35 l1_0 a2_0).f4.f2.f1.f1)) ∧ w'.cell? ⟨(ad110.add ((a2_0).toNat * 15)).block, (ad110.add ((a2_0).toNat * 15)).off + 14, none⟩ = some (.float .f64 ((rd_T35 l1_0 a2_0).f4.f2.f2)) ∧ w'.cell? (ad110.add ((a2_0).toNat * 15)) = some (.int .i64 ((rd_T35 l1_0 a2_0).f0)) ∧ w'.cell? ⟨(ad110.add ((a2_0).toNat * 15)).block, (ad110.add ((a2_0).toNat * 15)).off + 1, none⟩ = some (.int .i64 ((rd_T35 l1_0 a2_0).f1)) ∧ w'.cell? ⟨(ad110.add ((a2_0).toNat * 15)).block, (ad110.add ((a2_0).toNat * 15)).off + 2, none⟩ = some (.int .i64 ((rd_T35 l1_0 a2_0).f2)) ∧ w'.cell? ⟨(ad110.add ((a2_0).toNat * 15)).block, (ad110.add ((a2_0).toNat * 15)).off + 3, none⟩ = some (.int .i64 ((rd_T35 l1_0 a2_0).f3.f0)) ∧ w'.cell? ⟨(ad110.add ((a2_0).toNat * 15)).block, (ad110.add ((a2_0).toNat * 15)).off + 4, none⟩ = some (.int .i64 ((rd_T35 l1_0 a2_0).f3.f1)) ∧ w'.cell? ⟨(ad110.add ((a2_0).toNat * 15)).block, (ad110.add ((a2_0).toNat * 15)).off + 5, none⟩ = some (.float .f64 ((rd_T35 l1_0 a2_0).f3.f2)) ∧ w'.cell? ⟨(ad110.add ((a2_0).toNat * 15)).block, (ad110.add ((a2_0).toNat * 15)).off + 6, none⟩ = some (.int .i64 ((rd_T35 l1_0 a2_0).f3.f3.f0)) ∧ w'.cell? ⟨(ad110.add ((a2_0).toNat * 15)).block, (ad110.add ((a2_0).toNat * 15)).off + 7, none⟩ = some (.int .i64 ((rd_T35 l1_0 a2_0).f3.f3.f1)) ∧ w'.cell? ⟨(ad110.add ((a2_0).toNat * 15)).block, (ad110.add ((a2_0).toNat * 15)).off + 8, none⟩ = some (.int .i64 ((rd_T35 l1_0 a2_0).f4.f0)) ∧ w'.cell? ⟨(ad110.add ((a2_0).toNat * 15)).block, (ad110.add ((a2_0).toNat * 15)).off + 9, none⟩ = some (.int .i64 ((rd_T35 l1_0 a2_0).f4.f1.f0)) ∧ w'.cell? ⟨(ad110.add ((a2_0).toNat * 15)).block, (ad110.add ((a2_0).toNat * 15)).off + 10, none⟩ = some (.int .i64 ((rd_T35 l1_0 a2_0).f4.f1.f1)) ∧ w'.cell? ⟨(ad110.add ((a2_0).toNat * 15)).block, (ad110.add ((a2_0).toNat * 15)).off + 11, none⟩ = some (.int .i64 ((rd_T35 l1_0 a2_0).f4.f2.f0)) ∧ w'.cell? ⟨(ad110.add ((a2_0).toNat * 15)).block, (ad110.add ((a2_0).toNat * 15)).off + 12, none⟩ = some (.int .i64 ((rd_T35 l1_0 a2_0).f4.f2.f1.f0)) ∧ w'.cell? ⟨(ad110.add ((a2_0).toNat * 15)).block, (ad110.add ((a2_0).toNat * 15)).off + 13, none⟩ = some (.int .i64 ((rd_T35 l1_0 a2_0).f4.f2.f1.f1)) ∧ w'.cell? ⟨(ad110.add ((a2_0).toNat * 15)).block, (ad110.add ((a2_0).toNat * 15)).off + 14, none⟩ = some (.float .f64 ((rd_T35 l1_0 a2_0).f4.f2.f2))) (ds := []) #[F_, F_, F_, F_, F_, F_, F_, F_, F_, F_, F_, F_, F_, F_, F_, F_, F_, F_, F_, F_] (by kernel_rfl) rfl rfl ⟨(zL BK109.out 0).trans rfl, (zL BK109.out 1).trans rfl, (zL BK109.out 2).trans rfl, (zL BK109.out 3).trans rfl, (zL BK109.out 4).trans rfl, (zL BK109.out 5).trans rfl, (zL BK109.out 6).trans rfl, (zL BK109.out 7).trans rfl, (zL BK109.out 8).trans rfl, (zL BK109.out 9).trans rfl, (zL BK109.out 10).trans rfl, (zL BK109.out 11).trans rfl, (zL BK109.out 12).trans rfl, (zL BK109.out 13).trans rfl, (zL BK109.out 14).trans rfl, (zL BK50.out 0).trans rfl, (zL BK60.out 0).trans rfl, (hb_ HB hw110_0), (hb_ HB hw110_1), (hb_ HB hw110_2), (hb_ HB hw110_3), (hb_ HB hw110_4), (hb_ HB hw110_5), (hb_ HB hw110_6), (hb_ HB hw110_7), (hb_ HB hw110_8), (hb_ HB hw110_9), (hb_ HB hw110_10), (hb_ HB hw110_11), (hb_ HB hw110_12), (hb_ HB hw110_13), (hb_ HB hw110_14), (hb_ HB hw111_0), (hb_ HB hw111_1), (hb_ HB hw111_2), (hb_ HB hw111_3), (hb_ HB hw111_4), (hb_ HB hw111_5), (hb_ HB hw111_6), (hb_ HB hw111_7), (hb_ HB hw111_8), (hb_ HB hw111_9), (hb_ HB hw111_10), (hb_ HB hw111_11), (hb_ HB hw111_12), (hb_ HB hw111_13), (hb_ HB hw111_14), (hb_ HB hw112_0), (hb_ HB hw112_1), (hb_ HB hw112_2), (hb_ HB hw112_3), (hb_ HB hw112_4), (hb_ HB hw112_5), (hb_ HB hw112_6), (hb_ HB hw112_7), (hb_ HB hw112_8), (hb_ HB hw112_9), (hb_ HB hw112_10), (hb_ HB hw112_11), (hb_ HB hw112_12), (hb_ HB hw112_13), (hb_ HB hw112_14)⟩ (fun hHeld => ?_); refine with_tabW past_Source_1.tab1 past_Source_1.bits1 (fun HT_ HW_ => ?_)
  generalize w7.drew = w8 at BK50 BK60 BK109 HB hx110_0 hx110_1 hx110_10 hx110_11 hx110_12 hx110_13 hx110_14 hx110_2 hx110_3 hx110_4 hx110_5 hx110_6 hx110_7 hx110_8 hx110_9 hx111_0 hx111_1 hx111_10 hx111_11 hx111_12 hx111_13 hx111_14 hx111_2 hx111_3 hx111_4 hx111_5 hx111_6 hx111_7 hx111_8 hx111_9 hx112_0 hx112_1 hx112_10 hx112_11 hx112_12 hx112_13 hx112_14 hx112_2 hx112_3 hx112_4 hx112_5 hx112_6 hx112_7 hx112_8 hx112_9 hHeld ⊢
  refine take_ (i := 0) (N := some 5) (v := ?_) (a' := ?_) #[T_, F_, F_, F_, F_, F_, F_, F_, F_, F_, F_, F_, F_, F_, F_, F_, F_, F_, F_, F_] rfl rfl (take_ofW HT_.out HW_.out (by kernel_rfl)) (fun _ _ _ h => h) (Or.inl ⟨by rfl, ?_⟩) hHeld ?_ ?_
  rotate_left
  · rintro w' ⟨s0, s1, s2, s3, s4, s5, s6, s7, s8, s9, s10, s11, s12, s13, s14, s15, s16, s17, s18, s19, s20, s21, s22, s23, s24, s25, s26, s27, s28, s29, s30, s31, s32, s33, s34, s35, s36, s37, s38, s39, s40, s41, s42, s43, s44, s45, s46, s47, s48, s49, s50, s51, s52, s53, s54, s55, s56, s57, s58, s59, s60, s61⟩
    go_simp
    with_reducible rfl
  rotate_left
  · simp only [Act.put, zS, zZ, zC, i64_w, i32_w]
    rfl
  refine take_ (i := 1) (N := some 6) (v := ?_) (a' := ?_) #[T_, T_, F_, F_, F_, F_, F_, F_, F_, F_, F_, F_, F_, F_, F_, F_, F_, F_, F_, F_] rfl rfl (take_ofW HT_.out HW_.out (by kernel_rfl)) (fun _ _ _ h => h) (Or.inl ⟨by rfl, ?_⟩) hHeld ?_ ?_
  rotate_left
  · rintro w' ⟨s0, s1, s2, s3, s4, s5, s6, s7, s8, s9, s10, s11, s12, s13, s14, s15, s16, s17, s18, s19, s20, s21, s22, s23, s24, s25, s26, s27, s28, s29, s30, s31, s32, s33, s34, s35, s36, s37, s38, s39, s40, s41, s42, s43, s44, s45, s46, s47, s48, s49, s50, s51, s52, s53, s54, s55, s56, s57, s58, s59, s60, s61⟩
    go_simp
    with_reducible rfl
  rotate_left
  · simp only [Act.put, zS, zZ, zC, i64_w, i32_w]
    rfl
  refine take_ (i := 2) (N := some 7) (v := ?_) (a' := ?_) #[T_, T_, T_, F_, F_, F_, F_, F_, F_, F_, F_, F_, F_, F_, F_, F_, F_, F_, F_, F_] rfl rfl (take_ofW HT_.out HW_.out (by kernel_rfl)) (fun _ _ _ h => h) (Or.inl ⟨by rfl, ?_⟩) hHeld ?_ ?_
  rotate_left
  · rintro w' ⟨s0, s1, s2, s3, s4, s5, s6, s7, s8, s9, s10, s11, s12, s13, s14, s15, s16, s17, s18, s19, s20, s21, s22, s23, s24, s25, s26, s27, s28, s29, s30, s31, s32, s33, s34, s35, s36, s37, s38, s39, s40, s41, s42, s43, s44, s45, s46, s47, s48, s49, s50, s51, s52, s53, s54, s55, s56, s57, s58, s59, s60, s61⟩
    go_simp
    with_reducible rfl
  rotate_left
  · simp only [Act.put, zS, zZ, zC, i64_w, i32_w]
    rfl
  refine pure_ (i := 3) (N := some 8) (v := ?_) (a' := ?_) #[T_, T_, T_, T_, F_, F_, F_, F_, F_, F_, F_, F_, F_, F_, F_, F_, F_, F_, F_, F_] rfl rfl (any_of HT_.out (by kernel_rfl)) (fun _ _ _ h => h) (Or.inl ⟨by rfl, ?_⟩) ?_ ?_
  rotate_left
  · intro w'
    go_simp
    with_reducible rfl
  rotate_left
  · simp only [Act.put, zS, zZ, zC, i64_w, i32_w]
    rfl
  refine pure_ (i := 4) (N := some 9) (v := ?_) (a' := ?_) #[T_, T_, T_, T_, T_, F_, F_, F_, F_, F_, F_, F_, F_, F_, F_, F_, F_, F_, F_, F_] rfl rfl (any_of HT_.out (by kernel_rfl)) (fun _ _ _ h => h) (Or.inl ⟨by rfl, ?_⟩) ?_ ?_
  rotate_left
  · intro w'
    go_simp
    with_reducible rfl
  rotate_left
  · simp only [Act.put, zS, zZ, zC, i64_w, i32_w]
    rfl
  refine pure_ (i := 5) (N := some 10) (v := ?_) (a' := ?_) #[T_, T_, T_, T_, T_, T_, F_, F_, F_, F_, F_, F_, F_, F_, F_, F_, F_, F_, F_, F_] rfl rfl (any_of HT_.out (by kernel_rfl)) (fun _ _ _ h => h) (Or.inl ⟨by rfl, ?_⟩) ?_ ?_
  rotate_left
  · intro w'
    go_simp
    with_reducible rfl
  rotate_left
  · simp only [Act.put, zS, zZ, zC, i64_w, i32_w]
    rfl
  refine take_ (i := 6) (N := some 11) (v := ?_) (a' := ?_) #[T_, T_, T_, T_, T_, T_, T_, F_, F_, F_, F_, F_, F_, F_, F_, F_, F_, F_, F_, F_] rfl rfl (take_ofW HT_.out HW_.out (by kernel_rfl)) (fun _ _ _ h => h) (Or.inl ⟨by rfl, ?_⟩) hHeld ?_ ?_
  rotate_left
  · rintro w' ⟨s0, s1, s2, s3, s4, s5, s6, s7, s8, s9, s10, s11, s12, s13, s14, s15, s16, s17, s18, s19, s20, s21, s22, s23, s24, s25, s26, s27, s28, s29, s30, s31, s32, s33, s34, s35, s36, s37, s38, s39, s40, s41, s42, s43, s44, s45, s46, s47, s48, s49, s50, s51, s52, s53, s54, s55, s56, s57, s58, s59, s60, s61⟩
    go_simp
    with_reducible rfl
  rotate_left
  · simp only [Act.put, zS, zZ, zC, i64_w, i32_w]
    rfl
  refine take_ (i := 7) (N := some 12) (v := ?_) (a' := ?_) #[T_, T_, T_, T_, T_, T_, T_, T_, F_, F_, F_, F_, F_, F_, F_, F_, F_, F_, F_, F_] rfl rfl (take_ofW HT_.out HW_.out (by kernel_rfl)) (fun _ _ _ h => h) (Or.inl ⟨by rfl, ?_⟩) hHeld ?_ ?_
  rotate_left
  · rintro w' ⟨s0, s1, s2, s3, s4, s5, s6, s7, s8, s9, s10, s11, s12, s13, s14, s15, s16, s17, s18, s19, s20, s21, s22, s23, s24, s25, s26, s27, s28, s29, s30, s31, s32, s33, s34, s35, s36, s37, s38, s39, s40, s41, s42, s43, s44, s45, s46, s47, s48, s49, s50, s51, s52, s53, s54, s55, s56, s57, s58, s59, s60, s61⟩
    go_simp
    with_reducible rfl
  rotate_left
  · simp only [Act.put, zS, zZ, zC, i64_w, i32_w]
    rfl
  refine take_ (i := 8) (N := some 13) (v := ?_) (a' := ?_) #[T_, T_, T_, T_, T_, T_, T_, T_, T_, F_, F_, F_, F_, F_, F_, F_, F_, F_, F_, F_] rfl rfl (take_ofW HT_.out HW_.out (by kernel_rfl)) (fun _ _ _ h => h) (Or.inl ⟨by rfl, ?_⟩) hHeld ?_ ?_
  rotate_left
  · rintro w' ⟨s0, s1, s2, s3, s4, s5, s6, s7, s8, s9, s10, s11, s12, s13, s14, s15, s16, s17, s18, s19, s20, s21, s22, s23, s24, s25, s26, s27, s28, s29, s30, s31, s32, s33, s34, s35, s36, s37, s38, s39, s40, s41, s42, s43, s44, s45, s46, s47, s48, s49, s50, s51, s52, s53, s54, s55, s56, s57, s58, s59, s60, s61⟩
    go_simp
    with_reducible rfl
  rotate_left
  · simp only [Act.put, zS, zZ, zC, i64_w, i32_w]
    rfl
  refine pure_ (i := 9) (N := some 14) (v := ?_) (a' := ?_) #[T_, T_, T_, T_, T_, T_, T_, T_, T_, T_, F_, F_, F_, F_, F_, F_, F_, F_, F_, F_] rfl rfl (any_of HT_.out (by kernel_rfl)) (fun _ _ _ h => h) (Or.inl ⟨by rfl, ?_⟩) ?_ ?_
  rotate_left
  · intro w'
    go_simp
    with_reducible rfl
  rotate_left
  · simp only [Act.put, zS, zZ, zC, i64_w, i32_w]
    rfl
  refine pure_ (i := 10) (N := some 15) (v := ?_) (a' := ?_) #[T_, T_, T_, T_, T_, T_, T_, T_, T_, T_, T_, F_, F_, F_, F_, F_, F_, F_, F_, F_] rfl rfl (any_of HT_.out (by kernel_rfl)) (fun _ _ _ h => h) (Or.inl ⟨by rfl, ?_⟩) ?_ ?_
  rotate_left
  · intro w'
    go_simp
    with_reducible rfl
  rotate_left
  · simp only [Act.put, zS, zZ, zC, i64_w, i32_w]
    rfl
  refine pure_ (i := 11) (N := some 16) (v := ?_) (a' := ?_) #[T_, T_, T_, T_, T_, T_, T_, T_, T_, T_, T_, T_, F_, F_, F_, F_, F_, F_, F_, F_] rfl rfl (any_of HT_.out (by kernel_rfl)) (fun _ _ _ h => h) (Or.inl ⟨by rfl, ?_⟩) ?_ ?_
  rotate_left
  · intro w'
    go_simp
    with_reducible rfl
  rotate_left
  · simp only [Act.put, zS, zZ, zC, i64_w, i32_w]
    rfl
  refine take_ (i := 12) (N := some 17) (v := ?_) (a' := ?_) #[T_, T_, T_, T_, T_, T_, T_, T_, T_, T_, T_, T_, T_, F_, F_, F_, F_, F_, F_, F_] rfl rfl (take_ofW HT_.out HW_.out (by kernel_rfl)) (fun _ _ _ h => h) (Or.inl ⟨by rfl, ?_⟩) hHeld ?_ ?_
  rotate_left
  · rintro w' ⟨s0, s1, s2, s3, s4, s5, s6, s7, s8, s9, s10, s11, s12, s13, s14, s15, s16, s17, s18, s19, s20, s21, s22, s23, s24, s25, s26, s27, s28, s29, s30, s31, s32, s33, s34, s35, s36, s37, s38, s39, s40, s41, s42, s43, s44, s45, s46, s47, s48, s49, s50, s51, s52, s53, s54, s55, s56, s57, s58, s59, s60, s61⟩
    go_simp
    with_reducible rfl
  rotate_left
  · simp only [Act.put, zS, zZ, zC, i64_w, i32_w]
    rfl
  refine take_ (i := 13) (N := some 18) (v := ?_) (a' := ?_) #[T_, T_, T_, T_, T_, T_, T_, T_, T_, T_, T_, T_, T_, T_, F_, F_, F_, F_, F_, F_] rfl rfl (take_ofW HT_.out HW_.out (by kernel_rfl)) (fun _ _ _ h => h) (Or.inl ⟨by rfl, ?_⟩) hHeld ?_ ?_
  rotate_left
  · rintro w' ⟨s0, s1, s2, s3, s4, s5, s6, s7, s8, s9, s10, s11, s12, s13, s14, s15, s16, s17, s18, s19, s20, s21, s22, s23, s24, s25, s26, s27, s28, s29, s30, s31, s32, s33, s34, s35, s36, s37, s38, s39, s40, s41, s42, s43, s44, s45, s46, s47, s48, s49, s50, s51, s52, s53, s54, s55, s56, s57, s58, s59, s60, s61⟩
    go_simp
    with_reducible rfl
  rotate_left
  · simp only [Act.put, zS, zZ, zC, i64_w, i32_w]
    rfl
  refine take_ (i := 14) (N := some 19) (v := ?_) (a' := ?_) #[T_, T_, T_, T_, T_, T_, T_, T_, T_, T_, T_, T_, T_, T_, T_, F_, F_, F_, F_, F_] rfl rfl (take_ofW HT_.out HW_.out (by kernel_rfl)) (fun _ _ _ h => h) (Or.inl ⟨by rfl, ?_⟩) hHeld ?_ ?_
  rotate_left
  · rintro w' ⟨s0, s1, s2, s3, s4, s5, s6, s7, s8, s9, s10, s11, s12, s13, s14, s15, s16, s17, s18, s19, s20, s21, s22, s23, s24, s25, s26, s27, s28, s29, s30, s31, s32, s33, s34, s35, s36, s37, s38, s39, s40, s41, s42, s43, s44, s45, s46, s47, s48, s49, s50, s51, s52, s53, s54, s55, s56, s57, s58, s59, s60, s61⟩
    go_simp
    with_reducible rfl
  rotate_left
  · simp only [Act.put, zS, zZ, zC, i64_w, i32_w]
    rfl
  refine pure_ (i := 15) (N := some 20) (v := ?_) (a' := ?_) #[T_, T_, T_, T_, T_, T_, T_, T_, T_, T_, T_, T_, T_, T_, T_, T_, F_, F_, F_, F_] rfl rfl (any_of HT_.out (by kernel_rfl)) (fun _ _ _ h => h) (Or.inl ⟨by rfl, ?_⟩) ?_ ?_
  rotate_left
  · intro w'
    go_simp
    with_reducible rfl
  rotate_left
  · simp only [Act.put, zS, zZ, zC, i64_w, i32_w]
    rfl
  refine pure_ (i := 16) (N := some 21) (v := ?_) (a' := ?_) #[T_, T_, T_, T_, T_, T_, T_, T_, T_, T_, T_, T_, T_, T_, T_, T_, T_, F_, F_, F_] rfl rfl (any_of HT_.out (by kernel_rfl)) (fun _ _ _ h => h) (Or.inl ⟨by rfl, ?_⟩) ?_ ?_
  rotate_left
  · intro w'
    go_simp
    with_reducible rfl
  rotate_left
  · simp only [Act.put, zS, zZ, zC, i64_w, i32_w]
    rfl
  refine take_ (i := 17) (N := some 22) (v := ?_) (a' := ?_) #[T_, T_, T_, T_, T_, T_, T_, T_, T_, T_, T_, T_, T_, T_, T_, T_, T_, T_, F_, F_] rfl rfl (take_ofW HT_.out HW_.out (by kernel_rfl)) (fun _ _ _ h => h) (Or.inl ⟨by rfl, ?_⟩) hHeld ?_ ?_
  rotate_left
  · rintro w' ⟨s0, s1, s2, s3, s4, s5, s6, s7, s8, s9, s10, s11, s12, s13, s14, s15, s16, s17, s18, s19, s20, s21, s22, s23, s24, s25, s26, s27, s28, s29, s30, s31, s32, s33, s34, s35, s36, s37, s38, s39, s40, s41, s42, s43, s44, s45, s46, s47, s48, s49, s50, s51, s52, s53, s54, s55, s56, s57, s58, s59, s60, s61⟩
    go_simp
    with_reducible rfl
  rotate_left
  · simp only [Act.put, zS, zZ, zC, i64_w, i32_w]
    rfl
  refine one_ (i := 18) (N := some 23) #[T_, T_, T_, T_, T_, T_, T_, T_, T_, T_, T_, T_, T_, T_, T_, T_, T_, T_, T_, F_] rfl rfl (one_of HT_.out (by kernel_rfl)) (by decide) (fun K hK => ?_)
  refine goes_ Try.func32 (by kernel_rfl) rfl #[.agg #[.int .i64 a0_0, .int .i64 a0_1, .int .i64 a0_2, .int .i64 a0_3, .int .i64 a0_4, .float .f64 a0_5, .int .i64 a0_6, .int .i64 a0_7, .int .i64 a0_8, .int .i64 a0_9, .int .i64 a0_10, .int .i64 a0_11, .int .i64 a0_12, .int .i64 a0_13, .float .f64 a0_14], .agg #[.int .i64 ((rd_T35 l1_0 a2_0).f4.f2.f0), .int .i64 ((rd_T35 l1_0 a2_0).f4.f2.f1.f0), .int .i64 ((rd_T35 l1_0 a2_0).f4.f2.f1.f1), .float .f64 ((rd_T35 l1_0 a2_0).f4.f2.f2)], .int .i64 ((rd_T35 l1_0 a2_0).f3.f1), .int .i64 ((rd_T35 l1_0 a2_0).f2)] (by rfl) rfl rfl (by (try simp only [List.map_toArray, List.map_cons, List.map_nil]); first | done | rfl | (simp only [List.length_drop, List.length_take]; rfl)) ?_
  with_reducible refine (past_wrote.calls a0_0 a0_1 a0_2 a0_3 a0_4 a0_5 a0_6 a0_7 a0_8 a0_9 a0_10 a0_11 a0_12 a0_13 a0_14 ((rd_T35 l1_0 a2_0).f4.f2.f0) ((rd_T35 l1_0 a2_0).f4.f2.f1.f0) ((rd_T35 l1_0 a2_0).f4.f2.f1.f1) ((rd_T35 l1_0 a2_0).f4.f2.f2) ((rd_T35 l1_0 a2_0).f3.f1) ((rd_T35 l1_0 a2_0).f2) t113 _ A6.out).mono ?_
  rintro e w9 ⟨rfl, hb⟩
  refine ⟨_, rfl, ?_⟩
  have n0_ := zM (blk_below (g := g1_0) (o := .cells #[.slice (some ad110) l1_0.length c1_0] 42 (0, 0)) blk_ hb)
  have n1_ := zM (blk_below (g := g2_0) (o := .cells #[.int .i64 a2_0] 3 (0, 0)) blk_ hb)
  have n2_ := zM (bb_ BK109 hb)
  have n3_ := zM (zB bel_ hb)
  clear BK50
  clear BK60
  clear BK109
  clear HB
  have BK50 := n0_
  have BK60 := n1_
  have BK109 := n2_
  have HB := n3_
  clear n0_ n1_ n2_ n3_
  (try clear hb)
  (try clear hb2)
  (try clear hk)
  (try clear hi)
  refine hK.out _ _ ⟨(zL BK109.out 0).trans rfl, (zL BK109.out 1).trans rfl, (zL BK109.out 2).trans rfl, (zL BK109.out 3).trans rfl, (zL BK109.out 4).trans rfl, (zL BK109.out 5).trans rfl, (zL BK109.out 6).trans rfl, (zL BK109.out 7).trans rfl, (zL BK109.out 8).trans rfl, (zL BK109.out 9).trans rfl, (zL BK109.out 10).trans rfl, (zL BK109.out 11).trans rfl, (zL BK109.out 12).trans rfl, (zL BK109.out 13).trans rfl, (zL BK109.out 14).trans rfl, (zL BK50.out 0).trans rfl, (zL BK60.out 0).trans rfl, (hb_ HB hw110_0), (hb_ HB hw110_1), (hb_ HB hw110_2), (hb_ HB hw110_3), (hb_ HB hw110_4), (hb_ HB hw110_5), (hb_ HB hw110_6), (hb_ HB hw110_7), (hb_ HB hw110_8), (hb_ HB hw110_9), (hb_ HB hw110_10), (hb_ HB hw110_11), (hb_ HB hw110_12), (hb_ HB hw110_13), (hb_ HB hw110_14), (hb_ HB hw111_0), (hb_ HB hw111_1), (hb_ HB hw111_2), (hb_ HB hw111_3), (hb_ HB hw111_4), (hb_ HB hw111_5), (hb_ HB hw111_6), (hb_ HB hw111_7), (hb_ HB hw111_8), (hb_ HB hw111_9), (hb_ HB hw111_10), (hb_ HB hw111_11), (hb_ HB hw111_12), (hb_ HB hw111_13), (hb_ HB hw111_14), (hb_ HB hw112_0), (hb_ HB hw112_1), (hb_ HB hw112_2), (hb_ HB hw112_3), (hb_ HB hw112_4), (hb_ HB hw112_5), (hb_ HB hw112_6), (hb_ HB hw112_7), (hb_ HB hw112_8), (hb_ HB hw112_9), (hb_ HB hw112_10), (hb_ HB hw112_11), (hb_ HB hw112_12), (hb_ HB hw112_13), (hb_ HB hw112_14)⟩ (fun hHeld => ?_)
  clear hK K
  refine norm_ (a' := ?_) ?_ ?_
  rotate_left
  · show Act.put _ (some 23) _ = _
    simp only [Act.put, zS, zZ, zC, i64_w, i32_w]
    rfl
  refine pure_ (i := 19) (N := some 4) (v := ?_) (a' := ?_) #[T_, T_, T_, T_, T_, T_, T_, T_, T_, T_, T_, T_, T_, T_, T_, T_, T_, T_, T_, T_] rfl rfl (any_of HT_.out (by kernel_rfl)) (fun _ _ _ h => h) (Or.inl ⟨by rfl, ?_⟩) ?_ ?_
  rotate_left
  · intro w'
    go_simp
    with_reducible rfl
  rotate_left
  · simp only [Act.put, zS, zZ, zC, i64_w, i32_w]
    rfl
  refine done_ (done_of HT_.out (by kernel_rfl)) ?_
  try go_wp2
  go_ret
  exact ⟨by first | rfl | (simp [errW_none, errW_some] <;> rfl) | (simp [*, errW_none, errW_some] <;> rfl), bel_⟩
/-! ### api_Event: function 30 -/
def api_Event.l0 : Nat → List (S35) → Int → Int → List (S35) → Int → Option (Int)
  | 0, _, _, _, _, _ => none
  | k + 1, x0, x7, x8, x51000, x52000 => if x8 < x7 then (if 0 ≤ x8 then (if x8 < (x0.length : Int) then ((past_Source_1.f ((rd_T35 x0 x8).f0) ((rd_T35 x0 x8).f1) ((rd_T35 x0 x8).f2) ((rd_T35 x0 x8).f3.f0) ((rd_T35 x0 x8).f3.f1) ((rd_T35 x0 x8).f3.f2) ((rd_T35 x0 x8).f3.f3.f0) ((rd_T35 x0 x8).f3.f3.f1) ((rd_T35 x0 x8).f4.f0) ((rd_T35 x0 x8).f4.f1.f0) ((rd_T35 x0 x8).f4.f1.f1) ((rd_T35 x0 x8).f4.f2.f0) ((rd_T35 x0 x8).f4.f2.f1.f0) ((rd_T35 x0 x8).f4.f2.f1.f1) ((rd_T35 x0 x8).f4.f2.f2) x51000 x52000).bind fun t115 => (if t115 = true then (some x8) else (api_Event.l0 k x0 x7 (wrap64 (x8 + 1)) x51000 x52000))) else (none)) else (none)) else (some (-1))
def api_Event.f (k : Nat) (l0 : List (S35)) (l1_0 : List (S35)) (a1_1 : Int) : Option (Int) := api_Event.l0 k l0 (l0.length : Int) 0 l1_0 a1_1
theorem api_Event.mono_l : ∀ k, (∀ y0 y1 y2 y3 y4, LeO (api_Event.l0 k y0 y1 y2 y3 y4) (api_Event.l0 (k + 1) y0 y1 y2 y3 y4))
  | 0 => fun _ _ _ _ _ r h => by simp [api_Event.l0] at h
  | k + 1 => by
    have ih0 := api_Event.mono_l k
    · intro y0 y1 y2 y3 y4
      unfold api_Event.l0
      repeat' first
      | (with_reducible exact ih0 _ _ _ _ _)
      | (with_reducible exact LeO.refl _)
      | (with_reducible exact LeO.none _)
      | (with_reducible refine LeO.ite ?_ ?_)
      | (with_reducible refine LeO.bind ?_ (fun _ => ?_))
      | exact ih0 _ _ _ _ _
      | exact LeO.none _
      | refine LeO.ite ?_ ?_
      | refine LeO.bind ?_ (fun _ => ?_)
theorem api_Event.mono : ∀ a0 a1 a2 k, LeO (api_Event.f k a0 a1 a2) (api_Event.f (k + 1) a0 a1 a2) := by
  intro a0 a1 a2 k
  have ih0 := api_Event.mono_l k
  unfold api_Event.f
  repeat' first
      | (with_reducible exact ih0 _ _ _ _ _)
      | (with_reducible exact LeO.refl _)
      | (with_reducible exact LeO.none _)
      | (with_reducible refine LeO.ite ?_ ?_)
      | (with_reducible refine LeO.bind ?_ (fun _ => ?_))
      | exact ih0 _ _ _ _ _
      | exact LeO.none _
      | refine LeO.ite ?_ ?_
      | refine LeO.bind ?_ (fun _ => ?_)
set_option maxHeartbeats 8000000 in
set_option maxRecDepth 100000 in
theorem api_Event.calls (k : Nat) (A0 : Option Addr) (c0 : Nat) (l0 : List (S35)) (g1_0 : Nat) (g1_1 : Nat) (A1_0 : Option Addr) (c1_0 : Nat) (l1_0 : List (S35)) (a1_1 : Int) (r : Int) (w : World) (hr0 : Kd.C k35 w A0 l0.length l0) (hc0 : l0.length ≤ c0) (hr1_0 : Kd.C k35 w A1_0 l1_0.length l1_0) (hc1_0 : l1_0.length ≤ c1_0) (hb1_0 : w.heap[g1_0]? = some (.cells #[.slice A1_0 l1_0.length c1_0] 42 (0, 0))) (hb1_1 : w.heap[g1_1]? = some (.cells #[.int .i64 a1_1] 3 (0, 0))) (h : api_Event.f k l0 l1_0 a1_1 = some r) :
    Calls Try.prog 30 #[.slice A0 l0.length c0, .func (.func 31) #[] #[.pointer (some ⟨g1_0, 0, none⟩), .pointer (some ⟨g1_1, 0, none⟩)]] w fun e w' => e = .returned (.int .i64 r) ∧ Below w.heap.size w w' := by
  have hu35 := Try.underlying35
  have HR0 := zM hr0
  have HC0 := zM hc0
  clear hr0 hc0
  have HR1_0 := zM hr1_0
  have HC1_0 := zM hc1_0
  clear hr1_0 hc1_0
  have BK50 := zM hb1_0
  clear hb1_0
  have BK51 := zM hb1_1
  clear hb1_1
  have HB := zM (Below.refl w.heap.size w)
  have H : (api_Event.l0 k l0 (l0.length : Int) 0 l1_0 a1_1) = some r := h
  clear h
  have H' := zM H
  clear H
  go_enter Try.func30, Try.ntmps30
  go_wp2
  go_loopg [8] k (fun kq v8 w' => ∃ (x8_1 : Int), v8 = .int .i64 x8_1 ∧ Aside0 (api_Event.l0 kq l0 (l0.length : Int) x8_1 l1_0 a1_1 = some r) ∧ Aside0 (kq ≤ k) ∧ Aside0 (w'.heap[g1_0]? = some (.cells #[(.slice A1_0 l1_0.length c1_0)] 42 (0, 0))) ∧ Aside0 (w'.heap[g1_1]? = some (.cells #[.int .i64 a1_1] 3 (0, 0))) ∧ Aside0 (Below w.heap.size w w'))
  case atStart => exact ⟨(0), (by first | rfl | (simp; done) | (simp [*]; done) | (simp; grind)), H', ⟨Nat.le_refl _⟩, ⟨blf_⟩, ⟨blf_⟩, ⟨bel_⟩⟩
  case round =>
   clear H'
   try clear c1
   try clear p2
   obtain ⟨x8_1, rfl, HA, HK1, BK50, BK51, HB⟩ := hrel
   cases gk with
   | zero => exact absurd HA.out (by simp [api_Event.l0])
   | succ k1 =>
    have H := HA.out
    clear HA
    simp only [api_Event.l0] at H
    by_cases c3 : x8_1 < (l0.length : Int)
    rotate_left
    · rw [if_neg c3] at H
      have c3b0 : decide (x8_1 < (l0.length : Int)) = false := decide_eq_false c3
      clear c3
      obtain rfl := Option.some.inj H
      go_wp2
      go_ret
      exact ⟨by first | rfl | (simp [errW_none, errW_some] <;> rfl) | (simp [*, errW_none, errW_some] <;> rfl), bel_⟩
    rw [if_pos c3] at H
    have c3b0 : decide (x8_1 < (l0.length : Int)) = true := decide_eq_true c3
    clear c3
    by_cases c4 : 0 ≤ x8_1
    rotate_left
    · rw [if_neg c4] at H
      exact absurd H (by simp)
    rw [if_pos c4] at H
    have c4b0 : decide (0 ≤ x8_1) = true := decide_eq_true c4
    clear c4
    by_cases c5 : x8_1 < (l0.length : Int)
    rotate_left
    · rw [if_neg c5] at H
      exact absurd H (by simp)
    rw [if_pos c5] at H
    have c5b0 : decide (x8_1 < (l0.length : Int)) = true := decide_eq_true c5
    clear c5
    replace H := Option.bind_eq_some_iff.mp H
    obtain ⟨t115, A60, H⟩ := H
    replace H : (if t115 = true then (some x8_1) else (api_Event.l0 k1 l0 (l0.length : Int) (wrap64 (x8_1 + 1)) l1_0 a1_1)) = some r := H
    have A6 := zM A60
    clear A60
    by_cases c7 : t115 = true
    · subst c7
      have H1 : (some x8_1) = some r := by rw [if_pos rfl] at H; exact H
      clear H
      have H := H1
      clear H1
      obtain rfl := Option.some.inj H
      have p114 : 0 ≤ (x8_1 : Int) := of_decide_eq_true (by first | (with_reducible assumption) | assumption)
      have q114 : x8_1 < (l0.length : Int) := of_decide_eq_true (by first | (with_reducible assumption) | assumption)
      obtain ⟨ad114, e114, hx114_0, hx114_1, hx114_2, hx114_3, hx114_4, hx114_5, hx114_6, hx114_7, hx114_8, hx114_9, hx114_10, hx114_11, hx114_12, hx114_13, hx114_14⟩ := at_T35 HR0.out x8_1 p114 q114
      cases e114
      replace hx114_0 := (HB.out.cell (World.block_lt_of_cell? w _ hx114_0)).trans hx114_0
      replace hx114_1 := (HB.out.cell (World.block_lt_of_cell? w _ hx114_1)).trans hx114_1
      replace hx114_2 := (HB.out.cell (World.block_lt_of_cell? w _ hx114_2)).trans hx114_2
      replace hx114_3 := (HB.out.cell (World.block_lt_of_cell? w _ hx114_3)).trans hx114_3
      replace hx114_4 := (HB.out.cell (World.block_lt_of_cell? w _ hx114_4)).trans hx114_4
      replace hx114_5 := (HB.out.cell (World.block_lt_of_cell? w _ hx114_5)).trans hx114_5
      replace hx114_6 := (HB.out.cell (World.block_lt_of_cell? w _ hx114_6)).trans hx114_6
      replace hx114_7 := (HB.out.cell (World.block_lt_of_cell? w _ hx114_7)).trans hx114_7
      replace hx114_8 := (HB.out.cell (World.block_lt_of_cell? w _ hx114_8)).trans hx114_8
      replace hx114_9 := (HB.out.cell (World.block_lt_of_cell? w _ hx114_9)).trans hx114_9
      replace hx114_10 := (HB.out.cell (World.block_lt_of_cell? w _ hx114_10)).trans hx114_10
      replace hx114_11 := (HB.out.cell (World.block_lt_of_cell? w _ hx114_11)).trans hx114_11
      replace hx114_12 := (HB.out.cell (World.block_lt_of_cell? w _ hx114_12)).trans hx114_12
      replace hx114_13 := (HB.out.cell (World.block_lt_of_cell? w _ hx114_13)).trans hx114_13
      replace hx114_14 := (HB.out.cell (World.block_lt_of_cell? w _ hx114_14)).trans hx114_14
      replace p114 := eq_true p114
      replace q114 := eq_true q114
      go_wp2_with (first | ((with_reducible refine gld_ (t := 35) ?_); (try (refine gate_guard (by rfl) ?_; dsimp only)); first | refine wl15_ rfl 35 _ rfl rfl Try.underlying35 rfl (by kernel_rfl) ?_ | refine wlr15_ rfl 35 _ rfl rfl Try.underlying35 rfl (by kernel_rfl) ?_) | ((with_reducible refine gst_ (t := 35) ?_); refine ws15_ rfl 35 _ _ rfl rfl rfl (by kernel_rfl) ?_) | (go_at_call 31; (with_reducible refine (past_Source_1.calls ((rd_T35 l0 x8_1).f0) ((rd_T35 l0 x8_1).f1) ((rd_T35 l0 x8_1).f2) ((rd_T35 l0 x8_1).f3.f0) ((rd_T35 l0 x8_1).f3.f1) ((rd_T35 l0 x8_1).f3.f2) ((rd_T35 l0 x8_1).f3.f3.f0) ((rd_T35 l0 x8_1).f3.f3.f1) ((rd_T35 l0 x8_1).f4.f0) ((rd_T35 l0 x8_1).f4.f1.f0) ((rd_T35 l0 x8_1).f4.f1.f1) ((rd_T35 l0 x8_1).f4.f2.f0) ((rd_T35 l0 x8_1).f4.f2.f1.f0) ((rd_T35 l0 x8_1).f4.f2.f1.f1) ((rd_T35 l0 x8_1).f4.f2.f2) g1_0 A1_0 c1_0 l1_0 g1_1 a1_1 true _ ?side1 ?side2 ?side3 ?side4 A6.out).mono ?_); (case side1 => repeat (first | exact (Kd.C_below HR1_0.out HB.out) | (with_reducible refine Kd.C_alloc ?_ _) | (with_reducible refine Kd.C_drewN ?_ _) | (with_reducible refine Kd.C_drew ?_))); (case side2 => exact HC1_0.out); (case side3 => exact blf_); (case side4 => exact blf_); rintro e w8 ⟨rfl, hb⟩; have n0_ := zM (blk_below (g := g1_0) (o := .cells #[.slice A1_0 l1_0.length c1_0] 42 (0, 0)) blk_ hb); have n1_ := zM (blk_below (g := g1_1) (o := .cells #[.int .i64 a1_1] 3 (0, 0)) blk_ hb); have n2_ := zM (zB bel_ hb); clear BK50; clear BK51; clear HB; have BK50 := n0_; have BK51 := n1_; have HB := n2_; clear n0_ n1_ n2_; (try clear hb); (try clear hb2); (try clear hk); (try clear hi)))
      go_ret
      exact ⟨by first | rfl | (simp [errW_none, errW_some] <;> rfl) | (simp [*, errW_none, errW_some] <;> rfl), bel_⟩
    replace c7 := Bool.eq_false_iff.mpr c7
    subst c7
    have H1 : (api_Event.l0 k1 l0 (l0.length : Int) (wrap64 (x8_1 + 1)) l1_0 a1_1) = some r := by rw [if_neg (show ¬ (false = true) by decide)] at H; exact H
    clear H
    have H := H1
    clear H1
    have H' := zM H
    clear H
    have p114 : 0 ≤ (x8_1 : Int) := of_decide_eq_true (by first | (with_reducible assumption) | assumption)
    have q114 : x8_1 < (l0.length : Int) := of_decide_eq_true (by first | (with_reducible assumption) | assumption)
    obtain ⟨ad114, e114, hx114_0, hx114_1, hx114_2, hx114_3, hx114_4, hx114_5, hx114_6, hx114_7, hx114_8, hx114_9, hx114_10, hx114_11, hx114_12, hx114_13, hx114_14⟩ := at_T35 HR0.out x8_1 p114 q114
    cases e114
    replace hx114_0 := (HB.out.cell (World.block_lt_of_cell? w _ hx114_0)).trans hx114_0
    replace hx114_1 := (HB.out.cell (World.block_lt_of_cell? w _ hx114_1)).trans hx114_1
    replace hx114_2 := (HB.out.cell (World.block_lt_of_cell? w _ hx114_2)).trans hx114_2
    replace hx114_3 := (HB.out.cell (World.block_lt_of_cell? w _ hx114_3)).trans hx114_3
    replace hx114_4 := (HB.out.cell (World.block_lt_of_cell? w _ hx114_4)).trans hx114_4
    replace hx114_5 := (HB.out.cell (World.block_lt_of_cell? w _ hx114_5)).trans hx114_5
    replace hx114_6 := (HB.out.cell (World.block_lt_of_cell? w _ hx114_6)).trans hx114_6
    replace hx114_7 := (HB.out.cell (World.block_lt_of_cell? w _ hx114_7)).trans hx114_7
    replace hx114_8 := (HB.out.cell (World.block_lt_of_cell? w _ hx114_8)).trans hx114_8
    replace hx114_9 := (HB.out.cell (World.block_lt_of_cell? w _ hx114_9)).trans hx114_9
    replace hx114_10 := (HB.out.cell (World.block_lt_of_cell? w _ hx114_10)).trans hx114_10
    replace hx114_11 := (HB.out.cell (World.block_lt_of_cell? w _ hx114_11)).trans hx114_11
    replace hx114_12 := (HB.out.cell (World.block_lt_of_cell? w _ hx114_12)).trans hx114_12
    replace hx114_13 := (HB.out.cell (World.block_lt_of_cell? w _ hx114_13)).trans hx114_13
    replace hx114_14 := (HB.out.cell (World.block_lt_of_cell? w _ hx114_14)).trans hx114_14
    replace p114 := eq_true p114
    replace q114 := eq_true q114
    go_wp2_with (first | ((with_reducible refine gld_ (t := 35) ?_); (try (refine gate_guard (by rfl) ?_; dsimp only)); first | refine wl15_ rfl 35 _ rfl rfl Try.underlying35 rfl (by kernel_rfl) ?_ | refine wlr15_ rfl 35 _ rfl rfl Try.underlying35 rfl (by kernel_rfl) ?_) | ((with_reducible refine gst_ (t := 35) ?_); refine ws15_ rfl 35 _ _ rfl rfl rfl (by kernel_rfl) ?_) | (go_at_call 31; (with_reducible refine (past_Source_1.calls ((rd_T35 l0 x8_1).f0) ((rd_T35 l0 x8_1).f1) ((rd_T35 l0 x8_1).f2) ((rd_T35 l0 x8_1).f3.f0) ((rd_T35 l0 x8_1).f3.f1) ((rd_T35 l0 x8_1).f3.f2) ((rd_T35 l0 x8_1).f3.f3.f0) ((rd_T35 l0 x8_1).f3.f3.f1) ((rd_T35 l0 x8_1).f4.f0) ((rd_T35 l0 x8_1).f4.f1.f0) ((rd_T35 l0 x8_1).f4.f1.f1) ((rd_T35 l0 x8_1).f4.f2.f0) ((rd_T35 l0 x8_1).f4.f2.f1.f0) ((rd_T35 l0 x8_1).f4.f2.f1.f1) ((rd_T35 l0 x8_1).f4.f2.f2) g1_0 A1_0 c1_0 l1_0 g1_1 a1_1 false _ ?side1 ?side2 ?side3 ?side4 A6.out).mono ?_); (case side1 => repeat (first | exact (Kd.C_below HR1_0.out HB.out) | (with_reducible refine Kd.C_alloc ?_ _) | (with_reducible refine Kd.C_drewN ?_ _) | (with_reducible refine Kd.C_drew ?_))); (case side2 => exact HC1_0.out); (case side3 => exact blf_); (case side4 => exact blf_); rintro e w9 ⟨rfl, hb⟩; have n0_ := zM (blk_below (g := g1_0) (o := .cells #[.slice A1_0 l1_0.length c1_0] 42 (0, 0)) blk_ hb); have n1_ := zM (blk_below (g := g1_1) (o := .cells #[.int .i64 a1_1] 3 (0, 0)) blk_ hb); have n2_ := zM (zB bel_ hb); clear BK50; clear BK51; clear HB; have BK50 := n0_; have BK51 := n1_; have HB := n2_; clear n0_ n1_ n2_; (try clear hb); (try clear hb2); (try clear hk); (try clear hi)))
    go_roundg k1
    case measure => have := HK1.out; omega
    case rel => exact ⟨(wrap64 (x8_1 + 1)), (by first | rfl | (simp; done) | (simp [*]; done) | (simp; grind)), H', ⟨by have := HK1.out; omega⟩, ⟨blf_⟩, ⟨blf_⟩, ⟨bel_⟩⟩
/-! ### past_Source: function 13 -/
def past_Source.f (k : Nat) (l0 : List (S35)) (a1 : Int) : Option (Int) := if a1 < 0 then (some (-1)) else (if a1 ≥ (l0.length : Int) then (some (-1)) else (if 0 ≤ a1 then (if a1 < (l0.length : Int) then (if ((rd_T35 l0 a1).f3.f0) = 0 then ((past_Well.f ((rd_T35 l0 a1).f0) ((rd_T35 l0 a1).f1) ((rd_T35 l0 a1).f2) ((rd_T35 l0 a1).f3.f0) ((rd_T35 l0 a1).f3.f1) ((rd_T35 l0 a1).f3.f2) ((rd_T35 l0 a1).f3.f3.f0) ((rd_T35 l0 a1).f3.f3.f1) ((rd_T35 l0 a1).f4.f0) ((rd_T35 l0 a1).f4.f1.f0) ((rd_T35 l0 a1).f4.f1.f1) ((rd_T35 l0 a1).f4.f2.f0) ((rd_T35 l0 a1).f4.f2.f1.f0) ((rd_T35 l0 a1).f4.f2.f1.f1) ((rd_T35 l0 a1).f4.f2.f2)).bind fun t120 => (if t120 = true then (if (((rd_T35 l0 a1).f4.f2.f1.f0) == 0 && (((rd_T35 l0 a1).f4.f2.f1.f1) == 0)) = true then (some (-1)) else ((api_Event.f k l0 l0 a1).bind fun t122 => (some t122))) else (some (-1)))) else (some (-1))) else (none)) else (none)))
theorem past_Source.mono : ∀ a0 a1 k, LeO (past_Source.f k a0 a1) (past_Source.f (k + 1) a0 a1) := by
  intro a0 a1 k
  unfold past_Source.f
  repeat' first
      | (with_reducible exact api_Event.mono _ _ _ _)
      | (with_reducible exact LeO.refl _)
      | (with_reducible exact LeO.none _)
      | (with_reducible refine LeO.ite ?_ ?_)
      | (with_reducible refine LeO.bind ?_ (fun _ => ?_))
      | exact api_Event.mono _ _ _ _
      | exact LeO.none _
      | refine LeO.ite ?_ ?_
      | refine LeO.bind ?_ (fun _ => ?_)
set_option maxHeartbeats 8000000 in
set_option maxRecDepth 100000 in
theorem past_Source.calls (k : Nat) (A0 : Option Addr) (c0 : Nat) (l0 : List (S35)) (a1 : Int) (r : Int) (w : World) (hr0 : Kd.C k35 w A0 l0.length l0) (hc0 : l0.length ≤ c0) (h : past_Source.f k l0 a1 = some r) :
    Calls Try.prog 13 #[.slice A0 l0.length c0, .int .i64 a1] w fun e w' => e = .returned (.int .i64 r) ∧ Below w.heap.size w w' := by
  have hu35 := Try.underlying35
  have hu29 := Try.underlying29
  have HR0 := zM hr0
  have HC0 := zM hc0
  clear hr0 hc0
  have HB := zM (Below.refl w.heap.size w)
  have H : (if a1 < 0 then (some (-1)) else (if a1 ≥ (l0.length : Int) then (some (-1)) else (if 0 ≤ a1 then (if a1 < (l0.length : Int) then (if ((rd_T35 l0 a1).f3.f0) = 0 then ((past_Well.f ((rd_T35 l0 a1).f0) ((rd_T35 l0 a1).f1) ((rd_T35 l0 a1).f2) ((rd_T35 l0 a1).f3.f0) ((rd_T35 l0 a1).f3.f1) ((rd_T35 l0 a1).f3.f2) ((rd_T35 l0 a1).f3.f3.f0) ((rd_T35 l0 a1).f3.f3.f1) ((rd_T35 l0 a1).f4.f0) ((rd_T35 l0 a1).f4.f1.f0) ((rd_T35 l0 a1).f4.f1.f1) ((rd_T35 l0 a1).f4.f2.f0) ((rd_T35 l0 a1).f4.f2.f1.f0) ((rd_T35 l0 a1).f4.f2.f1.f1) ((rd_T35 l0 a1).f4.f2.f2)).bind fun t120 => (if t120 = true then (if (((rd_T35 l0 a1).f4.f2.f1.f0) == 0 && (((rd_T35 l0 a1).f4.f2.f1.f1) == 0)) = true then (some (-1)) else ((api_Event.f k l0 l0 a1).bind fun t122 => (some t122))) else (some (-1)))) else (some (-1))) else (none)) else (none)))) = some r := h
  clear h
  by_cases c3 : a1 < 0
  · rw [if_pos c3] at H
    have c3b0 : decide (a1 < 0) = true := decide_eq_true c3
    clear c3
    obtain rfl := Option.some.inj H
    go_enter Try.func13, Try.ntmps13
    go_wp2_with (first | ((with_reducible refine gld_ (t := 35) ?_); (try (refine gate_guard (by rfl) ?_; dsimp only)); first | refine wl15_ rfl 35 _ rfl rfl Try.underlying35 rfl (by kernel_rfl) ?_ | refine wlr15_ rfl 35 _ rfl rfl Try.underlying35 rfl (by kernel_rfl) ?_) | ((with_reducible refine gst_ (t := 35) ?_); refine ws15_ rfl 35 _ _ rfl rfl rfl (by kernel_rfl) ?_) | ((with_reducible refine gate_dst (N := 2) rfl ?_); (try (refine gate_guard (by rfl) ?_; dsimp only)); refine box_event ?hg (N := 2) ?hd (cs := #[.slice A0 l0.length c0]) (t := 42) ?hr ?_; (case hd => rfl); (case hg => rfl); (case hr => first | (go_simp; done) | (go_simp; rfl)); intro gb116 hg w4 hbox hb; have BK116 := zM (hbox); have GW116 := zM (bs_ hg); have GE116 := zM (bs_ hg); replace HB := zM (zB bel_ hb); clear hb hbox hg) | ((with_reducible refine gate_dst (N := 3) rfl ?_); (try (refine gate_guard (by rfl) ?_; dsimp only)); refine box_event ?hg (N := 3) ?hd (cs := #[.int .i64 a1]) (t := 3) ?hr ?_; (case hd => rfl); (case hg => rfl); (case hr => first | (go_simp; done) | (go_simp; rfl)); intro gb117 hg w5 hbox hb; have BK117 := zM (hbox); have GW117 := zM (bs_ hg); have GE117 := zM (bs_ hg); replace HB := zM (zB bel_ hb); have NB116_117 := zM (nl_ BK116 hg); have NB117_116 := zM (ng_ BK116 hg); replace BK116 := zM (bb_ BK116 hb); clear hb hbox hg; have hnb6 := NB117_116.out; have hnc6 := NB116_117.out; have hcz7_0 : w5.cell? ⟨gb117, 0, none⟩ = some (.int .i64 a1) := (zL BK117.out 0).trans rfl; have hfz7_0 := zF BK117.out 0))
    go_ret
    exact ⟨by first | rfl | (simp [errW_none, errW_some] <;> rfl) | (simp [*, errW_none, errW_some] <;> rfl), bel_⟩
  rw [if_neg c3] at H
  have c3b0 : decide (a1 < 0) = false := decide_eq_false c3
  clear c3
  by_cases c8 : a1 ≥ (l0.length : Int)
  · rw [if_pos c8] at H
    have c8b0 : decide ((l0.length : Int) ≤ a1) = true := decide_eq_true c8
    clear c8
    obtain rfl := Option.some.inj H
    go_enter Try.func13, Try.ntmps13
    go_wp2_with (first | ((with_reducible refine gld_ (t := 35) ?_); (try (refine gate_guard (by rfl) ?_; dsimp only)); first | refine wl15_ rfl 35 _ rfl rfl Try.underlying35 rfl (by kernel_rfl) ?_ | refine wlr15_ rfl 35 _ rfl rfl Try.underlying35 rfl (by kernel_rfl) ?_) | ((with_reducible refine gst_ (t := 35) ?_); refine ws15_ rfl 35 _ _ rfl rfl rfl (by kernel_rfl) ?_) | ((with_reducible refine gate_dst (N := 2) rfl ?_); (try (refine gate_guard (by rfl) ?_; dsimp only)); refine box_event ?hg (N := 2) ?hd (cs := #[.slice A0 l0.length c0]) (t := 42) ?hr ?_; (case hd => rfl); (case hg => rfl); (case hr => first | (go_simp; done) | (go_simp; rfl)); intro gb116 hg w9 hbox hb; have BK116 := zM (hbox); have GW116 := zM (bs_ hg); have GE116 := zM (bs_ hg); replace HB := zM (zB bel_ hb); clear hb hbox hg) | ((with_reducible refine gate_dst (N := 3) rfl ?_); (try (refine gate_guard (by rfl) ?_; dsimp only)); refine box_event ?hg (N := 3) ?hd (cs := #[.int .i64 a1]) (t := 3) ?hr ?_; (case hd => rfl); (case hg => rfl); (case hr => first | (go_simp; done) | (go_simp; rfl)); intro gb117 hg w10 hbox hb; have BK117 := zM (hbox); have GW117 := zM (bs_ hg); have GE117 := zM (bs_ hg); replace HB := zM (zB bel_ hb); have NB116_117 := zM (nl_ BK116 hg); have NB117_116 := zM (ng_ BK116 hg); replace BK116 := zM (bb_ BK116 hb); clear hb hbox hg; have hnb11 := NB117_116.out; have hnc11 := NB116_117.out; have hcz12_0 : w10.cell? ⟨gb117, 0, none⟩ = some (.int .i64 a1) := (zL BK117.out 0).trans rfl; have hfz12_0 := zF BK117.out 0; have hcz13_0 : w10.cell? ⟨gb116, 0, none⟩ = some (.slice A0 l0.length c0) := (zL BK116.out 0).trans rfl; have hfz13_0 := zF BK116.out 0))
    go_ret
    exact ⟨by first | rfl | (simp [errW_none, errW_some] <;> rfl) | (simp [*, errW_none, errW_some] <;> rfl), bel_⟩
  rw [if_neg c8] at H
  have c8b0 : decide ((l0.length : Int) ≤ a1) = false := decide_eq_false c8
  clear c8
  by_cases c14 : 0 ≤ a1
  rotate_left
  · rw [if_neg c14] at H
    exact absurd H (by simp)
  rw [if_pos c14] at H
  have c14b0 : decide (0 ≤ a1) = true := decide_eq_true c14
  clear c14
  by_cases c15 : a1 < (l0.length : Int)
  rotate_left
  · rw [if_neg c15] at H
    exact absurd H (by simp)
  rw [if_pos c15] at H
  have c15b0 : decide (a1 < (l0.length : Int)) = true := decide_eq_true c15
  clear c15
  by_cases c16 : ((rd_T35 l0 a1).f3.f0) = 0
  rotate_left
  · rw [if_neg c16] at H
    have c16b0 : (((rd_T35 l0 a1).f3.f0) == 0) = false := beq_eq_false_iff_ne.mpr c16
    have c16b1 : (((rd_T35 l0 a1).f3.f0) != 0) = true := bne_iff_ne.mpr c16
    obtain rfl := Option.some.inj H
    go_enter Try.func13, Try.ntmps13
    go_wp2_with (first | ((with_reducible refine gld_ (t := 35) ?_); (try (refine gate_guard (by rfl) ?_; dsimp only)); first | refine wl15_ rfl 35 _ rfl rfl Try.underlying35 rfl (by kernel_rfl) ?_ | refine wlr15_ rfl 35 _ rfl rfl Try.underlying35 rfl (by kernel_rfl) ?_) | ((with_reducible refine gst_ (t := 35) ?_); refine ws15_ rfl 35 _ _ rfl rfl rfl (by kernel_rfl) ?_) | ((with_reducible refine gate_dst (N := 2) rfl ?_); (try (refine gate_guard (by rfl) ?_; dsimp only)); refine box_event ?hg (N := 2) ?hd (cs := #[.slice A0 l0.length c0]) (t := 42) ?hr ?_; (case hd => rfl); (case hg => rfl); (case hr => first | (go_simp; done) | (go_simp; rfl)); intro gb116 hg w44 hbox hb; have BK116 := zM (hbox); have GW116 := zM (bs_ hg); have GE116 := zM (bs_ hg); replace HB := zM (zB bel_ hb); clear hb hbox hg) | ((with_reducible refine gate_dst (N := 3) rfl ?_); (try (refine gate_guard (by rfl) ?_; dsimp only)); refine box_event ?hg (N := 3) ?hd (cs := #[.int .i64 a1]) (t := 3) ?hr ?_; (case hd => rfl); (case hg => rfl); (case hr => first | (go_simp; done) | (go_simp; rfl)); intro gb117 hg w45 hbox hb; have BK117 := zM (hbox); have GW117 := zM (bs_ hg); have GE117 := zM (bs_ hg); replace HB := zM (zB bel_ hb); have NB116_117 := zM (nl_ BK116 hg); have NB117_116 := zM (ng_ BK116 hg); replace BK116 := zM (bb_ BK116 hb); clear hb hbox hg; have hnb46 := NB117_116.out; have hnc46 := NB116_117.out; have hcz47_0 : w45.cell? ⟨gb117, 0, none⟩ = some (.int .i64 a1) := (zL BK117.out 0).trans rfl; have hfz47_0 := zF BK117.out 0; have hcz48_0 : w45.cell? ⟨gb116, 0, none⟩ = some (.slice A0 l0.length c0) := (zL BK116.out 0).trans rfl; have hfz48_0 := zF BK116.out 0; have p118 : 0 ≤ (a1 : Int) := of_decide_eq_true (by first | (with_reducible assumption) | assumption); have q118 : a1 < (l0.length : Int) := of_decide_eq_true (by first | (with_reducible assumption) | assumption); obtain ⟨ad118, e118, hx118_0, hx118_1, hx118_2, hx118_3, hx118_4, hx118_5, hx118_6, hx118_7, hx118_8, hx118_9, hx118_10, hx118_11, hx118_12, hx118_13, hx118_14⟩ := at_T35 HR0.out a1 p118 q118; cases e118; replace hx118_0 := (HB.out.cell (World.block_lt_of_cell? w _ hx118_0)).trans hx118_0; replace hx118_1 := (HB.out.cell (World.block_lt_of_cell? w _ hx118_1)).trans hx118_1; replace hx118_2 := (HB.out.cell (World.block_lt_of_cell? w _ hx118_2)).trans hx118_2; replace hx118_3 := (HB.out.cell (World.block_lt_of_cell? w _ hx118_3)).trans hx118_3; replace hx118_4 := (HB.out.cell (World.block_lt_of_cell? w _ hx118_4)).trans hx118_4; replace hx118_5 := (HB.out.cell (World.block_lt_of_cell? w _ hx118_5)).trans hx118_5; replace hx118_6 := (HB.out.cell (World.block_lt_of_cell? w _ hx118_6)).trans hx118_6; replace hx118_7 := (HB.out.cell (World.block_lt_of_cell? w _ hx118_7)).trans hx118_7; replace hx118_8 := (HB.out.cell (World.block_lt_of_cell? w _ hx118_8)).trans hx118_8; replace hx118_9 := (HB.out.cell (World.block_lt_of_cell? w _ hx118_9)).trans hx118_9; replace hx118_10 := (HB.out.cell (World.block_lt_of_cell? w _ hx118_10)).trans hx118_10; replace hx118_11 := (HB.out.cell (World.block_lt_of_cell? w _ hx118_11)).trans hx118_11; replace hx118_12 := (HB.out.cell (World.block_lt_of_cell? w _ hx118_12)).trans hx118_12; replace hx118_13 := (HB.out.cell (World.block_lt_of_cell? w _ hx118_13)).trans hx118_13; replace hx118_14 := (HB.out.cell (World.block_lt_of_cell? w _ hx118_14)).trans hx118_14; replace p118 := eq_true p118; replace q118 := eq_true q118))
    go_ret
    exact ⟨by first | rfl | (simp [errW_none, errW_some] <;> rfl) | (simp [*, errW_none, errW_some] <;> rfl), bel_⟩
  rw [if_pos c16] at H
  have c16b0 : (((rd_T35 l0 a1).f3.f0) == 0) = true := beq_iff_eq.mpr c16
  have c16b1 : (((rd_T35 l0 a1).f3.f0) != 0) = false := bne_eq_false_iff_eq.mpr c16
  clear c16
  replace H := Option.bind_eq_some_iff.mp H
  obtain ⟨t120, A170, H⟩ := H
  replace H : (if t120 = true then (if (((rd_T35 l0 a1).f4.f2.f1.f0) == 0 && (((rd_T35 l0 a1).f4.f2.f1.f1) == 0)) = true then (some (-1)) else ((api_Event.f k l0 l0 a1).bind fun t122 => (some t122))) else (some (-1))) = some r := H
  have A17 := zM A170
  clear A170
  by_cases c18 : t120 = true
  rotate_left
  · replace c18 := Bool.eq_false_iff.mpr c18
    subst c18
    have H1 : (some (-1)) = some r := by rw [if_neg (show ¬ (false = true) by decide)] at H; exact H
    clear H
    have H := H1
    clear H1
    obtain rfl := Option.some.inj H
    go_enter Try.func13, Try.ntmps13
    go_wp2_with (first | ((with_reducible refine gld_ (t := 35) ?_); (try (refine gate_guard (by rfl) ?_; dsimp only)); first | refine wl15_ rfl 35 _ rfl rfl Try.underlying35 rfl (by kernel_rfl) ?_ | refine wlr15_ rfl 35 _ rfl rfl Try.underlying35 rfl (by kernel_rfl) ?_) | ((with_reducible refine gst_ (t := 35) ?_); refine ws15_ rfl 35 _ _ rfl rfl rfl (by kernel_rfl) ?_) | ((with_reducible refine gate_dst (N := 2) rfl ?_); (try (refine gate_guard (by rfl) ?_; dsimp only)); refine box_event ?hg (N := 2) ?hd (cs := #[.slice A0 l0.length c0]) (t := 42) ?hr ?_; (case hd => rfl); (case hg => rfl); (case hr => first | (go_simp; done) | (go_simp; rfl)); intro gb116 hg w38 hbox hb; have BK116 := zM (hbox); have GW116 := zM (bs_ hg); have GE116 := zM (bs_ hg); replace HB := zM (zB bel_ hb); clear hb hbox hg) | ((with_reducible refine gate_dst (N := 3) rfl ?_); (try (refine gate_guard (by rfl) ?_; dsimp only)); refine box_event ?hg (N := 3) ?hd (cs := #[.int .i64 a1]) (t := 3) ?hr ?_; (case hd => rfl); (case hg => rfl); (case hr => first | (go_simp; done) | (go_simp; rfl)); intro gb117 hg w39 hbox hb; have BK117 := zM (hbox); have GW117 := zM (bs_ hg); have GE117 := zM (bs_ hg); replace HB := zM (zB bel_ hb); have NB116_117 := zM (nl_ BK116 hg); have NB117_116 := zM (ng_ BK116 hg); replace BK116 := zM (bb_ BK116 hb); clear hb hbox hg; have hnb40 := NB117_116.out; have hnc40 := NB116_117.out; have hcz41_0 : w39.cell? ⟨gb117, 0, none⟩ = some (.int .i64 a1) := (zL BK117.out 0).trans rfl; have hfz41_0 := zF BK117.out 0; have hcz42_0 : w39.cell? ⟨gb116, 0, none⟩ = some (.slice A0 l0.length c0) := (zL BK116.out 0).trans rfl; have hfz42_0 := zF BK116.out 0; have p118 : 0 ≤ (a1 : Int) := of_decide_eq_true (by first | (with_reducible assumption) | assumption); have q118 : a1 < (l0.length : Int) := of_decide_eq_true (by first | (with_reducible assumption) | assumption); obtain ⟨ad118, e118, hx118_0, hx118_1, hx118_2, hx118_3, hx118_4, hx118_5, hx118_6, hx118_7, hx118_8, hx118_9, hx118_10, hx118_11, hx118_12, hx118_13, hx118_14⟩ := at_T35 HR0.out a1 p118 q118; cases e118; replace hx118_0 := (HB.out.cell (World.block_lt_of_cell? w _ hx118_0)).trans hx118_0; replace hx118_1 := (HB.out.cell (World.block_lt_of_cell? w _ hx118_1)).trans hx118_1; replace hx118_2 := (HB.out.cell (World.block_lt_of_cell? w _ hx118_2)).trans hx118_2; replace hx118_3 := (HB.out.cell (World.block_lt_of_cell? w _ hx118_3)).trans hx118_3; replace hx118_4 := (HB.out.cell (World.block_lt_of_cell? w _ hx118_4)).trans hx118_4; replace hx118_5 := (HB.out.cell (World.block_lt_of_cell? w _ hx118_5)).trans hx118_5; replace hx118_6 := (HB.out.cell (World.block_lt_of_cell? w _ hx118_6)).trans hx118_6; replace hx118_7 := (HB.out.cell (World.block_lt_of_cell? w _ hx118_7)).trans hx118_7; replace hx118_8 := (HB.out.cell (World.block_lt_of_cell? w _ hx118_8)).trans hx118_8; replace hx118_9 := (HB.out.cell (World.block_lt_of_cell? w _ hx118_9)).trans hx118_9; replace hx118_10 := (HB.out.cell (World.block_lt_of_cell? w _ hx118_10)).trans hx118_10; replace hx118_11 := (HB.out.cell (World.block_lt_of_cell? w _ hx118_11)).trans hx118_11; replace hx118_12 := (HB.out.cell (World.block_lt_of_cell? w _ hx118_12)).trans hx118_12; replace hx118_13 := (HB.out.cell (World.block_lt_of_cell? w _ hx118_13)).trans hx118_13; replace hx118_14 := (HB.out.cell (World.block_lt_of_cell? w _ hx118_14)).trans hx118_14; replace p118 := eq_true p118; replace q118 := eq_true q118; have p119 : 0 ≤ (a1 : Int) := of_decide_eq_true (by first | (with_reducible assumption) | assumption); have q119 : a1 < (l0.length : Int) := of_decide_eq_true (by first | (with_reducible assumption) | assumption); obtain ⟨ad119, e119, hx119_0, hx119_1, hx119_2, hx119_3, hx119_4, hx119_5, hx119_6, hx119_7, hx119_8, hx119_9, hx119_10, hx119_11, hx119_12, hx119_13, hx119_14⟩ := at_T35 HR0.out a1 p119 q119; obtain rfl : ad118 = ad119 := (by injection e119); replace hx119_0 := (HB.out.cell (World.block_lt_of_cell? w _ hx119_0)).trans hx119_0; replace hx119_1 := (HB.out.cell (World.block_lt_of_cell? w _ hx119_1)).trans hx119_1; replace hx119_2 := (HB.out.cell (World.block_lt_of_cell? w _ hx119_2)).trans hx119_2; replace hx119_3 := (HB.out.cell (World.block_lt_of_cell? w _ hx119_3)).trans hx119_3; replace hx119_4 := (HB.out.cell (World.block_lt_of_cell? w _ hx119_4)).trans hx119_4; replace hx119_5 := (HB.out.cell (World.block_lt_of_cell? w _ hx119_5)).trans hx119_5; replace hx119_6 := (HB.out.cell (World.block_lt_of_cell? w _ hx119_6)).trans hx119_6; replace hx119_7 := (HB.out.cell (World.block_lt_of_cell? w _ hx119_7)).trans hx119_7; replace hx119_8 := (HB.out.cell (World.block_lt_of_cell? w _ hx119_8)).trans hx119_8; replace hx119_9 := (HB.out.cell (World.block_lt_of_cell? w _ hx119_9)).trans hx119_9; replace hx119_10 := (HB.out.cell (World.block_lt_of_cell? w _ hx119_10)).trans hx119_10; replace hx119_11 := (HB.out.cell (World.block_lt_of_cell? w _ hx119_11)).trans hx119_11; replace hx119_12 := (HB.out.cell (World.block_lt_of_cell? w _ hx119_12)).trans hx119_12; replace hx119_13 := (HB.out.cell (World.block_lt_of_cell? w _ hx119_13)).trans hx119_13; replace hx119_14 := (HB.out.cell (World.block_lt_of_cell? w _ hx119_14)).trans hx119_14; replace p119 := eq_true p119; replace q119 := eq_true q119) | (go_at_call 11; (with_reducible refine (past_Well.calls ((rd_T35 l0 a1).f0) ((rd_T35 l0 a1).f1) ((rd_T35 l0 a1).f2) ((rd_T35 l0 a1).f3.f0) ((rd_T35 l0 a1).f3.f1) ((rd_T35 l0 a1).f3.f2) ((rd_T35 l0 a1).f3.f3.f0) ((rd_T35 l0 a1).f3.f3.f1) ((rd_T35 l0 a1).f4.f0) ((rd_T35 l0 a1).f4.f1.f0) ((rd_T35 l0 a1).f4.f1.f1) ((rd_T35 l0 a1).f4.f2.f0) ((rd_T35 l0 a1).f4.f2.f1.f0) ((rd_T35 l0 a1).f4.f2.f1.f1) ((rd_T35 l0 a1).f4.f2.f2) false _ A17.out).mono ?_); rintro e w43 ⟨rfl, hb⟩; replace BK116 := zM (bb_ BK116 hb); replace BK117 := zM (bb_ BK117 hb); replace HB := zM (zB bel_ hb); (try clear hb); (try clear hb2); (try clear hk); (try clear hi)))
    go_ret
    exact ⟨by first | rfl | (simp [errW_none, errW_some] <;> rfl) | (simp [*, errW_none, errW_some] <;> rfl), bel_⟩
  subst c18
  have H1 : (if (((rd_T35 l0 a1).f4.f2.f1.f0) == 0 && (((rd_T35 l0 a1).f4.f2.f1.f1) == 0)) = true then (some (-1)) else ((api_Event.f k l0 l0 a1).bind fun t122 => (some t122))) = some r := by rw [if_pos rfl] at H; exact H
  clear H
  have H := H1
  clear H1
  by_cases c19 : (((rd_T35 l0 a1).f4.f2.f1.f0) == 0 && (((rd_T35 l0 a1).f4.f2.f1.f1) == 0)) = true
  · rw [if_pos c19] at H
    have c19b0 : (((rd_T35 l0 a1).f4.f2.f1.f0) == 0 && (((rd_T35 l0 a1).f4.f2.f1.f1) == 0)) = true := c19
    (try (have c19b1 : decide (((rd_T35 l0 a1).f4.f2.f1.f0) = 0 && (((rd_T35 l0 a1).f4.f2.f1.f1) == 0)) = true := by simpa using c19))
    (try (have c19b2 : (((rd_T35 l0 a1).f4.f2.f1.f0) == 0 && (((rd_T35 l0 a1).f4.f2.f1.f1) == 0)) = true := by simpa using c19))
    clear c19
    obtain rfl := Option.some.inj H
    go_enter Try.func13, Try.ntmps13
    go_wp2_with (first | ((with_reducible refine gld_ (t := 35) ?_); (try (refine gate_guard (by rfl) ?_; dsimp only)); first | refine wl15_ rfl 35 _ rfl rfl Try.underlying35 rfl (by kernel_rfl) ?_ | refine wlr15_ rfl 35 _ rfl rfl Try.underlying35 rfl (by kernel_rfl) ?_) | ((with_reducible refine gst_ (t := 35) ?_); refine ws15_ rfl 35 _ _ rfl rfl rfl (by kernel_rfl) ?_) | ((with_reducible refine gate_dst (N := 2) rfl ?_); (try (refine gate_guard (by rfl) ?_; dsimp only)); refine box_event ?hg (N := 2) ?hd (cs := #[.slice A0 l0.length c0]) (t := 42) ?hr ?_; (case hd => rfl); (case hg => rfl); (case hr => first | (go_simp; done) | (go_simp; rfl)); intro gb116 hg w20 hbox hb; have BK116 := zM (hbox); have GW116 := zM (bs_ hg); have GE116 := zM (bs_ hg); replace HB := zM (zB bel_ hb); clear hb hbox hg) | ((with_reducible refine gate_dst (N := 3) rfl ?_); (try (refine gate_guard (by rfl) ?_; dsimp only)); refine box_event ?hg (N := 3) ?hd (cs := #[.int .i64 a1]) (t := 3) ?hr ?_; (case hd => rfl); (case hg => rfl); (case hr => first | (go_simp; done) | (go_simp; rfl)); intro gb117 hg w21 hbox hb; have BK117 := zM (hbox); have GW117 := zM (bs_ hg); have GE117 := zM (bs_ hg); replace HB := zM (zB bel_ hb); have NB116_117 := zM (nl_ BK116 hg); have NB117_116 := zM (ng_ BK116 hg); replace BK116 := zM (bb_ BK116 hb); clear hb hbox hg; have hnb22 := NB117_116.out; have hnc22 := NB116_117.out; have hcz23_0 : w21.cell? ⟨gb117, 0, none⟩ = some (.int .i64 a1) := (zL BK117.out 0).trans rfl; have hfz23_0 := zF BK117.out 0; have hcz24_0 : w21.cell? ⟨gb116, 0, none⟩ = some (.slice A0 l0.length c0) := (zL BK116.out 0).trans rfl; have hfz24_0 := zF BK116.out 0; have p118 : 0 ≤ (a1 : Int) := of_decide_eq_true (by first | (with_reducible assumption) | assumption); have q118 : a1 < (l0.length : Int) := of_decide_eq_true (by first | (with_reducible assumption) | assumption); obtain ⟨ad118, e118, hx118_0, hx118_1, hx118_2, hx118_3, hx118_4, hx118_5, hx118_6, hx118_7, hx118_8, hx118_9, hx118_10, hx118_11, hx118_12, hx118_13, hx118_14⟩ := at_T35 HR0.out a1 p118 q118; cases e118; replace hx118_0 := (HB.out.cell (World.block_lt_of_cell? w _ hx118_0)).trans hx118_0; replace hx118_1 := (HB.out.cell (World.block_lt_of_cell? w _ hx118_1)).trans hx118_1; replace hx118_2 := (HB.out.cell (World.block_lt_of_cell? w _ hx118_2)).trans hx118_2; replace hx118_3 := (HB.out.cell (World.block_lt_of_cell? w _ hx118_3)).trans hx118_3; replace hx118_4 := (HB.out.cell (World.block_lt_of_cell? w _ hx118_4)).trans hx118_4; replace hx118_5 := (HB.out.cell (World.block_lt_of_cell? w _ hx118_5)).trans hx118_5; replace hx118_6 := (HB.out.cell (World.block_lt_of_cell? w _ hx118_6)).trans hx118_6; replace hx118_7 := (HB.out.cell (World.block_lt_of_cell? w _ hx118_7)).trans hx118_7; replace hx118_8 := (HB.out.cell (World.block_lt_of_cell? w _ hx118_8)).trans hx118_8; replace hx118_9 := (HB.out.cell (World.block_lt_of_cell? w _ hx118_9)).trans hx118_9; replace hx118_10 := (HB.out.cell (World.block_lt_of_cell? w _ hx118_10)).trans hx118_10; replace hx118_11 := (HB.out.cell (World.block_lt_of_cell? w _ hx118_11)).trans hx118_11; replace hx118_12 := (HB.out.cell (World.block_lt_of_cell? w _ hx118_12)).trans hx118_12; replace hx118_13 := (HB.out.cell (World.block_lt_of_cell? w _ hx118_13)).trans hx118_13; replace hx118_14 := (HB.out.cell (World.block_lt_of_cell? w _ hx118_14)).trans hx118_14; replace p118 := eq_true p118; replace q118 := eq_true q118; have p119 : 0 ≤ (a1 : Int) := of_decide_eq_true (by first | (with_reducible assumption) | assumption); have q119 : a1 < (l0.length : Int) := of_decide_eq_true (by first | (with_reducible assumption) | assumption); obtain ⟨ad119, e119, hx119_0, hx119_1, hx119_2, hx119_3, hx119_4, hx119_5, hx119_6, hx119_7, hx119_8, hx119_9, hx119_10, hx119_11, hx119_12, hx119_13, hx119_14⟩ := at_T35 HR0.out a1 p119 q119; obtain rfl : ad118 = ad119 := (by injection e119); replace hx119_0 := (HB.out.cell (World.block_lt_of_cell? w _ hx119_0)).trans hx119_0; replace hx119_1 := (HB.out.cell (World.block_lt_of_cell? w _ hx119_1)).trans hx119_1; replace hx119_2 := (HB.out.cell (World.block_lt_of_cell? w _ hx119_2)).trans hx119_2; replace hx119_3 := (HB.out.cell (World.block_lt_of_cell? w _ hx119_3)).trans hx119_3; replace hx119_4 := (HB.out.cell (World.block_lt_of_cell? w _ hx119_4)).trans hx119_4; replace hx119_5 := (HB.out.cell (World.block_lt_of_cell? w _ hx119_5)).trans hx119_5; replace hx119_6 := (HB.out.cell (World.block_lt_of_cell? w _ hx119_6)).trans hx119_6; replace hx119_7 := (HB.out.cell (World.block_lt_of_cell? w _ hx119_7)).trans hx119_7; replace hx119_8 := (HB.out.cell (World.block_lt_of_cell? w _ hx119_8)).trans hx119_8; replace hx119_9 := (HB.out.cell (World.block_lt_of_cell? w _ hx119_9)).trans hx119_9; replace hx119_10 := (HB.out.cell (World.block_lt_of_cell? w _ hx119_10)).trans hx119_10; replace hx119_11 := (HB.out.cell (World.block_lt_of_cell? w _ hx119_11)).trans hx119_11; replace hx119_12 := (HB.out.cell (World.block_lt_of_cell? w _ hx119_12)).trans hx119_12; replace hx119_13 := (HB.out.cell (World.block_lt_of_cell? w _ hx119_13)).trans hx119_13; replace hx119_14 := (HB.out.cell (World.block_lt_of_cell? w _ hx119_14)).trans hx119_14; replace p119 := eq_true p119; replace q119 := eq_true q119) | (go_at_call 11; (with_reducible refine (past_Well.calls ((rd_T35 l0 a1).f0) ((rd_T35 l0 a1).f1) ((rd_T35 l0 a1).f2) ((rd_T35 l0 a1).f3.f0) ((rd_T35 l0 a1).f3.f1) ((rd_T35 l0 a1).f3.f2) ((rd_T35 l0 a1).f3.f3.f0) ((rd_T35 l0 a1).f3.f3.f1) ((rd_T35 l0 a1).f4.f0) ((rd_T35 l0 a1).f4.f1.f0) ((rd_T35 l0 a1).f4.f1.f1) ((rd_T35 l0 a1).f4.f2.f0) ((rd_T35 l0 a1).f4.f2.f1.f0) ((rd_T35 l0 a1).f4.f2.f1.f1) ((rd_T35 l0 a1).f4.f2.f2) true _ A17.out).mono ?_); rintro e w25 ⟨rfl, hb⟩; replace BK116 := zM (bb_ BK116 hb); replace BK117 := zM (bb_ BK117 hb); replace HB := zM (zB bel_ hb); (try clear hb); (try clear hb2); (try clear hk); (try clear hi); have hcz26_0 : w25.cell? ⟨gb116, 0, none⟩ = some (.slice (some ad118) l0.length c0) := (zL BK116.out 0).trans rfl; have hfz26_0 := zF BK116.out 0; have hcz27_0 : w25.cell? ⟨gb117, 0, none⟩ = some (.int .i64 a1) := (zL BK117.out 0).trans rfl; have hfz27_0 := zF BK117.out 0; have p121 : 0 ≤ (a1 : Int) := of_decide_eq_true (by first | (with_reducible assumption) | assumption); have q121 : a1 < (l0.length : Int) := of_decide_eq_true (by first | (with_reducible assumption) | assumption); obtain ⟨ad121, e121, hx121_0, hx121_1, hx121_2, hx121_3, hx121_4, hx121_5, hx121_6, hx121_7, hx121_8, hx121_9, hx121_10, hx121_11, hx121_12, hx121_13, hx121_14⟩ := at_T35 HR0.out a1 p121 q121; obtain rfl : ad118 = ad121 := (by injection e121); replace hx121_0 := (HB.out.cell (World.block_lt_of_cell? w _ hx121_0)).trans hx121_0; replace hx121_1 := (HB.out.cell (World.block_lt_of_cell? w _ hx121_1)).trans hx121_1; replace hx121_2 := (HB.out.cell (World.block_lt_of_cell? w _ hx121_2)).trans hx121_2; replace hx121_3 := (HB.out.cell (World.block_lt_of_cell? w _ hx121_3)).trans hx121_3; replace hx121_4 := (HB.out.cell (World.block_lt_of_cell? w _ hx121_4)).trans hx121_4; replace hx121_5 := (HB.out.cell (World.block_lt_of_cell? w _ hx121_5)).trans hx121_5; replace hx121_6 := (HB.out.cell (World.block_lt_of_cell? w _ hx121_6)).trans hx121_6; replace hx121_7 := (HB.out.cell (World.block_lt_of_cell? w _ hx121_7)).trans hx121_7; replace hx121_8 := (HB.out.cell (World.block_lt_of_cell? w _ hx121_8)).trans hx121_8; replace hx121_9 := (HB.out.cell (World.block_lt_of_cell? w _ hx121_9)).trans hx121_9; replace hx121_10 := (HB.out.cell (World.block_lt_of_cell? w _ hx121_10)).trans hx121_10; replace hx121_11 := (HB.out.cell (World.block_lt_of_cell? w _ hx121_11)).trans hx121_11; replace hx121_12 := (HB.out.cell (World.block_lt_of_cell? w _ hx121_12)).trans hx121_12; replace hx121_13 := (HB.out.cell (World.block_lt_of_cell? w _ hx121_13)).trans hx121_13; replace hx121_14 := (HB.out.cell (World.block_lt_of_cell? w _ hx121_14)).trans hx121_14; replace p121 := eq_true p121; replace q121 := eq_true q121))
    go_ret
    exact ⟨by first | rfl | (simp [errW_none, errW_some] <;> rfl) | (simp [*, errW_none, errW_some] <;> rfl), bel_⟩
  rw [if_neg c19] at H
  have c19b0 : (((rd_T35 l0 a1).f4.f2.f1.f0) == 0 && (((rd_T35 l0 a1).f4.f2.f1.f1) == 0)) = false := by simpa using c19
  (try (have c19b1 : decide (((rd_T35 l0 a1).f4.f2.f1.f0) = 0 && (((rd_T35 l0 a1).f4.f2.f1.f1) == 0)) = false := by simpa using c19))
  (try (have c19b2 : (((rd_T35 l0 a1).f4.f2.f1.f0) == 0 && (((rd_T35 l0 a1).f4.f2.f1.f1) == 0)) = false := by simpa using c19))
  (try (have c19b3 : ¬ (((rd_T35 l0 a1).f4.f2.f1.f0) = 0 && (((rd_T35 l0 a1).f4.f2.f1.f1) == 0)) := by simpa using c19))
  clear c19
  replace H := Option.bind_eq_some_iff.mp H
  obtain ⟨t122, A280, H⟩ := H
  replace H : (some t122) = some r := H
  have A28 := zM A280
  clear A280
  obtain rfl := Option.some.inj H
  go_enter Try.func13, Try.ntmps13
  go_wp2_with (first | ((with_reducible refine gld_ (t := 35) ?_); (try (refine gate_guard (by rfl) ?_; dsimp only)); first | refine wl15_ rfl 35 _ rfl rfl Try.underlying35 rfl (by kernel_rfl) ?_ | refine wlr15_ rfl 35 _ rfl rfl Try.underlying35 rfl (by kernel_rfl) ?_) | ((with_reducible refine gst_ (t := 35) ?_); refine ws15_ rfl 35 _ _ rfl rfl rfl (by kernel_rfl) ?_) | ((with_reducible refine gate_dst (N := 2) rfl ?_); (try (refine gate_guard (by rfl) ?_; dsimp only)); refine box_event ?hg (N := 2) ?hd (cs := #[.slice A0 l0.length c0]) (t := 42) ?hr ?_; (case hd => rfl); (case hg => rfl); (case hr => first | (go_simp; done) | (go_simp; rfl)); intro gb116 hg w29 hbox hb; have BK116 := zM (hbox); have GW116 := zM (bs_ hg); have GE116 := zM (bs_ hg); replace HB := zM (zB bel_ hb); clear hb hbox hg) | ((with_reducible refine gate_dst (N := 3) rfl ?_); (try (refine gate_guard (by rfl) ?_; dsimp only)); refine box_event ?hg (N := 3) ?hd (cs := #[.int .i64 a1]) (t := 3) ?hr ?_; (case hd => rfl); (case hg => rfl); (case hr => first | (go_simp; done) | (go_simp; rfl)); intro gb117 hg w30 hbox hb; have BK117 := zM (hbox); have GW117 := zM (bs_ hg); have GE117 := zM (bs_ hg); replace HB := zM (zB bel_ hb); have NB116_117 := zM (nl_ BK116 hg); have NB117_116 := zM (ng_ BK116 hg); replace BK116 := zM (bb_ BK116 hb); clear hb hbox hg; have hnb31 := NB117_116.out; have hnc31 := NB116_117.out; have hcz32_0 : w30.cell? ⟨gb117, 0, none⟩ = some (.int .i64 a1) := (zL BK117.out 0).trans rfl; have hfz32_0 := zF BK117.out 0; have hcz33_0 : w30.cell? ⟨gb116, 0, none⟩ = some (.slice A0 l0.length c0) := (zL BK116.out 0).trans rfl; have hfz33_0 := zF BK116.out 0; have p118 : 0 ≤ (a1 : Int) := of_decide_eq_true (by first | (with_reducible assumption) | assumption); have q118 : a1 < (l0.length : Int) := of_decide_eq_true (by first | (with_reducible assumption) | assumption); obtain ⟨ad118, e118, hx118_0, hx118_1, hx118_2, hx118_3, hx118_4, hx118_5, hx118_6, hx118_7, hx118_8, hx118_9, hx118_10, hx118_11, hx118_12, hx118_13, hx118_14⟩ := at_T35 HR0.out a1 p118 q118; cases e118; replace hx118_0 := (HB.out.cell (World.block_lt_of_cell? w _ hx118_0)).trans hx118_0; replace hx118_1 := (HB.out.cell (World.block_lt_of_cell? w _ hx118_1)).trans hx118_1; replace hx118_2 := (HB.out.cell (World.block_lt_of_cell? w _ hx118_2)).trans hx118_2; replace hx118_3 := (HB.out.cell (World.block_lt_of_cell? w _ hx118_3)).trans hx118_3; replace hx118_4 := (HB.out.cell (World.block_lt_of_cell? w _ hx118_4)).trans hx118_4; replace hx118_5 := (HB.out.cell (World.block_lt_of_cell? w _ hx118_5)).trans hx118_5; replace hx118_6 := (HB.out.cell (World.block_lt_of_cell? w _ hx118_6)).trans hx118_6; replace hx118_7 := (HB.out.cell (World.block_lt_of_cell? w _ hx118_7)).trans hx118_7; replace hx118_8 := (HB.out.cell (World.block_lt_of_cell? w _ hx118_8)).trans hx118_8; replace hx118_9 := (HB.out.cell (World.block_lt_of_cell? w _ hx118_9)).trans hx118_9; replace hx118_10 := (HB.out.cell (World.block_lt_of_cell? w _ hx118_10)).trans hx118_10; replace hx118_11 := (HB.out.cell (World.block_lt_of_cell? w _ hx118_11)).trans hx118_11; replace hx118_12 := (HB.out.cell (World.block_lt_of_cell? w _ hx118_12)).trans hx118_12; replace hx118_13 := (HB.out.cell (World.block_lt_of_cell? w _ hx118_13)).trans hx118_13; replace hx118_14 := (HB.out.cell (World.block_lt_of_cell? w _ hx118_14)).trans hx118_14; replace p118 := eq_true p118; replace q118 := eq_true q118; have p119 : 0 ≤ (a1 : Int) := of_decide_eq_true (by first | (with_reducible assumption) | assumption); have q119 : a1 < (l0.length : Int) := of_decide_eq_true (by first | (with_reducible assumption) | assumption); obtain ⟨ad119, e119, hx119_0, hx119_1, hx119_2, hx119_3, hx119_4, hx119_5, hx119_6, hx119_7, hx119_8, hx119_9, hx119_10, hx119_11, hx119_12, hx119_13, hx119_14⟩ := at_T35 HR0.out a1 p119 q119; obtain rfl : ad118 = ad119 := (by injection e119); replace hx119_0 := (HB.out.cell (World.block_lt_of_cell? w _ hx119_0)).trans hx119_0; replace hx119_1 := (HB.out.cell (World.block_lt_of_cell? w _ hx119_1)).trans hx119_1; replace hx119_2 := (HB.out.cell (World.block_lt_of_cell? w _ hx119_2)).trans hx119_2; replace hx119_3 := (HB.out.cell (World.block_lt_of_cell? w _ hx119_3)).trans hx119_3; replace hx119_4 := (HB.out.cell (World.block_lt_of_cell? w _ hx119_4)).trans hx119_4; replace hx119_5 := (HB.out.cell (World.block_lt_of_cell? w _ hx119_5)).trans hx119_5; replace hx119_6 := (HB.out.cell (World.block_lt_of_cell? w _ hx119_6)).trans hx119_6; replace hx119_7 := (HB.out.cell (World.block_lt_of_cell? w _ hx119_7)).trans hx119_7; replace hx119_8 := (HB.out.cell (World.block_lt_of_cell? w _ hx119_8)).trans hx119_8; replace hx119_9 := (HB.out.cell (World.block_lt_of_cell? w _ hx119_9)).trans hx119_9; replace hx119_10 := (HB.out.cell (World.block_lt_of_cell? w _ hx119_10)).trans hx119_10; replace hx119_11 := (HB.out.cell (World.block_lt_of_cell? w _ hx119_11)).trans hx119_11; replace hx119_12 := (HB.out.cell (World.block_lt_of_cell? w _ hx119_12)).trans hx119_12; replace hx119_13 := (HB.out.cell (World.block_lt_of_cell? w _ hx119_13)).trans hx119_13; replace hx119_14 := (HB.out.cell (World.block_lt_of_cell? w _ hx119_14)).trans hx119_14; replace p119 := eq_true p119; replace q119 := eq_true q119) | (go_at_call 11; (with_reducible refine (past_Well.calls ((rd_T35 l0 a1).f0) ((rd_T35 l0 a1).f1) ((rd_T35 l0 a1).f2) ((rd_T35 l0 a1).f3.f0) ((rd_T35 l0 a1).f3.f1) ((rd_T35 l0 a1).f3.f2) ((rd_T35 l0 a1).f3.f3.f0) ((rd_T35 l0 a1).f3.f3.f1) ((rd_T35 l0 a1).f4.f0) ((rd_T35 l0 a1).f4.f1.f0) ((rd_T35 l0 a1).f4.f1.f1) ((rd_T35 l0 a1).f4.f2.f0) ((rd_T35 l0 a1).f4.f2.f1.f0) ((rd_T35 l0 a1).f4.f2.f1.f1) ((rd_T35 l0 a1).f4.f2.f2) true _ A17.out).mono ?_); rintro e w34 ⟨rfl, hb⟩; replace BK116 := zM (bb_ BK116 hb); replace BK117 := zM (bb_ BK117 hb); replace HB := zM (zB bel_ hb); (try clear hb); (try clear hb2); (try clear hk); (try clear hi); have hcz35_0 : w34.cell? ⟨gb116, 0, none⟩ = some (.slice (some ad118) l0.length c0) := (zL BK116.out 0).trans rfl; have hfz35_0 := zF BK116.out 0; have hcz36_0 : w34.cell? ⟨gb117, 0, none⟩ = some (.int .i64 a1) := (zL BK117.out 0).trans rfl; have hfz36_0 := zF BK117.out 0; have p121 : 0 ≤ (a1 : Int) := of_decide_eq_true (by first | (with_reducible assumption) | assumption); have q121 : a1 < (l0.length : Int) := of_decide_eq_true (by first | (with_reducible assumption) | assumption); obtain ⟨ad121, e121, hx121_0, hx121_1, hx121_2, hx121_3, hx121_4, hx121_5, hx121_6, hx121_7, hx121_8, hx121_9, hx121_10, hx121_11, hx121_12, hx121_13, hx121_14⟩ := at_T35 HR0.out a1 p121 q121; obtain rfl : ad118 = ad121 := (by injection e121); replace hx121_0 := (HB.out.cell (World.block_lt_of_cell? w _ hx121_0)).trans hx121_0; replace hx121_1 := (HB.out.cell (World.block_lt_of_cell? w _ hx121_1)).trans hx121_1; replace hx121_2 := (HB.out.cell (World.block_lt_of_cell? w _ hx121_2)).trans hx121_2; replace hx121_3 := (HB.out.cell (World.block_lt_of_cell? w _ hx121_3)).trans hx121_3; replace hx121_4 := (HB.out.cell (World.block_lt_of_cell? w _ hx121_4)).trans hx121_4; replace hx121_5 := (HB.out.cell (World.block_lt_of_cell? w _ hx121_5)).trans hx121_5; replace hx121_6 := (HB.out.cell (World.block_lt_of_cell? w _ hx121_6)).trans hx121_6; replace hx121_7 := (HB.out.cell (World.block_lt_of_cell? w _ hx121_7)).trans hx121_7; replace hx121_8 := (HB.out.cell (World.block_lt_of_cell? w _ hx121_8)).trans hx121_8; replace hx121_9 := (HB.out.cell (World.block_lt_of_cell? w _ hx121_9)).trans hx121_9; replace hx121_10 := (HB.out.cell (World.block_lt_of_cell? w _ hx121_10)).trans hx121_10; replace hx121_11 := (HB.out.cell (World.block_lt_of_cell? w _ hx121_11)).trans hx121_11; replace hx121_12 := (HB.out.cell (World.block_lt_of_cell? w _ hx121_12)).trans hx121_12; replace hx121_13 := (HB.out.cell (World.block_lt_of_cell? w _ hx121_13)).trans hx121_13; replace hx121_14 := (HB.out.cell (World.block_lt_of_cell? w _ hx121_14)).trans hx121_14; replace p121 := eq_true p121; replace q121 := eq_true q121) | ((with_reducible refine gate_callee (f := 30) rfl ?_); refine goL_ (some 43) Try.func30 #[.slice (some ad118) l0.length c0, .func (.func 31) #[] #[.pointer (some ⟨gb116, 0, none⟩), .pointer (some ⟨gb117, 0, none⟩)]] ?_; (with_reducible refine (api_Event.calls k _ _ l0 gb116 gb117 (some ad118) c0 l0 a1 t122 _ ?side1 ?side2 ?side3 ?side4 ?side5 ?side6 A28.out).mono ?_); (case side1 => repeat (first | exact (Kd.C_below HR0.out HB.out) | (with_reducible refine Kd.C_alloc ?_ _) | (with_reducible refine Kd.C_drewN ?_ _) | (with_reducible refine Kd.C_drew ?_))); (case side2 => exact HC0.out); (case side3 => repeat (first | exact (Kd.C_below HR0.out HB.out) | (with_reducible refine Kd.C_alloc ?_ _) | (with_reducible refine Kd.C_drewN ?_ _) | (with_reducible refine Kd.C_drew ?_))); (case side4 => exact HC0.out); (case side5 => exact blf_); (case side6 => exact blf_); rintro e w37 ⟨rfl, hb⟩; refine ⟨_, rfl, ?_⟩; replace BK116 := zM (bb_ BK116 hb); replace BK117 := zM (bb_ BK117 hb); replace HB := zM (zB bel_ hb); (try clear hb); (try clear hb2); (try clear hk); (try clear hi)))
  go_ret
  exact ⟨by first | rfl | (simp [errW_none, errW_some] <;> rfl) | (simp [*, errW_none, errW_some] <;> rfl), bel_⟩
end Go.Proofs.Ytmenkbdaabjojaa.PPastSources
