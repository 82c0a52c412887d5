/- Written by a program of this session (wip/tool/px.py) over the kit's print: what the code that the law PastSources reaches computes, function by function, and the law's row. -/
import Derived.Test.YtmenkbdaabjojaaPPastSourcesx0
import Derived.Test.YtmenkbdaabjojaaPPastSourcesx1
import Derived.Test.YtmenkbdaabjojaaPPastSourcesx3
import Derived.Test.YtmenkbdaabjojaaPPastSourcesx8
import Derived.Test.YtmenkbdaabjojaaPPastSourcesx9
namespace Go.Proofs.Ytmenkbdaabjojaa.PPastSources
open Go.RowKit Go.Proofs.YtmenkbdaabjojaaX Go.Proofs.YtmenkbdaabjojaaW.PrintWords Go.Proofs.YtmenkbdaabjojaaW.PrintLast Go.Proofs.YtmenkbdaabjojaaW.PrintMore
open List renaming setIfInBounds_toArray → zS, set_cons_zero → zZ, set_cons_succ → zC
open Go.Proofs.YtmenkbdaabjojaaW.PrintWords renaming blk_drewN → zN, blk_drew → zD, blk_alloc → zA, blk_cell → zL, blk_frozen → zF, below_step → zB
open Go.Proofs.YtmenkbdaabjojaaW.PrintWords.Aside0 renaming mk → zM
attribute [local go_sem] max2_int min2_int max_two min_two max_three min_three max_four min_four   -- for this text's walks alone
set_option linter.unusedVariables false
set_option linter.unusedSimpArgs false

attribute [local go_sem] px_store_float px_neg_float px_call40
attribute [local go_sem high] eqA24
/-! ### past_Views: function 9 -/
def past_Views.l0 : Nat → List (S35) → List (S24) → List (S35) → Int → Int → Int → Int → Option (Bool)
  | 0, _, _, _, _, _, _, _ => none
  | k + 1, x1, x5, x11, x12, x13, x204000, x204001 => if x13 < x12 then (if 0 ≤ x13 then (if x13 < (x11.length : Int) then ((past_Well.f ((rd_T35 x11 x13).f0) ((rd_T35 x11 x13).f1) ((rd_T35 x11 x13).f2) ((rd_T35 x11 x13).f3.f0) ((rd_T35 x11 x13).f3.f1) ((rd_T35 x11 x13).f3.f2) ((rd_T35 x11 x13).f3.f3.f0) ((rd_T35 x11 x13).f3.f3.f1) ((rd_T35 x11 x13).f4.f0) ((rd_T35 x11 x13).f4.f1.f0) ((rd_T35 x11 x13).f4.f1.f1) ((rd_T35 x11 x13).f4.f2.f0) ((rd_T35 x11 x13).f4.f2.f1.f0) ((rd_T35 x11 x13).f4.f2.f1.f1) ((rd_T35 x11 x13).f4.f2.f2)).bind fun t210 => (if t210 = true then ((past_made.f k x204000 x204001 ((rd_T35 x11 x13).f4.f1.f0) ((rd_T35 x11 x13).f4.f1.f1) x1 ((rd_T35 x11 x13).f2)).bind fun bt212 => (if (!(bt212.1 == ((rd_T35 x11 x13).f4.f1.f0)) || (!(bt212.2 == ((rd_T35 x11 x13).f4.f1.f1)))) = true then (some false) else (if ((rd_T35 x11 x13).f3.f0) = 2 then ((change_Within.f ((rd_T35 x11 x13).f3.f3.f0) ((rd_T35 x11 x13).f3.f3.f1) ((rd_T35 x11 x13).f4.f1.f0) ((rd_T35 x11 x13).f4.f1.f1)).bind fun t214 => (if t214 = true then (if x5.length < 8796093022208 then (past_Views.l0 k x1 (x5 ++ [(⟨(rd_T35 x11 x13).f4.f1.f0, (rd_T35 x11 x13).f4.f1.f1⟩ : S24)]) x11 x12 (wrap64 (x13 + 1)) x204000 x204001) else (none)) else (some false))) else (if x5.length < 8796093022208 then (past_Views.l0 k x1 (x5 ++ [(⟨(rd_T35 x11 x13).f4.f1.f0, (rd_T35 x11 x13).f4.f1.f1⟩ : S24)]) x11 x12 (wrap64 (x13 + 1)) x204000 x204001) else (none))))) else (past_Views.l0 k x1 x5 x11 x12 (wrap64 (x13 + 1)) x204000 x204001))) else (none)) else (none)) else ((view_Alike.f x5).bind fun t207 => (some t207))
def past_Views.f (k : Nat) (a0_0 : Int) (a0_1 : Int) (l1 : List (S35)) : Option (Bool) := past_Views.l0 k l1 (([(⟨a0_0, a0_1⟩ : S24)] : List (S24))) l1 (l1.length : Int) 0 a0_0 a0_1
theorem past_Views.mono_l : ∀ k, (∀ y0 y1 y2 y3 y4 y5 y6, LeO (past_Views.l0 k y0 y1 y2 y3 y4 y5 y6) (past_Views.l0 (k + 1) y0 y1 y2 y3 y4 y5 y6))
  | 0 => fun _ _ _ _ _ _ _ r h => by simp [past_Views.l0] at h
  | k + 1 => by
    have ih0 := past_Views.mono_l k
    · intro y0 y1 y2 y3 y4 y5 y6
      unfold past_Views.l0
      repeat' first
      | (with_reducible exact ih0 _ _ _ _ _ _ _)
      | (with_reducible exact past_made.mono _ _ _ _ _ _ _)
      | (with_reducible exact LeO.refl _)
      | (with_reducible exact LeO.none _)
      | (with_reducible refine LeO.ite ?_ ?_)
      | (with_reducible refine LeO.bind ?_ (fun _ => ?_))
      | exact ih0 _ _ _ _ _ _ _
      | exact past_made.mono _ _ _ _ _ _ _
      | exact LeO.none _
      | refine LeO.ite ?_ ?_
      | refine LeO.bind ?_ (fun _ => ?_)
theorem past_Views.mono : ∀ a0 a1 a2 k, LeO (past_Views.f k a0 a1 a2) (past_Views.f (k + 1) a0 a1 a2) := by
  intro a0 a1 a2 k
  have ih0 := past_Views.mono_l k
  unfold past_Views.f
  repeat' first
      | (with_reducible exact ih0 _ _ _ _ _ _ _)
      | (with_reducible exact past_made.mono _ _ _ _ _ _ _)
      | (with_reducible exact LeO.refl _)
      | (with_reducible exact LeO.none _)
      | (with_reducible refine LeO.ite ?_ ?_)
      | (with_reducible refine LeO.bind ?_ (fun _ => ?_))
      | exact ih0 _ _ _ _ _ _ _
      | exact past_made.mono _ _ _ _ _ _ _
      | exact LeO.none _
      | refine LeO.ite ?_ ?_
      | refine LeO.bind ?_ (fun _ => ?_)
def past_Views.T7 : Bool × List (List Nat × List Nat) := (true, [([], []), ([], []), ([], []), ([], []), ([3], [3]), ([0, 1, 2, 4], [0, 1, 2, 4]), ([], []), ([5, 6], [5, 6]), ([7, 5], [7]), ([8], [8]), ([9, 8], [8, 9]), ([10, 8], [8, 10]), ([11, 8], [8, 11]), ([12, 8, 8], [8, 12]), ([13], [13]), ([14, 13], [13, 14]), ([15, 13], [13, 15]), ([13], [13]), ([16, 17, 13, 13], [13, 16, 17]), ([18, 13], [13, 18]), ([13, 19, 8], [8, 13, 19]), ([8, 20], [8, 20])])
def past_Views.B7 : List Nat := [0, 0, 0, 0, 8, 31, 0, 127, 255, 511, 1023, 2047, 4095, 8191, 16383, 32767, 65535, 16383, 262143, 524287, 1048575, 2097151]
theorem past_Views.tab7 : rtab .any (opsOf Try.f9 7) = past_Views.T7 := by kernel_rfl
theorem past_Views.bits7 : waitsOk past_Views.T7.2 past_Views.B7 = true := by kernel_rfl
set_option maxHeartbeats 8000000 in
set_option maxRecDepth 100000 in
theorem past_Views.calls (k : Nat) (a0_0 : Int) (a0_1 : Int) (A1 : Option Addr) (c1 : Nat) (l1 : List (S35)) (r : Bool) (w : World) (hr1 : Kd.C k35 w A1 l1.length l1) (hc1 : l1.length ≤ c1) (h : past_Views.f k a0_0 a0_1 l1 = some r) :
    Calls Try.prog 9 #[.agg #[.int .i64 a0_0, .int .i64 a0_1], .slice A1 l1.length c1] w fun e w' => e = .returned (.bool r) ∧ Below w.heap.size w w' := by
  have hu24 := Try.underlying24
  have hu35 := Try.underlying35
  have HR1 := zM hr1
  have HC1 := zM hc1
  clear hr1 hc1
  have HB := zM (Below.refl w.heap.size w)
  have H : (past_Views.l0 k l1 (([(⟨a0_0, a0_1⟩ : S24)] : List (S24))) l1 (l1.length : Int) 0 a0_0 a0_1) = some r := h
  clear h
  obtain ⟨y204, hy204⟩ : ∃ y_ : List (S24), y_ = (([(⟨a0_0, a0_1⟩ : S24)] : List (S24))) := ⟨_, rfl⟩
  replace H : (past_Views.l0 k l1 y204 l1 (l1.length : Int) 0 a0_0 a0_1) = some r := by first | (rw [hy204]; with_reducible exact H) | (have H2_ := (Option.bind_some _ _).symm.trans H; rw [hy204]; with_reducible exact H2_) | (have H2_ := (Option.bind_some _ _).symm.trans H; with_reducible exact H2_) | with_reducible exact H | (rw [hy204]; exact H) | exact H
  have Ny204 := zM hy204
  clear hy204
  have H' := zM H
  clear H
  go_enter Try.func9, Try.ntmps9
  go_wp2_with (first | ((with_reducible refine gld_ (t := 35) ?_); (try (refine gate_guard (by rfl) ?_; dsimp only)); first | refine wl15_ rfl 35 _ rfl rfl Try.underlying35 rfl (by kernel_rfl) ?_ | refine wlr15_ rfl 35 _ rfl rfl Try.underlying35 rfl (by kernel_rfl) ?_) | ((with_reducible refine gst_ (t := 35) ?_); refine ws15_ rfl 35 _ _ rfl rfl rfl (by kernel_rfl) ?_) | ((with_reducible refine gate_dst (N := 2) rfl ?_); refine box_event ?hg (N := 2) ?hd (cs := #[.int .i64 a0_0, .int .i64 a0_1]) (t := 24) ?hr ?_; (case hd => rfl); (case hg => rfl); (case hr => first | (go_simp; done) | (go_simp; rfl)); intro gb203 hg w3 hbox hb; have BK203 := zM (hbox); have GW203 := zM (bs_ hg); have GE203 := zM (bs_ hg); replace HB := zM (zB bel_ hb); clear hb hbox hg; have hcz4_0 : w3.cell? ⟨gb203, 0, none⟩ = some (.int .i64 a0_0) := (zL BK203.out 0).trans rfl; have hcz4_1 : w3.cell? ⟨gb203, 1, none⟩ = some (.int .i64 a0_1) := (zL BK203.out 1).trans rfl; have hfz4_0 := zF BK203.out 0; have hfz4_1 := zF BK203.out 1) | ((with_reducible refine gate_dst (N := 10) rfl ?_); refine Kd.R_lit k24 _ 24 ?hg (N := 10) ?hd (xs := ([(⟨a0_0, a0_1⟩ : S24)] : List (S24))) (inner := [.int .i64 a0_0, .int .i64 a0_1]) (ok := fun _ => True) (okp := fun _ => True) ?hr ?hp (fun _ hk => hk) trivial (Below.refl _ _) (Nat.le_refl _) (by simp) ?_; (case hd => rfl); (case hg => rfl); (case hr => first | (go_simp; done) | (go_simp; rfl)); (case hp => exact (Reps.c2 (show Kd.M k24 _ _ _ (⟨a0_0, a0_1⟩ : S24) [.int .i64 a0_0, .int .i64 a0_1] from (k24_mkM _ _ _ (⟨a0_0, a0_1⟩ : S24) )) (Reps.none _ _))); intro v205 w5 ho6 hb hg_ hnew_; clear hg_ hnew_; (first | rw [← Ny204.out] at ho6 | (simp only [Int.reduceToNat] at ho6; rw [← Ny204.out] at ho6)); have HO206 := zM (Kd.R_lower (Kd.R_newB ho6 (g := gb203) (o := .cells #[.int .i64 a0_0, .int .i64 a0_1] 24 (0, 0)) blk_) (below_size bel_)); replace BK203 := zM (bb_ BK203 hb); replace HB := zM (zB bel_ hb); clear hb ho6))
  go_loopg [5, 13] k (fun kq v5 v13 w' => ∃ (x5_1 : List (S24)) (x13_1 : Int), v13 = .int .i64 x13_1 ∧ Aside0 (past_Views.l0 kq l1 x5_1 l1 (l1.length : Int) x13_1 a0_0 a0_1 = some r) ∧ Aside0 (kq ≤ k) ∧ Aside0 (Kd.R k24 24 w' w.heap.size (fun k_ => k_ ≠ gb203) v5 x5_1) ∧ Aside0 (w'.heap[gb203]? = some (.cells #[.int .i64 a0_0, .int .i64 a0_1] 24 (0, 0))) ∧ Aside0 (Below w.heap.size w w'))
  case atStart => exact ⟨(y204), (0), (by first | rfl | (simp; done) | (simp [*]; done) | (simp; grind)), H', ⟨Nat.le_refl _⟩, ⟨by (with_reducible repeat (first | apply Kd.R_alloc | apply Kd.R_drewN | apply Kd.R_drew)); exact Kd.R_mono HO206.out (fun _ hk => hk.2)⟩, ⟨blf_⟩, ⟨bel_⟩⟩
  case round =>
   clear H'
   try clear c1
   try clear c2
   try clear p2
   try clear hcz4_0
   try clear hcz4_1
   try clear hfz4_0
   try clear hfz4_1
   obtain ⟨x5_1, x13_1, rfl, HA, HK1, HO_5, BK203, HB⟩ := hrel
   cases gk with
   | zero => exact absurd HA.out (by simp [past_Views.l0])
   | succ k1 =>
    have H := HA.out
    clear HA
    simp only [past_Views.l0] at H
    by_cases c7 : x13_1 < (l1.length : Int)
    rotate_left
    · rw [if_neg c7] at H
      have c7b0 : decide (x13_1 < (l1.length : Int)) = false := decide_eq_false c7
      clear c7
      replace H := Option.bind_eq_some_iff.mp H
      obtain ⟨t207, A770, H⟩ := H
      replace H : (some t207) = some r := H
      have A77 := zM A770
      clear A770
      obtain rfl := Option.some.inj H
      obtain ⟨Ao78, co78, eo78⟩ := Kd.R_slice HO_5.out
      subst eo78
      go_wp2_with (first | ((with_reducible refine gate_callee (f := 29) rfl ?_); refine goL_ (some 51) Try.func29 #[.slice Ao78 x5_1.length co78] ?_; (with_reducible refine (view_Alike.calls _ _ x5_1 t207 _ ?side1 ?side2 A77.out).mono ?_); (case side1 => repeat (first | exact (Kd.R_reads' HO_5.out).2.2 | (with_reducible refine Kd.C_alloc ?_ _) | (with_reducible refine Kd.C_drewN ?_ _) | (with_reducible refine Kd.C_drew ?_))); (case side2 => exact (Kd.R_reads' HO_5.out).2.1); rintro e w79 ⟨rfl, hb⟩; refine ⟨_, rfl, ?_⟩; replace HO_5 := zM (Kd.R_below (rl_ HO_5) hb); replace BK203 := zM (bb_ BK203 hb); replace HB := zM (zB bel_ hb); (try clear hb); (try clear hb2); (try clear hk); (try clear hi)))
      go_ret
      exact ⟨by first | rfl | (simp [errW_none, errW_some] <;> rfl) | (simp [*, errW_none, errW_some] <;> rfl), bel_⟩
    rw [if_pos c7] at H
    have c7b0 : decide (x13_1 < (l1.length : Int)) = true := decide_eq_true c7
    clear c7
    by_cases c8 : 0 ≤ x13_1
    rotate_left
    · rw [if_neg c8] at H
      exact absurd H (by simp)
    rw [if_pos c8] at H
    have c8b0 : decide (0 ≤ x13_1) = true := decide_eq_true c8
    clear c8
    by_cases c9 : x13_1 < (l1.length : Int)
    rotate_left
    · rw [if_neg c9] at H
      exact absurd H (by simp)
    rw [if_pos c9] at H
    have c9b0 : decide (x13_1 < (l1.length : Int)) = true := decide_eq_true c9
    clear c9
    replace H := Option.bind_eq_some_iff.mp H
    obtain ⟨t210, A100, H⟩ := H
    replace H : (if t210 = true then ((past_made.f k1 a0_0 a0_1 ((rd_T35 l1 x13_1).f4.f1.f0) ((rd_T35 l1 x13_1).f4.f1.f1) l1 ((rd_T35 l1 x13_1).f2)).bind fun bt212 => (if (!(bt212.1 == ((rd_T35 l1 x13_1).f4.f1.f0)) || (!(bt212.2 == ((rd_T35 l1 x13_1).f4.f1.f1)))) = true then (some false) else (if ((rd_T35 l1 x13_1).f3.f0) = 2 then ((change_Within.f ((rd_T35 l1 x13_1).f3.f3.f0) ((rd_T35 l1 x13_1).f3.f3.f1) ((rd_T35 l1 x13_1).f4.f1.f0) ((rd_T35 l1 x13_1).f4.f1.f1)).bind fun t214 => (if t214 = true then (if x5_1.length < 8796093022208 then (past_Views.l0 k1 l1 (x5_1 ++ [(⟨(rd_T35 l1 x13_1).f4.f1.f0, (rd_T35 l1 x13_1).f4.f1.f1⟩ : S24)]) l1 (l1.length : Int) (wrap64 (x13_1 + 1)) a0_0 a0_1) else (none)) else (some false))) else (if x5_1.length < 8796093022208 then (past_Views.l0 k1 l1 (x5_1 ++ [(⟨(rd_T35 l1 x13_1).f4.f1.f0, (rd_T35 l1 x13_1).f4.f1.f1⟩ : S24)]) l1 (l1.length : Int) (wrap64 (x13_1 + 1)) a0_0 a0_1) else (none))))) else (past_Views.l0 k1 l1 x5_1 l1 (l1.length : Int) (wrap64 (x13_1 + 1)) a0_0 a0_1)) = some r := H
    have A10 := zM A100
    clear A100
    by_cases c11 : t210 = true
    rotate_left
    · replace c11 := Bool.eq_false_iff.mpr c11
      subst c11
      have H1 : (past_Views.l0 k1 l1 x5_1 l1 (l1.length : Int) (wrap64 (x13_1 + 1)) a0_0 a0_1) = some r := by rw [if_neg (show ¬ (false = true) by decide)] at H; exact H
      clear H
      have H := H1
      clear H1
      have H' := zM H
      clear H
      have p208 : 0 ≤ (x13_1 : Int) := of_decide_eq_true (by first | (with_reducible assumption) | assumption)
      have q208 : x13_1 < (l1.length : Int) := of_decide_eq_true (by first | (with_reducible assumption) | assumption)
      obtain ⟨ad208, e208, hx208_0, hx208_1, hx208_2, hx208_3, hx208_4, hx208_5, hx208_6, hx208_7, hx208_8, hx208_9, hx208_10, hx208_11, hx208_12, hx208_13, hx208_14⟩ := at_T35 HR1.out x13_1 p208 q208
      cases e208
      replace hx208_0 := (HB.out.cell (World.block_lt_of_cell? w _ hx208_0)).trans hx208_0
      replace hx208_1 := (HB.out.cell (World.block_lt_of_cell? w _ hx208_1)).trans hx208_1
      replace hx208_2 := (HB.out.cell (World.block_lt_of_cell? w _ hx208_2)).trans hx208_2
      replace hx208_3 := (HB.out.cell (World.block_lt_of_cell? w _ hx208_3)).trans hx208_3
      replace hx208_4 := (HB.out.cell (World.block_lt_of_cell? w _ hx208_4)).trans hx208_4
      replace hx208_5 := (HB.out.cell (World.block_lt_of_cell? w _ hx208_5)).trans hx208_5
      replace hx208_6 := (HB.out.cell (World.block_lt_of_cell? w _ hx208_6)).trans hx208_6
      replace hx208_7 := (HB.out.cell (World.block_lt_of_cell? w _ hx208_7)).trans hx208_7
      replace hx208_8 := (HB.out.cell (World.block_lt_of_cell? w _ hx208_8)).trans hx208_8
      replace hx208_9 := (HB.out.cell (World.block_lt_of_cell? w _ hx208_9)).trans hx208_9
      replace hx208_10 := (HB.out.cell (World.block_lt_of_cell? w _ hx208_10)).trans hx208_10
      replace hx208_11 := (HB.out.cell (World.block_lt_of_cell? w _ hx208_11)).trans hx208_11
      replace hx208_12 := (HB.out.cell (World.block_lt_of_cell? w _ hx208_12)).trans hx208_12
      replace hx208_13 := (HB.out.cell (World.block_lt_of_cell? w _ hx208_13)).trans hx208_13
      replace hx208_14 := (HB.out.cell (World.block_lt_of_cell? w _ hx208_14)).trans hx208_14
      replace p208 := eq_true p208
      replace q208 := eq_true q208
      go_wp2_with (first | ((with_reducible refine gld_ (t := 35) ?_); (try (refine gate_guard (by rfl) ?_; dsimp only)); first | refine wl15_ rfl 35 _ rfl rfl Try.underlying35 rfl (by kernel_rfl) ?_ | refine wlr15_ rfl 35 _ rfl rfl Try.underlying35 rfl (by kernel_rfl) ?_) | ((with_reducible refine gst_ (t := 35) ?_); refine ws15_ rfl 35 _ _ rfl rfl rfl (by kernel_rfl) ?_) | ((with_reducible refine gate_dst (N := 7) rfl ?_); refine box_event ?hg (N := 7) ?hd (cs := #[.int .i64 0, .int .i64 0, .int .i64 0, .int .i64 0, .int .i64 0, .float .f64 0, .int .i64 0, .int .i64 0, .int .i64 0, .int .i64 0, .int .i64 0, .int .i64 0, .int .i64 0, .int .i64 0, .float .f64 0]) (t := 35) ?hr ?_; (case hd => rfl); (case hg => rfl); (case hr => first | (go_simp; done) | (go_simp; rfl)); intro gb209 hg w73 hbox hb; replace HO_5 := zM (Kd.R_below (rl_ HO_5) hb); have BK209 := zM (hbox); have GW209 := zM (bs_ hg); have GE209 := zM (bs_ hg); replace HB := zM (zB bel_ hb); have NB203_209 := zM (nl_ BK203 hg); have NB209_203 := zM (ng_ BK203 hg); replace BK203 := zM (bb_ BK203 hb); clear hb hbox hg; have hnb74 := NB209_203.out; have hnc74 := NB203_209.out; obtain ⟨hcz75_0, hcz75_1, hcz75_2, hcz75_3, hcz75_4, hcz75_5, hcz75_6, hcz75_7, hcz75_8, hcz75_9, hcz75_10, hcz75_11, hcz75_12, hcz75_13, hcz75_14⟩ := r15_ BK209.out; obtain ⟨hfz75_0, hfz75_1, hfz75_2, hfz75_3, hfz75_4, hfz75_5, hfz75_6, hfz75_7, hfz75_8, hfz75_9, hfz75_10, hfz75_11, hfz75_12, hfz75_13, hfz75_14⟩ := f15_ BK209.out) | ((with_reducible refine gate_callee (f := 11) rfl ?_); refine goL_ (some 18) Try.func11 #[.agg (e35_ (rd_T35 l1 x13_1))] ?_; (with_reducible refine (past_Well.calls ((rd_T35 l1 x13_1).f0) ((rd_T35 l1 x13_1).f1) ((rd_T35 l1 x13_1).f2) ((rd_T35 l1 x13_1).f3.f0) ((rd_T35 l1 x13_1).f3.f1) ((rd_T35 l1 x13_1).f3.f2) ((rd_T35 l1 x13_1).f3.f3.f0) ((rd_T35 l1 x13_1).f3.f3.f1) ((rd_T35 l1 x13_1).f4.f0) ((rd_T35 l1 x13_1).f4.f1.f0) ((rd_T35 l1 x13_1).f4.f1.f1) ((rd_T35 l1 x13_1).f4.f2.f0) ((rd_T35 l1 x13_1).f4.f2.f1.f0) ((rd_T35 l1 x13_1).f4.f2.f1.f1) ((rd_T35 l1 x13_1).f4.f2.f2) false _ A10.out).mono ?_); rintro e w76 ⟨rfl, hb⟩; refine ⟨_, rfl, ?_⟩; replace HO_5 := zM (Kd.R_below (by (with_reducible repeat (first | apply Kd.R_alloc | apply Kd.R_drewN | apply Kd.R_drew)); exact (Kd.R_mono (Kd.R_far (p := ⟨gb209, 14, none⟩) (Kd.R_far (p := ⟨gb209, 13, none⟩) (Kd.R_far (p := ⟨gb209, 12, none⟩) (Kd.R_far (p := ⟨gb209, 11, none⟩) (Kd.R_far (p := ⟨gb209, 10, none⟩) (Kd.R_far (p := ⟨gb209, 9, none⟩) (Kd.R_far (p := ⟨gb209, 8, none⟩) (Kd.R_far (p := ⟨gb209, 7, none⟩) (Kd.R_far (p := ⟨gb209, 6, none⟩) (Kd.R_far (p := ⟨gb209, 5, none⟩) (Kd.R_far (p := ⟨gb209, 4, none⟩) (Kd.R_far (p := ⟨gb209, 3, none⟩) (Kd.R_far (p := ⟨gb209, 2, none⟩) (Kd.R_far (p := ⟨gb209, 1, none⟩) (Kd.R_far (p := ⟨gb209, 0, none⟩) (Kd.R_types HO_5.out BK209.out (by decide)) (fun _ hk => hk.2) (.int .i64 ((rd_T35 l1 x13_1).f0))) (fun _ hk => hk.2) (.int .i64 ((rd_T35 l1 x13_1).f1))) (fun _ hk => hk.2) (.int .i64 ((rd_T35 l1 x13_1).f2))) (fun _ hk => hk.2) (.int .i64 ((rd_T35 l1 x13_1).f3.f0))) (fun _ hk => hk.2) (.int .i64 ((rd_T35 l1 x13_1).f3.f1))) (fun _ hk => hk.2) (.float .f64 ((rd_T35 l1 x13_1).f3.f2))) (fun _ hk => hk.2) (.int .i64 ((rd_T35 l1 x13_1).f3.f3.f0))) (fun _ hk => hk.2) (.int .i64 ((rd_T35 l1 x13_1).f3.f3.f1))) (fun _ hk => hk.2) (.int .i64 ((rd_T35 l1 x13_1).f4.f0))) (fun _ hk => hk.2) (.int .i64 ((rd_T35 l1 x13_1).f4.f1.f0))) (fun _ hk => hk.2) (.int .i64 ((rd_T35 l1 x13_1).f4.f1.f1))) (fun _ hk => hk.2) (.int .i64 ((rd_T35 l1 x13_1).f4.f2.f0))) (fun _ hk => hk.2) (.int .i64 ((rd_T35 l1 x13_1).f4.f2.f1.f0))) (fun _ hk => hk.2) (.int .i64 ((rd_T35 l1 x13_1).f4.f2.f1.f1))) (fun _ hk => hk.2) (.float .f64 ((rd_T35 l1 x13_1).f4.f2.f2))) (fun _ h_ => h_.1))) hb); replace BK203 := zM (blk_below (g := gb203) (o := .cells #[.int .i64 a0_0, .int .i64 a0_1] 24 (0, 0)) blf_ hb); replace BK209 := zM (blk_below (g := gb209) (o := .cells (e35_ (rd_T35 l1 x13_1)) 35 (0, 0)) (by (with_reducible repeat (first | refine zN ?_ _ | refine zD ?_ | refine zA ?_ _)); exact fx15_ BK209) hb); replace HB := zM (zB bel_ hb); (try clear hb); (try clear hb2); (try clear hk); (try clear hi)))
      go_roundg k1
      case measure => have := HK1.out; omega
      case rel => exact ⟨(x5_1), (wrap64 (x13_1 + 1)), (by first | rfl | (simp; done) | (simp [*]; done) | (simp; grind)), H', ⟨by have := HK1.out; omega⟩, ⟨by (with_reducible repeat (first | apply Kd.R_alloc | apply Kd.R_drewN | apply Kd.R_drew)); exact HO_5.out⟩, ⟨blf_⟩, ⟨bel_⟩⟩
    subst c11
    have H1 : ((past_made.f k1 a0_0 a0_1 ((rd_T35 l1 x13_1).f4.f1.f0) ((rd_T35 l1 x13_1).f4.f1.f1) l1 ((rd_T35 l1 x13_1).f2)).bind fun bt212 => (if (!(bt212.1 == ((rd_T35 l1 x13_1).f4.f1.f0)) || (!(bt212.2 == ((rd_T35 l1 x13_1).f4.f1.f1)))) = true then (some false) else (if ((rd_T35 l1 x13_1).f3.f0) = 2 then ((change_Within.f ((rd_T35 l1 x13_1).f3.f3.f0) ((rd_T35 l1 x13_1).f3.f3.f1) ((rd_T35 l1 x13_1).f4.f1.f0) ((rd_T35 l1 x13_1).f4.f1.f1)).bind fun t214 => (if t214 = true then (if x5_1.length < 8796093022208 then (past_Views.l0 k1 l1 (x5_1 ++ [(⟨(rd_T35 l1 x13_1).f4.f1.f0, (rd_T35 l1 x13_1).f4.f1.f1⟩ : S24)]) l1 (l1.length : Int) (wrap64 (x13_1 + 1)) a0_0 a0_1) else (none)) else (some false))) else (if x5_1.length < 8796093022208 then (past_Views.l0 k1 l1 (x5_1 ++ [(⟨(rd_T35 l1 x13_1).f4.f1.f0, (rd_T35 l1 x13_1).f4.f1.f1⟩ : S24)]) l1 (l1.length : Int) (wrap64 (x13_1 + 1)) a0_0 a0_1) else (none))))) = some r := by rw [if_pos rfl] at H; exact H
    clear H
    have H := H1
    clear H1
    replace H := Option.bind_eq_some_iff.mp H
    obtain ⟨⟨t212, t213⟩, A120, H⟩ := H
    replace H : (if (!(t212 == ((rd_T35 l1 x13_1).f4.f1.f0)) || (!(t213 == ((rd_T35 l1 x13_1).f4.f1.f1)))) = true then (some false) else (if ((rd_T35 l1 x13_1).f3.f0) = 2 then ((change_Within.f ((rd_T35 l1 x13_1).f3.f3.f0) ((rd_T35 l1 x13_1).f3.f3.f1) ((rd_T35 l1 x13_1).f4.f1.f0) ((rd_T35 l1 x13_1).f4.f1.f1)).bind fun t214 => (if t214 = true then (if x5_1.length < 8796093022208 then (past_Views.l0 k1 l1 (x5_1 ++ [(⟨(rd_T35 l1 x13_1).f4.f1.f0, (rd_T35 l1 x13_1).f4.f1.f1⟩ : S24)]) l1 (l1.length : Int) (wrap64 (x13_1 + 1)) a0_0 a0_1) else (none)) else (some false))) else (if x5_1.length < 8796093022208 then (past_Views.l0 k1 l1 (x5_1 ++ [(⟨(rd_T35 l1 x13_1).f4.f1.f0, (rd_T35 l1 x13_1).f4.f1.f1⟩ : S24)]) l1 (l1.length : Int) (wrap64 (x13_1 + 1)) a0_0 a0_1) else (none)))) = some r := H
    have A12 := zM A120
    clear A120
    by_cases c13 : (!(t212 == ((rd_T35 l1 x13_1).f4.f1.f0)) || (!(t213 == ((rd_T35 l1 x13_1).f4.f1.f1)))) = true
    · rw [if_pos c13] at H
      have c13b0 : (!(t212 == ((rd_T35 l1 x13_1).f4.f1.f0)) || (!(t213 == ((rd_T35 l1 x13_1).f4.f1.f1)))) = true := c13
      clear c13
      obtain rfl := Option.some.inj H
      have p208 : 0 ≤ (x13_1 : Int) := of_decide_eq_true (by first | (with_reducible assumption) | assumption)
      have q208 : x13_1 < (l1.length : Int) := of_decide_eq_true (by first | (with_reducible assumption) | assumption)
      obtain ⟨ad208, e208, hx208_0, hx208_1, hx208_2, hx208_3, hx208_4, hx208_5, hx208_6, hx208_7, hx208_8, hx208_9, hx208_10, hx208_11, hx208_12, hx208_13, hx208_14⟩ := at_T35 HR1.out x13_1 p208 q208
      cases e208
      replace hx208_0 := (HB.out.cell (World.block_lt_of_cell? w _ hx208_0)).trans hx208_0
      replace hx208_1 := (HB.out.cell (World.block_lt_of_cell? w _ hx208_1)).trans hx208_1
      replace hx208_2 := (HB.out.cell (World.block_lt_of_cell? w _ hx208_2)).trans hx208_2
      replace hx208_3 := (HB.out.cell (World.block_lt_of_cell? w _ hx208_3)).trans hx208_3
      replace hx208_4 := (HB.out.cell (World.block_lt_of_cell? w _ hx208_4)).trans hx208_4
      replace hx208_5 := (HB.out.cell (World.block_lt_of_cell? w _ hx208_5)).trans hx208_5
      replace hx208_6 := (HB.out.cell (World.block_lt_of_cell? w _ hx208_6)).trans hx208_6
      replace hx208_7 := (HB.out.cell (World.block_lt_of_cell? w _ hx208_7)).trans hx208_7
      replace hx208_8 := (HB.out.cell (World.block_lt_of_cell? w _ hx208_8)).trans hx208_8
      replace hx208_9 := (HB.out.cell (World.block_lt_of_cell? w _ hx208_9)).trans hx208_9
      replace hx208_10 := (HB.out.cell (World.block_lt_of_cell? w _ hx208_10)).trans hx208_10
      replace hx208_11 := (HB.out.cell (World.block_lt_of_cell? w _ hx208_11)).trans hx208_11
      replace hx208_12 := (HB.out.cell (World.block_lt_of_cell? w _ hx208_12)).trans hx208_12
      replace hx208_13 := (HB.out.cell (World.block_lt_of_cell? w _ hx208_13)).trans hx208_13
      replace hx208_14 := (HB.out.cell (World.block_lt_of_cell? w _ hx208_14)).trans hx208_14
      replace p208 := eq_true p208
      replace q208 := eq_true q208
      try go_wp2_with (first | ((with_reducible refine gld_ (t := 35) ?_); (try (refine gate_guard (by rfl) ?_; dsimp only)); first | refine wl15_ rfl 35 _ rfl rfl Try.underlying35 rfl (by kernel_rfl) ?_ | refine wlr15_ rfl 35 _ rfl rfl Try.underlying35 rfl (by kernel_rfl) ?_) | ((with_reducible refine gst_ (t := 35) ?_); refine ws15_ rfl 35 _ _ rfl rfl rfl (by kernel_rfl) ?_) | ((with_reducible refine gate_dst (N := 7) rfl ?_); refine box_event ?hg (N := 7) ?hd (cs := #[.int .i64 0, .int .i64 0, .int .i64 0, .int .i64 0, .int .i64 0, .float .f64 0, .int .i64 0, .int .i64 0, .int .i64 0, .int .i64 0, .int .i64 0, .int .i64 0, .int .i64 0, .int .i64 0, .float .f64 0]) (t := 35) ?hr ?_; (case hd => rfl); (case hg => rfl); (case hr => first | (go_simp; done) | (go_simp; rfl)); intro gb209 hg w14 hbox hb; replace HO_5 := zM (Kd.R_below (rl_ HO_5) hb); have BK209 := zM (hbox); have GW209 := zM (bs_ hg); have GE209 := zM (bs_ hg); replace HB := zM (zB bel_ hb); have NB203_209 := zM (nl_ BK203 hg); have NB209_203 := zM (ng_ BK203 hg); replace BK203 := zM (bb_ BK203 hb); clear hb hbox hg; have hnb15 := NB209_203.out; have hnc15 := NB203_209.out; obtain ⟨hcz16_0, hcz16_1, hcz16_2, hcz16_3, hcz16_4, hcz16_5, hcz16_6, hcz16_7, hcz16_8, hcz16_9, hcz16_10, hcz16_11, hcz16_12, hcz16_13, hcz16_14⟩ := r15_ BK209.out; obtain ⟨hfz16_0, hfz16_1, hfz16_2, hfz16_3, hfz16_4, hfz16_5, hfz16_6, hfz16_7, hfz16_8, hfz16_9, hfz16_10, hfz16_11, hfz16_12, hfz16_13, hfz16_14⟩ := f15_ BK209.out) | ((with_reducible refine gate_callee (f := 11) rfl ?_); refine goL_ (some 18) Try.func11 #[.agg (e35_ (rd_T35 l1 x13_1))] ?_; (with_reducible refine (past_Well.calls ((rd_T35 l1 x13_1).f0) ((rd_T35 l1 x13_1).f1) ((rd_T35 l1 x13_1).f2) ((rd_T35 l1 x13_1).f3.f0) ((rd_T35 l1 x13_1).f3.f1) ((rd_T35 l1 x13_1).f3.f2) ((rd_T35 l1 x13_1).f3.f3.f0) ((rd_T35 l1 x13_1).f3.f3.f1) ((rd_T35 l1 x13_1).f4.f0) ((rd_T35 l1 x13_1).f4.f1.f0) ((rd_T35 l1 x13_1).f4.f1.f1) ((rd_T35 l1 x13_1).f4.f2.f0) ((rd_T35 l1 x13_1).f4.f2.f1.f0) ((rd_T35 l1 x13_1).f4.f2.f1.f1) ((rd_T35 l1 x13_1).f4.f2.f2) true _ A10.out).mono ?_); rintro e w17 ⟨rfl, hb⟩; refine ⟨_, rfl, ?_⟩; replace HO_5 := zM (Kd.R_below (by (with_reducible repeat (first | apply Kd.R_alloc | apply Kd.R_drewN | apply Kd.R_drew)); exact (Kd.R_mono (Kd.R_far (p := ⟨gb209, 14, none⟩) (Kd.R_far (p := ⟨gb209, 13, none⟩) (Kd.R_far (p := ⟨gb209, 12, none⟩) (Kd.R_far (p := ⟨gb209, 11, none⟩) (Kd.R_far (p := ⟨gb209, 10, none⟩) (Kd.R_far (p := ⟨gb209, 9, none⟩) (Kd.R_far (p := ⟨gb209, 8, none⟩) (Kd.R_far (p := ⟨gb209, 7, none⟩) (Kd.R_far (p := ⟨gb209, 6, none⟩) (Kd.R_far (p := ⟨gb209, 5, none⟩) (Kd.R_far (p := ⟨gb209, 4, none⟩) (Kd.R_far (p := ⟨gb209, 3, none⟩) (Kd.R_far (p := ⟨gb209, 2, none⟩) (Kd.R_far (p := ⟨gb209, 1, none⟩) (Kd.R_far (p := ⟨gb209, 0, none⟩) (Kd.R_types HO_5.out BK209.out (by decide)) (fun _ hk => hk.2) (.int .i64 ((rd_T35 l1 x13_1).f0))) (fun _ hk => hk.2) (.int .i64 ((rd_T35 l1 x13_1).f1))) (fun _ hk => hk.2) (.int .i64 ((rd_T35 l1 x13_1).f2))) (fun _ hk => hk.2) (.int .i64 ((rd_T35 l1 x13_1).f3.f0))) (fun _ hk => hk.2) (.int .i64 ((rd_T35 l1 x13_1).f3.f1))) (fun _ hk => hk.2) (.float .f64 ((rd_T35 l1 x13_1).f3.f2))) (fun _ hk => hk.2) (.int .i64 ((rd_T35 l1 x13_1).f3.f3.f0))) (fun _ hk => hk.2) (.int .i64 ((rd_T35 l1 x13_1).f3.f3.f1))) (fun _ hk => hk.2) (.int .i64 ((rd_T35 l1 x13_1).f4.f0))) (fun _ hk => hk.2) (.int .i64 ((rd_T35 l1 x13_1).f4.f1.f0))) (fun _ hk => hk.2) (.int .i64 ((rd_T35 l1 x13_1).f4.f1.f1))) (fun _ hk => hk.2) (.int .i64 ((rd_T35 l1 x13_1).f4.f2.f0))) (fun _ hk => hk.2) (.int .i64 ((rd_T35 l1 x13_1).f4.f2.f1.f0))) (fun _ hk => hk.2) (.int .i64 ((rd_T35 l1 x13_1).f4.f2.f1.f1))) (fun _ hk => hk.2) (.float .f64 ((rd_T35 l1 x13_1).f4.f2.f2))) (fun _ h_ => h_.1))) hb); replace BK203 := zM (blk_below (g := gb203) (o := .cells #[.int .i64 a0_0, .int .i64 a0_1] 24 (0, 0)) blf_ hb); replace BK209 := zM (blk_below (g := gb209) (o := .cells (e35_ (rd_T35 l1 x13_1)) 35 (0, 0)) (by (with_reducible repeat (first | refine zN ?_ _ | refine zD ?_ | refine zA ?_ _)); exact fx15_ BK209) hb); replace HB := zM (zB bel_ hb); (try clear hb); (try clear hb2); (try clear hk); (try clear hi); obtain ⟨hcz18_0, hcz18_1, hcz18_2, hcz18_3, hcz18_4, hcz18_5, hcz18_6, hcz18_7, hcz18_8, hcz18_9, hcz18_10, hcz18_11, hcz18_12, hcz18_13, hcz18_14⟩ := r15_ BK209.out; obtain ⟨hfz18_0, hfz18_1, hfz18_2, hfz18_3, hfz18_4, hfz18_5, hfz18_6, hfz18_7, hfz18_8, hfz18_9, hfz18_10, hfz18_11, hfz18_12, hfz18_13, hfz18_14⟩ := f15_ BK209.out) | ((with_reducible refine gate_dst (N := 8) rfl ?_); refine box_event ?hg (N := 8) ?hd (cs := #[.int .i64 0, .int .i64 0]) (t := 24) ?hr ?_; (case hd => rfl); (case hg => rfl); (case hr => first | (go_simp; done) | (go_simp; rfl)); intro gb211 hg w19 hbox hb; replace HO_5 := zM (Kd.R_below (Kd.R_elderB (rl_ HO_5) gb211 (Nat.le_of_eq hg.symm)) hb); have BK211 := zM (hbox); have GW211 := zM (bs_ hg); have GE211 := zM (bs_ hg); replace HB := zM (zB bel_ hb); have NB203_211 := zM (nl_ BK203 hg); have NB211_203 := zM (ng_ BK203 hg); replace BK203 := zM (bb_ BK203 hb); have NB209_211 := zM (nl_ BK209 hg); have NB211_209 := zM (ng_ BK209 hg); replace BK209 := zM (bb_ BK209 hb); clear hb hbox hg; have hnb20 := NB211_203.out; have hnc20 := NB203_211.out; have hnb21 := NB211_209.out; have hnc21 := NB209_211.out; have hcz22_0 : w19.cell? ⟨gb211, 0, none⟩ = some (.int .i64 0) := (zL BK211.out 0).trans rfl; have hcz22_1 : w19.cell? ⟨gb211, 1, none⟩ = some (.int .i64 0) := (zL BK211.out 1).trans rfl; have hfz22_0 := zF BK211.out 0; have hfz22_1 := zF BK211.out 1))
      have n0_ : Aside0 (Kd.R k24 24 ((w19.setCell ⟨gb211, 0, none⟩ (.int .i64 ((rd_T35 l1 x13_1).f4.f1.f0))).setCell ⟨gb211, 1, none⟩ (.int .i64 ((rd_T35 l1 x13_1).f4.f1.f1))) w.heap.size (fun k_ => k_ ≠ gb203 ∧ k_ ≠ gb211) u5 x5_1) := ⟨by (with_reducible repeat (first | apply Kd.R_alloc | apply Kd.R_drewN | apply Kd.R_drew)); exact Kd.R_mono (Kd.R_far (p := ⟨gb211, 1, none⟩) (Kd.R_far (p := ⟨gb211, 0, none⟩) (Kd.R_mono HO_5.out (fun k_ hk => (⟨hk, hk.2⟩ : _ ∧ k_ ≠ gb211))) (fun _ hk => hk.2) (.int .i64 ((rd_T35 l1 x13_1).f4.f1.f0))) (fun _ hk => hk.2) (.int .i64 ((rd_T35 l1 x13_1).f4.f1.f1))) (fun _ hk => ⟨hk.1.1, hk.1.2⟩)⟩
      have n1_ : Aside0 (((w19.setCell ⟨gb211, 0, none⟩ (.int .i64 ((rd_T35 l1 x13_1).f4.f1.f0))).setCell ⟨gb211, 1, none⟩ (.int .i64 ((rd_T35 l1 x13_1).f4.f1.f1))).heap[gb203]? = some (.cells #[.int .i64 a0_0, .int .i64 a0_1] 24 (0, 0))) := ⟨blf_⟩
      have n2_ : Aside0 (((w19.setCell ⟨gb211, 0, none⟩ (.int .i64 ((rd_T35 l1 x13_1).f4.f1.f0))).setCell ⟨gb211, 1, none⟩ (.int .i64 ((rd_T35 l1 x13_1).f4.f1.f1))).heap[gb209]? = some (.cells (e35_ (rd_T35 l1 x13_1)) 35 (0, 0))) := ⟨blf_⟩
      have n3_ : Aside0 (((w19.setCell ⟨gb211, 0, none⟩ (.int .i64 ((rd_T35 l1 x13_1).f4.f1.f0))).setCell ⟨gb211, 1, none⟩ (.int .i64 ((rd_T35 l1 x13_1).f4.f1.f1))).heap[gb211]? = some (.cells #[.int .i64 ((rd_T35 l1 x13_1).f4.f1.f0), .int .i64 ((rd_T35 l1 x13_1).f4.f1.f1)] 24 (0, 0))) := ⟨by (with_reducible repeat (first | refine zN ?_ _ | refine zD ?_ | refine zA ?_ _)); refine blk_put (cs := #[.int .i64 ((rd_T35 l1 x13_1).f4.f1.f0), .int .i64 0]) ?_ 1 _ rfl; (with_reducible repeat (first | refine zN ?_ _ | refine zD ?_ | refine zA ?_ _)); refine blk_put (cs := #[.int .i64 0, .int .i64 0]) ?_ 0 _ rfl; (with_reducible repeat (first | refine zN ?_ _ | refine zD ?_ | refine zA ?_ _)); exact BK211.out⟩
      have n4_ : Aside0 (Below w.heap.size w ((w19.setCell ⟨gb211, 0, none⟩ (.int .i64 ((rd_T35 l1 x13_1).f4.f1.f0))).setCell ⟨gb211, 1, none⟩ (.int .i64 ((rd_T35 l1 x13_1).f4.f1.f1)))) := ⟨bel_⟩
      (try clear HO_5)
      (try clear BK203)
      (try clear BK209)
      (try clear BK211)
      (try clear HB)
      generalize ((w19.setCell ⟨gb211, 0, none⟩ (.int .i64 ((rd_T35 l1 x13_1).f4.f1.f0))).setCell ⟨gb211, 1, none⟩ (.int .i64 ((rd_T35 l1 x13_1).f4.f1.f1))) = w23 at n0_ n1_ n2_ n3_ n4_ ⊢
      have HO_5 := n0_
      have BK203 := n1_
      have BK209 := n2_
      have BK211 := n3_
      have HB := n4_
      clear n0_ n1_ n2_ n3_ n4_
      replace HO_5 := zM (Kd.R_drew HO_5.out)
      replace BK203 := zM (zD BK203.out)
      replace BK209 := zM (zD BK209.out)
      replace BK211 := zM (zD BK211.out)
      replace HB := zM (below_drew1 HB.out)
      refine start_ (n := 22) (S := fun w' => w'.cell? ⟨gb203, 0, none⟩ = some (.int .i64 a0_0) ∧ w'.cell? ⟨gb203, 1, none⟩ = some (.int .i64 a0_1) ∧ w'.cell? ⟨gb211, 0, none⟩ = some (.int .i64 ((rd_T35 l1 x13_1).f4.f1.f0)) ∧ w'.cell? ⟨gb211, 1, none⟩ = some (.int .i64 ((rd_T35 l1 x13_1).f4.f1.f1)) ∧ w'.cell? ⟨gb209, 0, none⟩ = some (.int .i64 ((rd_T35 l1 x13_1).f0)) ∧ w'.cell? ⟨gb209, 1, none⟩ = some (.int .i64 ((rd_T35 l1 x13_1).f1)) ∧ w'.cell? ⟨gb209, 2, none⟩ = some (.int .i64 ((rd_T35 l1 x13_1).f2)) ∧ w'.cell? ⟨gb209, 3, none⟩ = some (.int .i64 ((rd_T35 l1 x13_1).f3.f0)) ∧ w'.cell? ⟨gb209, 4, none⟩ = some (.int .i64 ((rd_T35 l1 x13_1).f3.f1)) ∧ w'.cell? ⟨gb209, 5, none⟩ = some (.float .f64 ((rd_T35 l1 x13_1).f3.f2)) ∧ w'.cell? ⟨gb209, 6, none⟩ = some (.int .i64 ((rd_T35 l1 x13_1).f3.f3.f0)) ∧ w'.cell? ⟨gb209, 7, none⟩ = some (.int .i64 ((rd_T35 l1 x13_1).f3.f3.f1)) ∧ w'.cell? ⟨gb209, 8, none⟩ = some (.int .i64 ((rd_T35 l1 x13_1).f4.f0)) ∧ w'.cell? ⟨gb209, 9, none⟩ = some (.int .i64 ((rd_T35 l1 x13_1).f4.f1.f0)) ∧ w'.cell? ⟨gb209, 10, none⟩ = some (.int .i64 ((rd_T35 l1 x13_1).f4.f1.f1)) ∧ w'.cell? ⟨gb209, 11, none⟩ = some (.int .i64 ((rd_T35 l1 x13_1).f4.f2.f0)) ∧ w'.cell? ⟨gb209, 12, none⟩ = some (.int .i64 ((rd_T35 l1 x13_1).f4.f2.f1.f0)) ∧ w'.cell? ⟨gb209, 13, none⟩ = some (.int .i64 ((rd_T35 l1 x13_1).f4.f2.f1.f1)) ∧ w'.cell? ⟨gb209, 14, none⟩ = some (.float .f64 ((rd_T35 l1 x13_1).f4.f2.f2))) (ds := []) #[F_, F_, F_, F_, F_, F_, F_, F_, F_, F_, F_, F_, F_, F_, F_, F_, F_, F_, F_, F_, F_, F_] (by kernel_rfl) rfl rfl ⟨(zL BK203.out 0).trans rfl, (zL BK203.out 1).trans rfl, (zL BK211.out 0).trans rfl, (zL BK211.out 1).trans rfl, (zL BK209.out 0).trans rfl, (zL BK209.out 1).trans rfl, (zL BK209.out 2).trans rfl, (zL BK209.out 3).trans rfl, (zL BK209.out 4).trans rfl, (zL BK209.out 5).trans rfl, (zL BK209.out 6).trans rfl, (zL BK209.out 7).trans rfl, (zL BK209.out 8).trans rfl, (zL BK209.out 9).trans rfl, (zL BK209.out 10).trans rfl, (zL BK209.out 11).trans rfl, (zL BK209.out 12).trans rfl, (zL BK209.out 13).trans rfl, (zL BK209.out 14).trans rfl⟩ (fun hHeld => ?_); refine with_tabW past_Views.tab7 past_Views.bits7 (fun HT_ HW_ => ?_)
      generalize w23.drew = w24 at HO_5 BK203 BK209 BK211 HB hHeld ⊢
      refine pure_ (i := 2) (N := some 25) (v := ?_) (a' := ?_) #[F_, F_, T_, F_, F_, F_, F_, F_, F_, F_, F_, F_, F_, F_, F_, F_, F_, F_, F_, F_, F_, F_] rfl rfl (any_of HT_.out (by kernel_rfl)) (fun _ _ _ h => h) (Or.inl ⟨by rfl, ?_⟩) ?_ ?_
      rotate_left
      · intro w'
        go_simp
        with_reducible rfl
      rotate_left
      · simp only [Act.put, zS, zZ, zC, i64_w, i32_w]
        rfl
      refine pure_ (i := 3) (N := some 26) (v := ?_) (a' := ?_) #[F_, F_, T_, T_, F_, F_, F_, F_, F_, F_, F_, F_, F_, F_, F_, F_, F_, F_, F_, F_, F_, F_] rfl rfl (any_of HT_.out (by kernel_rfl)) (fun _ _ _ h => h) (Or.inl ⟨by rfl, ?_⟩) ?_ ?_
      rotate_left
      · intro w'
        go_simp
        with_reducible rfl
      rotate_left
      · simp only [Act.put, zS, zZ, zC, i64_w, i32_w]
        rfl
      refine take_ (i := 0) (N := some 23) (v := ?_) (a' := ?_) #[T_, F_, T_, T_, F_, F_, F_, F_, F_, F_, F_, F_, F_, F_, F_, F_, F_, F_, F_, F_, F_, F_] rfl rfl (take_ofW HT_.out HW_.out (by kernel_rfl)) (fun _ _ _ h => h) (Or.inl ⟨by rfl, ?_⟩) hHeld ?_ ?_
      rotate_left
      · rintro w' ⟨s0, s1, s2, s3, s4, s5, s6, s7, s8, s9, s10, s11, s12, s13, s14, s15, s16, s17, s18⟩
        go_simp
        with_reducible rfl
      rotate_left
      · simp only [Act.put, zS, zZ, zC, i64_w, i32_w]
        rfl
      refine take_ (i := 1) (N := some 24) (v := ?_) (a' := ?_) #[T_, T_, T_, T_, F_, F_, F_, F_, F_, F_, F_, F_, F_, F_, F_, F_, F_, F_, F_, F_, F_, F_] rfl rfl (take_ofW HT_.out HW_.out (by kernel_rfl)) (fun _ _ _ h => h) (Or.inl ⟨by rfl, ?_⟩) hHeld ?_ ?_
      rotate_left
      · rintro w' ⟨s0, s1, s2, s3, s4, s5, s6, s7, s8, s9, s10, s11, s12, s13, s14, s15, s16, s17, s18⟩
        go_simp
        with_reducible rfl
      rotate_left
      · simp only [Act.put, zS, zZ, zC, i64_w, i32_w]
        rfl
      refine take_ (i := 4) (N := some 27) (v := ?_) (a' := ?_) #[T_, T_, T_, T_, T_, F_, F_, F_, F_, F_, F_, F_, F_, F_, F_, F_, F_, F_, F_, F_, F_, F_] rfl rfl (take_ofW HT_.out HW_.out (by kernel_rfl)) (fun _ _ _ h => h) (Or.inl ⟨by rfl, ?_⟩) hHeld ?_ ?_
      rotate_left
      · rintro w' ⟨s0, s1, s2, s3, s4, s5, s6, s7, s8, s9, s10, s11, s12, s13, s14, s15, s16, s17, s18⟩
        go_simp
        with_reducible rfl
      rotate_left
      · simp only [Act.put, zS, zZ, zC, i64_w, i32_w]
        rfl
      refine take_ (i := 6) (N := some 29) (v := ?_) (a' := ?_) #[T_, T_, T_, T_, T_, F_, T_, F_, F_, F_, F_, F_, F_, F_, F_, F_, F_, F_, F_, F_, F_, F_] rfl rfl (take_ofW HT_.out HW_.out (by kernel_rfl)) (fun _ _ _ h => h) (Or.inl ⟨by rfl, ?_⟩) hHeld ?_ ?_
      rotate_left
      · rintro w' ⟨s0, s1, s2, s3, s4, s5, s6, s7, s8, s9, s10, s11, s12, s13, s14, s15, s16, s17, s18⟩
        go_simp
        with_reducible rfl
      rotate_left
      · simp only [Act.put, zS, zZ, zC, i64_w, i32_w]
        rfl
      refine one_ (i := 5) (N := some 28) #[T_, T_, T_, T_, T_, T_, T_, F_, F_, F_, F_, F_, F_, F_, F_, F_, F_, F_, F_, F_, F_, F_] rfl rfl (one_of HT_.out (by kernel_rfl)) (by decide) (fun K hK => ?_)
      refine goes_ Try.func27 (by kernel_rfl) rfl #[.agg #[.int .i64 a0_0, .int .i64 a0_1], .agg #[.int .i64 ((rd_T35 l1 x13_1).f4.f1.f0), .int .i64 ((rd_T35 l1 x13_1).f4.f1.f1)], .slice (some ad208) l1.length c1, .int .i64 ((rd_T35 l1 x13_1).f2)] (by rfl) rfl rfl (by (try simp only [List.map_toArray, List.map_cons, List.map_nil]); first | done | rfl | (simp only [List.length_drop, List.length_take]; rfl)) ?_
      with_reducible refine (past_made.calls k1 a0_0 a0_1 ((rd_T35 l1 x13_1).f4.f1.f0) ((rd_T35 l1 x13_1).f4.f1.f1) _ _ l1 ((rd_T35 l1 x13_1).f2) t212 t213 _ ?side1 ?side2 A12.out).mono ?_
      (case side1 => repeat (first | exact (Kd.C_below HR1.out HB.out) | (with_reducible refine Kd.C_alloc ?_ _) | (with_reducible refine Kd.C_drewN ?_ _) | (with_reducible refine Kd.C_drew ?_)))
      (case side2 => exact HC1.out)
      rintro e w25 ⟨rfl, hb⟩
      refine ⟨_, rfl, ?_⟩
      replace HO_5 := zM (Kd.R_below (rl_ HO_5) hb)
      replace BK203 := zM (bb_ BK203 hb)
      replace BK209 := zM (bb_ BK209 hb)
      replace BK211 := zM (bb_ BK211 hb)
      replace HB := zM (zB bel_ hb)
      (try clear hb)
      (try clear hb2)
      (try clear hk)
      (try clear hi)
      refine hK.out _ _ ⟨(zL BK203.out 0).trans rfl, (zL BK203.out 1).trans rfl, (zL BK211.out 0).trans rfl, (zL BK211.out 1).trans rfl, (zL BK209.out 0).trans rfl, (zL BK209.out 1).trans rfl, (zL BK209.out 2).trans rfl, (zL BK209.out 3).trans rfl, (zL BK209.out 4).trans rfl, (zL BK209.out 5).trans rfl, (zL BK209.out 6).trans rfl, (zL BK209.out 7).trans rfl, (zL BK209.out 8).trans rfl, (zL BK209.out 9).trans rfl, (zL BK209.out 10).trans rfl, (zL BK209.out 11).trans rfl, (zL BK209.out 12).trans rfl, (zL BK209.out 13).trans rfl, (zL BK209.out 14).trans rfl⟩ (fun hHeld => ?_)
      clear hK K
      refine norm_ (a' := ?_) ?_ ?_
      rotate_left
      · show Act.put _ (some 28) _ = _
        simp only [Act.put, zS, zZ, zC, i64_w, i32_w]
        rfl
      refine pure_ (i := 7) (N := some 30) (v := ?_) (a' := ?_) #[T_, T_, T_, T_, T_, T_, T_, T_, F_, F_, F_, F_, F_, F_, F_, F_, F_, F_, F_, F_, F_, F_] rfl rfl (any_of HT_.out (by kernel_rfl)) (fun _ _ _ h => h) (Or.inl ⟨by rfl, ?_⟩) ?_ ?_
      rotate_left
      · intro w'
        go_simp
        with_reducible rfl
      rotate_left
      · simp only [Act.put, zS, zZ, zC, i64_w, i32_w]
        rfl
      refine pure_ (i := 8) (N := some 31) (v := ?_) (a' := ?_) #[T_, T_, T_, T_, T_, T_, T_, T_, T_, F_, F_, F_, F_, F_, F_, F_, F_, F_, F_, F_, F_, F_] rfl rfl (any_of HT_.out (by kernel_rfl)) (fun _ _ _ h => h) (Or.inl ⟨by rfl, ?_⟩) ?_ ?_
      rotate_left
      · intro w'
        go_simp
        with_reducible rfl
      rotate_left
      · simp only [Act.put, zS, zZ, zC, i64_w, i32_w]
        rfl
      refine pure_ (i := 9) (N := some 32) (v := undef) (a' := ?_) #[T_, T_, T_, T_, T_, T_, T_, T_, T_, T_, F_, F_, F_, F_, F_, F_, F_, F_, F_, F_, F_, F_] rfl rfl (any_of HT_.out (by kernel_rfl)) (fun _ _ _ h => h) (Or.inr ⟨by rfl, rfl⟩) ?_ ?_
      rotate_left
      · simp only [Act.put, zS, zZ, zC, i64_w, i32_w]
        rfl
      refine pure_ (i := 10) (N := some 33) (v := undef) (a' := ?_) #[T_, T_, T_, T_, T_, T_, T_, T_, T_, T_, T_, F_, F_, F_, F_, F_, F_, F_, F_, F_, F_, F_] rfl rfl (any_of HT_.out (by kernel_rfl)) (fun _ _ _ h => h) (Or.inr ⟨by rfl, rfl⟩) ?_ ?_
      rotate_left
      · simp only [Act.put, zS, zZ, zC, i64_w, i32_w]
        rfl
      refine pure_ (i := 11) (N := some 34) (v := undef) (a' := ?_) #[T_, T_, T_, T_, T_, T_, T_, T_, T_, T_, T_, T_, F_, F_, F_, F_, F_, F_, F_, F_, F_, F_] rfl rfl (any_of HT_.out (by kernel_rfl)) (fun _ _ _ h => h) (Or.inr ⟨by rfl, rfl⟩) ?_ ?_
      rotate_left
      · simp only [Act.put, zS, zZ, zC, i64_w, i32_w]
        rfl
      refine pure_ (i := 12) (N := some 35) (v := undef) (a' := ?_) #[T_, T_, T_, T_, T_, T_, T_, T_, T_, T_, T_, T_, T_, F_, F_, F_, F_, F_, F_, F_, F_, F_] rfl rfl (any_of HT_.out (by kernel_rfl)) (fun _ _ _ h => h) (Or.inr ⟨by rfl, rfl⟩) ?_ ?_
      rotate_left
      · simp only [Act.put, zS, zZ, zC, i64_w, i32_w]
        rfl
      refine pure_ (i := 13) (N := some 36) (v := undef) (a' := ?_) #[T_, T_, T_, T_, T_, T_, T_, T_, T_, T_, T_, T_, T_, T_, F_, F_, F_, F_, F_, F_, F_, F_] rfl rfl (any_of HT_.out (by kernel_rfl)) (fun _ _ _ h => h) (Or.inr ⟨by rfl, rfl⟩) ?_ ?_
      rotate_left
      · simp only [Act.put, zS, zZ, zC, i64_w, i32_w]
        rfl
      refine pure_ (i := 14) (N := some 37) (v := undef) (a' := ?_) #[T_, T_, T_, T_, T_, T_, T_, T_, T_, T_, T_, T_, T_, T_, T_, F_, F_, F_, F_, F_, F_, F_] rfl rfl (any_of HT_.out (by kernel_rfl)) (fun _ _ _ h => h) (Or.inr ⟨by rfl, rfl⟩) ?_ ?_
      rotate_left
      · simp only [Act.put, zS, zZ, zC, i64_w, i32_w]
        rfl
      refine pure_ (i := 15) (N := some 38) (v := undef) (a' := ?_) #[T_, T_, T_, T_, T_, T_, T_, T_, T_, T_, T_, T_, T_, T_, T_, T_, F_, F_, F_, F_, F_, F_] rfl rfl (any_of HT_.out (by kernel_rfl)) (fun _ _ _ h => h) (Or.inr ⟨by rfl, rfl⟩) ?_ ?_
      rotate_left
      · simp only [Act.put, zS, zZ, zC, i64_w, i32_w]
        rfl
      refine pure_ (i := 16) (N := some 39) (v := undef) (a' := ?_) #[T_, T_, T_, T_, T_, T_, T_, T_, T_, T_, T_, T_, T_, T_, T_, T_, T_, F_, F_, F_, F_, F_] rfl rfl (any_of HT_.out (by kernel_rfl)) (fun _ _ _ h => h) (Or.inr ⟨by rfl, rfl⟩) ?_ ?_
      rotate_left
      · simp only [Act.put, zS, zZ, zC, i64_w, i32_w]
        rfl
      refine pure_ (i := 17) (N := some 40) (v := undef) (a' := ?_) #[T_, T_, T_, T_, T_, T_, T_, T_, T_, T_, T_, T_, T_, T_, T_, T_, T_, T_, F_, F_, F_, F_] rfl rfl (any_of HT_.out (by kernel_rfl)) (fun _ _ _ h => h) (Or.inr ⟨by rfl, rfl⟩) ?_ ?_
      rotate_left
      · simp only [Act.put, zS, zZ, zC, i64_w, i32_w]
        rfl
      refine pure_ (i := 18) (N := some 41) (v := undef) (a' := ?_) #[T_, T_, T_, T_, T_, T_, T_, T_, T_, T_, T_, T_, T_, T_, T_, T_, T_, T_, T_, F_, F_, F_] rfl rfl (any_of HT_.out (by kernel_rfl)) (fun _ _ _ h => h) (Or.inr ⟨by rfl, rfl⟩) ?_ ?_
      rotate_left
      · simp only [Act.put, zS, zZ, zC, i64_w, i32_w]
        rfl
      refine pure_ (i := 19) (N := some 42) (v := undef) (a' := ?_) #[T_, T_, T_, T_, T_, T_, T_, T_, T_, T_, T_, T_, T_, T_, T_, T_, T_, T_, T_, T_, F_, F_] rfl rfl (any_of HT_.out (by kernel_rfl)) (fun _ _ _ h => h) (Or.inr ⟨by rfl, rfl⟩) ?_ ?_
      rotate_left
      · simp only [Act.put, zS, zZ, zC, i64_w, i32_w]
        rfl
      refine pure_ (i := 20) (N := some 43) (v := undef) (a' := ?_) #[T_, T_, T_, T_, T_, T_, T_, T_, T_, T_, T_, T_, T_, T_, T_, T_, T_, T_, T_, T_, T_, F_] rfl rfl (any_of HT_.out (by kernel_rfl)) (fun _ _ _ h => h) (Or.inr ⟨by rfl, rfl⟩) ?_ ?_
      rotate_left
      · simp only [Act.put, zS, zZ, zC, i64_w, i32_w]
        rfl
      refine pure_ (i := 21) (N := some 44) (v := ?_) (a' := ?_) #[T_, T_, T_, T_, T_, T_, T_, T_, T_, T_, T_, T_, T_, T_, T_, T_, T_, T_, T_, T_, T_, T_] rfl rfl (any_of HT_.out (by kernel_rfl)) (fun _ _ _ h => h) (Or.inl ⟨by rfl, ?_⟩) ?_ ?_
      rotate_left
      · intro w'
        go_simp
        with_reducible rfl
      rotate_left
      · simp only [Act.put, zS, zZ, zC, i64_w, i32_w]
        rfl
      refine done_ (done_of HT_.out (by kernel_rfl)) ?_
      try go_wp2
      go_ret
      exact ⟨by first | rfl | (simp [errW_none, errW_some] <;> rfl) | (simp [*, errW_none, errW_some] <;> rfl), bel_⟩
    rw [if_neg c13] at H
    have c13b0 : (!(t212 == ((rd_T35 l1 x13_1).f4.f1.f0)) || (!(t213 == ((rd_T35 l1 x13_1).f4.f1.f1)))) = false := by simpa using c13
    clear c13
    by_cases c26 : ((rd_T35 l1 x13_1).f3.f0) = 2
    rotate_left
    · rw [if_neg c26] at H
      have c26b0 : (((rd_T35 l1 x13_1).f3.f0) == 2) = false := beq_eq_false_iff_ne.mpr c26
      have c26b1 : (((rd_T35 l1 x13_1).f3.f0) != 2) = true := bne_iff_ne.mpr c26
      by_cases c58 : x5_1.length < 8796093022208
      rotate_left
      · rw [if_neg c58] at H
        exact absurd H (by simp)
      rw [if_pos c58] at H
      have LMc58 := zM c58
      clear c58
      obtain ⟨y218, hy218⟩ : ∃ y_ : List (S24), y_ = (x5_1 ++ [(⟨(rd_T35 l1 x13_1).f4.f1.f0, (rd_T35 l1 x13_1).f4.f1.f1⟩ : S24)]) := ⟨_, rfl⟩
      replace H : (past_Views.l0 k1 l1 y218 l1 (l1.length : Int) (wrap64 (x13_1 + 1)) a0_0 a0_1) = some r := by first | (rw [hy218]; with_reducible exact H) | (have H2_ := (Option.bind_some _ _).symm.trans H; rw [hy218]; with_reducible exact H2_) | (have H2_ := (Option.bind_some _ _).symm.trans H; with_reducible exact H2_) | with_reducible exact H | (rw [hy218]; exact H) | exact H
      have Ny218 := zM hy218
      clear hy218
      have H' := zM H
      clear H
      have p208 : 0 ≤ (x13_1 : Int) := of_decide_eq_true (by first | (with_reducible assumption) | assumption)
      have q208 : x13_1 < (l1.length : Int) := of_decide_eq_true (by first | (with_reducible assumption) | assumption)
      obtain ⟨ad208, e208, hx208_0, hx208_1, hx208_2, hx208_3, hx208_4, hx208_5, hx208_6, hx208_7, hx208_8, hx208_9, hx208_10, hx208_11, hx208_12, hx208_13, hx208_14⟩ := at_T35 HR1.out x13_1 p208 q208
      cases e208
      replace hx208_0 := (HB.out.cell (World.block_lt_of_cell? w _ hx208_0)).trans hx208_0
      replace hx208_1 := (HB.out.cell (World.block_lt_of_cell? w _ hx208_1)).trans hx208_1
      replace hx208_2 := (HB.out.cell (World.block_lt_of_cell? w _ hx208_2)).trans hx208_2
      replace hx208_3 := (HB.out.cell (World.block_lt_of_cell? w _ hx208_3)).trans hx208_3
      replace hx208_4 := (HB.out.cell (World.block_lt_of_cell? w _ hx208_4)).trans hx208_4
      replace hx208_5 := (HB.out.cell (World.block_lt_of_cell? w _ hx208_5)).trans hx208_5
      replace hx208_6 := (HB.out.cell (World.block_lt_of_cell? w _ hx208_6)).trans hx208_6
      replace hx208_7 := (HB.out.cell (World.block_lt_of_cell? w _ hx208_7)).trans hx208_7
      replace hx208_8 := (HB.out.cell (World.block_lt_of_cell? w _ hx208_8)).trans hx208_8
      replace hx208_9 := (HB.out.cell (World.block_lt_of_cell? w _ hx208_9)).trans hx208_9
      replace hx208_10 := (HB.out.cell (World.block_lt_of_cell? w _ hx208_10)).trans hx208_10
      replace hx208_11 := (HB.out.cell (World.block_lt_of_cell? w _ hx208_11)).trans hx208_11
      replace hx208_12 := (HB.out.cell (World.block_lt_of_cell? w _ hx208_12)).trans hx208_12
      replace hx208_13 := (HB.out.cell (World.block_lt_of_cell? w _ hx208_13)).trans hx208_13
      replace hx208_14 := (HB.out.cell (World.block_lt_of_cell? w _ hx208_14)).trans hx208_14
      replace p208 := eq_true p208
      replace q208 := eq_true q208
      try go_wp2_with (first | ((with_reducible refine gld_ (t := 35) ?_); (try (refine gate_guard (by rfl) ?_; dsimp only)); first | refine wl15_ rfl 35 _ rfl rfl Try.underlying35 rfl (by kernel_rfl) ?_ | refine wlr15_ rfl 35 _ rfl rfl Try.underlying35 rfl (by kernel_rfl) ?_) | ((with_reducible refine gst_ (t := 35) ?_); refine ws15_ rfl 35 _ _ rfl rfl rfl (by kernel_rfl) ?_) | ((with_reducible refine gate_dst (N := 7) rfl ?_); refine box_event ?hg (N := 7) ?hd (cs := #[.int .i64 0, .int .i64 0, .int .i64 0, .int .i64 0, .int .i64 0, .float .f64 0, .int .i64 0, .int .i64 0, .int .i64 0, .int .i64 0, .int .i64 0, .int .i64 0, .int .i64 0, .int .i64 0, .float .f64 0]) (t := 35) ?hr ?_; (case hd => rfl); (case hg => rfl); (case hr => first | (go_simp; done) | (go_simp; rfl)); intro gb209 hg w59 hbox hb; replace HO_5 := zM (Kd.R_below (rl_ HO_5) hb); have BK209 := zM (hbox); have GW209 := zM (bs_ hg); have GE209 := zM (bs_ hg); replace HB := zM (zB bel_ hb); have NB203_209 := zM (nl_ BK203 hg); have NB209_203 := zM (ng_ BK203 hg); replace BK203 := zM (bb_ BK203 hb); clear hb hbox hg; have hnb60 := NB209_203.out; have hnc60 := NB203_209.out; obtain ⟨hcz61_0, hcz61_1, hcz61_2, hcz61_3, hcz61_4, hcz61_5, hcz61_6, hcz61_7, hcz61_8, hcz61_9, hcz61_10, hcz61_11, hcz61_12, hcz61_13, hcz61_14⟩ := r15_ BK209.out; obtain ⟨hfz61_0, hfz61_1, hfz61_2, hfz61_3, hfz61_4, hfz61_5, hfz61_6, hfz61_7, hfz61_8, hfz61_9, hfz61_10, hfz61_11, hfz61_12, hfz61_13, hfz61_14⟩ := f15_ BK209.out) | ((with_reducible refine gate_callee (f := 11) rfl ?_); refine goL_ (some 18) Try.func11 #[.agg (e35_ (rd_T35 l1 x13_1))] ?_; (with_reducible refine (past_Well.calls ((rd_T35 l1 x13_1).f0) ((rd_T35 l1 x13_1).f1) ((rd_T35 l1 x13_1).f2) ((rd_T35 l1 x13_1).f3.f0) ((rd_T35 l1 x13_1).f3.f1) ((rd_T35 l1 x13_1).f3.f2) ((rd_T35 l1 x13_1).f3.f3.f0) ((rd_T35 l1 x13_1).f3.f3.f1) ((rd_T35 l1 x13_1).f4.f0) ((rd_T35 l1 x13_1).f4.f1.f0) ((rd_T35 l1 x13_1).f4.f1.f1) ((rd_T35 l1 x13_1).f4.f2.f0) ((rd_T35 l1 x13_1).f4.f2.f1.f0) ((rd_T35 l1 x13_1).f4.f2.f1.f1) ((rd_T35 l1 x13_1).f4.f2.f2) true _ A10.out).mono ?_); rintro e w62 ⟨rfl, hb⟩; refine ⟨_, rfl, ?_⟩; replace HO_5 := zM (Kd.R_below (by (with_reducible repeat (first | apply Kd.R_alloc | apply Kd.R_drewN | apply Kd.R_drew)); exact (Kd.R_mono (Kd.R_far (p := ⟨gb209, 14, none⟩) (Kd.R_far (p := ⟨gb209, 13, none⟩) (Kd.R_far (p := ⟨gb209, 12, none⟩) (Kd.R_far (p := ⟨gb209, 11, none⟩) (Kd.R_far (p := ⟨gb209, 10, none⟩) (Kd.R_far (p := ⟨gb209, 9, none⟩) (Kd.R_far (p := ⟨gb209, 8, none⟩) (Kd.R_far (p := ⟨gb209, 7, none⟩) (Kd.R_far (p := ⟨gb209, 6, none⟩) (Kd.R_far (p := ⟨gb209, 5, none⟩) (Kd.R_far (p := ⟨gb209, 4, none⟩) (Kd.R_far (p := ⟨gb209, 3, none⟩) (Kd.R_far (p := ⟨gb209, 2, none⟩) (Kd.R_far (p := ⟨gb209, 1, none⟩) (Kd.R_far (p := ⟨gb209, 0, none⟩) (Kd.R_types HO_5.out BK209.out (by decide)) (fun _ hk => hk.2) (.int .i64 ((rd_T35 l1 x13_1).f0))) (fun _ hk => hk.2) (.int .i64 ((rd_T35 l1 x13_1).f1))) (fun _ hk => hk.2) (.int .i64 ((rd_T35 l1 x13_1).f2))) (fun _ hk => hk.2) (.int .i64 ((rd_T35 l1 x13_1).f3.f0))) (fun _ hk => hk.2) (.int .i64 ((rd_T35 l1 x13_1).f3.f1))) (fun _ hk => hk.2) (.float .f64 ((rd_T35 l1 x13_1).f3.f2))) (fun _ hk => hk.2) (.int .i64 ((rd_T35 l1 x13_1).f3.f3.f0))) (fun _ hk => hk.2) (.int .i64 ((rd_T35 l1 x13_1).f3.f3.f1))) (fun _ hk => hk.2) (.int .i64 ((rd_T35 l1 x13_1).f4.f0))) (fun _ hk => hk.2) (.int .i64 ((rd_T35 l1 x13_1).f4.f1.f0))) (fun _ hk => hk.2) (.int .i64 ((rd_T35 l1 x13_1).f4.f1.f1))) (fun _ hk => hk.2) (.int .i64 ((rd_T35 l1 x13_1).f4.f2.f0))) (fun _ hk => hk.2) (.int .i64 ((rd_T35 l1 x13_1).f4.f2.f1.f0))) (fun _ hk => hk.2) (.int .i64 ((rd_T35 l1 x13_1).f4.f2.f1.f1))) (fun _ hk => hk.2) (.float .f64 ((rd_T35 l1 x13_1).f4.f2.f2))) (fun _ h_ => h_.1))) hb); replace BK203 := zM (blk_below (g := gb203) (o := .cells #[.int .i64 a0_0, .int .i64 a0_1] 24 (0, 0)) blf_ hb); replace BK209 := zM (blk_below (g := gb209) (o := .cells (e35_ (rd_T35 l1 x13_1)) 35 (0, 0)) (by (with_reducible repeat (first | refine zN ?_ _ | refine zD ?_ | refine zA ?_ _)); exact fx15_ BK209) hb); replace HB := zM (zB bel_ hb); (try clear hb); (try clear hb2); (try clear hk); (try clear hi); obtain ⟨hcz63_0, hcz63_1, hcz63_2, hcz63_3, hcz63_4, hcz63_5, hcz63_6, hcz63_7, hcz63_8, hcz63_9, hcz63_10, hcz63_11, hcz63_12, hcz63_13, hcz63_14⟩ := r15_ BK209.out; obtain ⟨hfz63_0, hfz63_1, hfz63_2, hfz63_3, hfz63_4, hfz63_5, hfz63_6, hfz63_7, hfz63_8, hfz63_9, hfz63_10, hfz63_11, hfz63_12, hfz63_13, hfz63_14⟩ := f15_ BK209.out) | ((with_reducible refine gate_dst (N := 8) rfl ?_); refine box_event ?hg (N := 8) ?hd (cs := #[.int .i64 0, .int .i64 0]) (t := 24) ?hr ?_; (case hd => rfl); (case hg => rfl); (case hr => first | (go_simp; done) | (go_simp; rfl)); intro gb211 hg w64 hbox hb; replace HO_5 := zM (Kd.R_below (Kd.R_elderB (rl_ HO_5) gb211 (Nat.le_of_eq hg.symm)) hb); have BK211 := zM (hbox); have GW211 := zM (bs_ hg); have GE211 := zM (bs_ hg); replace HB := zM (zB bel_ hb); have NB203_211 := zM (nl_ BK203 hg); have NB211_203 := zM (ng_ BK203 hg); replace BK203 := zM (bb_ BK203 hb); have NB209_211 := zM (nl_ BK209 hg); have NB211_209 := zM (ng_ BK209 hg); replace BK209 := zM (bb_ BK209 hb); clear hb hbox hg; have hnb65 := NB211_203.out; have hnc65 := NB203_211.out; have hnb66 := NB211_209.out; have hnc66 := NB209_211.out; have hcz67_0 : w64.cell? ⟨gb211, 0, none⟩ = some (.int .i64 0) := (zL BK211.out 0).trans rfl; have hcz67_1 : w64.cell? ⟨gb211, 1, none⟩ = some (.int .i64 0) := (zL BK211.out 1).trans rfl; have hfz67_0 := zF BK211.out 0; have hfz67_1 := zF BK211.out 1))
      have n0_ : Aside0 (Kd.R k24 24 ((w64.setCell ⟨gb211, 0, none⟩ (.int .i64 ((rd_T35 l1 x13_1).f4.f1.f0))).setCell ⟨gb211, 1, none⟩ (.int .i64 ((rd_T35 l1 x13_1).f4.f1.f1))) w.heap.size (fun k_ => k_ ≠ gb203 ∧ k_ ≠ gb211) u5 x5_1) := ⟨by (with_reducible repeat (first | apply Kd.R_alloc | apply Kd.R_drewN | apply Kd.R_drew)); exact Kd.R_mono (Kd.R_far (p := ⟨gb211, 1, none⟩) (Kd.R_far (p := ⟨gb211, 0, none⟩) (Kd.R_mono HO_5.out (fun k_ hk => (⟨hk, hk.2⟩ : _ ∧ k_ ≠ gb211))) (fun _ hk => hk.2) (.int .i64 ((rd_T35 l1 x13_1).f4.f1.f0))) (fun _ hk => hk.2) (.int .i64 ((rd_T35 l1 x13_1).f4.f1.f1))) (fun _ hk => ⟨hk.1.1, hk.1.2⟩)⟩
      have n1_ : Aside0 (((w64.setCell ⟨gb211, 0, none⟩ (.int .i64 ((rd_T35 l1 x13_1).f4.f1.f0))).setCell ⟨gb211, 1, none⟩ (.int .i64 ((rd_T35 l1 x13_1).f4.f1.f1))).heap[gb203]? = some (.cells #[.int .i64 a0_0, .int .i64 a0_1] 24 (0, 0))) := ⟨blf_⟩
      have n2_ : Aside0 (((w64.setCell ⟨gb211, 0, none⟩ (.int .i64 ((rd_T35 l1 x13_1).f4.f1.f0))).setCell ⟨gb211, 1, none⟩ (.int .i64 ((rd_T35 l1 x13_1).f4.f1.f1))).heap[gb209]? = some (.cells (e35_ (rd_T35 l1 x13_1)) 35 (0, 0))) := ⟨blf_⟩
      have n3_ : Aside0 (((w64.setCell ⟨gb211, 0, none⟩ (.int .i64 ((rd_T35 l1 x13_1).f4.f1.f0))).setCell ⟨gb211, 1, none⟩ (.int .i64 ((rd_T35 l1 x13_1).f4.f1.f1))).heap[gb211]? = some (.cells #[.int .i64 ((rd_T35 l1 x13_1).f4.f1.f0), .int .i64 ((rd_T35 l1 x13_1).f4.f1.f1)] 24 (0, 0))) := ⟨by (with_reducible repeat (first | refine zN ?_ _ | refine zD ?_ | refine zA ?_ _)); refine blk_put (cs := #[.int .i64 ((rd_T35 l1 x13_1).f4.f1.f0), .int .i64 0]) ?_ 1 _ rfl; (with_reducible repeat (first | refine zN ?_ _ | refine zD ?_ | refine zA ?_ _)); refine blk_put (cs := #[.int .i64 0, .int .i64 0]) ?_ 0 _ rfl; (with_reducible repeat (first | refine zN ?_ _ | refine zD ?_ | refine zA ?_ _)); exact BK211.out⟩
      have n4_ : Aside0 (Below w.heap.size w ((w64.setCell ⟨gb211, 0, none⟩ (.int .i64 ((rd_T35 l1 x13_1).f4.f1.f0))).setCell ⟨gb211, 1, none⟩ (.int .i64 ((rd_T35 l1 x13_1).f4.f1.f1)))) := ⟨bel_⟩
      (try clear HO_5)
      (try clear BK203)
      (try clear BK209)
      (try clear BK211)
      (try clear HB)
      generalize ((w64.setCell ⟨gb211, 0, none⟩ (.int .i64 ((rd_T35 l1 x13_1).f4.f1.f0))).setCell ⟨gb211, 1, none⟩ (.int .i64 ((rd_T35 l1 x13_1).f4.f1.f1))) = w68 at n0_ n1_ n2_ n3_ n4_ ⊢
      have HO_5 := n0_
      have BK203 := n1_
      have BK209 := n2_
      have BK211 := n3_
      have HB := n4_
      clear n0_ n1_ n2_ n3_ n4_
      replace HO_5 := zM (Kd.R_drew HO_5.out)
      replace BK203 := zM (zD BK203.out)
      replace BK209 := zM (zD BK209.out)
      replace BK211 := zM (zD BK211.out)
      replace HB := zM (below_drew1 HB.out)
      refine start_ (n := 22) (S := fun w' => w'.cell? ⟨gb203, 0, none⟩ = some (.int .i64 a0_0) ∧ w'.cell? ⟨gb203, 1, none⟩ = some (.int .i64 a0_1) ∧ w'.cell? ⟨gb211, 0, none⟩ = some (.int .i64 ((rd_T35 l1 x13_1).f4.f1.f0)) ∧ w'.cell? ⟨gb211, 1, none⟩ = some (.int .i64 ((rd_T35 l1 x13_1).f4.f1.f1)) ∧ w'.cell? ⟨gb209, 0, none⟩ = some (.int .i64 ((rd_T35 l1 x13_1).f0)) ∧ w'.cell? ⟨gb209, 1, none⟩ = some (.int .i64 ((rd_T35 l1 x13_1).f1)) ∧ w'.cell? ⟨gb209, 2, none⟩ = some (.int .i64 ((rd_T35 l1 x13_1).f2)) ∧ w'.cell? ⟨gb209, 3, none⟩ = some (.int .i64 ((rd_T35 l1 x13_1).f3.f0)) ∧ w'.cell? ⟨gb209, 4, none⟩ = some (.int .i64 ((rd_T35 l1 x13_1).f3.f1)) ∧ w'.cell? ⟨gb209, 5, none⟩ = some (.float .f64 ((rd_T35 l1 x13_1).f3.f2)) ∧ w'.cell? ⟨gb209, 6, none⟩ = some (.int .i64 ((rd_T35 l1 x13_1).f3.f3.f0)) ∧ w'.cell? ⟨gb209, 7, none⟩ = some (.int .i64 ((rd_T35 l1 x13_1).f3.f3.f1)) ∧ w'.cell? ⟨gb209, 8, none⟩ = some (.int .i64 ((rd_T35 l1 x13_1).f4.f0)) ∧ w'.cell? ⟨gb209, 9, none⟩ = some (.int .i64 ((rd_T35 l1 x13_1).f4.f1.f0)) ∧ w'.cell? ⟨gb209, 10, none⟩ = some (.int .i64 ((rd_T35 l1 x13_1).f4.f1.f1)) ∧ w'.cell? ⟨gb209, 11, none⟩ = some (.int .i64 ((rd_T35 l1 x13_1).f4.f2.f0)) ∧ w'.cell? ⟨gb209, 12, none⟩ = some (.int .i64 ((rd_T35 l1 x13_1).f4.f2.f1.f0)) ∧ w'.cell? ⟨gb209, 13, none⟩ = some (.int .i64 ((rd_T35 l1 x13_1).f4.f2.f1.f1)) ∧ w'.cell? ⟨gb209, 14, none⟩ = some (.float .f64 ((rd_T35 l1 x13_1).f4.f2.f2))) (ds := []) #[F_, F_, F_, F_, F_, F_, F_, F_, F_, F_, F_, F_, F_, F_, F_, F_, F_, F_, F_, F_, F_, F_] (by kernel_rfl) rfl rfl ⟨(zL BK203.out 0).trans rfl, (zL BK203.out 1).trans rfl, (zL BK211.out 0).trans rfl, (zL BK211.out 1).trans rfl, (zL BK209.out 0).trans rfl, (zL BK209.out 1).trans rfl, (zL BK209.out 2).trans rfl, (zL BK209.out 3).trans rfl, (zL BK209.out 4).trans rfl, (zL BK209.out 5).trans rfl, (zL BK209.out 6).trans rfl, (zL BK209.out 7).trans rfl, (zL BK209.out 8).trans rfl, (zL BK209.out 9).trans rfl, (zL BK209.out 10).trans rfl, (zL BK209.out 11).trans rfl, (zL BK209.out 12).trans rfl, (zL BK209.out 13).trans rfl, (zL BK209.out 14).trans rfl⟩ (fun hHeld => ?_); refine with_tabW past_Views.tab7 past_Views.bits7 (fun HT_ HW_ => ?_)
      generalize w68.drew = w69 at HO_5 BK203 BK209 BK211 HB hHeld ⊢
      refine pure_ (i := 2) (N := some 25) (v := ?_) (a' := ?_) #[F_, F_, T_, F_, F_, F_, F_, F_, F_, F_, F_, F_, F_, F_, F_, F_, F_, F_, F_, F_, F_, F_] rfl rfl (any_of HT_.out (by kernel_rfl)) (fun _ _ _ h => h) (Or.inl ⟨by rfl, ?_⟩) ?_ ?_
      rotate_left
      · intro w'
        go_simp
        with_reducible rfl
      rotate_left
      · simp only [Act.put, zS, zZ, zC, i64_w, i32_w]
        rfl
      refine pure_ (i := 3) (N := some 26) (v := ?_) (a' := ?_) #[F_, F_, T_, T_, F_, F_, F_, F_, F_, F_, F_, F_, F_, F_, F_, F_, F_, F_, F_, F_, F_, F_] rfl rfl (any_of HT_.out (by kernel_rfl)) (fun _ _ _ h => h) (Or.inl ⟨by rfl, ?_⟩) ?_ ?_
      rotate_left
      · intro w'
        go_simp
        with_reducible rfl
      rotate_left
      · simp only [Act.put, zS, zZ, zC, i64_w, i32_w]
        rfl
      refine take_ (i := 0) (N := some 23) (v := ?_) (a' := ?_) #[T_, F_, T_, T_, F_, F_, F_, F_, F_, F_, F_, F_, F_, F_, F_, F_, F_, F_, F_, F_, F_, F_] rfl rfl (take_ofW HT_.out HW_.out (by kernel_rfl)) (fun _ _ _ h => h) (Or.inl ⟨by rfl, ?_⟩) hHeld ?_ ?_
      rotate_left
      · rintro w' ⟨s0, s1, s2, s3, s4, s5, s6, s7, s8, s9, s10, s11, s12, s13, s14, s15, s16, s17, s18⟩
        go_simp
        with_reducible rfl
      rotate_left
      · simp only [Act.put, zS, zZ, zC, i64_w, i32_w]
        rfl
      refine take_ (i := 1) (N := some 24) (v := ?_) (a' := ?_) #[T_, T_, T_, T_, F_, F_, F_, F_, F_, F_, F_, F_, F_, F_, F_, F_, F_, F_, F_, F_, F_, F_] rfl rfl (take_ofW HT_.out HW_.out (by kernel_rfl)) (fun _ _ _ h => h) (Or.inl ⟨by rfl, ?_⟩) hHeld ?_ ?_
      rotate_left
      · rintro w' ⟨s0, s1, s2, s3, s4, s5, s6, s7, s8, s9, s10, s11, s12, s13, s14, s15, s16, s17, s18⟩
        go_simp
        with_reducible rfl
      rotate_left
      · simp only [Act.put, zS, zZ, zC, i64_w, i32_w]
        rfl
      refine take_ (i := 4) (N := some 27) (v := ?_) (a' := ?_) #[T_, T_, T_, T_, T_, F_, F_, F_, F_, F_, F_, F_, F_, F_, F_, F_, F_, F_, F_, F_, F_, F_] rfl rfl (take_ofW HT_.out HW_.out (by kernel_rfl)) (fun _ _ _ h => h) (Or.inl ⟨by rfl, ?_⟩) hHeld ?_ ?_
      rotate_left
      · rintro w' ⟨s0, s1, s2, s3, s4, s5, s6, s7, s8, s9, s10, s11, s12, s13, s14, s15, s16, s17, s18⟩
        go_simp
        with_reducible rfl
      rotate_left
      · simp only [Act.put, zS, zZ, zC, i64_w, i32_w]
        rfl
      refine take_ (i := 6) (N := some 29) (v := ?_) (a' := ?_) #[T_, T_, T_, T_, T_, F_, T_, F_, F_, F_, F_, F_, F_, F_, F_, F_, F_, F_, F_, F_, F_, F_] rfl rfl (take_ofW HT_.out HW_.out (by kernel_rfl)) (fun _ _ _ h => h) (Or.inl ⟨by rfl, ?_⟩) hHeld ?_ ?_
      rotate_left
      · rintro w' ⟨s0, s1, s2, s3, s4, s5, s6, s7, s8, s9, s10, s11, s12, s13, s14, s15, s16, s17, s18⟩
        go_simp
        with_reducible rfl
      rotate_left
      · simp only [Act.put, zS, zZ, zC, i64_w, i32_w]
        rfl
      refine one_ (i := 5) (N := some 28) #[T_, T_, T_, T_, T_, T_, T_, F_, F_, F_, F_, F_, F_, F_, F_, F_, F_, F_, F_, F_, F_, F_] rfl rfl (one_of HT_.out (by kernel_rfl)) (by decide) (fun K hK => ?_)
      refine goes_ Try.func27 (by kernel_rfl) rfl #[.agg #[.int .i64 a0_0, .int .i64 a0_1], .agg #[.int .i64 ((rd_T35 l1 x13_1).f4.f1.f0), .int .i64 ((rd_T35 l1 x13_1).f4.f1.f1)], .slice (some ad208) l1.length c1, .int .i64 ((rd_T35 l1 x13_1).f2)] (by rfl) rfl rfl (by (try simp only [List.map_toArray, List.map_cons, List.map_nil]); first | done | rfl | (simp only [List.length_drop, List.length_take]; rfl)) ?_
      with_reducible refine (past_made.calls k1 a0_0 a0_1 ((rd_T35 l1 x13_1).f4.f1.f0) ((rd_T35 l1 x13_1).f4.f1.f1) _ _ l1 ((rd_T35 l1 x13_1).f2) t212 t213 _ ?side1 ?side2 A12.out).mono ?_
      (case side1 => repeat (first | exact (Kd.C_below HR1.out HB.out) | (with_reducible refine Kd.C_alloc ?_ _) | (with_reducible refine Kd.C_drewN ?_ _) | (with_reducible refine Kd.C_drew ?_)))
      (case side2 => exact HC1.out)
      rintro e w70 ⟨rfl, hb⟩
      refine ⟨_, rfl, ?_⟩
      replace HO_5 := zM (Kd.R_below (rl_ HO_5) hb)
      replace BK203 := zM (bb_ BK203 hb)
      replace BK209 := zM (bb_ BK209 hb)
      replace BK211 := zM (bb_ BK211 hb)
      replace HB := zM (zB bel_ hb)
      (try clear hb)
      (try clear hb2)
      (try clear hk)
      (try clear hi)
      refine hK.out _ _ ⟨(zL BK203.out 0).trans rfl, (zL BK203.out 1).trans rfl, (zL BK211.out 0).trans rfl, (zL BK211.out 1).trans rfl, (zL BK209.out 0).trans rfl, (zL BK209.out 1).trans rfl, (zL BK209.out 2).trans rfl, (zL BK209.out 3).trans rfl, (zL BK209.out 4).trans rfl, (zL BK209.out 5).trans rfl, (zL BK209.out 6).trans rfl, (zL BK209.out 7).trans rfl, (zL BK209.out 8).trans rfl, (zL BK209.out 9).trans rfl, (zL BK209.out 10).trans rfl, (zL BK209.out 11).trans rfl, (zL BK209.out 12).trans rfl, (zL BK209.out 13).trans rfl, (zL BK209.out 14).trans rfl⟩ (fun hHeld => ?_)
      clear hK K
      refine norm_ (a' := ?_) ?_ ?_
      rotate_left
      · show Act.put _ (some 28) _ = _
        simp only [Act.put, zS, zZ, zC, i64_w, i32_w]
        rfl
      refine pure_ (i := 7) (N := some 30) (v := ?_) (a' := ?_) #[T_, T_, T_, T_, T_, T_, T_, T_, F_, F_, F_, F_, F_, F_, F_, F_, F_, F_, F_, F_, F_, F_] rfl rfl (any_of HT_.out (by kernel_rfl)) (fun _ _ _ h => h) (Or.inl ⟨by rfl, ?_⟩) ?_ ?_
      rotate_left
      · intro w'
        go_simp
        with_reducible rfl
      rotate_left
      · simp only [Act.put, zS, zZ, zC, i64_w, i32_w]
        rfl
      refine pure_ (i := 8) (N := some 31) (v := ?_) (a' := ?_) #[T_, T_, T_, T_, T_, T_, T_, T_, T_, F_, F_, F_, F_, F_, F_, F_, F_, F_, F_, F_, F_, F_] rfl rfl (any_of HT_.out (by kernel_rfl)) (fun _ _ _ h => h) (Or.inl ⟨by rfl, ?_⟩) ?_ ?_
      rotate_left
      · intro w'
        go_simp
        with_reducible rfl
      rotate_left
      · simp only [Act.put, zS, zZ, zC, i64_w, i32_w]
        rfl
      refine pure_ (i := 9) (N := some 32) (v := ?_) (a' := ?_) #[T_, T_, T_, T_, T_, T_, T_, T_, T_, T_, F_, F_, F_, F_, F_, F_, F_, F_, F_, F_, F_, F_] rfl rfl (any_of HT_.out (by kernel_rfl)) (fun _ _ _ h => h) (Or.inl ⟨by rfl, ?_⟩) ?_ ?_
      rotate_left
      · intro w'
        go_simp
        with_reducible rfl
      rotate_left
      · simp only [Act.put, zS, zZ, zC, i64_w, i32_w]
        rfl
      refine pure_ (i := 10) (N := some 33) (v := ?_) (a' := ?_) #[T_, T_, T_, T_, T_, T_, T_, T_, T_, T_, T_, F_, F_, F_, F_, F_, F_, F_, F_, F_, F_, F_] rfl rfl (any_of HT_.out (by kernel_rfl)) (fun _ _ _ h => h) (Or.inl ⟨by rfl, ?_⟩) ?_ ?_
      rotate_left
      · intro w'
        go_simp
        with_reducible rfl
      rotate_left
      · simp only [Act.put, zS, zZ, zC, i64_w, i32_w]
        rfl
      refine take_ (i := 11) (N := some 34) (v := ?_) (a' := ?_) #[T_, T_, T_, T_, T_, T_, T_, T_, T_, T_, T_, T_, F_, F_, F_, F_, F_, F_, F_, F_, F_, F_] rfl rfl (take_ofW HT_.out HW_.out (by kernel_rfl)) (fun _ _ _ h => h) (Or.inl ⟨by rfl, ?_⟩) hHeld ?_ ?_
      rotate_left
      · rintro w' ⟨s0, s1, s2, s3, s4, s5, s6, s7, s8, s9, s10, s11, s12, s13, s14, s15, s16, s17, s18⟩
        go_simp
        with_reducible rfl
      rotate_left
      · simp only [Act.put, zS, zZ, zC, i64_w, i32_w]
        rfl
      refine pure_ (i := 12) (N := some 35) (v := ?_) (a' := ?_) #[T_, T_, T_, T_, T_, T_, T_, T_, T_, T_, T_, T_, T_, F_, F_, F_, F_, F_, F_, F_, F_, F_] rfl rfl (any_of HT_.out (by kernel_rfl)) (fun _ _ _ h => h) (Or.inl ⟨by rfl, ?_⟩) ?_ ?_
      rotate_left
      · intro w'
        go_simp
        with_reducible rfl
      rotate_left
      · simp only [Act.put, zS, zZ, zC, i64_w, i32_w]
        rfl
      refine pure_ (i := 13) (N := some 36) (v := ?_) (a' := ?_) #[T_, T_, T_, T_, T_, T_, T_, T_, T_, T_, T_, T_, T_, T_, F_, F_, F_, F_, F_, F_, F_, F_] rfl rfl (any_of HT_.out (by kernel_rfl)) (fun _ _ _ h => h) (Or.inl ⟨by rfl, ?_⟩) ?_ ?_
      rotate_left
      · intro w'
        go_simp
        with_reducible rfl
      rotate_left
      · simp only [Act.put, zS, zZ, zC, i64_w, i32_w]
        rfl
      refine pure_ (i := 14) (N := some 37) (v := undef) (a' := ?_) #[T_, T_, T_, T_, T_, T_, T_, T_, T_, T_, T_, T_, T_, T_, T_, F_, F_, F_, F_, F_, F_, F_] rfl rfl (any_of HT_.out (by kernel_rfl)) (fun _ _ _ h => h) (Or.inr ⟨by rfl, rfl⟩) ?_ ?_
      rotate_left
      · simp only [Act.put, zS, zZ, zC, i64_w, i32_w]
        rfl
      refine pure_ (i := 15) (N := some 38) (v := undef) (a' := ?_) #[T_, T_, T_, T_, T_, T_, T_, T_, T_, T_, T_, T_, T_, T_, T_, T_, F_, F_, F_, F_, F_, F_] rfl rfl (any_of HT_.out (by kernel_rfl)) (fun _ _ _ h => h) (Or.inr ⟨by rfl, rfl⟩) ?_ ?_
      rotate_left
      · simp only [Act.put, zS, zZ, zC, i64_w, i32_w]
        rfl
      refine pure_ (i := 16) (N := some 39) (v := undef) (a' := ?_) #[T_, T_, T_, T_, T_, T_, T_, T_, T_, T_, T_, T_, T_, T_, T_, T_, T_, F_, F_, F_, F_, F_] rfl rfl (any_of HT_.out (by kernel_rfl)) (fun _ _ _ h => h) (Or.inr ⟨by rfl, rfl⟩) ?_ ?_
      rotate_left
      · simp only [Act.put, zS, zZ, zC, i64_w, i32_w]
        rfl
      refine pure_ (i := 17) (N := some 40) (v := undef) (a' := ?_) #[T_, T_, T_, T_, T_, T_, T_, T_, T_, T_, T_, T_, T_, T_, T_, T_, T_, T_, F_, F_, F_, F_] rfl rfl (any_of HT_.out (by kernel_rfl)) (fun _ _ _ h => h) (Or.inr ⟨by rfl, rfl⟩) ?_ ?_
      rotate_left
      · simp only [Act.put, zS, zZ, zC, i64_w, i32_w]
        rfl
      refine pure_ (i := 18) (N := some 41) (v := undef) (a' := ?_) #[T_, T_, T_, T_, T_, T_, T_, T_, T_, T_, T_, T_, T_, T_, T_, T_, T_, T_, T_, F_, F_, F_] rfl rfl (any_of HT_.out (by kernel_rfl)) (fun _ _ _ h => h) (Or.inr ⟨by rfl, rfl⟩) ?_ ?_
      rotate_left
      · simp only [Act.put, zS, zZ, zC, i64_w, i32_w]
        rfl
      refine pure_ (i := 19) (N := some 42) (v := undef) (a' := ?_) #[T_, T_, T_, T_, T_, T_, T_, T_, T_, T_, T_, T_, T_, T_, T_, T_, T_, T_, T_, T_, F_, F_] rfl rfl (any_of HT_.out (by kernel_rfl)) (fun _ _ _ h => h) (Or.inr ⟨by rfl, rfl⟩) ?_ ?_
      rotate_left
      · simp only [Act.put, zS, zZ, zC, i64_w, i32_w]
        rfl
      refine pure_ (i := 20) (N := some 43) (v := ?_) (a' := ?_) #[T_, T_, T_, T_, T_, T_, T_, T_, T_, T_, T_, T_, T_, T_, T_, T_, T_, T_, T_, T_, T_, F_] rfl rfl (any_of HT_.out (by kernel_rfl)) (fun _ _ _ h => h) (Or.inl ⟨by rfl, ?_⟩) ?_ ?_
      rotate_left
      · intro w'
        go_simp
        with_reducible rfl
      rotate_left
      · simp only [Act.put, zS, zZ, zC, i64_w, i32_w]
        rfl
      refine pure_ (i := 21) (N := some 44) (v := ?_) (a' := ?_) #[T_, T_, T_, T_, T_, T_, T_, T_, T_, T_, T_, T_, T_, T_, T_, T_, T_, T_, T_, T_, T_, T_] rfl rfl (any_of HT_.out (by kernel_rfl)) (fun _ _ _ h => h) (Or.inl ⟨by rfl, ?_⟩) ?_ ?_
      rotate_left
      · intro w'
        go_simp
        with_reducible rfl
      rotate_left
      · simp only [Act.put, zS, zZ, zC, i64_w, i32_w]
        rfl
      refine done_ (done_of HT_.out (by kernel_rfl)) ?_
      have hcz71_0 : w70.cell? ⟨gb211, 0, none⟩ = some (.int .i64 ((rd_T35 l1 x13_1).f4.f1.f0)) := (zL BK211.out 0).trans rfl
      have hcz71_1 : w70.cell? ⟨gb211, 1, none⟩ = some (.int .i64 ((rd_T35 l1 x13_1).f4.f1.f1)) := (zL BK211.out 1).trans rfl
      have hfz71_0 := zF BK211.out 0
      have hfz71_1 := zF BK211.out 1
      try go_wp2_with (first | ((with_reducible refine gld_ (t := 35) ?_); (try (refine gate_guard (by rfl) ?_; dsimp only)); first | refine wl15_ rfl 35 _ rfl rfl Try.underlying35 rfl (by kernel_rfl) ?_ | refine wlr15_ rfl 35 _ rfl rfl Try.underlying35 rfl (by kernel_rfl) ?_) | ((with_reducible refine gst_ (t := 35) ?_); refine ws15_ rfl 35 _ _ rfl rfl rfl (by kernel_rfl) ?_) | ((with_reducible refine gate_builtin (b := .append) (xs := #[.tmp 45, .tmp 47]) rfl ?_); at_builtin; refine Kd.R_append k24 (w0 := w) w.heap.size rfl (.tmp 45) (.tmp 47) 50 24 (.agg #[(.int .i64 0), (.int .i64 0)]) 16 rfl Try.underlying50 info24 rfl (by decide) (by omega) u5 x5_1 (⟨(rd_T35 l1 x13_1).f4.f1.f0, (rd_T35 l1 x13_1).f4.f1.f1⟩ : S24) [.int .i64 ((rd_T35 l1 x13_1).f4.f1.f0), .int .i64 ((rd_T35 l1 x13_1).f4.f1.f1)] (fun k_ => k_ ≠ gb203 ∧ k_ ≠ gb211) (fun _ => False) rfl rfl ?aP (fun _ hk => hk.elim) ?aF ?aO ?aB ?aS ?aL ?_; (case aP => exact k24_mkM _ _ _ (⟨(rd_T35 l1 x13_1).f4.f1.f0, (rd_T35 l1 x13_1).f4.f1.f1⟩ : S24)); (case aB => exact bel_); (case aF => exact (fun k_ hk => ⟨Kd.freshB (g := gb203) (o := .cells #[.int .i64 a0_0, .int .i64 a0_1] 24 (0, 0)) blk_ k_ hk, Kd.freshB (g := gb211) (o := .cells #[.int .i64 ((rd_T35 l1 x13_1).f4.f1.f0), .int .i64 ((rd_T35 l1 x13_1).f4.f1.f1)] 24 (0, 0)) blk_ k_ hk⟩)); (case aO => exact (rl_ HO_5)); (case aS => exact (below_size bel_)); (case aL => have := LMc58.out; omega); intro v219 w72 ho hb hg hat; rw [← Ny218.out] at ho; have n0_ := zM (blk_grown (g := gb203) (o := .cells #[.int .i64 a0_0, .int .i64 a0_1] 24 (0, 0)) blk_ hg (Kd.R_away HO_5.out (fun _ hk => hk.1))); have n1_ := zM (blk_grown (g := gb209) (o := .cells (e35_ (rd_T35 l1 x13_1)) 35 (0, 0)) blk_ hg (Kd.R_ne HO_5.out BK209.out (by decide))); have n2_ := zM (blk_grown (g := gb211) (o := .cells #[.int .i64 ((rd_T35 l1 x13_1).f4.f1.f0), .int .i64 ((rd_T35 l1 x13_1).f4.f1.f1)] 24 (0, 0)) blk_ hg (Kd.R_away HO_5.out (fun _ hk => hk.2))); have n3_ := zM (hb); have n4_ := zM (ho); clear BK203; clear BK209; clear BK211; clear HB; clear HO_5; have BK203 := n0_; have BK209 := n1_; have BK211 := n2_; have HB := n3_; have HO220 := n4_; clear n0_ n1_ n2_ n3_ n4_; clear ho hb hg hat))
      go_roundg k1
      case measure => have := HK1.out; omega
      case rel => exact ⟨(y218), (wrap64 (x13_1 + 1)), (by first | rfl | (simp; done) | (simp [*]; done) | (simp; grind)), H', ⟨by have := HK1.out; omega⟩, ⟨by (with_reducible repeat (first | apply Kd.R_alloc | apply Kd.R_drewN | apply Kd.R_drew)); exact Kd.R_mono HO220.out (fun _ hk => hk.1)⟩, ⟨blf_⟩, ⟨bel_⟩⟩
    rw [if_pos c26] at H
    have c26b0 : (((rd_T35 l1 x13_1).f3.f0) == 2) = true := beq_iff_eq.mpr c26
    have c26b1 : (((rd_T35 l1 x13_1).f3.f0) != 2) = false := bne_eq_false_iff_eq.mpr c26
    clear c26
    replace H := Option.bind_eq_some_iff.mp H
    obtain ⟨t214, A270, H⟩ := H
    replace H : (if t214 = true then (if x5_1.length < 8796093022208 then (past_Views.l0 k1 l1 (x5_1 ++ [(⟨(rd_T35 l1 x13_1).f4.f1.f0, (rd_T35 l1 x13_1).f4.f1.f1⟩ : S24)]) l1 (l1.length : Int) (wrap64 (x13_1 + 1)) a0_0 a0_1) else (none)) else (some false)) = some r := H
    have A27 := zM A270
    clear A270
    by_cases c28 : t214 = true
    rotate_left
    · replace c28 := Bool.eq_false_iff.mpr c28
      subst c28
      have H1 : (some false) = some r := by rw [if_neg (show ¬ (false = true) by decide)] at H; exact H
      clear H
      have H := H1
      clear H1
      obtain rfl := Option.some.inj H
      have p208 : 0 ≤ (x13_1 : Int) := of_decide_eq_true (by first | (with_reducible assumption) | assumption)
      have q208 : x13_1 < (l1.length : Int) := of_decide_eq_true (by first | (with_reducible assumption) | assumption)
      obtain ⟨ad208, e208, hx208_0, hx208_1, hx208_2, hx208_3, hx208_4, hx208_5, hx208_6, hx208_7, hx208_8, hx208_9, hx208_10, hx208_11, hx208_12, hx208_13, hx208_14⟩ := at_T35 HR1.out x13_1 p208 q208
      cases e208
      replace hx208_0 := (HB.out.cell (World.block_lt_of_cell? w _ hx208_0)).trans hx208_0
      replace hx208_1 := (HB.out.cell (World.block_lt_of_cell? w _ hx208_1)).trans hx208_1
      replace hx208_2 := (HB.out.cell (World.block_lt_of_cell? w _ hx208_2)).trans hx208_2
      replace hx208_3 := (HB.out.cell (World.block_lt_of_cell? w _ hx208_3)).trans hx208_3
      replace hx208_4 := (HB.out.cell (World.block_lt_of_cell? w _ hx208_4)).trans hx208_4
      replace hx208_5 := (HB.out.cell (World.block_lt_of_cell? w _ hx208_5)).trans hx208_5
      replace hx208_6 := (HB.out.cell (World.block_lt_of_cell? w _ hx208_6)).trans hx208_6
      replace hx208_7 := (HB.out.cell (World.block_lt_of_cell? w _ hx208_7)).trans hx208_7
      replace hx208_8 := (HB.out.cell (World.block_lt_of_cell? w _ hx208_8)).trans hx208_8
      replace hx208_9 := (HB.out.cell (World.block_lt_of_cell? w _ hx208_9)).trans hx208_9
      replace hx208_10 := (HB.out.cell (World.block_lt_of_cell? w _ hx208_10)).trans hx208_10
      replace hx208_11 := (HB.out.cell (World.block_lt_of_cell? w _ hx208_11)).trans hx208_11
      replace hx208_12 := (HB.out.cell (World.block_lt_of_cell? w _ hx208_12)).trans hx208_12
      replace hx208_13 := (HB.out.cell (World.block_lt_of_cell? w _ hx208_13)).trans hx208_13
      replace hx208_14 := (HB.out.cell (World.block_lt_of_cell? w _ hx208_14)).trans hx208_14
      replace p208 := eq_true p208
      replace q208 := eq_true q208
      try go_wp2_with (first | ((with_reducible refine gld_ (t := 35) ?_); (try (refine gate_guard (by rfl) ?_; dsimp only)); first | refine wl15_ rfl 35 _ rfl rfl Try.underlying35 rfl (by kernel_rfl) ?_ | refine wlr15_ rfl 35 _ rfl rfl Try.underlying35 rfl (by kernel_rfl) ?_) | ((with_reducible refine gst_ (t := 35) ?_); refine ws15_ rfl 35 _ _ rfl rfl rfl (by kernel_rfl) ?_) | ((with_reducible refine gate_dst (N := 7) rfl ?_); refine box_event ?hg (N := 7) ?hd (cs := #[.int .i64 0, .int .i64 0, .int .i64 0, .int .i64 0, .int .i64 0, .float .f64 0, .int .i64 0, .int .i64 0, .int .i64 0, .int .i64 0, .int .i64 0, .int .i64 0, .int .i64 0, .int .i64 0, .float .f64 0]) (t := 35) ?hr ?_; (case hd => rfl); (case hg => rfl); (case hr => first | (go_simp; done) | (go_simp; rfl)); intro gb209 hg w45 hbox hb; replace HO_5 := zM (Kd.R_below (rl_ HO_5) hb); have BK209 := zM (hbox); have GW209 := zM (bs_ hg); have GE209 := zM (bs_ hg); replace HB := zM (zB bel_ hb); have NB203_209 := zM (nl_ BK203 hg); have NB209_203 := zM (ng_ BK203 hg); replace BK203 := zM (bb_ BK203 hb); clear hb hbox hg; have hnb46 := NB209_203.out; have hnc46 := NB203_209.out; obtain ⟨hcz47_0, hcz47_1, hcz47_2, hcz47_3, hcz47_4, hcz47_5, hcz47_6, hcz47_7, hcz47_8, hcz47_9, hcz47_10, hcz47_11, hcz47_12, hcz47_13, hcz47_14⟩ := r15_ BK209.out; obtain ⟨hfz47_0, hfz47_1, hfz47_2, hfz47_3, hfz47_4, hfz47_5, hfz47_6, hfz47_7, hfz47_8, hfz47_9, hfz47_10, hfz47_11, hfz47_12, hfz47_13, hfz47_14⟩ := f15_ BK209.out) | ((with_reducible refine gate_callee (f := 11) rfl ?_); refine goL_ (some 18) Try.func11 #[.agg (e35_ (rd_T35 l1 x13_1))] ?_; (with_reducible refine (past_Well.calls ((rd_T35 l1 x13_1).f0) ((rd_T35 l1 x13_1).f1) ((rd_T35 l1 x13_1).f2) ((rd_T35 l1 x13_1).f3.f0) ((rd_T35 l1 x13_1).f3.f1) ((rd_T35 l1 x13_1).f3.f2) ((rd_T35 l1 x13_1).f3.f3.f0) ((rd_T35 l1 x13_1).f3.f3.f1) ((rd_T35 l1 x13_1).f4.f0) ((rd_T35 l1 x13_1).f4.f1.f0) ((rd_T35 l1 x13_1).f4.f1.f1) ((rd_T35 l1 x13_1).f4.f2.f0) ((rd_T35 l1 x13_1).f4.f2.f1.f0) ((rd_T35 l1 x13_1).f4.f2.f1.f1) ((rd_T35 l1 x13_1).f4.f2.f2) true _ A10.out).mono ?_); rintro e w48 ⟨rfl, hb⟩; refine ⟨_, rfl, ?_⟩; replace HO_5 := zM (Kd.R_below (by (with_reducible repeat (first | apply Kd.R_alloc | apply Kd.R_drewN | apply Kd.R_drew)); exact (Kd.R_mono (Kd.R_far (p := ⟨gb209, 14, none⟩) (Kd.R_far (p := ⟨gb209, 13, none⟩) (Kd.R_far (p := ⟨gb209, 12, none⟩) (Kd.R_far (p := ⟨gb209, 11, none⟩) (Kd.R_far (p := ⟨gb209, 10, none⟩) (Kd.R_far (p := ⟨gb209, 9, none⟩) (Kd.R_far (p := ⟨gb209, 8, none⟩) (Kd.R_far (p := ⟨gb209, 7, none⟩) (Kd.R_far (p := ⟨gb209, 6, none⟩) (Kd.R_far (p := ⟨gb209, 5, none⟩) (Kd.R_far (p := ⟨gb209, 4, none⟩) (Kd.R_far (p := ⟨gb209, 3, none⟩) (Kd.R_far (p := ⟨gb209, 2, none⟩) (Kd.R_far (p := ⟨gb209, 1, none⟩) (Kd.R_far (p := ⟨gb209, 0, none⟩) (Kd.R_types HO_5.out BK209.out (by decide)) (fun _ hk => hk.2) (.int .i64 ((rd_T35 l1 x13_1).f0))) (fun _ hk => hk.2) (.int .i64 ((rd_T35 l1 x13_1).f1))) (fun _ hk => hk.2) (.int .i64 ((rd_T35 l1 x13_1).f2))) (fun _ hk => hk.2) (.int .i64 ((rd_T35 l1 x13_1).f3.f0))) (fun _ hk => hk.2) (.int .i64 ((rd_T35 l1 x13_1).f3.f1))) (fun _ hk => hk.2) (.float .f64 ((rd_T35 l1 x13_1).f3.f2))) (fun _ hk => hk.2) (.int .i64 ((rd_T35 l1 x13_1).f3.f3.f0))) (fun _ hk => hk.2) (.int .i64 ((rd_T35 l1 x13_1).f3.f3.f1))) (fun _ hk => hk.2) (.int .i64 ((rd_T35 l1 x13_1).f4.f0))) (fun _ hk => hk.2) (.int .i64 ((rd_T35 l1 x13_1).f4.f1.f0))) (fun _ hk => hk.2) (.int .i64 ((rd_T35 l1 x13_1).f4.f1.f1))) (fun _ hk => hk.2) (.int .i64 ((rd_T35 l1 x13_1).f4.f2.f0))) (fun _ hk => hk.2) (.int .i64 ((rd_T35 l1 x13_1).f4.f2.f1.f0))) (fun _ hk => hk.2) (.int .i64 ((rd_T35 l1 x13_1).f4.f2.f1.f1))) (fun _ hk => hk.2) (.float .f64 ((rd_T35 l1 x13_1).f4.f2.f2))) (fun _ h_ => h_.1))) hb); replace BK203 := zM (blk_below (g := gb203) (o := .cells #[.int .i64 a0_0, .int .i64 a0_1] 24 (0, 0)) blf_ hb); replace BK209 := zM (blk_below (g := gb209) (o := .cells (e35_ (rd_T35 l1 x13_1)) 35 (0, 0)) (by (with_reducible repeat (first | refine zN ?_ _ | refine zD ?_ | refine zA ?_ _)); exact fx15_ BK209) hb); replace HB := zM (zB bel_ hb); (try clear hb); (try clear hb2); (try clear hk); (try clear hi); obtain ⟨hcz49_0, hcz49_1, hcz49_2, hcz49_3, hcz49_4, hcz49_5, hcz49_6, hcz49_7, hcz49_8, hcz49_9, hcz49_10, hcz49_11, hcz49_12, hcz49_13, hcz49_14⟩ := r15_ BK209.out; obtain ⟨hfz49_0, hfz49_1, hfz49_2, hfz49_3, hfz49_4, hfz49_5, hfz49_6, hfz49_7, hfz49_8, hfz49_9, hfz49_10, hfz49_11, hfz49_12, hfz49_13, hfz49_14⟩ := f15_ BK209.out) | ((with_reducible refine gate_dst (N := 8) rfl ?_); refine box_event ?hg (N := 8) ?hd (cs := #[.int .i64 0, .int .i64 0]) (t := 24) ?hr ?_; (case hd => rfl); (case hg => rfl); (case hr => first | (go_simp; done) | (go_simp; rfl)); intro gb211 hg w50 hbox hb; replace HO_5 := zM (Kd.R_below (Kd.R_elderB (rl_ HO_5) gb211 (Nat.le_of_eq hg.symm)) hb); have BK211 := zM (hbox); have GW211 := zM (bs_ hg); have GE211 := zM (bs_ hg); replace HB := zM (zB bel_ hb); have NB203_211 := zM (nl_ BK203 hg); have NB211_203 := zM (ng_ BK203 hg); replace BK203 := zM (bb_ BK203 hb); have NB209_211 := zM (nl_ BK209 hg); have NB211_209 := zM (ng_ BK209 hg); replace BK209 := zM (bb_ BK209 hb); clear hb hbox hg; have hnb51 := NB211_203.out; have hnc51 := NB203_211.out; have hnb52 := NB211_209.out; have hnc52 := NB209_211.out; have hcz53_0 : w50.cell? ⟨gb211, 0, none⟩ = some (.int .i64 0) := (zL BK211.out 0).trans rfl; have hcz53_1 : w50.cell? ⟨gb211, 1, none⟩ = some (.int .i64 0) := (zL BK211.out 1).trans rfl; have hfz53_0 := zF BK211.out 0; have hfz53_1 := zF BK211.out 1))
      have n0_ : Aside0 (Kd.R k24 24 ((w50.setCell ⟨gb211, 0, none⟩ (.int .i64 ((rd_T35 l1 x13_1).f4.f1.f0))).setCell ⟨gb211, 1, none⟩ (.int .i64 ((rd_T35 l1 x13_1).f4.f1.f1))) w.heap.size (fun k_ => k_ ≠ gb203 ∧ k_ ≠ gb211) u5 x5_1) := ⟨by (with_reducible repeat (first | apply Kd.R_alloc | apply Kd.R_drewN | apply Kd.R_drew)); exact Kd.R_mono (Kd.R_far (p := ⟨gb211, 1, none⟩) (Kd.R_far (p := ⟨gb211, 0, none⟩) (Kd.R_mono HO_5.out (fun k_ hk => (⟨hk, hk.2⟩ : _ ∧ k_ ≠ gb211))) (fun _ hk => hk.2) (.int .i64 ((rd_T35 l1 x13_1).f4.f1.f0))) (fun _ hk => hk.2) (.int .i64 ((rd_T35 l1 x13_1).f4.f1.f1))) (fun _ hk => ⟨hk.1.1, hk.1.2⟩)⟩
      have n1_ : Aside0 (((w50.setCell ⟨gb211, 0, none⟩ (.int .i64 ((rd_T35 l1 x13_1).f4.f1.f0))).setCell ⟨gb211, 1, none⟩ (.int .i64 ((rd_T35 l1 x13_1).f4.f1.f1))).heap[gb203]? = some (.cells #[.int .i64 a0_0, .int .i64 a0_1] 24 (0, 0))) := ⟨blf_⟩
      have n2_ : Aside0 (((w50.setCell ⟨gb211, 0, none⟩ (.int .i64 ((rd_T35 l1 x13_1).f4.f1.f0))).setCell ⟨gb211, 1, none⟩ (.int .i64 ((rd_T35 l1 x13_1).f4.f1.f1))).heap[gb209]? = some (.cells (e35_ (rd_T35 l1 x13_1)) 35 (0, 0))) := ⟨blf_⟩
      have n3_ : Aside0 (((w50.setCell ⟨gb211, 0, none⟩ (.int .i64 ((rd_T35 l1 x13_1).f4.f1.f0))).setCell ⟨gb211, 1, none⟩ (.int .i64 ((rd_T35 l1 x13_1).f4.f1.f1))).heap[gb211]? = some (.cells #[.int .i64 ((rd_T35 l1 x13_1).f4.f1.f0), .int .i64 ((rd_T35 l1 x13_1).f4.f1.f1)] 24 (0, 0))) := ⟨by (with_reducible repeat (first | refine zN ?_ _ | refine zD ?_ | refine zA ?_ _)); refine blk_put (cs := #[.int .i64 ((rd_T35 l1 x13_1).f4.f1.f0), .int .i64 0]) ?_ 1 _ rfl; (with_reducible repeat (first | refine zN ?_ _ | refine zD ?_ | refine zA ?_ _)); refine blk_put (cs := #[.int .i64 0, .int .i64 0]) ?_ 0 _ rfl; (with_reducible repeat (first | refine zN ?_ _ | refine zD ?_ | refine zA ?_ _)); exact BK211.out⟩
      have n4_ : Aside0 (Below w.heap.size w ((w50.setCell ⟨gb211, 0, none⟩ (.int .i64 ((rd_T35 l1 x13_1).f4.f1.f0))).setCell ⟨gb211, 1, none⟩ (.int .i64 ((rd_T35 l1 x13_1).f4.f1.f1)))) := ⟨bel_⟩
      (try clear HO_5)
      (try clear BK203)
      (try clear BK209)
      (try clear BK211)
      (try clear HB)
      generalize ((w50.setCell ⟨gb211, 0, none⟩ (.int .i64 ((rd_T35 l1 x13_1).f4.f1.f0))).setCell ⟨gb211, 1, none⟩ (.int .i64 ((rd_T35 l1 x13_1).f4.f1.f1))) = w54 at n0_ n1_ n2_ n3_ n4_ ⊢
      have HO_5 := n0_
      have BK203 := n1_
      have BK209 := n2_
      have BK211 := n3_
      have HB := n4_
      clear n0_ n1_ n2_ n3_ n4_
      replace HO_5 := zM (Kd.R_drew HO_5.out)
      replace BK203 := zM (zD BK203.out)
      replace BK209 := zM (zD BK209.out)
      replace BK211 := zM (zD BK211.out)
      replace HB := zM (below_drew1 HB.out)
      refine start_ (n := 22) (S := fun w' => w'.cell? ⟨gb203, 0, none⟩ = some (.int .i64 a0_0) ∧ w'.cell? ⟨gb203, 1, none⟩ = some (.int .i64 a0_1) ∧ w'.cell? ⟨gb211, 0, none⟩ = some (.int .i64 ((rd_T35 l1 x13_1).f4.f1.f0)) ∧ w'.cell? ⟨gb211, 1, none⟩ = some (.int .i64 ((rd_T35 l1 x13_1).f4.f1.f1)) ∧ w'.cell? ⟨gb209, 0, none⟩ = some (.int .i64 ((rd_T35 l1 x13_1).f0)) ∧ w'.cell? ⟨gb209, 1, none⟩ = some (.int .i64 ((rd_T35 l1 x13_1).f1)) ∧ w'.cell? ⟨gb209, 2, none⟩ = some (.int .i64 ((rd_T35 l1 x13_1).f2)) ∧ w'.cell? ⟨gb209, 3, none⟩ = some (.int .i64 ((rd_T35 l1 x13_1).f3.f0)) ∧ w'.cell? ⟨gb209, 4, none⟩ = some (.int .i64 ((rd_T35 l1 x13_1).f3.f1)) ∧ w'.cell? ⟨gb209, 5, none⟩ = some (.float .f64 ((rd_T35 l1 x13_1).f3.f2)) ∧ w'.cell? ⟨gb209, 6, none⟩ = some (.int .i64 ((rd_T35 l1 x13_1).f3.f3.f0)) ∧ w'.cell? ⟨gb209, 7, none⟩ = some (.int .i64 ((rd_T35 l1 x13_1).f3.f3.f1)) ∧ w'.cell? ⟨gb209, 8, none⟩ = some (.int .i64 ((rd_T35 l1 x13_1).f4.f0)) ∧ w'.cell? ⟨gb209, 9, none⟩ = some (.int .i64 ((rd_T35 l1 x13_1).f4.f1.f0)) ∧ w'.cell? ⟨gb209, 10, none⟩ = some (.int .i64 ((rd_T35 l1 x13_1).f4.f1.f1)) ∧ w'.cell? ⟨gb209, 11, none⟩ = some (.int .i64 ((rd_T35 l1 x13_1).f4.f2.f0)) ∧ w'.cell? ⟨gb209, 12, none⟩ = some (.int .i64 ((rd_T35 l1 x13_1).f4.f2.f1.f0)) ∧ w'.cell? ⟨gb209, 13, none⟩ = some (.int .i64 ((rd_T35 l1 x13_1).f4.f2.f1.f1)) ∧ w'.cell? ⟨gb209, 14, none⟩ = some (.float .f64 ((rd_T35 l1 x13_1).f4.f2.f2))) (ds := []) #[F_, F_, F_, F_, F_, F_, F_, F_, F_, F_, F_, F_, F_, F_, F_, F_, F_, F_, F_, F_, F_, F_] (by kernel_rfl) rfl rfl ⟨(zL BK203.out 0).trans rfl, (zL BK203.out 1).trans rfl, (zL BK211.out 0).trans rfl, (zL BK211.out 1).trans rfl, (zL BK209.out 0).trans rfl, (zL BK209.out 1).trans rfl, (zL BK209.out 2).trans rfl, (zL BK209.out 3).trans rfl, (zL BK209.out 4).trans rfl, (zL BK209.out 5).trans rfl, (zL BK209.out 6).trans rfl, (zL BK209.out 7).trans rfl, (zL BK209.out 8).trans rfl, (zL BK209.out 9).trans rfl, (zL BK209.out 10).trans rfl, (zL BK209.out 11).trans rfl, (zL BK209.out 12).trans rfl, (zL BK209.out 13).trans rfl, (zL BK209.out 14).trans rfl⟩ (fun hHeld => ?_); refine with_tabW past_Views.tab7 past_Views.bits7 (fun HT_ HW_ => ?_)
      generalize w54.drew = w55 at HO_5 BK203 BK209 BK211 HB hHeld ⊢
      refine pure_ (i := 2) (N := some 25) (v := ?_) (a' := ?_) #[F_, F_, T_, F_, F_, F_, F_, F_, F_, F_, F_, F_, F_, F_, F_, F_, F_, F_, F_, F_, F_, F_] rfl rfl (any_of HT_.out (by kernel_rfl)) (fun _ _ _ h => h) (Or.inl ⟨by rfl, ?_⟩) ?_ ?_
      rotate_left
      · intro w'
        go_simp
        with_reducible rfl
      rotate_left
      · simp only [Act.put, zS, zZ, zC, i64_w, i32_w]
        rfl
      refine pure_ (i := 3) (N := some 26) (v := ?_) (a' := ?_) #[F_, F_, T_, T_, F_, F_, F_, F_, F_, F_, F_, F_, F_, F_, F_, F_, F_, F_, F_, F_, F_, F_] rfl rfl (any_of HT_.out (by kernel_rfl)) (fun _ _ _ h => h) (Or.inl ⟨by rfl, ?_⟩) ?_ ?_
      rotate_left
      · intro w'
        go_simp
        with_reducible rfl
      rotate_left
      · simp only [Act.put, zS, zZ, zC, i64_w, i32_w]
        rfl
      refine take_ (i := 0) (N := some 23) (v := ?_) (a' := ?_) #[T_, F_, T_, T_, F_, F_, F_, F_, F_, F_, F_, F_, F_, F_, F_, F_, F_, F_, F_, F_, F_, F_] rfl rfl (take_ofW HT_.out HW_.out (by kernel_rfl)) (fun _ _ _ h => h) (Or.inl ⟨by rfl, ?_⟩) hHeld ?_ ?_
      rotate_left
      · rintro w' ⟨s0, s1, s2, s3, s4, s5, s6, s7, s8, s9, s10, s11, s12, s13, s14, s15, s16, s17, s18⟩
        go_simp
        with_reducible rfl
      rotate_left
      · simp only [Act.put, zS, zZ, zC, i64_w, i32_w]
        rfl
      refine take_ (i := 1) (N := some 24) (v := ?_) (a' := ?_) #[T_, T_, T_, T_, F_, F_, F_, F_, F_, F_, F_, F_, F_, F_, F_, F_, F_, F_, F_, F_, F_, F_] rfl rfl (take_ofW HT_.out HW_.out (by kernel_rfl)) (fun _ _ _ h => h) (Or.inl ⟨by rfl, ?_⟩) hHeld ?_ ?_
      rotate_left
      · rintro w' ⟨s0, s1, s2, s3, s4, s5, s6, s7, s8, s9, s10, s11, s12, s13, s14, s15, s16, s17, s18⟩
        go_simp
        with_reducible rfl
      rotate_left
      · simp only [Act.put, zS, zZ, zC, i64_w, i32_w]
        rfl
      refine take_ (i := 4) (N := some 27) (v := ?_) (a' := ?_) #[T_, T_, T_, T_, T_, F_, F_, F_, F_, F_, F_, F_, F_, F_, F_, F_, F_, F_, F_, F_, F_, F_] rfl rfl (take_ofW HT_.out HW_.out (by kernel_rfl)) (fun _ _ _ h => h) (Or.inl ⟨by rfl, ?_⟩) hHeld ?_ ?_
      rotate_left
      · rintro w' ⟨s0, s1, s2, s3, s4, s5, s6, s7, s8, s9, s10, s11, s12, s13, s14, s15, s16, s17, s18⟩
        go_simp
        with_reducible rfl
      rotate_left
      · simp only [Act.put, zS, zZ, zC, i64_w, i32_w]
        rfl
      refine take_ (i := 6) (N := some 29) (v := ?_) (a' := ?_) #[T_, T_, T_, T_, T_, F_, T_, F_, F_, F_, F_, F_, F_, F_, F_, F_, F_, F_, F_, F_, F_, F_] rfl rfl (take_ofW HT_.out HW_.out (by kernel_rfl)) (fun _ _ _ h => h) (Or.inl ⟨by rfl, ?_⟩) hHeld ?_ ?_
      rotate_left
      · rintro w' ⟨s0, s1, s2, s3, s4, s5, s6, s7, s8, s9, s10, s11, s12, s13, s14, s15, s16, s17, s18⟩
        go_simp
        with_reducible rfl
      rotate_left
      · simp only [Act.put, zS, zZ, zC, i64_w, i32_w]
        rfl
      refine one_ (i := 5) (N := some 28) #[T_, T_, T_, T_, T_, T_, T_, F_, F_, F_, F_, F_, F_, F_, F_, F_, F_, F_, F_, F_, F_, F_] rfl rfl (one_of HT_.out (by kernel_rfl)) (by decide) (fun K hK => ?_)
      refine goes_ Try.func27 (by kernel_rfl) rfl #[.agg #[.int .i64 a0_0, .int .i64 a0_1], .agg #[.int .i64 ((rd_T35 l1 x13_1).f4.f1.f0), .int .i64 ((rd_T35 l1 x13_1).f4.f1.f1)], .slice (some ad208) l1.length c1, .int .i64 ((rd_T35 l1 x13_1).f2)] (by rfl) rfl rfl (by (try simp only [List.map_toArray, List.map_cons, List.map_nil]); first | done | rfl | (simp only [List.length_drop, List.length_take]; rfl)) ?_
      with_reducible refine (past_made.calls k1 a0_0 a0_1 ((rd_T35 l1 x13_1).f4.f1.f0) ((rd_T35 l1 x13_1).f4.f1.f1) _ _ l1 ((rd_T35 l1 x13_1).f2) t212 t213 _ ?side1 ?side2 A12.out).mono ?_
      (case side1 => repeat (first | exact (Kd.C_below HR1.out HB.out) | (with_reducible refine Kd.C_alloc ?_ _) | (with_reducible refine Kd.C_drewN ?_ _) | (with_reducible refine Kd.C_drew ?_)))
      (case side2 => exact HC1.out)
      rintro e w56 ⟨rfl, hb⟩
      refine ⟨_, rfl, ?_⟩
      replace HO_5 := zM (Kd.R_below (rl_ HO_5) hb)
      replace BK203 := zM (bb_ BK203 hb)
      replace BK209 := zM (bb_ BK209 hb)
      replace BK211 := zM (bb_ BK211 hb)
      replace HB := zM (zB bel_ hb)
      (try clear hb)
      (try clear hb2)
      (try clear hk)
      (try clear hi)
      refine hK.out _ _ ⟨(zL BK203.out 0).trans rfl, (zL BK203.out 1).trans rfl, (zL BK211.out 0).trans rfl, (zL BK211.out 1).trans rfl, (zL BK209.out 0).trans rfl, (zL BK209.out 1).trans rfl, (zL BK209.out 2).trans rfl, (zL BK209.out 3).trans rfl, (zL BK209.out 4).trans rfl, (zL BK209.out 5).trans rfl, (zL BK209.out 6).trans rfl, (zL BK209.out 7).trans rfl, (zL BK209.out 8).trans rfl, (zL BK209.out 9).trans rfl, (zL BK209.out 10).trans rfl, (zL BK209.out 11).trans rfl, (zL BK209.out 12).trans rfl, (zL BK209.out 13).trans rfl, (zL BK209.out 14).trans rfl⟩ (fun hHeld => ?_)
      clear hK K
      refine norm_ (a' := ?_) ?_ ?_
      rotate_left
      · show Act.put _ (some 28) _ = _
        simp only [Act.put, zS, zZ, zC, i64_w, i32_w]
        rfl
      refine pure_ (i := 7) (N := some 30) (v := ?_) (a' := ?_) #[T_, T_, T_, T_, T_, T_, T_, T_, F_, F_, F_, F_, F_, F_, F_, F_, F_, F_, F_, F_, F_, F_] rfl rfl (any_of HT_.out (by kernel_rfl)) (fun _ _ _ h => h) (Or.inl ⟨by rfl, ?_⟩) ?_ ?_
      rotate_left
      · intro w'
        go_simp
        with_reducible rfl
      rotate_left
      · simp only [Act.put, zS, zZ, zC, i64_w, i32_w]
        rfl
      refine pure_ (i := 8) (N := some 31) (v := ?_) (a' := ?_) #[T_, T_, T_, T_, T_, T_, T_, T_, T_, F_, F_, F_, F_, F_, F_, F_, F_, F_, F_, F_, F_, F_] rfl rfl (any_of HT_.out (by kernel_rfl)) (fun _ _ _ h => h) (Or.inl ⟨by rfl, ?_⟩) ?_ ?_
      rotate_left
      · intro w'
        go_simp
        with_reducible rfl
      rotate_left
      · simp only [Act.put, zS, zZ, zC, i64_w, i32_w]
        rfl
      refine pure_ (i := 9) (N := some 32) (v := ?_) (a' := ?_) #[T_, T_, T_, T_, T_, T_, T_, T_, T_, T_, F_, F_, F_, F_, F_, F_, F_, F_, F_, F_, F_, F_] rfl rfl (any_of HT_.out (by kernel_rfl)) (fun _ _ _ h => h) (Or.inl ⟨by rfl, ?_⟩) ?_ ?_
      rotate_left
      · intro w'
        go_simp
        with_reducible rfl
      rotate_left
      · simp only [Act.put, zS, zZ, zC, i64_w, i32_w]
        rfl
      refine pure_ (i := 10) (N := some 33) (v := ?_) (a' := ?_) #[T_, T_, T_, T_, T_, T_, T_, T_, T_, T_, T_, F_, F_, F_, F_, F_, F_, F_, F_, F_, F_, F_] rfl rfl (any_of HT_.out (by kernel_rfl)) (fun _ _ _ h => h) (Or.inl ⟨by rfl, ?_⟩) ?_ ?_
      rotate_left
      · intro w'
        go_simp
        with_reducible rfl
      rotate_left
      · simp only [Act.put, zS, zZ, zC, i64_w, i32_w]
        rfl
      refine take_ (i := 11) (N := some 34) (v := ?_) (a' := ?_) #[T_, T_, T_, T_, T_, T_, T_, T_, T_, T_, T_, T_, F_, F_, F_, F_, F_, F_, F_, F_, F_, F_] rfl rfl (take_ofW HT_.out HW_.out (by kernel_rfl)) (fun _ _ _ h => h) (Or.inl ⟨by rfl, ?_⟩) hHeld ?_ ?_
      rotate_left
      · rintro w' ⟨s0, s1, s2, s3, s4, s5, s6, s7, s8, s9, s10, s11, s12, s13, s14, s15, s16, s17, s18⟩
        go_simp
        with_reducible rfl
      rotate_left
      · simp only [Act.put, zS, zZ, zC, i64_w, i32_w]
        rfl
      refine pure_ (i := 12) (N := some 35) (v := ?_) (a' := ?_) #[T_, T_, T_, T_, T_, T_, T_, T_, T_, T_, T_, T_, T_, F_, F_, F_, F_, F_, F_, F_, F_, F_] rfl rfl (any_of HT_.out (by kernel_rfl)) (fun _ _ _ h => h) (Or.inl ⟨by rfl, ?_⟩) ?_ ?_
      rotate_left
      · intro w'
        go_simp
        with_reducible rfl
      rotate_left
      · simp only [Act.put, zS, zZ, zC, i64_w, i32_w]
        rfl
      refine pure_ (i := 13) (N := some 36) (v := ?_) (a' := ?_) #[T_, T_, T_, T_, T_, T_, T_, T_, T_, T_, T_, T_, T_, T_, F_, F_, F_, F_, F_, F_, F_, F_] rfl rfl (any_of HT_.out (by kernel_rfl)) (fun _ _ _ h => h) (Or.inl ⟨by rfl, ?_⟩) ?_ ?_
      rotate_left
      · intro w'
        go_simp
        with_reducible rfl
      rotate_left
      · simp only [Act.put, zS, zZ, zC, i64_w, i32_w]
        rfl
      refine pure_ (i := 14) (N := some 37) (v := ?_) (a' := ?_) #[T_, T_, T_, T_, T_, T_, T_, T_, T_, T_, T_, T_, T_, T_, T_, F_, F_, F_, F_, F_, F_, F_] rfl rfl (any_of HT_.out (by kernel_rfl)) (fun _ _ _ h => h) (Or.inl ⟨by rfl, ?_⟩) ?_ ?_
      rotate_left
      · intro w'
        go_simp
        with_reducible rfl
      rotate_left
      · simp only [Act.put, zS, zZ, zC, i64_w, i32_w]
        rfl
      refine pure_ (i := 15) (N := some 38) (v := ?_) (a' := ?_) #[T_, T_, T_, T_, T_, T_, T_, T_, T_, T_, T_, T_, T_, T_, T_, T_, F_, F_, F_, F_, F_, F_] rfl rfl (any_of HT_.out (by kernel_rfl)) (fun _ _ _ h => h) (Or.inl ⟨by rfl, ?_⟩) ?_ ?_
      rotate_left
      · intro w'
        go_simp
        with_reducible rfl
      rotate_left
      · simp only [Act.put, zS, zZ, zC, i64_w, i32_w]
        rfl
      refine take_ (i := 16) (N := some 39) (v := ?_) (a' := ?_) #[T_, T_, T_, T_, T_, T_, T_, T_, T_, T_, T_, T_, T_, T_, T_, T_, T_, F_, F_, F_, F_, F_] rfl rfl (take_ofW HT_.out HW_.out (by kernel_rfl)) (fun _ _ _ h => h) (Or.inl ⟨by rfl, ?_⟩) hHeld ?_ ?_
      rotate_left
      · rintro w' ⟨s0, s1, s2, s3, s4, s5, s6, s7, s8, s9, s10, s11, s12, s13, s14, s15, s16, s17, s18⟩
        go_simp
        with_reducible rfl
      rotate_left
      · simp only [Act.put, zS, zZ, zC, i64_w, i32_w]
        rfl
      refine take_ (i := 17) (N := some 40) (v := ?_) (a' := ?_) #[T_, T_, T_, T_, T_, T_, T_, T_, T_, T_, T_, T_, T_, T_, T_, T_, T_, T_, F_, F_, F_, F_] rfl rfl (take_ofW HT_.out HW_.out (by kernel_rfl)) (fun _ _ _ h => h) (Or.inl ⟨by rfl, ?_⟩) hHeld ?_ ?_
      rotate_left
      · rintro w' ⟨s0, s1, s2, s3, s4, s5, s6, s7, s8, s9, s10, s11, s12, s13, s14, s15, s16, s17, s18⟩
        go_simp
        with_reducible rfl
      rotate_left
      · simp only [Act.put, zS, zZ, zC, i64_w, i32_w]
        rfl
      refine one_ (i := 18) (N := some 41) #[T_, T_, T_, T_, T_, T_, T_, T_, T_, T_, T_, T_, T_, T_, T_, T_, T_, T_, T_, F_, F_, F_] rfl rfl (one_of HT_.out (by kernel_rfl)) (by decide) (fun K hK => ?_)
      refine goes_ Try.func28 (by kernel_rfl) rfl #[.agg #[.int .i64 ((rd_T35 l1 x13_1).f3.f3.f0), .int .i64 ((rd_T35 l1 x13_1).f3.f3.f1)], .agg #[.int .i64 ((rd_T35 l1 x13_1).f4.f1.f0), .int .i64 ((rd_T35 l1 x13_1).f4.f1.f1)]] (by rfl) rfl rfl (by (try simp only [List.map_toArray, List.map_cons, List.map_nil]); first | done | rfl | (simp only [List.length_drop, List.length_take]; rfl)) ?_
      with_reducible refine (change_Within.calls ((rd_T35 l1 x13_1).f3.f3.f0) ((rd_T35 l1 x13_1).f3.f3.f1) ((rd_T35 l1 x13_1).f4.f1.f0) ((rd_T35 l1 x13_1).f4.f1.f1) false _ A27.out).mono ?_
      rintro e w57 ⟨rfl, hb⟩
      refine ⟨_, rfl, ?_⟩
      replace HO_5 := zM (Kd.R_below (rl_ HO_5) hb)
      replace BK203 := zM (bb_ BK203 hb)
      replace BK209 := zM (bb_ BK209 hb)
      replace BK211 := zM (bb_ BK211 hb)
      replace HB := zM (zB bel_ hb)
      (try clear hb)
      (try clear hb2)
      (try clear hk)
      (try clear hi)
      refine hK.out _ _ ⟨(zL BK203.out 0).trans rfl, (zL BK203.out 1).trans rfl, (zL BK211.out 0).trans rfl, (zL BK211.out 1).trans rfl, (zL BK209.out 0).trans rfl, (zL BK209.out 1).trans rfl, (zL BK209.out 2).trans rfl, (zL BK209.out 3).trans rfl, (zL BK209.out 4).trans rfl, (zL BK209.out 5).trans rfl, (zL BK209.out 6).trans rfl, (zL BK209.out 7).trans rfl, (zL BK209.out 8).trans rfl, (zL BK209.out 9).trans rfl, (zL BK209.out 10).trans rfl, (zL BK209.out 11).trans rfl, (zL BK209.out 12).trans rfl, (zL BK209.out 13).trans rfl, (zL BK209.out 14).trans rfl⟩ (fun hHeld => ?_)
      clear hK K
      refine norm_ (a' := ?_) ?_ ?_
      rotate_left
      · show Act.put _ (some 41) _ = _
        simp only [Act.put, zS, zZ, zC, i64_w, i32_w]
        rfl
      refine pure_ (i := 19) (N := some 42) (v := ?_) (a' := ?_) #[T_, T_, T_, T_, T_, T_, T_, T_, T_, T_, T_, T_, T_, T_, T_, T_, T_, T_, T_, T_, F_, F_] rfl rfl (any_of HT_.out (by kernel_rfl)) (fun _ _ _ h => h) (Or.inl ⟨by rfl, ?_⟩) ?_ ?_
      rotate_left
      · intro w'
        go_simp
        with_reducible rfl
      rotate_left
      · simp only [Act.put, zS, zZ, zC, i64_w, i32_w]
        rfl
      refine pure_ (i := 20) (N := some 43) (v := ?_) (a' := ?_) #[T_, T_, T_, T_, T_, T_, T_, T_, T_, T_, T_, T_, T_, T_, T_, T_, T_, T_, T_, T_, T_, F_] rfl rfl (any_of HT_.out (by kernel_rfl)) (fun _ _ _ h => h) (Or.inl ⟨by rfl, ?_⟩) ?_ ?_
      rotate_left
      · intro w'
        go_simp
        with_reducible rfl
      rotate_left
      · simp only [Act.put, zS, zZ, zC, i64_w, i32_w]
        rfl
      refine pure_ (i := 21) (N := some 44) (v := ?_) (a' := ?_) #[T_, T_, T_, T_, T_, T_, T_, T_, T_, T_, T_, T_, T_, T_, T_, T_, T_, T_, T_, T_, T_, T_] rfl rfl (any_of HT_.out (by kernel_rfl)) (fun _ _ _ h => h) (Or.inl ⟨by rfl, ?_⟩) ?_ ?_
      rotate_left
      · intro w'
        go_simp
        with_reducible rfl
      rotate_left
      · simp only [Act.put, zS, zZ, zC, i64_w, i32_w]
        rfl
      refine done_ (done_of HT_.out (by kernel_rfl)) ?_
      try go_wp2
      go_ret
      exact ⟨by first | rfl | (simp [errW_none, errW_some] <;> rfl) | (simp [*, errW_none, errW_some] <;> rfl), bel_⟩
    subst c28
    have H1 : (if x5_1.length < 8796093022208 then (past_Views.l0 k1 l1 (x5_1 ++ [(⟨(rd_T35 l1 x13_1).f4.f1.f0, (rd_T35 l1 x13_1).f4.f1.f1⟩ : S24)]) l1 (l1.length : Int) (wrap64 (x13_1 + 1)) a0_0 a0_1) else (none)) = some r := by rw [if_pos rfl] at H; exact H
    clear H
    have H := H1
    clear H1
    by_cases c29 : x5_1.length < 8796093022208
    rotate_left
    · rw [if_neg c29] at H
      exact absurd H (by simp)
    rw [if_pos c29] at H
    have LMc29 := zM c29
    clear c29
    obtain ⟨y215, hy215⟩ : ∃ y_ : List (S24), y_ = (x5_1 ++ [(⟨(rd_T35 l1 x13_1).f4.f1.f0, (rd_T35 l1 x13_1).f4.f1.f1⟩ : S24)]) := ⟨_, rfl⟩
    replace H : (past_Views.l0 k1 l1 y215 l1 (l1.length : Int) (wrap64 (x13_1 + 1)) a0_0 a0_1) = some r := by first | (rw [hy215]; with_reducible exact H) | (have H2_ := (Option.bind_some _ _).symm.trans H; rw [hy215]; with_reducible exact H2_) | (have H2_ := (Option.bind_some _ _).symm.trans H; with_reducible exact H2_) | with_reducible exact H | (rw [hy215]; exact H) | exact H
    have Ny215 := zM hy215
    clear hy215
    have H' := zM H
    clear H
    have p208 : 0 ≤ (x13_1 : Int) := of_decide_eq_true (by first | (with_reducible assumption) | assumption)
    have q208 : x13_1 < (l1.length : Int) := of_decide_eq_true (by first | (with_reducible assumption) | assumption)
    obtain ⟨ad208, e208, hx208_0, hx208_1, hx208_2, hx208_3, hx208_4, hx208_5, hx208_6, hx208_7, hx208_8, hx208_9, hx208_10, hx208_11, hx208_12, hx208_13, hx208_14⟩ := at_T35 HR1.out x13_1 p208 q208
    cases e208
    replace hx208_0 := (HB.out.cell (World.block_lt_of_cell? w _ hx208_0)).trans hx208_0
    replace hx208_1 := (HB.out.cell (World.block_lt_of_cell? w _ hx208_1)).trans hx208_1
    replace hx208_2 := (HB.out.cell (World.block_lt_of_cell? w _ hx208_2)).trans hx208_2
    replace hx208_3 := (HB.out.cell (World.block_lt_of_cell? w _ hx208_3)).trans hx208_3
    replace hx208_4 := (HB.out.cell (World.block_lt_of_cell? w _ hx208_4)).trans hx208_4
    replace hx208_5 := (HB.out.cell (World.block_lt_of_cell? w _ hx208_5)).trans hx208_5
    replace hx208_6 := (HB.out.cell (World.block_lt_of_cell? w _ hx208_6)).trans hx208_6
    replace hx208_7 := (HB.out.cell (World.block_lt_of_cell? w _ hx208_7)).trans hx208_7
    replace hx208_8 := (HB.out.cell (World.block_lt_of_cell? w _ hx208_8)).trans hx208_8
    replace hx208_9 := (HB.out.cell (World.block_lt_of_cell? w _ hx208_9)).trans hx208_9
    replace hx208_10 := (HB.out.cell (World.block_lt_of_cell? w _ hx208_10)).trans hx208_10
    replace hx208_11 := (HB.out.cell (World.block_lt_of_cell? w _ hx208_11)).trans hx208_11
    replace hx208_12 := (HB.out.cell (World.block_lt_of_cell? w _ hx208_12)).trans hx208_12
    replace hx208_13 := (HB.out.cell (World.block_lt_of_cell? w _ hx208_13)).trans hx208_13
    replace hx208_14 := (HB.out.cell (World.block_lt_of_cell? w _ hx208_14)).trans hx208_14
    replace p208 := eq_true p208
    replace q208 := eq_true q208
    try go_wp2_with (first | ((with_reducible refine gld_ (t := 35) ?_); (try (refine gate_guard (by rfl) ?_; dsimp only)); first | refine wl15_ rfl 35 _ rfl rfl Try.underlying35 rfl (by kernel_rfl) ?_ | refine wlr15_ rfl 35 _ rfl rfl Try.underlying35 rfl (by kernel_rfl) ?_) | ((with_reducible refine gst_ (t := 35) ?_); refine ws15_ rfl 35 _ _ rfl rfl rfl (by kernel_rfl) ?_) | ((with_reducible refine gate_dst (N := 7) rfl ?_); refine box_event ?hg (N := 7) ?hd (cs := #[.int .i64 0, .int .i64 0, .int .i64 0, .int .i64 0, .int .i64 0, .float .f64 0, .int .i64 0, .int .i64 0, .int .i64 0, .int .i64 0, .int .i64 0, .int .i64 0, .int .i64 0, .int .i64 0, .float .f64 0]) (t := 35) ?hr ?_; (case hd => rfl); (case hg => rfl); (case hr => first | (go_simp; done) | (go_simp; rfl)); intro gb209 hg w30 hbox hb; replace HO_5 := zM (Kd.R_below (rl_ HO_5) hb); have BK209 := zM (hbox); have GW209 := zM (bs_ hg); have GE209 := zM (bs_ hg); replace HB := zM (zB bel_ hb); have NB203_209 := zM (nl_ BK203 hg); have NB209_203 := zM (ng_ BK203 hg); replace BK203 := zM (bb_ BK203 hb); clear hb hbox hg; have hnb31 := NB209_203.out; have hnc31 := NB203_209.out; obtain ⟨hcz32_0, hcz32_1, hcz32_2, hcz32_3, hcz32_4, hcz32_5, hcz32_6, hcz32_7, hcz32_8, hcz32_9, hcz32_10, hcz32_11, hcz32_12, hcz32_13, hcz32_14⟩ := r15_ BK209.out; obtain ⟨hfz32_0, hfz32_1, hfz32_2, hfz32_3, hfz32_4, hfz32_5, hfz32_6, hfz32_7, hfz32_8, hfz32_9, hfz32_10, hfz32_11, hfz32_12, hfz32_13, hfz32_14⟩ := f15_ BK209.out) | ((with_reducible refine gate_callee (f := 11) rfl ?_); refine goL_ (some 18) Try.func11 #[.agg (e35_ (rd_T35 l1 x13_1))] ?_; (with_reducible refine (past_Well.calls ((rd_T35 l1 x13_1).f0) ((rd_T35 l1 x13_1).f1) ((rd_T35 l1 x13_1).f2) ((rd_T35 l1 x13_1).f3.f0) ((rd_T35 l1 x13_1).f3.f1) ((rd_T35 l1 x13_1).f3.f2) ((rd_T35 l1 x13_1).f3.f3.f0) ((rd_T35 l1 x13_1).f3.f3.f1) ((rd_T35 l1 x13_1).f4.f0) ((rd_T35 l1 x13_1).f4.f1.f0) ((rd_T35 l1 x13_1).f4.f1.f1) ((rd_T35 l1 x13_1).f4.f2.f0) ((rd_T35 l1 x13_1).f4.f2.f1.f0) ((rd_T35 l1 x13_1).f4.f2.f1.f1) ((rd_T35 l1 x13_1).f4.f2.f2) true _ A10.out).mono ?_); rintro e w33 ⟨rfl, hb⟩; refine ⟨_, rfl, ?_⟩; replace HO_5 := zM (Kd.R_below (by (with_reducible repeat (first | apply Kd.R_alloc | apply Kd.R_drewN | apply Kd.R_drew)); exact (Kd.R_mono (Kd.R_far (p := ⟨gb209, 14, none⟩) (Kd.R_far (p := ⟨gb209, 13, none⟩) (Kd.R_far (p := ⟨gb209, 12, none⟩) (Kd.R_far (p := ⟨gb209, 11, none⟩) (Kd.R_far (p := ⟨gb209, 10, none⟩) (Kd.R_far (p := ⟨gb209, 9, none⟩) (Kd.R_far (p := ⟨gb209, 8, none⟩) (Kd.R_far (p := ⟨gb209, 7, none⟩) (Kd.R_far (p := ⟨gb209, 6, none⟩) (Kd.R_far (p := ⟨gb209, 5, none⟩) (Kd.R_far (p := ⟨gb209, 4, none⟩) (Kd.R_far (p := ⟨gb209, 3, none⟩) (Kd.R_far (p := ⟨gb209, 2, none⟩) (Kd.R_far (p := ⟨gb209, 1, none⟩) (Kd.R_far (p := ⟨gb209, 0, none⟩) (Kd.R_types HO_5.out BK209.out (by decide)) (fun _ hk => hk.2) (.int .i64 ((rd_T35 l1 x13_1).f0))) (fun _ hk => hk.2) (.int .i64 ((rd_T35 l1 x13_1).f1))) (fun _ hk => hk.2) (.int .i64 ((rd_T35 l1 x13_1).f2))) (fun _ hk => hk.2) (.int .i64 ((rd_T35 l1 x13_1).f3.f0))) (fun _ hk => hk.2) (.int .i64 ((rd_T35 l1 x13_1).f3.f1))) (fun _ hk => hk.2) (.float .f64 ((rd_T35 l1 x13_1).f3.f2))) (fun _ hk => hk.2) (.int .i64 ((rd_T35 l1 x13_1).f3.f3.f0))) (fun _ hk => hk.2) (.int .i64 ((rd_T35 l1 x13_1).f3.f3.f1))) (fun _ hk => hk.2) (.int .i64 ((rd_T35 l1 x13_1).f4.f0))) (fun _ hk => hk.2) (.int .i64 ((rd_T35 l1 x13_1).f4.f1.f0))) (fun _ hk => hk.2) (.int .i64 ((rd_T35 l1 x13_1).f4.f1.f1))) (fun _ hk => hk.2) (.int .i64 ((rd_T35 l1 x13_1).f4.f2.f0))) (fun _ hk => hk.2) (.int .i64 ((rd_T35 l1 x13_1).f4.f2.f1.f0))) (fun _ hk => hk.2) (.int .i64 ((rd_T35 l1 x13_1).f4.f2.f1.f1))) (fun _ hk => hk.2) (.float .f64 ((rd_T35 l1 x13_1).f4.f2.f2))) (fun _ h_ => h_.1))) hb); replace BK203 := zM (blk_below (g := gb203) (o := .cells #[.int .i64 a0_0, .int .i64 a0_1] 24 (0, 0)) blf_ hb); replace BK209 := zM (blk_below (g := gb209) (o := .cells (e35_ (rd_T35 l1 x13_1)) 35 (0, 0)) (by (with_reducible repeat (first | refine zN ?_ _ | refine zD ?_ | refine zA ?_ _)); exact fx15_ BK209) hb); replace HB := zM (zB bel_ hb); (try clear hb); (try clear hb2); (try clear hk); (try clear hi); obtain ⟨hcz34_0, hcz34_1, hcz34_2, hcz34_3, hcz34_4, hcz34_5, hcz34_6, hcz34_7, hcz34_8, hcz34_9, hcz34_10, hcz34_11, hcz34_12, hcz34_13, hcz34_14⟩ := r15_ BK209.out; obtain ⟨hfz34_0, hfz34_1, hfz34_2, hfz34_3, hfz34_4, hfz34_5, hfz34_6, hfz34_7, hfz34_8, hfz34_9, hfz34_10, hfz34_11, hfz34_12, hfz34_13, hfz34_14⟩ := f15_ BK209.out) | ((with_reducible refine gate_dst (N := 8) rfl ?_); refine box_event ?hg (N := 8) ?hd (cs := #[.int .i64 0, .int .i64 0]) (t := 24) ?hr ?_; (case hd => rfl); (case hg => rfl); (case hr => first | (go_simp; done) | (go_simp; rfl)); intro gb211 hg w35 hbox hb; replace HO_5 := zM (Kd.R_below (Kd.R_elderB (rl_ HO_5) gb211 (Nat.le_of_eq hg.symm)) hb); have BK211 := zM (hbox); have GW211 := zM (bs_ hg); have GE211 := zM (bs_ hg); replace HB := zM (zB bel_ hb); have NB203_211 := zM (nl_ BK203 hg); have NB211_203 := zM (ng_ BK203 hg); replace BK203 := zM (bb_ BK203 hb); have NB209_211 := zM (nl_ BK209 hg); have NB211_209 := zM (ng_ BK209 hg); replace BK209 := zM (bb_ BK209 hb); clear hb hbox hg; have hnb36 := NB211_203.out; have hnc36 := NB203_211.out; have hnb37 := NB211_209.out; have hnc37 := NB209_211.out; have hcz38_0 : w35.cell? ⟨gb211, 0, none⟩ = some (.int .i64 0) := (zL BK211.out 0).trans rfl; have hcz38_1 : w35.cell? ⟨gb211, 1, none⟩ = some (.int .i64 0) := (zL BK211.out 1).trans rfl; have hfz38_0 := zF BK211.out 0; have hfz38_1 := zF BK211.out 1))
    have n0_ : Aside0 (Kd.R k24 24 ((w35.setCell ⟨gb211, 0, none⟩ (.int .i64 ((rd_T35 l1 x13_1).f4.f1.f0))).setCell ⟨gb211, 1, none⟩ (.int .i64 ((rd_T35 l1 x13_1).f4.f1.f1))) w.heap.size (fun k_ => k_ ≠ gb203 ∧ k_ ≠ gb211) u5 x5_1) := ⟨by (with_reducible repeat (first | apply Kd.R_alloc | apply Kd.R_drewN | apply Kd.R_drew)); exact Kd.R_mono (Kd.R_far (p := ⟨gb211, 1, none⟩) (Kd.R_far (p := ⟨gb211, 0, none⟩) (Kd.R_mono HO_5.out (fun k_ hk => (⟨hk, hk.2⟩ : _ ∧ k_ ≠ gb211))) (fun _ hk => hk.2) (.int .i64 ((rd_T35 l1 x13_1).f4.f1.f0))) (fun _ hk => hk.2) (.int .i64 ((rd_T35 l1 x13_1).f4.f1.f1))) (fun _ hk => ⟨hk.1.1, hk.1.2⟩)⟩
    have n1_ : Aside0 (((w35.setCell ⟨gb211, 0, none⟩ (.int .i64 ((rd_T35 l1 x13_1).f4.f1.f0))).setCell ⟨gb211, 1, none⟩ (.int .i64 ((rd_T35 l1 x13_1).f4.f1.f1))).heap[gb203]? = some (.cells #[.int .i64 a0_0, .int .i64 a0_1] 24 (0, 0))) := ⟨blf_⟩
    have n2_ : Aside0 (((w35.setCell ⟨gb211, 0, none⟩ (.int .i64 ((rd_T35 l1 x13_1).f4.f1.f0))).setCell ⟨gb211, 1, none⟩ (.int .i64 ((rd_T35 l1 x13_1).f4.f1.f1))).heap[gb209]? = some (.cells (e35_ (rd_T35 l1 x13_1)) 35 (0, 0))) := ⟨blf_⟩
    have n3_ : Aside0 (((w35.setCell ⟨gb211, 0, none⟩ (.int .i64 ((rd_T35 l1 x13_1).f4.f1.f0))).setCell ⟨gb211, 1, none⟩ (.int .i64 ((rd_T35 l1 x13_1).f4.f1.f1))).heap[gb211]? = some (.cells #[.int .i64 ((rd_T35 l1 x13_1).f4.f1.f0), .int .i64 ((rd_T35 l1 x13_1).f4.f1.f1)] 24 (0, 0))) := ⟨by (with_reducible repeat (first | refine zN ?_ _ | refine zD ?_ | refine zA ?_ _)); refine blk_put (cs := #[.int .i64 ((rd_T35 l1 x13_1).f4.f1.f0), .int .i64 0]) ?_ 1 _ rfl; (with_reducible repeat (first | refine zN ?_ _ | refine zD ?_ | refine zA ?_ _)); refine blk_put (cs := #[.int .i64 0, .int .i64 0]) ?_ 0 _ rfl; (with_reducible repeat (first | refine zN ?_ _ | refine zD ?_ | refine zA ?_ _)); exact BK211.out⟩
    have n4_ : Aside0 (Below w.heap.size w ((w35.setCell ⟨gb211, 0, none⟩ (.int .i64 ((rd_T35 l1 x13_1).f4.f1.f0))).setCell ⟨gb211, 1, none⟩ (.int .i64 ((rd_T35 l1 x13_1).f4.f1.f1)))) := ⟨bel_⟩
    (try clear HO_5)
    (try clear BK203)
    (try clear BK209)
    (try clear BK211)
    (try clear HB)
    generalize ((w35.setCell ⟨gb211, 0, none⟩ (.int .i64 ((rd_T35 l1 x13_1).f4.f1.f0))).setCell ⟨gb211, 1, none⟩ (.int .i64 ((rd_T35 l1 x13_1).f4.f1.f1))) = w39 at n0_ n1_ n2_ n3_ n4_ ⊢
    have HO_5 := n0_
    have BK203 := n1_
    have BK209 := n2_
    have BK211 := n3_
    have HB := n4_
    clear n0_ n1_ n2_ n3_ n4_
    replace HO_5 := zM (Kd.R_drew HO_5.out)
    replace BK203 := zM (zD BK203.out)
    replace BK209 := zM (zD BK209.out)
    replace BK211 := zM (zD BK211.out)
    replace HB := zM (below_drew1 HB.out)
    refine start_ (n := 22) (S := fun w' => w'.cell? ⟨gb203, 0, none⟩ = some (.int .i64 a0_0) ∧ w'.cell? ⟨gb203, 1, none⟩ = some (.int .i64 a0_1) ∧ w'.cell? ⟨gb211, 0, none⟩ = some (.int .i64 ((rd_T35 l1 x13_1).f4.f1.f0)) ∧ w'.cell? ⟨gb211, 1, none⟩ = some (.int .i64 ((rd_T35 l1 x13_1).f4.f1.f1)) ∧ w'.cell? ⟨gb209, 0, none⟩ = some (.int .i64 ((rd_T35 l1 x13_1).f0)) ∧ w'.cell? ⟨gb209, 1, none⟩ = some (.int .i64 ((rd_T35 l1 x13_1).f1)) ∧ w'.cell? ⟨gb209, 2, none⟩ = some (.int .i64 ((rd_T35 l1 x13_1).f2)) ∧ w'.cell? ⟨gb209, 3, none⟩ = some (.int .i64 ((rd_T35 l1 x13_1).f3.f0)) ∧ w'.cell? ⟨gb209, 4, none⟩ = some (.int .i64 ((rd_T35 l1 x13_1).f3.f1)) ∧ w'.cell? ⟨gb209, 5, none⟩ = some (.float .f64 ((rd_T35 l1 x13_1).f3.f2)) ∧ w'.cell? ⟨gb209, 6, none⟩ = some (.int .i64 ((rd_T35 l1 x13_1).f3.f3.f0)) ∧ w'.cell? ⟨gb209, 7, none⟩ = some (.int .i64 ((rd_T35 l1 x13_1).f3.f3.f1)) ∧ w'.cell? ⟨gb209, 8, none⟩ = some (.int .i64 ((rd_T35 l1 x13_1).f4.f0)) ∧ w'.cell? ⟨gb209, 9, none⟩ = some (.int .i64 ((rd_T35 l1 x13_1).f4.f1.f0)) ∧ w'.cell? ⟨gb209, 10, none⟩ = some (.int .i64 ((rd_T35 l1 x13_1).f4.f1.f1)) ∧ w'.cell? ⟨gb209, 11, none⟩ = some (.int .i64 ((rd_T35 l1 x13_1).f4.f2.f0)) ∧ w'.cell? ⟨gb209, 12, none⟩ = some (.int .i64 ((rd_T35 l1 x13_1).f4.f2.f1.f0)) ∧ w'.cell? ⟨gb209, 13, none⟩ = some (.int .i64 ((rd_T35 l1 x13_1).f4.f2.f1.f1)) ∧ w'.cell? ⟨gb209, 14, none⟩ = some (.float .f64 ((rd_T35 l1 x13_1).f4.f2.f2))) (ds := []) #[F_, F_, F_, F_, F_, F_, F_, F_, F_, F_, F_, F_, F_, F_, F_, F_, F_, F_, F_, F_, F_, F_] (by kernel_rfl) rfl rfl ⟨(zL BK203.out 0).trans rfl, (zL BK203.out 1).trans rfl, (zL BK211.out 0).trans rfl, (zL BK211.out 1).trans rfl, (zL BK209.out 0).trans rfl, (zL BK209.out 1).trans rfl, (zL BK209.out 2).trans rfl, (zL BK209.out 3).trans rfl, (zL BK209.out 4).trans rfl, (zL BK209.out 5).trans rfl, (zL BK209.out 6).trans rfl, (zL BK209.out 7).trans rfl, (zL BK209.out 8).trans rfl, (zL BK209.out 9).trans rfl, (zL BK209.out 10).trans rfl, (zL BK209.out 11).trans rfl, (zL BK209.out 12).trans rfl, (zL BK209.out 13).trans rfl, (zL BK209.out 14).trans rfl⟩ (fun hHeld => ?_); refine with_tabW past_Views.tab7 past_Views.bits7 (fun HT_ HW_ => ?_)
    generalize w39.drew = w40 at HO_5 BK203 BK209 BK211 HB hHeld ⊢
    refine pure_ (i := 2) (N := some 25) (v := ?_) (a' := ?_) #[F_, F_, T_, F_, F_, F_, F_, F_, F_, F_, F_, F_, F_, F_, F_, F_, F_, F_, F_, F_, F_, F_] rfl rfl (any_of HT_.out (by kernel_rfl)) (fun _ _ _ h => h) (Or.inl ⟨by rfl, ?_⟩) ?_ ?_
    rotate_left
    · intro w'
      go_simp
      with_reducible rfl
    rotate_left
    · simp only [Act.put, zS, zZ, zC, i64_w, i32_w]
      rfl
    refine pure_ (i := 3) (N := some 26) (v := ?_) (a' := ?_) #[F_, F_, T_, T_, F_, F_, F_, F_, F_, F_, F_, F_, F_, F_, F_, F_, F_, F_, F_, F_, F_, F_] rfl rfl (any_of HT_.out (by kernel_rfl)) (fun _ _ _ h => h) (Or.inl ⟨by rfl, ?_⟩) ?_ ?_
    rotate_left
    · intro w'
      go_simp
      with_reducible rfl
    rotate_left
    · simp only [Act.put, zS, zZ, zC, i64_w, i32_w]
      rfl
    refine take_ (i := 0) (N := some 23) (v := ?_) (a' := ?_) #[T_, F_, T_, T_, F_, F_, F_, F_, F_, F_, F_, F_, F_, F_, F_, F_, F_, F_, F_, F_, F_, F_] rfl rfl (take_ofW HT_.out HW_.out (by kernel_rfl)) (fun _ _ _ h => h) (Or.inl ⟨by rfl, ?_⟩) hHeld ?_ ?_
    rotate_left
    · rintro w' ⟨s0, s1, s2, s3, s4, s5, s6, s7, s8, s9, s10, s11, s12, s13, s14, s15, s16, s17, s18⟩
      go_simp
      with_reducible rfl
    rotate_left
    · simp only [Act.put, zS, zZ, zC, i64_w, i32_w]
      rfl
    refine take_ (i := 1) (N := some 24) (v := ?_) (a' := ?_) #[T_, T_, T_, T_, F_, F_, F_, F_, F_, F_, F_, F_, F_, F_, F_, F_, F_, F_, F_, F_, F_, F_] rfl rfl (take_ofW HT_.out HW_.out (by kernel_rfl)) (fun _ _ _ h => h) (Or.inl ⟨by rfl, ?_⟩) hHeld ?_ ?_
    rotate_left
    · rintro w' ⟨s0, s1, s2, s3, s4, s5, s6, s7, s8, s9, s10, s11, s12, s13, s14, s15, s16, s17, s18⟩
      go_simp
      with_reducible rfl
    rotate_left
    · simp only [Act.put, zS, zZ, zC, i64_w, i32_w]
      rfl
    refine take_ (i := 4) (N := some 27) (v := ?_) (a' := ?_) #[T_, T_, T_, T_, T_, F_, F_, F_, F_, F_, F_, F_, F_, F_, F_, F_, F_, F_, F_, F_, F_, F_] rfl rfl (take_ofW HT_.out HW_.out (by kernel_rfl)) (fun _ _ _ h => h) (Or.inl ⟨by rfl, ?_⟩) hHeld ?_ ?_
    rotate_left
    · rintro w' ⟨s0, s1, s2, s3, s4, s5, s6, s7, s8, s9, s10, s11, s12, s13, s14, s15, s16, s17, s18⟩
      go_simp
      with_reducible rfl
    rotate_left
    · simp only [Act.put, zS, zZ, zC, i64_w, i32_w]
      rfl
    refine take_ (i := 6) (N := some 29) (v := ?_) (a' := ?_) #[T_, T_, T_, T_, T_, F_, T_, F_, F_, F_, F_, F_, F_, F_, F_, F_, F_, F_, F_, F_, F_, F_] rfl rfl (take_ofW HT_.out HW_.out (by kernel_rfl)) (fun _ _ _ h => h) (Or.inl ⟨by rfl, ?_⟩) hHeld ?_ ?_
    rotate_left
    · rintro w' ⟨s0, s1, s2, s3, s4, s5, s6, s7, s8, s9, s10, s11, s12, s13, s14, s15, s16, s17, s18⟩
      go_simp
      with_reducible rfl
    rotate_left
    · simp only [Act.put, zS, zZ, zC, i64_w, i32_w]
      rfl
    refine one_ (i := 5) (N := some 28) #[T_, T_, T_, T_, T_, T_, T_, F_, F_, F_, F_, F_, F_, F_, F_, F_, F_, F_, F_, F_, F_, F_] rfl rfl (one_of HT_.out (by kernel_rfl)) (by decide) (fun K hK => ?_)
    refine goes_ Try.func27 (by kernel_rfl) rfl #[.agg #[.int .i64 a0_0, .int .i64 a0_1], .agg #[.int .i64 ((rd_T35 l1 x13_1).f4.f1.f0), .int .i64 ((rd_T35 l1 x13_1).f4.f1.f1)], .slice (some ad208) l1.length c1, .int .i64 ((rd_T35 l1 x13_1).f2)] (by rfl) rfl rfl (by (try simp only [List.map_toArray, List.map_cons, List.map_nil]); first | done | rfl | (simp only [List.length_drop, List.length_take]; rfl)) ?_
    with_reducible refine (past_made.calls k1 a0_0 a0_1 ((rd_T35 l1 x13_1).f4.f1.f0) ((rd_T35 l1 x13_1).f4.f1.f1) _ _ l1 ((rd_T35 l1 x13_1).f2) t212 t213 _ ?side1 ?side2 A12.out).mono ?_
    (case side1 => repeat (first | exact (Kd.C_below HR1.out HB.out) | (with_reducible refine Kd.C_alloc ?_ _) | (with_reducible refine Kd.C_drewN ?_ _) | (with_reducible refine Kd.C_drew ?_)))
    (case side2 => exact HC1.out)
    rintro e w41 ⟨rfl, hb⟩
    refine ⟨_, rfl, ?_⟩
    replace HO_5 := zM (Kd.R_below (rl_ HO_5) hb)
    replace BK203 := zM (bb_ BK203 hb)
    replace BK209 := zM (bb_ BK209 hb)
    replace BK211 := zM (bb_ BK211 hb)
    replace HB := zM (zB bel_ hb)
    (try clear hb)
    (try clear hb2)
    (try clear hk)
    (try clear hi)
    refine hK.out _ _ ⟨(zL BK203.out 0).trans rfl, (zL BK203.out 1).trans rfl, (zL BK211.out 0).trans rfl, (zL BK211.out 1).trans rfl, (zL BK209.out 0).trans rfl, (zL BK209.out 1).trans rfl, (zL BK209.out 2).trans rfl, (zL BK209.out 3).trans rfl, (zL BK209.out 4).trans rfl, (zL BK209.out 5).trans rfl, (zL BK209.out 6).trans rfl, (zL BK209.out 7).trans rfl, (zL BK209.out 8).trans rfl, (zL BK209.out 9).trans rfl, (zL BK209.out 10).trans rfl, (zL BK209.out 11).trans rfl, (zL BK209.out 12).trans rfl, (zL BK209.out 13).trans rfl, (zL BK209.out 14).trans rfl⟩ (fun hHeld => ?_)
    clear hK K
    refine norm_ (a' := ?_) ?_ ?_
    rotate_left
    · show Act.put _ (some 28) _ = _
      simp only [Act.put, zS, zZ, zC, i64_w, i32_w]
      rfl
    refine pure_ (i := 7) (N := some 30) (v := ?_) (a' := ?_) #[T_, T_, T_, T_, T_, T_, T_, T_, F_, F_, F_, F_, F_, F_, F_, F_, F_, F_, F_, F_, F_, F_] rfl rfl (any_of HT_.out (by kernel_rfl)) (fun _ _ _ h => h) (Or.inl ⟨by rfl, ?_⟩) ?_ ?_
    rotate_left
    · intro w'
      go_simp
      with_reducible rfl
    rotate_left
    · simp only [Act.put, zS, zZ, zC, i64_w, i32_w]
      rfl
    refine pure_ (i := 8) (N := some 31) (v := ?_) (a' := ?_) #[T_, T_, T_, T_, T_, T_, T_, T_, T_, F_, F_, F_, F_, F_, F_, F_, F_, F_, F_, F_, F_, F_] rfl rfl (any_of HT_.out (by kernel_rfl)) (fun _ _ _ h => h) (Or.inl ⟨by rfl, ?_⟩) ?_ ?_
    rotate_left
    · intro w'
      go_simp
      with_reducible rfl
    rotate_left
    · simp only [Act.put, zS, zZ, zC, i64_w, i32_w]
      rfl
    refine pure_ (i := 9) (N := some 32) (v := ?_) (a' := ?_) #[T_, T_, T_, T_, T_, T_, T_, T_, T_, T_, F_, F_, F_, F_, F_, F_, F_, F_, F_, F_, F_, F_] rfl rfl (any_of HT_.out (by kernel_rfl)) (fun _ _ _ h => h) (Or.inl ⟨by rfl, ?_⟩) ?_ ?_
    rotate_left
    · intro w'
      go_simp
      with_reducible rfl
    rotate_left
    · simp only [Act.put, zS, zZ, zC, i64_w, i32_w]
      rfl
    refine pure_ (i := 10) (N := some 33) (v := ?_) (a' := ?_) #[T_, T_, T_, T_, T_, T_, T_, T_, T_, T_, T_, F_, F_, F_, F_, F_, F_, F_, F_, F_, F_, F_] rfl rfl (any_of HT_.out (by kernel_rfl)) (fun _ _ _ h => h) (Or.inl ⟨by rfl, ?_⟩) ?_ ?_
    rotate_left
    · intro w'
      go_simp
      with_reducible rfl
    rotate_left
    · simp only [Act.put, zS, zZ, zC, i64_w, i32_w]
      rfl
    refine take_ (i := 11) (N := some 34) (v := ?_) (a' := ?_) #[T_, T_, T_, T_, T_, T_, T_, T_, T_, T_, T_, T_, F_, F_, F_, F_, F_, F_, F_, F_, F_, F_] rfl rfl (take_ofW HT_.out HW_.out (by kernel_rfl)) (fun _ _ _ h => h) (Or.inl ⟨by rfl, ?_⟩) hHeld ?_ ?_
    rotate_left
    · rintro w' ⟨s0, s1, s2, s3, s4, s5, s6, s7, s8, s9, s10, s11, s12, s13, s14, s15, s16, s17, s18⟩
      go_simp
      with_reducible rfl
    rotate_left
    · simp only [Act.put, zS, zZ, zC, i64_w, i32_w]
      rfl
    refine pure_ (i := 12) (N := some 35) (v := ?_) (a' := ?_) #[T_, T_, T_, T_, T_, T_, T_, T_, T_, T_, T_, T_, T_, F_, F_, F_, F_, F_, F_, F_, F_, F_] rfl rfl (any_of HT_.out (by kernel_rfl)) (fun _ _ _ h => h) (Or.inl ⟨by rfl, ?_⟩) ?_ ?_
    rotate_left
    · intro w'
      go_simp
      with_reducible rfl
    rotate_left
    · simp only [Act.put, zS, zZ, zC, i64_w, i32_w]
      rfl
    refine pure_ (i := 13) (N := some 36) (v := ?_) (a' := ?_) #[T_, T_, T_, T_, T_, T_, T_, T_, T_, T_, T_, T_, T_, T_, F_, F_, F_, F_, F_, F_, F_, F_] rfl rfl (any_of HT_.out (by kernel_rfl)) (fun _ _ _ h => h) (Or.inl ⟨by rfl, ?_⟩) ?_ ?_
    rotate_left
    · intro w'
      go_simp
      with_reducible rfl
    rotate_left
    · simp only [Act.put, zS, zZ, zC, i64_w, i32_w]
      rfl
    refine pure_ (i := 14) (N := some 37) (v := ?_) (a' := ?_) #[T_, T_, T_, T_, T_, T_, T_, T_, T_, T_, T_, T_, T_, T_, T_, F_, F_, F_, F_, F_, F_, F_] rfl rfl (any_of HT_.out (by kernel_rfl)) (fun _ _ _ h => h) (Or.inl ⟨by rfl, ?_⟩) ?_ ?_
    rotate_left
    · intro w'
      go_simp
      with_reducible rfl
    rotate_left
    · simp only [Act.put, zS, zZ, zC, i64_w, i32_w]
      rfl
    refine pure_ (i := 15) (N := some 38) (v := ?_) (a' := ?_) #[T_, T_, T_, T_, T_, T_, T_, T_, T_, T_, T_, T_, T_, T_, T_, T_, F_, F_, F_, F_, F_, F_] rfl rfl (any_of HT_.out (by kernel_rfl)) (fun _ _ _ h => h) (Or.inl ⟨by rfl, ?_⟩) ?_ ?_
    rotate_left
    · intro w'
      go_simp
      with_reducible rfl
    rotate_left
    · simp only [Act.put, zS, zZ, zC, i64_w, i32_w]
      rfl
    refine take_ (i := 16) (N := some 39) (v := ?_) (a' := ?_) #[T_, T_, T_, T_, T_, T_, T_, T_, T_, T_, T_, T_, T_, T_, T_, T_, T_, F_, F_, F_, F_, F_] rfl rfl (take_ofW HT_.out HW_.out (by kernel_rfl)) (fun _ _ _ h => h) (Or.inl ⟨by rfl, ?_⟩) hHeld ?_ ?_
    rotate_left
    · rintro w' ⟨s0, s1, s2, s3, s4, s5, s6, s7, s8, s9, s10, s11, s12, s13, s14, s15, s16, s17, s18⟩
      go_simp
      with_reducible rfl
    rotate_left
    · simp only [Act.put, zS, zZ, zC, i64_w, i32_w]
      rfl
    refine take_ (i := 17) (N := some 40) (v := ?_) (a' := ?_) #[T_, T_, T_, T_, T_, T_, T_, T_, T_, T_, T_, T_, T_, T_, T_, T_, T_, T_, F_, F_, F_, F_] rfl rfl (take_ofW HT_.out HW_.out (by kernel_rfl)) (fun _ _ _ h => h) (Or.inl ⟨by rfl, ?_⟩) hHeld ?_ ?_
    rotate_left
    · rintro w' ⟨s0, s1, s2, s3, s4, s5, s6, s7, s8, s9, s10, s11, s12, s13, s14, s15, s16, s17, s18⟩
      go_simp
      with_reducible rfl
    rotate_left
    · simp only [Act.put, zS, zZ, zC, i64_w, i32_w]
      rfl
    refine one_ (i := 18) (N := some 41) #[T_, T_, T_, T_, T_, T_, T_, T_, T_, T_, T_, T_, T_, T_, T_, T_, T_, T_, T_, F_, F_, F_] rfl rfl (one_of HT_.out (by kernel_rfl)) (by decide) (fun K hK => ?_)
    refine goes_ Try.func28 (by kernel_rfl) rfl #[.agg #[.int .i64 ((rd_T35 l1 x13_1).f3.f3.f0), .int .i64 ((rd_T35 l1 x13_1).f3.f3.f1)], .agg #[.int .i64 ((rd_T35 l1 x13_1).f4.f1.f0), .int .i64 ((rd_T35 l1 x13_1).f4.f1.f1)]] (by rfl) rfl rfl (by (try simp only [List.map_toArray, List.map_cons, List.map_nil]); first | done | rfl | (simp only [List.length_drop, List.length_take]; rfl)) ?_
    with_reducible refine (change_Within.calls ((rd_T35 l1 x13_1).f3.f3.f0) ((rd_T35 l1 x13_1).f3.f3.f1) ((rd_T35 l1 x13_1).f4.f1.f0) ((rd_T35 l1 x13_1).f4.f1.f1) true _ A27.out).mono ?_
    rintro e w42 ⟨rfl, hb⟩
    refine ⟨_, rfl, ?_⟩
    replace HO_5 := zM (Kd.R_below (rl_ HO_5) hb)
    replace BK203 := zM (bb_ BK203 hb)
    replace BK209 := zM (bb_ BK209 hb)
    replace BK211 := zM (bb_ BK211 hb)
    replace HB := zM (zB bel_ hb)
    (try clear hb)
    (try clear hb2)
    (try clear hk)
    (try clear hi)
    refine hK.out _ _ ⟨(zL BK203.out 0).trans rfl, (zL BK203.out 1).trans rfl, (zL BK211.out 0).trans rfl, (zL BK211.out 1).trans rfl, (zL BK209.out 0).trans rfl, (zL BK209.out 1).trans rfl, (zL BK209.out 2).trans rfl, (zL BK209.out 3).trans rfl, (zL BK209.out 4).trans rfl, (zL BK209.out 5).trans rfl, (zL BK209.out 6).trans rfl, (zL BK209.out 7).trans rfl, (zL BK209.out 8).trans rfl, (zL BK209.out 9).trans rfl, (zL BK209.out 10).trans rfl, (zL BK209.out 11).trans rfl, (zL BK209.out 12).trans rfl, (zL BK209.out 13).trans rfl, (zL BK209.out 14).trans rfl⟩ (fun hHeld => ?_)
    clear hK K
    refine norm_ (a' := ?_) ?_ ?_
    rotate_left
    · show Act.put _ (some 41) _ = _
      simp only [Act.put, zS, zZ, zC, i64_w, i32_w]
      rfl
    refine pure_ (i := 19) (N := some 42) (v := ?_) (a' := ?_) #[T_, T_, T_, T_, T_, T_, T_, T_, T_, T_, T_, T_, T_, T_, T_, T_, T_, T_, T_, T_, F_, F_] rfl rfl (any_of HT_.out (by kernel_rfl)) (fun _ _ _ h => h) (Or.inl ⟨by rfl, ?_⟩) ?_ ?_
    rotate_left
    · intro w'
      go_simp
      with_reducible rfl
    rotate_left
    · simp only [Act.put, zS, zZ, zC, i64_w, i32_w]
      rfl
    refine pure_ (i := 20) (N := some 43) (v := ?_) (a' := ?_) #[T_, T_, T_, T_, T_, T_, T_, T_, T_, T_, T_, T_, T_, T_, T_, T_, T_, T_, T_, T_, T_, F_] rfl rfl (any_of HT_.out (by kernel_rfl)) (fun _ _ _ h => h) (Or.inl ⟨by rfl, ?_⟩) ?_ ?_
    rotate_left
    · intro w'
      go_simp
      with_reducible rfl
    rotate_left
    · simp only [Act.put, zS, zZ, zC, i64_w, i32_w]
      rfl
    refine pure_ (i := 21) (N := some 44) (v := ?_) (a' := ?_) #[T_, T_, T_, T_, T_, T_, T_, T_, T_, T_, T_, T_, T_, T_, T_, T_, T_, T_, T_, T_, T_, T_] rfl rfl (any_of HT_.out (by kernel_rfl)) (fun _ _ _ h => h) (Or.inl ⟨by rfl, ?_⟩) ?_ ?_
    rotate_left
    · intro w'
      go_simp
      with_reducible rfl
    rotate_left
    · simp only [Act.put, zS, zZ, zC, i64_w, i32_w]
      rfl
    refine done_ (done_of HT_.out (by kernel_rfl)) ?_
    have hcz43_0 : w42.cell? ⟨gb211, 0, none⟩ = some (.int .i64 ((rd_T35 l1 x13_1).f4.f1.f0)) := (zL BK211.out 0).trans rfl
    have hcz43_1 : w42.cell? ⟨gb211, 1, none⟩ = some (.int .i64 ((rd_T35 l1 x13_1).f4.f1.f1)) := (zL BK211.out 1).trans rfl
    have hfz43_0 := zF BK211.out 0
    have hfz43_1 := zF BK211.out 1
    try go_wp2_with (first | ((with_reducible refine gld_ (t := 35) ?_); (try (refine gate_guard (by rfl) ?_; dsimp only)); first | refine wl15_ rfl 35 _ rfl rfl Try.underlying35 rfl (by kernel_rfl) ?_ | refine wlr15_ rfl 35 _ rfl rfl Try.underlying35 rfl (by kernel_rfl) ?_) | ((with_reducible refine gst_ (t := 35) ?_); refine ws15_ rfl 35 _ _ rfl rfl rfl (by kernel_rfl) ?_) | ((with_reducible refine gate_builtin (b := .append) (xs := #[.tmp 45, .tmp 47]) rfl ?_); at_builtin; refine Kd.R_append k24 (w0 := w) w.heap.size rfl (.tmp 45) (.tmp 47) 50 24 (.agg #[(.int .i64 0), (.int .i64 0)]) 16 rfl Try.underlying50 info24 rfl (by decide) (by omega) u5 x5_1 (⟨(rd_T35 l1 x13_1).f4.f1.f0, (rd_T35 l1 x13_1).f4.f1.f1⟩ : S24) [.int .i64 ((rd_T35 l1 x13_1).f4.f1.f0), .int .i64 ((rd_T35 l1 x13_1).f4.f1.f1)] (fun k_ => k_ ≠ gb203 ∧ k_ ≠ gb211) (fun _ => False) rfl rfl ?aP (fun _ hk => hk.elim) ?aF ?aO ?aB ?aS ?aL ?_; (case aP => exact k24_mkM _ _ _ (⟨(rd_T35 l1 x13_1).f4.f1.f0, (rd_T35 l1 x13_1).f4.f1.f1⟩ : S24)); (case aB => exact bel_); (case aF => exact (fun k_ hk => ⟨Kd.freshB (g := gb203) (o := .cells #[.int .i64 a0_0, .int .i64 a0_1] 24 (0, 0)) blk_ k_ hk, Kd.freshB (g := gb211) (o := .cells #[.int .i64 ((rd_T35 l1 x13_1).f4.f1.f0), .int .i64 ((rd_T35 l1 x13_1).f4.f1.f1)] 24 (0, 0)) blk_ k_ hk⟩)); (case aO => exact (rl_ HO_5)); (case aS => exact (below_size bel_)); (case aL => have := LMc29.out; omega); intro v216 w44 ho hb hg hat; rw [← Ny215.out] at ho; have n0_ := zM (blk_grown (g := gb203) (o := .cells #[.int .i64 a0_0, .int .i64 a0_1] 24 (0, 0)) blk_ hg (Kd.R_away HO_5.out (fun _ hk => hk.1))); have n1_ := zM (blk_grown (g := gb209) (o := .cells (e35_ (rd_T35 l1 x13_1)) 35 (0, 0)) blk_ hg (Kd.R_ne HO_5.out BK209.out (by decide))); have n2_ := zM (blk_grown (g := gb211) (o := .cells #[.int .i64 ((rd_T35 l1 x13_1).f4.f1.f0), .int .i64 ((rd_T35 l1 x13_1).f4.f1.f1)] 24 (0, 0)) blk_ hg (Kd.R_away HO_5.out (fun _ hk => hk.2))); have n3_ := zM (hb); have n4_ := zM (ho); clear BK203; clear BK209; clear BK211; clear HB; clear HO_5; have BK203 := n0_; have BK209 := n1_; have BK211 := n2_; have HB := n3_; have HO217 := n4_; clear n0_ n1_ n2_ n3_ n4_; clear ho hb hg hat))
    go_roundg k1
    case measure => have := HK1.out; omega
    case rel => exact ⟨(y215), (wrap64 (x13_1 + 1)), (by first | rfl | (simp; done) | (simp [*]; done) | (simp; grind)), H', ⟨by have := HK1.out; omega⟩, ⟨by (with_reducible repeat (first | apply Kd.R_alloc | apply Kd.R_drewN | apply Kd.R_drew)); exact Kd.R_mono HO217.out (fun _ hk => hk.1)⟩, ⟨blf_⟩, ⟨bel_⟩⟩
end Go.Proofs.Ytmenkbdaabjojaa.PPastSources
