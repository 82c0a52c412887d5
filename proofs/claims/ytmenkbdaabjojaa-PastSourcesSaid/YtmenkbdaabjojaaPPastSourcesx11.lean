/- Written by a program of this session (wip/tool/px.py) over the kit's print: what the code that the law PastSources reaches computes, function by function, and the law's row. -/
import Derived.Test.YtmenkbdaabjojaaPPastSourcesx0
import Derived.Test.YtmenkbdaabjojaaPPastSourcesx3
import Derived.Test.YtmenkbdaabjojaaPPastSourcesx5
import Derived.Test.YtmenkbdaabjojaaPPastSourcesx8
namespace Go.Proofs.Ytmenkbdaabjojaa.PPastSources
open Go.RowKit Go.Proofs.YtmenkbdaabjojaaX Go.Proofs.YtmenkbdaabjojaaW.PrintWords Go.Proofs.YtmenkbdaabjojaaW.PrintLast Go.Proofs.YtmenkbdaabjojaaW.PrintMore
open Go.Proofs.YtmenkbdaabjojaaW.PrintWords renaming blk_drewN → zN, blk_drew → zD, blk_alloc → zA, blk_cell → zL, blk_frozen → zF, below_step → zB
open Go.Proofs.YtmenkbdaabjojaaW.PrintWords.Aside0 renaming mk → zM
attribute [local go_sem] max2_int min2_int max_two min_two max_three min_three max_four min_four   -- for this text's walks alone
set_option linter.unusedVariables false
set_option linter.unusedSimpArgs false

attribute [local go_sem] px_store_float px_neg_float px_call40
/-! ### past_Grows: function 10 -/
mutual
def past_Grows.l0 : Nat → List (S35) → List (S35) → Int → Int → Option (Bool)
  | 0, _, _, _, _ => none
  | k + 1, x0, x7, x8, x9 => if x9 < x8 then (if 0 ≤ x9 then (if x9 < (x7.length : Int) then (past_Grows.l1 k x0 x7 x8 x9 x0 (x0.length : Int) 0 ((rd_T35 x7 x9).f0) ((rd_T35 x7 x9).f1) ((rd_T35 x7 x9).f2) ((rd_T35 x7 x9).f3.f0) ((rd_T35 x7 x9).f3.f1) ((rd_T35 x7 x9).f3.f2) ((rd_T35 x7 x9).f3.f3.f0) ((rd_T35 x7 x9).f3.f3.f1) ((rd_T35 x7 x9).f4.f0) ((rd_T35 x7 x9).f4.f1.f0) ((rd_T35 x7 x9).f4.f1.f1) ((rd_T35 x7 x9).f4.f2.f0) ((rd_T35 x7 x9).f4.f2.f1.f0) ((rd_T35 x7 x9).f4.f2.f1.f1) ((rd_T35 x7 x9).f4.f2.f2)) else (none)) else (none)) else (some true)
def past_Grows.l1 : Nat → List (S35) → List (S35) → Int → Int → List (S35) → Int → Int → Int → Int → Int → Int → Int → Nat → Int → Int → Int → Int → Int → Int → Int → Int → Nat → Option (Bool)
  | 0, _, _, _, _, _, _, _, _, _, _, _, _, _, _, _, _, _, _, _, _, _, _ => none
  | k + 1, x0, x7, x8, x9, x13, x14, x15, x223000, x223001, x223002, x223003, x223004, x223005, x223006, x223007, x223008, x223009, x223010, x223011, x223012, x223013, x223014 => if x15 < x14 then (if 0 ≤ x15 then (if x15 < (x13.length : Int) then ((past_Well.f x223000 x223001 x223002 x223003 x223004 x223005 x223006 x223007 x223008 x223009 x223010 x223011 x223012 x223013 x223014).bind fun t225 => (if t225 = true then ((past_Well.f ((rd_T35 x13 x15).f0) ((rd_T35 x13 x15).f1) ((rd_T35 x13 x15).f2) ((rd_T35 x13 x15).f3.f0) ((rd_T35 x13 x15).f3.f1) ((rd_T35 x13 x15).f3.f2) ((rd_T35 x13 x15).f3.f3.f0) ((rd_T35 x13 x15).f3.f3.f1) ((rd_T35 x13 x15).f4.f0) ((rd_T35 x13 x15).f4.f1.f0) ((rd_T35 x13 x15).f4.f1.f1) ((rd_T35 x13 x15).f4.f2.f0) ((rd_T35 x13 x15).f4.f2.f1.f0) ((rd_T35 x13 x15).f4.f2.f1.f1) ((rd_T35 x13 x15).f4.f2.f2)).bind fun t226 => (if t226 = true then ((past_Before.f x223000 x223001 x223002 x223003 x223004 x223005 x223006 x223007 x223008 x223009 x223010 x223011 x223012 x223013 x223014 ((rd_T35 x13 x15).f0) ((rd_T35 x13 x15).f1) ((rd_T35 x13 x15).f2) ((rd_T35 x13 x15).f3.f0) ((rd_T35 x13 x15).f3.f1) ((rd_T35 x13 x15).f3.f2) ((rd_T35 x13 x15).f3.f3.f0) ((rd_T35 x13 x15).f3.f3.f1) ((rd_T35 x13 x15).f4.f0) ((rd_T35 x13 x15).f4.f1.f0) ((rd_T35 x13 x15).f4.f1.f1) ((rd_T35 x13 x15).f4.f2.f0) ((rd_T35 x13 x15).f4.f2.f1.f0) ((rd_T35 x13 x15).f4.f2.f1.f1) ((rd_T35 x13 x15).f4.f2.f2)).bind fun t227 => (if t227 = true then ((change_Within.f x223009 x223010 ((rd_T35 x13 x15).f4.f1.f0) ((rd_T35 x13 x15).f4.f1.f1)).bind fun t228 => (if t228 = true then (past_Grows.l1 k x0 x7 x8 x9 x13 x14 (wrap64 (x15 + 1)) x223000 x223001 x223002 x223003 x223004 x223005 x223006 x223007 x223008 x223009 x223010 x223011 x223012 x223013 x223014) else (some false))) else (past_Grows.l1 k x0 x7 x8 x9 x13 x14 (wrap64 (x15 + 1)) x223000 x223001 x223002 x223003 x223004 x223005 x223006 x223007 x223008 x223009 x223010 x223011 x223012 x223013 x223014))) else (past_Grows.l1 k x0 x7 x8 x9 x13 x14 (wrap64 (x15 + 1)) x223000 x223001 x223002 x223003 x223004 x223005 x223006 x223007 x223008 x223009 x223010 x223011 x223012 x223013 x223014))) else (past_Grows.l1 k x0 x7 x8 x9 x13 x14 (wrap64 (x15 + 1)) x223000 x223001 x223002 x223003 x223004 x223005 x223006 x223007 x223008 x223009 x223010 x223011 x223012 x223013 x223014))) else (none)) else (none)) else (past_Grows.l0 k x0 x7 x8 (wrap64 (x9 + 1)))
end
def past_Grows.f (k : Nat) (l0 : List (S35)) : Option (Bool) := past_Grows.l0 k l0 l0 (l0.length : Int) 0
theorem past_Grows.mono_l : ∀ k, (∀ y0 y1 y2 y3, LeO (past_Grows.l0 k y0 y1 y2 y3) (past_Grows.l0 (k + 1) y0 y1 y2 y3)) ∧ (∀ y0 y1 y2 y3 y4 y5 y6 y7 y8 y9 y10 y11 y12 y13 y14 y15 y16 y17 y18 y19 y20 y21, LeO (past_Grows.l1 k y0 y1 y2 y3 y4 y5 y6 y7 y8 y9 y10 y11 y12 y13 y14 y15 y16 y17 y18 y19 y20 y21) (past_Grows.l1 (k + 1) y0 y1 y2 y3 y4 y5 y6 y7 y8 y9 y10 y11 y12 y13 y14 y15 y16 y17 y18 y19 y20 y21))
  | 0 => ⟨fun _ _ _ _ r h => by simp [past_Grows.l0] at h, fun _ _ _ _ _ _ _ _ _ _ _ _ _ _ _ _ _ _ _ _ _ _ r h => by simp [past_Grows.l1] at h⟩
  | k + 1 => by
    obtain ⟨ih0, ih1⟩ := past_Grows.mono_l k
    refine ⟨?_, ?_⟩
    · intro y0 y1 y2 y3
      unfold past_Grows.l0
      repeat' first
      | (with_reducible exact ih0 _ _ _ _)
      | (with_reducible exact ih1 _ _ _ _ _ _ _ _ _ _ _ _ _ _ _ _ _ _ _ _ _ _)
      | (with_reducible exact LeO.refl _)
      | (with_reducible exact LeO.none _)
      | (with_reducible refine LeO.ite ?_ ?_)
      | (with_reducible refine LeO.bind ?_ (fun _ => ?_))
      | exact ih0 _ _ _ _
      | exact ih1 _ _ _ _ _ _ _ _ _ _ _ _ _ _ _ _ _ _ _ _ _ _
      | exact LeO.none _
      | refine LeO.ite ?_ ?_
      | refine LeO.bind ?_ (fun _ => ?_)
    · intro y0 y1 y2 y3 y4 y5 y6 y7 y8 y9 y10 y11 y12 y13 y14 y15 y16 y17 y18 y19 y20 y21
      unfold past_Grows.l1
      repeat' first
      | (with_reducible exact ih0 _ _ _ _)
      | (with_reducible exact ih1 _ _ _ _ _ _ _ _ _ _ _ _ _ _ _ _ _ _ _ _ _ _)
      | (with_reducible exact LeO.refl _)
      | (with_reducible exact LeO.none _)
      | (with_reducible refine LeO.ite ?_ ?_)
      | (with_reducible refine LeO.bind ?_ (fun _ => ?_))
      | exact ih0 _ _ _ _
      | exact ih1 _ _ _ _ _ _ _ _ _ _ _ _ _ _ _ _ _ _ _ _ _ _
      | exact LeO.none _
      | refine LeO.ite ?_ ?_
      | refine LeO.bind ?_ (fun _ => ?_)
theorem past_Grows.mono : ∀ a0 k, LeO (past_Grows.f k a0) (past_Grows.f (k + 1) a0) := by
  intro a0 k
  obtain ⟨ih0, ih1⟩ := past_Grows.mono_l k
  unfold past_Grows.f
  repeat' first
      | (with_reducible exact ih0 _ _ _ _)
      | (with_reducible exact ih1 _ _ _ _ _ _ _ _ _ _ _ _ _ _ _ _ _ _ _ _ _ _)
      | (with_reducible exact LeO.refl _)
      | (with_reducible exact LeO.none _)
      | (with_reducible refine LeO.ite ?_ ?_)
      | (with_reducible refine LeO.bind ?_ (fun _ => ?_))
      | exact ih0 _ _ _ _
      | exact ih1 _ _ _ _ _ _ _ _ _ _ _ _ _ _ _ _ _ _ _ _ _ _
      | exact LeO.none _
      | refine LeO.ite ?_ ?_
      | refine LeO.bind ?_ (fun _ => ?_)
set_option maxHeartbeats 8000000 in
set_option maxRecDepth 100000 in
theorem past_Grows.calls (k : Nat) (A0 : Option Addr) (c0 : Nat) (l0 : List (S35)) (r : Bool) (w : World) (hr0 : Kd.C k35 w A0 l0.length l0) (hc0 : l0.length ≤ c0) (h : past_Grows.f k l0 = some r) :
    Calls Try.prog 10 #[.slice A0 l0.length c0] w fun e w' => e = .returned (.bool r) ∧ Below w.heap.size w w' := by
  have hu35 := Try.underlying35
  have hu24 := Try.underlying24
  have HR0 := zM hr0
  have HC0 := zM hc0
  clear hr0 hc0
  have HB := zM (Below.refl w.heap.size w)
  have H : (past_Grows.l0 k l0 l0 (l0.length : Int) 0) = some r := h
  clear h
  have H' := zM H
  clear H
  go_enter Try.func10, Try.ntmps10
  go_wp2
  go_loopg [9] k (fun kq v9 w' => ∃ (x9_1 : Int), v9 = .int .i64 x9_1 ∧ Aside0 (past_Grows.l0 kq l0 l0 (l0.length : Int) x9_1 = some r) ∧ Aside0 (kq ≤ k) ∧ Aside0 (Below w.heap.size w w'))
  case atStart => exact ⟨(0), (by first | rfl | (simp; done) | (simp [*]; done) | (simp; grind)), H', ⟨Nat.le_refl _⟩, ⟨bel_⟩⟩
  case round =>
   clear H'
   try clear c1
   obtain ⟨x9_1, rfl, HA, HK1, HB⟩ := hrel
   cases gk with
   | zero => exact absurd HA.out (by simp [past_Grows.l0])
   | succ k1 =>
    have H := HA.out
    clear HA
    simp only [past_Grows.l0] at H
    by_cases c2 : x9_1 < (l0.length : Int)
    rotate_left
    · rw [if_neg c2] at H
      have c2b0 : decide (x9_1 < (l0.length : Int)) = false := decide_eq_false c2
      clear c2
      obtain rfl := Option.some.inj H
      go_wp2
      go_ret
      exact ⟨by first | rfl | (simp [errW_none, errW_some] <;> rfl) | (simp [*, errW_none, errW_some] <;> rfl), bel_⟩
    rw [if_pos c2] at H
    have c2b0 : decide (x9_1 < (l0.length : Int)) = true := decide_eq_true c2
    clear c2
    by_cases c3 : 0 ≤ x9_1
    rotate_left
    · rw [if_neg c3] at H
      exact absurd H (by simp)
    rw [if_pos c3] at H
    have c3b0 : decide (0 ≤ x9_1) = true := decide_eq_true c3
    clear c3
    by_cases c4 : x9_1 < (l0.length : Int)
    rotate_left
    · rw [if_neg c4] at H
      exact absurd H (by simp)
    rw [if_pos c4] at H
    have c4b0 : decide (x9_1 < (l0.length : Int)) = true := decide_eq_true c4
    clear c4
    have H' := zM H
    clear H
    have p221 : 0 ≤ (x9_1 : Int) := of_decide_eq_true (by first | (with_reducible assumption) | assumption)
    have q221 : x9_1 < (l0.length : Int) := of_decide_eq_true (by first | (with_reducible assumption) | assumption)
    obtain ⟨ad221, e221, hx221_0, hx221_1, hx221_2, hx221_3, hx221_4, hx221_5, hx221_6, hx221_7, hx221_8, hx221_9, hx221_10, hx221_11, hx221_12, hx221_13, hx221_14⟩ := at_T35 HR0.out x9_1 p221 q221
    cases e221
    replace hx221_0 := (HB.out.cell (World.block_lt_of_cell? w _ hx221_0)).trans hx221_0
    replace hx221_1 := (HB.out.cell (World.block_lt_of_cell? w _ hx221_1)).trans hx221_1
    replace hx221_2 := (HB.out.cell (World.block_lt_of_cell? w _ hx221_2)).trans hx221_2
    replace hx221_3 := (HB.out.cell (World.block_lt_of_cell? w _ hx221_3)).trans hx221_3
    replace hx221_4 := (HB.out.cell (World.block_lt_of_cell? w _ hx221_4)).trans hx221_4
    replace hx221_5 := (HB.out.cell (World.block_lt_of_cell? w _ hx221_5)).trans hx221_5
    replace hx221_6 := (HB.out.cell (World.block_lt_of_cell? w _ hx221_6)).trans hx221_6
    replace hx221_7 := (HB.out.cell (World.block_lt_of_cell? w _ hx221_7)).trans hx221_7
    replace hx221_8 := (HB.out.cell (World.block_lt_of_cell? w _ hx221_8)).trans hx221_8
    replace hx221_9 := (HB.out.cell (World.block_lt_of_cell? w _ hx221_9)).trans hx221_9
    replace hx221_10 := (HB.out.cell (World.block_lt_of_cell? w _ hx221_10)).trans hx221_10
    replace hx221_11 := (HB.out.cell (World.block_lt_of_cell? w _ hx221_11)).trans hx221_11
    replace hx221_12 := (HB.out.cell (World.block_lt_of_cell? w _ hx221_12)).trans hx221_12
    replace hx221_13 := (HB.out.cell (World.block_lt_of_cell? w _ hx221_13)).trans hx221_13
    replace hx221_14 := (HB.out.cell (World.block_lt_of_cell? w _ hx221_14)).trans hx221_14
    replace p221 := eq_true p221
    replace q221 := eq_true q221
    go_wp2_with (first | ((with_reducible refine gld_ (t := 35) ?_); (try (refine gate_guard (by rfl) ?_; dsimp only)); first | refine wl15_ rfl 35 _ rfl rfl Try.underlying35 rfl (by kernel_rfl) ?_ | refine wlr15_ (g := gb222) rfl 35 _ rfl rfl Try.underlying35 rfl (by kernel_rfl) ?_ (hb := BK222.out) | refine wlr15_ (g := gb224) rfl 35 _ rfl rfl Try.underlying35 rfl (by kernel_rfl) ?_ (hb := BK224.out)) | ((with_reducible refine gst_ (t := 35) ?_); refine ws15_ (g := gb222) rfl 35 _ _ rfl rfl rfl (by kernel_rfl) ?_ (hb := BK222); generalize hW_ : World.setCell _ _ _ = w9_; replace BK222 : Aside0 (w9_.heap[gb222]? = some (.cells (e35_ (rd_T35 l0 x9_1)) 35 (0, 0))) := ⟨by rw [← hW_]; exact fxw15_ BK222⟩; replace HB : Aside0 (Below w.heap.size w w9_) := ⟨by rw [← hW_]; exact bl15_ HB.out GE222⟩; clear hW_) | ((with_reducible refine gst_ (t := 35) ?_); refine ws15_ (g := gb224) rfl 35 _ _ rfl rfl rfl (by kernel_rfl) ?_ (hb := BK224); generalize hW_ : World.setCell _ _ _ = w9_; replace BK224 : Aside0 (w9_.heap[gb224]? = some (.cells (e35_ (rd_T35 l0 x15_2)) 35 (0, 0))) := ⟨by rw [← hW_]; exact fxw15_ BK224⟩; replace BK222 : Aside0 (w9_.heap[gb222]? = some (.cells (e35_ (rd_T35 l0 x9_1)) 35 (0, 0))) := ⟨by rw [← hW_]; exact bf15_ BK222.out NB222_224⟩; replace HB : Aside0 (Below w.heap.size w w9_) := ⟨by rw [← hW_]; exact bl15_ HB.out GE224⟩; clear hW_) | ((with_reducible refine gate_dst (N := 4) rfl ?_); refine box_event ?hg (N := 4) ?hd (cs := #[.int .i64 0, .int .i64 0, .int .i64 0, .int .i64 0, .int .i64 0, .float .f64 0, .int .i64 0, .int .i64 0, .int .i64 0, .int .i64 0, .int .i64 0, .int .i64 0, .int .i64 0, .int .i64 0, .float .f64 0]) (t := 35) ?hr ?_; (case hd => rfl); (case hg => rfl); (case hr => first | (go_simp; done) | (go_simp; rfl)); intro gb222 hg w5 hbox hb; have BK222 := zM (hbox); have GW222 := zM (bs_ hg); have GE222 := zM (bs_ hg); replace HB := zM (zB bel_ hb); clear hb hbox hg; obtain ⟨hcz6_0, hcz6_1, hcz6_2, hcz6_3, hcz6_4, hcz6_5, hcz6_6, hcz6_7, hcz6_8, hcz6_9, hcz6_10, hcz6_11, hcz6_12, hcz6_13, hcz6_14⟩ := r15_ BK222.out; obtain ⟨hfz6_0, hfz6_1, hfz6_2, hfz6_3, hfz6_4, hfz6_5, hfz6_6, hfz6_7, hfz6_8, hfz6_9, hfz6_10, hfz6_11, hfz6_12, hfz6_13, hfz6_14⟩ := f15_ BK222.out))
    go_loopg [15] k1 (fun kq v15 w' => ∃ (x15_2 : Int), v15 = .int .i64 x15_2 ∧ Aside0 (past_Grows.l1 kq l0 l0 (l0.length : Int) x9_1 l0 (l0.length : Int) x15_2 ((rd_T35 l0 x9_1).f0) ((rd_T35 l0 x9_1).f1) ((rd_T35 l0 x9_1).f2) ((rd_T35 l0 x9_1).f3.f0) ((rd_T35 l0 x9_1).f3.f1) ((rd_T35 l0 x9_1).f3.f2) ((rd_T35 l0 x9_1).f3.f3.f0) ((rd_T35 l0 x9_1).f3.f3.f1) ((rd_T35 l0 x9_1).f4.f0) ((rd_T35 l0 x9_1).f4.f1.f0) ((rd_T35 l0 x9_1).f4.f1.f1) ((rd_T35 l0 x9_1).f4.f2.f0) ((rd_T35 l0 x9_1).f4.f2.f1.f0) ((rd_T35 l0 x9_1).f4.f2.f1.f1) ((rd_T35 l0 x9_1).f4.f2.f2) = some r) ∧ Aside0 (kq ≤ k1) ∧ Aside0 (w'.heap[gb222]? = some (.cells (e35_ (rd_T35 l0 x9_1)) 35 (0, 0))) ∧ Aside0 (Below w.heap.size w w'))
    case atStart => exact ⟨(0), (by first | rfl | (simp; done) | (simp [*]; done) | (simp; grind)), H', ⟨Nat.le_refl _⟩, ⟨by (with_reducible repeat (first | refine zN ?_ _ | refine zD ?_ | refine zA ?_ _)); first | exact BK222.out | exact fx15_ BK222⟩, ⟨bel_⟩⟩
    case round =>
     clear H'
     try clear c1
     try clear c2
     try clear c2b0
     try clear p2
     try clear q2
     try clear hx2
     try clear c3
     try clear c3b0
     try clear c4
     try clear c4b0
     try clear hcz6_0
     try clear hcz6_1
     try clear hcz6_10
     try clear hcz6_11
     try clear hcz6_12
     try clear hcz6_13
     try clear hcz6_14
     try clear hcz6_2
     try clear hcz6_3
     try clear hcz6_4
     try clear hcz6_5
     try clear hcz6_6
     try clear hcz6_7
     try clear hcz6_8
     try clear hcz6_9
     try clear hfz6_0
     try clear hfz6_1
     try clear hfz6_10
     try clear hfz6_11
     try clear hfz6_12
     try clear hfz6_13
     try clear hfz6_14
     try clear hfz6_2
     try clear hfz6_3
     try clear hfz6_4
     try clear hfz6_5
     try clear hfz6_6
     try clear hfz6_7
     try clear hfz6_8
     try clear hfz6_9
     try clear hx221_0
     try clear hx221_1
     try clear hx221_10
     try clear hx221_11
     try clear hx221_12
     try clear hx221_13
     try clear hx221_14
     try clear hx221_2
     try clear hx221_3
     try clear hx221_4
     try clear hx221_5
     try clear hx221_6
     try clear hx221_7
     try clear hx221_8
     try clear hx221_9
     try clear p221
     try clear q221
     obtain ⟨x15_2, rfl, HA, HK2, BK222, HB⟩ := hrel
     cases gk with
     | zero => exact absurd HA.out (by simp [past_Grows.l1])
     | succ k2 =>
      have H := HA.out
      clear HA
      simp only [past_Grows.l1] at H
      by_cases c7 : x15_2 < (l0.length : Int)
      rotate_left
      · rw [if_neg c7] at H
        have c7b0 : decide (x15_2 < (l0.length : Int)) = false := decide_eq_false c7
        clear c7
        have H' := zM H
        clear H
        go_wp2
        go_roundg k2
        case measure => have := HK1.out; have := HK2.out; omega
        case rel => exact ⟨(wrap64 (x9_1 + 1)), (by first | rfl | (simp; done) | (simp [*]; done) | (simp; grind)), H', ⟨by have := HK1.out; have := HK2.out; omega⟩, ⟨bel_⟩⟩
      rw [if_pos c7] at H
      have c7b0 : decide (x15_2 < (l0.length : Int)) = true := decide_eq_true c7
      clear c7
      by_cases c8 : 0 ≤ x15_2
      rotate_left
      · rw [if_neg c8] at H
        exact absurd H (by simp)
      rw [if_pos c8] at H
      have c8b0 : decide (0 ≤ x15_2) = true := decide_eq_true c8
      clear c8
      by_cases c9 : x15_2 < (l0.length : Int)
      rotate_left
      · rw [if_neg c9] at H
        exact absurd H (by simp)
      rw [if_pos c9] at H
      have c9b0 : decide (x15_2 < (l0.length : Int)) = true := decide_eq_true c9
      clear c9
      replace H := Option.bind_eq_some_iff.mp H
      obtain ⟨t225, A100, H⟩ := H
      replace H : (if t225 = true then ((past_Well.f ((rd_T35 l0 x15_2).f0) ((rd_T35 l0 x15_2).f1) ((rd_T35 l0 x15_2).f2) ((rd_T35 l0 x15_2).f3.f0) ((rd_T35 l0 x15_2).f3.f1) ((rd_T35 l0 x15_2).f3.f2) ((rd_T35 l0 x15_2).f3.f3.f0) ((rd_T35 l0 x15_2).f3.f3.f1) ((rd_T35 l0 x15_2).f4.f0) ((rd_T35 l0 x15_2).f4.f1.f0) ((rd_T35 l0 x15_2).f4.f1.f1) ((rd_T35 l0 x15_2).f4.f2.f0) ((rd_T35 l0 x15_2).f4.f2.f1.f0) ((rd_T35 l0 x15_2).f4.f2.f1.f1) ((rd_T35 l0 x15_2).f4.f2.f2)).bind fun t226 => (if t226 = true then ((past_Before.f ((rd_T35 l0 x9_1).f0) ((rd_T35 l0 x9_1).f1) ((rd_T35 l0 x9_1).f2) ((rd_T35 l0 x9_1).f3.f0) ((rd_T35 l0 x9_1).f3.f1) ((rd_T35 l0 x9_1).f3.f2) ((rd_T35 l0 x9_1).f3.f3.f0) ((rd_T35 l0 x9_1).f3.f3.f1) ((rd_T35 l0 x9_1).f4.f0) ((rd_T35 l0 x9_1).f4.f1.f0) ((rd_T35 l0 x9_1).f4.f1.f1) ((rd_T35 l0 x9_1).f4.f2.f0) ((rd_T35 l0 x9_1).f4.f2.f1.f0) ((rd_T35 l0 x9_1).f4.f2.f1.f1) ((rd_T35 l0 x9_1).f4.f2.f2) ((rd_T35 l0 x15_2).f0) ((rd_T35 l0 x15_2).f1) ((rd_T35 l0 x15_2).f2) ((rd_T35 l0 x15_2).f3.f0) ((rd_T35 l0 x15_2).f3.f1) ((rd_T35 l0 x15_2).f3.f2) ((rd_T35 l0 x15_2).f3.f3.f0) ((rd_T35 l0 x15_2).f3.f3.f1) ((rd_T35 l0 x15_2).f4.f0) ((rd_T35 l0 x15_2).f4.f1.f0) ((rd_T35 l0 x15_2).f4.f1.f1) ((rd_T35 l0 x15_2).f4.f2.f0) ((rd_T35 l0 x15_2).f4.f2.f1.f0) ((rd_T35 l0 x15_2).f4.f2.f1.f1) ((rd_T35 l0 x15_2).f4.f2.f2)).bind fun t227 => (if t227 = true then ((change_Within.f ((rd_T35 l0 x9_1).f4.f1.f0) ((rd_T35 l0 x9_1).f4.f1.f1) ((rd_T35 l0 x15_2).f4.f1.f0) ((rd_T35 l0 x15_2).f4.f1.f1)).bind fun t228 => (if t228 = true then (past_Grows.l1 k2 l0 l0 (l0.length : Int) x9_1 l0 (l0.length : Int) (wrap64 (x15_2 + 1)) ((rd_T35 l0 x9_1).f0) ((rd_T35 l0 x9_1).f1) ((rd_T35 l0 x9_1).f2) ((rd_T35 l0 x9_1).f3.f0) ((rd_T35 l0 x9_1).f3.f1) ((rd_T35 l0 x9_1).f3.f2) ((rd_T35 l0 x9_1).f3.f3.f0) ((rd_T35 l0 x9_1).f3.f3.f1) ((rd_T35 l0 x9_1).f4.f0) ((rd_T35 l0 x9_1).f4.f1.f0) ((rd_T35 l0 x9_1).f4.f1.f1) ((rd_T35 l0 x9_1).f4.f2.f0) ((rd_T35 l0 x9_1).f4.f2.f1.f0) ((rd_T35 l0 x9_1).f4.f2.f1.f1) ((rd_T35 l0 x9_1).f4.f2.f2)) else (some false))) else (past_Grows.l1 k2 l0 l0 (l0.length : Int) x9_1 l0 (l0.length : Int) (wrap64 (x15_2 + 1)) ((rd_T35 l0 x9_1).f0) ((rd_T35 l0 x9_1).f1) ((rd_T35 l0 x9_1).f2) ((rd_T35 l0 x9_1).f3.f0) ((rd_T35 l0 x9_1).f3.f1) ((rd_T35 l0 x9_1).f3.f2) ((rd_T35 l0 x9_1).f3.f3.f0) ((rd_T35 l0 x9_1).f3.f3.f1) ((rd_T35 l0 x9_1).f4.f0) ((rd_T35 l0 x9_1).f4.f1.f0) ((rd_T35 l0 x9_1).f4.f1.f1) ((rd_T35 l0 x9_1).f4.f2.f0) ((rd_T35 l0 x9_1).f4.f2.f1.f0) ((rd_T35 l0 x9_1).f4.f2.f1.f1) ((rd_T35 l0 x9_1).f4.f2.f2)))) else (past_Grows.l1 k2 l0 l0 (l0.length : Int) x9_1 l0 (l0.length : Int) (wrap64 (x15_2 + 1)) ((rd_T35 l0 x9_1).f0) ((rd_T35 l0 x9_1).f1) ((rd_T35 l0 x9_1).f2) ((rd_T35 l0 x9_1).f3.f0) ((rd_T35 l0 x9_1).f3.f1) ((rd_T35 l0 x9_1).f3.f2) ((rd_T35 l0 x9_1).f3.f3.f0) ((rd_T35 l0 x9_1).f3.f3.f1) ((rd_T35 l0 x9_1).f4.f0) ((rd_T35 l0 x9_1).f4.f1.f0) ((rd_T35 l0 x9_1).f4.f1.f1) ((rd_T35 l0 x9_1).f4.f2.f0) ((rd_T35 l0 x9_1).f4.f2.f1.f0) ((rd_T35 l0 x9_1).f4.f2.f1.f1) ((rd_T35 l0 x9_1).f4.f2.f2)))) else (past_Grows.l1 k2 l0 l0 (l0.length : Int) x9_1 l0 (l0.length : Int) (wrap64 (x15_2 + 1)) ((rd_T35 l0 x9_1).f0) ((rd_T35 l0 x9_1).f1) ((rd_T35 l0 x9_1).f2) ((rd_T35 l0 x9_1).f3.f0) ((rd_T35 l0 x9_1).f3.f1) ((rd_T35 l0 x9_1).f3.f2) ((rd_T35 l0 x9_1).f3.f3.f0) ((rd_T35 l0 x9_1).f3.f3.f1) ((rd_T35 l0 x9_1).f4.f0) ((rd_T35 l0 x9_1).f4.f1.f0) ((rd_T35 l0 x9_1).f4.f1.f1) ((rd_T35 l0 x9_1).f4.f2.f0) ((rd_T35 l0 x9_1).f4.f2.f1.f0) ((rd_T35 l0 x9_1).f4.f2.f1.f1) ((rd_T35 l0 x9_1).f4.f2.f2))) = some r := H
      have A10 := zM A100
      clear A100
      by_cases c11 : t225 = true
      rotate_left
      · replace c11 := Bool.eq_false_iff.mpr c11
        subst c11
        have H1 : (past_Grows.l1 k2 l0 l0 (l0.length : Int) x9_1 l0 (l0.length : Int) (wrap64 (x15_2 + 1)) ((rd_T35 l0 x9_1).f0) ((rd_T35 l0 x9_1).f1) ((rd_T35 l0 x9_1).f2) ((rd_T35 l0 x9_1).f3.f0) ((rd_T35 l0 x9_1).f3.f1) ((rd_T35 l0 x9_1).f3.f2) ((rd_T35 l0 x9_1).f3.f3.f0) ((rd_T35 l0 x9_1).f3.f3.f1) ((rd_T35 l0 x9_1).f4.f0) ((rd_T35 l0 x9_1).f4.f1.f0) ((rd_T35 l0 x9_1).f4.f1.f1) ((rd_T35 l0 x9_1).f4.f2.f0) ((rd_T35 l0 x9_1).f4.f2.f1.f0) ((rd_T35 l0 x9_1).f4.f2.f1.f1) ((rd_T35 l0 x9_1).f4.f2.f2)) = some r := by rw [if_neg (show ¬ (false = true) by decide)] at H; exact H
        clear H
        have H := H1
        clear H1
        have H' := zM H
        clear H
        have p223 : 0 ≤ (x15_2 : Int) := of_decide_eq_true (by first | (with_reducible assumption) | assumption)
        have q223 : x15_2 < (l0.length : Int) := of_decide_eq_true (by first | (with_reducible assumption) | assumption)
        obtain ⟨ad223, e223, hx223_0, hx223_1, hx223_2, hx223_3, hx223_4, hx223_5, hx223_6, hx223_7, hx223_8, hx223_9, hx223_10, hx223_11, hx223_12, hx223_13, hx223_14⟩ := at_T35 HR0.out x15_2 p223 q223
        obtain rfl : ad221 = ad223 := (by injection e223)
        replace hx223_0 := (HB.out.cell (World.block_lt_of_cell? w _ hx223_0)).trans hx223_0
        replace hx223_1 := (HB.out.cell (World.block_lt_of_cell? w _ hx223_1)).trans hx223_1
        replace hx223_2 := (HB.out.cell (World.block_lt_of_cell? w _ hx223_2)).trans hx223_2
        replace hx223_3 := (HB.out.cell (World.block_lt_of_cell? w _ hx223_3)).trans hx223_3
        replace hx223_4 := (HB.out.cell (World.block_lt_of_cell? w _ hx223_4)).trans hx223_4
        replace hx223_5 := (HB.out.cell (World.block_lt_of_cell? w _ hx223_5)).trans hx223_5
        replace hx223_6 := (HB.out.cell (World.block_lt_of_cell? w _ hx223_6)).trans hx223_6
        replace hx223_7 := (HB.out.cell (World.block_lt_of_cell? w _ hx223_7)).trans hx223_7
        replace hx223_8 := (HB.out.cell (World.block_lt_of_cell? w _ hx223_8)).trans hx223_8
        replace hx223_9 := (HB.out.cell (World.block_lt_of_cell? w _ hx223_9)).trans hx223_9
        replace hx223_10 := (HB.out.cell (World.block_lt_of_cell? w _ hx223_10)).trans hx223_10
        replace hx223_11 := (HB.out.cell (World.block_lt_of_cell? w _ hx223_11)).trans hx223_11
        replace hx223_12 := (HB.out.cell (World.block_lt_of_cell? w _ hx223_12)).trans hx223_12
        replace hx223_13 := (HB.out.cell (World.block_lt_of_cell? w _ hx223_13)).trans hx223_13
        replace hx223_14 := (HB.out.cell (World.block_lt_of_cell? w _ hx223_14)).trans hx223_14
        replace p223 := eq_true p223
        replace q223 := eq_true q223
        go_wp2_with (first | ((with_reducible refine gld_ (t := 35) ?_); (try (refine gate_guard (by rfl) ?_; dsimp only)); first | refine wl15_ rfl 35 _ rfl rfl Try.underlying35 rfl (by kernel_rfl) ?_ | refine wlr15_ (g := gb222) rfl 35 _ rfl rfl Try.underlying35 rfl (by kernel_rfl) ?_ (hb := BK222.out) | refine wlr15_ (g := gb224) rfl 35 _ rfl rfl Try.underlying35 rfl (by kernel_rfl) ?_ (hb := BK224.out)) | ((with_reducible refine gst_ (t := 35) ?_); refine ws15_ (g := gb222) rfl 35 _ _ rfl rfl rfl (by kernel_rfl) ?_ (hb := BK222); generalize hW_ : World.setCell _ _ _ = w9_; replace BK222 : Aside0 (w9_.heap[gb222]? = some (.cells (e35_ (rd_T35 l0 x9_1)) 35 (0, 0))) := ⟨by rw [← hW_]; exact fxw15_ BK222⟩; replace HB : Aside0 (Below w.heap.size w w9_) := ⟨by rw [← hW_]; exact bl15_ HB.out GE222⟩; clear hW_) | ((with_reducible refine gst_ (t := 35) ?_); refine ws15_ (g := gb224) rfl 35 _ _ rfl rfl rfl (by kernel_rfl) ?_ (hb := BK224); generalize hW_ : World.setCell _ _ _ = w9_; replace BK224 : Aside0 (w9_.heap[gb224]? = some (.cells (e35_ (rd_T35 l0 x15_2)) 35 (0, 0))) := ⟨by rw [← hW_]; exact fxw15_ BK224⟩; replace BK222 : Aside0 (w9_.heap[gb222]? = some (.cells (e35_ (rd_T35 l0 x9_1)) 35 (0, 0))) := ⟨by rw [← hW_]; exact bf15_ BK222.out NB222_224⟩; replace HB : Aside0 (Below w.heap.size w w9_) := ⟨by rw [← hW_]; exact bl15_ HB.out GE224⟩; clear hW_) | ((with_reducible refine gate_dst (N := 6) rfl ?_); refine box_event ?hg (N := 6) ?hd (cs := #[.int .i64 0, .int .i64 0, .int .i64 0, .int .i64 0, .int .i64 0, .float .f64 0, .int .i64 0, .int .i64 0, .int .i64 0, .int .i64 0, .int .i64 0, .int .i64 0, .int .i64 0, .int .i64 0, .float .f64 0]) (t := 35) ?hr ?_; (case hd => rfl); (case hg => rfl); (case hr => first | (go_simp; done) | (go_simp; rfl)); intro gb224 hg w61 hbox hb; have BK224 := zM (hbox); have GW224 := zM (bs_ hg); have GE224 := zM (bs_ hg); replace HB := zM (zB bel_ hb); have NB222_224 := zM (nl_ BK222 hg); have NB224_222 := zM (ng_ BK222 hg); replace BK222 := zM (bb_ BK222 hb); clear hb hbox hg; have hnb62 := NB224_222.out; have hnc62 := NB222_224.out; obtain ⟨hcz63_0, hcz63_1, hcz63_2, hcz63_3, hcz63_4, hcz63_5, hcz63_6, hcz63_7, hcz63_8, hcz63_9, hcz63_10, hcz63_11, hcz63_12, hcz63_13, hcz63_14⟩ := r15_ BK224.out; obtain ⟨hfz63_0, hfz63_1, hfz63_2, hfz63_3, hfz63_4, hfz63_5, hfz63_6, hfz63_7, hfz63_8, hfz63_9, hfz63_10, hfz63_11, hfz63_12, hfz63_13, hfz63_14⟩ := f15_ BK224.out; obtain ⟨hcz64_0, hcz64_1, hcz64_2, hcz64_3, hcz64_4, hcz64_5, hcz64_6, hcz64_7, hcz64_8, hcz64_9, hcz64_10, hcz64_11, hcz64_12, hcz64_13, hcz64_14⟩ := r15_ BK222.out; obtain ⟨hfz64_0, hfz64_1, hfz64_2, hfz64_3, hfz64_4, hfz64_5, hfz64_6, hfz64_7, hfz64_8, hfz64_9, hfz64_10, hfz64_11, hfz64_12, hfz64_13, hfz64_14⟩ := f15_ BK222.out) | ((with_reducible refine gate_callee (f := 11) rfl ?_); refine goL_ (some 20) Try.func11 #[.agg (e35_ (rd_T35 l0 x9_1))] ?_; (with_reducible refine (past_Well.calls ((rd_T35 l0 x9_1).f0) ((rd_T35 l0 x9_1).f1) ((rd_T35 l0 x9_1).f2) ((rd_T35 l0 x9_1).f3.f0) ((rd_T35 l0 x9_1).f3.f1) ((rd_T35 l0 x9_1).f3.f2) ((rd_T35 l0 x9_1).f3.f3.f0) ((rd_T35 l0 x9_1).f3.f3.f1) ((rd_T35 l0 x9_1).f4.f0) ((rd_T35 l0 x9_1).f4.f1.f0) ((rd_T35 l0 x9_1).f4.f1.f1) ((rd_T35 l0 x9_1).f4.f2.f0) ((rd_T35 l0 x9_1).f4.f2.f1.f0) ((rd_T35 l0 x9_1).f4.f2.f1.f1) ((rd_T35 l0 x9_1).f4.f2.f2) false _ A10.out).mono ?_); rintro e w65 ⟨rfl, hb⟩; refine ⟨_, rfl, ?_⟩; replace BK222 := zM (blk_below (g := gb222) (o := .cells (e35_ (rd_T35 l0 x9_1)) 35 (0, 0)) blf_ hb); replace BK224 := zM (blk_below (g := gb224) (o := .cells (e35_ (rd_T35 l0 x15_2)) 35 (0, 0)) (by (with_reducible repeat (first | refine zN ?_ _ | refine zD ?_ | refine zA ?_ _)); first | exact BK224.out | exact fx15_ BK224) hb); replace HB := zM (zB bel_ hb); (try clear hb); (try clear hb2); (try clear hk); (try clear hi)))
        go_roundg k2
        case measure => have := HK1.out; have := HK2.out; omega
        case rel => exact ⟨(wrap64 (x15_2 + 1)), (by first | rfl | (simp; done) | (simp [*]; done) | (simp; grind)), H', ⟨by have := HK1.out; have := HK2.out; omega⟩, ⟨blf_⟩, ⟨bel_⟩⟩
      subst c11
      have H1 : ((past_Well.f ((rd_T35 l0 x15_2).f0) ((rd_T35 l0 x15_2).f1) ((rd_T35 l0 x15_2).f2) ((rd_T35 l0 x15_2).f3.f0) ((rd_T35 l0 x15_2).f3.f1) ((rd_T35 l0 x15_2).f3.f2) ((rd_T35 l0 x15_2).f3.f3.f0) ((rd_T35 l0 x15_2).f3.f3.f1) ((rd_T35 l0 x15_2).f4.f0) ((rd_T35 l0 x15_2).f4.f1.f0) ((rd_T35 l0 x15_2).f4.f1.f1) ((rd_T35 l0 x15_2).f4.f2.f0) ((rd_T35 l0 x15_2).f4.f2.f1.f0) ((rd_T35 l0 x15_2).f4.f2.f1.f1) ((rd_T35 l0 x15_2).f4.f2.f2)).bind fun t226 => (if t226 = true then ((past_Before.f ((rd_T35 l0 x9_1).f0) ((rd_T35 l0 x9_1).f1) ((rd_T35 l0 x9_1).f2) ((rd_T35 l0 x9_1).f3.f0) ((rd_T35 l0 x9_1).f3.f1) ((rd_T35 l0 x9_1).f3.f2) ((rd_T35 l0 x9_1).f3.f3.f0) ((rd_T35 l0 x9_1).f3.f3.f1) ((rd_T35 l0 x9_1).f4.f0) ((rd_T35 l0 x9_1).f4.f1.f0) ((rd_T35 l0 x9_1).f4.f1.f1) ((rd_T35 l0 x9_1).f4.f2.f0) ((rd_T35 l0 x9_1).f4.f2.f1.f0) ((rd_T35 l0 x9_1).f4.f2.f1.f1) ((rd_T35 l0 x9_1).f4.f2.f2) ((rd_T35 l0 x15_2).f0) ((rd_T35 l0 x15_2).f1) ((rd_T35 l0 x15_2).f2) ((rd_T35 l0 x15_2).f3.f0) ((rd_T35 l0 x15_2).f3.f1) ((rd_T35 l0 x15_2).f3.f2) ((rd_T35 l0 x15_2).f3.f3.f0) ((rd_T35 l0 x15_2).f3.f3.f1) ((rd_T35 l0 x15_2).f4.f0) ((rd_T35 l0 x15_2).f4.f1.f0) ((rd_T35 l0 x15_2).f4.f1.f1) ((rd_T35 l0 x15_2).f4.f2.f0) ((rd_T35 l0 x15_2).f4.f2.f1.f0) ((rd_T35 l0 x15_2).f4.f2.f1.f1) ((rd_T35 l0 x15_2).f4.f2.f2)).bind fun t227 => (if t227 = true then ((change_Within.f ((rd_T35 l0 x9_1).f4.f1.f0) ((rd_T35 l0 x9_1).f4.f1.f1) ((rd_T35 l0 x15_2).f4.f1.f0) ((rd_T35 l0 x15_2).f4.f1.f1)).bind fun t228 => (if t228 = true then (past_Grows.l1 k2 l0 l0 (l0.length : Int) x9_1 l0 (l0.length : Int) (wrap64 (x15_2 + 1)) ((rd_T35 l0 x9_1).f0) ((rd_T35 l0 x9_1).f1) ((rd_T35 l0 x9_1).f2) ((rd_T35 l0 x9_1).f3.f0) ((rd_T35 l0 x9_1).f3.f1) ((rd_T35 l0 x9_1).f3.f2) ((rd_T35 l0 x9_1).f3.f3.f0) ((rd_T35 l0 x9_1).f3.f3.f1) ((rd_T35 l0 x9_1).f4.f0) ((rd_T35 l0 x9_1).f4.f1.f0) ((rd_T35 l0 x9_1).f4.f1.f1) ((rd_T35 l0 x9_1).f4.f2.f0) ((rd_T35 l0 x9_1).f4.f2.f1.f0) ((rd_T35 l0 x9_1).f4.f2.f1.f1) ((rd_T35 l0 x9_1).f4.f2.f2)) else (some false))) else (past_Grows.l1 k2 l0 l0 (l0.length : Int) x9_1 l0 (l0.length : Int) (wrap64 (x15_2 + 1)) ((rd_T35 l0 x9_1).f0) ((rd_T35 l0 x9_1).f1) ((rd_T35 l0 x9_1).f2) ((rd_T35 l0 x9_1).f3.f0) ((rd_T35 l0 x9_1).f3.f1) ((rd_T35 l0 x9_1).f3.f2) ((rd_T35 l0 x9_1).f3.f3.f0) ((rd_T35 l0 x9_1).f3.f3.f1) ((rd_T35 l0 x9_1).f4.f0) ((rd_T35 l0 x9_1).f4.f1.f0) ((rd_T35 l0 x9_1).f4.f1.f1) ((rd_T35 l0 x9_1).f4.f2.f0) ((rd_T35 l0 x9_1).f4.f2.f1.f0) ((rd_T35 l0 x9_1).f4.f2.f1.f1) ((rd_T35 l0 x9_1).f4.f2.f2)))) else (past_Grows.l1 k2 l0 l0 (l0.length : Int) x9_1 l0 (l0.length : Int) (wrap64 (x15_2 + 1)) ((rd_T35 l0 x9_1).f0) ((rd_T35 l0 x9_1).f1) ((rd_T35 l0 x9_1).f2) ((rd_T35 l0 x9_1).f3.f0) ((rd_T35 l0 x9_1).f3.f1) ((rd_T35 l0 x9_1).f3.f2) ((rd_T35 l0 x9_1).f3.f3.f0) ((rd_T35 l0 x9_1).f3.f3.f1) ((rd_T35 l0 x9_1).f4.f0) ((rd_T35 l0 x9_1).f4.f1.f0) ((rd_T35 l0 x9_1).f4.f1.f1) ((rd_T35 l0 x9_1).f4.f2.f0) ((rd_T35 l0 x9_1).f4.f2.f1.f0) ((rd_T35 l0 x9_1).f4.f2.f1.f1) ((rd_T35 l0 x9_1).f4.f2.f2)))) = some r := by rw [if_pos rfl] at H; exact H
      clear H
      have H := H1
      clear H1
      replace H := Option.bind_eq_some_iff.mp H
      obtain ⟨t226, A120, H⟩ := H
      replace H : (if t226 = true then ((past_Before.f ((rd_T35 l0 x9_1).f0) ((rd_T35 l0 x9_1).f1) ((rd_T35 l0 x9_1).f2) ((rd_T35 l0 x9_1).f3.f0) ((rd_T35 l0 x9_1).f3.f1) ((rd_T35 l0 x9_1).f3.f2) ((rd_T35 l0 x9_1).f3.f3.f0) ((rd_T35 l0 x9_1).f3.f3.f1) ((rd_T35 l0 x9_1).f4.f0) ((rd_T35 l0 x9_1).f4.f1.f0) ((rd_T35 l0 x9_1).f4.f1.f1) ((rd_T35 l0 x9_1).f4.f2.f0) ((rd_T35 l0 x9_1).f4.f2.f1.f0) ((rd_T35 l0 x9_1).f4.f2.f1.f1) ((rd_T35 l0 x9_1).f4.f2.f2) ((rd_T35 l0 x15_2).f0) ((rd_T35 l0 x15_2).f1) ((rd_T35 l0 x15_2).f2) ((rd_T35 l0 x15_2).f3.f0) ((rd_T35 l0 x15_2).f3.f1) ((rd_T35 l0 x15_2).f3.f2) ((rd_T35 l0 x15_2).f3.f3.f0) ((rd_T35 l0 x15_2).f3.f3.f1) ((rd_T35 l0 x15_2).f4.f0) ((rd_T35 l0 x15_2).f4.f1.f0) ((rd_T35 l0 x15_2).f4.f1.f1) ((rd_T35 l0 x15_2).f4.f2.f0) ((rd_T35 l0 x15_2).f4.f2.f1.f0) ((rd_T35 l0 x15_2).f4.f2.f1.f1) ((rd_T35 l0 x15_2).f4.f2.f2)).bind fun t227 => (if t227 = true then ((change_Within.f ((rd_T35 l0 x9_1).f4.f1.f0) ((rd_T35 l0 x9_1).f4.f1.f1) ((rd_T35 l0 x15_2).f4.f1.f0) ((rd_T35 l0 x15_2).f4.f1.f1)).bind fun t228 => (if t228 = true then (past_Grows.l1 k2 l0 l0 (l0.length : Int) x9_1 l0 (l0.length : Int) (wrap64 (x15_2 + 1)) ((rd_T35 l0 x9_1).f0) ((rd_T35 l0 x9_1).f1) ((rd_T35 l0 x9_1).f2) ((rd_T35 l0 x9_1).f3.f0) ((rd_T35 l0 x9_1).f3.f1) ((rd_T35 l0 x9_1).f3.f2) ((rd_T35 l0 x9_1).f3.f3.f0) ((rd_T35 l0 x9_1).f3.f3.f1) ((rd_T35 l0 x9_1).f4.f0) ((rd_T35 l0 x9_1).f4.f1.f0) ((rd_T35 l0 x9_1).f4.f1.f1) ((rd_T35 l0 x9_1).f4.f2.f0) ((rd_T35 l0 x9_1).f4.f2.f1.f0) ((rd_T35 l0 x9_1).f4.f2.f1.f1) ((rd_T35 l0 x9_1).f4.f2.f2)) else (some false))) else (past_Grows.l1 k2 l0 l0 (l0.length : Int) x9_1 l0 (l0.length : Int) (wrap64 (x15_2 + 1)) ((rd_T35 l0 x9_1).f0) ((rd_T35 l0 x9_1).f1) ((rd_T35 l0 x9_1).f2) ((rd_T35 l0 x9_1).f3.f0) ((rd_T35 l0 x9_1).f3.f1) ((rd_T35 l0 x9_1).f3.f2) ((rd_T35 l0 x9_1).f3.f3.f0) ((rd_T35 l0 x9_1).f3.f3.f1) ((rd_T35 l0 x9_1).f4.f0) ((rd_T35 l0 x9_1).f4.f1.f0) ((rd_T35 l0 x9_1).f4.f1.f1) ((rd_T35 l0 x9_1).f4.f2.f0) ((rd_T35 l0 x9_1).f4.f2.f1.f0) ((rd_T35 l0 x9_1).f4.f2.f1.f1) ((rd_T35 l0 x9_1).f4.f2.f2)))) else (past_Grows.l1 k2 l0 l0 (l0.length : Int) x9_1 l0 (l0.length : Int) (wrap64 (x15_2 + 1)) ((rd_T35 l0 x9_1).f0) ((rd_T35 l0 x9_1).f1) ((rd_T35 l0 x9_1).f2) ((rd_T35 l0 x9_1).f3.f0) ((rd_T35 l0 x9_1).f3.f1) ((rd_T35 l0 x9_1).f3.f2) ((rd_T35 l0 x9_1).f3.f3.f0) ((rd_T35 l0 x9_1).f3.f3.f1) ((rd_T35 l0 x9_1).f4.f0) ((rd_T35 l0 x9_1).f4.f1.f0) ((rd_T35 l0 x9_1).f4.f1.f1) ((rd_T35 l0 x9_1).f4.f2.f0) ((rd_T35 l0 x9_1).f4.f2.f1.f0) ((rd_T35 l0 x9_1).f4.f2.f1.f1) ((rd_T35 l0 x9_1).f4.f2.f2))) = some r := H
      have A12 := zM A120
      clear A120
      by_cases c13 : t226 = true
      rotate_left
      · replace c13 := Bool.eq_false_iff.mpr c13
        subst c13
        have H1 : (past_Grows.l1 k2 l0 l0 (l0.length : Int) x9_1 l0 (l0.length : Int) (wrap64 (x15_2 + 1)) ((rd_T35 l0 x9_1).f0) ((rd_T35 l0 x9_1).f1) ((rd_T35 l0 x9_1).f2) ((rd_T35 l0 x9_1).f3.f0) ((rd_T35 l0 x9_1).f3.f1) ((rd_T35 l0 x9_1).f3.f2) ((rd_T35 l0 x9_1).f3.f3.f0) ((rd_T35 l0 x9_1).f3.f3.f1) ((rd_T35 l0 x9_1).f4.f0) ((rd_T35 l0 x9_1).f4.f1.f0) ((rd_T35 l0 x9_1).f4.f1.f1) ((rd_T35 l0 x9_1).f4.f2.f0) ((rd_T35 l0 x9_1).f4.f2.f1.f0) ((rd_T35 l0 x9_1).f4.f2.f1.f1) ((rd_T35 l0 x9_1).f4.f2.f2)) = some r := by rw [if_neg (show ¬ (false = true) by decide)] at H; exact H
        clear H
        have H := H1
        clear H1
        have H' := zM H
        clear H
        have p223 : 0 ≤ (x15_2 : Int) := of_decide_eq_true (by first | (with_reducible assumption) | assumption)
        have q223 : x15_2 < (l0.length : Int) := of_decide_eq_true (by first | (with_reducible assumption) | assumption)
        obtain ⟨ad223, e223, hx223_0, hx223_1, hx223_2, hx223_3, hx223_4, hx223_5, hx223_6, hx223_7, hx223_8, hx223_9, hx223_10, hx223_11, hx223_12, hx223_13, hx223_14⟩ := at_T35 HR0.out x15_2 p223 q223
        obtain rfl : ad221 = ad223 := (by injection e223)
        replace hx223_0 := (HB.out.cell (World.block_lt_of_cell? w _ hx223_0)).trans hx223_0
        replace hx223_1 := (HB.out.cell (World.block_lt_of_cell? w _ hx223_1)).trans hx223_1
        replace hx223_2 := (HB.out.cell (World.block_lt_of_cell? w _ hx223_2)).trans hx223_2
        replace hx223_3 := (HB.out.cell (World.block_lt_of_cell? w _ hx223_3)).trans hx223_3
        replace hx223_4 := (HB.out.cell (World.block_lt_of_cell? w _ hx223_4)).trans hx223_4
        replace hx223_5 := (HB.out.cell (World.block_lt_of_cell? w _ hx223_5)).trans hx223_5
        replace hx223_6 := (HB.out.cell (World.block_lt_of_cell? w _ hx223_6)).trans hx223_6
        replace hx223_7 := (HB.out.cell (World.block_lt_of_cell? w _ hx223_7)).trans hx223_7
        replace hx223_8 := (HB.out.cell (World.block_lt_of_cell? w _ hx223_8)).trans hx223_8
        replace hx223_9 := (HB.out.cell (World.block_lt_of_cell? w _ hx223_9)).trans hx223_9
        replace hx223_10 := (HB.out.cell (World.block_lt_of_cell? w _ hx223_10)).trans hx223_10
        replace hx223_11 := (HB.out.cell (World.block_lt_of_cell? w _ hx223_11)).trans hx223_11
        replace hx223_12 := (HB.out.cell (World.block_lt_of_cell? w _ hx223_12)).trans hx223_12
        replace hx223_13 := (HB.out.cell (World.block_lt_of_cell? w _ hx223_13)).trans hx223_13
        replace hx223_14 := (HB.out.cell (World.block_lt_of_cell? w _ hx223_14)).trans hx223_14
        replace p223 := eq_true p223
        replace q223 := eq_true q223
        go_wp2_with (first | ((with_reducible refine gld_ (t := 35) ?_); (try (refine gate_guard (by rfl) ?_; dsimp only)); first | refine wl15_ rfl 35 _ rfl rfl Try.underlying35 rfl (by kernel_rfl) ?_ | refine wlr15_ (g := gb222) rfl 35 _ rfl rfl Try.underlying35 rfl (by kernel_rfl) ?_ (hb := BK222.out) | refine wlr15_ (g := gb224) rfl 35 _ rfl rfl Try.underlying35 rfl (by kernel_rfl) ?_ (hb := BK224.out)) | ((with_reducible refine gst_ (t := 35) ?_); refine ws15_ (g := gb222) rfl 35 _ _ rfl rfl rfl (by kernel_rfl) ?_ (hb := BK222); generalize hW_ : World.setCell _ _ _ = w9_; replace BK222 : Aside0 (w9_.heap[gb222]? = some (.cells (e35_ (rd_T35 l0 x9_1)) 35 (0, 0))) := ⟨by rw [← hW_]; exact fxw15_ BK222⟩; replace HB : Aside0 (Below w.heap.size w w9_) := ⟨by rw [← hW_]; exact bl15_ HB.out GE222⟩; clear hW_) | ((with_reducible refine gst_ (t := 35) ?_); refine ws15_ (g := gb224) rfl 35 _ _ rfl rfl rfl (by kernel_rfl) ?_ (hb := BK224); generalize hW_ : World.setCell _ _ _ = w9_; replace BK224 : Aside0 (w9_.heap[gb224]? = some (.cells (e35_ (rd_T35 l0 x15_2)) 35 (0, 0))) := ⟨by rw [← hW_]; exact fxw15_ BK224⟩; replace BK222 : Aside0 (w9_.heap[gb222]? = some (.cells (e35_ (rd_T35 l0 x9_1)) 35 (0, 0))) := ⟨by rw [← hW_]; exact bf15_ BK222.out NB222_224⟩; replace HB : Aside0 (Below w.heap.size w w9_) := ⟨by rw [← hW_]; exact bl15_ HB.out GE224⟩; clear hW_) | ((with_reducible refine gate_dst (N := 6) rfl ?_); refine box_event ?hg (N := 6) ?hd (cs := #[.int .i64 0, .int .i64 0, .int .i64 0, .int .i64 0, .int .i64 0, .float .f64 0, .int .i64 0, .int .i64 0, .int .i64 0, .int .i64 0, .int .i64 0, .int .i64 0, .int .i64 0, .int .i64 0, .float .f64 0]) (t := 35) ?hr ?_; (case hd => rfl); (case hg => rfl); (case hr => first | (go_simp; done) | (go_simp; rfl)); intro gb224 hg w54 hbox hb; have BK224 := zM (hbox); have GW224 := zM (bs_ hg); have GE224 := zM (bs_ hg); replace HB := zM (zB bel_ hb); have NB222_224 := zM (nl_ BK222 hg); have NB224_222 := zM (ng_ BK222 hg); replace BK222 := zM (bb_ BK222 hb); clear hb hbox hg; have hnb55 := NB224_222.out; have hnc55 := NB222_224.out; obtain ⟨hcz56_0, hcz56_1, hcz56_2, hcz56_3, hcz56_4, hcz56_5, hcz56_6, hcz56_7, hcz56_8, hcz56_9, hcz56_10, hcz56_11, hcz56_12, hcz56_13, hcz56_14⟩ := r15_ BK224.out; obtain ⟨hfz56_0, hfz56_1, hfz56_2, hfz56_3, hfz56_4, hfz56_5, hfz56_6, hfz56_7, hfz56_8, hfz56_9, hfz56_10, hfz56_11, hfz56_12, hfz56_13, hfz56_14⟩ := f15_ BK224.out; obtain ⟨hcz57_0, hcz57_1, hcz57_2, hcz57_3, hcz57_4, hcz57_5, hcz57_6, hcz57_7, hcz57_8, hcz57_9, hcz57_10, hcz57_11, hcz57_12, hcz57_13, hcz57_14⟩ := r15_ BK222.out; obtain ⟨hfz57_0, hfz57_1, hfz57_2, hfz57_3, hfz57_4, hfz57_5, hfz57_6, hfz57_7, hfz57_8, hfz57_9, hfz57_10, hfz57_11, hfz57_12, hfz57_13, hfz57_14⟩ := f15_ BK222.out) | ((with_reducible refine gate_callee (f := 11) rfl ?_); refine goL_ (some 20) Try.func11 #[.agg (e35_ (rd_T35 l0 x9_1))] ?_; (with_reducible refine (past_Well.calls ((rd_T35 l0 x9_1).f0) ((rd_T35 l0 x9_1).f1) ((rd_T35 l0 x9_1).f2) ((rd_T35 l0 x9_1).f3.f0) ((rd_T35 l0 x9_1).f3.f1) ((rd_T35 l0 x9_1).f3.f2) ((rd_T35 l0 x9_1).f3.f3.f0) ((rd_T35 l0 x9_1).f3.f3.f1) ((rd_T35 l0 x9_1).f4.f0) ((rd_T35 l0 x9_1).f4.f1.f0) ((rd_T35 l0 x9_1).f4.f1.f1) ((rd_T35 l0 x9_1).f4.f2.f0) ((rd_T35 l0 x9_1).f4.f2.f1.f0) ((rd_T35 l0 x9_1).f4.f2.f1.f1) ((rd_T35 l0 x9_1).f4.f2.f2) true _ A10.out).mono ?_); rintro e w58 ⟨rfl, hb⟩; refine ⟨_, rfl, ?_⟩; replace BK222 := zM (blk_below (g := gb222) (o := .cells (e35_ (rd_T35 l0 x9_1)) 35 (0, 0)) blf_ hb); replace BK224 := zM (blk_below (g := gb224) (o := .cells (e35_ (rd_T35 l0 x15_2)) 35 (0, 0)) (by (with_reducible repeat (first | refine zN ?_ _ | refine zD ?_ | refine zA ?_ _)); first | exact BK224.out | exact fx15_ BK224) hb); replace HB := zM (zB bel_ hb); (try clear hb); (try clear hb2); (try clear hk); (try clear hi); obtain ⟨hcz59_0, hcz59_1, hcz59_2, hcz59_3, hcz59_4, hcz59_5, hcz59_6, hcz59_7, hcz59_8, hcz59_9, hcz59_10, hcz59_11, hcz59_12, hcz59_13, hcz59_14⟩ := r15_ BK224.out; obtain ⟨hfz59_0, hfz59_1, hfz59_2, hfz59_3, hfz59_4, hfz59_5, hfz59_6, hfz59_7, hfz59_8, hfz59_9, hfz59_10, hfz59_11, hfz59_12, hfz59_13, hfz59_14⟩ := f15_ BK224.out) | (go_at_call 11; (with_reducible refine (past_Well.calls ((rd_T35 l0 x15_2).f0) ((rd_T35 l0 x15_2).f1) ((rd_T35 l0 x15_2).f2) ((rd_T35 l0 x15_2).f3.f0) ((rd_T35 l0 x15_2).f3.f1) ((rd_T35 l0 x15_2).f3.f2) ((rd_T35 l0 x15_2).f3.f3.f0) ((rd_T35 l0 x15_2).f3.f3.f1) ((rd_T35 l0 x15_2).f4.f0) ((rd_T35 l0 x15_2).f4.f1.f0) ((rd_T35 l0 x15_2).f4.f1.f1) ((rd_T35 l0 x15_2).f4.f2.f0) ((rd_T35 l0 x15_2).f4.f2.f1.f0) ((rd_T35 l0 x15_2).f4.f2.f1.f1) ((rd_T35 l0 x15_2).f4.f2.f2) false _ A12.out).mono ?_); rintro e w60 ⟨rfl, hb⟩; replace BK222 := zM (bb_ BK222 hb); replace BK224 := zM (bb_ BK224 hb); replace HB := zM (zB bel_ hb); (try clear hb); (try clear hb2); (try clear hk); (try clear hi)))
        go_roundg k2
        case measure => have := HK1.out; have := HK2.out; omega
        case rel => exact ⟨(wrap64 (x15_2 + 1)), (by first | rfl | (simp; done) | (simp [*]; done) | (simp; grind)), H', ⟨by have := HK1.out; have := HK2.out; omega⟩, ⟨blf_⟩, ⟨bel_⟩⟩
      subst c13
      have H1 : ((past_Before.f ((rd_T35 l0 x9_1).f0) ((rd_T35 l0 x9_1).f1) ((rd_T35 l0 x9_1).f2) ((rd_T35 l0 x9_1).f3.f0) ((rd_T35 l0 x9_1).f3.f1) ((rd_T35 l0 x9_1).f3.f2) ((rd_T35 l0 x9_1).f3.f3.f0) ((rd_T35 l0 x9_1).f3.f3.f1) ((rd_T35 l0 x9_1).f4.f0) ((rd_T35 l0 x9_1).f4.f1.f0) ((rd_T35 l0 x9_1).f4.f1.f1) ((rd_T35 l0 x9_1).f4.f2.f0) ((rd_T35 l0 x9_1).f4.f2.f1.f0) ((rd_T35 l0 x9_1).f4.f2.f1.f1) ((rd_T35 l0 x9_1).f4.f2.f2) ((rd_T35 l0 x15_2).f0) ((rd_T35 l0 x15_2).f1) ((rd_T35 l0 x15_2).f2) ((rd_T35 l0 x15_2).f3.f0) ((rd_T35 l0 x15_2).f3.f1) ((rd_T35 l0 x15_2).f3.f2) ((rd_T35 l0 x15_2).f3.f3.f0) ((rd_T35 l0 x15_2).f3.f3.f1) ((rd_T35 l0 x15_2).f4.f0) ((rd_T35 l0 x15_2).f4.f1.f0) ((rd_T35 l0 x15_2).f4.f1.f1) ((rd_T35 l0 x15_2).f4.f2.f0) ((rd_T35 l0 x15_2).f4.f2.f1.f0) ((rd_T35 l0 x15_2).f4.f2.f1.f1) ((rd_T35 l0 x15_2).f4.f2.f2)).bind fun t227 => (if t227 = true then ((change_Within.f ((rd_T35 l0 x9_1).f4.f1.f0) ((rd_T35 l0 x9_1).f4.f1.f1) ((rd_T35 l0 x15_2).f4.f1.f0) ((rd_T35 l0 x15_2).f4.f1.f1)).bind fun t228 => (if t228 = true then (past_Grows.l1 k2 l0 l0 (l0.length : Int) x9_1 l0 (l0.length : Int) (wrap64 (x15_2 + 1)) ((rd_T35 l0 x9_1).f0) ((rd_T35 l0 x9_1).f1) ((rd_T35 l0 x9_1).f2) ((rd_T35 l0 x9_1).f3.f0) ((rd_T35 l0 x9_1).f3.f1) ((rd_T35 l0 x9_1).f3.f2) ((rd_T35 l0 x9_1).f3.f3.f0) ((rd_T35 l0 x9_1).f3.f3.f1) ((rd_T35 l0 x9_1).f4.f0) ((rd_T35 l0 x9_1).f4.f1.f0) ((rd_T35 l0 x9_1).f4.f1.f1) ((rd_T35 l0 x9_1).f4.f2.f0) ((rd_T35 l0 x9_1).f4.f2.f1.f0) ((rd_T35 l0 x9_1).f4.f2.f1.f1) ((rd_T35 l0 x9_1).f4.f2.f2)) else (some false))) else (past_Grows.l1 k2 l0 l0 (l0.length : Int) x9_1 l0 (l0.length : Int) (wrap64 (x15_2 + 1)) ((rd_T35 l0 x9_1).f0) ((rd_T35 l0 x9_1).f1) ((rd_T35 l0 x9_1).f2) ((rd_T35 l0 x9_1).f3.f0) ((rd_T35 l0 x9_1).f3.f1) ((rd_T35 l0 x9_1).f3.f2) ((rd_T35 l0 x9_1).f3.f3.f0) ((rd_T35 l0 x9_1).f3.f3.f1) ((rd_T35 l0 x9_1).f4.f0) ((rd_T35 l0 x9_1).f4.f1.f0) ((rd_T35 l0 x9_1).f4.f1.f1) ((rd_T35 l0 x9_1).f4.f2.f0) ((rd_T35 l0 x9_1).f4.f2.f1.f0) ((rd_T35 l0 x9_1).f4.f2.f1.f1) ((rd_T35 l0 x9_1).f4.f2.f2)))) = some r := by rw [if_pos rfl] at H; exact H
      clear H
      have H := H1
      clear H1
      replace H := Option.bind_eq_some_iff.mp H
      obtain ⟨t227, A140, H⟩ := H
      replace H : (if t227 = true then ((change_Within.f ((rd_T35 l0 x9_1).f4.f1.f0) ((rd_T35 l0 x9_1).f4.f1.f1) ((rd_T35 l0 x15_2).f4.f1.f0) ((rd_T35 l0 x15_2).f4.f1.f1)).bind fun t228 => (if t228 = true then (past_Grows.l1 k2 l0 l0 (l0.length : Int) x9_1 l0 (l0.length : Int) (wrap64 (x15_2 + 1)) ((rd_T35 l0 x9_1).f0) ((rd_T35 l0 x9_1).f1) ((rd_T35 l0 x9_1).f2) ((rd_T35 l0 x9_1).f3.f0) ((rd_T35 l0 x9_1).f3.f1) ((rd_T35 l0 x9_1).f3.f2) ((rd_T35 l0 x9_1).f3.f3.f0) ((rd_T35 l0 x9_1).f3.f3.f1) ((rd_T35 l0 x9_1).f4.f0) ((rd_T35 l0 x9_1).f4.f1.f0) ((rd_T35 l0 x9_1).f4.f1.f1) ((rd_T35 l0 x9_1).f4.f2.f0) ((rd_T35 l0 x9_1).f4.f2.f1.f0) ((rd_T35 l0 x9_1).f4.f2.f1.f1) ((rd_T35 l0 x9_1).f4.f2.f2)) else (some false))) else (past_Grows.l1 k2 l0 l0 (l0.length : Int) x9_1 l0 (l0.length : Int) (wrap64 (x15_2 + 1)) ((rd_T35 l0 x9_1).f0) ((rd_T35 l0 x9_1).f1) ((rd_T35 l0 x9_1).f2) ((rd_T35 l0 x9_1).f3.f0) ((rd_T35 l0 x9_1).f3.f1) ((rd_T35 l0 x9_1).f3.f2) ((rd_T35 l0 x9_1).f3.f3.f0) ((rd_T35 l0 x9_1).f3.f3.f1) ((rd_T35 l0 x9_1).f4.f0) ((rd_T35 l0 x9_1).f4.f1.f0) ((rd_T35 l0 x9_1).f4.f1.f1) ((rd_T35 l0 x9_1).f4.f2.f0) ((rd_T35 l0 x9_1).f4.f2.f1.f0) ((rd_T35 l0 x9_1).f4.f2.f1.f1) ((rd_T35 l0 x9_1).f4.f2.f2))) = some r := H
      have A14 := zM A140
      clear A140
      by_cases c15 : t227 = true
      rotate_left
      · replace c15 := Bool.eq_false_iff.mpr c15
        subst c15
        have H1 : (past_Grows.l1 k2 l0 l0 (l0.length : Int) x9_1 l0 (l0.length : Int) (wrap64 (x15_2 + 1)) ((rd_T35 l0 x9_1).f0) ((rd_T35 l0 x9_1).f1) ((rd_T35 l0 x9_1).f2) ((rd_T35 l0 x9_1).f3.f0) ((rd_T35 l0 x9_1).f3.f1) ((rd_T35 l0 x9_1).f3.f2) ((rd_T35 l0 x9_1).f3.f3.f0) ((rd_T35 l0 x9_1).f3.f3.f1) ((rd_T35 l0 x9_1).f4.f0) ((rd_T35 l0 x9_1).f4.f1.f0) ((rd_T35 l0 x9_1).f4.f1.f1) ((rd_T35 l0 x9_1).f4.f2.f0) ((rd_T35 l0 x9_1).f4.f2.f1.f0) ((rd_T35 l0 x9_1).f4.f2.f1.f1) ((rd_T35 l0 x9_1).f4.f2.f2)) = some r := by rw [if_neg (show ¬ (false = true) by decide)] at H; exact H
        clear H
        have H := H1
        clear H1
        have H' := zM H
        clear H
        have p223 : 0 ≤ (x15_2 : Int) := of_decide_eq_true (by first | (with_reducible assumption) | assumption)
        have q223 : x15_2 < (l0.length : Int) := of_decide_eq_true (by first | (with_reducible assumption) | assumption)
        obtain ⟨ad223, e223, hx223_0, hx223_1, hx223_2, hx223_3, hx223_4, hx223_5, hx223_6, hx223_7, hx223_8, hx223_9, hx223_10, hx223_11, hx223_12, hx223_13, hx223_14⟩ := at_T35 HR0.out x15_2 p223 q223
        obtain rfl : ad221 = ad223 := (by injection e223)
        replace hx223_0 := (HB.out.cell (World.block_lt_of_cell? w _ hx223_0)).trans hx223_0
        replace hx223_1 := (HB.out.cell (World.block_lt_of_cell? w _ hx223_1)).trans hx223_1
        replace hx223_2 := (HB.out.cell (World.block_lt_of_cell? w _ hx223_2)).trans hx223_2
        replace hx223_3 := (HB.out.cell (World.block_lt_of_cell? w _ hx223_3)).trans hx223_3
        replace hx223_4 := (HB.out.cell (World.block_lt_of_cell? w _ hx223_4)).trans hx223_4
        replace hx223_5 := (HB.out.cell (World.block_lt_of_cell? w _ hx223_5)).trans hx223_5
        replace hx223_6 := (HB.out.cell (World.block_lt_of_cell? w _ hx223_6)).trans hx223_6
        replace hx223_7 := (HB.out.cell (World.block_lt_of_cell? w _ hx223_7)).trans hx223_7
        replace hx223_8 := (HB.out.cell (World.block_lt_of_cell? w _ hx223_8)).trans hx223_8
        replace hx223_9 := (HB.out.cell (World.block_lt_of_cell? w _ hx223_9)).trans hx223_9
        replace hx223_10 := (HB.out.cell (World.block_lt_of_cell? w _ hx223_10)).trans hx223_10
        replace hx223_11 := (HB.out.cell (World.block_lt_of_cell? w _ hx223_11)).trans hx223_11
        replace hx223_12 := (HB.out.cell (World.block_lt_of_cell? w _ hx223_12)).trans hx223_12
        replace hx223_13 := (HB.out.cell (World.block_lt_of_cell? w _ hx223_13)).trans hx223_13
        replace hx223_14 := (HB.out.cell (World.block_lt_of_cell? w _ hx223_14)).trans hx223_14
        replace p223 := eq_true p223
        replace q223 := eq_true q223
        go_wp2_with (first | ((with_reducible refine gld_ (t := 35) ?_); (try (refine gate_guard (by rfl) ?_; dsimp only)); first | refine wl15_ rfl 35 _ rfl rfl Try.underlying35 rfl (by kernel_rfl) ?_ | refine wlr15_ (g := gb222) rfl 35 _ rfl rfl Try.underlying35 rfl (by kernel_rfl) ?_ (hb := BK222.out) | refine wlr15_ (g := gb224) rfl 35 _ rfl rfl Try.underlying35 rfl (by kernel_rfl) ?_ (hb := BK224.out)) | ((with_reducible refine gst_ (t := 35) ?_); refine ws15_ (g := gb222) rfl 35 _ _ rfl rfl rfl (by kernel_rfl) ?_ (hb := BK222); generalize hW_ : World.setCell _ _ _ = w9_; replace BK222 : Aside0 (w9_.heap[gb222]? = some (.cells (e35_ (rd_T35 l0 x9_1)) 35 (0, 0))) := ⟨by rw [← hW_]; exact fxw15_ BK222⟩; replace HB : Aside0 (Below w.heap.size w w9_) := ⟨by rw [← hW_]; exact bl15_ HB.out GE222⟩; clear hW_) | ((with_reducible refine gst_ (t := 35) ?_); refine ws15_ (g := gb224) rfl 35 _ _ rfl rfl rfl (by kernel_rfl) ?_ (hb := BK224); generalize hW_ : World.setCell _ _ _ = w9_; replace BK224 : Aside0 (w9_.heap[gb224]? = some (.cells (e35_ (rd_T35 l0 x15_2)) 35 (0, 0))) := ⟨by rw [← hW_]; exact fxw15_ BK224⟩; replace BK222 : Aside0 (w9_.heap[gb222]? = some (.cells (e35_ (rd_T35 l0 x9_1)) 35 (0, 0))) := ⟨by rw [← hW_]; exact bf15_ BK222.out NB222_224⟩; replace HB : Aside0 (Below w.heap.size w w9_) := ⟨by rw [← hW_]; exact bl15_ HB.out GE224⟩; clear hW_) | ((with_reducible refine gate_dst (N := 6) rfl ?_); refine box_event ?hg (N := 6) ?hd (cs := #[.int .i64 0, .int .i64 0, .int .i64 0, .int .i64 0, .int .i64 0, .float .f64 0, .int .i64 0, .int .i64 0, .int .i64 0, .int .i64 0, .int .i64 0, .int .i64 0, .int .i64 0, .int .i64 0, .float .f64 0]) (t := 35) ?hr ?_; (case hd => rfl); (case hg => rfl); (case hr => first | (go_simp; done) | (go_simp; rfl)); intro gb224 hg w44 hbox hb; have BK224 := zM (hbox); have GW224 := zM (bs_ hg); have GE224 := zM (bs_ hg); replace HB := zM (zB bel_ hb); have NB222_224 := zM (nl_ BK222 hg); have NB224_222 := zM (ng_ BK222 hg); replace BK222 := zM (bb_ BK222 hb); clear hb hbox hg; have hnb45 := NB224_222.out; have hnc45 := NB222_224.out; obtain ⟨hcz46_0, hcz46_1, hcz46_2, hcz46_3, hcz46_4, hcz46_5, hcz46_6, hcz46_7, hcz46_8, hcz46_9, hcz46_10, hcz46_11, hcz46_12, hcz46_13, hcz46_14⟩ := r15_ BK224.out; obtain ⟨hfz46_0, hfz46_1, hfz46_2, hfz46_3, hfz46_4, hfz46_5, hfz46_6, hfz46_7, hfz46_8, hfz46_9, hfz46_10, hfz46_11, hfz46_12, hfz46_13, hfz46_14⟩ := f15_ BK224.out; obtain ⟨hcz47_0, hcz47_1, hcz47_2, hcz47_3, hcz47_4, hcz47_5, hcz47_6, hcz47_7, hcz47_8, hcz47_9, hcz47_10, hcz47_11, hcz47_12, hcz47_13, hcz47_14⟩ := r15_ BK222.out; obtain ⟨hfz47_0, hfz47_1, hfz47_2, hfz47_3, hfz47_4, hfz47_5, hfz47_6, hfz47_7, hfz47_8, hfz47_9, hfz47_10, hfz47_11, hfz47_12, hfz47_13, hfz47_14⟩ := f15_ BK222.out) | ((with_reducible refine gate_callee (f := 11) rfl ?_); refine goL_ (some 20) Try.func11 #[.agg (e35_ (rd_T35 l0 x9_1))] ?_; (with_reducible refine (past_Well.calls ((rd_T35 l0 x9_1).f0) ((rd_T35 l0 x9_1).f1) ((rd_T35 l0 x9_1).f2) ((rd_T35 l0 x9_1).f3.f0) ((rd_T35 l0 x9_1).f3.f1) ((rd_T35 l0 x9_1).f3.f2) ((rd_T35 l0 x9_1).f3.f3.f0) ((rd_T35 l0 x9_1).f3.f3.f1) ((rd_T35 l0 x9_1).f4.f0) ((rd_T35 l0 x9_1).f4.f1.f0) ((rd_T35 l0 x9_1).f4.f1.f1) ((rd_T35 l0 x9_1).f4.f2.f0) ((rd_T35 l0 x9_1).f4.f2.f1.f0) ((rd_T35 l0 x9_1).f4.f2.f1.f1) ((rd_T35 l0 x9_1).f4.f2.f2) true _ A10.out).mono ?_); rintro e w48 ⟨rfl, hb⟩; refine ⟨_, rfl, ?_⟩; replace BK222 := zM (blk_below (g := gb222) (o := .cells (e35_ (rd_T35 l0 x9_1)) 35 (0, 0)) blf_ hb); replace BK224 := zM (blk_below (g := gb224) (o := .cells (e35_ (rd_T35 l0 x15_2)) 35 (0, 0)) (by (with_reducible repeat (first | refine zN ?_ _ | refine zD ?_ | refine zA ?_ _)); first | exact BK224.out | exact fx15_ BK224) hb); replace HB := zM (zB bel_ hb); (try clear hb); (try clear hb2); (try clear hk); (try clear hi); obtain ⟨hcz49_0, hcz49_1, hcz49_2, hcz49_3, hcz49_4, hcz49_5, hcz49_6, hcz49_7, hcz49_8, hcz49_9, hcz49_10, hcz49_11, hcz49_12, hcz49_13, hcz49_14⟩ := r15_ BK224.out; obtain ⟨hfz49_0, hfz49_1, hfz49_2, hfz49_3, hfz49_4, hfz49_5, hfz49_6, hfz49_7, hfz49_8, hfz49_9, hfz49_10, hfz49_11, hfz49_12, hfz49_13, hfz49_14⟩ := f15_ BK224.out) | (go_at_call 11; (with_reducible refine (past_Well.calls ((rd_T35 l0 x15_2).f0) ((rd_T35 l0 x15_2).f1) ((rd_T35 l0 x15_2).f2) ((rd_T35 l0 x15_2).f3.f0) ((rd_T35 l0 x15_2).f3.f1) ((rd_T35 l0 x15_2).f3.f2) ((rd_T35 l0 x15_2).f3.f3.f0) ((rd_T35 l0 x15_2).f3.f3.f1) ((rd_T35 l0 x15_2).f4.f0) ((rd_T35 l0 x15_2).f4.f1.f0) ((rd_T35 l0 x15_2).f4.f1.f1) ((rd_T35 l0 x15_2).f4.f2.f0) ((rd_T35 l0 x15_2).f4.f2.f1.f0) ((rd_T35 l0 x15_2).f4.f2.f1.f1) ((rd_T35 l0 x15_2).f4.f2.f2) true _ A12.out).mono ?_); rintro e w50 ⟨rfl, hb⟩; replace BK222 := zM (bb_ BK222 hb); replace BK224 := zM (bb_ BK224 hb); replace HB := zM (zB bel_ hb); (try clear hb); (try clear hb2); (try clear hk); (try clear hi); obtain ⟨hcz51_0, hcz51_1, hcz51_2, hcz51_3, hcz51_4, hcz51_5, hcz51_6, hcz51_7, hcz51_8, hcz51_9, hcz51_10, hcz51_11, hcz51_12, hcz51_13, hcz51_14⟩ := r15_ BK222.out; obtain ⟨hfz51_0, hfz51_1, hfz51_2, hfz51_3, hfz51_4, hfz51_5, hfz51_6, hfz51_7, hfz51_8, hfz51_9, hfz51_10, hfz51_11, hfz51_12, hfz51_13, hfz51_14⟩ := f15_ BK222.out; obtain ⟨hcz52_0, hcz52_1, hcz52_2, hcz52_3, hcz52_4, hcz52_5, hcz52_6, hcz52_7, hcz52_8, hcz52_9, hcz52_10, hcz52_11, hcz52_12, hcz52_13, hcz52_14⟩ := r15_ BK224.out; obtain ⟨hfz52_0, hfz52_1, hfz52_2, hfz52_3, hfz52_4, hfz52_5, hfz52_6, hfz52_7, hfz52_8, hfz52_9, hfz52_10, hfz52_11, hfz52_12, hfz52_13, hfz52_14⟩ := f15_ BK224.out) | (go_at_call 12; (with_reducible refine (past_Before.calls ((rd_T35 l0 x9_1).f0) ((rd_T35 l0 x9_1).f1) ((rd_T35 l0 x9_1).f2) ((rd_T35 l0 x9_1).f3.f0) ((rd_T35 l0 x9_1).f3.f1) ((rd_T35 l0 x9_1).f3.f2) ((rd_T35 l0 x9_1).f3.f3.f0) ((rd_T35 l0 x9_1).f3.f3.f1) ((rd_T35 l0 x9_1).f4.f0) ((rd_T35 l0 x9_1).f4.f1.f0) ((rd_T35 l0 x9_1).f4.f1.f1) ((rd_T35 l0 x9_1).f4.f2.f0) ((rd_T35 l0 x9_1).f4.f2.f1.f0) ((rd_T35 l0 x9_1).f4.f2.f1.f1) ((rd_T35 l0 x9_1).f4.f2.f2) ((rd_T35 l0 x15_2).f0) ((rd_T35 l0 x15_2).f1) ((rd_T35 l0 x15_2).f2) ((rd_T35 l0 x15_2).f3.f0) ((rd_T35 l0 x15_2).f3.f1) ((rd_T35 l0 x15_2).f3.f2) ((rd_T35 l0 x15_2).f3.f3.f0) ((rd_T35 l0 x15_2).f3.f3.f1) ((rd_T35 l0 x15_2).f4.f0) ((rd_T35 l0 x15_2).f4.f1.f0) ((rd_T35 l0 x15_2).f4.f1.f1) ((rd_T35 l0 x15_2).f4.f2.f0) ((rd_T35 l0 x15_2).f4.f2.f1.f0) ((rd_T35 l0 x15_2).f4.f2.f1.f1) ((rd_T35 l0 x15_2).f4.f2.f2) false _ A14.out).mono ?_); rintro e w53 ⟨rfl, hb⟩; replace BK222 := zM (bb_ BK222 hb); replace BK224 := zM (bb_ BK224 hb); replace HB := zM (zB bel_ hb); (try clear hb); (try clear hb2); (try clear hk); (try clear hi)))
        go_roundg k2
        case measure => have := HK1.out; have := HK2.out; omega
        case rel => exact ⟨(wrap64 (x15_2 + 1)), (by first | rfl | (simp; done) | (simp [*]; done) | (simp; grind)), H', ⟨by have := HK1.out; have := HK2.out; omega⟩, ⟨blf_⟩, ⟨bel_⟩⟩
      subst c15
      have H1 : ((change_Within.f ((rd_T35 l0 x9_1).f4.f1.f0) ((rd_T35 l0 x9_1).f4.f1.f1) ((rd_T35 l0 x15_2).f4.f1.f0) ((rd_T35 l0 x15_2).f4.f1.f1)).bind fun t228 => (if t228 = true then (past_Grows.l1 k2 l0 l0 (l0.length : Int) x9_1 l0 (l0.length : Int) (wrap64 (x15_2 + 1)) ((rd_T35 l0 x9_1).f0) ((rd_T35 l0 x9_1).f1) ((rd_T35 l0 x9_1).f2) ((rd_T35 l0 x9_1).f3.f0) ((rd_T35 l0 x9_1).f3.f1) ((rd_T35 l0 x9_1).f3.f2) ((rd_T35 l0 x9_1).f3.f3.f0) ((rd_T35 l0 x9_1).f3.f3.f1) ((rd_T35 l0 x9_1).f4.f0) ((rd_T35 l0 x9_1).f4.f1.f0) ((rd_T35 l0 x9_1).f4.f1.f1) ((rd_T35 l0 x9_1).f4.f2.f0) ((rd_T35 l0 x9_1).f4.f2.f1.f0) ((rd_T35 l0 x9_1).f4.f2.f1.f1) ((rd_T35 l0 x9_1).f4.f2.f2)) else (some false))) = some r := by rw [if_pos rfl] at H; exact H
      clear H
      have H := H1
      clear H1
      replace H := Option.bind_eq_some_iff.mp H
      obtain ⟨t228, A160, H⟩ := H
      replace H : (if t228 = true then (past_Grows.l1 k2 l0 l0 (l0.length : Int) x9_1 l0 (l0.length : Int) (wrap64 (x15_2 + 1)) ((rd_T35 l0 x9_1).f0) ((rd_T35 l0 x9_1).f1) ((rd_T35 l0 x9_1).f2) ((rd_T35 l0 x9_1).f3.f0) ((rd_T35 l0 x9_1).f3.f1) ((rd_T35 l0 x9_1).f3.f2) ((rd_T35 l0 x9_1).f3.f3.f0) ((rd_T35 l0 x9_1).f3.f3.f1) ((rd_T35 l0 x9_1).f4.f0) ((rd_T35 l0 x9_1).f4.f1.f0) ((rd_T35 l0 x9_1).f4.f1.f1) ((rd_T35 l0 x9_1).f4.f2.f0) ((rd_T35 l0 x9_1).f4.f2.f1.f0) ((rd_T35 l0 x9_1).f4.f2.f1.f1) ((rd_T35 l0 x9_1).f4.f2.f2)) else (some false)) = some r := H
      have A16 := zM A160
      clear A160
      by_cases c17 : t228 = true
      rotate_left
      · replace c17 := Bool.eq_false_iff.mpr c17
        subst c17
        have H1 : (some false) = some r := by rw [if_neg (show ¬ (false = true) by decide)] at H; exact H
        clear H
        have H := H1
        clear H1
        obtain rfl := Option.some.inj H
        have p223 : 0 ≤ (x15_2 : Int) := of_decide_eq_true (by first | (with_reducible assumption) | assumption)
        have q223 : x15_2 < (l0.length : Int) := of_decide_eq_true (by first | (with_reducible assumption) | assumption)
        obtain ⟨ad223, e223, hx223_0, hx223_1, hx223_2, hx223_3, hx223_4, hx223_5, hx223_6, hx223_7, hx223_8, hx223_9, hx223_10, hx223_11, hx223_12, hx223_13, hx223_14⟩ := at_T35 HR0.out x15_2 p223 q223
        obtain rfl : ad221 = ad223 := (by injection e223)
        replace hx223_0 := (HB.out.cell (World.block_lt_of_cell? w _ hx223_0)).trans hx223_0
        replace hx223_1 := (HB.out.cell (World.block_lt_of_cell? w _ hx223_1)).trans hx223_1
        replace hx223_2 := (HB.out.cell (World.block_lt_of_cell? w _ hx223_2)).trans hx223_2
        replace hx223_3 := (HB.out.cell (World.block_lt_of_cell? w _ hx223_3)).trans hx223_3
        replace hx223_4 := (HB.out.cell (World.block_lt_of_cell? w _ hx223_4)).trans hx223_4
        replace hx223_5 := (HB.out.cell (World.block_lt_of_cell? w _ hx223_5)).trans hx223_5
        replace hx223_6 := (HB.out.cell (World.block_lt_of_cell? w _ hx223_6)).trans hx223_6
        replace hx223_7 := (HB.out.cell (World.block_lt_of_cell? w _ hx223_7)).trans hx223_7
        replace hx223_8 := (HB.out.cell (World.block_lt_of_cell? w _ hx223_8)).trans hx223_8
        replace hx223_9 := (HB.out.cell (World.block_lt_of_cell? w _ hx223_9)).trans hx223_9
        replace hx223_10 := (HB.out.cell (World.block_lt_of_cell? w _ hx223_10)).trans hx223_10
        replace hx223_11 := (HB.out.cell (World.block_lt_of_cell? w _ hx223_11)).trans hx223_11
        replace hx223_12 := (HB.out.cell (World.block_lt_of_cell? w _ hx223_12)).trans hx223_12
        replace hx223_13 := (HB.out.cell (World.block_lt_of_cell? w _ hx223_13)).trans hx223_13
        replace hx223_14 := (HB.out.cell (World.block_lt_of_cell? w _ hx223_14)).trans hx223_14
        replace p223 := eq_true p223
        replace q223 := eq_true q223
        go_wp2_with (first | ((with_reducible refine gld_ (t := 35) ?_); (try (refine gate_guard (by rfl) ?_; dsimp only)); first | refine wl15_ rfl 35 _ rfl rfl Try.underlying35 rfl (by kernel_rfl) ?_ | refine wlr15_ (g := gb222) rfl 35 _ rfl rfl Try.underlying35 rfl (by kernel_rfl) ?_ (hb := BK222.out) | refine wlr15_ (g := gb224) rfl 35 _ rfl rfl Try.underlying35 rfl (by kernel_rfl) ?_ (hb := BK224.out)) | ((with_reducible refine gst_ (t := 35) ?_); refine ws15_ (g := gb222) rfl 35 _ _ rfl rfl rfl (by kernel_rfl) ?_ (hb := BK222); generalize hW_ : World.setCell _ _ _ = w9_; replace BK222 : Aside0 (w9_.heap[gb222]? = some (.cells (e35_ (rd_T35 l0 x9_1)) 35 (0, 0))) := ⟨by rw [← hW_]; exact fxw15_ BK222⟩; replace HB : Aside0 (Below w.heap.size w w9_) := ⟨by rw [← hW_]; exact bl15_ HB.out GE222⟩; clear hW_) | ((with_reducible refine gst_ (t := 35) ?_); refine ws15_ (g := gb224) rfl 35 _ _ rfl rfl rfl (by kernel_rfl) ?_ (hb := BK224); generalize hW_ : World.setCell _ _ _ = w9_; replace BK224 : Aside0 (w9_.heap[gb224]? = some (.cells (e35_ (rd_T35 l0 x15_2)) 35 (0, 0))) := ⟨by rw [← hW_]; exact fxw15_ BK224⟩; replace BK222 : Aside0 (w9_.heap[gb222]? = some (.cells (e35_ (rd_T35 l0 x9_1)) 35 (0, 0))) := ⟨by rw [← hW_]; exact bf15_ BK222.out NB222_224⟩; replace HB : Aside0 (Below w.heap.size w w9_) := ⟨by rw [← hW_]; exact bl15_ HB.out GE224⟩; clear hW_) | ((with_reducible refine gate_dst (N := 6) rfl ?_); refine box_event ?hg (N := 6) ?hd (cs := #[.int .i64 0, .int .i64 0, .int .i64 0, .int .i64 0, .int .i64 0, .float .f64 0, .int .i64 0, .int .i64 0, .int .i64 0, .int .i64 0, .int .i64 0, .int .i64 0, .int .i64 0, .int .i64 0, .float .f64 0]) (t := 35) ?hr ?_; (case hd => rfl); (case hg => rfl); (case hr => first | (go_simp; done) | (go_simp; rfl)); intro gb224 hg w31 hbox hb; have BK224 := zM (hbox); have GW224 := zM (bs_ hg); have GE224 := zM (bs_ hg); replace HB := zM (zB bel_ hb); have NB222_224 := zM (nl_ BK222 hg); have NB224_222 := zM (ng_ BK222 hg); replace BK222 := zM (bb_ BK222 hb); clear hb hbox hg; have hnb32 := NB224_222.out; have hnc32 := NB222_224.out; obtain ⟨hcz33_0, hcz33_1, hcz33_2, hcz33_3, hcz33_4, hcz33_5, hcz33_6, hcz33_7, hcz33_8, hcz33_9, hcz33_10, hcz33_11, hcz33_12, hcz33_13, hcz33_14⟩ := r15_ BK224.out; obtain ⟨hfz33_0, hfz33_1, hfz33_2, hfz33_3, hfz33_4, hfz33_5, hfz33_6, hfz33_7, hfz33_8, hfz33_9, hfz33_10, hfz33_11, hfz33_12, hfz33_13, hfz33_14⟩ := f15_ BK224.out; obtain ⟨hcz34_0, hcz34_1, hcz34_2, hcz34_3, hcz34_4, hcz34_5, hcz34_6, hcz34_7, hcz34_8, hcz34_9, hcz34_10, hcz34_11, hcz34_12, hcz34_13, hcz34_14⟩ := r15_ BK222.out; obtain ⟨hfz34_0, hfz34_1, hfz34_2, hfz34_3, hfz34_4, hfz34_5, hfz34_6, hfz34_7, hfz34_8, hfz34_9, hfz34_10, hfz34_11, hfz34_12, hfz34_13, hfz34_14⟩ := f15_ BK222.out) | ((with_reducible refine gate_callee (f := 11) rfl ?_); refine goL_ (some 20) Try.func11 #[.agg (e35_ (rd_T35 l0 x9_1))] ?_; (with_reducible refine (past_Well.calls ((rd_T35 l0 x9_1).f0) ((rd_T35 l0 x9_1).f1) ((rd_T35 l0 x9_1).f2) ((rd_T35 l0 x9_1).f3.f0) ((rd_T35 l0 x9_1).f3.f1) ((rd_T35 l0 x9_1).f3.f2) ((rd_T35 l0 x9_1).f3.f3.f0) ((rd_T35 l0 x9_1).f3.f3.f1) ((rd_T35 l0 x9_1).f4.f0) ((rd_T35 l0 x9_1).f4.f1.f0) ((rd_T35 l0 x9_1).f4.f1.f1) ((rd_T35 l0 x9_1).f4.f2.f0) ((rd_T35 l0 x9_1).f4.f2.f1.f0) ((rd_T35 l0 x9_1).f4.f2.f1.f1) ((rd_T35 l0 x9_1).f4.f2.f2) true _ A10.out).mono ?_); rintro e w35 ⟨rfl, hb⟩; refine ⟨_, rfl, ?_⟩; replace BK222 := zM (blk_below (g := gb222) (o := .cells (e35_ (rd_T35 l0 x9_1)) 35 (0, 0)) blf_ hb); replace BK224 := zM (blk_below (g := gb224) (o := .cells (e35_ (rd_T35 l0 x15_2)) 35 (0, 0)) (by (with_reducible repeat (first | refine zN ?_ _ | refine zD ?_ | refine zA ?_ _)); first | exact BK224.out | exact fx15_ BK224) hb); replace HB := zM (zB bel_ hb); (try clear hb); (try clear hb2); (try clear hk); (try clear hi); obtain ⟨hcz36_0, hcz36_1, hcz36_2, hcz36_3, hcz36_4, hcz36_5, hcz36_6, hcz36_7, hcz36_8, hcz36_9, hcz36_10, hcz36_11, hcz36_12, hcz36_13, hcz36_14⟩ := r15_ BK224.out; obtain ⟨hfz36_0, hfz36_1, hfz36_2, hfz36_3, hfz36_4, hfz36_5, hfz36_6, hfz36_7, hfz36_8, hfz36_9, hfz36_10, hfz36_11, hfz36_12, hfz36_13, hfz36_14⟩ := f15_ BK224.out) | (go_at_call 11; (with_reducible refine (past_Well.calls ((rd_T35 l0 x15_2).f0) ((rd_T35 l0 x15_2).f1) ((rd_T35 l0 x15_2).f2) ((rd_T35 l0 x15_2).f3.f0) ((rd_T35 l0 x15_2).f3.f1) ((rd_T35 l0 x15_2).f3.f2) ((rd_T35 l0 x15_2).f3.f3.f0) ((rd_T35 l0 x15_2).f3.f3.f1) ((rd_T35 l0 x15_2).f4.f0) ((rd_T35 l0 x15_2).f4.f1.f0) ((rd_T35 l0 x15_2).f4.f1.f1) ((rd_T35 l0 x15_2).f4.f2.f0) ((rd_T35 l0 x15_2).f4.f2.f1.f0) ((rd_T35 l0 x15_2).f4.f2.f1.f1) ((rd_T35 l0 x15_2).f4.f2.f2) true _ A12.out).mono ?_); rintro e w37 ⟨rfl, hb⟩; replace BK222 := zM (bb_ BK222 hb); replace BK224 := zM (bb_ BK224 hb); replace HB := zM (zB bel_ hb); (try clear hb); (try clear hb2); (try clear hk); (try clear hi); obtain ⟨hcz38_0, hcz38_1, hcz38_2, hcz38_3, hcz38_4, hcz38_5, hcz38_6, hcz38_7, hcz38_8, hcz38_9, hcz38_10, hcz38_11, hcz38_12, hcz38_13, hcz38_14⟩ := r15_ BK222.out; obtain ⟨hfz38_0, hfz38_1, hfz38_2, hfz38_3, hfz38_4, hfz38_5, hfz38_6, hfz38_7, hfz38_8, hfz38_9, hfz38_10, hfz38_11, hfz38_12, hfz38_13, hfz38_14⟩ := f15_ BK222.out; obtain ⟨hcz39_0, hcz39_1, hcz39_2, hcz39_3, hcz39_4, hcz39_5, hcz39_6, hcz39_7, hcz39_8, hcz39_9, hcz39_10, hcz39_11, hcz39_12, hcz39_13, hcz39_14⟩ := r15_ BK224.out; obtain ⟨hfz39_0, hfz39_1, hfz39_2, hfz39_3, hfz39_4, hfz39_5, hfz39_6, hfz39_7, hfz39_8, hfz39_9, hfz39_10, hfz39_11, hfz39_12, hfz39_13, hfz39_14⟩ := f15_ BK224.out) | (go_at_call 12; (with_reducible refine (past_Before.calls ((rd_T35 l0 x9_1).f0) ((rd_T35 l0 x9_1).f1) ((rd_T35 l0 x9_1).f2) ((rd_T35 l0 x9_1).f3.f0) ((rd_T35 l0 x9_1).f3.f1) ((rd_T35 l0 x9_1).f3.f2) ((rd_T35 l0 x9_1).f3.f3.f0) ((rd_T35 l0 x9_1).f3.f3.f1) ((rd_T35 l0 x9_1).f4.f0) ((rd_T35 l0 x9_1).f4.f1.f0) ((rd_T35 l0 x9_1).f4.f1.f1) ((rd_T35 l0 x9_1).f4.f2.f0) ((rd_T35 l0 x9_1).f4.f2.f1.f0) ((rd_T35 l0 x9_1).f4.f2.f1.f1) ((rd_T35 l0 x9_1).f4.f2.f2) ((rd_T35 l0 x15_2).f0) ((rd_T35 l0 x15_2).f1) ((rd_T35 l0 x15_2).f2) ((rd_T35 l0 x15_2).f3.f0) ((rd_T35 l0 x15_2).f3.f1) ((rd_T35 l0 x15_2).f3.f2) ((rd_T35 l0 x15_2).f3.f3.f0) ((rd_T35 l0 x15_2).f3.f3.f1) ((rd_T35 l0 x15_2).f4.f0) ((rd_T35 l0 x15_2).f4.f1.f0) ((rd_T35 l0 x15_2).f4.f1.f1) ((rd_T35 l0 x15_2).f4.f2.f0) ((rd_T35 l0 x15_2).f4.f2.f1.f0) ((rd_T35 l0 x15_2).f4.f2.f1.f1) ((rd_T35 l0 x15_2).f4.f2.f2) true _ A14.out).mono ?_); rintro e w40 ⟨rfl, hb⟩; replace BK222 := zM (bb_ BK222 hb); replace BK224 := zM (bb_ BK224 hb); replace HB := zM (zB bel_ hb); (try clear hb); (try clear hb2); (try clear hk); (try clear hi); obtain ⟨hcz41_0, hcz41_1, hcz41_2, hcz41_3, hcz41_4, hcz41_5, hcz41_6, hcz41_7, hcz41_8, hcz41_9, hcz41_10, hcz41_11, hcz41_12, hcz41_13, hcz41_14⟩ := r15_ BK222.out; obtain ⟨hfz41_0, hfz41_1, hfz41_2, hfz41_3, hfz41_4, hfz41_5, hfz41_6, hfz41_7, hfz41_8, hfz41_9, hfz41_10, hfz41_11, hfz41_12, hfz41_13, hfz41_14⟩ := f15_ BK222.out; obtain ⟨hcz42_0, hcz42_1, hcz42_2, hcz42_3, hcz42_4, hcz42_5, hcz42_6, hcz42_7, hcz42_8, hcz42_9, hcz42_10, hcz42_11, hcz42_12, hcz42_13, hcz42_14⟩ := r15_ BK224.out; obtain ⟨hfz42_0, hfz42_1, hfz42_2, hfz42_3, hfz42_4, hfz42_5, hfz42_6, hfz42_7, hfz42_8, hfz42_9, hfz42_10, hfz42_11, hfz42_12, hfz42_13, hfz42_14⟩ := f15_ BK224.out) | (go_at_call 28; (with_reducible refine (change_Within.calls ((rd_T35 l0 x9_1).f4.f1.f0) ((rd_T35 l0 x9_1).f4.f1.f1) ((rd_T35 l0 x15_2).f4.f1.f0) ((rd_T35 l0 x15_2).f4.f1.f1) false _ A16.out).mono ?_); rintro e w43 ⟨rfl, hb⟩; replace BK222 := zM (bb_ BK222 hb); replace BK224 := zM (bb_ BK224 hb); replace HB := zM (zB bel_ hb); (try clear hb); (try clear hb2); (try clear hk); (try clear hi)))
        go_ret
        exact ⟨by first | rfl | (simp [errW_none, errW_some] <;> rfl) | (simp [*, errW_none, errW_some] <;> rfl), bel_⟩
      subst c17
      have H1 : (past_Grows.l1 k2 l0 l0 (l0.length : Int) x9_1 l0 (l0.length : Int) (wrap64 (x15_2 + 1)) ((rd_T35 l0 x9_1).f0) ((rd_T35 l0 x9_1).f1) ((rd_T35 l0 x9_1).f2) ((rd_T35 l0 x9_1).f3.f0) ((rd_T35 l0 x9_1).f3.f1) ((rd_T35 l0 x9_1).f3.f2) ((rd_T35 l0 x9_1).f3.f3.f0) ((rd_T35 l0 x9_1).f3.f3.f1) ((rd_T35 l0 x9_1).f4.f0) ((rd_T35 l0 x9_1).f4.f1.f0) ((rd_T35 l0 x9_1).f4.f1.f1) ((rd_T35 l0 x9_1).f4.f2.f0) ((rd_T35 l0 x9_1).f4.f2.f1.f0) ((rd_T35 l0 x9_1).f4.f2.f1.f1) ((rd_T35 l0 x9_1).f4.f2.f2)) = some r := by rw [if_pos rfl] at H; exact H
      clear H
      have H := H1
      clear H1
      have H' := zM H
      clear H
      have p223 : 0 ≤ (x15_2 : Int) := of_decide_eq_true (by first | (with_reducible assumption) | assumption)
      have q223 : x15_2 < (l0.length : Int) := of_decide_eq_true (by first | (with_reducible assumption) | assumption)
      obtain ⟨ad223, e223, hx223_0, hx223_1, hx223_2, hx223_3, hx223_4, hx223_5, hx223_6, hx223_7, hx223_8, hx223_9, hx223_10, hx223_11, hx223_12, hx223_13, hx223_14⟩ := at_T35 HR0.out x15_2 p223 q223
      obtain rfl : ad221 = ad223 := (by injection e223)
      replace hx223_0 := (HB.out.cell (World.block_lt_of_cell? w _ hx223_0)).trans hx223_0
      replace hx223_1 := (HB.out.cell (World.block_lt_of_cell? w _ hx223_1)).trans hx223_1
      replace hx223_2 := (HB.out.cell (World.block_lt_of_cell? w _ hx223_2)).trans hx223_2
      replace hx223_3 := (HB.out.cell (World.block_lt_of_cell? w _ hx223_3)).trans hx223_3
      replace hx223_4 := (HB.out.cell (World.block_lt_of_cell? w _ hx223_4)).trans hx223_4
      replace hx223_5 := (HB.out.cell (World.block_lt_of_cell? w _ hx223_5)).trans hx223_5
      replace hx223_6 := (HB.out.cell (World.block_lt_of_cell? w _ hx223_6)).trans hx223_6
      replace hx223_7 := (HB.out.cell (World.block_lt_of_cell? w _ hx223_7)).trans hx223_7
      replace hx223_8 := (HB.out.cell (World.block_lt_of_cell? w _ hx223_8)).trans hx223_8
      replace hx223_9 := (HB.out.cell (World.block_lt_of_cell? w _ hx223_9)).trans hx223_9
      replace hx223_10 := (HB.out.cell (World.block_lt_of_cell? w _ hx223_10)).trans hx223_10
      replace hx223_11 := (HB.out.cell (World.block_lt_of_cell? w _ hx223_11)).trans hx223_11
      replace hx223_12 := (HB.out.cell (World.block_lt_of_cell? w _ hx223_12)).trans hx223_12
      replace hx223_13 := (HB.out.cell (World.block_lt_of_cell? w _ hx223_13)).trans hx223_13
      replace hx223_14 := (HB.out.cell (World.block_lt_of_cell? w _ hx223_14)).trans hx223_14
      replace p223 := eq_true p223
      replace q223 := eq_true q223
      go_wp2_with (first | ((with_reducible refine gld_ (t := 35) ?_); (try (refine gate_guard (by rfl) ?_; dsimp only)); first | refine wl15_ rfl 35 _ rfl rfl Try.underlying35 rfl (by kernel_rfl) ?_ | refine wlr15_ (g := gb222) rfl 35 _ rfl rfl Try.underlying35 rfl (by kernel_rfl) ?_ (hb := BK222.out) | refine wlr15_ (g := gb224) rfl 35 _ rfl rfl Try.underlying35 rfl (by kernel_rfl) ?_ (hb := BK224.out)) | ((with_reducible refine gst_ (t := 35) ?_); refine ws15_ (g := gb222) rfl 35 _ _ rfl rfl rfl (by kernel_rfl) ?_ (hb := BK222); generalize hW_ : World.setCell _ _ _ = w9_; replace BK222 : Aside0 (w9_.heap[gb222]? = some (.cells (e35_ (rd_T35 l0 x9_1)) 35 (0, 0))) := ⟨by rw [← hW_]; exact fxw15_ BK222⟩; replace HB : Aside0 (Below w.heap.size w w9_) := ⟨by rw [← hW_]; exact bl15_ HB.out GE222⟩; clear hW_) | ((with_reducible refine gst_ (t := 35) ?_); refine ws15_ (g := gb224) rfl 35 _ _ rfl rfl rfl (by kernel_rfl) ?_ (hb := BK224); generalize hW_ : World.setCell _ _ _ = w9_; replace BK224 : Aside0 (w9_.heap[gb224]? = some (.cells (e35_ (rd_T35 l0 x15_2)) 35 (0, 0))) := ⟨by rw [← hW_]; exact fxw15_ BK224⟩; replace BK222 : Aside0 (w9_.heap[gb222]? = some (.cells (e35_ (rd_T35 l0 x9_1)) 35 (0, 0))) := ⟨by rw [← hW_]; exact bf15_ BK222.out NB222_224⟩; replace HB : Aside0 (Below w.heap.size w w9_) := ⟨by rw [← hW_]; exact bl15_ HB.out GE224⟩; clear hW_) | ((with_reducible refine gate_dst (N := 6) rfl ?_); refine box_event ?hg (N := 6) ?hd (cs := #[.int .i64 0, .int .i64 0, .int .i64 0, .int .i64 0, .int .i64 0, .float .f64 0, .int .i64 0, .int .i64 0, .int .i64 0, .int .i64 0, .int .i64 0, .int .i64 0, .int .i64 0, .int .i64 0, .float .f64 0]) (t := 35) ?hr ?_; (case hd => rfl); (case hg => rfl); (case hr => first | (go_simp; done) | (go_simp; rfl)); intro gb224 hg w18 hbox hb; have BK224 := zM (hbox); have GW224 := zM (bs_ hg); have GE224 := zM (bs_ hg); replace HB := zM (zB bel_ hb); have NB222_224 := zM (nl_ BK222 hg); have NB224_222 := zM (ng_ BK222 hg); replace BK222 := zM (bb_ BK222 hb); clear hb hbox hg; have hnb19 := NB224_222.out; have hnc19 := NB222_224.out; obtain ⟨hcz20_0, hcz20_1, hcz20_2, hcz20_3, hcz20_4, hcz20_5, hcz20_6, hcz20_7, hcz20_8, hcz20_9, hcz20_10, hcz20_11, hcz20_12, hcz20_13, hcz20_14⟩ := r15_ BK224.out; obtain ⟨hfz20_0, hfz20_1, hfz20_2, hfz20_3, hfz20_4, hfz20_5, hfz20_6, hfz20_7, hfz20_8, hfz20_9, hfz20_10, hfz20_11, hfz20_12, hfz20_13, hfz20_14⟩ := f15_ BK224.out; obtain ⟨hcz21_0, hcz21_1, hcz21_2, hcz21_3, hcz21_4, hcz21_5, hcz21_6, hcz21_7, hcz21_8, hcz21_9, hcz21_10, hcz21_11, hcz21_12, hcz21_13, hcz21_14⟩ := r15_ BK222.out; obtain ⟨hfz21_0, hfz21_1, hfz21_2, hfz21_3, hfz21_4, hfz21_5, hfz21_6, hfz21_7, hfz21_8, hfz21_9, hfz21_10, hfz21_11, hfz21_12, hfz21_13, hfz21_14⟩ := f15_ BK222.out) | ((with_reducible refine gate_callee (f := 11) rfl ?_); refine goL_ (some 20) Try.func11 #[.agg (e35_ (rd_T35 l0 x9_1))] ?_; (with_reducible refine (past_Well.calls ((rd_T35 l0 x9_1).f0) ((rd_T35 l0 x9_1).f1) ((rd_T35 l0 x9_1).f2) ((rd_T35 l0 x9_1).f3.f0) ((rd_T35 l0 x9_1).f3.f1) ((rd_T35 l0 x9_1).f3.f2) ((rd_T35 l0 x9_1).f3.f3.f0) ((rd_T35 l0 x9_1).f3.f3.f1) ((rd_T35 l0 x9_1).f4.f0) ((rd_T35 l0 x9_1).f4.f1.f0) ((rd_T35 l0 x9_1).f4.f1.f1) ((rd_T35 l0 x9_1).f4.f2.f0) ((rd_T35 l0 x9_1).f4.f2.f1.f0) ((rd_T35 l0 x9_1).f4.f2.f1.f1) ((rd_T35 l0 x9_1).f4.f2.f2) true _ A10.out).mono ?_); rintro e w22 ⟨rfl, hb⟩; refine ⟨_, rfl, ?_⟩; replace BK222 := zM (blk_below (g := gb222) (o := .cells (e35_ (rd_T35 l0 x9_1)) 35 (0, 0)) blf_ hb); replace BK224 := zM (blk_below (g := gb224) (o := .cells (e35_ (rd_T35 l0 x15_2)) 35 (0, 0)) (by (with_reducible repeat (first | refine zN ?_ _ | refine zD ?_ | refine zA ?_ _)); first | exact BK224.out | exact fx15_ BK224) hb); replace HB := zM (zB bel_ hb); (try clear hb); (try clear hb2); (try clear hk); (try clear hi); obtain ⟨hcz23_0, hcz23_1, hcz23_2, hcz23_3, hcz23_4, hcz23_5, hcz23_6, hcz23_7, hcz23_8, hcz23_9, hcz23_10, hcz23_11, hcz23_12, hcz23_13, hcz23_14⟩ := r15_ BK224.out; obtain ⟨hfz23_0, hfz23_1, hfz23_2, hfz23_3, hfz23_4, hfz23_5, hfz23_6, hfz23_7, hfz23_8, hfz23_9, hfz23_10, hfz23_11, hfz23_12, hfz23_13, hfz23_14⟩ := f15_ BK224.out) | (go_at_call 11; (with_reducible refine (past_Well.calls ((rd_T35 l0 x15_2).f0) ((rd_T35 l0 x15_2).f1) ((rd_T35 l0 x15_2).f2) ((rd_T35 l0 x15_2).f3.f0) ((rd_T35 l0 x15_2).f3.f1) ((rd_T35 l0 x15_2).f3.f2) ((rd_T35 l0 x15_2).f3.f3.f0) ((rd_T35 l0 x15_2).f3.f3.f1) ((rd_T35 l0 x15_2).f4.f0) ((rd_T35 l0 x15_2).f4.f1.f0) ((rd_T35 l0 x15_2).f4.f1.f1) ((rd_T35 l0 x15_2).f4.f2.f0) ((rd_T35 l0 x15_2).f4.f2.f1.f0) ((rd_T35 l0 x15_2).f4.f2.f1.f1) ((rd_T35 l0 x15_2).f4.f2.f2) true _ A12.out).mono ?_); rintro e w24 ⟨rfl, hb⟩; replace BK222 := zM (bb_ BK222 hb); replace BK224 := zM (bb_ BK224 hb); replace HB := zM (zB bel_ hb); (try clear hb); (try clear hb2); (try clear hk); (try clear hi); obtain ⟨hcz25_0, hcz25_1, hcz25_2, hcz25_3, hcz25_4, hcz25_5, hcz25_6, hcz25_7, hcz25_8, hcz25_9, hcz25_10, hcz25_11, hcz25_12, hcz25_13, hcz25_14⟩ := r15_ BK222.out; obtain ⟨hfz25_0, hfz25_1, hfz25_2, hfz25_3, hfz25_4, hfz25_5, hfz25_6, hfz25_7, hfz25_8, hfz25_9, hfz25_10, hfz25_11, hfz25_12, hfz25_13, hfz25_14⟩ := f15_ BK222.out; obtain ⟨hcz26_0, hcz26_1, hcz26_2, hcz26_3, hcz26_4, hcz26_5, hcz26_6, hcz26_7, hcz26_8, hcz26_9, hcz26_10, hcz26_11, hcz26_12, hcz26_13, hcz26_14⟩ := r15_ BK224.out; obtain ⟨hfz26_0, hfz26_1, hfz26_2, hfz26_3, hfz26_4, hfz26_5, hfz26_6, hfz26_7, hfz26_8, hfz26_9, hfz26_10, hfz26_11, hfz26_12, hfz26_13, hfz26_14⟩ := f15_ BK224.out) | (go_at_call 12; (with_reducible refine (past_Before.calls ((rd_T35 l0 x9_1).f0) ((rd_T35 l0 x9_1).f1) ((rd_T35 l0 x9_1).f2) ((rd_T35 l0 x9_1).f3.f0) ((rd_T35 l0 x9_1).f3.f1) ((rd_T35 l0 x9_1).f3.f2) ((rd_T35 l0 x9_1).f3.f3.f0) ((rd_T35 l0 x9_1).f3.f3.f1) ((rd_T35 l0 x9_1).f4.f0) ((rd_T35 l0 x9_1).f4.f1.f0) ((rd_T35 l0 x9_1).f4.f1.f1) ((rd_T35 l0 x9_1).f4.f2.f0) ((rd_T35 l0 x9_1).f4.f2.f1.f0) ((rd_T35 l0 x9_1).f4.f2.f1.f1) ((rd_T35 l0 x9_1).f4.f2.f2) ((rd_T35 l0 x15_2).f0) ((rd_T35 l0 x15_2).f1) ((rd_T35 l0 x15_2).f2) ((rd_T35 l0 x15_2).f3.f0) ((rd_T35 l0 x15_2).f3.f1) ((rd_T35 l0 x15_2).f3.f2) ((rd_T35 l0 x15_2).f3.f3.f0) ((rd_T35 l0 x15_2).f3.f3.f1) ((rd_T35 l0 x15_2).f4.f0) ((rd_T35 l0 x15_2).f4.f1.f0) ((rd_T35 l0 x15_2).f4.f1.f1) ((rd_T35 l0 x15_2).f4.f2.f0) ((rd_T35 l0 x15_2).f4.f2.f1.f0) ((rd_T35 l0 x15_2).f4.f2.f1.f1) ((rd_T35 l0 x15_2).f4.f2.f2) true _ A14.out).mono ?_); rintro e w27 ⟨rfl, hb⟩; replace BK222 := zM (bb_ BK222 hb); replace BK224 := zM (bb_ BK224 hb); replace HB := zM (zB bel_ hb); (try clear hb); (try clear hb2); (try clear hk); (try clear hi); obtain ⟨hcz28_0, hcz28_1, hcz28_2, hcz28_3, hcz28_4, hcz28_5, hcz28_6, hcz28_7, hcz28_8, hcz28_9, hcz28_10, hcz28_11, hcz28_12, hcz28_13, hcz28_14⟩ := r15_ BK222.out; obtain ⟨hfz28_0, hfz28_1, hfz28_2, hfz28_3, hfz28_4, hfz28_5, hfz28_6, hfz28_7, hfz28_8, hfz28_9, hfz28_10, hfz28_11, hfz28_12, hfz28_13, hfz28_14⟩ := f15_ BK222.out; obtain ⟨hcz29_0, hcz29_1, hcz29_2, hcz29_3, hcz29_4, hcz29_5, hcz29_6, hcz29_7, hcz29_8, hcz29_9, hcz29_10, hcz29_11, hcz29_12, hcz29_13, hcz29_14⟩ := r15_ BK224.out; obtain ⟨hfz29_0, hfz29_1, hfz29_2, hfz29_3, hfz29_4, hfz29_5, hfz29_6, hfz29_7, hfz29_8, hfz29_9, hfz29_10, hfz29_11, hfz29_12, hfz29_13, hfz29_14⟩ := f15_ BK224.out) | (go_at_call 28; (with_reducible refine (change_Within.calls ((rd_T35 l0 x9_1).f4.f1.f0) ((rd_T35 l0 x9_1).f4.f1.f1) ((rd_T35 l0 x15_2).f4.f1.f0) ((rd_T35 l0 x15_2).f4.f1.f1) true _ A16.out).mono ?_); rintro e w30 ⟨rfl, hb⟩; replace BK222 := zM (bb_ BK222 hb); replace BK224 := zM (bb_ BK224 hb); replace HB := zM (zB bel_ hb); (try clear hb); (try clear hb2); (try clear hk); (try clear hi)))
      go_roundg k2
      case measure => have := HK1.out; have := HK2.out; omega
      case rel => exact ⟨(wrap64 (x15_2 + 1)), (by first | rfl | (simp; done) | (simp [*]; done) | (simp; grind)), H', ⟨by have := HK1.out; have := HK2.out; omega⟩, ⟨blf_⟩, ⟨bel_⟩⟩
/-! ### ropewaylaw21_put: function 22 -/
def ropewaylaw21_put.f (a0 : Int) (a1 : Int) (a2 : Int) (a3 : Int) (a4 : Nat) : Option (Int × Int × Int × Int × Int × Nat × Int × Int × Int × Int × Int × Int × Int × Int × Nat) := some (a0, a1, a2, 1, 0, a4, 0, 0, 0, 7, 0, 0, a3, a0, a4)
set_option maxHeartbeats 8000000 in
set_option maxRecDepth 100000 in
theorem ropewaylaw21_put.calls (a0 : Int) (a1 : Int) (a2 : Int) (a3 : Int) (a4 : Nat) (r1 : Int) (r2 : Int) (r3 : Int) (r4 : Int) (r5 : Int) (r6 : Nat) (r7 : Int) (r8 : Int) (r9 : Int) (r10 : Int) (r11 : Int) (r12 : Int) (r13 : Int) (r14 : Int) (r15 : Nat) (w : World) (h : ropewaylaw21_put.f a0 a1 a2 a3 a4 = some (r1, r2, r3, r4, r5, r6, r7, r8, r9, r10, r11, r12, r13, r14, r15)) :
    Calls Try.prog 22 #[.int .i64 a0, .int .i64 a1, .int .i64 a2, .int .i64 a3, .float .f64 a4] w fun e w' => e = .returned (.agg #[.int .i64 r1, .int .i64 r2, .int .i64 r3, .int .i64 r4, .int .i64 r5, .float .f64 r6, .int .i64 r7, .int .i64 r8, .int .i64 r9, .int .i64 r10, .int .i64 r11, .int .i64 r12, .int .i64 r13, .int .i64 r14, .float .f64 r15]) ∧ Below w.heap.size w w' := by
  have hu35 := Try.underlying35
  have hu26 := Try.underlying26
  have hu24 := Try.underlying24
  have hu29 := Try.underlying29
  have hu31 := Try.underlying31
  have hu33 := Try.underlying33
  have HB := zM (Below.refl w.heap.size w)
  have H : (some (a0, a1, a2, 1, 0, a4, 0, 0, 0, 7, 0, 0, a3, a0, a4)) = some (r1, r2, r3, r4, r5, r6, r7, r8, r9, r10, r11, r12, r13, r14, r15) := h
  clear h
  simp only [Option.some.injEq, Prod.mk.injEq] at H
  obtain ⟨rfl, rfl, rfl, rfl, rfl, rfl, rfl, rfl, rfl, rfl, rfl, rfl, rfl, rfl, rfl⟩ := H
  go_enter Try.func22, Try.ntmps22
  go_wp2_with (first | ((with_reducible refine gld_ (t := 35) ?_); (try (refine gate_guard (by rfl) ?_; dsimp only)); first | refine wl15_ rfl 35 _ rfl rfl Try.underlying35 rfl (by kernel_rfl) ?_ | refine wlr15_ rfl 35 _ rfl rfl Try.underlying35 rfl (by kernel_rfl) ?_) | ((with_reducible refine gst_ (t := 35) ?_); refine ws15_ rfl 35 _ _ rfl rfl rfl (by kernel_rfl) ?_) | ((with_reducible refine gate_dst (N := 10) rfl ?_); refine box_event ?hg (N := 10) ?hd (cs := #[.int .i64 0, .int .i64 0, .int .i64 0, .int .i64 0, .int .i64 0, .float .f64 0, .int .i64 0, .int .i64 0, .int .i64 0, .int .i64 0, .int .i64 0, .int .i64 0, .int .i64 0, .int .i64 0, .float .f64 0]) (t := 35) ?hr ?_; (case hd => rfl); (case hg => rfl); (case hr => first | (go_simp; done) | (go_simp; rfl)); intro gb229 hg w6 hbox hb; have BK229 := zM (hbox); have GW229 := zM (bs_ hg); have GE229 := zM (bs_ hg); replace HB := zM (zB bel_ hb); clear hb hbox hg; obtain ⟨hcz7_0, hcz7_1, hcz7_2, hcz7_3, hcz7_4, hcz7_5, hcz7_6, hcz7_7, hcz7_8, hcz7_9, hcz7_10, hcz7_11, hcz7_12, hcz7_13, hcz7_14⟩ := r15_ BK229.out; obtain ⟨hfz7_0, hfz7_1, hfz7_2, hfz7_3, hfz7_4, hfz7_5, hfz7_6, hfz7_7, hfz7_8, hfz7_9, hfz7_10, hfz7_11, hfz7_12, hfz7_13, hfz7_14⟩ := f15_ BK229.out))
  refine bodyPost_ret (results_cell_row rfl _ _ gb229 35 #[.int .i64 a0, .int .i64 a1, .int .i64 a2, .int .i64 1, .int .i64 0, .float .f64 a4, .int .i64 0, .int .i64 0, .int .i64 0, .int .i64 7, .int .i64 0, .int .i64 0, .int .i64 a3, .int .i64 a0, .float .f64 a4] (0, 0) _ rfl (by (with_reducible repeat (first | refine zN ?_ _ | refine zD ?_ | refine zA ?_ _)); exact fx15_ BK229) Try.underlying35 rfl (by kernel_rfl)) rfl ?_
  exact ⟨by first | rfl | (simp [errW_none, errW_some] <;> rfl) | (simp [*, errW_none, errW_some] <;> rfl), bel_⟩
/-! ### ropewaylaw21_get: function 23 -/
def ropewaylaw21_get.f (a0 : Int) (a1 : Int) (a2_0 : Int) (a2_1 : Int) (a3 : Nat) : Option (Int × Int × Int × Int × Int × Nat × Int × Int × Int × Int × Int × Int × Int × Int × Nat) := some (0, a0, a1, 0, 0, 0, 0, 0, 0, 7, 0, 0, a2_0, a2_1, a3)
set_option maxHeartbeats 8000000 in
set_option maxRecDepth 100000 in
theorem ropewaylaw21_get.calls (a0 : Int) (a1 : Int) (a2_0 : Int) (a2_1 : Int) (a3 : Nat) (r1 : Int) (r2 : Int) (r3 : Int) (r4 : Int) (r5 : Int) (r6 : Nat) (r7 : Int) (r8 : Int) (r9 : Int) (r10 : Int) (r11 : Int) (r12 : Int) (r13 : Int) (r14 : Int) (r15 : Nat) (w : World) (h : ropewaylaw21_get.f a0 a1 a2_0 a2_1 a3 = some (r1, r2, r3, r4, r5, r6, r7, r8, r9, r10, r11, r12, r13, r14, r15)) :
    Calls Try.prog 23 #[.int .i64 a0, .int .i64 a1, .agg #[.int .i64 a2_0, .int .i64 a2_1], .float .f64 a3] w fun e w' => e = .returned (.agg #[.int .i64 r1, .int .i64 r2, .int .i64 r3, .int .i64 r4, .int .i64 r5, .float .f64 r6, .int .i64 r7, .int .i64 r8, .int .i64 r9, .int .i64 r10, .int .i64 r11, .int .i64 r12, .int .i64 r13, .int .i64 r14, .float .f64 r15]) ∧ Below w.heap.size w w' := by
  have hu29 := Try.underlying29
  have hu35 := Try.underlying35
  have hu24 := Try.underlying24
  have hu31 := Try.underlying31
  have hu33 := Try.underlying33
  have HB := zM (Below.refl w.heap.size w)
  have H : (some (0, a0, a1, 0, 0, 0, 0, 0, 0, 7, 0, 0, a2_0, a2_1, a3)) = some (r1, r2, r3, r4, r5, r6, r7, r8, r9, r10, r11, r12, r13, r14, r15) := h
  clear h
  simp only [Option.some.injEq, Prod.mk.injEq] at H
  obtain ⟨rfl, rfl, rfl, rfl, rfl, rfl, rfl, rfl, rfl, rfl, rfl, rfl, rfl, rfl, rfl⟩ := H
  go_enter Try.func23, Try.ntmps23
  go_wp2_with (first | ((with_reducible refine gld_ (t := 35) ?_); (try (refine gate_guard (by rfl) ?_; dsimp only)); first | refine wl15_ rfl 35 _ rfl rfl Try.underlying35 rfl (by kernel_rfl) ?_ | refine wlr15_ rfl 35 _ rfl rfl Try.underlying35 rfl (by kernel_rfl) ?_) | ((with_reducible refine gst_ (t := 35) ?_); refine ws15_ rfl 35 _ _ rfl rfl rfl (by kernel_rfl) ?_) | ((with_reducible refine gate_dst (N := 6) rfl ?_); refine box_event ?hg (N := 6) ?hd (cs := #[.int .i64 a2_0, .int .i64 a2_1]) (t := 29) ?hr ?_; (case hd => rfl); (case hg => rfl); (case hr => first | (go_simp; done) | (go_simp; rfl)); intro gb230 hg w5 hbox hb; have BK230 := zM (hbox); have GW230 := zM (bs_ hg); have GE230 := zM (bs_ hg); replace HB := zM (zB bel_ hb); clear hb hbox hg) | ((with_reducible refine gate_dst (N := 8) rfl ?_); refine box_event ?hg (N := 8) ?hd (cs := #[.int .i64 0, .int .i64 0, .int .i64 0, .int .i64 0, .int .i64 0, .float .f64 0, .int .i64 0, .int .i64 0, .int .i64 0, .int .i64 0, .int .i64 0, .int .i64 0, .int .i64 0, .int .i64 0, .float .f64 0]) (t := 35) ?hr ?_; (case hd => rfl); (case hg => rfl); (case hr => first | (go_simp; done) | (go_simp; rfl)); intro gb231 hg w6 hbox hb; have BK231 := zM (hbox); have GW231 := zM (bs_ hg); have GE231 := zM (bs_ hg); replace HB := zM (zB bel_ hb); have NB230_231 := zM (nl_ BK230 hg); have NB231_230 := zM (ng_ BK230 hg); replace BK230 := zM (bb_ BK230 hb); clear hb hbox hg; have hnb7 := NB230_231.out; have hnc7 := NB231_230.out; have hcz8_0 : w6.cell? ⟨gb230, 0, none⟩ = some (.int .i64 a2_0) := (zL BK230.out 0).trans rfl; have hcz8_1 : w6.cell? ⟨gb230, 1, none⟩ = some (.int .i64 a2_1) := (zL BK230.out 1).trans rfl; have hfz8_0 := zF BK230.out 0; have hfz8_1 := zF BK230.out 1; obtain ⟨hcz9_0, hcz9_1, hcz9_2, hcz9_3, hcz9_4, hcz9_5, hcz9_6, hcz9_7, hcz9_8, hcz9_9, hcz9_10, hcz9_11, hcz9_12, hcz9_13, hcz9_14⟩ := r15_ BK231.out; obtain ⟨hfz9_0, hfz9_1, hfz9_2, hfz9_3, hfz9_4, hfz9_5, hfz9_6, hfz9_7, hfz9_8, hfz9_9, hfz9_10, hfz9_11, hfz9_12, hfz9_13, hfz9_14⟩ := f15_ BK231.out))
  refine bodyPost_ret (results_cell_row rfl _ _ gb231 35 #[.int .i64 0, .int .i64 a0, .int .i64 a1, .int .i64 0, .int .i64 0, .float .f64 0, .int .i64 0, .int .i64 0, .int .i64 0, .int .i64 7, .int .i64 0, .int .i64 0, .int .i64 a2_0, .int .i64 a2_1, .float .f64 a3] (0, 0) _ rfl (by (with_reducible repeat (first | refine zN ?_ _ | refine zD ?_ | refine zA ?_ _)); exact fx15_ BK231) Try.underlying35 rfl (by kernel_rfl)) rfl ?_
  exact ⟨by first | rfl | (simp [errW_none, errW_some] <;> rfl) | (simp [*, errW_none, errW_some] <;> rfl), bel_⟩
end Go.Proofs.Ytmenkbdaabjojaa.PPastSources
