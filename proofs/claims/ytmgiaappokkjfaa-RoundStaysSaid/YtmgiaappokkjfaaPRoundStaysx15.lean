/- Written by a program of this session (wip/tool/px.py) over the kit's print: what the code that the law RoundStays reaches computes, function by function, and the law's row. -/
import Derived.Test.YtmgiaappokkjfaaPRoundStaysx0
import Derived.Test.YtmgiaappokkjfaaPRoundStaysx11
import Derived.Test.YtmgiaappokkjfaaPRoundStaysx12
import Derived.Test.YtmgiaappokkjfaaPRoundStaysx14
namespace Go.Proofs.Ytmgiaappokkjfaa.PRoundStays
open Go.RowKit Go.Proofs.YtmgiaappokkjfaaX Go.Proofs.YtmgiaappokkjfaaW.PrintWords Go.Proofs.YtmgiaappokkjfaaW.PrintLast Go.Proofs.YtmgiaappokkjfaaW.PrintMore
open List renaming setIfInBounds_toArray → zS, set_cons_zero → zZ, set_cons_succ → zC
open Go.Proofs.YtmgiaappokkjfaaW.PrintWords renaming below_step → zB
open Go.Proofs.YtmgiaappokkjfaaW.PrintWords.Aside0 renaming mk → zM
attribute [local go_sem] max2_int min2_int max_two min_two max_three min_three max_four min_four   -- for this text's walks alone
set_option linter.unusedVariables false
set_option linter.unusedSimpArgs false

attribute [local go_sem] px_store_float px_neg_float
attribute [local go_sem] px_eqarr67 px_nilq24 px_nilq25
/-! ### ropewayref11_Right: function 31 -/
def ropewayref11_Right.j0 : Nat → Bool → Int → Int → Int → Int → Int → Int → Int → List (S43) → List (S48) → Option (Bool)
  | 0, _, _, _, _, _, _, _, _, _, _ => none
  | k + 1, x52, x396000, x396001, x396002, x396003, x396004, x396005, x396006, x396007, x396008 => if x52 = true then (some false) else ((ropewayref04_Right.f x396005 x396006).bind fun t396 => (if t396 = true then ((ropewayref10_Check.f k x396007).bind fun t397 => (if t397 = 0 then ((ropewayref07_Check.f k x396008).bind fun t398 => (if t398 = 0 then (if x396000 = 1 then (if x396000 = 3 then (some true) else (if x396000 = 6 then (some true) else (some ((x396008.length : Int) == 0)))) else (if x396000 = 3 then (if x396000 = 5 then (some true) else (if (x396007.length : Int) = 0 then (some true) else (some false))) else (if x396000 = 5 then (if x396000 = 6 then (some true) else (some ((x396008.length : Int) == 0))) else (if (x396007.length : Int) = 0 then (if x396000 = 6 then (some true) else (some ((x396008.length : Int) == 0))) else (some false))))) else (some false))) else (some false))) else (some false)))
def ropewayref11_Right.f (k : Nat) (a0_0 : Int) (a0_1 : Int) (a0_2 : Int) (a0_3 : Int) (a0_4 : Int) (a0_5 : Int) (a0_6 : Int) (l0_7 : List (S43)) (l0_8 : List (S48)) : Option (Bool) := if a0_0 < 0 then (ropewayref11_Right.j0 k true a0_0 a0_1 a0_2 a0_3 a0_4 a0_5 a0_6 l0_7 l0_8) else (if a0_0 > 7 then (ropewayref11_Right.j0 k true a0_0 a0_1 a0_2 a0_3 a0_4 a0_5 a0_6 l0_7 l0_8) else (if a0_1 < 0 then (ropewayref11_Right.j0 k true a0_0 a0_1 a0_2 a0_3 a0_4 a0_5 a0_6 l0_7 l0_8) else (if a0_1 > 5 then (ropewayref11_Right.j0 k true a0_0 a0_1 a0_2 a0_3 a0_4 a0_5 a0_6 l0_7 l0_8) else (if a0_2 < 0 then (ropewayref11_Right.j0 k true a0_0 a0_1 a0_2 a0_3 a0_4 a0_5 a0_6 l0_7 l0_8) else (if a0_2 > 5 then (ropewayref11_Right.j0 k true a0_0 a0_1 a0_2 a0_3 a0_4 a0_5 a0_6 l0_7 l0_8) else (if a0_3 < 1 then (ropewayref11_Right.j0 k true a0_0 a0_1 a0_2 a0_3 a0_4 a0_5 a0_6 l0_7 l0_8) else (if a0_3 > 1000000 then (ropewayref11_Right.j0 k true a0_0 a0_1 a0_2 a0_3 a0_4 a0_5 a0_6 l0_7 l0_8) else (if a0_4 < 1 then (ropewayref11_Right.j0 k true a0_0 a0_1 a0_2 a0_3 a0_4 a0_5 a0_6 l0_7 l0_8) else (ropewayref11_Right.j0 k (decide (a0_4 > 1000000)) a0_0 a0_1 a0_2 a0_3 a0_4 a0_5 a0_6 l0_7 l0_8)))))))))
theorem ropewayref11_Right.mono_l : ∀ k, (∀ y0 y1 y2 y3 y4 y5 y6 y7 y8 y9, LeO (ropewayref11_Right.j0 k y0 y1 y2 y3 y4 y5 y6 y7 y8 y9) (ropewayref11_Right.j0 (k + 1) y0 y1 y2 y3 y4 y5 y6 y7 y8 y9))
  | 0 => fun _ _ _ _ _ _ _ _ _ _ r h => by simp [ropewayref11_Right.j0] at h
  | k + 1 => by
    have ih0 := ropewayref11_Right.mono_l k
    · intro y0 y1 y2 y3 y4 y5 y6 y7 y8 y9
      unfold ropewayref11_Right.j0
      repeat' first
      | (with_reducible exact ih0 _ _ _ _ _ _ _ _ _ _)
      | (with_reducible exact ropewayref07_Check.mono _ _)
      | (with_reducible exact ropewayref10_Check.mono _ _)
      | (with_reducible exact LeO.refl _)
      | (with_reducible exact LeO.none _)
      | (with_reducible refine LeO.ite ?_ ?_)
      | (with_reducible refine LeO.bind ?_ (fun _ => ?_))
      | exact ih0 _ _ _ _ _ _ _ _ _ _
      | exact ropewayref07_Check.mono _ _
      | exact ropewayref10_Check.mono _ _
      | exact LeO.none _
      | refine LeO.ite ?_ ?_
      | refine LeO.bind ?_ (fun _ => ?_)
theorem ropewayref11_Right.mono : ∀ a0 a1 a2 a3 a4 a5 a6 a7 a8 k, LeO (ropewayref11_Right.f k a0 a1 a2 a3 a4 a5 a6 a7 a8) (ropewayref11_Right.f (k + 1) a0 a1 a2 a3 a4 a5 a6 a7 a8) := by
  intro a0 a1 a2 a3 a4 a5 a6 a7 a8 k
  have ih0 := ropewayref11_Right.mono_l k
  unfold ropewayref11_Right.f
  repeat' first
      | (with_reducible exact ih0 _ _ _ _ _ _ _ _ _ _)
      | (with_reducible exact ropewayref07_Check.mono _ _)
      | (with_reducible exact ropewayref10_Check.mono _ _)
      | (with_reducible exact LeO.refl _)
      | (with_reducible exact LeO.none _)
      | (with_reducible refine LeO.ite ?_ ?_)
      | (with_reducible refine LeO.bind ?_ (fun _ => ?_))
      | exact ih0 _ _ _ _ _ _ _ _ _ _
      | exact ropewayref07_Check.mono _ _
      | exact ropewayref10_Check.mono _ _
      | exact LeO.none _
      | refine LeO.ite ?_ ?_
      | refine LeO.bind ?_ (fun _ => ?_)
set_option maxHeartbeats 8000000 in
set_option maxRecDepth 100000 in
theorem ropewayref11_Right.calls (k : Nat) (a0_0 : Int) (a0_1 : Int) (a0_2 : Int) (a0_3 : Int) (a0_4 : Int) (a0_5 : Int) (a0_6 : Int) (A0_7 : Option Addr) (c0_7 : Nat) (l0_7 : List (S43)) (A0_8 : Option Addr) (c0_8 : Nat) (l0_8 : List (S48)) (r : Bool) (w : World) (hr0_7 : Kd.C k43 w A0_7 l0_7.length l0_7) (hc0_7 : l0_7.length ≤ c0_7) (hr0_8 : Kd.C k48 w A0_8 l0_8.length l0_8) (hc0_8 : l0_8.length ≤ c0_8) (h : ropewayref11_Right.f k a0_0 a0_1 a0_2 a0_3 a0_4 a0_5 a0_6 l0_7 l0_8 = some r) :
    Calls Try.prog 31 #[.agg #[.int .i64 a0_0, .int .i64 a0_1, .int .i64 a0_2, .int .i64 a0_3, .int .i64 a0_4, .int .i64 a0_5, .int .i64 a0_6, .slice A0_7 l0_7.length c0_7, .slice A0_8 l0_8.length c0_8]] w fun e w' => e = .returned (.bool r) ∧ Below w.heap.size w w' := by
  have hu27 := Try.underlying27
  have hu23 := Try.underlying23
  have HR0_7 := zM hr0_7
  have HC0_7 := zM hc0_7
  clear hr0_7 hc0_7
  have HR0_8 := zM hr0_8
  have HC0_8 := zM hc0_8
  clear hr0_8 hc0_8
  have HB := zM (Below.refl w.heap.size w)
  have H : (if a0_0 < 0 then (ropewayref11_Right.j0 k true a0_0 a0_1 a0_2 a0_3 a0_4 a0_5 a0_6 l0_7 l0_8) else (if a0_0 > 7 then (ropewayref11_Right.j0 k true a0_0 a0_1 a0_2 a0_3 a0_4 a0_5 a0_6 l0_7 l0_8) else (if a0_1 < 0 then (ropewayref11_Right.j0 k true a0_0 a0_1 a0_2 a0_3 a0_4 a0_5 a0_6 l0_7 l0_8) else (if a0_1 > 5 then (ropewayref11_Right.j0 k true a0_0 a0_1 a0_2 a0_3 a0_4 a0_5 a0_6 l0_7 l0_8) else (if a0_2 < 0 then (ropewayref11_Right.j0 k true a0_0 a0_1 a0_2 a0_3 a0_4 a0_5 a0_6 l0_7 l0_8) else (if a0_2 > 5 then (ropewayref11_Right.j0 k true a0_0 a0_1 a0_2 a0_3 a0_4 a0_5 a0_6 l0_7 l0_8) else (if a0_3 < 1 then (ropewayref11_Right.j0 k true a0_0 a0_1 a0_2 a0_3 a0_4 a0_5 a0_6 l0_7 l0_8) else (if a0_3 > 1000000 then (ropewayref11_Right.j0 k true a0_0 a0_1 a0_2 a0_3 a0_4 a0_5 a0_6 l0_7 l0_8) else (if a0_4 < 1 then (ropewayref11_Right.j0 k true a0_0 a0_1 a0_2 a0_3 a0_4 a0_5 a0_6 l0_7 l0_8) else (ropewayref11_Right.j0 k (decide (a0_4 > 1000000)) a0_0 a0_1 a0_2 a0_3 a0_4 a0_5 a0_6 l0_7 l0_8)))))))))) = some r := h
  clear h
  go_enter Try.func31, Try.ntmps31
  go_upto_region 1 with (first | ((with_reducible refine gate_dst (N := 1) rfl ?_); (try (refine gate_guard (by rfl) ?_; dsimp only)); refine box_event ?hg (N := 1) ?hd (cs := #[.int .i64 a0_0, .int .i64 a0_1, .int .i64 a0_2, .int .i64 a0_3, .int .i64 a0_4, .int .i64 a0_5, .int .i64 a0_6, .slice A0_7 l0_7.length c0_7, .slice A0_8 l0_8.length c0_8]) (t := 27) ?hr ?_; (case hd => rfl); (case hg => rfl); (case hr => first | (go_simp; done) | (go_simp; rfl)); intro gb395 hg w2 hbox hb; have BK395 := zM (hbox); have GW395 := zM (bs_ hg); have GE395 := zM (bs_ hg); replace HB := zM (zB bel_ hb); clear hb hbox hg))
  have HC3 := zM H
  clear H
  go_upto_region 1 with (fail)
  (try simp only [Act.put, zS, zZ, zC])
  go_cut [52] (fun v52 wc => ∃ (kq : Nat) (x52_2 : Bool), v52 = .bool x52_2 ∧ Aside0 (ropewayref11_Right.j0 kq x52_2 a0_0 a0_1 a0_2 a0_3 a0_4 a0_5 a0_6 l0_7 l0_8 = some r) ∧ Aside0 (kq ≤ k) ∧ Aside0 (wc.heap[gb395]? = some (.cells #[.int .i64 a0_0, .int .i64 a0_1, .int .i64 a0_2, .int .i64 a0_3, .int .i64 a0_4, .int .i64 a0_5, .int .i64 a0_6, (.slice A0_7 l0_7.length c0_7), (.slice A0_8 l0_8.length c0_8)] 27 (0, 0))) ∧ Aside0 (Below w.heap.size w wc))
  case first =>
   have H := HC3.out
   clear HC3
   by_cases c4 : a0_0 < 0
   · rw [if_pos c4] at H
     have c4b0 : decide (a0_0 < 0) = true := decide_eq_true c4
     clear c4
     (first | rw [c4b0] | (simp only [i64_w, i32_w]; rw [c4b0]) | skip)
     have H' := zM H
     clear H
     obtain ⟨hcz5_0, hcz5_1, hcz5_2, hcz5_3, hcz5_4, hcz5_5, hcz5_6, hcz5_7, hcz5_8⟩ := r9_ BK395.out
     obtain ⟨hfz5_0, hfz5_1, hfz5_2, hfz5_3, hfz5_4, hfz5_5, hfz5_6, hfz5_7, hfz5_8⟩ := f9_ BK395.out
     go_wp2
     go_meet
     case rel => exact ⟨_, (true), (by first | rfl | (simp; done) | (simp [*]; done) | (simp; grind)), H', ⟨by first | omega | exact Nat.le_refl _⟩, ⟨blf_⟩, ⟨bel_⟩⟩
   rw [if_neg c4] at H
   have c4b0 : decide (a0_0 < 0) = false := decide_eq_false c4
   clear c4
   (first | rw [c4b0] | (simp only [i64_w, i32_w]; rw [c4b0]) | skip)
   by_cases c6 : a0_0 > 7
   · rw [if_pos c6] at H
     have c6b0 : decide (7 < a0_0) = true := decide_eq_true c6
     clear c6
     have H' := zM H
     clear H
     obtain ⟨hcz7_0, hcz7_1, hcz7_2, hcz7_3, hcz7_4, hcz7_5, hcz7_6, hcz7_7, hcz7_8⟩ := r9_ BK395.out
     obtain ⟨hfz7_0, hfz7_1, hfz7_2, hfz7_3, hfz7_4, hfz7_5, hfz7_6, hfz7_7, hfz7_8⟩ := f9_ BK395.out
     go_wp2
     go_meet
     case rel => exact ⟨_, (true), (by first | rfl | (simp; done) | (simp [*]; done) | (simp; grind)), H', ⟨by first | omega | exact Nat.le_refl _⟩, ⟨blf_⟩, ⟨bel_⟩⟩
   rw [if_neg c6] at H
   have c6b0 : decide (7 < a0_0) = false := decide_eq_false c6
   clear c6
   by_cases c8 : a0_1 < 0
   · rw [if_pos c8] at H
     have c8b0 : decide (a0_1 < 0) = true := decide_eq_true c8
     clear c8
     have H' := zM H
     clear H
     obtain ⟨hcz9_0, hcz9_1, hcz9_2, hcz9_3, hcz9_4, hcz9_5, hcz9_6, hcz9_7, hcz9_8⟩ := r9_ BK395.out
     obtain ⟨hfz9_0, hfz9_1, hfz9_2, hfz9_3, hfz9_4, hfz9_5, hfz9_6, hfz9_7, hfz9_8⟩ := f9_ BK395.out
     go_wp2
     go_meet
     case rel => exact ⟨_, (true), (by first | rfl | (simp; done) | (simp [*]; done) | (simp; grind)), H', ⟨by first | omega | exact Nat.le_refl _⟩, ⟨blf_⟩, ⟨bel_⟩⟩
   rw [if_neg c8] at H
   have c8b0 : decide (a0_1 < 0) = false := decide_eq_false c8
   clear c8
   by_cases c10 : a0_1 > 5
   · rw [if_pos c10] at H
     have c10b0 : decide (5 < a0_1) = true := decide_eq_true c10
     clear c10
     have H' := zM H
     clear H
     obtain ⟨hcz11_0, hcz11_1, hcz11_2, hcz11_3, hcz11_4, hcz11_5, hcz11_6, hcz11_7, hcz11_8⟩ := r9_ BK395.out
     obtain ⟨hfz11_0, hfz11_1, hfz11_2, hfz11_3, hfz11_4, hfz11_5, hfz11_6, hfz11_7, hfz11_8⟩ := f9_ BK395.out
     go_wp2
     go_meet
     case rel => exact ⟨_, (true), (by first | rfl | (simp; done) | (simp [*]; done) | (simp; grind)), H', ⟨by first | omega | exact Nat.le_refl _⟩, ⟨blf_⟩, ⟨bel_⟩⟩
   rw [if_neg c10] at H
   have c10b0 : decide (5 < a0_1) = false := decide_eq_false c10
   clear c10
   by_cases c12 : a0_2 < 0
   · rw [if_pos c12] at H
     have c12b0 : decide (a0_2 < 0) = true := decide_eq_true c12
     clear c12
     have H' := zM H
     clear H
     obtain ⟨hcz13_0, hcz13_1, hcz13_2, hcz13_3, hcz13_4, hcz13_5, hcz13_6, hcz13_7, hcz13_8⟩ := r9_ BK395.out
     obtain ⟨hfz13_0, hfz13_1, hfz13_2, hfz13_3, hfz13_4, hfz13_5, hfz13_6, hfz13_7, hfz13_8⟩ := f9_ BK395.out
     go_wp2
     go_meet
     case rel => exact ⟨_, (true), (by first | rfl | (simp; done) | (simp [*]; done) | (simp; grind)), H', ⟨by first | omega | exact Nat.le_refl _⟩, ⟨blf_⟩, ⟨bel_⟩⟩
   rw [if_neg c12] at H
   have c12b0 : decide (a0_2 < 0) = false := decide_eq_false c12
   clear c12
   by_cases c14 : a0_2 > 5
   · rw [if_pos c14] at H
     have c14b0 : decide (5 < a0_2) = true := decide_eq_true c14
     clear c14
     have H' := zM H
     clear H
     obtain ⟨hcz15_0, hcz15_1, hcz15_2, hcz15_3, hcz15_4, hcz15_5, hcz15_6, hcz15_7, hcz15_8⟩ := r9_ BK395.out
     obtain ⟨hfz15_0, hfz15_1, hfz15_2, hfz15_3, hfz15_4, hfz15_5, hfz15_6, hfz15_7, hfz15_8⟩ := f9_ BK395.out
     go_wp2
     go_meet
     case rel => exact ⟨_, (true), (by first | rfl | (simp; done) | (simp [*]; done) | (simp; grind)), H', ⟨by first | omega | exact Nat.le_refl _⟩, ⟨blf_⟩, ⟨bel_⟩⟩
   rw [if_neg c14] at H
   have c14b0 : decide (5 < a0_2) = false := decide_eq_false c14
   clear c14
   by_cases c16 : a0_3 < 1
   · rw [if_pos c16] at H
     have c16b0 : decide (a0_3 < 1) = true := decide_eq_true c16
     clear c16
     have H' := zM H
     clear H
     obtain ⟨hcz17_0, hcz17_1, hcz17_2, hcz17_3, hcz17_4, hcz17_5, hcz17_6, hcz17_7, hcz17_8⟩ := r9_ BK395.out
     obtain ⟨hfz17_0, hfz17_1, hfz17_2, hfz17_3, hfz17_4, hfz17_5, hfz17_6, hfz17_7, hfz17_8⟩ := f9_ BK395.out
     go_wp2
     go_meet
     case rel => exact ⟨_, (true), (by first | rfl | (simp; done) | (simp [*]; done) | (simp; grind)), H', ⟨by first | omega | exact Nat.le_refl _⟩, ⟨blf_⟩, ⟨bel_⟩⟩
   rw [if_neg c16] at H
   have c16b0 : decide (a0_3 < 1) = false := decide_eq_false c16
   clear c16
   by_cases c18 : a0_3 > 1000000
   · rw [if_pos c18] at H
     have c18b0 : decide (1000000 < a0_3) = true := decide_eq_true c18
     clear c18
     have H' := zM H
     clear H
     obtain ⟨hcz19_0, hcz19_1, hcz19_2, hcz19_3, hcz19_4, hcz19_5, hcz19_6, hcz19_7, hcz19_8⟩ := r9_ BK395.out
     obtain ⟨hfz19_0, hfz19_1, hfz19_2, hfz19_3, hfz19_4, hfz19_5, hfz19_6, hfz19_7, hfz19_8⟩ := f9_ BK395.out
     go_wp2
     go_meet
     case rel => exact ⟨_, (true), (by first | rfl | (simp; done) | (simp [*]; done) | (simp; grind)), H', ⟨by first | omega | exact Nat.le_refl _⟩, ⟨blf_⟩, ⟨bel_⟩⟩
   rw [if_neg c18] at H
   have c18b0 : decide (1000000 < a0_3) = false := decide_eq_false c18
   clear c18
   by_cases c20 : a0_4 < 1
   · rw [if_pos c20] at H
     have c20b0 : decide (a0_4 < 1) = true := decide_eq_true c20
     clear c20
     have H' := zM H
     clear H
     obtain ⟨hcz21_0, hcz21_1, hcz21_2, hcz21_3, hcz21_4, hcz21_5, hcz21_6, hcz21_7, hcz21_8⟩ := r9_ BK395.out
     obtain ⟨hfz21_0, hfz21_1, hfz21_2, hfz21_3, hfz21_4, hfz21_5, hfz21_6, hfz21_7, hfz21_8⟩ := f9_ BK395.out
     go_wp2
     go_meet
     case rel => exact ⟨_, (true), (by first | rfl | (simp; done) | (simp [*]; done) | (simp; grind)), H', ⟨by first | omega | exact Nat.le_refl _⟩, ⟨blf_⟩, ⟨bel_⟩⟩
   rw [if_neg c20] at H
   have c20b0 : decide (a0_4 < 1) = false := decide_eq_false c20
   clear c20
   have H' := zM H
   clear H
   obtain ⟨hcz22_0, hcz22_1, hcz22_2, hcz22_3, hcz22_4, hcz22_5, hcz22_6, hcz22_7, hcz22_8⟩ := r9_ BK395.out
   obtain ⟨hfz22_0, hfz22_1, hfz22_2, hfz22_3, hfz22_4, hfz22_5, hfz22_6, hfz22_7, hfz22_8⟩ := f9_ BK395.out
   go_wp2
   go_meet
   case rel => exact ⟨_, (decide (a0_4 > 1000000)), (by first | rfl | (simp; done) | (simp [*]; done) | (simp; grind)), H', ⟨by first | omega | exact Nat.le_refl _⟩, ⟨blf_⟩, ⟨bel_⟩⟩
  case rest =>
   clear HC3
   try clear c1
   try clear c2
   try clear p2
   try clear c3
   try clear c4
   try clear c4b0
   try clear c6
   try clear c6b0
   try clear c8
   try clear c8b0
   try clear c10
   try clear c10b0
   try clear c12
   try clear c12b0
   try clear c14
   try clear c14b0
   try clear c16
   try clear c16b0
   try clear c18
   try clear c18b0
   try clear c20
   try clear c20b0
   try clear hcz11_0
   try clear hcz11_1
   try clear hcz11_2
   try clear hcz11_3
   try clear hcz11_4
   try clear hcz11_5
   try clear hcz11_6
   try clear hcz11_7
   try clear hcz11_8
   try clear hcz13_0
   try clear hcz13_1
   try clear hcz13_2
   try clear hcz13_3
   try clear hcz13_4
   try clear hcz13_5
   try clear hcz13_6
   try clear hcz13_7
   try clear hcz13_8
   try clear hcz15_0
   try clear hcz15_1
   try clear hcz15_2
   try clear hcz15_3
   try clear hcz15_4
   try clear hcz15_5
   try clear hcz15_6
   try clear hcz15_7
   try clear hcz15_8
   try clear hcz17_0
   try clear hcz17_1
   try clear hcz17_2
   try clear hcz17_3
   try clear hcz17_4
   try clear hcz17_5
   try clear hcz17_6
   try clear hcz17_7
   try clear hcz17_8
   try clear hcz19_0
   try clear hcz19_1
   try clear hcz19_2
   try clear hcz19_3
   try clear hcz19_4
   try clear hcz19_5
   try clear hcz19_6
   try clear hcz19_7
   try clear hcz19_8
   try clear hcz21_0
   try clear hcz21_1
   try clear hcz21_2
   try clear hcz21_3
   try clear hcz21_4
   try clear hcz21_5
   try clear hcz21_6
   try clear hcz21_7
   try clear hcz21_8
   try clear hcz22_0
   try clear hcz22_1
   try clear hcz22_2
   try clear hcz22_3
   try clear hcz22_4
   try clear hcz22_5
   try clear hcz22_6
   try clear hcz22_7
   try clear hcz22_8
   try clear hcz5_0
   try clear hcz5_1
   try clear hcz5_2
   try clear hcz5_3
   try clear hcz5_4
   try clear hcz5_5
   try clear hcz5_6
   try clear hcz5_7
   try clear hcz5_8
   try clear hcz7_0
   try clear hcz7_1
   try clear hcz7_2
   try clear hcz7_3
   try clear hcz7_4
   try clear hcz7_5
   try clear hcz7_6
   try clear hcz7_7
   try clear hcz7_8
   try clear hcz9_0
   try clear hcz9_1
   try clear hcz9_2
   try clear hcz9_3
   try clear hcz9_4
   try clear hcz9_5
   try clear hcz9_6
   try clear hcz9_7
   try clear hcz9_8
   try clear hfz11_0
   try clear hfz11_1
   try clear hfz11_2
   try clear hfz11_3
   try clear hfz11_4
   try clear hfz11_5
   try clear hfz11_6
   try clear hfz11_7
   try clear hfz11_8
   try clear hfz13_0
   try clear hfz13_1
   try clear hfz13_2
   try clear hfz13_3
   try clear hfz13_4
   try clear hfz13_5
   try clear hfz13_6
   try clear hfz13_7
   try clear hfz13_8
   try clear hfz15_0
   try clear hfz15_1
   try clear hfz15_2
   try clear hfz15_3
   try clear hfz15_4
   try clear hfz15_5
   try clear hfz15_6
   try clear hfz15_7
   try clear hfz15_8
   try clear hfz17_0
   try clear hfz17_1
   try clear hfz17_2
   try clear hfz17_3
   try clear hfz17_4
   try clear hfz17_5
   try clear hfz17_6
   try clear hfz17_7
   try clear hfz17_8
   try clear hfz19_0
   try clear hfz19_1
   try clear hfz19_2
   try clear hfz19_3
   try clear hfz19_4
   try clear hfz19_5
   try clear hfz19_6
   try clear hfz19_7
   try clear hfz19_8
   try clear hfz21_0
   try clear hfz21_1
   try clear hfz21_2
   try clear hfz21_3
   try clear hfz21_4
   try clear hfz21_5
   try clear hfz21_6
   try clear hfz21_7
   try clear hfz21_8
   try clear hfz22_0
   try clear hfz22_1
   try clear hfz22_2
   try clear hfz22_3
   try clear hfz22_4
   try clear hfz22_5
   try clear hfz22_6
   try clear hfz22_7
   try clear hfz22_8
   try clear hfz5_0
   try clear hfz5_1
   try clear hfz5_2
   try clear hfz5_3
   try clear hfz5_4
   try clear hfz5_5
   try clear hfz5_6
   try clear hfz5_7
   try clear hfz5_8
   try clear hfz7_0
   try clear hfz7_1
   try clear hfz7_2
   try clear hfz7_3
   try clear hfz7_4
   try clear hfz7_5
   try clear hfz7_6
   try clear hfz7_7
   try clear hfz7_8
   try clear hfz9_0
   try clear hfz9_1
   try clear hfz9_2
   try clear hfz9_3
   try clear hfz9_4
   try clear hfz9_5
   try clear hfz9_6
   try clear hfz9_7
   try clear hfz9_8
   obtain ⟨kq, x52_2, rfl, HA, HJ2, BK395, HB⟩ := hcut
   cases kq with
   | zero => exact absurd HA.out (by simp [ropewayref11_Right.j0])
   | succ kj2 =>
    have H := HA.out
    clear HA
    simp only [ropewayref11_Right.j0] at H
    by_cases c23 : x52_2 = true
    · subst c23
      have H1 : (some false) = some r := by rw [if_pos rfl] at H; exact H
      clear H
      have H := H1
      clear H1
      obtain rfl := Option.some.inj H
      go_wp2
      go_ret
      exact ⟨by first | rfl | (simp [errW_none, errW_some] <;> rfl) | (simp [*, errW_none, errW_some] <;> rfl), bel_⟩
    replace c23 := Bool.eq_false_iff.mpr c23
    subst c23
    have H1 : ((ropewayref04_Right.f a0_5 a0_6).bind fun t396 => (if t396 = true then ((ropewayref10_Check.f kj2 l0_7).bind fun t397 => (if t397 = 0 then ((ropewayref07_Check.f kj2 l0_8).bind fun t398 => (if t398 = 0 then (if a0_0 = 1 then (if a0_0 = 3 then (some true) else (if a0_0 = 6 then (some true) else (some ((l0_8.length : Int) == 0)))) else (if a0_0 = 3 then (if a0_0 = 5 then (some true) else (if (l0_7.length : Int) = 0 then (some true) else (some false))) else (if a0_0 = 5 then (if a0_0 = 6 then (some true) else (some ((l0_8.length : Int) == 0))) else (if (l0_7.length : Int) = 0 then (if a0_0 = 6 then (some true) else (some ((l0_8.length : Int) == 0))) else (some false))))) else (some false))) else (some false))) else (some false))) = some r := by rw [if_neg (show ¬ (false = true) by decide)] at H; exact H
    clear H
    have H := H1
    clear H1
    replace H := Option.bind_eq_some_iff.mp H
    obtain ⟨t396, A240, H⟩ := H
    replace H : (if t396 = true then ((ropewayref10_Check.f kj2 l0_7).bind fun t397 => (if t397 = 0 then ((ropewayref07_Check.f kj2 l0_8).bind fun t398 => (if t398 = 0 then (if a0_0 = 1 then (if a0_0 = 3 then (some true) else (if a0_0 = 6 then (some true) else (some ((l0_8.length : Int) == 0)))) else (if a0_0 = 3 then (if a0_0 = 5 then (some true) else (if (l0_7.length : Int) = 0 then (some true) else (some false))) else (if a0_0 = 5 then (if a0_0 = 6 then (some true) else (some ((l0_8.length : Int) == 0))) else (if (l0_7.length : Int) = 0 then (if a0_0 = 6 then (some true) else (some ((l0_8.length : Int) == 0))) else (some false))))) else (some false))) else (some false))) else (some false)) = some r := H
    have A24 := zM A240
    clear A240
    by_cases c25 : t396 = true
    rotate_left
    · replace c25 := Bool.eq_false_iff.mpr c25
      subst c25
      have H1 : (some false) = some r := by rw [if_neg (show ¬ (false = true) by decide)] at H; exact H
      clear H
      have H := H1
      clear H1
      obtain ⟨hcz67_0, hcz67_1, hcz67_2, hcz67_3, hcz67_4, hcz67_5, hcz67_6, hcz67_7, hcz67_8⟩ := r9_ BK395.out
      obtain ⟨hfz67_0, hfz67_1, hfz67_2, hfz67_3, hfz67_4, hfz67_5, hfz67_6, hfz67_7, hfz67_8⟩ := f9_ BK395.out
      go_upto_region 4 with (first | ((with_reducible refine gate_callee (f := 55) rfl ?_); refine goL_ (some 55) Try.func55 #[.agg #[.int .i64 a0_5, .int .i64 a0_6]] ?_; (with_reducible refine (ropewayref04_Right.calls a0_5 a0_6 false _ A24.out).mono ?_); rintro e w68 ⟨rfl, hb⟩; refine ⟨_, rfl, ?_⟩; replace BK395 := zM (bb_ BK395 hb); replace HB := zM (zB bel_ hb); (try clear hb); (try clear hb2); (try clear hk); (try clear hi)))
      obtain rfl := Option.some.inj H
      go_wp2
      go_ret
      exact ⟨by first | rfl | (simp [errW_none, errW_some] <;> rfl) | (simp [*, errW_none, errW_some] <;> rfl), bel_⟩
    subst c25
    have H1 : ((ropewayref10_Check.f kj2 l0_7).bind fun t397 => (if t397 = 0 then ((ropewayref07_Check.f kj2 l0_8).bind fun t398 => (if t398 = 0 then (if a0_0 = 1 then (if a0_0 = 3 then (some true) else (if a0_0 = 6 then (some true) else (some ((l0_8.length : Int) == 0)))) else (if a0_0 = 3 then (if a0_0 = 5 then (some true) else (if (l0_7.length : Int) = 0 then (some true) else (some false))) else (if a0_0 = 5 then (if a0_0 = 6 then (some true) else (some ((l0_8.length : Int) == 0))) else (if (l0_7.length : Int) = 0 then (if a0_0 = 6 then (some true) else (some ((l0_8.length : Int) == 0))) else (some false))))) else (some false))) else (some false))) = some r := by rw [if_pos rfl] at H; exact H
    clear H
    have H := H1
    clear H1
    replace H := Option.bind_eq_some_iff.mp H
    obtain ⟨t397, A260, H⟩ := H
    replace H : (if t397 = 0 then ((ropewayref07_Check.f kj2 l0_8).bind fun t398 => (if t398 = 0 then (if a0_0 = 1 then (if a0_0 = 3 then (some true) else (if a0_0 = 6 then (some true) else (some ((l0_8.length : Int) == 0)))) else (if a0_0 = 3 then (if a0_0 = 5 then (some true) else (if (l0_7.length : Int) = 0 then (some true) else (some false))) else (if a0_0 = 5 then (if a0_0 = 6 then (some true) else (some ((l0_8.length : Int) == 0))) else (if (l0_7.length : Int) = 0 then (if a0_0 = 6 then (some true) else (some ((l0_8.length : Int) == 0))) else (some false))))) else (some false))) else (some false)) = some r := H
    have A26 := zM A260
    clear A260
    by_cases c27 : t397 = 0
    rotate_left
    · rw [if_neg c27] at H
      have c27b0 : (t397 == 0) = false := beq_eq_false_iff_ne.mpr c27
      have c27b1 : (t397 != 0) = true := bne_iff_ne.mpr c27
      obtain ⟨hcz63_0, hcz63_1, hcz63_2, hcz63_3, hcz63_4, hcz63_5, hcz63_6, hcz63_7, hcz63_8⟩ := r9_ BK395.out
      obtain ⟨hfz63_0, hfz63_1, hfz63_2, hfz63_3, hfz63_4, hfz63_5, hfz63_6, hfz63_7, hfz63_8⟩ := f9_ BK395.out
      go_upto_region 4 with (first | ((with_reducible refine gate_callee (f := 55) rfl ?_); refine goL_ (some 55) Try.func55 #[.agg #[.int .i64 a0_5, .int .i64 a0_6]] ?_; (with_reducible refine (ropewayref04_Right.calls a0_5 a0_6 true _ A24.out).mono ?_); rintro e w64 ⟨rfl, hb⟩; refine ⟨_, rfl, ?_⟩; replace BK395 := zM (bb_ BK395 hb); replace HB := zM (zB bel_ hb); (try clear hb); (try clear hb2); (try clear hk); (try clear hi); obtain ⟨hcz65_0, hcz65_1, hcz65_2, hcz65_3, hcz65_4, hcz65_5, hcz65_6, hcz65_7, hcz65_8⟩ := r9_ BK395.out; obtain ⟨hfz65_0, hfz65_1, hfz65_2, hfz65_3, hfz65_4, hfz65_5, hfz65_6, hfz65_7, hfz65_8⟩ := f9_ BK395.out) | (go_at_call 56; (with_reducible refine (ropewayref10_Check.calls kj2 _ _ l0_7 t397 _ ?side1 ?side2 A26.out).mono ?_); (case side1 => repeat (first | exact (Kd.C_below HR0_7.out HB.out) | (with_reducible refine Kd.C_alloc ?_ _) | (with_reducible refine Kd.C_drewN ?_ _) | (with_reducible refine Kd.C_drew ?_))); (case side2 => exact HC0_7.out); rintro e w66 ⟨rfl, hb⟩; replace BK395 := zM (bb_ BK395 hb); replace HB := zM (zB bel_ hb); (try clear hb); (try clear hb2); (try clear hk); (try clear hi)))
      try clear hcz65_0
      try clear hcz65_1
      try clear hcz65_2
      try clear hcz65_3
      try clear hcz65_4
      try clear hcz65_5
      try clear hcz65_6
      try clear hcz65_7
      try clear hcz65_8
      try clear hfz65_0
      try clear hfz65_1
      try clear hfz65_2
      try clear hfz65_3
      try clear hfz65_4
      try clear hfz65_5
      try clear hfz65_6
      try clear hfz65_7
      try clear hfz65_8
      obtain rfl := Option.some.inj H
      go_wp2
      go_ret
      exact ⟨by first | rfl | (simp [errW_none, errW_some] <;> rfl) | (simp [*, errW_none, errW_some] <;> rfl), bel_⟩
    rw [if_pos c27] at H
    have c27b0 : (t397 == 0) = true := beq_iff_eq.mpr c27
    have c27b1 : (t397 != 0) = false := bne_eq_false_iff_eq.mpr c27
    clear c27
    replace H := Option.bind_eq_some_iff.mp H
    obtain ⟨t398, A280, H⟩ := H
    replace H : (if t398 = 0 then (if a0_0 = 1 then (if a0_0 = 3 then (some true) else (if a0_0 = 6 then (some true) else (some ((l0_8.length : Int) == 0)))) else (if a0_0 = 3 then (if a0_0 = 5 then (some true) else (if (l0_7.length : Int) = 0 then (some true) else (some false))) else (if a0_0 = 5 then (if a0_0 = 6 then (some true) else (some ((l0_8.length : Int) == 0))) else (if (l0_7.length : Int) = 0 then (if a0_0 = 6 then (some true) else (some ((l0_8.length : Int) == 0))) else (some false))))) else (some false)) = some r := H
    have A28 := zM A280
    clear A280
    by_cases c29 : t398 = 0
    rotate_left
    · rw [if_neg c29] at H
      have c29b0 : (t398 == 0) = false := beq_eq_false_iff_ne.mpr c29
      have c29b1 : (t398 != 0) = true := bne_iff_ne.mpr c29
      obtain ⟨hcz57_0, hcz57_1, hcz57_2, hcz57_3, hcz57_4, hcz57_5, hcz57_6, hcz57_7, hcz57_8⟩ := r9_ BK395.out
      obtain ⟨hfz57_0, hfz57_1, hfz57_2, hfz57_3, hfz57_4, hfz57_5, hfz57_6, hfz57_7, hfz57_8⟩ := f9_ BK395.out
      go_upto_region 4 with (first | ((with_reducible refine gate_callee (f := 55) rfl ?_); refine goL_ (some 55) Try.func55 #[.agg #[.int .i64 a0_5, .int .i64 a0_6]] ?_; (with_reducible refine (ropewayref04_Right.calls a0_5 a0_6 true _ A24.out).mono ?_); rintro e w58 ⟨rfl, hb⟩; refine ⟨_, rfl, ?_⟩; replace BK395 := zM (bb_ BK395 hb); replace HB := zM (zB bel_ hb); (try clear hb); (try clear hb2); (try clear hk); (try clear hi); obtain ⟨hcz59_0, hcz59_1, hcz59_2, hcz59_3, hcz59_4, hcz59_5, hcz59_6, hcz59_7, hcz59_8⟩ := r9_ BK395.out; obtain ⟨hfz59_0, hfz59_1, hfz59_2, hfz59_3, hfz59_4, hfz59_5, hfz59_6, hfz59_7, hfz59_8⟩ := f9_ BK395.out) | (go_at_call 56; (with_reducible refine (ropewayref10_Check.calls kj2 _ _ l0_7 t397 _ ?side1 ?side2 A26.out).mono ?_); (case side1 => repeat (first | exact (Kd.C_below HR0_7.out HB.out) | (with_reducible refine Kd.C_alloc ?_ _) | (with_reducible refine Kd.C_drewN ?_ _) | (with_reducible refine Kd.C_drew ?_))); (case side2 => exact HC0_7.out); rintro e w60 ⟨rfl, hb⟩; replace BK395 := zM (bb_ BK395 hb); replace HB := zM (zB bel_ hb); (try clear hb); (try clear hb2); (try clear hk); (try clear hi); obtain ⟨hcz61_0, hcz61_1, hcz61_2, hcz61_3, hcz61_4, hcz61_5, hcz61_6, hcz61_7, hcz61_8⟩ := r9_ BK395.out; obtain ⟨hfz61_0, hfz61_1, hfz61_2, hfz61_3, hfz61_4, hfz61_5, hfz61_6, hfz61_7, hfz61_8⟩ := f9_ BK395.out) | (go_at_call 57; (with_reducible refine (ropewayref07_Check.calls kj2 _ _ l0_8 t398 _ ?side1 ?side2 A28.out).mono ?_); (case side1 => repeat (first | exact (Kd.C_below HR0_8.out HB.out) | (with_reducible refine Kd.C_alloc ?_ _) | (with_reducible refine Kd.C_drewN ?_ _) | (with_reducible refine Kd.C_drew ?_))); (case side2 => exact HC0_8.out); rintro e w62 ⟨rfl, hb⟩; replace BK395 := zM (bb_ BK395 hb); replace HB := zM (zB bel_ hb); (try clear hb); (try clear hb2); (try clear hk); (try clear hi)))
      try clear hcz59_0
      try clear hcz59_1
      try clear hcz59_2
      try clear hcz59_3
      try clear hcz59_4
      try clear hcz59_5
      try clear hcz59_6
      try clear hcz59_7
      try clear hcz59_8
      try clear hcz61_0
      try clear hcz61_1
      try clear hcz61_2
      try clear hcz61_3
      try clear hcz61_4
      try clear hcz61_5
      try clear hcz61_6
      try clear hcz61_7
      try clear hcz61_8
      try clear hfz59_0
      try clear hfz59_1
      try clear hfz59_2
      try clear hfz59_3
      try clear hfz59_4
      try clear hfz59_5
      try clear hfz59_6
      try clear hfz59_7
      try clear hfz59_8
      try clear hfz61_0
      try clear hfz61_1
      try clear hfz61_2
      try clear hfz61_3
      try clear hfz61_4
      try clear hfz61_5
      try clear hfz61_6
      try clear hfz61_7
      try clear hfz61_8
      obtain rfl := Option.some.inj H
      go_wp2
      go_ret
      exact ⟨by first | rfl | (simp [errW_none, errW_some] <;> rfl) | (simp [*, errW_none, errW_some] <;> rfl), bel_⟩
    rw [if_pos c29] at H
    have c29b0 : (t398 == 0) = true := beq_iff_eq.mpr c29
    have c29b1 : (t398 != 0) = false := bne_eq_false_iff_eq.mpr c29
    clear c29
    obtain ⟨hcz30_0, hcz30_1, hcz30_2, hcz30_3, hcz30_4, hcz30_5, hcz30_6, hcz30_7, hcz30_8⟩ := r9_ BK395.out
    obtain ⟨hfz30_0, hfz30_1, hfz30_2, hfz30_3, hfz30_4, hfz30_5, hfz30_6, hfz30_7, hfz30_8⟩ := f9_ BK395.out
    go_upto_region 5 with (first | ((with_reducible refine gate_callee (f := 55) rfl ?_); refine goL_ (some 55) Try.func55 #[.agg #[.int .i64 a0_5, .int .i64 a0_6]] ?_; (with_reducible refine (ropewayref04_Right.calls a0_5 a0_6 true _ A24.out).mono ?_); rintro e w31 ⟨rfl, hb⟩; refine ⟨_, rfl, ?_⟩; replace BK395 := zM (bb_ BK395 hb); replace HB := zM (zB bel_ hb); (try clear hb); (try clear hb2); (try clear hk); (try clear hi); obtain ⟨hcz32_0, hcz32_1, hcz32_2, hcz32_3, hcz32_4, hcz32_5, hcz32_6, hcz32_7, hcz32_8⟩ := r9_ BK395.out; obtain ⟨hfz32_0, hfz32_1, hfz32_2, hfz32_3, hfz32_4, hfz32_5, hfz32_6, hfz32_7, hfz32_8⟩ := f9_ BK395.out) | (go_at_call 56; (with_reducible refine (ropewayref10_Check.calls kj2 _ _ l0_7 t397 _ ?side1 ?side2 A26.out).mono ?_); (case side1 => repeat (first | exact (Kd.C_below HR0_7.out HB.out) | (with_reducible refine Kd.C_alloc ?_ _) | (with_reducible refine Kd.C_drewN ?_ _) | (with_reducible refine Kd.C_drew ?_))); (case side2 => exact HC0_7.out); rintro e w33 ⟨rfl, hb⟩; replace BK395 := zM (bb_ BK395 hb); replace HB := zM (zB bel_ hb); (try clear hb); (try clear hb2); (try clear hk); (try clear hi); obtain ⟨hcz34_0, hcz34_1, hcz34_2, hcz34_3, hcz34_4, hcz34_5, hcz34_6, hcz34_7, hcz34_8⟩ := r9_ BK395.out; obtain ⟨hfz34_0, hfz34_1, hfz34_2, hfz34_3, hfz34_4, hfz34_5, hfz34_6, hfz34_7, hfz34_8⟩ := f9_ BK395.out) | (go_at_call 57; (with_reducible refine (ropewayref07_Check.calls kj2 _ _ l0_8 t398 _ ?side1 ?side2 A28.out).mono ?_); (case side1 => repeat (first | exact (Kd.C_below HR0_8.out HB.out) | (with_reducible refine Kd.C_alloc ?_ _) | (with_reducible refine Kd.C_drewN ?_ _) | (with_reducible refine Kd.C_drew ?_))); (case side2 => exact HC0_8.out); rintro e w35 ⟨rfl, hb⟩; replace BK395 := zM (bb_ BK395 hb); replace HB := zM (zB bel_ hb); (try clear hb); (try clear hb2); (try clear hk); (try clear hi)))
    try clear hcz32_0
    try clear hcz32_1
    try clear hcz32_2
    try clear hcz32_3
    try clear hcz32_4
    try clear hcz32_5
    try clear hcz32_6
    try clear hcz32_7
    try clear hcz32_8
    try clear hcz34_0
    try clear hcz34_1
    try clear hcz34_2
    try clear hcz34_3
    try clear hcz34_4
    try clear hcz34_5
    try clear hcz34_6
    try clear hcz34_7
    try clear hcz34_8
    try clear hfz32_0
    try clear hfz32_1
    try clear hfz32_2
    try clear hfz32_3
    try clear hfz32_4
    try clear hfz32_5
    try clear hfz32_6
    try clear hfz32_7
    try clear hfz32_8
    try clear hfz34_0
    try clear hfz34_1
    try clear hfz34_2
    try clear hfz34_3
    try clear hfz34_4
    try clear hfz34_5
    try clear hfz34_6
    try clear hfz34_7
    try clear hfz34_8
    by_cases c36 : a0_0 = 1
    · rw [if_pos c36] at H
      have c36b0 : (a0_0 == 1) = true := beq_iff_eq.mpr c36
      have c36b1 : (a0_0 != 1) = false := bne_eq_false_iff_eq.mpr c36
      clear c36
      by_cases c37 : a0_0 = 3
      · rw [if_pos c37] at H
        have c37b0 : (a0_0 == 3) = true := beq_iff_eq.mpr c37
        have c37b1 : (a0_0 != 3) = false := bne_eq_false_iff_eq.mpr c37
        clear c37
        obtain rfl := Option.some.inj H
        obtain ⟨hcz38_0, hcz38_1, hcz38_2, hcz38_3, hcz38_4, hcz38_5, hcz38_6, hcz38_7, hcz38_8⟩ := r9_ BK395.out
        obtain ⟨hfz38_0, hfz38_1, hfz38_2, hfz38_3, hfz38_4, hfz38_5, hfz38_6, hfz38_7, hfz38_8⟩ := f9_ BK395.out
        go_wp2
        go_ret
        exact ⟨by first | rfl | (simp [errW_none, errW_some] <;> rfl) | (simp [*, errW_none, errW_some] <;> rfl), bel_⟩
      rw [if_neg c37] at H
      have c37b0 : (a0_0 == 3) = false := beq_eq_false_iff_ne.mpr c37
      have c37b1 : (a0_0 != 3) = true := bne_iff_ne.mpr c37
      by_cases c39 : a0_0 = 6
      rotate_left
      · rw [if_neg c39] at H
        have c39b0 : (a0_0 == 6) = false := beq_eq_false_iff_ne.mpr c39
        have c39b1 : (a0_0 != 6) = true := bne_iff_ne.mpr c39
        obtain rfl := Option.some.inj H
        obtain ⟨hcz41_0, hcz41_1, hcz41_2, hcz41_3, hcz41_4, hcz41_5, hcz41_6, hcz41_7, hcz41_8⟩ := r9_ BK395.out
        obtain ⟨hfz41_0, hfz41_1, hfz41_2, hfz41_3, hfz41_4, hfz41_5, hfz41_6, hfz41_7, hfz41_8⟩ := f9_ BK395.out
        go_wp2
        go_ret
        exact ⟨by first | rfl | (simp [errW_none, errW_some] <;> rfl) | (simp [*, errW_none, errW_some] <;> rfl), bel_⟩
      rw [if_pos c39] at H
      have c39b0 : (a0_0 == 6) = true := beq_iff_eq.mpr c39
      have c39b1 : (a0_0 != 6) = false := bne_eq_false_iff_eq.mpr c39
      clear c39
      obtain rfl := Option.some.inj H
      obtain ⟨hcz40_0, hcz40_1, hcz40_2, hcz40_3, hcz40_4, hcz40_5, hcz40_6, hcz40_7, hcz40_8⟩ := r9_ BK395.out
      obtain ⟨hfz40_0, hfz40_1, hfz40_2, hfz40_3, hfz40_4, hfz40_5, hfz40_6, hfz40_7, hfz40_8⟩ := f9_ BK395.out
      go_wp2
      go_ret
      exact ⟨by first | rfl | (simp [errW_none, errW_some] <;> rfl) | (simp [*, errW_none, errW_some] <;> rfl), bel_⟩
    rw [if_neg c36] at H
    have c36b0 : (a0_0 == 1) = false := beq_eq_false_iff_ne.mpr c36
    have c36b1 : (a0_0 != 1) = true := bne_iff_ne.mpr c36
    by_cases c42 : a0_0 = 3
    · rw [if_pos c42] at H
      have c42b0 : (a0_0 == 3) = true := beq_iff_eq.mpr c42
      have c42b1 : (a0_0 != 3) = false := bne_eq_false_iff_eq.mpr c42
      clear c42
      by_cases c43 : a0_0 = 5
      · rw [if_pos c43] at H
        have c43b0 : (a0_0 == 5) = true := beq_iff_eq.mpr c43
        have c43b1 : (a0_0 != 5) = false := bne_eq_false_iff_eq.mpr c43
        clear c43
        obtain rfl := Option.some.inj H
        obtain ⟨hcz44_0, hcz44_1, hcz44_2, hcz44_3, hcz44_4, hcz44_5, hcz44_6, hcz44_7, hcz44_8⟩ := r9_ BK395.out
        obtain ⟨hfz44_0, hfz44_1, hfz44_2, hfz44_3, hfz44_4, hfz44_5, hfz44_6, hfz44_7, hfz44_8⟩ := f9_ BK395.out
        go_wp2
        go_ret
        exact ⟨by first | rfl | (simp [errW_none, errW_some] <;> rfl) | (simp [*, errW_none, errW_some] <;> rfl), bel_⟩
      rw [if_neg c43] at H
      have c43b0 : (a0_0 == 5) = false := beq_eq_false_iff_ne.mpr c43
      have c43b1 : (a0_0 != 5) = true := bne_iff_ne.mpr c43
      by_cases c45 : (l0_7.length : Int) = 0
      · rw [if_pos c45] at H
        have c45b0 : ((l0_7.length : Int) == 0) = true := beq_iff_eq.mpr c45
        have c45b1 : ((l0_7.length : Int) != 0) = false := bne_eq_false_iff_eq.mpr c45
        clear c45
        obtain rfl := Option.some.inj H
        obtain ⟨hcz46_0, hcz46_1, hcz46_2, hcz46_3, hcz46_4, hcz46_5, hcz46_6, hcz46_7, hcz46_8⟩ := r9_ BK395.out
        obtain ⟨hfz46_0, hfz46_1, hfz46_2, hfz46_3, hfz46_4, hfz46_5, hfz46_6, hfz46_7, hfz46_8⟩ := f9_ BK395.out
        go_wp2
        go_ret
        exact ⟨by first | rfl | (simp [errW_none, errW_some] <;> rfl) | (simp [*, errW_none, errW_some] <;> rfl), bel_⟩
      rw [if_neg c45] at H
      have c45b0 : ((l0_7.length : Int) == 0) = false := beq_eq_false_iff_ne.mpr c45
      have c45b1 : ((l0_7.length : Int) != 0) = true := bne_iff_ne.mpr c45
      have c45b2 : ¬ (l0_7 = []) := fun h_ => c45 (by rw [h_]; rfl)
      obtain rfl := Option.some.inj H
      obtain ⟨hcz47_0, hcz47_1, hcz47_2, hcz47_3, hcz47_4, hcz47_5, hcz47_6, hcz47_7, hcz47_8⟩ := r9_ BK395.out
      obtain ⟨hfz47_0, hfz47_1, hfz47_2, hfz47_3, hfz47_4, hfz47_5, hfz47_6, hfz47_7, hfz47_8⟩ := f9_ BK395.out
      go_wp2
      go_ret
      exact ⟨by first | rfl | (simp [errW_none, errW_some] <;> rfl) | (simp [*, errW_none, errW_some] <;> rfl), bel_⟩
    rw [if_neg c42] at H
    have c42b0 : (a0_0 == 3) = false := beq_eq_false_iff_ne.mpr c42
    have c42b1 : (a0_0 != 3) = true := bne_iff_ne.mpr c42
    by_cases c48 : a0_0 = 5
    · rw [if_pos c48] at H
      have c48b0 : (a0_0 == 5) = true := beq_iff_eq.mpr c48
      have c48b1 : (a0_0 != 5) = false := bne_eq_false_iff_eq.mpr c48
      clear c48
      by_cases c49 : a0_0 = 6
      rotate_left
      · rw [if_neg c49] at H
        have c49b0 : (a0_0 == 6) = false := beq_eq_false_iff_ne.mpr c49
        have c49b1 : (a0_0 != 6) = true := bne_iff_ne.mpr c49
        obtain rfl := Option.some.inj H
        obtain ⟨hcz51_0, hcz51_1, hcz51_2, hcz51_3, hcz51_4, hcz51_5, hcz51_6, hcz51_7, hcz51_8⟩ := r9_ BK395.out
        obtain ⟨hfz51_0, hfz51_1, hfz51_2, hfz51_3, hfz51_4, hfz51_5, hfz51_6, hfz51_7, hfz51_8⟩ := f9_ BK395.out
        go_wp2
        go_ret
        exact ⟨by first | rfl | (simp [errW_none, errW_some] <;> rfl) | (simp [*, errW_none, errW_some] <;> rfl), bel_⟩
      rw [if_pos c49] at H
      have c49b0 : (a0_0 == 6) = true := beq_iff_eq.mpr c49
      have c49b1 : (a0_0 != 6) = false := bne_eq_false_iff_eq.mpr c49
      clear c49
      obtain rfl := Option.some.inj H
      obtain ⟨hcz50_0, hcz50_1, hcz50_2, hcz50_3, hcz50_4, hcz50_5, hcz50_6, hcz50_7, hcz50_8⟩ := r9_ BK395.out
      obtain ⟨hfz50_0, hfz50_1, hfz50_2, hfz50_3, hfz50_4, hfz50_5, hfz50_6, hfz50_7, hfz50_8⟩ := f9_ BK395.out
      go_wp2
      go_ret
      exact ⟨by first | rfl | (simp [errW_none, errW_some] <;> rfl) | (simp [*, errW_none, errW_some] <;> rfl), bel_⟩
    rw [if_neg c48] at H
    have c48b0 : (a0_0 == 5) = false := beq_eq_false_iff_ne.mpr c48
    have c48b1 : (a0_0 != 5) = true := bne_iff_ne.mpr c48
    by_cases c52 : (l0_7.length : Int) = 0
    rotate_left
    · rw [if_neg c52] at H
      have c52b0 : ((l0_7.length : Int) == 0) = false := beq_eq_false_iff_ne.mpr c52
      have c52b1 : ((l0_7.length : Int) != 0) = true := bne_iff_ne.mpr c52
      have c52b2 : ¬ (l0_7 = []) := fun h_ => c52 (by rw [h_]; rfl)
      obtain rfl := Option.some.inj H
      obtain ⟨hcz56_0, hcz56_1, hcz56_2, hcz56_3, hcz56_4, hcz56_5, hcz56_6, hcz56_7, hcz56_8⟩ := r9_ BK395.out
      obtain ⟨hfz56_0, hfz56_1, hfz56_2, hfz56_3, hfz56_4, hfz56_5, hfz56_6, hfz56_7, hfz56_8⟩ := f9_ BK395.out
      go_wp2
      go_ret
      exact ⟨by first | rfl | (simp [errW_none, errW_some] <;> rfl) | (simp [*, errW_none, errW_some] <;> rfl), bel_⟩
    rw [if_pos c52] at H
    have c52b0 : ((l0_7.length : Int) == 0) = true := beq_iff_eq.mpr c52
    have c52b1 : ((l0_7.length : Int) != 0) = false := bne_eq_false_iff_eq.mpr c52
    clear c52
    by_cases c53 : a0_0 = 6
    rotate_left
    · rw [if_neg c53] at H
      have c53b0 : (a0_0 == 6) = false := beq_eq_false_iff_ne.mpr c53
      have c53b1 : (a0_0 != 6) = true := bne_iff_ne.mpr c53
      obtain rfl := Option.some.inj H
      obtain ⟨hcz55_0, hcz55_1, hcz55_2, hcz55_3, hcz55_4, hcz55_5, hcz55_6, hcz55_7, hcz55_8⟩ := r9_ BK395.out
      obtain ⟨hfz55_0, hfz55_1, hfz55_2, hfz55_3, hfz55_4, hfz55_5, hfz55_6, hfz55_7, hfz55_8⟩ := f9_ BK395.out
      go_wp2
      go_ret
      exact ⟨by first | rfl | (simp [errW_none, errW_some] <;> rfl) | (simp [*, errW_none, errW_some] <;> rfl), bel_⟩
    rw [if_pos c53] at H
    have c53b0 : (a0_0 == 6) = true := beq_iff_eq.mpr c53
    have c53b1 : (a0_0 != 6) = false := bne_eq_false_iff_eq.mpr c53
    clear c53
    obtain rfl := Option.some.inj H
    obtain ⟨hcz54_0, hcz54_1, hcz54_2, hcz54_3, hcz54_4, hcz54_5, hcz54_6, hcz54_7, hcz54_8⟩ := r9_ BK395.out
    obtain ⟨hfz54_0, hfz54_1, hfz54_2, hfz54_3, hfz54_4, hfz54_5, hfz54_6, hfz54_7, hfz54_8⟩ := f9_ BK395.out
    go_wp2
    go_ret
    exact ⟨by first | rfl | (simp [errW_none, errW_some] <;> rfl) | (simp [*, errW_none, errW_some] <;> rfl), bel_⟩
end Go.Proofs.Ytmgiaappokkjfaa.PRoundStays
