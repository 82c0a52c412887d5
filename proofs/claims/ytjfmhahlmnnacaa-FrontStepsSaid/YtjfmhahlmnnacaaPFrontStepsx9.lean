/- Written by a program of this session (wip/tool/px.py) over the kit's print: what the code that the law FrontSteps reaches computes, function by function, and the law's row. -/
import Derived.Test.YtjfmhahlmnnacaaPFrontStepsx0
import Derived.Test.YtjfmhahlmnnacaaPFrontStepsx8
namespace Go.Proofs.Ytjfmhahlmnnacaa.PFrontSteps
open Go.RowKit Go.Proofs.YtjfmhahlmnnacaaX Go.Proofs.YtjfmhahlmnnacaaW.PrintWords Go.Proofs.YtjfmhahlmnnacaaW.PrintLast Go.Proofs.YtjfmhahlmnnacaaW.PrintMore
open List renaming setIfInBounds_toArray → zS, set_cons_zero → zZ, set_cons_succ → zC
open Go.Proofs.YtjfmhahlmnnacaaW.PrintWords renaming blk_drewN → zN, blk_drew → zD, blk_alloc → zA, blk_cell → zL, blk_frozen → zF, below_step → zB
open Go.Proofs.YtjfmhahlmnnacaaW.PrintWords.Aside0 renaming mk → zM
attribute [local go_sem] max2_int min2_int max_two min_two max_three min_three max_four min_four   -- for this text's walks alone
set_option linter.unusedVariables false
set_option linter.unusedSimpArgs false

attribute [local go_sem] px_nilq22
/-! ### ropewayref16_sorted: function 28 -/
mutual
def ropewayref16_sorted.l0 : Nat → List (S24) → List (S24) → Option ((List (S24)))
  | 0, _, _ => none
  | k + 1, x0, x3 => ropewayref16_sorted.l1 k x0 x3 false x0 (x0.length : Int) 0 0 0
def ropewayref16_sorted.l1 : Nat → List (S24) → List (S24) → Bool → List (S24) → Int → Int → Int → Int → Option ((List (S24)))
  | 0, _, _, _, _, _, _, _, _ => none
  | k + 1, x0, x3, x5, x10, x11, x12, x270000, x270001 => if x12 < x11 then (if 0 ≤ x12 then (if x12 < (x10.length : Int) then (if (x3.length : Int) = 0 then (if x5 = true then ((ropewayref05_Less.f k ((rd_T24 x10 x12).f0) ((rd_T24 x10 x12).f1) x270000 x270001).bind fun t275 => (if t275 = true then (ropewayref16_sorted.l1 k x0 x3 true x10 x11 (wrap64 (x12 + 1)) ((rd_T24 x10 x12).f0) ((rd_T24 x10 x12).f1)) else (ropewayref16_sorted.l1 k x0 x3 x5 x10 x11 (wrap64 (x12 + 1)) x270000 x270001))) else (ropewayref16_sorted.l1 k x0 x3 true x10 x11 (wrap64 (x12 + 1)) ((rd_T24 x10 x12).f0) ((rd_T24 x10 x12).f1))) else (if 0 ≤ (wrap64 ((x3.length : Int) - 1)) then (if (wrap64 ((x3.length : Int) - 1)) < (x3.length : Int) then ((ropewayref05_Less.f k ((rd_T24 x3 (wrap64 ((x3.length : Int) - 1))).f0) ((rd_T24 x3 (wrap64 ((x3.length : Int) - 1))).f1) ((rd_T24 x10 x12).f0) ((rd_T24 x10 x12).f1)).bind fun t277 => (if t277 = true then (if x5 = true then ((ropewayref05_Less.f k ((rd_T24 x10 x12).f0) ((rd_T24 x10 x12).f1) x270000 x270001).bind fun t278 => (if t278 = true then (ropewayref16_sorted.l1 k x0 x3 true x10 x11 (wrap64 (x12 + 1)) ((rd_T24 x10 x12).f0) ((rd_T24 x10 x12).f1)) else (ropewayref16_sorted.l1 k x0 x3 x5 x10 x11 (wrap64 (x12 + 1)) x270000 x270001))) else (ropewayref16_sorted.l1 k x0 x3 true x10 x11 (wrap64 (x12 + 1)) ((rd_T24 x10 x12).f0) ((rd_T24 x10 x12).f1))) else (ropewayref16_sorted.l1 k x0 x3 x5 x10 x11 (wrap64 (x12 + 1)) x270000 x270001))) else (none)) else (none))) else (none)) else (none)) else (if x5 = true then (if x3.length < 8796093022208 then (ropewayref16_sorted.l0 k x0 (x3 ++ [(⟨x270000, x270001⟩ : S24)])) else (none)) else (some x3))
end
def ropewayref16_sorted.f (k : Nat) (l0 : List (S24)) : Option ((List (S24))) := ropewayref16_sorted.l0 k l0 (([] : List (S24)))
theorem ropewayref16_sorted.mono_l : ∀ k, (∀ y0 y1, LeO (ropewayref16_sorted.l0 k y0 y1) (ropewayref16_sorted.l0 (k + 1) y0 y1)) ∧ (∀ y0 y1 y2 y3 y4 y5 y6 y7, LeO (ropewayref16_sorted.l1 k y0 y1 y2 y3 y4 y5 y6 y7) (ropewayref16_sorted.l1 (k + 1) y0 y1 y2 y3 y4 y5 y6 y7))
  | 0 => ⟨fun _ _ r h => by simp [ropewayref16_sorted.l0] at h, fun _ _ _ _ _ _ _ _ r h => by simp [ropewayref16_sorted.l1] at h⟩
  | k + 1 => by
    obtain ⟨ih0, ih1⟩ := ropewayref16_sorted.mono_l k
    refine ⟨?_, ?_⟩
    · intro y0 y1
      unfold ropewayref16_sorted.l0
      repeat' first
      | (with_reducible exact ih0 _ _)
      | (with_reducible exact ih1 _ _ _ _ _ _ _ _)
      | (with_reducible exact ropewayref05_Less.mono _ _ _ _ _)
      | (with_reducible exact LeO.refl _)
      | (with_reducible exact LeO.none _)
      | (with_reducible refine LeO.ite ?_ ?_)
      | (with_reducible refine LeO.bind ?_ (fun _ => ?_))
      | exact ih0 _ _
      | exact ih1 _ _ _ _ _ _ _ _
      | exact ropewayref05_Less.mono _ _ _ _ _
      | exact LeO.none _
      | refine LeO.ite ?_ ?_
      | refine LeO.bind ?_ (fun _ => ?_)
    · intro y0 y1 y2 y3 y4 y5 y6 y7
      unfold ropewayref16_sorted.l1
      repeat' first
      | (with_reducible exact ih0 _ _)
      | (with_reducible exact ih1 _ _ _ _ _ _ _ _)
      | (with_reducible exact ropewayref05_Less.mono _ _ _ _ _)
      | (with_reducible exact LeO.refl _)
      | (with_reducible exact LeO.none _)
      | (with_reducible refine LeO.ite ?_ ?_)
      | (with_reducible refine LeO.bind ?_ (fun _ => ?_))
      | exact ih0 _ _
      | exact ih1 _ _ _ _ _ _ _ _
      | exact ropewayref05_Less.mono _ _ _ _ _
      | exact LeO.none _
      | refine LeO.ite ?_ ?_
      | refine LeO.bind ?_ (fun _ => ?_)
theorem ropewayref16_sorted.mono : ∀ a0 k, LeO (ropewayref16_sorted.f k a0) (ropewayref16_sorted.f (k + 1) a0) := by
  intro a0 k
  obtain ⟨ih0, ih1⟩ := ropewayref16_sorted.mono_l k
  unfold ropewayref16_sorted.f
  repeat' first
      | (with_reducible exact ih0 _ _)
      | (with_reducible exact ih1 _ _ _ _ _ _ _ _)
      | (with_reducible exact ropewayref05_Less.mono _ _ _ _ _)
      | (with_reducible exact LeO.refl _)
      | (with_reducible exact LeO.none _)
      | (with_reducible refine LeO.ite ?_ ?_)
      | (with_reducible refine LeO.bind ?_ (fun _ => ?_))
      | exact ih0 _ _
      | exact ih1 _ _ _ _ _ _ _ _
      | exact ropewayref05_Less.mono _ _ _ _ _
      | exact LeO.none _
      | refine LeO.ite ?_ ?_
      | refine LeO.bind ?_ (fun _ => ?_)
def ropewayref16_sorted.T6 : Bool × List (List Nat × List Nat) := (true, [([], []), ([0], [0]), ([1], [1]), ([2], [2]), ([3], [3]), ([3], [3]), ([5, 3], [3, 5]), ([6, 3], [3, 6]), ([4, 7, 3], [3, 4, 7]), ([8, 3], [3, 8]), ([3], [3]), ([9, 10, 3, 3], [3, 9, 10]), ([3, 11], [3, 11]), ([12, 11], [12]), ([13], [13]), ([14, 13], [13, 14]), ([15, 13, 13], [13, 15]), ([16], [16]), ([16], [16]), ([17, 18, 16, 16], [16, 17, 18]), ([16, 19, 13], [13, 16, 19]), ([13, 20], [13, 20])])
def ropewayref16_sorted.B6 : List Nat := [0, 1, 3, 7, 15, 15, 47, 111, 255, 511, 15, 2047, 4095, 8191, 16383, 32767, 65535, 131071, 131071, 524287, 1048575, 2097151]
theorem ropewayref16_sorted.tab6 : rtab .any (opsOf Try.f28 6) = ropewayref16_sorted.T6 := by kernel_rfl
theorem ropewayref16_sorted.bits6 : waitsOk ropewayref16_sorted.T6.2 ropewayref16_sorted.B6 = true := by kernel_rfl
set_option maxHeartbeats 8000000 in
set_option maxRecDepth 100000 in
theorem ropewayref16_sorted.calls (k : Nat) (A0 : Option Addr) (c0 : Nat) (l0 : List (S24)) (r : List (S24)) (w : World) (hr0 : Kd.C k24 w A0 l0.length l0) (hc0 : l0.length ≤ c0) (h : ropewayref16_sorted.f k l0 = some r) :
    Calls Try.prog 28 #[.slice A0 l0.length c0] w fun e w' => ∃ v0_ : Value, e = .returned (v0_) ∧ Kd.R k24 24 w' w.heap.size (fun _ => True) v0_ r ∧ Below w.heap.size w w' := by
  have hu24 := Try.underlying24
  have HR0 := zM hr0
  have HC0 := zM hc0
  clear hr0 hc0
  have HB := zM (Below.refl w.heap.size w)
  have H : (ropewayref16_sorted.l0 k l0 (([] : List (S24)))) = some r := h
  clear h
  obtain ⟨y266, hy266⟩ : ∃ y_ : List (S24), y_ = (([] : List (S24))) := ⟨_, rfl⟩
  replace H : (ropewayref16_sorted.l0 k l0 y266) = some r := by first | (rw [hy266]; with_reducible exact H) | (have H2_ := (Option.bind_some _ _).symm.trans H; rw [hy266]; with_reducible exact H2_) | (have H2_ := (Option.bind_some _ _).symm.trans H; with_reducible exact H2_) | with_reducible exact H | (rw [hy266]; exact H) | exact H
  have Ny266 := zM hy266
  clear hy266
  have H' := zM H
  clear H
  go_enter Try.func28, Try.ntmps28
  go_wp2_with (first | ((with_reducible refine gate_dst (N := 8) rfl ?_); (try (refine gate_guard (by rfl) ?_; dsimp only)); refine Kd.R_lit k24 _ 24 ?hg (N := 8) ?hd (xs := ([] : List (S24))) (inner := []) (ok := fun _ => True) (okp := fun _ => True) ?hr ?hp (fun _ hk => hk) trivial (Below.refl _ _) (Nat.le_refl _) (by simp) ?_; (case hd => rfl); (case hg => rfl); (case hr => first | (go_simp; done) | (go_simp; rfl)); (case hp => exact (Reps.none _ _)); intro v267 w2 ho3 hb hg_ hnew_; clear hg_ hnew_; (first | rw [← Ny266.out] at ho3 | (simp only [Int.reduceToNat] at ho3; rw [← Ny266.out] at ho3)); have HO268 := zM (Kd.R_lower ho3 (below_size bel_)); replace HB := zM (zB bel_ hb); clear hb ho3))
  go_loopg [3] k (fun kq v3 w' => ∃ (x3_1 : List (S24)), Aside0 (ropewayref16_sorted.l0 kq l0 x3_1 = some r) ∧ Aside0 (kq ≤ k) ∧ Aside0 (Kd.R k24 24 w' w.heap.size (fun _ => True) v3 x3_1) ∧ Aside0 (Below w.heap.size w w'))
  case atStart => exact ⟨(y266), H', ⟨Nat.le_refl _⟩, ⟨by (with_reducible repeat (first | apply Kd.R_alloc | apply Kd.R_drewN | apply Kd.R_drew)); exact HO268.out⟩, ⟨bel_⟩⟩
  case round =>
   clear H'
   try clear c2
   try clear p2
   obtain ⟨x3_1, HA, HK1, HO_3, HB⟩ := hrel
   cases gk with
   | zero => exact absurd HA.out (by simp [ropewayref16_sorted.l0])
   | succ k1 =>
    have H := HA.out
    clear HA
    simp only [ropewayref16_sorted.l0] at H
    have H' := zM H
    clear H
    go_wp2_with (first | ((with_reducible refine gate_dst (N := 4) rfl ?_); (try (refine gate_guard (by rfl) ?_; dsimp only)); refine box_event ?hg (N := 4) ?hd (cs := #[.int .i64 0, .int .i64 0]) (t := 24) ?hr ?_; (case hd => rfl); (case hg => rfl); (case hr => first | (go_simp; done) | (go_simp; rfl)); intro gb269 hg w4 hbox hb; replace HO_3 := zM (Kd.R_below (Kd.R_elderB (rl_ HO_3) gb269 (Nat.le_of_eq hg.symm)) hb); have BK269 := zM (hbox); have GW269 := zM (bs_ hg); have GE269 := zM (bs_ hg); replace HB := zM (zB bel_ hb); clear hb hbox hg; have hcz5_0 : w4.cell? ⟨gb269, 0, none⟩ = some (.int .i64 0) := (zL BK269.out 0).trans rfl; have hcz5_1 : w4.cell? ⟨gb269, 1, none⟩ = some (.int .i64 0) := (zL BK269.out 1).trans rfl; have hfz5_0 := zF BK269.out 0; have hfz5_1 := zF BK269.out 1))
    go_loopg [5, 12] k1 (fun kq v5 v12 w' => ∃ (x5_2 : Bool) (x12_2 : Int) (x270000_2 : Int) (x270001_2 : Int), v5 = .bool x5_2 ∧ v12 = .int .i64 x12_2 ∧ Aside0 (ropewayref16_sorted.l1 kq l0 x3_1 x5_2 l0 (l0.length : Int) x12_2 x270000_2 x270001_2 = some r) ∧ Aside0 (kq ≤ k1) ∧ Aside0 (Kd.R k24 24 w' w.heap.size (fun k_ => k_ ≠ gb269) u3 x3_1) ∧ Aside0 (w'.heap[gb269]? = some (.cells #[.int .i64 x270000_2, .int .i64 x270001_2] 24 (0, 0))) ∧ Aside0 (Below w.heap.size w w'))
    case atStart => exact ⟨(false), (0), (0), (0), (by first | rfl | (simp; done) | (simp [*]; done) | (simp; grind)), (by first | rfl | (simp; done) | (simp [*]; done) | (simp; grind)), H', ⟨Nat.le_refl _⟩, ⟨by (with_reducible repeat (first | apply Kd.R_alloc | apply Kd.R_drewN | apply Kd.R_drew)); exact Kd.R_mono (Kd.R_far (p := ⟨gb269, 1, none⟩) (Kd.R_far (p := ⟨gb269, 0, none⟩) (Kd.R_mono HO_3.out (fun k_ hk => (⟨hk, hk.2⟩ : _ ∧ k_ ≠ gb269))) (fun _ hk => hk.2) (.int .i64 0)) (fun _ hk => hk.2) (.int .i64 0)) (fun _ hk => hk.1.2)⟩, ⟨by (with_reducible repeat (first | refine zN ?_ _ | refine zD ?_ | refine zA ?_ _)); refine blk_put (cs := #[.int .i64 0, .int .i64 0]) ?_ 1 _ rfl; (with_reducible repeat (first | refine zN ?_ _ | refine zD ?_ | refine zA ?_ _)); refine blk_put (cs := #[.int .i64 0, .int .i64 0]) ?_ 0 _ rfl; (with_reducible repeat (first | refine zN ?_ _ | refine zD ?_ | refine zA ?_ _)); exact BK269.out⟩, ⟨bel_⟩⟩
    case round =>
     clear H'
     try clear c2
     try clear p2
     try clear hcz5_0
     try clear hcz5_1
     try clear hfz5_0
     try clear hfz5_1
     try clear p2
     obtain ⟨x5_2, x12_2, x270000_2, x270001_2, rfl, rfl, HA, HK2, HO_3, BK269, HB⟩ := hrel
     cases gk with
     | zero => exact absurd HA.out (by simp [ropewayref16_sorted.l1])
     | succ k2 =>
      have H := HA.out
      clear HA
      simp only [ropewayref16_sorted.l1] at H
      by_cases c6 : x12_2 < (l0.length : Int)
      rotate_left
      · rw [if_neg c6] at H
        have c6b0 : decide (x12_2 < (l0.length : Int)) = false := decide_eq_false c6
        clear c6
        by_cases c79 : x5_2 = true
        rotate_left
        · replace c79 := Bool.eq_false_iff.mpr c79
          subst c79
          have H1 : (some x3_1) = some r := by rw [if_neg (show ¬ (false = true) by decide)] at H; exact H
          clear H
          have H := H1
          clear H1
          obtain rfl := Option.some.inj H
          go_wp2
          go_ret
          exact ⟨_, by first | rfl | (simp [errW_none, errW_some] <;> rfl) | (simp [*, errW_none, errW_some] <;> rfl), by (with_reducible repeat (first | apply Kd.R_alloc | apply Kd.R_drewN | apply Kd.R_drew)); exact Kd.R_mono HO_3.out (fun _ hk => trivial), bel_⟩
        subst c79
        have H1 : (if x3_1.length < 8796093022208 then (ropewayref16_sorted.l0 k2 l0 (x3_1 ++ [(⟨x270000_2, x270001_2⟩ : S24)])) else (none)) = some r := by rw [if_pos rfl] at H; exact H
        clear H
        have H := H1
        clear H1
        by_cases c80 : x3_1.length < 8796093022208
        rotate_left
        · rw [if_neg c80] at H
          exact absurd H (by simp)
        rw [if_pos c80] at H
        have LMc80 := zM c80
        clear c80
        obtain ⟨y270, hy270⟩ : ∃ y_ : List (S24), y_ = (x3_1 ++ [(⟨x270000_2, x270001_2⟩ : S24)]) := ⟨_, rfl⟩
        replace H : (ropewayref16_sorted.l0 k2 l0 y270) = some r := by first | (rw [hy270]; with_reducible exact H) | (have H2_ := (Option.bind_some _ _).symm.trans H; rw [hy270]; with_reducible exact H2_) | (have H2_ := (Option.bind_some _ _).symm.trans H; with_reducible exact H2_) | with_reducible exact H | (rw [hy270]; exact H) | exact H
        have Ny270 := zM hy270
        clear hy270
        have H' := zM H
        clear H
        have hcz81_0 : wr.cell? ⟨gb269, 0, none⟩ = some (.int .i64 x270000_2) := (zL BK269.out 0).trans rfl
        have hcz81_1 : wr.cell? ⟨gb269, 1, none⟩ = some (.int .i64 x270001_2) := (zL BK269.out 1).trans rfl
        have hfz81_0 := zF BK269.out 0
        have hfz81_1 := zF BK269.out 1
        go_wp2_with (first | ((with_reducible refine gate_builtin (b := .append) (xs := #[.tmp 43, .tmp 45]) rfl ?_); (try (refine gate_guard (by rfl) ?_; dsimp only)); at_builtin; refine Kd.R_append k24 (w0 := w) w.heap.size rfl (.tmp 43) (.tmp 45) 22 24 (.agg #[(.int .i64 0), (.int .i64 0)]) 16 rfl Try.underlying22 info24 rfl (by decide) (by omega) u3 x3_1 (⟨x270000_2, x270001_2⟩ : S24) [.int .i64 x270000_2, .int .i64 x270001_2] (fun k_ => k_ ≠ gb269) (fun _ => False) rfl rfl ?aP (fun _ hk => hk.elim) ?aF ?aO ?aB ?aS ?aL ?_; (case aP => exact k24_mkM _ _ _ (⟨x270000_2, x270001_2⟩ : S24)); (case aB => exact bel_); (case aF => exact (fun k_ hk => Kd.freshB (g := gb269) (o := .cells #[.int .i64 x270000_2, .int .i64 x270001_2] 24 (0, 0)) blk_ k_ hk)); (case aO => exact (rl_ HO_3)); (case aS => exact (below_size bel_)); (case aL => have := LMc80.out; omega); intro v271 w82 ho hb hg hat; rw [← Ny270.out] at ho; replace BK269 := zM (blk_grown (g := gb269) (o := .cells #[.int .i64 x270000_2, .int .i64 x270001_2] 24 (0, 0)) blk_ hg (Kd.R_away HO_3.out (fun _ hk => hk))); replace HB := zM (hb); have HO272 := zM (ho); clear HO_3; clear ho hb hg hat))
        go_roundg k2
        case measure => have := HK1.out; have := HK2.out; omega
        case rel => exact ⟨(y270), H', ⟨by have := HK1.out; have := HK2.out; omega⟩, ⟨by (with_reducible repeat (first | apply Kd.R_alloc | apply Kd.R_drewN | apply Kd.R_drew)); exact Kd.R_mono HO272.out (fun _ hk => trivial)⟩, ⟨bel_⟩⟩
      rw [if_pos c6] at H
      have c6b0 : decide (x12_2 < (l0.length : Int)) = true := decide_eq_true c6
      clear c6
      by_cases c7 : 0 ≤ x12_2
      rotate_left
      · rw [if_neg c7] at H
        exact absurd H (by simp)
      rw [if_pos c7] at H
      have c7b0 : decide (0 ≤ x12_2) = true := decide_eq_true c7
      clear c7
      by_cases c8 : x12_2 < (l0.length : Int)
      rotate_left
      · rw [if_neg c8] at H
        exact absurd H (by simp)
      rw [if_pos c8] at H
      have c8b0 : decide (x12_2 < (l0.length : Int)) = true := decide_eq_true c8
      clear c8
      by_cases c9 : (x3_1.length : Int) = 0
      · rw [if_pos c9] at H
        have c9b0 : ((x3_1.length : Int) == 0) = true := beq_iff_eq.mpr c9
        have c9b1 : ((x3_1.length : Int) != 0) = false := bne_eq_false_iff_eq.mpr c9
        clear c9
        by_cases c10 : x5_2 = true
        rotate_left
        · replace c10 := Bool.eq_false_iff.mpr c10
          subst c10
          have H1 : (ropewayref16_sorted.l1 k2 l0 x3_1 true l0 (l0.length : Int) (wrap64 (x12_2 + 1)) ((rd_T24 l0 x12_2).f0) ((rd_T24 l0 x12_2).f1)) = some r := by rw [if_neg (show ¬ (false = true) by decide)] at H; exact H
          clear H
          have H := H1
          clear H1
          have H' := zM H
          clear H
          have p273 : 0 ≤ (x12_2 : Int) := of_decide_eq_true (by first | (with_reducible assumption) | assumption)
          have q273 : x12_2 < (l0.length : Int) := of_decide_eq_true (by first | (with_reducible assumption) | assumption)
          obtain ⟨ad273, e273, hx273_0, hx273_1⟩ := at_T24 HR0.out x12_2 p273 q273
          cases e273
          replace hx273_0 := (HB.out.cell (World.block_lt_of_cell? w _ hx273_0)).trans hx273_0
          replace hx273_1 := (HB.out.cell (World.block_lt_of_cell? w _ hx273_1)).trans hx273_1
          replace p273 := eq_true p273
          replace q273 := eq_true q273
          try go_wp2_with (first | ((with_reducible refine gate_dst (N := 7) rfl ?_); (try (refine gate_guard (by rfl) ?_; dsimp only)); refine box_event ?hg (N := 7) ?hd (cs := #[.int .i64 0, .int .i64 0]) (t := 24) ?hr ?_; (case hd => rfl); (case hg => rfl); (case hr => first | (go_simp; done) | (go_simp; rfl)); intro gb274 hg w29 hbox hb; replace HO_3 := zM (Kd.R_below (Kd.R_elderB (rl_ HO_3) gb274 (Nat.le_of_eq hg.symm)) hb); have BK274 := zM (hbox); have GW274 := zM (bs_ hg); have GE274 := zM (bs_ hg); replace HB := zM (zB bel_ hb); have NB269_274 := zM (nl_ BK269 hg); have NB274_269 := zM (ng_ BK269 hg); replace BK269 := zM (bb_ BK269 hb); clear hb hbox hg; have hnb30 := NB274_269.out; have hnc30 := NB269_274.out; have hcz31_0 : w29.cell? ⟨gb274, 0, none⟩ = some (.int .i64 0) := (zL BK274.out 0).trans rfl; have hcz31_1 : w29.cell? ⟨gb274, 1, none⟩ = some (.int .i64 0) := (zL BK274.out 1).trans rfl; have hfz31_0 := zF BK274.out 0; have hfz31_1 := zF BK274.out 1))
          replace HO_3 : Aside0 (Kd.R k24 24 ((w29.setCell ⟨gb274, 0, none⟩ (.int .i64 ((rd_T24 l0 x12_2).f0))).setCell ⟨gb274, 1, none⟩ (.int .i64 ((rd_T24 l0 x12_2).f1))) w.heap.size (fun k_ => k_ ≠ gb269 ∧ k_ ≠ gb274) u3 x3_1) := ⟨by (with_reducible repeat (first | apply Kd.R_alloc | apply Kd.R_drewN | apply Kd.R_drew)); exact Kd.R_mono (Kd.R_far (p := ⟨gb274, 1, none⟩) (Kd.R_far (p := ⟨gb274, 0, none⟩) (Kd.R_mono HO_3.out (fun k_ hk => (⟨hk, hk.2⟩ : _ ∧ k_ ≠ gb274))) (fun _ hk => hk.2) (.int .i64 ((rd_T24 l0 x12_2).f0))) (fun _ hk => hk.2) (.int .i64 ((rd_T24 l0 x12_2).f1))) (fun _ hk => ⟨hk.1.1, hk.1.2⟩)⟩
          replace BK269 : Aside0 (((w29.setCell ⟨gb274, 0, none⟩ (.int .i64 ((rd_T24 l0 x12_2).f0))).setCell ⟨gb274, 1, none⟩ (.int .i64 ((rd_T24 l0 x12_2).f1))).heap[gb269]? = some (.cells #[.int .i64 x270000_2, .int .i64 x270001_2] 24 (0, 0))) := ⟨blf_⟩
          replace BK274 : Aside0 (((w29.setCell ⟨gb274, 0, none⟩ (.int .i64 ((rd_T24 l0 x12_2).f0))).setCell ⟨gb274, 1, none⟩ (.int .i64 ((rd_T24 l0 x12_2).f1))).heap[gb274]? = some (.cells #[.int .i64 ((rd_T24 l0 x12_2).f0), .int .i64 ((rd_T24 l0 x12_2).f1)] 24 (0, 0))) := ⟨by (with_reducible repeat (first | refine zN ?_ _ | refine zD ?_ | refine zA ?_ _)); refine blk_put (cs := #[.int .i64 ((rd_T24 l0 x12_2).f0), .int .i64 0]) ?_ 1 _ rfl; (with_reducible repeat (first | refine zN ?_ _ | refine zD ?_ | refine zA ?_ _)); refine blk_put (cs := #[.int .i64 0, .int .i64 0]) ?_ 0 _ rfl; (with_reducible repeat (first | refine zN ?_ _ | refine zD ?_ | refine zA ?_ _)); exact BK274.out⟩
          replace HB : Aside0 (Below w.heap.size w ((w29.setCell ⟨gb274, 0, none⟩ (.int .i64 ((rd_T24 l0 x12_2).f0))).setCell ⟨gb274, 1, none⟩ (.int .i64 ((rd_T24 l0 x12_2).f1)))) := ⟨bel_⟩
          generalize ((w29.setCell ⟨gb274, 0, none⟩ (.int .i64 ((rd_T24 l0 x12_2).f0))).setCell ⟨gb274, 1, none⟩ (.int .i64 ((rd_T24 l0 x12_2).f1))) = w32 at HO_3 BK269 BK274 HB ⊢
          replace HO_3 := zM (Kd.R_drew HO_3.out)
          replace BK269 := zM (zD BK269.out)
          replace BK274 := zM (zD BK274.out)
          replace HB := zM (below_drew1 HB.out)
          obtain ⟨Ao34, co34, eo34⟩ := Kd.R_slice HO_3.out
          (first | subst eo34 | (injection eo34 with f1_ f2_ f3_; have f4_ := f1_.symm; have f5_ := f3_.symm; clear f1_ f2_ f3_; subst f4_; subst f5_))
          refine start_ (n := 22) (S := fun w' => True) (ds := []) #[F_, F_, F_, F_, F_, F_, F_, F_, F_, F_, F_, F_, F_, F_, F_, F_, F_, F_, F_, F_, F_, F_] (by kernel_rfl) rfl rfl trivial (fun hHeld => ?_); refine with_tabW ropewayref16_sorted.tab6 ropewayref16_sorted.bits6 (fun HT_ HW_ => ?_)
          generalize w32.drew = w33 at HO_3 BK269 BK274 HB hHeld ⊢
          refine pure_ (i := 0) (N := some 16) (v := ?_) (a' := ?_) #[T_, F_, F_, F_, F_, F_, F_, F_, F_, F_, F_, F_, F_, F_, F_, F_, F_, F_, F_, F_, F_, F_] rfl rfl (any_of HT_.out (by kernel_rfl)) (fun _ _ _ h => h) (Or.inl ⟨by rfl, ?_⟩) ?_ ?_
          rotate_left
          · intro w'
            go_simp
            with_reducible rfl
          rotate_left
          · simp only [Act.put, zS, zZ, zC, i64_w, i32_w]
            rfl
          refine pure_ (i := 1) (N := some 17) (v := ?_) (a' := ?_) #[T_, T_, F_, F_, F_, F_, F_, F_, F_, F_, F_, F_, F_, F_, F_, F_, F_, F_, F_, F_, F_, F_] rfl rfl (any_of HT_.out (by kernel_rfl)) (fun _ _ _ h => h) (Or.inl ⟨by rfl, ?_⟩) ?_ ?_
          rotate_left
          · intro w'
            go_simp
            with_reducible rfl
          rotate_left
          · simp only [Act.put, zS, zZ, zC, i64_w, i32_w]
            rfl
          refine pure_ (i := 2) (N := some 18) (v := ?_) (a' := ?_) #[T_, T_, T_, F_, F_, F_, F_, F_, F_, F_, F_, F_, F_, F_, F_, F_, F_, F_, F_, F_, F_, F_] rfl rfl (any_of HT_.out (by kernel_rfl)) (fun _ _ _ h => h) (Or.inl ⟨by rfl, ?_⟩) ?_ ?_
          rotate_left
          · intro w'
            go_simp
            with_reducible rfl
          rotate_left
          · simp only [Act.put, zS, zZ, zC, i64_w, i32_w]
            rfl
          refine pure_ (i := 3) (N := some 19) (v := ?_) (a' := ?_) #[T_, T_, T_, T_, F_, F_, F_, F_, F_, F_, F_, F_, F_, F_, F_, F_, F_, F_, F_, F_, F_, F_] rfl rfl (any_of HT_.out (by kernel_rfl)) (fun _ _ _ h => h) (Or.inl ⟨by rfl, ?_⟩) ?_ ?_
          rotate_left
          · intro w'
            go_simp
            with_reducible rfl
          rotate_left
          · simp only [Act.put, zS, zZ, zC, i64_w, i32_w]
            rfl
          refine pure_ (i := 4) (N := some 20) (v := undef) (a' := ?_) #[T_, T_, T_, T_, T_, F_, F_, F_, F_, F_, F_, F_, F_, F_, F_, F_, F_, F_, F_, F_, F_, F_] rfl rfl (any_of HT_.out (by kernel_rfl)) (fun _ _ _ h => h) (Or.inr ⟨by rfl, rfl⟩) ?_ ?_
          rotate_left
          · simp only [Act.put, zS, zZ, zC, i64_w, i32_w]
            rfl
          refine pure_ (i := 5) (N := some 21) (v := undef) (a' := ?_) #[T_, T_, T_, T_, T_, T_, F_, F_, F_, F_, F_, F_, F_, F_, F_, F_, F_, F_, F_, F_, F_, F_] rfl rfl (any_of HT_.out (by kernel_rfl)) (fun _ _ _ h => h) (Or.inr ⟨by rfl, rfl⟩) ?_ ?_
          rotate_left
          · simp only [Act.put, zS, zZ, zC, i64_w, i32_w]
            rfl
          refine pure_ (i := 6) (N := some 22) (v := undef) (a' := ?_) #[T_, T_, T_, T_, T_, T_, T_, F_, F_, F_, F_, F_, F_, F_, F_, F_, F_, F_, F_, F_, F_, F_] rfl rfl (any_of HT_.out (by kernel_rfl)) (fun _ _ _ h => h) (Or.inr ⟨by rfl, rfl⟩) ?_ ?_
          rotate_left
          · simp only [Act.put, zS, zZ, zC, i64_w, i32_w]
            rfl
          refine pure_ (i := 7) (N := some 23) (v := undef) (a' := ?_) #[T_, T_, T_, T_, T_, T_, T_, T_, F_, F_, F_, F_, F_, F_, F_, F_, F_, F_, F_, F_, F_, F_] rfl rfl (any_of HT_.out (by kernel_rfl)) (fun _ _ _ h => h) (Or.inr ⟨by rfl, rfl⟩) ?_ ?_
          rotate_left
          · simp only [Act.put, zS, zZ, zC, i64_w, i32_w]
            rfl
          refine pure_ (i := 8) (N := some 24) (v := undef) (a' := ?_) #[T_, T_, T_, T_, T_, T_, T_, T_, T_, F_, F_, F_, F_, F_, F_, F_, F_, F_, F_, F_, F_, F_] rfl rfl (any_of HT_.out (by kernel_rfl)) (fun _ _ _ h => h) (Or.inr ⟨by rfl, rfl⟩) ?_ ?_
          rotate_left
          · simp only [Act.put, zS, zZ, zC, i64_w, i32_w]
            rfl
          refine pure_ (i := 9) (N := some 25) (v := undef) (a' := ?_) #[T_, T_, T_, T_, T_, T_, T_, T_, T_, T_, F_, F_, F_, F_, F_, F_, F_, F_, F_, F_, F_, F_] rfl rfl (any_of HT_.out (by kernel_rfl)) (fun _ _ _ h => h) (Or.inr ⟨by rfl, rfl⟩) ?_ ?_
          rotate_left
          · simp only [Act.put, zS, zZ, zC, i64_w, i32_w]
            rfl
          refine pure_ (i := 10) (N := some 26) (v := undef) (a' := ?_) #[T_, T_, T_, T_, T_, T_, T_, T_, T_, T_, T_, F_, F_, F_, F_, F_, F_, F_, F_, F_, F_, F_] rfl rfl (any_of HT_.out (by kernel_rfl)) (fun _ _ _ h => h) (Or.inr ⟨by rfl, rfl⟩) ?_ ?_
          rotate_left
          · simp only [Act.put, zS, zZ, zC, i64_w, i32_w]
            rfl
          refine pure_ (i := 11) (N := some 27) (v := undef) (a' := ?_) #[T_, T_, T_, T_, T_, T_, T_, T_, T_, T_, T_, T_, F_, F_, F_, F_, F_, F_, F_, F_, F_, F_] rfl rfl (any_of HT_.out (by kernel_rfl)) (fun _ _ _ h => h) (Or.inr ⟨by rfl, rfl⟩) ?_ ?_
          rotate_left
          · simp only [Act.put, zS, zZ, zC, i64_w, i32_w]
            rfl
          refine pure_ (i := 12) (N := some 28) (v := ?_) (a' := ?_) #[T_, T_, T_, T_, T_, T_, T_, T_, T_, T_, T_, T_, T_, F_, F_, F_, F_, F_, F_, F_, F_, F_] rfl rfl (any_of HT_.out (by kernel_rfl)) (fun _ _ _ h => h) (Or.inl ⟨by rfl, ?_⟩) ?_ ?_
          rotate_left
          · intro w'
            go_simp
            with_reducible rfl
          rotate_left
          · simp only [Act.put, zS, zZ, zC, i64_w, i32_w]
            rfl
          refine pure_ (i := 13) (N := some 29) (v := ?_) (a' := ?_) #[T_, T_, T_, T_, T_, T_, T_, T_, T_, T_, T_, T_, T_, T_, F_, F_, F_, F_, F_, F_, F_, F_] rfl rfl (any_of HT_.out (by kernel_rfl)) (fun _ _ _ h => h) (Or.inl ⟨by rfl, ?_⟩) ?_ ?_
          rotate_left
          · intro w'
            go_simp
            with_reducible rfl
          rotate_left
          · simp only [Act.put, zS, zZ, zC, i64_w, i32_w]
            rfl
          refine pure_ (i := 14) (N := some 30) (v := ?_) (a' := ?_) #[T_, T_, T_, T_, T_, T_, T_, T_, T_, T_, T_, T_, T_, T_, T_, F_, F_, F_, F_, F_, F_, F_] rfl rfl (any_of HT_.out (by kernel_rfl)) (fun _ _ _ h => h) (Or.inl ⟨by rfl, ?_⟩) ?_ ?_
          rotate_left
          · intro w'
            go_simp
            with_reducible rfl
          rotate_left
          · simp only [Act.put, zS, zZ, zC, i64_w, i32_w]
            rfl
          refine pure_ (i := 15) (N := some 31) (v := ?_) (a' := ?_) #[T_, T_, T_, T_, T_, T_, T_, T_, T_, T_, T_, T_, T_, T_, T_, T_, F_, F_, F_, F_, F_, F_] rfl rfl (any_of HT_.out (by kernel_rfl)) (fun _ _ _ h => h) (Or.inl ⟨by rfl, ?_⟩) ?_ ?_
          rotate_left
          · intro w'
            go_simp
            with_reducible rfl
          rotate_left
          · simp only [Act.put, zS, zZ, zC, i64_w, i32_w]
            rfl
          refine pure_ (i := 16) (N := some 32) (v := ?_) (a' := ?_) #[T_, T_, T_, T_, T_, T_, T_, T_, T_, T_, T_, T_, T_, T_, T_, T_, T_, F_, F_, F_, F_, F_] rfl rfl (any_of HT_.out (by kernel_rfl)) (fun _ _ _ h => h) (Or.inl ⟨by rfl, ?_⟩) ?_ ?_
          rotate_left
          · intro w'
            go_simp
            with_reducible rfl
          rotate_left
          · simp only [Act.put, zS, zZ, zC, i64_w, i32_w]
            rfl
          refine pure_ (i := 17) (N := some 33) (v := undef) (a' := ?_) #[T_, T_, T_, T_, T_, T_, T_, T_, T_, T_, T_, T_, T_, T_, T_, T_, T_, T_, F_, F_, F_, F_] rfl rfl (any_of HT_.out (by kernel_rfl)) (fun _ _ _ h => h) (Or.inr ⟨by rfl, rfl⟩) ?_ ?_
          rotate_left
          · simp only [Act.put, zS, zZ, zC, i64_w, i32_w]
            rfl
          refine pure_ (i := 18) (N := some 34) (v := undef) (a' := ?_) #[T_, T_, T_, T_, T_, T_, T_, T_, T_, T_, T_, T_, T_, T_, T_, T_, T_, T_, T_, F_, F_, F_] rfl rfl (any_of HT_.out (by kernel_rfl)) (fun _ _ _ h => h) (Or.inr ⟨by rfl, rfl⟩) ?_ ?_
          rotate_left
          · simp only [Act.put, zS, zZ, zC, i64_w, i32_w]
            rfl
          refine pure_ (i := 19) (N := some 35) (v := undef) (a' := ?_) #[T_, T_, T_, T_, T_, T_, T_, T_, T_, T_, T_, T_, T_, T_, T_, T_, T_, T_, T_, T_, F_, F_] rfl rfl (any_of HT_.out (by kernel_rfl)) (fun _ _ _ h => h) (Or.inr ⟨by rfl, rfl⟩) ?_ ?_
          rotate_left
          · simp only [Act.put, zS, zZ, zC, i64_w, i32_w]
            rfl
          refine pure_ (i := 20) (N := some 36) (v := ?_) (a' := ?_) #[T_, T_, T_, T_, T_, T_, T_, T_, T_, T_, T_, T_, T_, T_, T_, T_, T_, T_, T_, T_, T_, F_] rfl rfl (any_of HT_.out (by kernel_rfl)) (fun _ _ _ h => h) (Or.inl ⟨by rfl, ?_⟩) ?_ ?_
          rotate_left
          · intro w'
            go_simp
            with_reducible rfl
          rotate_left
          · simp only [Act.put, zS, zZ, zC, i64_w, i32_w]
            rfl
          refine pure_ (i := 21) (N := some 37) (v := ?_) (a' := ?_) #[T_, T_, T_, T_, T_, T_, T_, T_, T_, T_, T_, T_, T_, T_, T_, T_, T_, T_, T_, T_, T_, T_] rfl rfl (any_of HT_.out (by kernel_rfl)) (fun _ _ _ h => h) (Or.inl ⟨by rfl, ?_⟩) ?_ ?_
          rotate_left
          · intro w'
            go_simp
            with_reducible rfl
          rotate_left
          · simp only [Act.put, zS, zZ, zC, i64_w, i32_w]
            rfl
          refine done_ (done_of HT_.out (by kernel_rfl)) ?_
          have hcz35_0 : w33.cell? ⟨gb274, 0, none⟩ = some (.int .i64 ((rd_T24 l0 x12_2).f0)) := (zL BK274.out 0).trans rfl
          have hcz35_1 : w33.cell? ⟨gb274, 1, none⟩ = some (.int .i64 ((rd_T24 l0 x12_2).f1)) := (zL BK274.out 1).trans rfl
          have hfz35_0 := zF BK274.out 0
          have hfz35_1 := zF BK274.out 1
          have hcz36_0 : w33.cell? ⟨gb269, 0, none⟩ = some (.int .i64 x270000_2) := (zL BK269.out 0).trans rfl
          have hcz36_1 : w33.cell? ⟨gb269, 1, none⟩ = some (.int .i64 x270001_2) := (zL BK269.out 1).trans rfl
          have hfz36_0 := zF BK269.out 0
          have hfz36_1 := zF BK269.out 1
          try go_wp2
          go_roundg k2
          case measure => have := HK1.out; have := HK2.out; omega
          case rel => exact ⟨(true), (wrap64 (x12_2 + 1)), ((rd_T24 l0 x12_2).f0), ((rd_T24 l0 x12_2).f1), (by first | rfl | (simp; done) | (simp [*]; done) | (simp; grind)), (by first | rfl | (simp; done) | (simp [*]; done) | (simp; grind)), H', ⟨by have := HK1.out; have := HK2.out; omega⟩, ⟨by (with_reducible repeat (first | apply Kd.R_alloc | apply Kd.R_drewN | apply Kd.R_drew)); exact Kd.R_mono (Kd.R_far (p := ⟨gb269, 1, none⟩) (Kd.R_far (p := ⟨gb269, 0, none⟩) (Kd.R_mono HO_3.out (fun k_ hk => (⟨hk, hk.1⟩ : _ ∧ k_ ≠ gb269))) (fun _ hk => hk.2) (.int .i64 ((rd_T24 l0 x12_2).f0))) (fun _ hk => hk.2) (.int .i64 ((rd_T24 l0 x12_2).f1))) (fun _ hk => hk.1.1)⟩, ⟨by (with_reducible repeat (first | refine zN ?_ _ | refine zD ?_ | refine zA ?_ _)); refine blk_put (cs := #[.int .i64 ((rd_T24 l0 x12_2).f0), .int .i64 x270001_2]) ?_ 1 _ rfl; (with_reducible repeat (first | refine zN ?_ _ | refine zD ?_ | refine zA ?_ _)); refine blk_put (cs := #[.int .i64 x270000_2, .int .i64 x270001_2]) ?_ 0 _ rfl; (with_reducible repeat (first | refine zN ?_ _ | refine zD ?_ | refine zA ?_ _)); exact BK269.out⟩, ⟨bel_⟩⟩
        subst c10
        have H1 : ((ropewayref05_Less.f k2 ((rd_T24 l0 x12_2).f0) ((rd_T24 l0 x12_2).f1) x270000_2 x270001_2).bind fun t275 => (if t275 = true then (ropewayref16_sorted.l1 k2 l0 x3_1 true l0 (l0.length : Int) (wrap64 (x12_2 + 1)) ((rd_T24 l0 x12_2).f0) ((rd_T24 l0 x12_2).f1)) else (ropewayref16_sorted.l1 k2 l0 x3_1 true l0 (l0.length : Int) (wrap64 (x12_2 + 1)) x270000_2 x270001_2))) = some r := by rw [if_pos rfl] at H; exact H
        clear H
        have H := H1
        clear H1
        replace H := Option.bind_eq_some_iff.mp H
        obtain ⟨t275, A110, H⟩ := H
        replace H : (if t275 = true then (ropewayref16_sorted.l1 k2 l0 x3_1 true l0 (l0.length : Int) (wrap64 (x12_2 + 1)) ((rd_T24 l0 x12_2).f0) ((rd_T24 l0 x12_2).f1)) else (ropewayref16_sorted.l1 k2 l0 x3_1 true l0 (l0.length : Int) (wrap64 (x12_2 + 1)) x270000_2 x270001_2)) = some r := H
        have A11 := zM A110
        clear A110
        by_cases c12 : t275 = true
        rotate_left
        · replace c12 := Bool.eq_false_iff.mpr c12
          subst c12
          have H1 : (ropewayref16_sorted.l1 k2 l0 x3_1 true l0 (l0.length : Int) (wrap64 (x12_2 + 1)) x270000_2 x270001_2) = some r := by rw [if_neg (show ¬ (false = true) by decide)] at H; exact H
          clear H
          have H := H1
          clear H1
          have H' := zM H
          clear H
          have p273 : 0 ≤ (x12_2 : Int) := of_decide_eq_true (by first | (with_reducible assumption) | assumption)
          have q273 : x12_2 < (l0.length : Int) := of_decide_eq_true (by first | (with_reducible assumption) | assumption)
          obtain ⟨ad273, e273, hx273_0, hx273_1⟩ := at_T24 HR0.out x12_2 p273 q273
          cases e273
          replace hx273_0 := (HB.out.cell (World.block_lt_of_cell? w _ hx273_0)).trans hx273_0
          replace hx273_1 := (HB.out.cell (World.block_lt_of_cell? w _ hx273_1)).trans hx273_1
          replace p273 := eq_true p273
          replace q273 := eq_true q273
          try go_wp2_with (first | ((with_reducible refine gate_dst (N := 7) rfl ?_); (try (refine gate_guard (by rfl) ?_; dsimp only)); refine box_event ?hg (N := 7) ?hd (cs := #[.int .i64 0, .int .i64 0]) (t := 24) ?hr ?_; (case hd => rfl); (case hg => rfl); (case hr => first | (go_simp; done) | (go_simp; rfl)); intro gb274 hg w22 hbox hb; replace HO_3 := zM (Kd.R_below (Kd.R_elderB (rl_ HO_3) gb274 (Nat.le_of_eq hg.symm)) hb); have BK274 := zM (hbox); have GW274 := zM (bs_ hg); have GE274 := zM (bs_ hg); replace HB := zM (zB bel_ hb); have NB269_274 := zM (nl_ BK269 hg); have NB274_269 := zM (ng_ BK269 hg); replace BK269 := zM (bb_ BK269 hb); clear hb hbox hg; have hnb23 := NB274_269.out; have hnc23 := NB269_274.out; have hcz24_0 : w22.cell? ⟨gb274, 0, none⟩ = some (.int .i64 0) := (zL BK274.out 0).trans rfl; have hcz24_1 : w22.cell? ⟨gb274, 1, none⟩ = some (.int .i64 0) := (zL BK274.out 1).trans rfl; have hfz24_0 := zF BK274.out 0; have hfz24_1 := zF BK274.out 1))
          replace HO_3 : Aside0 (Kd.R k24 24 ((w22.setCell ⟨gb274, 0, none⟩ (.int .i64 ((rd_T24 l0 x12_2).f0))).setCell ⟨gb274, 1, none⟩ (.int .i64 ((rd_T24 l0 x12_2).f1))) w.heap.size (fun k_ => k_ ≠ gb269 ∧ k_ ≠ gb274) u3 x3_1) := ⟨by (with_reducible repeat (first | apply Kd.R_alloc | apply Kd.R_drewN | apply Kd.R_drew)); exact Kd.R_mono (Kd.R_far (p := ⟨gb274, 1, none⟩) (Kd.R_far (p := ⟨gb274, 0, none⟩) (Kd.R_mono HO_3.out (fun k_ hk => (⟨hk, hk.2⟩ : _ ∧ k_ ≠ gb274))) (fun _ hk => hk.2) (.int .i64 ((rd_T24 l0 x12_2).f0))) (fun _ hk => hk.2) (.int .i64 ((rd_T24 l0 x12_2).f1))) (fun _ hk => ⟨hk.1.1, hk.1.2⟩)⟩
          replace BK269 : Aside0 (((w22.setCell ⟨gb274, 0, none⟩ (.int .i64 ((rd_T24 l0 x12_2).f0))).setCell ⟨gb274, 1, none⟩ (.int .i64 ((rd_T24 l0 x12_2).f1))).heap[gb269]? = some (.cells #[.int .i64 x270000_2, .int .i64 x270001_2] 24 (0, 0))) := ⟨blf_⟩
          replace BK274 : Aside0 (((w22.setCell ⟨gb274, 0, none⟩ (.int .i64 ((rd_T24 l0 x12_2).f0))).setCell ⟨gb274, 1, none⟩ (.int .i64 ((rd_T24 l0 x12_2).f1))).heap[gb274]? = some (.cells #[.int .i64 ((rd_T24 l0 x12_2).f0), .int .i64 ((rd_T24 l0 x12_2).f1)] 24 (0, 0))) := ⟨by (with_reducible repeat (first | refine zN ?_ _ | refine zD ?_ | refine zA ?_ _)); refine blk_put (cs := #[.int .i64 ((rd_T24 l0 x12_2).f0), .int .i64 0]) ?_ 1 _ rfl; (with_reducible repeat (first | refine zN ?_ _ | refine zD ?_ | refine zA ?_ _)); refine blk_put (cs := #[.int .i64 0, .int .i64 0]) ?_ 0 _ rfl; (with_reducible repeat (first | refine zN ?_ _ | refine zD ?_ | refine zA ?_ _)); exact BK274.out⟩
          replace HB : Aside0 (Below w.heap.size w ((w22.setCell ⟨gb274, 0, none⟩ (.int .i64 ((rd_T24 l0 x12_2).f0))).setCell ⟨gb274, 1, none⟩ (.int .i64 ((rd_T24 l0 x12_2).f1)))) := ⟨bel_⟩
          generalize ((w22.setCell ⟨gb274, 0, none⟩ (.int .i64 ((rd_T24 l0 x12_2).f0))).setCell ⟨gb274, 1, none⟩ (.int .i64 ((rd_T24 l0 x12_2).f1))) = w25 at HO_3 BK269 BK274 HB ⊢
          replace HO_3 := zM (Kd.R_drew HO_3.out)
          replace BK269 := zM (zD BK269.out)
          replace BK274 := zM (zD BK274.out)
          replace HB := zM (below_drew1 HB.out)
          obtain ⟨Ao27, co27, eo27⟩ := Kd.R_slice HO_3.out
          (first | subst eo27 | (injection eo27 with f1_ f2_ f3_; have f4_ := f1_.symm; have f5_ := f3_.symm; clear f1_ f2_ f3_; subst f4_; subst f5_))
          refine start_ (n := 22) (S := fun w' => w'.cell? ⟨gb274, 0, none⟩ = some (.int .i64 ((rd_T24 l0 x12_2).f0)) ∧ w'.cell? ⟨gb274, 1, none⟩ = some (.int .i64 ((rd_T24 l0 x12_2).f1)) ∧ w'.cell? ⟨gb269, 0, none⟩ = some (.int .i64 x270000_2) ∧ w'.cell? ⟨gb269, 1, none⟩ = some (.int .i64 x270001_2)) (ds := []) #[F_, F_, F_, F_, F_, F_, F_, F_, F_, F_, F_, F_, F_, F_, F_, F_, F_, F_, F_, F_, F_, F_] (by kernel_rfl) rfl rfl ⟨(zL BK274.out 0).trans rfl, (zL BK274.out 1).trans rfl, (zL BK269.out 0).trans rfl, (zL BK269.out 1).trans rfl⟩ (fun hHeld => ?_); refine with_tabW ropewayref16_sorted.tab6 ropewayref16_sorted.bits6 (fun HT_ HW_ => ?_)
          generalize w25.drew = w26 at HO_3 BK269 BK274 HB hHeld ⊢
          refine pure_ (i := 0) (N := some 16) (v := ?_) (a' := ?_) #[T_, F_, F_, F_, F_, F_, F_, F_, F_, F_, F_, F_, F_, F_, F_, F_, F_, F_, F_, F_, F_, F_] rfl rfl (any_of HT_.out (by kernel_rfl)) (fun _ _ _ h => h) (Or.inl ⟨by rfl, ?_⟩) ?_ ?_
          rotate_left
          · intro w'
            go_simp
            with_reducible rfl
          rotate_left
          · simp only [Act.put, zS, zZ, zC, i64_w, i32_w]
            rfl
          refine pure_ (i := 1) (N := some 17) (v := ?_) (a' := ?_) #[T_, T_, F_, F_, F_, F_, F_, F_, F_, F_, F_, F_, F_, F_, F_, F_, F_, F_, F_, F_, F_, F_] rfl rfl (any_of HT_.out (by kernel_rfl)) (fun _ _ _ h => h) (Or.inl ⟨by rfl, ?_⟩) ?_ ?_
          rotate_left
          · intro w'
            go_simp
            with_reducible rfl
          rotate_left
          · simp only [Act.put, zS, zZ, zC, i64_w, i32_w]
            rfl
          refine pure_ (i := 2) (N := some 18) (v := ?_) (a' := ?_) #[T_, T_, T_, F_, F_, F_, F_, F_, F_, F_, F_, F_, F_, F_, F_, F_, F_, F_, F_, F_, F_, F_] rfl rfl (any_of HT_.out (by kernel_rfl)) (fun _ _ _ h => h) (Or.inl ⟨by rfl, ?_⟩) ?_ ?_
          rotate_left
          · intro w'
            go_simp
            with_reducible rfl
          rotate_left
          · simp only [Act.put, zS, zZ, zC, i64_w, i32_w]
            rfl
          refine pure_ (i := 3) (N := some 19) (v := ?_) (a' := ?_) #[T_, T_, T_, T_, F_, F_, F_, F_, F_, F_, F_, F_, F_, F_, F_, F_, F_, F_, F_, F_, F_, F_] rfl rfl (any_of HT_.out (by kernel_rfl)) (fun _ _ _ h => h) (Or.inl ⟨by rfl, ?_⟩) ?_ ?_
          rotate_left
          · intro w'
            go_simp
            with_reducible rfl
          rotate_left
          · simp only [Act.put, zS, zZ, zC, i64_w, i32_w]
            rfl
          refine pure_ (i := 4) (N := some 20) (v := undef) (a' := ?_) #[T_, T_, T_, T_, T_, F_, F_, F_, F_, F_, F_, F_, F_, F_, F_, F_, F_, F_, F_, F_, F_, F_] rfl rfl (any_of HT_.out (by kernel_rfl)) (fun _ _ _ h => h) (Or.inr ⟨by rfl, rfl⟩) ?_ ?_
          rotate_left
          · simp only [Act.put, zS, zZ, zC, i64_w, i32_w]
            rfl
          refine pure_ (i := 5) (N := some 21) (v := undef) (a' := ?_) #[T_, T_, T_, T_, T_, T_, F_, F_, F_, F_, F_, F_, F_, F_, F_, F_, F_, F_, F_, F_, F_, F_] rfl rfl (any_of HT_.out (by kernel_rfl)) (fun _ _ _ h => h) (Or.inr ⟨by rfl, rfl⟩) ?_ ?_
          rotate_left
          · simp only [Act.put, zS, zZ, zC, i64_w, i32_w]
            rfl
          refine pure_ (i := 6) (N := some 22) (v := undef) (a' := ?_) #[T_, T_, T_, T_, T_, T_, T_, F_, F_, F_, F_, F_, F_, F_, F_, F_, F_, F_, F_, F_, F_, F_] rfl rfl (any_of HT_.out (by kernel_rfl)) (fun _ _ _ h => h) (Or.inr ⟨by rfl, rfl⟩) ?_ ?_
          rotate_left
          · simp only [Act.put, zS, zZ, zC, i64_w, i32_w]
            rfl
          refine pure_ (i := 7) (N := some 23) (v := undef) (a' := ?_) #[T_, T_, T_, T_, T_, T_, T_, T_, F_, F_, F_, F_, F_, F_, F_, F_, F_, F_, F_, F_, F_, F_] rfl rfl (any_of HT_.out (by kernel_rfl)) (fun _ _ _ h => h) (Or.inr ⟨by rfl, rfl⟩) ?_ ?_
          rotate_left
          · simp only [Act.put, zS, zZ, zC, i64_w, i32_w]
            rfl
          refine pure_ (i := 8) (N := some 24) (v := undef) (a' := ?_) #[T_, T_, T_, T_, T_, T_, T_, T_, T_, F_, F_, F_, F_, F_, F_, F_, F_, F_, F_, F_, F_, F_] rfl rfl (any_of HT_.out (by kernel_rfl)) (fun _ _ _ h => h) (Or.inr ⟨by rfl, rfl⟩) ?_ ?_
          rotate_left
          · simp only [Act.put, zS, zZ, zC, i64_w, i32_w]
            rfl
          refine pure_ (i := 9) (N := some 25) (v := undef) (a' := ?_) #[T_, T_, T_, T_, T_, T_, T_, T_, T_, T_, F_, F_, F_, F_, F_, F_, F_, F_, F_, F_, F_, F_] rfl rfl (any_of HT_.out (by kernel_rfl)) (fun _ _ _ h => h) (Or.inr ⟨by rfl, rfl⟩) ?_ ?_
          rotate_left
          · simp only [Act.put, zS, zZ, zC, i64_w, i32_w]
            rfl
          refine pure_ (i := 10) (N := some 26) (v := undef) (a' := ?_) #[T_, T_, T_, T_, T_, T_, T_, T_, T_, T_, T_, F_, F_, F_, F_, F_, F_, F_, F_, F_, F_, F_] rfl rfl (any_of HT_.out (by kernel_rfl)) (fun _ _ _ h => h) (Or.inr ⟨by rfl, rfl⟩) ?_ ?_
          rotate_left
          · simp only [Act.put, zS, zZ, zC, i64_w, i32_w]
            rfl
          refine pure_ (i := 11) (N := some 27) (v := undef) (a' := ?_) #[T_, T_, T_, T_, T_, T_, T_, T_, T_, T_, T_, T_, F_, F_, F_, F_, F_, F_, F_, F_, F_, F_] rfl rfl (any_of HT_.out (by kernel_rfl)) (fun _ _ _ h => h) (Or.inr ⟨by rfl, rfl⟩) ?_ ?_
          rotate_left
          · simp only [Act.put, zS, zZ, zC, i64_w, i32_w]
            rfl
          refine pure_ (i := 12) (N := some 28) (v := ?_) (a' := ?_) #[T_, T_, T_, T_, T_, T_, T_, T_, T_, T_, T_, T_, T_, F_, F_, F_, F_, F_, F_, F_, F_, F_] rfl rfl (any_of HT_.out (by kernel_rfl)) (fun _ _ _ h => h) (Or.inl ⟨by rfl, ?_⟩) ?_ ?_
          rotate_left
          · intro w'
            go_simp
            with_reducible rfl
          rotate_left
          · simp only [Act.put, zS, zZ, zC, i64_w, i32_w]
            rfl
          refine pure_ (i := 13) (N := some 29) (v := ?_) (a' := ?_) #[T_, T_, T_, T_, T_, T_, T_, T_, T_, T_, T_, T_, T_, T_, F_, F_, F_, F_, F_, F_, F_, F_] rfl rfl (any_of HT_.out (by kernel_rfl)) (fun _ _ _ h => h) (Or.inl ⟨by rfl, ?_⟩) ?_ ?_
          rotate_left
          · intro w'
            go_simp
            with_reducible rfl
          rotate_left
          · simp only [Act.put, zS, zZ, zC, i64_w, i32_w]
            rfl
          refine pure_ (i := 14) (N := some 30) (v := ?_) (a' := ?_) #[T_, T_, T_, T_, T_, T_, T_, T_, T_, T_, T_, T_, T_, T_, T_, F_, F_, F_, F_, F_, F_, F_] rfl rfl (any_of HT_.out (by kernel_rfl)) (fun _ _ _ h => h) (Or.inl ⟨by rfl, ?_⟩) ?_ ?_
          rotate_left
          · intro w'
            go_simp
            with_reducible rfl
          rotate_left
          · simp only [Act.put, zS, zZ, zC, i64_w, i32_w]
            rfl
          refine pure_ (i := 15) (N := some 31) (v := ?_) (a' := ?_) #[T_, T_, T_, T_, T_, T_, T_, T_, T_, T_, T_, T_, T_, T_, T_, T_, F_, F_, F_, F_, F_, F_] rfl rfl (any_of HT_.out (by kernel_rfl)) (fun _ _ _ h => h) (Or.inl ⟨by rfl, ?_⟩) ?_ ?_
          rotate_left
          · intro w'
            go_simp
            with_reducible rfl
          rotate_left
          · simp only [Act.put, zS, zZ, zC, i64_w, i32_w]
            rfl
          refine pure_ (i := 16) (N := some 32) (v := ?_) (a' := ?_) #[T_, T_, T_, T_, T_, T_, T_, T_, T_, T_, T_, T_, T_, T_, T_, T_, T_, F_, F_, F_, F_, F_] rfl rfl (any_of HT_.out (by kernel_rfl)) (fun _ _ _ h => h) (Or.inl ⟨by rfl, ?_⟩) ?_ ?_
          rotate_left
          · intro w'
            go_simp
            with_reducible rfl
          rotate_left
          · simp only [Act.put, zS, zZ, zC, i64_w, i32_w]
            rfl
          refine take_ (i := 17) (N := some 33) (v := ?_) (a' := ?_) #[T_, T_, T_, T_, T_, T_, T_, T_, T_, T_, T_, T_, T_, T_, T_, T_, T_, T_, F_, F_, F_, F_] rfl rfl (take_ofW HT_.out HW_.out (by kernel_rfl)) (fun _ _ _ h => h) (Or.inl ⟨by rfl, ?_⟩) hHeld ?_ ?_
          rotate_left
          · rintro w' ⟨s0, s1, s2, s3⟩
            go_simp
            with_reducible rfl
          rotate_left
          · simp only [Act.put, zS, zZ, zC, i64_w, i32_w]
            rfl
          refine take_ (i := 18) (N := some 34) (v := ?_) (a' := ?_) #[T_, T_, T_, T_, T_, T_, T_, T_, T_, T_, T_, T_, T_, T_, T_, T_, T_, T_, T_, F_, F_, F_] rfl rfl (take_ofW HT_.out HW_.out (by kernel_rfl)) (fun _ _ _ h => h) (Or.inl ⟨by rfl, ?_⟩) hHeld ?_ ?_
          rotate_left
          · rintro w' ⟨s0, s1, s2, s3⟩
            go_simp
            with_reducible rfl
          rotate_left
          · simp only [Act.put, zS, zZ, zC, i64_w, i32_w]
            rfl
          refine one_ (i := 19) (N := some 35) #[T_, T_, T_, T_, T_, T_, T_, T_, T_, T_, T_, T_, T_, T_, T_, T_, T_, T_, T_, T_, F_, F_] rfl rfl (one_of HT_.out (by kernel_rfl)) (by decide) (fun K hK => ?_)
          refine goes_ Try.func29 (by kernel_rfl) rfl #[.agg #[.int .i64 ((rd_T24 l0 x12_2).f0), .int .i64 ((rd_T24 l0 x12_2).f1)], .agg #[.int .i64 x270000_2, .int .i64 x270001_2]] (by rfl) rfl rfl (by (try simp only [List.map_toArray, List.map_cons, List.map_nil]); first | done | rfl | (simp only [List.length_drop, List.length_take]; rfl)) ?_
          with_reducible refine (ropewayref05_Less.calls k2 ((rd_T24 l0 x12_2).f0) ((rd_T24 l0 x12_2).f1) x270000_2 x270001_2 false _ A11.out).mono ?_
          rintro e w28 ⟨rfl, hb⟩
          refine ⟨_, rfl, ?_⟩
          replace HO_3 := zM (Kd.R_below (rl_ HO_3) hb)
          replace BK269 := zM (bb_ BK269 hb)
          replace BK274 := zM (bb_ BK274 hb)
          replace HB := zM (zB bel_ hb)
          (try clear hb)
          (try clear hb2)
          (try clear hk)
          (try clear hi)
          refine hK.out _ _ ⟨(zL BK274.out 0).trans rfl, (zL BK274.out 1).trans rfl, (zL BK269.out 0).trans rfl, (zL BK269.out 1).trans rfl⟩ (fun hHeld => ?_)
          clear hK K
          refine norm_ (a' := ?_) ?_ ?_
          rotate_left
          · show Act.put _ (some 35) _ = _
            simp only [Act.put, zS, zZ, zC, i64_w, i32_w]
            rfl
          refine pure_ (i := 20) (N := some 36) (v := ?_) (a' := ?_) #[T_, T_, T_, T_, T_, T_, T_, T_, T_, T_, T_, T_, T_, T_, T_, T_, T_, T_, T_, T_, T_, F_] rfl rfl (any_of HT_.out (by kernel_rfl)) (fun _ _ _ h => h) (Or.inl ⟨by rfl, ?_⟩) ?_ ?_
          rotate_left
          · intro w'
            go_simp
            with_reducible rfl
          rotate_left
          · simp only [Act.put, zS, zZ, zC, i64_w, i32_w]
            rfl
          refine pure_ (i := 21) (N := some 37) (v := ?_) (a' := ?_) #[T_, T_, T_, T_, T_, T_, T_, T_, T_, T_, T_, T_, T_, T_, T_, T_, T_, T_, T_, T_, T_, T_] rfl rfl (any_of HT_.out (by kernel_rfl)) (fun _ _ _ h => h) (Or.inl ⟨by rfl, ?_⟩) ?_ ?_
          rotate_left
          · intro w'
            go_simp
            with_reducible rfl
          rotate_left
          · simp only [Act.put, zS, zZ, zC, i64_w, i32_w]
            rfl
          refine done_ (done_of HT_.out (by kernel_rfl)) ?_
          try go_wp2
          go_roundg k2
          case measure => have := HK1.out; have := HK2.out; omega
          case rel => exact ⟨(true), (wrap64 (x12_2 + 1)), (x270000_2), (x270001_2), (by first | rfl | (simp; done) | (simp [*]; done) | (simp; grind)), (by first | rfl | (simp; done) | (simp [*]; done) | (simp; grind)), H', ⟨by have := HK1.out; have := HK2.out; omega⟩, ⟨by (with_reducible repeat (first | apply Kd.R_alloc | apply Kd.R_drewN | apply Kd.R_drew)); exact Kd.R_mono HO_3.out (fun _ hk => hk.1)⟩, ⟨blf_⟩, ⟨bel_⟩⟩
        subst c12
        have H1 : (ropewayref16_sorted.l1 k2 l0 x3_1 true l0 (l0.length : Int) (wrap64 (x12_2 + 1)) ((rd_T24 l0 x12_2).f0) ((rd_T24 l0 x12_2).f1)) = some r := by rw [if_pos rfl] at H; exact H
        clear H
        have H := H1
        clear H1
        have H' := zM H
        clear H
        have p273 : 0 ≤ (x12_2 : Int) := of_decide_eq_true (by first | (with_reducible assumption) | assumption)
        have q273 : x12_2 < (l0.length : Int) := of_decide_eq_true (by first | (with_reducible assumption) | assumption)
        obtain ⟨ad273, e273, hx273_0, hx273_1⟩ := at_T24 HR0.out x12_2 p273 q273
        cases e273
        replace hx273_0 := (HB.out.cell (World.block_lt_of_cell? w _ hx273_0)).trans hx273_0
        replace hx273_1 := (HB.out.cell (World.block_lt_of_cell? w _ hx273_1)).trans hx273_1
        replace p273 := eq_true p273
        replace q273 := eq_true q273
        try go_wp2_with (first | ((with_reducible refine gate_dst (N := 7) rfl ?_); (try (refine gate_guard (by rfl) ?_; dsimp only)); refine box_event ?hg (N := 7) ?hd (cs := #[.int .i64 0, .int .i64 0]) (t := 24) ?hr ?_; (case hd => rfl); (case hg => rfl); (case hr => first | (go_simp; done) | (go_simp; rfl)); intro gb274 hg w13 hbox hb; replace HO_3 := zM (Kd.R_below (Kd.R_elderB (rl_ HO_3) gb274 (Nat.le_of_eq hg.symm)) hb); have BK274 := zM (hbox); have GW274 := zM (bs_ hg); have GE274 := zM (bs_ hg); replace HB := zM (zB bel_ hb); have NB269_274 := zM (nl_ BK269 hg); have NB274_269 := zM (ng_ BK269 hg); replace BK269 := zM (bb_ BK269 hb); clear hb hbox hg; have hnb14 := NB274_269.out; have hnc14 := NB269_274.out; have hcz15_0 : w13.cell? ⟨gb274, 0, none⟩ = some (.int .i64 0) := (zL BK274.out 0).trans rfl; have hcz15_1 : w13.cell? ⟨gb274, 1, none⟩ = some (.int .i64 0) := (zL BK274.out 1).trans rfl; have hfz15_0 := zF BK274.out 0; have hfz15_1 := zF BK274.out 1))
        replace HO_3 : Aside0 (Kd.R k24 24 ((w13.setCell ⟨gb274, 0, none⟩ (.int .i64 ((rd_T24 l0 x12_2).f0))).setCell ⟨gb274, 1, none⟩ (.int .i64 ((rd_T24 l0 x12_2).f1))) w.heap.size (fun k_ => k_ ≠ gb269 ∧ k_ ≠ gb274) u3 x3_1) := ⟨by (with_reducible repeat (first | apply Kd.R_alloc | apply Kd.R_drewN | apply Kd.R_drew)); exact Kd.R_mono (Kd.R_far (p := ⟨gb274, 1, none⟩) (Kd.R_far (p := ⟨gb274, 0, none⟩) (Kd.R_mono HO_3.out (fun k_ hk => (⟨hk, hk.2⟩ : _ ∧ k_ ≠ gb274))) (fun _ hk => hk.2) (.int .i64 ((rd_T24 l0 x12_2).f0))) (fun _ hk => hk.2) (.int .i64 ((rd_T24 l0 x12_2).f1))) (fun _ hk => ⟨hk.1.1, hk.1.2⟩)⟩
        replace BK269 : Aside0 (((w13.setCell ⟨gb274, 0, none⟩ (.int .i64 ((rd_T24 l0 x12_2).f0))).setCell ⟨gb274, 1, none⟩ (.int .i64 ((rd_T24 l0 x12_2).f1))).heap[gb269]? = some (.cells #[.int .i64 x270000_2, .int .i64 x270001_2] 24 (0, 0))) := ⟨blf_⟩
        replace BK274 : Aside0 (((w13.setCell ⟨gb274, 0, none⟩ (.int .i64 ((rd_T24 l0 x12_2).f0))).setCell ⟨gb274, 1, none⟩ (.int .i64 ((rd_T24 l0 x12_2).f1))).heap[gb274]? = some (.cells #[.int .i64 ((rd_T24 l0 x12_2).f0), .int .i64 ((rd_T24 l0 x12_2).f1)] 24 (0, 0))) := ⟨by (with_reducible repeat (first | refine zN ?_ _ | refine zD ?_ | refine zA ?_ _)); refine blk_put (cs := #[.int .i64 ((rd_T24 l0 x12_2).f0), .int .i64 0]) ?_ 1 _ rfl; (with_reducible repeat (first | refine zN ?_ _ | refine zD ?_ | refine zA ?_ _)); refine blk_put (cs := #[.int .i64 0, .int .i64 0]) ?_ 0 _ rfl; (with_reducible repeat (first | refine zN ?_ _ | refine zD ?_ | refine zA ?_ _)); exact BK274.out⟩
        replace HB : Aside0 (Below w.heap.size w ((w13.setCell ⟨gb274, 0, none⟩ (.int .i64 ((rd_T24 l0 x12_2).f0))).setCell ⟨gb274, 1, none⟩ (.int .i64 ((rd_T24 l0 x12_2).f1)))) := ⟨bel_⟩
        generalize ((w13.setCell ⟨gb274, 0, none⟩ (.int .i64 ((rd_T24 l0 x12_2).f0))).setCell ⟨gb274, 1, none⟩ (.int .i64 ((rd_T24 l0 x12_2).f1))) = w16 at HO_3 BK269 BK274 HB ⊢
        replace HO_3 := zM (Kd.R_drew HO_3.out)
        replace BK269 := zM (zD BK269.out)
        replace BK274 := zM (zD BK274.out)
        replace HB := zM (below_drew1 HB.out)
        obtain ⟨Ao18, co18, eo18⟩ := Kd.R_slice HO_3.out
        (first | subst eo18 | (injection eo18 with f1_ f2_ f3_; have f4_ := f1_.symm; have f5_ := f3_.symm; clear f1_ f2_ f3_; subst f4_; subst f5_))
        refine start_ (n := 22) (S := fun w' => w'.cell? ⟨gb274, 0, none⟩ = some (.int .i64 ((rd_T24 l0 x12_2).f0)) ∧ w'.cell? ⟨gb274, 1, none⟩ = some (.int .i64 ((rd_T24 l0 x12_2).f1)) ∧ w'.cell? ⟨gb269, 0, none⟩ = some (.int .i64 x270000_2) ∧ w'.cell? ⟨gb269, 1, none⟩ = some (.int .i64 x270001_2)) (ds := []) #[F_, F_, F_, F_, F_, F_, F_, F_, F_, F_, F_, F_, F_, F_, F_, F_, F_, F_, F_, F_, F_, F_] (by kernel_rfl) rfl rfl ⟨(zL BK274.out 0).trans rfl, (zL BK274.out 1).trans rfl, (zL BK269.out 0).trans rfl, (zL BK269.out 1).trans rfl⟩ (fun hHeld => ?_); refine with_tabW ropewayref16_sorted.tab6 ropewayref16_sorted.bits6 (fun HT_ HW_ => ?_)
        generalize w16.drew = w17 at HO_3 BK269 BK274 HB hHeld ⊢
        refine pure_ (i := 0) (N := some 16) (v := ?_) (a' := ?_) #[T_, F_, F_, F_, F_, F_, F_, F_, F_, F_, F_, F_, F_, F_, F_, F_, F_, F_, F_, F_, F_, F_] rfl rfl (any_of HT_.out (by kernel_rfl)) (fun _ _ _ h => h) (Or.inl ⟨by rfl, ?_⟩) ?_ ?_
        rotate_left
        · intro w'
          go_simp
          with_reducible rfl
        rotate_left
        · simp only [Act.put, zS, zZ, zC, i64_w, i32_w]
          rfl
        refine pure_ (i := 1) (N := some 17) (v := ?_) (a' := ?_) #[T_, T_, F_, F_, F_, F_, F_, F_, F_, F_, F_, F_, F_, F_, F_, F_, F_, F_, F_, F_, F_, F_] rfl rfl (any_of HT_.out (by kernel_rfl)) (fun _ _ _ h => h) (Or.inl ⟨by rfl, ?_⟩) ?_ ?_
        rotate_left
        · intro w'
          go_simp
          with_reducible rfl
        rotate_left
        · simp only [Act.put, zS, zZ, zC, i64_w, i32_w]
          rfl
        refine pure_ (i := 2) (N := some 18) (v := ?_) (a' := ?_) #[T_, T_, T_, F_, F_, F_, F_, F_, F_, F_, F_, F_, F_, F_, F_, F_, F_, F_, F_, F_, F_, F_] rfl rfl (any_of HT_.out (by kernel_rfl)) (fun _ _ _ h => h) (Or.inl ⟨by rfl, ?_⟩) ?_ ?_
        rotate_left
        · intro w'
          go_simp
          with_reducible rfl
        rotate_left
        · simp only [Act.put, zS, zZ, zC, i64_w, i32_w]
          rfl
        refine pure_ (i := 3) (N := some 19) (v := ?_) (a' := ?_) #[T_, T_, T_, T_, F_, F_, F_, F_, F_, F_, F_, F_, F_, F_, F_, F_, F_, F_, F_, F_, F_, F_] rfl rfl (any_of HT_.out (by kernel_rfl)) (fun _ _ _ h => h) (Or.inl ⟨by rfl, ?_⟩) ?_ ?_
        rotate_left
        · intro w'
          go_simp
          with_reducible rfl
        rotate_left
        · simp only [Act.put, zS, zZ, zC, i64_w, i32_w]
          rfl
        refine pure_ (i := 4) (N := some 20) (v := undef) (a' := ?_) #[T_, T_, T_, T_, T_, F_, F_, F_, F_, F_, F_, F_, F_, F_, F_, F_, F_, F_, F_, F_, F_, F_] rfl rfl (any_of HT_.out (by kernel_rfl)) (fun _ _ _ h => h) (Or.inr ⟨by rfl, rfl⟩) ?_ ?_
        rotate_left
        · simp only [Act.put, zS, zZ, zC, i64_w, i32_w]
          rfl
        refine pure_ (i := 5) (N := some 21) (v := undef) (a' := ?_) #[T_, T_, T_, T_, T_, T_, F_, F_, F_, F_, F_, F_, F_, F_, F_, F_, F_, F_, F_, F_, F_, F_] rfl rfl (any_of HT_.out (by kernel_rfl)) (fun _ _ _ h => h) (Or.inr ⟨by rfl, rfl⟩) ?_ ?_
        rotate_left
        · simp only [Act.put, zS, zZ, zC, i64_w, i32_w]
          rfl
        refine pure_ (i := 6) (N := some 22) (v := undef) (a' := ?_) #[T_, T_, T_, T_, T_, T_, T_, F_, F_, F_, F_, F_, F_, F_, F_, F_, F_, F_, F_, F_, F_, F_] rfl rfl (any_of HT_.out (by kernel_rfl)) (fun _ _ _ h => h) (Or.inr ⟨by rfl, rfl⟩) ?_ ?_
        rotate_left
        · simp only [Act.put, zS, zZ, zC, i64_w, i32_w]
          rfl
        refine pure_ (i := 7) (N := some 23) (v := undef) (a' := ?_) #[T_, T_, T_, T_, T_, T_, T_, T_, F_, F_, F_, F_, F_, F_, F_, F_, F_, F_, F_, F_, F_, F_] rfl rfl (any_of HT_.out (by kernel_rfl)) (fun _ _ _ h => h) (Or.inr ⟨by rfl, rfl⟩) ?_ ?_
        rotate_left
        · simp only [Act.put, zS, zZ, zC, i64_w, i32_w]
          rfl
        refine pure_ (i := 8) (N := some 24) (v := undef) (a' := ?_) #[T_, T_, T_, T_, T_, T_, T_, T_, T_, F_, F_, F_, F_, F_, F_, F_, F_, F_, F_, F_, F_, F_] rfl rfl (any_of HT_.out (by kernel_rfl)) (fun _ _ _ h => h) (Or.inr ⟨by rfl, rfl⟩) ?_ ?_
        rotate_left
        · simp only [Act.put, zS, zZ, zC, i64_w, i32_w]
          rfl
        refine pure_ (i := 9) (N := some 25) (v := undef) (a' := ?_) #[T_, T_, T_, T_, T_, T_, T_, T_, T_, T_, F_, F_, F_, F_, F_, F_, F_, F_, F_, F_, F_, F_] rfl rfl (any_of HT_.out (by kernel_rfl)) (fun _ _ _ h => h) (Or.inr ⟨by rfl, rfl⟩) ?_ ?_
        rotate_left
        · simp only [Act.put, zS, zZ, zC, i64_w, i32_w]
          rfl
        refine pure_ (i := 10) (N := some 26) (v := undef) (a' := ?_) #[T_, T_, T_, T_, T_, T_, T_, T_, T_, T_, T_, F_, F_, F_, F_, F_, F_, F_, F_, F_, F_, F_] rfl rfl (any_of HT_.out (by kernel_rfl)) (fun _ _ _ h => h) (Or.inr ⟨by rfl, rfl⟩) ?_ ?_
        rotate_left
        · simp only [Act.put, zS, zZ, zC, i64_w, i32_w]
          rfl
        refine pure_ (i := 11) (N := some 27) (v := undef) (a' := ?_) #[T_, T_, T_, T_, T_, T_, T_, T_, T_, T_, T_, T_, F_, F_, F_, F_, F_, F_, F_, F_, F_, F_] rfl rfl (any_of HT_.out (by kernel_rfl)) (fun _ _ _ h => h) (Or.inr ⟨by rfl, rfl⟩) ?_ ?_
        rotate_left
        · simp only [Act.put, zS, zZ, zC, i64_w, i32_w]
          rfl
        refine pure_ (i := 12) (N := some 28) (v := ?_) (a' := ?_) #[T_, T_, T_, T_, T_, T_, T_, T_, T_, T_, T_, T_, T_, F_, F_, F_, F_, F_, F_, F_, F_, F_] rfl rfl (any_of HT_.out (by kernel_rfl)) (fun _ _ _ h => h) (Or.inl ⟨by rfl, ?_⟩) ?_ ?_
        rotate_left
        · intro w'
          go_simp
          with_reducible rfl
        rotate_left
        · simp only [Act.put, zS, zZ, zC, i64_w, i32_w]
          rfl
        refine pure_ (i := 13) (N := some 29) (v := ?_) (a' := ?_) #[T_, T_, T_, T_, T_, T_, T_, T_, T_, T_, T_, T_, T_, T_, F_, F_, F_, F_, F_, F_, F_, F_] rfl rfl (any_of HT_.out (by kernel_rfl)) (fun _ _ _ h => h) (Or.inl ⟨by rfl, ?_⟩) ?_ ?_
        rotate_left
        · intro w'
          go_simp
          with_reducible rfl
        rotate_left
        · simp only [Act.put, zS, zZ, zC, i64_w, i32_w]
          rfl
        refine pure_ (i := 14) (N := some 30) (v := ?_) (a' := ?_) #[T_, T_, T_, T_, T_, T_, T_, T_, T_, T_, T_, T_, T_, T_, T_, F_, F_, F_, F_, F_, F_, F_] rfl rfl (any_of HT_.out (by kernel_rfl)) (fun _ _ _ h => h) (Or.inl ⟨by rfl, ?_⟩) ?_ ?_
        rotate_left
        · intro w'
          go_simp
          with_reducible rfl
        rotate_left
        · simp only [Act.put, zS, zZ, zC, i64_w, i32_w]
          rfl
        refine pure_ (i := 15) (N := some 31) (v := ?_) (a' := ?_) #[T_, T_, T_, T_, T_, T_, T_, T_, T_, T_, T_, T_, T_, T_, T_, T_, F_, F_, F_, F_, F_, F_] rfl rfl (any_of HT_.out (by kernel_rfl)) (fun _ _ _ h => h) (Or.inl ⟨by rfl, ?_⟩) ?_ ?_
        rotate_left
        · intro w'
          go_simp
          with_reducible rfl
        rotate_left
        · simp only [Act.put, zS, zZ, zC, i64_w, i32_w]
          rfl
        refine pure_ (i := 16) (N := some 32) (v := ?_) (a' := ?_) #[T_, T_, T_, T_, T_, T_, T_, T_, T_, T_, T_, T_, T_, T_, T_, T_, T_, F_, F_, F_, F_, F_] rfl rfl (any_of HT_.out (by kernel_rfl)) (fun _ _ _ h => h) (Or.inl ⟨by rfl, ?_⟩) ?_ ?_
        rotate_left
        · intro w'
          go_simp
          with_reducible rfl
        rotate_left
        · simp only [Act.put, zS, zZ, zC, i64_w, i32_w]
          rfl
        refine take_ (i := 17) (N := some 33) (v := ?_) (a' := ?_) #[T_, T_, T_, T_, T_, T_, T_, T_, T_, T_, T_, T_, T_, T_, T_, T_, T_, T_, F_, F_, F_, F_] rfl rfl (take_ofW HT_.out HW_.out (by kernel_rfl)) (fun _ _ _ h => h) (Or.inl ⟨by rfl, ?_⟩) hHeld ?_ ?_
        rotate_left
        · rintro w' ⟨s0, s1, s2, s3⟩
          go_simp
          with_reducible rfl
        rotate_left
        · simp only [Act.put, zS, zZ, zC, i64_w, i32_w]
          rfl
        refine take_ (i := 18) (N := some 34) (v := ?_) (a' := ?_) #[T_, T_, T_, T_, T_, T_, T_, T_, T_, T_, T_, T_, T_, T_, T_, T_, T_, T_, T_, F_, F_, F_] rfl rfl (take_ofW HT_.out HW_.out (by kernel_rfl)) (fun _ _ _ h => h) (Or.inl ⟨by rfl, ?_⟩) hHeld ?_ ?_
        rotate_left
        · rintro w' ⟨s0, s1, s2, s3⟩
          go_simp
          with_reducible rfl
        rotate_left
        · simp only [Act.put, zS, zZ, zC, i64_w, i32_w]
          rfl
        refine one_ (i := 19) (N := some 35) #[T_, T_, T_, T_, T_, T_, T_, T_, T_, T_, T_, T_, T_, T_, T_, T_, T_, T_, T_, T_, F_, F_] rfl rfl (one_of HT_.out (by kernel_rfl)) (by decide) (fun K hK => ?_)
        refine goes_ Try.func29 (by kernel_rfl) rfl #[.agg #[.int .i64 ((rd_T24 l0 x12_2).f0), .int .i64 ((rd_T24 l0 x12_2).f1)], .agg #[.int .i64 x270000_2, .int .i64 x270001_2]] (by rfl) rfl rfl (by (try simp only [List.map_toArray, List.map_cons, List.map_nil]); first | done | rfl | (simp only [List.length_drop, List.length_take]; rfl)) ?_
        with_reducible refine (ropewayref05_Less.calls k2 ((rd_T24 l0 x12_2).f0) ((rd_T24 l0 x12_2).f1) x270000_2 x270001_2 true _ A11.out).mono ?_
        rintro e w19 ⟨rfl, hb⟩
        refine ⟨_, rfl, ?_⟩
        replace HO_3 := zM (Kd.R_below (rl_ HO_3) hb)
        replace BK269 := zM (bb_ BK269 hb)
        replace BK274 := zM (bb_ BK274 hb)
        replace HB := zM (zB bel_ hb)
        (try clear hb)
        (try clear hb2)
        (try clear hk)
        (try clear hi)
        refine hK.out _ _ ⟨(zL BK274.out 0).trans rfl, (zL BK274.out 1).trans rfl, (zL BK269.out 0).trans rfl, (zL BK269.out 1).trans rfl⟩ (fun hHeld => ?_)
        clear hK K
        refine norm_ (a' := ?_) ?_ ?_
        rotate_left
        · show Act.put _ (some 35) _ = _
          simp only [Act.put, zS, zZ, zC, i64_w, i32_w]
          rfl
        refine pure_ (i := 20) (N := some 36) (v := ?_) (a' := ?_) #[T_, T_, T_, T_, T_, T_, T_, T_, T_, T_, T_, T_, T_, T_, T_, T_, T_, T_, T_, T_, T_, F_] rfl rfl (any_of HT_.out (by kernel_rfl)) (fun _ _ _ h => h) (Or.inl ⟨by rfl, ?_⟩) ?_ ?_
        rotate_left
        · intro w'
          go_simp
          with_reducible rfl
        rotate_left
        · simp only [Act.put, zS, zZ, zC, i64_w, i32_w]
          rfl
        refine pure_ (i := 21) (N := some 37) (v := ?_) (a' := ?_) #[T_, T_, T_, T_, T_, T_, T_, T_, T_, T_, T_, T_, T_, T_, T_, T_, T_, T_, T_, T_, T_, T_] rfl rfl (any_of HT_.out (by kernel_rfl)) (fun _ _ _ h => h) (Or.inl ⟨by rfl, ?_⟩) ?_ ?_
        rotate_left
        · intro w'
          go_simp
          with_reducible rfl
        rotate_left
        · simp only [Act.put, zS, zZ, zC, i64_w, i32_w]
          rfl
        refine done_ (done_of HT_.out (by kernel_rfl)) ?_
        have hcz20_0 : w19.cell? ⟨gb274, 0, none⟩ = some (.int .i64 ((rd_T24 l0 x12_2).f0)) := (zL BK274.out 0).trans rfl
        have hcz20_1 : w19.cell? ⟨gb274, 1, none⟩ = some (.int .i64 ((rd_T24 l0 x12_2).f1)) := (zL BK274.out 1).trans rfl
        have hfz20_0 := zF BK274.out 0
        have hfz20_1 := zF BK274.out 1
        have hcz21_0 : w19.cell? ⟨gb269, 0, none⟩ = some (.int .i64 x270000_2) := (zL BK269.out 0).trans rfl
        have hcz21_1 : w19.cell? ⟨gb269, 1, none⟩ = some (.int .i64 x270001_2) := (zL BK269.out 1).trans rfl
        have hfz21_0 := zF BK269.out 0
        have hfz21_1 := zF BK269.out 1
        try go_wp2
        go_roundg k2
        case measure => have := HK1.out; have := HK2.out; omega
        case rel => exact ⟨(true), (wrap64 (x12_2 + 1)), ((rd_T24 l0 x12_2).f0), ((rd_T24 l0 x12_2).f1), (by first | rfl | (simp; done) | (simp [*]; done) | (simp; grind)), (by first | rfl | (simp; done) | (simp [*]; done) | (simp; grind)), H', ⟨by have := HK1.out; have := HK2.out; omega⟩, ⟨by (with_reducible repeat (first | apply Kd.R_alloc | apply Kd.R_drewN | apply Kd.R_drew)); exact Kd.R_mono (Kd.R_far (p := ⟨gb269, 1, none⟩) (Kd.R_far (p := ⟨gb269, 0, none⟩) (Kd.R_mono HO_3.out (fun k_ hk => (⟨hk, hk.1⟩ : _ ∧ k_ ≠ gb269))) (fun _ hk => hk.2) (.int .i64 ((rd_T24 l0 x12_2).f0))) (fun _ hk => hk.2) (.int .i64 ((rd_T24 l0 x12_2).f1))) (fun _ hk => hk.1.1)⟩, ⟨by (with_reducible repeat (first | refine zN ?_ _ | refine zD ?_ | refine zA ?_ _)); refine blk_put (cs := #[.int .i64 ((rd_T24 l0 x12_2).f0), .int .i64 x270001_2]) ?_ 1 _ rfl; (with_reducible repeat (first | refine zN ?_ _ | refine zD ?_ | refine zA ?_ _)); refine blk_put (cs := #[.int .i64 x270000_2, .int .i64 x270001_2]) ?_ 0 _ rfl; (with_reducible repeat (first | refine zN ?_ _ | refine zD ?_ | refine zA ?_ _)); exact BK269.out⟩, ⟨bel_⟩⟩
      rw [if_neg c9] at H
      have c9b0 : ((x3_1.length : Int) == 0) = false := beq_eq_false_iff_ne.mpr c9
      have c9b1 : ((x3_1.length : Int) != 0) = true := bne_iff_ne.mpr c9
      have c9b2 : ¬ (x3_1 = []) := fun h_ => c9 (by rw [h_]; rfl)
      obtain ⟨ji37, hji37⟩ : ∃ j_ : Int, (wrap64 ((x3_1.length : Int) - 1)) = j_ := ⟨_, rfl⟩
      replace H : (if 0 ≤ (ji37) then (if (ji37) < (x3_1.length : Int) then ((ropewayref05_Less.f k2 ((rd_T24 x3_1 (ji37)).f0) ((rd_T24 x3_1 (ji37)).f1) ((rd_T24 l0 x12_2).f0) ((rd_T24 l0 x12_2).f1)).bind fun t277 => (if t277 = true then (if x5_2 = true then ((ropewayref05_Less.f k2 ((rd_T24 l0 x12_2).f0) ((rd_T24 l0 x12_2).f1) x270000_2 x270001_2).bind fun t278 => (if t278 = true then (ropewayref16_sorted.l1 k2 l0 x3_1 true l0 (l0.length : Int) (wrap64 (x12_2 + 1)) ((rd_T24 l0 x12_2).f0) ((rd_T24 l0 x12_2).f1)) else (ropewayref16_sorted.l1 k2 l0 x3_1 x5_2 l0 (l0.length : Int) (wrap64 (x12_2 + 1)) x270000_2 x270001_2))) else (ropewayref16_sorted.l1 k2 l0 x3_1 true l0 (l0.length : Int) (wrap64 (x12_2 + 1)) ((rd_T24 l0 x12_2).f0) ((rd_T24 l0 x12_2).f1))) else (ropewayref16_sorted.l1 k2 l0 x3_1 x5_2 l0 (l0.length : Int) (wrap64 (x12_2 + 1)) x270000_2 x270001_2))) else (none)) else (none)) = some r := by first | (rw [hji37] at H; exact H) | (simp only [hji37] at H ⊢; exact H)
      have hji37w : (IntKind.i64.wrap ((x3_1.length : Int) - 1)) = ji37 := (i64_w _).trans hji37
      by_cases c38 : 0 ≤ (ji37)
      rotate_left
      · rw [if_neg c38] at H
        exact absurd H (by simp)
      rw [if_pos c38] at H
      have c38b0 : decide (0 ≤ (ji37)) = true := decide_eq_true c38
      clear c38
      by_cases c39 : (ji37) < (x3_1.length : Int)
      rotate_left
      · rw [if_neg c39] at H
        exact absurd H (by simp)
      rw [if_pos c39] at H
      have c39b0 : decide ((ji37) < (x3_1.length : Int)) = true := decide_eq_true c39
      clear c39
      replace H := Option.bind_eq_some_iff.mp H
      obtain ⟨t277, A400, H⟩ := H
      replace H : (if t277 = true then (if x5_2 = true then ((ropewayref05_Less.f k2 ((rd_T24 l0 x12_2).f0) ((rd_T24 l0 x12_2).f1) x270000_2 x270001_2).bind fun t278 => (if t278 = true then (ropewayref16_sorted.l1 k2 l0 x3_1 true l0 (l0.length : Int) (wrap64 (x12_2 + 1)) ((rd_T24 l0 x12_2).f0) ((rd_T24 l0 x12_2).f1)) else (ropewayref16_sorted.l1 k2 l0 x3_1 x5_2 l0 (l0.length : Int) (wrap64 (x12_2 + 1)) x270000_2 x270001_2))) else (ropewayref16_sorted.l1 k2 l0 x3_1 true l0 (l0.length : Int) (wrap64 (x12_2 + 1)) ((rd_T24 l0 x12_2).f0) ((rd_T24 l0 x12_2).f1))) else (ropewayref16_sorted.l1 k2 l0 x3_1 x5_2 l0 (l0.length : Int) (wrap64 (x12_2 + 1)) x270000_2 x270001_2)) = some r := H
      have A40 := zM A400
      clear A400
      by_cases c41 : t277 = true
      rotate_left
      · replace c41 := Bool.eq_false_iff.mpr c41
        subst c41
        have H1 : (ropewayref16_sorted.l1 k2 l0 x3_1 x5_2 l0 (l0.length : Int) (wrap64 (x12_2 + 1)) x270000_2 x270001_2) = some r := by rw [if_neg (show ¬ (false = true) by decide)] at H; exact H
        clear H
        have H := H1
        clear H1
        have H' := zM H
        clear H
        have p273 : 0 ≤ (x12_2 : Int) := of_decide_eq_true (by first | (with_reducible assumption) | assumption)
        have q273 : x12_2 < (l0.length : Int) := of_decide_eq_true (by first | (with_reducible assumption) | assumption)
        obtain ⟨ad273, e273, hx273_0, hx273_1⟩ := at_T24 HR0.out x12_2 p273 q273
        cases e273
        replace hx273_0 := (HB.out.cell (World.block_lt_of_cell? w _ hx273_0)).trans hx273_0
        replace hx273_1 := (HB.out.cell (World.block_lt_of_cell? w _ hx273_1)).trans hx273_1
        replace p273 := eq_true p273
        replace q273 := eq_true q273
        try go_wp2_with (first | ((with_reducible refine gate_dst (N := 7) rfl ?_); (try (refine gate_guard (by rfl) ?_; dsimp only)); refine box_event ?hg (N := 7) ?hd (cs := #[.int .i64 0, .int .i64 0]) (t := 24) ?hr ?_; (case hd => rfl); (case hg => rfl); (case hr => first | (go_simp; done) | (go_simp; rfl)); intro gb274 hg w72 hbox hb; replace HO_3 := zM (Kd.R_below (Kd.R_elderB (rl_ HO_3) gb274 (Nat.le_of_eq hg.symm)) hb); have BK274 := zM (hbox); have GW274 := zM (bs_ hg); have GE274 := zM (bs_ hg); replace HB := zM (zB bel_ hb); have NB269_274 := zM (nl_ BK269 hg); have NB274_269 := zM (ng_ BK269 hg); replace BK269 := zM (bb_ BK269 hb); clear hb hbox hg; have hnb73 := NB274_269.out; have hnc73 := NB269_274.out; have hcz74_0 : w72.cell? ⟨gb274, 0, none⟩ = some (.int .i64 0) := (zL BK274.out 0).trans rfl; have hcz74_1 : w72.cell? ⟨gb274, 1, none⟩ = some (.int .i64 0) := (zL BK274.out 1).trans rfl; have hfz74_0 := zF BK274.out 0; have hfz74_1 := zF BK274.out 1))
        replace HO_3 : Aside0 (Kd.R k24 24 ((w72.setCell ⟨gb274, 0, none⟩ (.int .i64 ((rd_T24 l0 x12_2).f0))).setCell ⟨gb274, 1, none⟩ (.int .i64 ((rd_T24 l0 x12_2).f1))) w.heap.size (fun k_ => k_ ≠ gb269 ∧ k_ ≠ gb274) u3 x3_1) := ⟨by (with_reducible repeat (first | apply Kd.R_alloc | apply Kd.R_drewN | apply Kd.R_drew)); exact Kd.R_mono (Kd.R_far (p := ⟨gb274, 1, none⟩) (Kd.R_far (p := ⟨gb274, 0, none⟩) (Kd.R_mono HO_3.out (fun k_ hk => (⟨hk, hk.2⟩ : _ ∧ k_ ≠ gb274))) (fun _ hk => hk.2) (.int .i64 ((rd_T24 l0 x12_2).f0))) (fun _ hk => hk.2) (.int .i64 ((rd_T24 l0 x12_2).f1))) (fun _ hk => ⟨hk.1.1, hk.1.2⟩)⟩
        replace BK269 : Aside0 (((w72.setCell ⟨gb274, 0, none⟩ (.int .i64 ((rd_T24 l0 x12_2).f0))).setCell ⟨gb274, 1, none⟩ (.int .i64 ((rd_T24 l0 x12_2).f1))).heap[gb269]? = some (.cells #[.int .i64 x270000_2, .int .i64 x270001_2] 24 (0, 0))) := ⟨blf_⟩
        replace BK274 : Aside0 (((w72.setCell ⟨gb274, 0, none⟩ (.int .i64 ((rd_T24 l0 x12_2).f0))).setCell ⟨gb274, 1, none⟩ (.int .i64 ((rd_T24 l0 x12_2).f1))).heap[gb274]? = some (.cells #[.int .i64 ((rd_T24 l0 x12_2).f0), .int .i64 ((rd_T24 l0 x12_2).f1)] 24 (0, 0))) := ⟨by (with_reducible repeat (first | refine zN ?_ _ | refine zD ?_ | refine zA ?_ _)); refine blk_put (cs := #[.int .i64 ((rd_T24 l0 x12_2).f0), .int .i64 0]) ?_ 1 _ rfl; (with_reducible repeat (first | refine zN ?_ _ | refine zD ?_ | refine zA ?_ _)); refine blk_put (cs := #[.int .i64 0, .int .i64 0]) ?_ 0 _ rfl; (with_reducible repeat (first | refine zN ?_ _ | refine zD ?_ | refine zA ?_ _)); exact BK274.out⟩
        replace HB : Aside0 (Below w.heap.size w ((w72.setCell ⟨gb274, 0, none⟩ (.int .i64 ((rd_T24 l0 x12_2).f0))).setCell ⟨gb274, 1, none⟩ (.int .i64 ((rd_T24 l0 x12_2).f1)))) := ⟨bel_⟩
        generalize ((w72.setCell ⟨gb274, 0, none⟩ (.int .i64 ((rd_T24 l0 x12_2).f0))).setCell ⟨gb274, 1, none⟩ (.int .i64 ((rd_T24 l0 x12_2).f1))) = w75 at HO_3 BK269 BK274 HB ⊢
        replace HO_3 := zM (Kd.R_drew HO_3.out)
        replace BK269 := zM (zD BK269.out)
        replace BK274 := zM (zD BK274.out)
        replace HB := zM (below_drew1 HB.out)
        obtain ⟨Ao77, co77, eo77⟩ := Kd.R_slice HO_3.out
        (first | subst eo77 | (injection eo77 with f1_ f2_ f3_; have f4_ := f1_.symm; have f5_ := f3_.symm; clear f1_ f2_ f3_; subst f4_; subst f5_))
        have p276 : 0 ≤ ((ji37) : Int) := of_decide_eq_true (by first | (with_reducible assumption) | assumption)
        have q276 : (ji37) < (x3_1.length : Int) := of_decide_eq_true (by first | (with_reducible assumption) | assumption)
        obtain ⟨ad276, e276, hx276_0, hx276_1⟩ := at_T24 (Kd.R_reads' HO_3.out).2.2 (ji37) p276 q276
        cases e276
        replace p276 := eq_true p276
        replace q276 := eq_true q276
        refine start_ (n := 22) (S := fun w' => w'.cell? ⟨gb274, 0, none⟩ = some (.int .i64 ((rd_T24 l0 x12_2).f0)) ∧ w'.cell? ⟨gb274, 1, none⟩ = some (.int .i64 ((rd_T24 l0 x12_2).f1)) ∧ w'.cell? (ad276.add (((ji37)).toNat * 2)) = some (.int .i64 ((rd_T24 x3_1 (ji37)).f0)) ∧ w'.cell? ⟨(ad276.add (((ji37)).toNat * 2)).block, (ad276.add (((ji37)).toNat * 2)).off + 1, none⟩ = some (.int .i64 ((rd_T24 x3_1 (ji37)).f1))) (ds := []) #[F_, F_, F_, F_, F_, F_, F_, F_, F_, F_, F_, F_, F_, F_, F_, F_, F_, F_, F_, F_, F_, F_] (by kernel_rfl) rfl rfl ⟨(zL BK274.out 0).trans rfl, (zL BK274.out 1).trans rfl, hx276_0, hx276_1⟩ (fun hHeld => ?_); refine with_tabW ropewayref16_sorted.tab6 ropewayref16_sorted.bits6 (fun HT_ HW_ => ?_)
        generalize w75.drew = w76 at HO_3 BK269 BK274 HB hx276_0 hx276_1 hHeld ⊢
        refine pure_ (i := 0) (N := some 16) (v := ?_) (a' := ?_) #[T_, F_, F_, F_, F_, F_, F_, F_, F_, F_, F_, F_, F_, F_, F_, F_, F_, F_, F_, F_, F_, F_] rfl rfl (any_of HT_.out (by kernel_rfl)) (fun _ _ _ h => h) (Or.inl ⟨by rfl, ?_⟩) ?_ ?_
        rotate_left
        · intro w'
          go_simp
          with_reducible rfl
        rotate_left
        · simp only [Act.put, zS, zZ, zC, i64_w, i32_w]
          rfl
        refine pure_ (i := 1) (N := some 17) (v := ?_) (a' := ?_) #[T_, T_, F_, F_, F_, F_, F_, F_, F_, F_, F_, F_, F_, F_, F_, F_, F_, F_, F_, F_, F_, F_] rfl rfl (any_of HT_.out (by kernel_rfl)) (fun _ _ _ h => h) (Or.inl ⟨by rfl, ?_⟩) ?_ ?_
        rotate_left
        · intro w'
          go_simp
          with_reducible rfl
        rotate_left
        · simp only [Act.put, zS, zZ, zC, i64_w, i32_w]
          rfl
        refine pure_ (i := 2) (N := some 18) (v := ?_) (a' := ?_) #[T_, T_, T_, F_, F_, F_, F_, F_, F_, F_, F_, F_, F_, F_, F_, F_, F_, F_, F_, F_, F_, F_] rfl rfl (any_of HT_.out (by kernel_rfl)) (fun _ _ _ h => h) (Or.inl ⟨by rfl, ?_⟩) ?_ ?_
        rotate_left
        · intro w'
          go_simp
          with_reducible rfl
        rotate_left
        · simp only [Act.put, zS, zZ, zC, i64_w, i32_w]
          rfl
        refine pure_ (i := 3) (N := some 19) (v := ?_) (a' := ?_) #[T_, T_, T_, T_, F_, F_, F_, F_, F_, F_, F_, F_, F_, F_, F_, F_, F_, F_, F_, F_, F_, F_] rfl rfl (any_of HT_.out (by kernel_rfl)) (fun _ _ _ h => h) (Or.inl ⟨by rfl, ?_⟩) ?_ ?_
        rotate_left
        · intro w'
          go_simp
          with_reducible rfl
        rotate_left
        · simp only [Act.put, zS, zZ, zC, i64_w, i32_w]
          rfl
        refine pure_ (i := 4) (N := some 20) (v := ?_) (a' := ?_) #[T_, T_, T_, T_, T_, F_, F_, F_, F_, F_, F_, F_, F_, F_, F_, F_, F_, F_, F_, F_, F_, F_] rfl rfl (any_of HT_.out (by kernel_rfl)) (fun _ _ _ h => h) (Or.inl ⟨by rfl, ?_⟩) ?_ ?_
        rotate_left
        · intro w'
          go_simp
          with_reducible rfl
        rotate_left
        · simp only [Act.put, zS, zZ, zC, i64_w, i32_w]
          rfl
        refine pure_ (i := 5) (N := some 21) (v := ?_) (a' := ?_) #[T_, T_, T_, T_, T_, T_, F_, F_, F_, F_, F_, F_, F_, F_, F_, F_, F_, F_, F_, F_, F_, F_] rfl rfl (any_of HT_.out (by kernel_rfl)) (fun _ _ _ h => h) (Or.inl ⟨by rfl, ?_⟩) ?_ ?_
        rotate_left
        · intro w'
          go_simp
          with_reducible rfl
        rotate_left
        · simp only [Act.put, zS, zZ, zC, i64_w, i32_w]
          rfl
        refine pure_ (i := 6) (N := some 22) (v := ?_) (a' := ?_) #[T_, T_, T_, T_, T_, T_, T_, F_, F_, F_, F_, F_, F_, F_, F_, F_, F_, F_, F_, F_, F_, F_] rfl rfl (any_of HT_.out (by kernel_rfl)) (fun _ _ _ h => h) (Or.inl ⟨by rfl, ?_⟩) ?_ ?_
        rotate_left
        · intro w'
          go_simp
          with_reducible rfl
        rotate_left
        · simp only [Act.put, zS, zZ, zC, i64_w, i32_w]
          rfl
        refine pure_ (i := 7) (N := some 23) (v := ?_) (a' := ?_) #[T_, T_, T_, T_, T_, T_, T_, T_, F_, F_, F_, F_, F_, F_, F_, F_, F_, F_, F_, F_, F_, F_] rfl rfl (any_of HT_.out (by kernel_rfl)) (fun _ _ _ h => h) (Or.inl ⟨by rfl, ?_⟩) ?_ ?_
        rotate_left
        · intro w'
          go_simp
          with_reducible rfl
        rotate_left
        · simp only [Act.put, zS, zZ, zC, i64_w, i32_w]
          rfl
        refine pure_ (i := 8) (N := some 24) (v := ?_) (a' := ?_) #[T_, T_, T_, T_, T_, T_, T_, T_, T_, F_, F_, F_, F_, F_, F_, F_, F_, F_, F_, F_, F_, F_] rfl rfl (any_of HT_.out (by kernel_rfl)) (fun _ _ _ h => h) (Or.inl ⟨by rfl, ?_⟩) ?_ ?_
        rotate_left
        · intro w'
          go_simp
          with_reducible rfl
        rotate_left
        · simp only [Act.put, zS, zZ, zC, i64_w, i32_w]
          rfl
        refine take_ (i := 9) (N := some 25) (v := ?_) (a' := ?_) #[T_, T_, T_, T_, T_, T_, T_, T_, T_, T_, F_, F_, F_, F_, F_, F_, F_, F_, F_, F_, F_, F_] rfl rfl (take_ofW HT_.out HW_.out (by kernel_rfl)) (fun _ _ _ h => h) (Or.inl ⟨by rfl, ?_⟩) hHeld ?_ ?_
        rotate_left
        · rintro w' ⟨s0, s1, s2, s3⟩
          go_simp
          with_reducible rfl
        rotate_left
        · simp only [Act.put, zS, zZ, zC, i64_w, i32_w]
          rfl
        refine take_ (i := 10) (N := some 26) (v := ?_) (a' := ?_) #[T_, T_, T_, T_, T_, T_, T_, T_, T_, T_, T_, F_, F_, F_, F_, F_, F_, F_, F_, F_, F_, F_] rfl rfl (take_ofW HT_.out HW_.out (by kernel_rfl)) (fun _ _ _ h => h) (Or.inl ⟨by rfl, ?_⟩) hHeld ?_ ?_
        rotate_left
        · rintro w' ⟨s0, s1, s2, s3⟩
          go_simp
          with_reducible rfl
        rotate_left
        · simp only [Act.put, zS, zZ, zC, i64_w, i32_w]
          rfl
        refine one_ (i := 11) (N := some 27) #[T_, T_, T_, T_, T_, T_, T_, T_, T_, T_, T_, T_, F_, F_, F_, F_, F_, F_, F_, F_, F_, F_] rfl rfl (one_of HT_.out (by kernel_rfl)) (by decide) (fun K hK => ?_)
        refine goes_ Try.func29 (by kernel_rfl) rfl #[.agg #[.int .i64 ((rd_T24 x3_1 (ji37)).f0), .int .i64 ((rd_T24 x3_1 (ji37)).f1)], .agg #[.int .i64 ((rd_T24 l0 x12_2).f0), .int .i64 ((rd_T24 l0 x12_2).f1)]] (by rfl) rfl rfl (by (try simp only [List.map_toArray, List.map_cons, List.map_nil]); first | done | (simp only [hji37]; rfl) | rfl | (simp only [List.length_drop, List.length_take]; rfl)) ?_
        with_reducible refine (ropewayref05_Less.calls k2 ((rd_T24 x3_1 (ji37)).f0) ((rd_T24 x3_1 (ji37)).f1) ((rd_T24 l0 x12_2).f0) ((rd_T24 l0 x12_2).f1) false _ A40.out).mono ?_
        rintro e w78 ⟨rfl, hb⟩
        have HS2_ := (hb.cell (World.block_lt_of_cell? _ _ (hHeld.2.2.1))).trans (hHeld.2.2.1)
        have HS3_ := (hb.cell (World.block_lt_of_cell? _ _ (hHeld.2.2.2))).trans (hHeld.2.2.2)
        refine ⟨_, rfl, ?_⟩
        replace HO_3 := zM (Kd.R_below (rl_ HO_3) hb)
        replace BK269 := zM (bb_ BK269 hb)
        replace BK274 := zM (bb_ BK274 hb)
        replace HB := zM (zB bel_ hb)
        (try clear hb)
        (try clear hb2)
        (try clear hk)
        (try clear hi)
        refine hK.out _ _ ⟨(zL BK274.out 0).trans rfl, (zL BK274.out 1).trans rfl, HS2_, HS3_⟩ (fun hHeld => ?_)
        clear hK K
        refine norm_ (a' := ?_) ?_ ?_
        rotate_left
        · show Act.put _ (some 27) _ = _
          simp only [Act.put, zS, zZ, zC, i64_w, i32_w]
          rfl
        refine pure_ (i := 12) (N := some 28) (v := ?_) (a' := ?_) #[T_, T_, T_, T_, T_, T_, T_, T_, T_, T_, T_, T_, T_, F_, F_, F_, F_, F_, F_, F_, F_, F_] rfl rfl (any_of HT_.out (by kernel_rfl)) (fun _ _ _ h => h) (Or.inl ⟨by rfl, ?_⟩) ?_ ?_
        rotate_left
        · intro w'
          go_simp
          with_reducible rfl
        rotate_left
        · simp only [Act.put, zS, zZ, zC, i64_w, i32_w]
          rfl
        refine pure_ (i := 13) (N := some 29) (v := ?_) (a' := ?_) #[T_, T_, T_, T_, T_, T_, T_, T_, T_, T_, T_, T_, T_, T_, F_, F_, F_, F_, F_, F_, F_, F_] rfl rfl (any_of HT_.out (by kernel_rfl)) (fun _ _ _ h => h) (Or.inl ⟨by rfl, ?_⟩) ?_ ?_
        rotate_left
        · intro w'
          go_simp
          with_reducible rfl
        rotate_left
        · simp only [Act.put, zS, zZ, zC, i64_w, i32_w]
          rfl
        refine pure_ (i := 14) (N := some 30) (v := undef) (a' := ?_) #[T_, T_, T_, T_, T_, T_, T_, T_, T_, T_, T_, T_, T_, T_, T_, F_, F_, F_, F_, F_, F_, F_] rfl rfl (any_of HT_.out (by kernel_rfl)) (fun _ _ _ h => h) (Or.inr ⟨by rfl, rfl⟩) ?_ ?_
        rotate_left
        · simp only [Act.put, zS, zZ, zC, i64_w, i32_w]
          rfl
        refine pure_ (i := 15) (N := some 31) (v := undef) (a' := ?_) #[T_, T_, T_, T_, T_, T_, T_, T_, T_, T_, T_, T_, T_, T_, T_, T_, F_, F_, F_, F_, F_, F_] rfl rfl (any_of HT_.out (by kernel_rfl)) (fun _ _ _ h => h) (Or.inr ⟨by rfl, rfl⟩) ?_ ?_
        rotate_left
        · simp only [Act.put, zS, zZ, zC, i64_w, i32_w]
          rfl
        refine pure_ (i := 16) (N := some 32) (v := undef) (a' := ?_) #[T_, T_, T_, T_, T_, T_, T_, T_, T_, T_, T_, T_, T_, T_, T_, T_, T_, F_, F_, F_, F_, F_] rfl rfl (any_of HT_.out (by kernel_rfl)) (fun _ _ _ h => h) (Or.inr ⟨by rfl, rfl⟩) ?_ ?_
        rotate_left
        · simp only [Act.put, zS, zZ, zC, i64_w, i32_w]
          rfl
        refine pure_ (i := 17) (N := some 33) (v := undef) (a' := ?_) #[T_, T_, T_, T_, T_, T_, T_, T_, T_, T_, T_, T_, T_, T_, T_, T_, T_, T_, F_, F_, F_, F_] rfl rfl (any_of HT_.out (by kernel_rfl)) (fun _ _ _ h => h) (Or.inr ⟨by rfl, rfl⟩) ?_ ?_
        rotate_left
        · simp only [Act.put, zS, zZ, zC, i64_w, i32_w]
          rfl
        refine pure_ (i := 18) (N := some 34) (v := undef) (a' := ?_) #[T_, T_, T_, T_, T_, T_, T_, T_, T_, T_, T_, T_, T_, T_, T_, T_, T_, T_, T_, F_, F_, F_] rfl rfl (any_of HT_.out (by kernel_rfl)) (fun _ _ _ h => h) (Or.inr ⟨by rfl, rfl⟩) ?_ ?_
        rotate_left
        · simp only [Act.put, zS, zZ, zC, i64_w, i32_w]
          rfl
        refine pure_ (i := 19) (N := some 35) (v := undef) (a' := ?_) #[T_, T_, T_, T_, T_, T_, T_, T_, T_, T_, T_, T_, T_, T_, T_, T_, T_, T_, T_, T_, F_, F_] rfl rfl (any_of HT_.out (by kernel_rfl)) (fun _ _ _ h => h) (Or.inr ⟨by rfl, rfl⟩) ?_ ?_
        rotate_left
        · simp only [Act.put, zS, zZ, zC, i64_w, i32_w]
          rfl
        refine pure_ (i := 20) (N := some 36) (v := undef) (a' := ?_) #[T_, T_, T_, T_, T_, T_, T_, T_, T_, T_, T_, T_, T_, T_, T_, T_, T_, T_, T_, T_, T_, F_] rfl rfl (any_of HT_.out (by kernel_rfl)) (fun _ _ _ h => h) (Or.inr ⟨by rfl, rfl⟩) ?_ ?_
        rotate_left
        · simp only [Act.put, zS, zZ, zC, i64_w, i32_w]
          rfl
        refine pure_ (i := 21) (N := some 37) (v := ?_) (a' := ?_) #[T_, T_, T_, T_, T_, T_, T_, T_, T_, T_, T_, T_, T_, T_, T_, T_, T_, T_, T_, T_, T_, T_] rfl rfl (any_of HT_.out (by kernel_rfl)) (fun _ _ _ h => h) (Or.inl ⟨by rfl, ?_⟩) ?_ ?_
        rotate_left
        · intro w'
          go_simp
          with_reducible rfl
        rotate_left
        · simp only [Act.put, zS, zZ, zC, i64_w, i32_w]
          rfl
        refine done_ (done_of HT_.out (by kernel_rfl)) ?_
        try go_wp2
        go_roundg k2
        case measure => have := HK1.out; have := HK2.out; omega
        case rel => exact ⟨(x5_2), (wrap64 (x12_2 + 1)), (x270000_2), (x270001_2), (by first | rfl | (simp; done) | (simp [*]; done) | (simp; grind)), (by first | rfl | (simp; done) | (simp [*]; done) | (simp; grind)), H', ⟨by have := HK1.out; have := HK2.out; omega⟩, ⟨by (with_reducible repeat (first | apply Kd.R_alloc | apply Kd.R_drewN | apply Kd.R_drew)); exact Kd.R_mono HO_3.out (fun _ hk => hk.1)⟩, ⟨blf_⟩, ⟨bel_⟩⟩
      subst c41
      have H1 : (if x5_2 = true then ((ropewayref05_Less.f k2 ((rd_T24 l0 x12_2).f0) ((rd_T24 l0 x12_2).f1) x270000_2 x270001_2).bind fun t278 => (if t278 = true then (ropewayref16_sorted.l1 k2 l0 x3_1 true l0 (l0.length : Int) (wrap64 (x12_2 + 1)) ((rd_T24 l0 x12_2).f0) ((rd_T24 l0 x12_2).f1)) else (ropewayref16_sorted.l1 k2 l0 x3_1 x5_2 l0 (l0.length : Int) (wrap64 (x12_2 + 1)) x270000_2 x270001_2))) else (ropewayref16_sorted.l1 k2 l0 x3_1 true l0 (l0.length : Int) (wrap64 (x12_2 + 1)) ((rd_T24 l0 x12_2).f0) ((rd_T24 l0 x12_2).f1))) = some r := by rw [if_pos rfl] at H; exact H
      clear H
      have H := H1
      clear H1
      by_cases c42 : x5_2 = true
      rotate_left
      · replace c42 := Bool.eq_false_iff.mpr c42
        subst c42
        have H1 : (ropewayref16_sorted.l1 k2 l0 x3_1 true l0 (l0.length : Int) (wrap64 (x12_2 + 1)) ((rd_T24 l0 x12_2).f0) ((rd_T24 l0 x12_2).f1)) = some r := by rw [if_neg (show ¬ (false = true) by decide)] at H; exact H
        clear H
        have H := H1
        clear H1
        have H' := zM H
        clear H
        have p273 : 0 ≤ (x12_2 : Int) := of_decide_eq_true (by first | (with_reducible assumption) | assumption)
        have q273 : x12_2 < (l0.length : Int) := of_decide_eq_true (by first | (with_reducible assumption) | assumption)
        obtain ⟨ad273, e273, hx273_0, hx273_1⟩ := at_T24 HR0.out x12_2 p273 q273
        cases e273
        replace hx273_0 := (HB.out.cell (World.block_lt_of_cell? w _ hx273_0)).trans hx273_0
        replace hx273_1 := (HB.out.cell (World.block_lt_of_cell? w _ hx273_1)).trans hx273_1
        replace p273 := eq_true p273
        replace q273 := eq_true q273
        try go_wp2_with (first | ((with_reducible refine gate_dst (N := 7) rfl ?_); (try (refine gate_guard (by rfl) ?_; dsimp only)); refine box_event ?hg (N := 7) ?hd (cs := #[.int .i64 0, .int .i64 0]) (t := 24) ?hr ?_; (case hd => rfl); (case hg => rfl); (case hr => first | (go_simp; done) | (go_simp; rfl)); intro gb274 hg w63 hbox hb; replace HO_3 := zM (Kd.R_below (Kd.R_elderB (rl_ HO_3) gb274 (Nat.le_of_eq hg.symm)) hb); have BK274 := zM (hbox); have GW274 := zM (bs_ hg); have GE274 := zM (bs_ hg); replace HB := zM (zB bel_ hb); have NB269_274 := zM (nl_ BK269 hg); have NB274_269 := zM (ng_ BK269 hg); replace BK269 := zM (bb_ BK269 hb); clear hb hbox hg; have hnb64 := NB274_269.out; have hnc64 := NB269_274.out; have hcz65_0 : w63.cell? ⟨gb274, 0, none⟩ = some (.int .i64 0) := (zL BK274.out 0).trans rfl; have hcz65_1 : w63.cell? ⟨gb274, 1, none⟩ = some (.int .i64 0) := (zL BK274.out 1).trans rfl; have hfz65_0 := zF BK274.out 0; have hfz65_1 := zF BK274.out 1))
        replace HO_3 : Aside0 (Kd.R k24 24 ((w63.setCell ⟨gb274, 0, none⟩ (.int .i64 ((rd_T24 l0 x12_2).f0))).setCell ⟨gb274, 1, none⟩ (.int .i64 ((rd_T24 l0 x12_2).f1))) w.heap.size (fun k_ => k_ ≠ gb269 ∧ k_ ≠ gb274) u3 x3_1) := ⟨by (with_reducible repeat (first | apply Kd.R_alloc | apply Kd.R_drewN | apply Kd.R_drew)); exact Kd.R_mono (Kd.R_far (p := ⟨gb274, 1, none⟩) (Kd.R_far (p := ⟨gb274, 0, none⟩) (Kd.R_mono HO_3.out (fun k_ hk => (⟨hk, hk.2⟩ : _ ∧ k_ ≠ gb274))) (fun _ hk => hk.2) (.int .i64 ((rd_T24 l0 x12_2).f0))) (fun _ hk => hk.2) (.int .i64 ((rd_T24 l0 x12_2).f1))) (fun _ hk => ⟨hk.1.1, hk.1.2⟩)⟩
        replace BK269 : Aside0 (((w63.setCell ⟨gb274, 0, none⟩ (.int .i64 ((rd_T24 l0 x12_2).f0))).setCell ⟨gb274, 1, none⟩ (.int .i64 ((rd_T24 l0 x12_2).f1))).heap[gb269]? = some (.cells #[.int .i64 x270000_2, .int .i64 x270001_2] 24 (0, 0))) := ⟨blf_⟩
        replace BK274 : Aside0 (((w63.setCell ⟨gb274, 0, none⟩ (.int .i64 ((rd_T24 l0 x12_2).f0))).setCell ⟨gb274, 1, none⟩ (.int .i64 ((rd_T24 l0 x12_2).f1))).heap[gb274]? = some (.cells #[.int .i64 ((rd_T24 l0 x12_2).f0), .int .i64 ((rd_T24 l0 x12_2).f1)] 24 (0, 0))) := ⟨by (with_reducible repeat (first | refine zN ?_ _ | refine zD ?_ | refine zA ?_ _)); refine blk_put (cs := #[.int .i64 ((rd_T24 l0 x12_2).f0), .int .i64 0]) ?_ 1 _ rfl; (with_reducible repeat (first | refine zN ?_ _ | refine zD ?_ | refine zA ?_ _)); refine blk_put (cs := #[.int .i64 0, .int .i64 0]) ?_ 0 _ rfl; (with_reducible repeat (first | refine zN ?_ _ | refine zD ?_ | refine zA ?_ _)); exact BK274.out⟩
        replace HB : Aside0 (Below w.heap.size w ((w63.setCell ⟨gb274, 0, none⟩ (.int .i64 ((rd_T24 l0 x12_2).f0))).setCell ⟨gb274, 1, none⟩ (.int .i64 ((rd_T24 l0 x12_2).f1)))) := ⟨bel_⟩
        generalize ((w63.setCell ⟨gb274, 0, none⟩ (.int .i64 ((rd_T24 l0 x12_2).f0))).setCell ⟨gb274, 1, none⟩ (.int .i64 ((rd_T24 l0 x12_2).f1))) = w66 at HO_3 BK269 BK274 HB ⊢
        replace HO_3 := zM (Kd.R_drew HO_3.out)
        replace BK269 := zM (zD BK269.out)
        replace BK274 := zM (zD BK274.out)
        replace HB := zM (below_drew1 HB.out)
        obtain ⟨Ao68, co68, eo68⟩ := Kd.R_slice HO_3.out
        (first | subst eo68 | (injection eo68 with f1_ f2_ f3_; have f4_ := f1_.symm; have f5_ := f3_.symm; clear f1_ f2_ f3_; subst f4_; subst f5_))
        have p276 : 0 ≤ ((ji37) : Int) := of_decide_eq_true (by first | (with_reducible assumption) | assumption)
        have q276 : (ji37) < (x3_1.length : Int) := of_decide_eq_true (by first | (with_reducible assumption) | assumption)
        obtain ⟨ad276, e276, hx276_0, hx276_1⟩ := at_T24 (Kd.R_reads' HO_3.out).2.2 (ji37) p276 q276
        cases e276
        replace p276 := eq_true p276
        replace q276 := eq_true q276
        refine start_ (n := 22) (S := fun w' => w'.cell? ⟨gb274, 0, none⟩ = some (.int .i64 ((rd_T24 l0 x12_2).f0)) ∧ w'.cell? ⟨gb274, 1, none⟩ = some (.int .i64 ((rd_T24 l0 x12_2).f1)) ∧ w'.cell? (ad276.add (((ji37)).toNat * 2)) = some (.int .i64 ((rd_T24 x3_1 (ji37)).f0)) ∧ w'.cell? ⟨(ad276.add (((ji37)).toNat * 2)).block, (ad276.add (((ji37)).toNat * 2)).off + 1, none⟩ = some (.int .i64 ((rd_T24 x3_1 (ji37)).f1))) (ds := []) #[F_, F_, F_, F_, F_, F_, F_, F_, F_, F_, F_, F_, F_, F_, F_, F_, F_, F_, F_, F_, F_, F_] (by kernel_rfl) rfl rfl ⟨(zL BK274.out 0).trans rfl, (zL BK274.out 1).trans rfl, hx276_0, hx276_1⟩ (fun hHeld => ?_); refine with_tabW ropewayref16_sorted.tab6 ropewayref16_sorted.bits6 (fun HT_ HW_ => ?_)
        generalize w66.drew = w67 at HO_3 BK269 BK274 HB hx276_0 hx276_1 hHeld ⊢
        refine pure_ (i := 0) (N := some 16) (v := ?_) (a' := ?_) #[T_, F_, F_, F_, F_, F_, F_, F_, F_, F_, F_, F_, F_, F_, F_, F_, F_, F_, F_, F_, F_, F_] rfl rfl (any_of HT_.out (by kernel_rfl)) (fun _ _ _ h => h) (Or.inl ⟨by rfl, ?_⟩) ?_ ?_
        rotate_left
        · intro w'
          go_simp
          with_reducible rfl
        rotate_left
        · simp only [Act.put, zS, zZ, zC, i64_w, i32_w]
          rfl
        refine pure_ (i := 1) (N := some 17) (v := ?_) (a' := ?_) #[T_, T_, F_, F_, F_, F_, F_, F_, F_, F_, F_, F_, F_, F_, F_, F_, F_, F_, F_, F_, F_, F_] rfl rfl (any_of HT_.out (by kernel_rfl)) (fun _ _ _ h => h) (Or.inl ⟨by rfl, ?_⟩) ?_ ?_
        rotate_left
        · intro w'
          go_simp
          with_reducible rfl
        rotate_left
        · simp only [Act.put, zS, zZ, zC, i64_w, i32_w]
          rfl
        refine pure_ (i := 2) (N := some 18) (v := ?_) (a' := ?_) #[T_, T_, T_, F_, F_, F_, F_, F_, F_, F_, F_, F_, F_, F_, F_, F_, F_, F_, F_, F_, F_, F_] rfl rfl (any_of HT_.out (by kernel_rfl)) (fun _ _ _ h => h) (Or.inl ⟨by rfl, ?_⟩) ?_ ?_
        rotate_left
        · intro w'
          go_simp
          with_reducible rfl
        rotate_left
        · simp only [Act.put, zS, zZ, zC, i64_w, i32_w]
          rfl
        refine pure_ (i := 3) (N := some 19) (v := ?_) (a' := ?_) #[T_, T_, T_, T_, F_, F_, F_, F_, F_, F_, F_, F_, F_, F_, F_, F_, F_, F_, F_, F_, F_, F_] rfl rfl (any_of HT_.out (by kernel_rfl)) (fun _ _ _ h => h) (Or.inl ⟨by rfl, ?_⟩) ?_ ?_
        rotate_left
        · intro w'
          go_simp
          with_reducible rfl
        rotate_left
        · simp only [Act.put, zS, zZ, zC, i64_w, i32_w]
          rfl
        refine pure_ (i := 4) (N := some 20) (v := ?_) (a' := ?_) #[T_, T_, T_, T_, T_, F_, F_, F_, F_, F_, F_, F_, F_, F_, F_, F_, F_, F_, F_, F_, F_, F_] rfl rfl (any_of HT_.out (by kernel_rfl)) (fun _ _ _ h => h) (Or.inl ⟨by rfl, ?_⟩) ?_ ?_
        rotate_left
        · intro w'
          go_simp
          with_reducible rfl
        rotate_left
        · simp only [Act.put, zS, zZ, zC, i64_w, i32_w]
          rfl
        refine pure_ (i := 5) (N := some 21) (v := ?_) (a' := ?_) #[T_, T_, T_, T_, T_, T_, F_, F_, F_, F_, F_, F_, F_, F_, F_, F_, F_, F_, F_, F_, F_, F_] rfl rfl (any_of HT_.out (by kernel_rfl)) (fun _ _ _ h => h) (Or.inl ⟨by rfl, ?_⟩) ?_ ?_
        rotate_left
        · intro w'
          go_simp
          with_reducible rfl
        rotate_left
        · simp only [Act.put, zS, zZ, zC, i64_w, i32_w]
          rfl
        refine pure_ (i := 6) (N := some 22) (v := ?_) (a' := ?_) #[T_, T_, T_, T_, T_, T_, T_, F_, F_, F_, F_, F_, F_, F_, F_, F_, F_, F_, F_, F_, F_, F_] rfl rfl (any_of HT_.out (by kernel_rfl)) (fun _ _ _ h => h) (Or.inl ⟨by rfl, ?_⟩) ?_ ?_
        rotate_left
        · intro w'
          go_simp
          with_reducible rfl
        rotate_left
        · simp only [Act.put, zS, zZ, zC, i64_w, i32_w]
          rfl
        refine pure_ (i := 7) (N := some 23) (v := ?_) (a' := ?_) #[T_, T_, T_, T_, T_, T_, T_, T_, F_, F_, F_, F_, F_, F_, F_, F_, F_, F_, F_, F_, F_, F_] rfl rfl (any_of HT_.out (by kernel_rfl)) (fun _ _ _ h => h) (Or.inl ⟨by rfl, ?_⟩) ?_ ?_
        rotate_left
        · intro w'
          go_simp
          with_reducible rfl
        rotate_left
        · simp only [Act.put, zS, zZ, zC, i64_w, i32_w]
          rfl
        refine pure_ (i := 8) (N := some 24) (v := ?_) (a' := ?_) #[T_, T_, T_, T_, T_, T_, T_, T_, T_, F_, F_, F_, F_, F_, F_, F_, F_, F_, F_, F_, F_, F_] rfl rfl (any_of HT_.out (by kernel_rfl)) (fun _ _ _ h => h) (Or.inl ⟨by rfl, ?_⟩) ?_ ?_
        rotate_left
        · intro w'
          go_simp
          with_reducible rfl
        rotate_left
        · simp only [Act.put, zS, zZ, zC, i64_w, i32_w]
          rfl
        refine take_ (i := 9) (N := some 25) (v := ?_) (a' := ?_) #[T_, T_, T_, T_, T_, T_, T_, T_, T_, T_, F_, F_, F_, F_, F_, F_, F_, F_, F_, F_, F_, F_] rfl rfl (take_ofW HT_.out HW_.out (by kernel_rfl)) (fun _ _ _ h => h) (Or.inl ⟨by rfl, ?_⟩) hHeld ?_ ?_
        rotate_left
        · rintro w' ⟨s0, s1, s2, s3⟩
          go_simp
          with_reducible rfl
        rotate_left
        · simp only [Act.put, zS, zZ, zC, i64_w, i32_w]
          rfl
        refine take_ (i := 10) (N := some 26) (v := ?_) (a' := ?_) #[T_, T_, T_, T_, T_, T_, T_, T_, T_, T_, T_, F_, F_, F_, F_, F_, F_, F_, F_, F_, F_, F_] rfl rfl (take_ofW HT_.out HW_.out (by kernel_rfl)) (fun _ _ _ h => h) (Or.inl ⟨by rfl, ?_⟩) hHeld ?_ ?_
        rotate_left
        · rintro w' ⟨s0, s1, s2, s3⟩
          go_simp
          with_reducible rfl
        rotate_left
        · simp only [Act.put, zS, zZ, zC, i64_w, i32_w]
          rfl
        refine one_ (i := 11) (N := some 27) #[T_, T_, T_, T_, T_, T_, T_, T_, T_, T_, T_, T_, F_, F_, F_, F_, F_, F_, F_, F_, F_, F_] rfl rfl (one_of HT_.out (by kernel_rfl)) (by decide) (fun K hK => ?_)
        refine goes_ Try.func29 (by kernel_rfl) rfl #[.agg #[.int .i64 ((rd_T24 x3_1 (ji37)).f0), .int .i64 ((rd_T24 x3_1 (ji37)).f1)], .agg #[.int .i64 ((rd_T24 l0 x12_2).f0), .int .i64 ((rd_T24 l0 x12_2).f1)]] (by rfl) rfl rfl (by (try simp only [List.map_toArray, List.map_cons, List.map_nil]); first | done | (simp only [hji37]; rfl) | rfl | (simp only [List.length_drop, List.length_take]; rfl)) ?_
        with_reducible refine (ropewayref05_Less.calls k2 ((rd_T24 x3_1 (ji37)).f0) ((rd_T24 x3_1 (ji37)).f1) ((rd_T24 l0 x12_2).f0) ((rd_T24 l0 x12_2).f1) true _ A40.out).mono ?_
        rintro e w69 ⟨rfl, hb⟩
        have HS2_ := (hb.cell (World.block_lt_of_cell? _ _ (hHeld.2.2.1))).trans (hHeld.2.2.1)
        have HS3_ := (hb.cell (World.block_lt_of_cell? _ _ (hHeld.2.2.2))).trans (hHeld.2.2.2)
        refine ⟨_, rfl, ?_⟩
        replace HO_3 := zM (Kd.R_below (rl_ HO_3) hb)
        replace BK269 := zM (bb_ BK269 hb)
        replace BK274 := zM (bb_ BK274 hb)
        replace HB := zM (zB bel_ hb)
        (try clear hb)
        (try clear hb2)
        (try clear hk)
        (try clear hi)
        refine hK.out _ _ ⟨(zL BK274.out 0).trans rfl, (zL BK274.out 1).trans rfl, HS2_, HS3_⟩ (fun hHeld => ?_)
        clear hK K
        refine norm_ (a' := ?_) ?_ ?_
        rotate_left
        · show Act.put _ (some 27) _ = _
          simp only [Act.put, zS, zZ, zC, i64_w, i32_w]
          rfl
        refine pure_ (i := 12) (N := some 28) (v := ?_) (a' := ?_) #[T_, T_, T_, T_, T_, T_, T_, T_, T_, T_, T_, T_, T_, F_, F_, F_, F_, F_, F_, F_, F_, F_] rfl rfl (any_of HT_.out (by kernel_rfl)) (fun _ _ _ h => h) (Or.inl ⟨by rfl, ?_⟩) ?_ ?_
        rotate_left
        · intro w'
          go_simp
          with_reducible rfl
        rotate_left
        · simp only [Act.put, zS, zZ, zC, i64_w, i32_w]
          rfl
        refine pure_ (i := 13) (N := some 29) (v := ?_) (a' := ?_) #[T_, T_, T_, T_, T_, T_, T_, T_, T_, T_, T_, T_, T_, T_, F_, F_, F_, F_, F_, F_, F_, F_] rfl rfl (any_of HT_.out (by kernel_rfl)) (fun _ _ _ h => h) (Or.inl ⟨by rfl, ?_⟩) ?_ ?_
        rotate_left
        · intro w'
          go_simp
          with_reducible rfl
        rotate_left
        · simp only [Act.put, zS, zZ, zC, i64_w, i32_w]
          rfl
        refine pure_ (i := 14) (N := some 30) (v := ?_) (a' := ?_) #[T_, T_, T_, T_, T_, T_, T_, T_, T_, T_, T_, T_, T_, T_, T_, F_, F_, F_, F_, F_, F_, F_] rfl rfl (any_of HT_.out (by kernel_rfl)) (fun _ _ _ h => h) (Or.inl ⟨by rfl, ?_⟩) ?_ ?_
        rotate_left
        · intro w'
          go_simp
          with_reducible rfl
        rotate_left
        · simp only [Act.put, zS, zZ, zC, i64_w, i32_w]
          rfl
        refine pure_ (i := 15) (N := some 31) (v := ?_) (a' := ?_) #[T_, T_, T_, T_, T_, T_, T_, T_, T_, T_, T_, T_, T_, T_, T_, T_, F_, F_, F_, F_, F_, F_] rfl rfl (any_of HT_.out (by kernel_rfl)) (fun _ _ _ h => h) (Or.inl ⟨by rfl, ?_⟩) ?_ ?_
        rotate_left
        · intro w'
          go_simp
          with_reducible rfl
        rotate_left
        · simp only [Act.put, zS, zZ, zC, i64_w, i32_w]
          rfl
        refine pure_ (i := 16) (N := some 32) (v := ?_) (a' := ?_) #[T_, T_, T_, T_, T_, T_, T_, T_, T_, T_, T_, T_, T_, T_, T_, T_, T_, F_, F_, F_, F_, F_] rfl rfl (any_of HT_.out (by kernel_rfl)) (fun _ _ _ h => h) (Or.inl ⟨by rfl, ?_⟩) ?_ ?_
        rotate_left
        · intro w'
          go_simp
          with_reducible rfl
        rotate_left
        · simp only [Act.put, zS, zZ, zC, i64_w, i32_w]
          rfl
        refine pure_ (i := 17) (N := some 33) (v := undef) (a' := ?_) #[T_, T_, T_, T_, T_, T_, T_, T_, T_, T_, T_, T_, T_, T_, T_, T_, T_, T_, F_, F_, F_, F_] rfl rfl (any_of HT_.out (by kernel_rfl)) (fun _ _ _ h => h) (Or.inr ⟨by rfl, rfl⟩) ?_ ?_
        rotate_left
        · simp only [Act.put, zS, zZ, zC, i64_w, i32_w]
          rfl
        refine pure_ (i := 18) (N := some 34) (v := undef) (a' := ?_) #[T_, T_, T_, T_, T_, T_, T_, T_, T_, T_, T_, T_, T_, T_, T_, T_, T_, T_, T_, F_, F_, F_] rfl rfl (any_of HT_.out (by kernel_rfl)) (fun _ _ _ h => h) (Or.inr ⟨by rfl, rfl⟩) ?_ ?_
        rotate_left
        · simp only [Act.put, zS, zZ, zC, i64_w, i32_w]
          rfl
        refine pure_ (i := 19) (N := some 35) (v := undef) (a' := ?_) #[T_, T_, T_, T_, T_, T_, T_, T_, T_, T_, T_, T_, T_, T_, T_, T_, T_, T_, T_, T_, F_, F_] rfl rfl (any_of HT_.out (by kernel_rfl)) (fun _ _ _ h => h) (Or.inr ⟨by rfl, rfl⟩) ?_ ?_
        rotate_left
        · simp only [Act.put, zS, zZ, zC, i64_w, i32_w]
          rfl
        refine pure_ (i := 20) (N := some 36) (v := ?_) (a' := ?_) #[T_, T_, T_, T_, T_, T_, T_, T_, T_, T_, T_, T_, T_, T_, T_, T_, T_, T_, T_, T_, T_, F_] rfl rfl (any_of HT_.out (by kernel_rfl)) (fun _ _ _ h => h) (Or.inl ⟨by rfl, ?_⟩) ?_ ?_
        rotate_left
        · intro w'
          go_simp
          with_reducible rfl
        rotate_left
        · simp only [Act.put, zS, zZ, zC, i64_w, i32_w]
          rfl
        refine pure_ (i := 21) (N := some 37) (v := ?_) (a' := ?_) #[T_, T_, T_, T_, T_, T_, T_, T_, T_, T_, T_, T_, T_, T_, T_, T_, T_, T_, T_, T_, T_, T_] rfl rfl (any_of HT_.out (by kernel_rfl)) (fun _ _ _ h => h) (Or.inl ⟨by rfl, ?_⟩) ?_ ?_
        rotate_left
        · intro w'
          go_simp
          with_reducible rfl
        rotate_left
        · simp only [Act.put, zS, zZ, zC, i64_w, i32_w]
          rfl
        refine done_ (done_of HT_.out (by kernel_rfl)) ?_
        have hcz70_0 : w69.cell? ⟨gb274, 0, none⟩ = some (.int .i64 ((rd_T24 l0 x12_2).f0)) := (zL BK274.out 0).trans rfl
        have hcz70_1 : w69.cell? ⟨gb274, 1, none⟩ = some (.int .i64 ((rd_T24 l0 x12_2).f1)) := (zL BK274.out 1).trans rfl
        have hfz70_0 := zF BK274.out 0
        have hfz70_1 := zF BK274.out 1
        have hcz71_0 : w69.cell? ⟨gb269, 0, none⟩ = some (.int .i64 x270000_2) := (zL BK269.out 0).trans rfl
        have hcz71_1 : w69.cell? ⟨gb269, 1, none⟩ = some (.int .i64 x270001_2) := (zL BK269.out 1).trans rfl
        have hfz71_0 := zF BK269.out 0
        have hfz71_1 := zF BK269.out 1
        try go_wp2
        go_roundg k2
        case measure => have := HK1.out; have := HK2.out; omega
        case rel => exact ⟨(true), (wrap64 (x12_2 + 1)), ((rd_T24 l0 x12_2).f0), ((rd_T24 l0 x12_2).f1), (by first | rfl | (simp; done) | (simp [*]; done) | (simp; grind)), (by first | rfl | (simp; done) | (simp [*]; done) | (simp; grind)), H', ⟨by have := HK1.out; have := HK2.out; omega⟩, ⟨by (with_reducible repeat (first | apply Kd.R_alloc | apply Kd.R_drewN | apply Kd.R_drew)); exact Kd.R_mono (Kd.R_far (p := ⟨gb269, 1, none⟩) (Kd.R_far (p := ⟨gb269, 0, none⟩) (Kd.R_mono HO_3.out (fun k_ hk => (⟨hk, hk.1⟩ : _ ∧ k_ ≠ gb269))) (fun _ hk => hk.2) (.int .i64 ((rd_T24 l0 x12_2).f0))) (fun _ hk => hk.2) (.int .i64 ((rd_T24 l0 x12_2).f1))) (fun _ hk => hk.1.1)⟩, ⟨by (with_reducible repeat (first | refine zN ?_ _ | refine zD ?_ | refine zA ?_ _)); refine blk_put (cs := #[.int .i64 ((rd_T24 l0 x12_2).f0), .int .i64 x270001_2]) ?_ 1 _ rfl; (with_reducible repeat (first | refine zN ?_ _ | refine zD ?_ | refine zA ?_ _)); refine blk_put (cs := #[.int .i64 x270000_2, .int .i64 x270001_2]) ?_ 0 _ rfl; (with_reducible repeat (first | refine zN ?_ _ | refine zD ?_ | refine zA ?_ _)); exact BK269.out⟩, ⟨bel_⟩⟩
      subst c42
      have H1 : ((ropewayref05_Less.f k2 ((rd_T24 l0 x12_2).f0) ((rd_T24 l0 x12_2).f1) x270000_2 x270001_2).bind fun t278 => (if t278 = true then (ropewayref16_sorted.l1 k2 l0 x3_1 true l0 (l0.length : Int) (wrap64 (x12_2 + 1)) ((rd_T24 l0 x12_2).f0) ((rd_T24 l0 x12_2).f1)) else (ropewayref16_sorted.l1 k2 l0 x3_1 true l0 (l0.length : Int) (wrap64 (x12_2 + 1)) x270000_2 x270001_2))) = some r := by rw [if_pos rfl] at H; exact H
      clear H
      have H := H1
      clear H1
      replace H := Option.bind_eq_some_iff.mp H
      obtain ⟨t278, A430, H⟩ := H
      replace H : (if t278 = true then (ropewayref16_sorted.l1 k2 l0 x3_1 true l0 (l0.length : Int) (wrap64 (x12_2 + 1)) ((rd_T24 l0 x12_2).f0) ((rd_T24 l0 x12_2).f1)) else (ropewayref16_sorted.l1 k2 l0 x3_1 true l0 (l0.length : Int) (wrap64 (x12_2 + 1)) x270000_2 x270001_2)) = some r := H
      have A43 := zM A430
      clear A430
      by_cases c44 : t278 = true
      rotate_left
      · replace c44 := Bool.eq_false_iff.mpr c44
        subst c44
        have H1 : (ropewayref16_sorted.l1 k2 l0 x3_1 true l0 (l0.length : Int) (wrap64 (x12_2 + 1)) x270000_2 x270001_2) = some r := by rw [if_neg (show ¬ (false = true) by decide)] at H; exact H
        clear H
        have H := H1
        clear H1
        have H' := zM H
        clear H
        have p273 : 0 ≤ (x12_2 : Int) := of_decide_eq_true (by first | (with_reducible assumption) | assumption)
        have q273 : x12_2 < (l0.length : Int) := of_decide_eq_true (by first | (with_reducible assumption) | assumption)
        obtain ⟨ad273, e273, hx273_0, hx273_1⟩ := at_T24 HR0.out x12_2 p273 q273
        cases e273
        replace hx273_0 := (HB.out.cell (World.block_lt_of_cell? w _ hx273_0)).trans hx273_0
        replace hx273_1 := (HB.out.cell (World.block_lt_of_cell? w _ hx273_1)).trans hx273_1
        replace p273 := eq_true p273
        replace q273 := eq_true q273
        try go_wp2_with (first | ((with_reducible refine gate_dst (N := 7) rfl ?_); (try (refine gate_guard (by rfl) ?_; dsimp only)); refine box_event ?hg (N := 7) ?hd (cs := #[.int .i64 0, .int .i64 0]) (t := 24) ?hr ?_; (case hd => rfl); (case hg => rfl); (case hr => first | (go_simp; done) | (go_simp; rfl)); intro gb274 hg w55 hbox hb; replace HO_3 := zM (Kd.R_below (Kd.R_elderB (rl_ HO_3) gb274 (Nat.le_of_eq hg.symm)) hb); have BK274 := zM (hbox); have GW274 := zM (bs_ hg); have GE274 := zM (bs_ hg); replace HB := zM (zB bel_ hb); have NB269_274 := zM (nl_ BK269 hg); have NB274_269 := zM (ng_ BK269 hg); replace BK269 := zM (bb_ BK269 hb); clear hb hbox hg; have hnb56 := NB274_269.out; have hnc56 := NB269_274.out; have hcz57_0 : w55.cell? ⟨gb274, 0, none⟩ = some (.int .i64 0) := (zL BK274.out 0).trans rfl; have hcz57_1 : w55.cell? ⟨gb274, 1, none⟩ = some (.int .i64 0) := (zL BK274.out 1).trans rfl; have hfz57_0 := zF BK274.out 0; have hfz57_1 := zF BK274.out 1))
        replace HO_3 : Aside0 (Kd.R k24 24 ((w55.setCell ⟨gb274, 0, none⟩ (.int .i64 ((rd_T24 l0 x12_2).f0))).setCell ⟨gb274, 1, none⟩ (.int .i64 ((rd_T24 l0 x12_2).f1))) w.heap.size (fun k_ => k_ ≠ gb269 ∧ k_ ≠ gb274) u3 x3_1) := ⟨by (with_reducible repeat (first | apply Kd.R_alloc | apply Kd.R_drewN | apply Kd.R_drew)); exact Kd.R_mono (Kd.R_far (p := ⟨gb274, 1, none⟩) (Kd.R_far (p := ⟨gb274, 0, none⟩) (Kd.R_mono HO_3.out (fun k_ hk => (⟨hk, hk.2⟩ : _ ∧ k_ ≠ gb274))) (fun _ hk => hk.2) (.int .i64 ((rd_T24 l0 x12_2).f0))) (fun _ hk => hk.2) (.int .i64 ((rd_T24 l0 x12_2).f1))) (fun _ hk => ⟨hk.1.1, hk.1.2⟩)⟩
        replace BK269 : Aside0 (((w55.setCell ⟨gb274, 0, none⟩ (.int .i64 ((rd_T24 l0 x12_2).f0))).setCell ⟨gb274, 1, none⟩ (.int .i64 ((rd_T24 l0 x12_2).f1))).heap[gb269]? = some (.cells #[.int .i64 x270000_2, .int .i64 x270001_2] 24 (0, 0))) := ⟨blf_⟩
        replace BK274 : Aside0 (((w55.setCell ⟨gb274, 0, none⟩ (.int .i64 ((rd_T24 l0 x12_2).f0))).setCell ⟨gb274, 1, none⟩ (.int .i64 ((rd_T24 l0 x12_2).f1))).heap[gb274]? = some (.cells #[.int .i64 ((rd_T24 l0 x12_2).f0), .int .i64 ((rd_T24 l0 x12_2).f1)] 24 (0, 0))) := ⟨by (with_reducible repeat (first | refine zN ?_ _ | refine zD ?_ | refine zA ?_ _)); refine blk_put (cs := #[.int .i64 ((rd_T24 l0 x12_2).f0), .int .i64 0]) ?_ 1 _ rfl; (with_reducible repeat (first | refine zN ?_ _ | refine zD ?_ | refine zA ?_ _)); refine blk_put (cs := #[.int .i64 0, .int .i64 0]) ?_ 0 _ rfl; (with_reducible repeat (first | refine zN ?_ _ | refine zD ?_ | refine zA ?_ _)); exact BK274.out⟩
        replace HB : Aside0 (Below w.heap.size w ((w55.setCell ⟨gb274, 0, none⟩ (.int .i64 ((rd_T24 l0 x12_2).f0))).setCell ⟨gb274, 1, none⟩ (.int .i64 ((rd_T24 l0 x12_2).f1)))) := ⟨bel_⟩
        generalize ((w55.setCell ⟨gb274, 0, none⟩ (.int .i64 ((rd_T24 l0 x12_2).f0))).setCell ⟨gb274, 1, none⟩ (.int .i64 ((rd_T24 l0 x12_2).f1))) = w58 at HO_3 BK269 BK274 HB ⊢
        replace HO_3 := zM (Kd.R_drew HO_3.out)
        replace BK269 := zM (zD BK269.out)
        replace BK274 := zM (zD BK274.out)
        replace HB := zM (below_drew1 HB.out)
        obtain ⟨Ao60, co60, eo60⟩ := Kd.R_slice HO_3.out
        (first | subst eo60 | (injection eo60 with f1_ f2_ f3_; have f4_ := f1_.symm; have f5_ := f3_.symm; clear f1_ f2_ f3_; subst f4_; subst f5_))
        have p276 : 0 ≤ ((ji37) : Int) := of_decide_eq_true (by first | (with_reducible assumption) | assumption)
        have q276 : (ji37) < (x3_1.length : Int) := of_decide_eq_true (by first | (with_reducible assumption) | assumption)
        obtain ⟨ad276, e276, hx276_0, hx276_1⟩ := at_T24 (Kd.R_reads' HO_3.out).2.2 (ji37) p276 q276
        cases e276
        replace p276 := eq_true p276
        replace q276 := eq_true q276
        refine start_ (n := 22) (S := fun w' => w'.cell? ⟨gb274, 0, none⟩ = some (.int .i64 ((rd_T24 l0 x12_2).f0)) ∧ w'.cell? ⟨gb274, 1, none⟩ = some (.int .i64 ((rd_T24 l0 x12_2).f1)) ∧ w'.cell? ⟨gb269, 0, none⟩ = some (.int .i64 x270000_2) ∧ w'.cell? ⟨gb269, 1, none⟩ = some (.int .i64 x270001_2) ∧ w'.cell? (ad276.add (((ji37)).toNat * 2)) = some (.int .i64 ((rd_T24 x3_1 (ji37)).f0)) ∧ w'.cell? ⟨(ad276.add (((ji37)).toNat * 2)).block, (ad276.add (((ji37)).toNat * 2)).off + 1, none⟩ = some (.int .i64 ((rd_T24 x3_1 (ji37)).f1))) (ds := []) #[F_, F_, F_, F_, F_, F_, F_, F_, F_, F_, F_, F_, F_, F_, F_, F_, F_, F_, F_, F_, F_, F_] (by kernel_rfl) rfl rfl ⟨(zL BK274.out 0).trans rfl, (zL BK274.out 1).trans rfl, (zL BK269.out 0).trans rfl, (zL BK269.out 1).trans rfl, hx276_0, hx276_1⟩ (fun hHeld => ?_); refine with_tabW ropewayref16_sorted.tab6 ropewayref16_sorted.bits6 (fun HT_ HW_ => ?_)
        generalize w58.drew = w59 at HO_3 BK269 BK274 HB hx276_0 hx276_1 hHeld ⊢
        refine pure_ (i := 0) (N := some 16) (v := ?_) (a' := ?_) #[T_, F_, F_, F_, F_, F_, F_, F_, F_, F_, F_, F_, F_, F_, F_, F_, F_, F_, F_, F_, F_, F_] rfl rfl (any_of HT_.out (by kernel_rfl)) (fun _ _ _ h => h) (Or.inl ⟨by rfl, ?_⟩) ?_ ?_
        rotate_left
        · intro w'
          go_simp
          with_reducible rfl
        rotate_left
        · simp only [Act.put, zS, zZ, zC, i64_w, i32_w]
          rfl
        refine pure_ (i := 1) (N := some 17) (v := ?_) (a' := ?_) #[T_, T_, F_, F_, F_, F_, F_, F_, F_, F_, F_, F_, F_, F_, F_, F_, F_, F_, F_, F_, F_, F_] rfl rfl (any_of HT_.out (by kernel_rfl)) (fun _ _ _ h => h) (Or.inl ⟨by rfl, ?_⟩) ?_ ?_
        rotate_left
        · intro w'
          go_simp
          with_reducible rfl
        rotate_left
        · simp only [Act.put, zS, zZ, zC, i64_w, i32_w]
          rfl
        refine pure_ (i := 2) (N := some 18) (v := ?_) (a' := ?_) #[T_, T_, T_, F_, F_, F_, F_, F_, F_, F_, F_, F_, F_, F_, F_, F_, F_, F_, F_, F_, F_, F_] rfl rfl (any_of HT_.out (by kernel_rfl)) (fun _ _ _ h => h) (Or.inl ⟨by rfl, ?_⟩) ?_ ?_
        rotate_left
        · intro w'
          go_simp
          with_reducible rfl
        rotate_left
        · simp only [Act.put, zS, zZ, zC, i64_w, i32_w]
          rfl
        refine pure_ (i := 3) (N := some 19) (v := ?_) (a' := ?_) #[T_, T_, T_, T_, F_, F_, F_, F_, F_, F_, F_, F_, F_, F_, F_, F_, F_, F_, F_, F_, F_, F_] rfl rfl (any_of HT_.out (by kernel_rfl)) (fun _ _ _ h => h) (Or.inl ⟨by rfl, ?_⟩) ?_ ?_
        rotate_left
        · intro w'
          go_simp
          with_reducible rfl
        rotate_left
        · simp only [Act.put, zS, zZ, zC, i64_w, i32_w]
          rfl
        refine pure_ (i := 4) (N := some 20) (v := ?_) (a' := ?_) #[T_, T_, T_, T_, T_, F_, F_, F_, F_, F_, F_, F_, F_, F_, F_, F_, F_, F_, F_, F_, F_, F_] rfl rfl (any_of HT_.out (by kernel_rfl)) (fun _ _ _ h => h) (Or.inl ⟨by rfl, ?_⟩) ?_ ?_
        rotate_left
        · intro w'
          go_simp
          with_reducible rfl
        rotate_left
        · simp only [Act.put, zS, zZ, zC, i64_w, i32_w]
          rfl
        refine pure_ (i := 5) (N := some 21) (v := ?_) (a' := ?_) #[T_, T_, T_, T_, T_, T_, F_, F_, F_, F_, F_, F_, F_, F_, F_, F_, F_, F_, F_, F_, F_, F_] rfl rfl (any_of HT_.out (by kernel_rfl)) (fun _ _ _ h => h) (Or.inl ⟨by rfl, ?_⟩) ?_ ?_
        rotate_left
        · intro w'
          go_simp
          with_reducible rfl
        rotate_left
        · simp only [Act.put, zS, zZ, zC, i64_w, i32_w]
          rfl
        refine pure_ (i := 6) (N := some 22) (v := ?_) (a' := ?_) #[T_, T_, T_, T_, T_, T_, T_, F_, F_, F_, F_, F_, F_, F_, F_, F_, F_, F_, F_, F_, F_, F_] rfl rfl (any_of HT_.out (by kernel_rfl)) (fun _ _ _ h => h) (Or.inl ⟨by rfl, ?_⟩) ?_ ?_
        rotate_left
        · intro w'
          go_simp
          with_reducible rfl
        rotate_left
        · simp only [Act.put, zS, zZ, zC, i64_w, i32_w]
          rfl
        refine pure_ (i := 7) (N := some 23) (v := ?_) (a' := ?_) #[T_, T_, T_, T_, T_, T_, T_, T_, F_, F_, F_, F_, F_, F_, F_, F_, F_, F_, F_, F_, F_, F_] rfl rfl (any_of HT_.out (by kernel_rfl)) (fun _ _ _ h => h) (Or.inl ⟨by rfl, ?_⟩) ?_ ?_
        rotate_left
        · intro w'
          go_simp
          with_reducible rfl
        rotate_left
        · simp only [Act.put, zS, zZ, zC, i64_w, i32_w]
          rfl
        refine pure_ (i := 8) (N := some 24) (v := ?_) (a' := ?_) #[T_, T_, T_, T_, T_, T_, T_, T_, T_, F_, F_, F_, F_, F_, F_, F_, F_, F_, F_, F_, F_, F_] rfl rfl (any_of HT_.out (by kernel_rfl)) (fun _ _ _ h => h) (Or.inl ⟨by rfl, ?_⟩) ?_ ?_
        rotate_left
        · intro w'
          go_simp
          with_reducible rfl
        rotate_left
        · simp only [Act.put, zS, zZ, zC, i64_w, i32_w]
          rfl
        refine take_ (i := 9) (N := some 25) (v := ?_) (a' := ?_) #[T_, T_, T_, T_, T_, T_, T_, T_, T_, T_, F_, F_, F_, F_, F_, F_, F_, F_, F_, F_, F_, F_] rfl rfl (take_ofW HT_.out HW_.out (by kernel_rfl)) (fun _ _ _ h => h) (Or.inl ⟨by rfl, ?_⟩) hHeld ?_ ?_
        rotate_left
        · rintro w' ⟨s0, s1, s2, s3, s4, s5⟩
          go_simp
          with_reducible rfl
        rotate_left
        · simp only [Act.put, zS, zZ, zC, i64_w, i32_w]
          rfl
        refine take_ (i := 10) (N := some 26) (v := ?_) (a' := ?_) #[T_, T_, T_, T_, T_, T_, T_, T_, T_, T_, T_, F_, F_, F_, F_, F_, F_, F_, F_, F_, F_, F_] rfl rfl (take_ofW HT_.out HW_.out (by kernel_rfl)) (fun _ _ _ h => h) (Or.inl ⟨by rfl, ?_⟩) hHeld ?_ ?_
        rotate_left
        · rintro w' ⟨s0, s1, s2, s3, s4, s5⟩
          go_simp
          with_reducible rfl
        rotate_left
        · simp only [Act.put, zS, zZ, zC, i64_w, i32_w]
          rfl
        refine one_ (i := 11) (N := some 27) #[T_, T_, T_, T_, T_, T_, T_, T_, T_, T_, T_, T_, F_, F_, F_, F_, F_, F_, F_, F_, F_, F_] rfl rfl (one_of HT_.out (by kernel_rfl)) (by decide) (fun K hK => ?_)
        refine goes_ Try.func29 (by kernel_rfl) rfl #[.agg #[.int .i64 ((rd_T24 x3_1 (ji37)).f0), .int .i64 ((rd_T24 x3_1 (ji37)).f1)], .agg #[.int .i64 ((rd_T24 l0 x12_2).f0), .int .i64 ((rd_T24 l0 x12_2).f1)]] (by rfl) rfl rfl (by (try simp only [List.map_toArray, List.map_cons, List.map_nil]); first | done | (simp only [hji37]; rfl) | rfl | (simp only [List.length_drop, List.length_take]; rfl)) ?_
        with_reducible refine (ropewayref05_Less.calls k2 ((rd_T24 x3_1 (ji37)).f0) ((rd_T24 x3_1 (ji37)).f1) ((rd_T24 l0 x12_2).f0) ((rd_T24 l0 x12_2).f1) true _ A40.out).mono ?_
        rintro e w61 ⟨rfl, hb⟩
        have HS4_ := (hb.cell (World.block_lt_of_cell? _ _ (hHeld.2.2.2.2.1))).trans (hHeld.2.2.2.2.1)
        have HS5_ := (hb.cell (World.block_lt_of_cell? _ _ (hHeld.2.2.2.2.2))).trans (hHeld.2.2.2.2.2)
        refine ⟨_, rfl, ?_⟩
        replace HO_3 := zM (Kd.R_below (rl_ HO_3) hb)
        replace BK269 := zM (bb_ BK269 hb)
        replace BK274 := zM (bb_ BK274 hb)
        replace HB := zM (zB bel_ hb)
        (try clear hb)
        (try clear hb2)
        (try clear hk)
        (try clear hi)
        refine hK.out _ _ ⟨(zL BK274.out 0).trans rfl, (zL BK274.out 1).trans rfl, (zL BK269.out 0).trans rfl, (zL BK269.out 1).trans rfl, HS4_, HS5_⟩ (fun hHeld => ?_)
        clear hK K
        refine norm_ (a' := ?_) ?_ ?_
        rotate_left
        · show Act.put _ (some 27) _ = _
          simp only [Act.put, zS, zZ, zC, i64_w, i32_w]
          rfl
        refine pure_ (i := 12) (N := some 28) (v := ?_) (a' := ?_) #[T_, T_, T_, T_, T_, T_, T_, T_, T_, T_, T_, T_, T_, F_, F_, F_, F_, F_, F_, F_, F_, F_] rfl rfl (any_of HT_.out (by kernel_rfl)) (fun _ _ _ h => h) (Or.inl ⟨by rfl, ?_⟩) ?_ ?_
        rotate_left
        · intro w'
          go_simp
          with_reducible rfl
        rotate_left
        · simp only [Act.put, zS, zZ, zC, i64_w, i32_w]
          rfl
        refine pure_ (i := 13) (N := some 29) (v := ?_) (a' := ?_) #[T_, T_, T_, T_, T_, T_, T_, T_, T_, T_, T_, T_, T_, T_, F_, F_, F_, F_, F_, F_, F_, F_] rfl rfl (any_of HT_.out (by kernel_rfl)) (fun _ _ _ h => h) (Or.inl ⟨by rfl, ?_⟩) ?_ ?_
        rotate_left
        · intro w'
          go_simp
          with_reducible rfl
        rotate_left
        · simp only [Act.put, zS, zZ, zC, i64_w, i32_w]
          rfl
        refine pure_ (i := 14) (N := some 30) (v := ?_) (a' := ?_) #[T_, T_, T_, T_, T_, T_, T_, T_, T_, T_, T_, T_, T_, T_, T_, F_, F_, F_, F_, F_, F_, F_] rfl rfl (any_of HT_.out (by kernel_rfl)) (fun _ _ _ h => h) (Or.inl ⟨by rfl, ?_⟩) ?_ ?_
        rotate_left
        · intro w'
          go_simp
          with_reducible rfl
        rotate_left
        · simp only [Act.put, zS, zZ, zC, i64_w, i32_w]
          rfl
        refine pure_ (i := 15) (N := some 31) (v := ?_) (a' := ?_) #[T_, T_, T_, T_, T_, T_, T_, T_, T_, T_, T_, T_, T_, T_, T_, T_, F_, F_, F_, F_, F_, F_] rfl rfl (any_of HT_.out (by kernel_rfl)) (fun _ _ _ h => h) (Or.inl ⟨by rfl, ?_⟩) ?_ ?_
        rotate_left
        · intro w'
          go_simp
          with_reducible rfl
        rotate_left
        · simp only [Act.put, zS, zZ, zC, i64_w, i32_w]
          rfl
        refine pure_ (i := 16) (N := some 32) (v := ?_) (a' := ?_) #[T_, T_, T_, T_, T_, T_, T_, T_, T_, T_, T_, T_, T_, T_, T_, T_, T_, F_, F_, F_, F_, F_] rfl rfl (any_of HT_.out (by kernel_rfl)) (fun _ _ _ h => h) (Or.inl ⟨by rfl, ?_⟩) ?_ ?_
        rotate_left
        · intro w'
          go_simp
          with_reducible rfl
        rotate_left
        · simp only [Act.put, zS, zZ, zC, i64_w, i32_w]
          rfl
        refine take_ (i := 17) (N := some 33) (v := ?_) (a' := ?_) #[T_, T_, T_, T_, T_, T_, T_, T_, T_, T_, T_, T_, T_, T_, T_, T_, T_, T_, F_, F_, F_, F_] rfl rfl (take_ofW HT_.out HW_.out (by kernel_rfl)) (fun _ _ _ h => h) (Or.inl ⟨by rfl, ?_⟩) hHeld ?_ ?_
        rotate_left
        · rintro w' ⟨s0, s1, s2, s3, s4, s5⟩
          go_simp
          with_reducible rfl
        rotate_left
        · simp only [Act.put, zS, zZ, zC, i64_w, i32_w]
          rfl
        refine take_ (i := 18) (N := some 34) (v := ?_) (a' := ?_) #[T_, T_, T_, T_, T_, T_, T_, T_, T_, T_, T_, T_, T_, T_, T_, T_, T_, T_, T_, F_, F_, F_] rfl rfl (take_ofW HT_.out HW_.out (by kernel_rfl)) (fun _ _ _ h => h) (Or.inl ⟨by rfl, ?_⟩) hHeld ?_ ?_
        rotate_left
        · rintro w' ⟨s0, s1, s2, s3, s4, s5⟩
          go_simp
          with_reducible rfl
        rotate_left
        · simp only [Act.put, zS, zZ, zC, i64_w, i32_w]
          rfl
        refine one_ (i := 19) (N := some 35) #[T_, T_, T_, T_, T_, T_, T_, T_, T_, T_, T_, T_, T_, T_, T_, T_, T_, T_, T_, T_, F_, F_] rfl rfl (one_of HT_.out (by kernel_rfl)) (by decide) (fun K hK => ?_)
        refine goes_ Try.func29 (by kernel_rfl) rfl #[.agg #[.int .i64 ((rd_T24 l0 x12_2).f0), .int .i64 ((rd_T24 l0 x12_2).f1)], .agg #[.int .i64 x270000_2, .int .i64 x270001_2]] (by rfl) rfl rfl (by (try simp only [List.map_toArray, List.map_cons, List.map_nil]); first | done | rfl | (simp only [List.length_drop, List.length_take]; rfl)) ?_
        with_reducible refine (ropewayref05_Less.calls k2 ((rd_T24 l0 x12_2).f0) ((rd_T24 l0 x12_2).f1) x270000_2 x270001_2 false _ A43.out).mono ?_
        rintro e w62 ⟨rfl, hb⟩
        have HS4_ := (hb.cell (World.block_lt_of_cell? _ _ (hHeld.2.2.2.2.1))).trans (hHeld.2.2.2.2.1)
        have HS5_ := (hb.cell (World.block_lt_of_cell? _ _ (hHeld.2.2.2.2.2))).trans (hHeld.2.2.2.2.2)
        refine ⟨_, rfl, ?_⟩
        replace HO_3 := zM (Kd.R_below (rl_ HO_3) hb)
        replace BK269 := zM (bb_ BK269 hb)
        replace BK274 := zM (bb_ BK274 hb)
        replace HB := zM (zB bel_ hb)
        (try clear hb)
        (try clear hb2)
        (try clear hk)
        (try clear hi)
        refine hK.out _ _ ⟨(zL BK274.out 0).trans rfl, (zL BK274.out 1).trans rfl, (zL BK269.out 0).trans rfl, (zL BK269.out 1).trans rfl, HS4_, HS5_⟩ (fun hHeld => ?_)
        clear hK K
        refine norm_ (a' := ?_) ?_ ?_
        rotate_left
        · show Act.put _ (some 35) _ = _
          simp only [Act.put, zS, zZ, zC, i64_w, i32_w]
          rfl
        refine pure_ (i := 20) (N := some 36) (v := ?_) (a' := ?_) #[T_, T_, T_, T_, T_, T_, T_, T_, T_, T_, T_, T_, T_, T_, T_, T_, T_, T_, T_, T_, T_, F_] rfl rfl (any_of HT_.out (by kernel_rfl)) (fun _ _ _ h => h) (Or.inl ⟨by rfl, ?_⟩) ?_ ?_
        rotate_left
        · intro w'
          go_simp
          with_reducible rfl
        rotate_left
        · simp only [Act.put, zS, zZ, zC, i64_w, i32_w]
          rfl
        refine pure_ (i := 21) (N := some 37) (v := ?_) (a' := ?_) #[T_, T_, T_, T_, T_, T_, T_, T_, T_, T_, T_, T_, T_, T_, T_, T_, T_, T_, T_, T_, T_, T_] rfl rfl (any_of HT_.out (by kernel_rfl)) (fun _ _ _ h => h) (Or.inl ⟨by rfl, ?_⟩) ?_ ?_
        rotate_left
        · intro w'
          go_simp
          with_reducible rfl
        rotate_left
        · simp only [Act.put, zS, zZ, zC, i64_w, i32_w]
          rfl
        refine done_ (done_of HT_.out (by kernel_rfl)) ?_
        try go_wp2
        go_roundg k2
        case measure => have := HK1.out; have := HK2.out; omega
        case rel => exact ⟨(true), (wrap64 (x12_2 + 1)), (x270000_2), (x270001_2), (by first | rfl | (simp; done) | (simp [*]; done) | (simp; grind)), (by first | rfl | (simp; done) | (simp [*]; done) | (simp; grind)), H', ⟨by have := HK1.out; have := HK2.out; omega⟩, ⟨by (with_reducible repeat (first | apply Kd.R_alloc | apply Kd.R_drewN | apply Kd.R_drew)); exact Kd.R_mono HO_3.out (fun _ hk => hk.1)⟩, ⟨blf_⟩, ⟨bel_⟩⟩
      subst c44
      have H1 : (ropewayref16_sorted.l1 k2 l0 x3_1 true l0 (l0.length : Int) (wrap64 (x12_2 + 1)) ((rd_T24 l0 x12_2).f0) ((rd_T24 l0 x12_2).f1)) = some r := by rw [if_pos rfl] at H; exact H
      clear H
      have H := H1
      clear H1
      have H' := zM H
      clear H
      have p273 : 0 ≤ (x12_2 : Int) := of_decide_eq_true (by first | (with_reducible assumption) | assumption)
      have q273 : x12_2 < (l0.length : Int) := of_decide_eq_true (by first | (with_reducible assumption) | assumption)
      obtain ⟨ad273, e273, hx273_0, hx273_1⟩ := at_T24 HR0.out x12_2 p273 q273
      cases e273
      replace hx273_0 := (HB.out.cell (World.block_lt_of_cell? w _ hx273_0)).trans hx273_0
      replace hx273_1 := (HB.out.cell (World.block_lt_of_cell? w _ hx273_1)).trans hx273_1
      replace p273 := eq_true p273
      replace q273 := eq_true q273
      try go_wp2_with (first | ((with_reducible refine gate_dst (N := 7) rfl ?_); (try (refine gate_guard (by rfl) ?_; dsimp only)); refine box_event ?hg (N := 7) ?hd (cs := #[.int .i64 0, .int .i64 0]) (t := 24) ?hr ?_; (case hd => rfl); (case hg => rfl); (case hr => first | (go_simp; done) | (go_simp; rfl)); intro gb274 hg w45 hbox hb; replace HO_3 := zM (Kd.R_below (Kd.R_elderB (rl_ HO_3) gb274 (Nat.le_of_eq hg.symm)) hb); have BK274 := zM (hbox); have GW274 := zM (bs_ hg); have GE274 := zM (bs_ hg); replace HB := zM (zB bel_ hb); have NB269_274 := zM (nl_ BK269 hg); have NB274_269 := zM (ng_ BK269 hg); replace BK269 := zM (bb_ BK269 hb); clear hb hbox hg; have hnb46 := NB274_269.out; have hnc46 := NB269_274.out; have hcz47_0 : w45.cell? ⟨gb274, 0, none⟩ = some (.int .i64 0) := (zL BK274.out 0).trans rfl; have hcz47_1 : w45.cell? ⟨gb274, 1, none⟩ = some (.int .i64 0) := (zL BK274.out 1).trans rfl; have hfz47_0 := zF BK274.out 0; have hfz47_1 := zF BK274.out 1))
      replace HO_3 : Aside0 (Kd.R k24 24 ((w45.setCell ⟨gb274, 0, none⟩ (.int .i64 ((rd_T24 l0 x12_2).f0))).setCell ⟨gb274, 1, none⟩ (.int .i64 ((rd_T24 l0 x12_2).f1))) w.heap.size (fun k_ => k_ ≠ gb269 ∧ k_ ≠ gb274) u3 x3_1) := ⟨by (with_reducible repeat (first | apply Kd.R_alloc | apply Kd.R_drewN | apply Kd.R_drew)); exact Kd.R_mono (Kd.R_far (p := ⟨gb274, 1, none⟩) (Kd.R_far (p := ⟨gb274, 0, none⟩) (Kd.R_mono HO_3.out (fun k_ hk => (⟨hk, hk.2⟩ : _ ∧ k_ ≠ gb274))) (fun _ hk => hk.2) (.int .i64 ((rd_T24 l0 x12_2).f0))) (fun _ hk => hk.2) (.int .i64 ((rd_T24 l0 x12_2).f1))) (fun _ hk => ⟨hk.1.1, hk.1.2⟩)⟩
      replace BK269 : Aside0 (((w45.setCell ⟨gb274, 0, none⟩ (.int .i64 ((rd_T24 l0 x12_2).f0))).setCell ⟨gb274, 1, none⟩ (.int .i64 ((rd_T24 l0 x12_2).f1))).heap[gb269]? = some (.cells #[.int .i64 x270000_2, .int .i64 x270001_2] 24 (0, 0))) := ⟨blf_⟩
      replace BK274 : Aside0 (((w45.setCell ⟨gb274, 0, none⟩ (.int .i64 ((rd_T24 l0 x12_2).f0))).setCell ⟨gb274, 1, none⟩ (.int .i64 ((rd_T24 l0 x12_2).f1))).heap[gb274]? = some (.cells #[.int .i64 ((rd_T24 l0 x12_2).f0), .int .i64 ((rd_T24 l0 x12_2).f1)] 24 (0, 0))) := ⟨by (with_reducible repeat (first | refine zN ?_ _ | refine zD ?_ | refine zA ?_ _)); refine blk_put (cs := #[.int .i64 ((rd_T24 l0 x12_2).f0), .int .i64 0]) ?_ 1 _ rfl; (with_reducible repeat (first | refine zN ?_ _ | refine zD ?_ | refine zA ?_ _)); refine blk_put (cs := #[.int .i64 0, .int .i64 0]) ?_ 0 _ rfl; (with_reducible repeat (first | refine zN ?_ _ | refine zD ?_ | refine zA ?_ _)); exact BK274.out⟩
      replace HB : Aside0 (Below w.heap.size w ((w45.setCell ⟨gb274, 0, none⟩ (.int .i64 ((rd_T24 l0 x12_2).f0))).setCell ⟨gb274, 1, none⟩ (.int .i64 ((rd_T24 l0 x12_2).f1)))) := ⟨bel_⟩
      generalize ((w45.setCell ⟨gb274, 0, none⟩ (.int .i64 ((rd_T24 l0 x12_2).f0))).setCell ⟨gb274, 1, none⟩ (.int .i64 ((rd_T24 l0 x12_2).f1))) = w48 at HO_3 BK269 BK274 HB ⊢
      replace HO_3 := zM (Kd.R_drew HO_3.out)
      replace BK269 := zM (zD BK269.out)
      replace BK274 := zM (zD BK274.out)
      replace HB := zM (below_drew1 HB.out)
      obtain ⟨Ao50, co50, eo50⟩ := Kd.R_slice HO_3.out
      (first | subst eo50 | (injection eo50 with f1_ f2_ f3_; have f4_ := f1_.symm; have f5_ := f3_.symm; clear f1_ f2_ f3_; subst f4_; subst f5_))
      have p276 : 0 ≤ ((ji37) : Int) := of_decide_eq_true (by first | (with_reducible assumption) | assumption)
      have q276 : (ji37) < (x3_1.length : Int) := of_decide_eq_true (by first | (with_reducible assumption) | assumption)
      obtain ⟨ad276, e276, hx276_0, hx276_1⟩ := at_T24 (Kd.R_reads' HO_3.out).2.2 (ji37) p276 q276
      cases e276
      replace p276 := eq_true p276
      replace q276 := eq_true q276
      refine start_ (n := 22) (S := fun w' => w'.cell? ⟨gb274, 0, none⟩ = some (.int .i64 ((rd_T24 l0 x12_2).f0)) ∧ w'.cell? ⟨gb274, 1, none⟩ = some (.int .i64 ((rd_T24 l0 x12_2).f1)) ∧ w'.cell? ⟨gb269, 0, none⟩ = some (.int .i64 x270000_2) ∧ w'.cell? ⟨gb269, 1, none⟩ = some (.int .i64 x270001_2) ∧ w'.cell? (ad276.add (((ji37)).toNat * 2)) = some (.int .i64 ((rd_T24 x3_1 (ji37)).f0)) ∧ w'.cell? ⟨(ad276.add (((ji37)).toNat * 2)).block, (ad276.add (((ji37)).toNat * 2)).off + 1, none⟩ = some (.int .i64 ((rd_T24 x3_1 (ji37)).f1))) (ds := []) #[F_, F_, F_, F_, F_, F_, F_, F_, F_, F_, F_, F_, F_, F_, F_, F_, F_, F_, F_, F_, F_, F_] (by kernel_rfl) rfl rfl ⟨(zL BK274.out 0).trans rfl, (zL BK274.out 1).trans rfl, (zL BK269.out 0).trans rfl, (zL BK269.out 1).trans rfl, hx276_0, hx276_1⟩ (fun hHeld => ?_); refine with_tabW ropewayref16_sorted.tab6 ropewayref16_sorted.bits6 (fun HT_ HW_ => ?_)
      generalize w48.drew = w49 at HO_3 BK269 BK274 HB hx276_0 hx276_1 hHeld ⊢
      refine pure_ (i := 0) (N := some 16) (v := ?_) (a' := ?_) #[T_, F_, F_, F_, F_, F_, F_, F_, F_, F_, F_, F_, F_, F_, F_, F_, F_, F_, F_, F_, F_, F_] rfl rfl (any_of HT_.out (by kernel_rfl)) (fun _ _ _ h => h) (Or.inl ⟨by rfl, ?_⟩) ?_ ?_
      rotate_left
      · intro w'
        go_simp
        with_reducible rfl
      rotate_left
      · simp only [Act.put, zS, zZ, zC, i64_w, i32_w]
        rfl
      refine pure_ (i := 1) (N := some 17) (v := ?_) (a' := ?_) #[T_, T_, F_, F_, F_, F_, F_, F_, F_, F_, F_, F_, F_, F_, F_, F_, F_, F_, F_, F_, F_, F_] rfl rfl (any_of HT_.out (by kernel_rfl)) (fun _ _ _ h => h) (Or.inl ⟨by rfl, ?_⟩) ?_ ?_
      rotate_left
      · intro w'
        go_simp
        with_reducible rfl
      rotate_left
      · simp only [Act.put, zS, zZ, zC, i64_w, i32_w]
        rfl
      refine pure_ (i := 2) (N := some 18) (v := ?_) (a' := ?_) #[T_, T_, T_, F_, F_, F_, F_, F_, F_, F_, F_, F_, F_, F_, F_, F_, F_, F_, F_, F_, F_, F_] rfl rfl (any_of HT_.out (by kernel_rfl)) (fun _ _ _ h => h) (Or.inl ⟨by rfl, ?_⟩) ?_ ?_
      rotate_left
      · intro w'
        go_simp
        with_reducible rfl
      rotate_left
      · simp only [Act.put, zS, zZ, zC, i64_w, i32_w]
        rfl
      refine pure_ (i := 3) (N := some 19) (v := ?_) (a' := ?_) #[T_, T_, T_, T_, F_, F_, F_, F_, F_, F_, F_, F_, F_, F_, F_, F_, F_, F_, F_, F_, F_, F_] rfl rfl (any_of HT_.out (by kernel_rfl)) (fun _ _ _ h => h) (Or.inl ⟨by rfl, ?_⟩) ?_ ?_
      rotate_left
      · intro w'
        go_simp
        with_reducible rfl
      rotate_left
      · simp only [Act.put, zS, zZ, zC, i64_w, i32_w]
        rfl
      refine pure_ (i := 4) (N := some 20) (v := ?_) (a' := ?_) #[T_, T_, T_, T_, T_, F_, F_, F_, F_, F_, F_, F_, F_, F_, F_, F_, F_, F_, F_, F_, F_, F_] rfl rfl (any_of HT_.out (by kernel_rfl)) (fun _ _ _ h => h) (Or.inl ⟨by rfl, ?_⟩) ?_ ?_
      rotate_left
      · intro w'
        go_simp
        with_reducible rfl
      rotate_left
      · simp only [Act.put, zS, zZ, zC, i64_w, i32_w]
        rfl
      refine pure_ (i := 5) (N := some 21) (v := ?_) (a' := ?_) #[T_, T_, T_, T_, T_, T_, F_, F_, F_, F_, F_, F_, F_, F_, F_, F_, F_, F_, F_, F_, F_, F_] rfl rfl (any_of HT_.out (by kernel_rfl)) (fun _ _ _ h => h) (Or.inl ⟨by rfl, ?_⟩) ?_ ?_
      rotate_left
      · intro w'
        go_simp
        with_reducible rfl
      rotate_left
      · simp only [Act.put, zS, zZ, zC, i64_w, i32_w]
        rfl
      refine pure_ (i := 6) (N := some 22) (v := ?_) (a' := ?_) #[T_, T_, T_, T_, T_, T_, T_, F_, F_, F_, F_, F_, F_, F_, F_, F_, F_, F_, F_, F_, F_, F_] rfl rfl (any_of HT_.out (by kernel_rfl)) (fun _ _ _ h => h) (Or.inl ⟨by rfl, ?_⟩) ?_ ?_
      rotate_left
      · intro w'
        go_simp
        with_reducible rfl
      rotate_left
      · simp only [Act.put, zS, zZ, zC, i64_w, i32_w]
        rfl
      refine pure_ (i := 7) (N := some 23) (v := ?_) (a' := ?_) #[T_, T_, T_, T_, T_, T_, T_, T_, F_, F_, F_, F_, F_, F_, F_, F_, F_, F_, F_, F_, F_, F_] rfl rfl (any_of HT_.out (by kernel_rfl)) (fun _ _ _ h => h) (Or.inl ⟨by rfl, ?_⟩) ?_ ?_
      rotate_left
      · intro w'
        go_simp
        with_reducible rfl
      rotate_left
      · simp only [Act.put, zS, zZ, zC, i64_w, i32_w]
        rfl
      refine pure_ (i := 8) (N := some 24) (v := ?_) (a' := ?_) #[T_, T_, T_, T_, T_, T_, T_, T_, T_, F_, F_, F_, F_, F_, F_, F_, F_, F_, F_, F_, F_, F_] rfl rfl (any_of HT_.out (by kernel_rfl)) (fun _ _ _ h => h) (Or.inl ⟨by rfl, ?_⟩) ?_ ?_
      rotate_left
      · intro w'
        go_simp
        with_reducible rfl
      rotate_left
      · simp only [Act.put, zS, zZ, zC, i64_w, i32_w]
        rfl
      refine take_ (i := 9) (N := some 25) (v := ?_) (a' := ?_) #[T_, T_, T_, T_, T_, T_, T_, T_, T_, T_, F_, F_, F_, F_, F_, F_, F_, F_, F_, F_, F_, F_] rfl rfl (take_ofW HT_.out HW_.out (by kernel_rfl)) (fun _ _ _ h => h) (Or.inl ⟨by rfl, ?_⟩) hHeld ?_ ?_
      rotate_left
      · rintro w' ⟨s0, s1, s2, s3, s4, s5⟩
        go_simp
        with_reducible rfl
      rotate_left
      · simp only [Act.put, zS, zZ, zC, i64_w, i32_w]
        rfl
      refine take_ (i := 10) (N := some 26) (v := ?_) (a' := ?_) #[T_, T_, T_, T_, T_, T_, T_, T_, T_, T_, T_, F_, F_, F_, F_, F_, F_, F_, F_, F_, F_, F_] rfl rfl (take_ofW HT_.out HW_.out (by kernel_rfl)) (fun _ _ _ h => h) (Or.inl ⟨by rfl, ?_⟩) hHeld ?_ ?_
      rotate_left
      · rintro w' ⟨s0, s1, s2, s3, s4, s5⟩
        go_simp
        with_reducible rfl
      rotate_left
      · simp only [Act.put, zS, zZ, zC, i64_w, i32_w]
        rfl
      refine one_ (i := 11) (N := some 27) #[T_, T_, T_, T_, T_, T_, T_, T_, T_, T_, T_, T_, F_, F_, F_, F_, F_, F_, F_, F_, F_, F_] rfl rfl (one_of HT_.out (by kernel_rfl)) (by decide) (fun K hK => ?_)
      refine goes_ Try.func29 (by kernel_rfl) rfl #[.agg #[.int .i64 ((rd_T24 x3_1 (ji37)).f0), .int .i64 ((rd_T24 x3_1 (ji37)).f1)], .agg #[.int .i64 ((rd_T24 l0 x12_2).f0), .int .i64 ((rd_T24 l0 x12_2).f1)]] (by rfl) rfl rfl (by (try simp only [List.map_toArray, List.map_cons, List.map_nil]); first | done | (simp only [hji37]; rfl) | rfl | (simp only [List.length_drop, List.length_take]; rfl)) ?_
      with_reducible refine (ropewayref05_Less.calls k2 ((rd_T24 x3_1 (ji37)).f0) ((rd_T24 x3_1 (ji37)).f1) ((rd_T24 l0 x12_2).f0) ((rd_T24 l0 x12_2).f1) true _ A40.out).mono ?_
      rintro e w51 ⟨rfl, hb⟩
      have HS4_ := (hb.cell (World.block_lt_of_cell? _ _ (hHeld.2.2.2.2.1))).trans (hHeld.2.2.2.2.1)
      have HS5_ := (hb.cell (World.block_lt_of_cell? _ _ (hHeld.2.2.2.2.2))).trans (hHeld.2.2.2.2.2)
      refine ⟨_, rfl, ?_⟩
      replace HO_3 := zM (Kd.R_below (rl_ HO_3) hb)
      replace BK269 := zM (bb_ BK269 hb)
      replace BK274 := zM (bb_ BK274 hb)
      replace HB := zM (zB bel_ hb)
      (try clear hb)
      (try clear hb2)
      (try clear hk)
      (try clear hi)
      refine hK.out _ _ ⟨(zL BK274.out 0).trans rfl, (zL BK274.out 1).trans rfl, (zL BK269.out 0).trans rfl, (zL BK269.out 1).trans rfl, HS4_, HS5_⟩ (fun hHeld => ?_)
      clear hK K
      refine norm_ (a' := ?_) ?_ ?_
      rotate_left
      · show Act.put _ (some 27) _ = _
        simp only [Act.put, zS, zZ, zC, i64_w, i32_w]
        rfl
      refine pure_ (i := 12) (N := some 28) (v := ?_) (a' := ?_) #[T_, T_, T_, T_, T_, T_, T_, T_, T_, T_, T_, T_, T_, F_, F_, F_, F_, F_, F_, F_, F_, F_] rfl rfl (any_of HT_.out (by kernel_rfl)) (fun _ _ _ h => h) (Or.inl ⟨by rfl, ?_⟩) ?_ ?_
      rotate_left
      · intro w'
        go_simp
        with_reducible rfl
      rotate_left
      · simp only [Act.put, zS, zZ, zC, i64_w, i32_w]
        rfl
      refine pure_ (i := 13) (N := some 29) (v := ?_) (a' := ?_) #[T_, T_, T_, T_, T_, T_, T_, T_, T_, T_, T_, T_, T_, T_, F_, F_, F_, F_, F_, F_, F_, F_] rfl rfl (any_of HT_.out (by kernel_rfl)) (fun _ _ _ h => h) (Or.inl ⟨by rfl, ?_⟩) ?_ ?_
      rotate_left
      · intro w'
        go_simp
        with_reducible rfl
      rotate_left
      · simp only [Act.put, zS, zZ, zC, i64_w, i32_w]
        rfl
      refine pure_ (i := 14) (N := some 30) (v := ?_) (a' := ?_) #[T_, T_, T_, T_, T_, T_, T_, T_, T_, T_, T_, T_, T_, T_, T_, F_, F_, F_, F_, F_, F_, F_] rfl rfl (any_of HT_.out (by kernel_rfl)) (fun _ _ _ h => h) (Or.inl ⟨by rfl, ?_⟩) ?_ ?_
      rotate_left
      · intro w'
        go_simp
        with_reducible rfl
      rotate_left
      · simp only [Act.put, zS, zZ, zC, i64_w, i32_w]
        rfl
      refine pure_ (i := 15) (N := some 31) (v := ?_) (a' := ?_) #[T_, T_, T_, T_, T_, T_, T_, T_, T_, T_, T_, T_, T_, T_, T_, T_, F_, F_, F_, F_, F_, F_] rfl rfl (any_of HT_.out (by kernel_rfl)) (fun _ _ _ h => h) (Or.inl ⟨by rfl, ?_⟩) ?_ ?_
      rotate_left
      · intro w'
        go_simp
        with_reducible rfl
      rotate_left
      · simp only [Act.put, zS, zZ, zC, i64_w, i32_w]
        rfl
      refine pure_ (i := 16) (N := some 32) (v := ?_) (a' := ?_) #[T_, T_, T_, T_, T_, T_, T_, T_, T_, T_, T_, T_, T_, T_, T_, T_, T_, F_, F_, F_, F_, F_] rfl rfl (any_of HT_.out (by kernel_rfl)) (fun _ _ _ h => h) (Or.inl ⟨by rfl, ?_⟩) ?_ ?_
      rotate_left
      · intro w'
        go_simp
        with_reducible rfl
      rotate_left
      · simp only [Act.put, zS, zZ, zC, i64_w, i32_w]
        rfl
      refine take_ (i := 17) (N := some 33) (v := ?_) (a' := ?_) #[T_, T_, T_, T_, T_, T_, T_, T_, T_, T_, T_, T_, T_, T_, T_, T_, T_, T_, F_, F_, F_, F_] rfl rfl (take_ofW HT_.out HW_.out (by kernel_rfl)) (fun _ _ _ h => h) (Or.inl ⟨by rfl, ?_⟩) hHeld ?_ ?_
      rotate_left
      · rintro w' ⟨s0, s1, s2, s3, s4, s5⟩
        go_simp
        with_reducible rfl
      rotate_left
      · simp only [Act.put, zS, zZ, zC, i64_w, i32_w]
        rfl
      refine take_ (i := 18) (N := some 34) (v := ?_) (a' := ?_) #[T_, T_, T_, T_, T_, T_, T_, T_, T_, T_, T_, T_, T_, T_, T_, T_, T_, T_, T_, F_, F_, F_] rfl rfl (take_ofW HT_.out HW_.out (by kernel_rfl)) (fun _ _ _ h => h) (Or.inl ⟨by rfl, ?_⟩) hHeld ?_ ?_
      rotate_left
      · rintro w' ⟨s0, s1, s2, s3, s4, s5⟩
        go_simp
        with_reducible rfl
      rotate_left
      · simp only [Act.put, zS, zZ, zC, i64_w, i32_w]
        rfl
      refine one_ (i := 19) (N := some 35) #[T_, T_, T_, T_, T_, T_, T_, T_, T_, T_, T_, T_, T_, T_, T_, T_, T_, T_, T_, T_, F_, F_] rfl rfl (one_of HT_.out (by kernel_rfl)) (by decide) (fun K hK => ?_)
      refine goes_ Try.func29 (by kernel_rfl) rfl #[.agg #[.int .i64 ((rd_T24 l0 x12_2).f0), .int .i64 ((rd_T24 l0 x12_2).f1)], .agg #[.int .i64 x270000_2, .int .i64 x270001_2]] (by rfl) rfl rfl (by (try simp only [List.map_toArray, List.map_cons, List.map_nil]); first | done | rfl | (simp only [List.length_drop, List.length_take]; rfl)) ?_
      with_reducible refine (ropewayref05_Less.calls k2 ((rd_T24 l0 x12_2).f0) ((rd_T24 l0 x12_2).f1) x270000_2 x270001_2 true _ A43.out).mono ?_
      rintro e w52 ⟨rfl, hb⟩
      have HS4_ := (hb.cell (World.block_lt_of_cell? _ _ (hHeld.2.2.2.2.1))).trans (hHeld.2.2.2.2.1)
      have HS5_ := (hb.cell (World.block_lt_of_cell? _ _ (hHeld.2.2.2.2.2))).trans (hHeld.2.2.2.2.2)
      refine ⟨_, rfl, ?_⟩
      replace HO_3 := zM (Kd.R_below (rl_ HO_3) hb)
      replace BK269 := zM (bb_ BK269 hb)
      replace BK274 := zM (bb_ BK274 hb)
      replace HB := zM (zB bel_ hb)
      (try clear hb)
      (try clear hb2)
      (try clear hk)
      (try clear hi)
      refine hK.out _ _ ⟨(zL BK274.out 0).trans rfl, (zL BK274.out 1).trans rfl, (zL BK269.out 0).trans rfl, (zL BK269.out 1).trans rfl, HS4_, HS5_⟩ (fun hHeld => ?_)
      clear hK K
      refine norm_ (a' := ?_) ?_ ?_
      rotate_left
      · show Act.put _ (some 35) _ = _
        simp only [Act.put, zS, zZ, zC, i64_w, i32_w]
        rfl
      refine pure_ (i := 20) (N := some 36) (v := ?_) (a' := ?_) #[T_, T_, T_, T_, T_, T_, T_, T_, T_, T_, T_, T_, T_, T_, T_, T_, T_, T_, T_, T_, T_, F_] rfl rfl (any_of HT_.out (by kernel_rfl)) (fun _ _ _ h => h) (Or.inl ⟨by rfl, ?_⟩) ?_ ?_
      rotate_left
      · intro w'
        go_simp
        with_reducible rfl
      rotate_left
      · simp only [Act.put, zS, zZ, zC, i64_w, i32_w]
        rfl
      refine pure_ (i := 21) (N := some 37) (v := ?_) (a' := ?_) #[T_, T_, T_, T_, T_, T_, T_, T_, T_, T_, T_, T_, T_, T_, T_, T_, T_, T_, T_, T_, T_, T_] rfl rfl (any_of HT_.out (by kernel_rfl)) (fun _ _ _ h => h) (Or.inl ⟨by rfl, ?_⟩) ?_ ?_
      rotate_left
      · intro w'
        go_simp
        with_reducible rfl
      rotate_left
      · simp only [Act.put, zS, zZ, zC, i64_w, i32_w]
        rfl
      refine done_ (done_of HT_.out (by kernel_rfl)) ?_
      have hcz53_0 : w52.cell? ⟨gb274, 0, none⟩ = some (.int .i64 ((rd_T24 l0 x12_2).f0)) := (zL BK274.out 0).trans rfl
      have hcz53_1 : w52.cell? ⟨gb274, 1, none⟩ = some (.int .i64 ((rd_T24 l0 x12_2).f1)) := (zL BK274.out 1).trans rfl
      have hfz53_0 := zF BK274.out 0
      have hfz53_1 := zF BK274.out 1
      have hcz54_0 : w52.cell? ⟨gb269, 0, none⟩ = some (.int .i64 x270000_2) := (zL BK269.out 0).trans rfl
      have hcz54_1 : w52.cell? ⟨gb269, 1, none⟩ = some (.int .i64 x270001_2) := (zL BK269.out 1).trans rfl
      have hfz54_0 := zF BK269.out 0
      have hfz54_1 := zF BK269.out 1
      try go_wp2
      go_roundg k2
      case measure => have := HK1.out; have := HK2.out; omega
      case rel => exact ⟨(true), (wrap64 (x12_2 + 1)), ((rd_T24 l0 x12_2).f0), ((rd_T24 l0 x12_2).f1), (by first | rfl | (simp; done) | (simp [*]; done) | (simp; grind)), (by first | rfl | (simp; done) | (simp [*]; done) | (simp; grind)), H', ⟨by have := HK1.out; have := HK2.out; omega⟩, ⟨by (with_reducible repeat (first | apply Kd.R_alloc | apply Kd.R_drewN | apply Kd.R_drew)); exact Kd.R_mono (Kd.R_far (p := ⟨gb269, 1, none⟩) (Kd.R_far (p := ⟨gb269, 0, none⟩) (Kd.R_mono HO_3.out (fun k_ hk => (⟨hk, hk.1⟩ : _ ∧ k_ ≠ gb269))) (fun _ hk => hk.2) (.int .i64 ((rd_T24 l0 x12_2).f0))) (fun _ hk => hk.2) (.int .i64 ((rd_T24 l0 x12_2).f1))) (fun _ hk => hk.1.1)⟩, ⟨by (with_reducible repeat (first | refine zN ?_ _ | refine zD ?_ | refine zA ?_ _)); refine blk_put (cs := #[.int .i64 ((rd_T24 l0 x12_2).f0), .int .i64 x270001_2]) ?_ 1 _ rfl; (with_reducible repeat (first | refine zN ?_ _ | refine zD ?_ | refine zA ?_ _)); refine blk_put (cs := #[.int .i64 x270000_2, .int .i64 x270001_2]) ?_ 0 _ rfl; (with_reducible repeat (first | refine zN ?_ _ | refine zD ?_ | refine zA ?_ _)); exact BK269.out⟩, ⟨bel_⟩⟩
end Go.Proofs.Ytjfmhahlmnnacaa.PFrontSteps
