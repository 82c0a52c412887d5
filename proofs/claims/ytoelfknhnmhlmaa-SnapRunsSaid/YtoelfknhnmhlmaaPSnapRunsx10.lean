/- Written by a program of this session (wip/tool/px.py) over the kit's print: what the code that the law SnapRuns reaches computes, function by function, and the law's row. -/
import Derived.Test.YtoelfknhnmhlmaaPSnapRunsx0
import Derived.Test.YtoelfknhnmhlmaaPSnapRunsx1
import Derived.Test.YtoelfknhnmhlmaaPSnapRunsx9
namespace Go.Proofs.Ytoelfknhnmhlmaa.PSnapRuns
open Go.RowKit Go.Proofs.YtoelfknhnmhlmaaX Go.Proofs.YtoelfknhnmhlmaaW.PrintWords Go.Proofs.YtoelfknhnmhlmaaW.PrintLast Go.Proofs.YtoelfknhnmhlmaaW.PrintMore
open List renaming setIfInBounds_toArray → zS, set_cons_zero → zZ, set_cons_succ → zC
open Go.Proofs.YtoelfknhnmhlmaaW.PrintWords renaming blk_drewN → zN, blk_drew → zD, blk_alloc → zA, below_step → zB
open Go.Proofs.YtoelfknhnmhlmaaW.PrintWords.Aside0 renaming mk → zM
attribute [local go_sem] max2_int min2_int max_two min_two max_three min_three max_four min_four   -- for this text's walks alone
set_option linter.unusedVariables false
set_option linter.unusedSimpArgs false

attribute [local go_sem] px_nilq27
attribute [local go_sem high] eqA26
/-! ### ropewayref10_Changes: function 28 -/
mutual
def ropewayref10_Changes.l0 : Nat → List (S34) → List (S26) → Option ((List (S26)))
  | 0, _, _ => none
  | k + 1, x0, x3 => ropewayref10_Changes.l1 k x0 x3 false x0 (x0.length : Int) 0 0 0
def ropewayref10_Changes.l1 : Nat → List (S34) → List (S26) → Bool → List (S34) → Int → Int → Int → Int → Option ((List (S26)))
  | 0, _, _, _, _, _, _, _, _ => none
  | k + 1, x0, x3, x5, x13, x14, x15, x241000, x241001 => if x15 < x14 then (if 0 ≤ x15 then (if x15 < (x13.length : Int) then (ropewayref10_Changes.l2 k x0 x3 x5 false x13 x14 x15 x3 (x3.length : Int) 0 x241000 x241001 ((rd_T34 x13 x15).f0) ((rd_T34 x13 x15).f1.f0) ((rd_T34 x13 x15).f1.f1)) else (none)) else (none)) else (if x5 = true then (if x3.length < 8796093022208 then (ropewayref10_Changes.l0 k x0 (x3 ++ [(⟨x241000, x241001⟩ : S26)])) else (none)) else (some x3))
def ropewayref10_Changes.l2 : Nat → List (S34) → List (S26) → Bool → Bool → List (S34) → Int → Int → List (S26) → Int → Int → Int → Int → Int → Int → Int → Option ((List (S26)))
  | 0, _, _, _, _, _, _, _, _, _, _, _, _, _, _, _ => none
  | k + 1, x0, x3, x5, x8, x13, x14, x15, x19, x20, x21, x241000, x241001, x243000, x243001, x243002 => if x21 < x20 then (if 0 ≤ x21 then (if x21 < (x19.length : Int) then (if x8 = true then (ropewayref10_Changes.l2 k x0 x3 x5 true x13 x14 x15 x19 x20 (wrap64 (x21 + 1)) x241000 x241001 x243000 x243001 x243002) else (ropewayref10_Changes.l2 k x0 x3 x5 (((rd_T26 x19 x21).f0) == x243001 && (((rd_T26 x19 x21).f1) == x243002)) x13 x14 x15 x19 x20 (wrap64 (x21 + 1)) x241000 x241001 x243000 x243001 x243002)) else (none)) else (none)) else (if x8 = true then (ropewayref10_Changes.j3 k x0 x3 x5 x13 x14 x15 false x241000 x241001 x243000 x243001 x243002) else (if x5 = true then ((ropewayref05_Less.f k x243001 x243002 x241000 x241001).bind fun t245 => (ropewayref10_Changes.j3 k x0 x3 x5 x13 x14 x15 t245 x241000 x241001 x243000 x243001 x243002)) else (ropewayref10_Changes.j3 k x0 x3 x5 x13 x14 x15 true x241000 x241001 x243000 x243001 x243002)))
def ropewayref10_Changes.j3 : Nat → List (S34) → List (S26) → Bool → List (S34) → Int → Int → Bool → Int → Int → Int → Int → Int → Option ((List (S26)))
  | 0, _, _, _, _, _, _, _, _, _, _, _, _ => none
  | k + 1, x0, x3, x5, x13, x14, x15, x44, x241000, x241001, x243000, x243001, x243002 => if x44 = true then (ropewayref10_Changes.l1 k x0 x3 true x13 x14 (wrap64 (x15 + 1)) x243001 x243002) else (ropewayref10_Changes.l1 k x0 x3 x5 x13 x14 (wrap64 (x15 + 1)) x241000 x241001)
end
def ropewayref10_Changes.f (k : Nat) (l0 : List (S34)) : Option ((List (S26))) := ropewayref10_Changes.l0 k l0 (([] : List (S26)))
theorem ropewayref10_Changes.mono_l : ∀ k, (∀ y0 y1, LeO (ropewayref10_Changes.l0 k y0 y1) (ropewayref10_Changes.l0 (k + 1) y0 y1)) ∧ (∀ y0 y1 y2 y3 y4 y5 y6 y7, LeO (ropewayref10_Changes.l1 k y0 y1 y2 y3 y4 y5 y6 y7) (ropewayref10_Changes.l1 (k + 1) y0 y1 y2 y3 y4 y5 y6 y7)) ∧ (∀ y0 y1 y2 y3 y4 y5 y6 y7 y8 y9 y10 y11 y12 y13 y14, LeO (ropewayref10_Changes.l2 k y0 y1 y2 y3 y4 y5 y6 y7 y8 y9 y10 y11 y12 y13 y14) (ropewayref10_Changes.l2 (k + 1) y0 y1 y2 y3 y4 y5 y6 y7 y8 y9 y10 y11 y12 y13 y14)) ∧ (∀ y0 y1 y2 y3 y4 y5 y6 y7 y8 y9 y10 y11, LeO (ropewayref10_Changes.j3 k y0 y1 y2 y3 y4 y5 y6 y7 y8 y9 y10 y11) (ropewayref10_Changes.j3 (k + 1) y0 y1 y2 y3 y4 y5 y6 y7 y8 y9 y10 y11))
  | 0 => ⟨fun _ _ r h => by simp [ropewayref10_Changes.l0] at h, fun _ _ _ _ _ _ _ _ r h => by simp [ropewayref10_Changes.l1] at h, fun _ _ _ _ _ _ _ _ _ _ _ _ _ _ _ r h => by simp [ropewayref10_Changes.l2] at h, fun _ _ _ _ _ _ _ _ _ _ _ _ r h => by simp [ropewayref10_Changes.j3] at h⟩
  | k + 1 => by
    obtain ⟨ih0, ih1, ih2, ih3⟩ := ropewayref10_Changes.mono_l k
    refine ⟨?_, ?_, ?_, ?_⟩
    · intro y0 y1
      unfold ropewayref10_Changes.l0
      repeat' first
      | (with_reducible exact ih0 _ _)
      | (with_reducible exact ih1 _ _ _ _ _ _ _ _)
      | (with_reducible exact ih2 _ _ _ _ _ _ _ _ _ _ _ _ _ _ _)
      | (with_reducible exact ih3 _ _ _ _ _ _ _ _ _ _ _ _)
      | (with_reducible exact ropewayref05_Less.mono _ _ _ _ _)
      | (with_reducible exact LeO.refl _)
      | (with_reducible exact LeO.none _)
      | (with_reducible refine LeO.ite ?_ ?_)
      | (with_reducible refine LeO.bind ?_ (fun _ => ?_))
      | exact ih0 _ _
      | exact ih1 _ _ _ _ _ _ _ _
      | exact ih2 _ _ _ _ _ _ _ _ _ _ _ _ _ _ _
      | exact ih3 _ _ _ _ _ _ _ _ _ _ _ _
      | exact ropewayref05_Less.mono _ _ _ _ _
      | exact LeO.none _
      | refine LeO.ite ?_ ?_
      | refine LeO.bind ?_ (fun _ => ?_)
    · intro y0 y1 y2 y3 y4 y5 y6 y7
      unfold ropewayref10_Changes.l1
      repeat' first
      | (with_reducible exact ih0 _ _)
      | (with_reducible exact ih1 _ _ _ _ _ _ _ _)
      | (with_reducible exact ih2 _ _ _ _ _ _ _ _ _ _ _ _ _ _ _)
      | (with_reducible exact ih3 _ _ _ _ _ _ _ _ _ _ _ _)
      | (with_reducible exact ropewayref05_Less.mono _ _ _ _ _)
      | (with_reducible exact LeO.refl _)
      | (with_reducible exact LeO.none _)
      | (with_reducible refine LeO.ite ?_ ?_)
      | (with_reducible refine LeO.bind ?_ (fun _ => ?_))
      | exact ih0 _ _
      | exact ih1 _ _ _ _ _ _ _ _
      | exact ih2 _ _ _ _ _ _ _ _ _ _ _ _ _ _ _
      | exact ih3 _ _ _ _ _ _ _ _ _ _ _ _
      | exact ropewayref05_Less.mono _ _ _ _ _
      | exact LeO.none _
      | refine LeO.ite ?_ ?_
      | refine LeO.bind ?_ (fun _ => ?_)
    · intro y0 y1 y2 y3 y4 y5 y6 y7 y8 y9 y10 y11 y12 y13 y14
      unfold ropewayref10_Changes.l2
      repeat' first
      | (with_reducible exact ih0 _ _)
      | (with_reducible exact ih1 _ _ _ _ _ _ _ _)
      | (with_reducible exact ih2 _ _ _ _ _ _ _ _ _ _ _ _ _ _ _)
      | (with_reducible exact ih3 _ _ _ _ _ _ _ _ _ _ _ _)
      | (with_reducible exact ropewayref05_Less.mono _ _ _ _ _)
      | (with_reducible exact LeO.refl _)
      | (with_reducible exact LeO.none _)
      | (with_reducible refine LeO.ite ?_ ?_)
      | (with_reducible refine LeO.bind ?_ (fun _ => ?_))
      | exact ih0 _ _
      | exact ih1 _ _ _ _ _ _ _ _
      | exact ih2 _ _ _ _ _ _ _ _ _ _ _ _ _ _ _
      | exact ih3 _ _ _ _ _ _ _ _ _ _ _ _
      | exact ropewayref05_Less.mono _ _ _ _ _
      | exact LeO.none _
      | refine LeO.ite ?_ ?_
      | refine LeO.bind ?_ (fun _ => ?_)
    · intro y0 y1 y2 y3 y4 y5 y6 y7 y8 y9 y10 y11
      unfold ropewayref10_Changes.j3
      repeat' first
      | (with_reducible exact ih0 _ _)
      | (with_reducible exact ih1 _ _ _ _ _ _ _ _)
      | (with_reducible exact ih2 _ _ _ _ _ _ _ _ _ _ _ _ _ _ _)
      | (with_reducible exact ih3 _ _ _ _ _ _ _ _ _ _ _ _)
      | (with_reducible exact ropewayref05_Less.mono _ _ _ _ _)
      | (with_reducible exact LeO.refl _)
      | (with_reducible exact LeO.none _)
      | (with_reducible refine LeO.ite ?_ ?_)
      | (with_reducible refine LeO.bind ?_ (fun _ => ?_))
      | exact ih0 _ _
      | exact ih1 _ _ _ _ _ _ _ _
      | exact ih2 _ _ _ _ _ _ _ _ _ _ _ _ _ _ _
      | exact ih3 _ _ _ _ _ _ _ _ _ _ _ _
      | exact ropewayref05_Less.mono _ _ _ _ _
      | exact LeO.none _
      | refine LeO.ite ?_ ?_
      | refine LeO.bind ?_ (fun _ => ?_)
theorem ropewayref10_Changes.mono : ∀ a0 k, LeO (ropewayref10_Changes.f k a0) (ropewayref10_Changes.f (k + 1) a0) := by
  intro a0 k
  obtain ⟨ih0, ih1, ih2, ih3⟩ := ropewayref10_Changes.mono_l k
  unfold ropewayref10_Changes.f
  repeat' first
      | (with_reducible exact ih0 _ _)
      | (with_reducible exact ih1 _ _ _ _ _ _ _ _)
      | (with_reducible exact ih2 _ _ _ _ _ _ _ _ _ _ _ _ _ _ _)
      | (with_reducible exact ih3 _ _ _ _ _ _ _ _ _ _ _ _)
      | (with_reducible exact ropewayref05_Less.mono _ _ _ _ _)
      | (with_reducible exact LeO.refl _)
      | (with_reducible exact LeO.none _)
      | (with_reducible refine LeO.ite ?_ ?_)
      | (with_reducible refine LeO.bind ?_ (fun _ => ?_))
      | exact ih0 _ _
      | exact ih1 _ _ _ _ _ _ _ _
      | exact ih2 _ _ _ _ _ _ _ _ _ _ _ _ _ _ _
      | exact ih3 _ _ _ _ _ _ _ _ _ _ _ _
      | exact ropewayref05_Less.mono _ _ _ _ _
      | exact LeO.none _
      | refine LeO.ite ?_ ?_
      | refine LeO.bind ?_ (fun _ => ?_)
set_option maxHeartbeats 8000000 in
set_option maxRecDepth 100000 in
theorem ropewayref10_Changes.calls (k : Nat) (A0 : Option Addr) (c0 : Nat) (l0 : List (S34)) (r : List (S26)) (w : World) (hr0 : Kd.C k34 w A0 l0.length l0) (hc0 : l0.length ≤ c0) (h : ropewayref10_Changes.f k l0 = some r) :
    Calls Try.prog 28 #[.slice A0 l0.length c0] w fun e w' => ∃ v0_ : Value, e = .returned (v0_) ∧ Kd.R k26 26 w' w.heap.size (fun _ => True) v0_ r ∧ Below w.heap.size w w' := by
  have hu26 := Try.underlying26
  have hu34 := Try.underlying34
  have HR0 := zM hr0
  have HC0 := zM hc0
  clear hr0 hc0
  have HB := zM (Below.refl w.heap.size w)
  have H : (ropewayref10_Changes.l0 k l0 (([] : List (S26)))) = some r := h
  clear h
  obtain ⟨y237, hy237⟩ : ∃ y_ : List (S26), y_ = (([] : List (S26))) := ⟨_, rfl⟩
  replace H : (ropewayref10_Changes.l0 k l0 y237) = some r := by first | (rw [hy237]; with_reducible exact H) | (have H2_ := (Option.bind_some _ _).symm.trans H; rw [hy237]; with_reducible exact H2_) | (have H2_ := (Option.bind_some _ _).symm.trans H; with_reducible exact H2_) | with_reducible exact H | (rw [hy237]; exact H) | exact H
  have Ny237 := zM hy237
  clear hy237
  have H' := zM H
  clear H
  go_enter Try.func28, Try.ntmps28
  go_wp2_with (first | ((with_reducible refine gate_dst (N := 11) rfl ?_); refine Kd.R_lit k26 _ 26 ?hg (N := 11) ?hd (xs := ([] : List (S26))) (inner := []) (ok := fun _ => True) (okp := fun _ => True) ?hr ?hp (fun _ hk => hk) trivial (Below.refl _ _) (Nat.le_refl _) (by simp) ?_; (case hd => rfl); (case hg => rfl); (case hr => first | (go_simp; done) | (go_simp; rfl)); (case hp => exact (Reps.none _ _)); intro v238 w2 ho3 hb hg_ hnew_; clear hg_ hnew_; (first | rw [← Ny237.out] at ho3 | (simp only [Int.reduceToNat] at ho3; rw [← Ny237.out] at ho3)); have HO239 := zM (Kd.R_lower ho3 (below_size bel_)); replace HB := zM (zB bel_ hb); clear hb ho3))
  go_loopg [3] k (fun kq v3 w' => ∃ (x3_1 : List (S26)), Aside0 (ropewayref10_Changes.l0 kq l0 x3_1 = some r) ∧ Aside0 (kq ≤ k) ∧ Aside0 (Kd.R k26 26 w' w.heap.size (fun _ => True) v3 x3_1) ∧ Aside0 (Below w.heap.size w w'))
  case atStart => exact ⟨(y237), H', ⟨Nat.le_refl _⟩, ⟨by (with_reducible repeat (first | apply Kd.R_alloc | apply Kd.R_drewN | apply Kd.R_drew)); exact HO239.out⟩, ⟨bel_⟩⟩
  case round =>
   clear H'
   try clear c2
   try clear p2
   obtain ⟨x3_1, HA, HK1, HO_3, HB⟩ := hrel
   cases gk with
   | zero => exact absurd HA.out (by simp [ropewayref10_Changes.l0])
   | succ k1 =>
    have H := HA.out
    clear HA
    simp only [ropewayref10_Changes.l0] at H
    have H' := zM H
    clear H
    go_wp2_with (first | ((with_reducible refine gate_dst (N := 4) rfl ?_); refine box_event ?hg (N := 4) ?hd (cs := #[.int .i64 0, .int .i64 0]) (t := 26) ?hr ?_; (case hd => rfl); (case hg => rfl); (case hr => first | (go_simp; done) | (go_simp; rfl)); intro gb240 hg w4 hbox hb; replace HO_3 := zM (Kd.R_below (Kd.R_elderB (rl_ HO_3) gb240 (Nat.le_of_eq hg.symm)) hb); have BK240 := zM (hbox); have GW240 := zM (bs_ hg); have GE240 := zM (bs_ hg); replace HB := zM (zB bel_ hb); clear hb hbox hg; obtain ⟨hcz5_0, hcz5_1⟩ := r2_ BK240.out; obtain ⟨hfz5_0, hfz5_1⟩ := f2_ BK240.out))
    go_loopg [5, 15] k1 (fun kq v5 v15 w' => ∃ (x5_2 : Bool) (x15_2 : Int) (x241000_2 : Int) (x241001_2 : Int), v5 = .bool x5_2 ∧ v15 = .int .i64 x15_2 ∧ Aside0 (ropewayref10_Changes.l1 kq l0 x3_1 x5_2 l0 (l0.length : Int) x15_2 x241000_2 x241001_2 = some r) ∧ Aside0 (kq ≤ k1) ∧ Aside0 (Kd.R k26 26 w' w.heap.size (fun k_ => k_ ≠ gb240) u3 x3_1) ∧ Aside0 (w'.heap[gb240]? = some (.cells #[.int .i64 x241000_2, .int .i64 x241001_2] 26 (0, 0))) ∧ Aside0 (Below w.heap.size w w'))
    case atStart => exact ⟨(false), (0), (0), (0), (by first | rfl | (simp; done) | (simp [*]; done) | (simp; grind)), (by first | rfl | (simp; done) | (simp [*]; done) | (simp; grind)), H', ⟨Nat.le_refl _⟩, ⟨by (with_reducible repeat (first | apply Kd.R_alloc | apply Kd.R_drewN | apply Kd.R_drew)); exact Kd.R_mono (Kd.R_far (p := ⟨gb240, 1, none⟩) (Kd.R_far (p := ⟨gb240, 0, none⟩) (Kd.R_mono HO_3.out (fun k_ hk => (⟨hk, hk.2⟩ : _ ∧ k_ ≠ gb240))) (fun _ hk => hk.2) (.int .i64 0)) (fun _ hk => hk.2) (.int .i64 0)) (fun _ hk => hk.1.2)⟩, ⟨by (with_reducible repeat (first | refine zN ?_ _ | refine zD ?_ | refine zA ?_ _)); refine blk_put (cs := #[.int .i64 0, .int .i64 0]) ?_ 1 _ rfl; (with_reducible repeat (first | refine zN ?_ _ | refine zD ?_ | refine zA ?_ _)); refine blk_put (cs := #[.int .i64 0, .int .i64 0]) ?_ 0 _ rfl; (with_reducible repeat (first | refine zN ?_ _ | refine zD ?_ | refine zA ?_ _)); exact BK240.out⟩, ⟨bel_⟩⟩
    case round =>
     clear H'
     try clear c2
     try clear p2
     try clear hcz5_0
     try clear hcz5_1
     try clear hfz5_0
     try clear hfz5_1
     try clear p2
     obtain ⟨x5_2, x15_2, x241000_2, x241001_2, rfl, rfl, HA, HK2, HO_3, BK240, HB⟩ := hrel
     cases gk with
     | zero => exact absurd HA.out (by simp [ropewayref10_Changes.l1])
     | succ k2 =>
      have H := HA.out
      clear HA
      simp only [ropewayref10_Changes.l1] at H
      by_cases c6 : x15_2 < (l0.length : Int)
      rotate_left
      · rw [if_neg c6] at H
        have c6b0 : decide (x15_2 < (l0.length : Int)) = false := decide_eq_false c6
        clear c6
        by_cases c39 : x5_2 = true
        rotate_left
        · replace c39 := Bool.eq_false_iff.mpr c39
          subst c39
          have H1 : (some x3_1) = some r := by rw [if_neg (show ¬ (false = true) by decide)] at H; exact H
          clear H
          have H := H1
          clear H1
          obtain rfl := Option.some.inj H
          go_wp2
          go_ret
          exact ⟨_, by first | rfl | (simp [errW_none, errW_some] <;> rfl) | (simp [*, errW_none, errW_some] <;> rfl), by (with_reducible repeat (first | apply Kd.R_alloc | apply Kd.R_drewN | apply Kd.R_drew)); exact Kd.R_mono HO_3.out (fun _ hk => trivial), bel_⟩
        subst c39
        have H1 : (if x3_1.length < 8796093022208 then (ropewayref10_Changes.l0 k2 l0 (x3_1 ++ [(⟨x241000_2, x241001_2⟩ : S26)])) else (none)) = some r := by rw [if_pos rfl] at H; exact H
        clear H
        have H := H1
        clear H1
        by_cases c40 : x3_1.length < 8796093022208
        rotate_left
        · rw [if_neg c40] at H
          exact absurd H (by simp)
        rw [if_pos c40] at H
        have LMc40 := zM c40
        clear c40
        obtain ⟨y246, hy246⟩ : ∃ y_ : List (S26), y_ = (x3_1 ++ [(⟨x241000_2, x241001_2⟩ : S26)]) := ⟨_, rfl⟩
        replace H : (ropewayref10_Changes.l0 k2 l0 y246) = some r := by first | (rw [hy246]; with_reducible exact H) | (have H2_ := (Option.bind_some _ _).symm.trans H; rw [hy246]; with_reducible exact H2_) | (have H2_ := (Option.bind_some _ _).symm.trans H; with_reducible exact H2_) | with_reducible exact H | (rw [hy246]; exact H) | exact H
        have Ny246 := zM hy246
        clear hy246
        have H' := zM H
        clear H
        obtain ⟨hcz41_0, hcz41_1⟩ := r2_ BK240.out
        obtain ⟨hfz41_0, hfz41_1⟩ := f2_ BK240.out
        go_wp2_with (first | ((with_reducible refine gate_builtin (b := .append) (xs := #[.tmp 51, .tmp 53]) rfl ?_); at_builtin; refine Kd.R_append k26 (w0 := w) w.heap.size rfl (.tmp 51) (.tmp 53) 31 26 (.agg #[(.int .i64 0), (.int .i64 0)]) 16 rfl Try.underlying31 info26 rfl (by decide) (by omega) u3 x3_1 (⟨x241000_2, x241001_2⟩ : S26) [.int .i64 x241000_2, .int .i64 x241001_2] (fun k_ => k_ ≠ gb240) (fun _ => False) rfl rfl ?aP (fun _ hk => hk.elim) ?aF ?aO ?aB ?aS ?aL ?_; (case aP => exact k26_mkM _ _ _ (⟨x241000_2, x241001_2⟩ : S26)); (case aB => exact bel_); (case aF => exact (fun k_ hk => Kd.freshB (g := gb240) (o := .cells #[.int .i64 x241000_2, .int .i64 x241001_2] 26 (0, 0)) blk_ k_ hk)); (case aO => exact (rl_ HO_3)); (case aS => exact (below_size bel_)); (case aL => have := LMc40.out; omega); intro v247 w42 ho hb hg hat; rw [← Ny246.out] at ho; replace BK240 := zM (blk_grown (g := gb240) (o := .cells #[.int .i64 x241000_2, .int .i64 x241001_2] 26 (0, 0)) blk_ hg (Kd.R_away HO_3.out (fun _ hk => hk))); replace HB := zM (hb); have HO248 := zM (ho); clear HO_3; clear ho hb hg hat))
        go_roundg k2
        case measure => have := HK1.out; have := HK2.out; omega
        case rel => exact ⟨(y246), H', ⟨by have := HK1.out; have := HK2.out; omega⟩, ⟨by (with_reducible repeat (first | apply Kd.R_alloc | apply Kd.R_drewN | apply Kd.R_drew)); exact Kd.R_mono HO248.out (fun _ hk => trivial)⟩, ⟨bel_⟩⟩
      rw [if_pos c6] at H
      have c6b0 : decide (x15_2 < (l0.length : Int)) = true := decide_eq_true c6
      clear c6
      by_cases c7 : 0 ≤ x15_2
      rotate_left
      · rw [if_neg c7] at H
        exact absurd H (by simp)
      rw [if_pos c7] at H
      have c7b0 : decide (0 ≤ x15_2) = true := decide_eq_true c7
      clear c7
      by_cases c8 : x15_2 < (l0.length : Int)
      rotate_left
      · rw [if_neg c8] at H
        exact absurd H (by simp)
      rw [if_pos c8] at H
      have c8b0 : decide (x15_2 < (l0.length : Int)) = true := decide_eq_true c8
      clear c8
      have H' := zM H
      clear H
      have p241 : 0 ≤ (x15_2 : Int) := of_decide_eq_true (by first | (with_reducible assumption) | assumption)
      have q241 : x15_2 < (l0.length : Int) := of_decide_eq_true (by first | (with_reducible assumption) | assumption)
      obtain ⟨ad241, e241, hx241_0, hx241_1, hx241_2⟩ := at_T34 HR0.out x15_2 p241 q241
      cases e241
      replace hx241_0 := (HB.out.cell (World.block_lt_of_cell? w _ hx241_0)).trans hx241_0
      replace hx241_1 := (HB.out.cell (World.block_lt_of_cell? w _ hx241_1)).trans hx241_1
      replace hx241_2 := (HB.out.cell (World.block_lt_of_cell? w _ hx241_2)).trans hx241_2
      replace p241 := eq_true p241
      replace q241 := eq_true q241
      go_wp2_with (first | ((with_reducible refine gate_dst (N := 7) rfl ?_); refine box_event ?hg (N := 7) ?hd (cs := #[.int .i64 0, .int .i64 0, .int .i64 0]) (t := 34) ?hr ?_; (case hd => rfl); (case hg => rfl); (case hr => first | (go_simp; done) | (go_simp; rfl)); intro gb242 hg w9 hbox hb; replace HO_3 := zM (Kd.R_below (rl_ HO_3) hb); have BK242 := zM (hbox); have GW242 := zM (bs_ hg); have GE242 := zM (bs_ hg); replace HB := zM (zB bel_ hb); have NB240_242 := zM (nl_ BK240 hg); have NB242_240 := zM (ng_ BK240 hg); replace BK240 := zM (bb_ BK240 hb); clear hb hbox hg; have hnb10 := NB242_240.out; have hnc10 := NB240_242.out; obtain ⟨hcz11_0, hcz11_1, hcz11_2⟩ := r3_ BK242.out; obtain ⟨hfz11_0, hfz11_1, hfz11_2⟩ := f3_ BK242.out; obtain ⟨Ao12, co12, eo12⟩ := Kd.R_slice HO_3.out; subst eo12))
      go_loopg [8, 21] k2 (fun kq v8 v21 w' => ∃ (x8_3 : Bool) (x21_3 : Int), v8 = .bool x8_3 ∧ v21 = .int .i64 x21_3 ∧ Aside0 (ropewayref10_Changes.l2 kq l0 x3_1 x5_2 x8_3 l0 (l0.length : Int) x15_2 x3_1 (x3_1.length : Int) x21_3 x241000_2 x241001_2 ((rd_T34 l0 x15_2).f0) ((rd_T34 l0 x15_2).f1.f0) ((rd_T34 l0 x15_2).f1.f1) = some r) ∧ Aside0 (kq ≤ k2) ∧ Aside0 (Kd.R k26 26 w' w.heap.size (fun k_ => k_ ≠ gb240) (.slice Ao12 x3_1.length co12) x3_1) ∧ Aside0 (Kd.R k26 26 w' w.heap.size (fun k_ => k_ ≠ gb240) (.slice Ao12 x3_1.length co12) x3_1) ∧ Aside0 (w'.heap[gb240]? = some (.cells #[.int .i64 x241000_2, .int .i64 x241001_2] 26 (0, 0))) ∧ Aside0 (w'.heap[gb242]? = some (.cells #[.int .i64 ((rd_T34 l0 x15_2).f0), .int .i64 ((rd_T34 l0 x15_2).f1.f0), .int .i64 ((rd_T34 l0 x15_2).f1.f1)] 34 (0, 0))) ∧ Aside0 (Below w.heap.size w w'))
      case atStart => exact ⟨(false), (0), (by first | rfl | (simp; done) | (simp [*]; done) | (simp; grind)), (by first | rfl | (simp; done) | (simp [*]; done) | (simp; grind)), H', ⟨Nat.le_refl _⟩, ⟨by (with_reducible repeat (first | apply Kd.R_alloc | apply Kd.R_drewN | apply Kd.R_drew)); exact Kd.R_mono (Kd.R_far (p := ⟨gb242, 2, none⟩) (Kd.R_far (p := ⟨gb242, 1, none⟩) (Kd.R_far (p := ⟨gb242, 0, none⟩) (Kd.R_types HO_3.out BK242.out (by decide)) (fun _ hk => hk.2) (.int .i64 ((rd_T34 l0 x15_2).f0))) (fun _ hk => hk.2) (.int .i64 ((rd_T34 l0 x15_2).f1.f0))) (fun _ hk => hk.2) (.int .i64 ((rd_T34 l0 x15_2).f1.f1))) (fun _ hk => hk.1)⟩, ⟨by (with_reducible repeat (first | apply Kd.R_alloc | apply Kd.R_drewN | apply Kd.R_drew)); exact Kd.R_mono (Kd.R_far (p := ⟨gb242, 2, none⟩) (Kd.R_far (p := ⟨gb242, 1, none⟩) (Kd.R_far (p := ⟨gb242, 0, none⟩) (Kd.R_types HO_3.out BK242.out (by decide)) (fun _ hk => hk.2) (.int .i64 ((rd_T34 l0 x15_2).f0))) (fun _ hk => hk.2) (.int .i64 ((rd_T34 l0 x15_2).f1.f0))) (fun _ hk => hk.2) (.int .i64 ((rd_T34 l0 x15_2).f1.f1))) (fun _ hk => hk.1)⟩, ⟨blf_⟩, ⟨by (with_reducible repeat (first | refine zN ?_ _ | refine zD ?_ | refine zA ?_ _)); exact fx3_ BK242⟩, ⟨bel_⟩⟩
      case round =>
       clear H'
       try clear c1
       try clear c2
       try clear p2
       try clear q2
       try clear hx2
       try clear c6
       try clear c6b0
       try clear c7
       try clear c7b0
       try clear c8
       try clear c8b0
       try clear c10
       try clear hcz11_0
       try clear hcz11_1
       try clear hcz11_2
       try clear hcz5_0
       try clear hcz5_1
       try clear hfz11_0
       try clear hfz11_1
       try clear hfz11_2
       try clear hfz5_0
       try clear hfz5_1
       try clear hx241_0
       try clear hx241_1
       try clear hx241_2
       try clear p2
       try clear p241
       try clear q241
       obtain ⟨x8_3, x21_3, rfl, rfl, HA, HK3, HO_3, HO_19, BK240, BK242, HB⟩ := hrel
       cases gk with
       | zero => exact absurd HA.out (by simp [ropewayref10_Changes.l2])
       | succ k3 =>
        have H := HA.out
        clear HA
        simp only [ropewayref10_Changes.l2] at H
        by_cases c13 : x21_3 < (x3_1.length : Int)
        · rw [if_pos c13] at H
          have c13b0 : decide (x21_3 < (x3_1.length : Int)) = true := decide_eq_true c13
          clear c13
          by_cases c14 : 0 ≤ x21_3
          rotate_left
          · rw [if_neg c14] at H
            exact absurd H (by simp)
          rw [if_pos c14] at H
          have c14b0 : decide (0 ≤ x21_3) = true := decide_eq_true c14
          clear c14
          by_cases c15 : x21_3 < (x3_1.length : Int)
          rotate_left
          · rw [if_neg c15] at H
            exact absurd H (by simp)
          rw [if_pos c15] at H
          have c15b0 : decide (x21_3 < (x3_1.length : Int)) = true := decide_eq_true c15
          clear c15
          by_cases c16 : x8_3 = true
          · subst c16
            have H1 : (ropewayref10_Changes.l2 k3 l0 x3_1 x5_2 true l0 (l0.length : Int) x15_2 x3_1 (x3_1.length : Int) (wrap64 (x21_3 + 1)) x241000_2 x241001_2 ((rd_T34 l0 x15_2).f0) ((rd_T34 l0 x15_2).f1.f0) ((rd_T34 l0 x15_2).f1.f1)) = some r := by rw [if_pos rfl] at H; exact H
            clear H
            have H := H1
            clear H1
            have H' := zM H
            clear H
            have p243 : 0 ≤ (x21_3 : Int) := of_decide_eq_true (by first | (with_reducible assumption) | assumption)
            have q243 : x21_3 < (x3_1.length : Int) := of_decide_eq_true (by first | (with_reducible assumption) | assumption)
            obtain ⟨ad243, e243, hx243_0, hx243_1⟩ := at_T26 (Kd.R_reads' HO_19.out).2.2 x21_3 p243 q243
            cases e243
            replace p243 := eq_true p243
            replace q243 := eq_true q243
            go_wp2_with (first | ((with_reducible refine gate_dst (N := 10) rfl ?_); refine box_event ?hg (N := 10) ?hd (cs := #[.int .i64 0, .int .i64 0]) (t := 26) ?hr ?_; (case hd => rfl); (case hg => rfl); (case hr => first | (go_simp; done) | (go_simp; rfl)); intro gb244 hg w17 hbox hb; replace HO_3 := zM (Kd.R_below (Kd.R_elderB (rl_ HO_3) gb244 (Nat.le_of_eq hg.symm)) hb); replace HO_19 := zM (Kd.R_below (Kd.R_elderB (rl_ HO_19) gb244 (Nat.le_of_eq hg.symm)) hb); have BK244 := zM (hbox); have GW244 := zM (bs_ hg); have GE244 := zM (bs_ hg); replace HB := zM (zB bel_ hb); have NB240_244 := zM (nl_ BK240 hg); have NB244_240 := zM (ng_ BK240 hg); replace BK240 := zM (bb_ BK240 hb); have NB242_244 := zM (nl_ BK242 hg); have NB244_242 := zM (ng_ BK242 hg); replace BK242 := zM (bb_ BK242 hb); clear hb hbox hg; have hnb18 := NB244_240.out; have hnc18 := NB240_244.out; have hnb19 := NB244_242.out; have hnc19 := NB242_244.out; obtain ⟨hcz20_0, hcz20_1⟩ := r2_ BK244.out; obtain ⟨hfz20_0, hfz20_1⟩ := f2_ BK244.out))
            go_roundg k3
            case measure => have := HK1.out; have := HK2.out; have := HK3.out; omega
            case rel => exact ⟨(true), (wrap64 (x21_3 + 1)), (by first | rfl | (simp; done) | (simp [*]; done) | (simp; grind)), (by first | rfl | (simp; done) | (simp [*]; done) | (simp; grind)), H', ⟨by have := HK1.out; have := HK2.out; have := HK3.out; omega⟩, ⟨by (with_reducible repeat (first | apply Kd.R_alloc | apply Kd.R_drewN | apply Kd.R_drew)); exact Kd.R_mono (Kd.R_far (p := ⟨gb244, 1, none⟩) (Kd.R_far (p := ⟨gb244, 0, none⟩) (Kd.R_mono HO_3.out (fun k_ hk => (⟨hk, hk.2⟩ : _ ∧ k_ ≠ gb244))) (fun _ hk => hk.2) (.int .i64 ((rd_T26 x3_1 x21_3).f0))) (fun _ hk => hk.2) (.int .i64 ((rd_T26 x3_1 x21_3).f1))) (fun _ hk => hk.1.1)⟩, ⟨by (with_reducible repeat (first | apply Kd.R_alloc | apply Kd.R_drewN | apply Kd.R_drew)); exact Kd.R_mono (Kd.R_far (p := ⟨gb244, 1, none⟩) (Kd.R_far (p := ⟨gb244, 0, none⟩) (Kd.R_mono HO_19.out (fun k_ hk => (⟨hk, hk.2⟩ : _ ∧ k_ ≠ gb244))) (fun _ hk => hk.2) (.int .i64 ((rd_T26 x3_1 x21_3).f0))) (fun _ hk => hk.2) (.int .i64 ((rd_T26 x3_1 x21_3).f1))) (fun _ hk => hk.1.1)⟩, ⟨blf_⟩, ⟨blf_⟩, ⟨bel_⟩⟩
          replace c16 := Bool.eq_false_iff.mpr c16
          subst c16
          have H1 : (ropewayref10_Changes.l2 k3 l0 x3_1 x5_2 (((rd_T26 x3_1 x21_3).f0) == ((rd_T34 l0 x15_2).f1.f0) && (((rd_T26 x3_1 x21_3).f1) == ((rd_T34 l0 x15_2).f1.f1))) l0 (l0.length : Int) x15_2 x3_1 (x3_1.length : Int) (wrap64 (x21_3 + 1)) x241000_2 x241001_2 ((rd_T34 l0 x15_2).f0) ((rd_T34 l0 x15_2).f1.f0) ((rd_T34 l0 x15_2).f1.f1)) = some r := by rw [if_neg (show ¬ (false = true) by decide)] at H; exact H
          clear H
          have H := H1
          clear H1
          have H' := zM H
          clear H
          have p243 : 0 ≤ (x21_3 : Int) := of_decide_eq_true (by first | (with_reducible assumption) | assumption)
          have q243 : x21_3 < (x3_1.length : Int) := of_decide_eq_true (by first | (with_reducible assumption) | assumption)
          obtain ⟨ad243, e243, hx243_0, hx243_1⟩ := at_T26 (Kd.R_reads' HO_19.out).2.2 x21_3 p243 q243
          cases e243
          replace p243 := eq_true p243
          replace q243 := eq_true q243
          go_wp2_with (first | ((with_reducible refine gate_dst (N := 10) rfl ?_); refine box_event ?hg (N := 10) ?hd (cs := #[.int .i64 0, .int .i64 0]) (t := 26) ?hr ?_; (case hd => rfl); (case hg => rfl); (case hr => first | (go_simp; done) | (go_simp; rfl)); intro gb244 hg w21 hbox hb; replace HO_3 := zM (Kd.R_below (Kd.R_elderB (rl_ HO_3) gb244 (Nat.le_of_eq hg.symm)) hb); replace HO_19 := zM (Kd.R_below (Kd.R_elderB (rl_ HO_19) gb244 (Nat.le_of_eq hg.symm)) hb); have BK244 := zM (hbox); have GW244 := zM (bs_ hg); have GE244 := zM (bs_ hg); replace HB := zM (zB bel_ hb); have NB240_244 := zM (nl_ BK240 hg); have NB244_240 := zM (ng_ BK240 hg); replace BK240 := zM (bb_ BK240 hb); have NB242_244 := zM (nl_ BK242 hg); have NB244_242 := zM (ng_ BK242 hg); replace BK242 := zM (bb_ BK242 hb); clear hb hbox hg; have hnb22 := NB244_240.out; have hnc22 := NB240_244.out; have hnb23 := NB244_242.out; have hnc23 := NB242_244.out; obtain ⟨hcz24_0, hcz24_1⟩ := r2_ BK244.out; obtain ⟨hfz24_0, hfz24_1⟩ := f2_ BK244.out; have hnb25 := NB242_240.out; have hnc25 := NB240_242.out; obtain ⟨hcz26_0, hcz26_1, hcz26_2⟩ := r3_ BK242.out; obtain ⟨hfz26_0, hfz26_1, hfz26_2⟩ := f3_ BK242.out))
          go_roundg k3
          case measure => have := HK1.out; have := HK2.out; have := HK3.out; omega
          case rel => exact ⟨((((rd_T26 x3_1 x21_3).f0) == ((rd_T34 l0 x15_2).f1.f0) && (((rd_T26 x3_1 x21_3).f1) == ((rd_T34 l0 x15_2).f1.f1)))), (wrap64 (x21_3 + 1)), (by first | rfl | (simp; done) | (simp [*]; done) | (simp; grind)), (by first | rfl | (simp; done) | (simp [*]; done) | (simp; grind)), H', ⟨by have := HK1.out; have := HK2.out; have := HK3.out; omega⟩, ⟨by (with_reducible repeat (first | apply Kd.R_alloc | apply Kd.R_drewN | apply Kd.R_drew)); exact Kd.R_mono (Kd.R_far (p := ⟨gb244, 1, none⟩) (Kd.R_far (p := ⟨gb244, 0, none⟩) (Kd.R_mono HO_3.out (fun k_ hk => (⟨hk, hk.2⟩ : _ ∧ k_ ≠ gb244))) (fun _ hk => hk.2) (.int .i64 ((rd_T26 x3_1 x21_3).f0))) (fun _ hk => hk.2) (.int .i64 ((rd_T26 x3_1 x21_3).f1))) (fun _ hk => hk.1.1)⟩, ⟨by (with_reducible repeat (first | apply Kd.R_alloc | apply Kd.R_drewN | apply Kd.R_drew)); exact Kd.R_mono (Kd.R_far (p := ⟨gb244, 1, none⟩) (Kd.R_far (p := ⟨gb244, 0, none⟩) (Kd.R_mono HO_19.out (fun k_ hk => (⟨hk, hk.2⟩ : _ ∧ k_ ≠ gb244))) (fun _ hk => hk.2) (.int .i64 ((rd_T26 x3_1 x21_3).f0))) (fun _ hk => hk.2) (.int .i64 ((rd_T26 x3_1 x21_3).f1))) (fun _ hk => hk.1.1)⟩, ⟨blf_⟩, ⟨blf_⟩, ⟨bel_⟩⟩
        rw [if_neg c13] at H
        have c13b0 : decide (x21_3 < (x3_1.length : Int)) = false := decide_eq_false c13
        clear c13
        have HC27 := zM H
        clear H
        go_upto_region 12 with (fail)
        go_cut [44] (fun v44 wc => ∃ (kq : Nat) (x44_26 : Bool), v44 = .bool x44_26 ∧ Aside0 (ropewayref10_Changes.j3 kq l0 x3_1 x5_2 l0 (l0.length : Int) x15_2 x44_26 x241000_2 x241001_2 ((rd_T34 l0 x15_2).f0) ((rd_T34 l0 x15_2).f1.f0) ((rd_T34 l0 x15_2).f1.f1) = some r) ∧ Aside0 (kq ≤ k3) ∧ Aside0 (Kd.R k26 26 wc w.heap.size (fun k_ => k_ ≠ gb240) (.slice Ao12 x3_1.length co12) x3_1) ∧ Aside0 (wc.heap[gb240]? = some (.cells #[.int .i64 x241000_2, .int .i64 x241001_2] 26 (0, 0))) ∧ Aside0 (wc.heap[gb242]? = some (.cells #[.int .i64 ((rd_T34 l0 x15_2).f0), .int .i64 ((rd_T34 l0 x15_2).f1.f0), .int .i64 ((rd_T34 l0 x15_2).f1.f1)] 34 (0, 0))) ∧ Aside0 (Below w.heap.size w wc))
        case first =>
         have H := HC27.out
         clear HC27
         by_cases c28 : x8_3 = true
         · subst c28
           have H1 : (ropewayref10_Changes.j3 k3 l0 x3_1 x5_2 l0 (l0.length : Int) x15_2 false x241000_2 x241001_2 ((rd_T34 l0 x15_2).f0) ((rd_T34 l0 x15_2).f1.f0) ((rd_T34 l0 x15_2).f1.f1)) = some r := by rw [if_pos rfl] at H; exact H
           clear H
           have H := H1
           clear H1
           have H' := zM H
           clear H
           go_wp2
           go_meet
           case rel => exact ⟨_, (false), (by first | rfl | (simp; done) | (simp [*]; done) | (simp; grind)), H', ⟨by have := HK1.out; have := HK2.out; have := HK3.out; first | omega | exact Nat.le_refl _⟩, ⟨by (with_reducible repeat (first | apply Kd.R_alloc | apply Kd.R_drewN | apply Kd.R_drew)); exact HO_3.out⟩, ⟨blf_⟩, ⟨blf_⟩, ⟨bel_⟩⟩
         replace c28 := Bool.eq_false_iff.mpr c28
         subst c28
         have H1 : (if x5_2 = true then ((ropewayref05_Less.f k3 ((rd_T34 l0 x15_2).f1.f0) ((rd_T34 l0 x15_2).f1.f1) x241000_2 x241001_2).bind fun t245 => (ropewayref10_Changes.j3 k3 l0 x3_1 x5_2 l0 (l0.length : Int) x15_2 t245 x241000_2 x241001_2 ((rd_T34 l0 x15_2).f0) ((rd_T34 l0 x15_2).f1.f0) ((rd_T34 l0 x15_2).f1.f1))) else (ropewayref10_Changes.j3 k3 l0 x3_1 x5_2 l0 (l0.length : Int) x15_2 true x241000_2 x241001_2 ((rd_T34 l0 x15_2).f0) ((rd_T34 l0 x15_2).f1.f0) ((rd_T34 l0 x15_2).f1.f1))) = some r := by rw [if_neg (show ¬ (false = true) by decide)] at H; exact H
         clear H
         have H := H1
         clear H1
         by_cases c29 : x5_2 = true
         rotate_left
         · replace c29 := Bool.eq_false_iff.mpr c29
           subst c29
           have H1 : (ropewayref10_Changes.j3 k3 l0 x3_1 false l0 (l0.length : Int) x15_2 true x241000_2 x241001_2 ((rd_T34 l0 x15_2).f0) ((rd_T34 l0 x15_2).f1.f0) ((rd_T34 l0 x15_2).f1.f1)) = some r := by rw [if_neg (show ¬ (false = true) by decide)] at H; exact H
           clear H
           have H := H1
           clear H1
           have H' := zM H
           clear H
           go_wp2
           go_meet
           case rel => exact ⟨_, (true), (by first | rfl | (simp; done) | (simp [*]; done) | (simp; grind)), H', ⟨by have := HK1.out; have := HK2.out; have := HK3.out; first | omega | exact Nat.le_refl _⟩, ⟨by (with_reducible repeat (first | apply Kd.R_alloc | apply Kd.R_drewN | apply Kd.R_drew)); exact HO_3.out⟩, ⟨blf_⟩, ⟨blf_⟩, ⟨bel_⟩⟩
         subst c29
         have H1 : ((ropewayref05_Less.f k3 ((rd_T34 l0 x15_2).f1.f0) ((rd_T34 l0 x15_2).f1.f1) x241000_2 x241001_2).bind fun t245 => (ropewayref10_Changes.j3 k3 l0 x3_1 true l0 (l0.length : Int) x15_2 t245 x241000_2 x241001_2 ((rd_T34 l0 x15_2).f0) ((rd_T34 l0 x15_2).f1.f0) ((rd_T34 l0 x15_2).f1.f1))) = some r := by rw [if_pos rfl] at H; exact H
         clear H
         have H := H1
         clear H1
         replace H := Option.bind_eq_some_iff.mp H
         obtain ⟨t245, A300, H⟩ := H
         replace H : (ropewayref10_Changes.j3 k3 l0 x3_1 true l0 (l0.length : Int) x15_2 t245 x241000_2 x241001_2 ((rd_T34 l0 x15_2).f0) ((rd_T34 l0 x15_2).f1.f0) ((rd_T34 l0 x15_2).f1.f1)) = some r := H
         have A30 := zM A300
         clear A300
         have H' := zM H
         clear H
         have hnb31 := NB242_240.out
         have hnc31 := NB240_242.out
         obtain ⟨hcz32_0, hcz32_1, hcz32_2⟩ := r3_ BK242.out
         obtain ⟨hfz32_0, hfz32_1, hfz32_2⟩ := f3_ BK242.out
         obtain ⟨hcz33_0, hcz33_1⟩ := r2_ BK240.out
         obtain ⟨hfz33_0, hfz33_1⟩ := f2_ BK240.out
         go_wp2_with (first | (go_at_call 39; (with_reducible refine (ropewayref05_Less.calls k3 ((rd_T34 l0 x15_2).f1.f0) ((rd_T34 l0 x15_2).f1.f1) x241000_2 x241001_2 t245 _ A30.out).mono ?_); rintro e w34 ⟨rfl, hb⟩; replace HO_3 := zM (Kd.R_below (rl_ HO_3) hb); replace HO_19 := zM (Kd.R_below (rl_ HO_19) hb); replace BK240 := zM (bb_ BK240 hb); replace BK242 := zM (bb_ BK242 hb); replace HB := zM (zB bel_ hb); (try clear hb); (try clear hb2); (try clear hk); (try clear hi)))
         go_meet
         case rel => exact ⟨_, (t245), (by first | rfl | (simp; done) | (simp [*]; done) | (simp; grind)), H', ⟨by have := HK1.out; have := HK2.out; have := HK3.out; first | omega | exact Nat.le_refl _⟩, ⟨by (with_reducible repeat (first | apply Kd.R_alloc | apply Kd.R_drewN | apply Kd.R_drew)); exact HO_3.out⟩, ⟨blf_⟩, ⟨blf_⟩, ⟨bel_⟩⟩
        case rest =>
         clear HC27
         try clear c1
         try clear c2
         try clear p2
         try clear q2
         try clear hx2
         try clear c3
         try clear c6
         try clear c6b0
         try clear p6
         try clear c7
         try clear c7b0
         try clear c8
         try clear c8b0
         try clear c10
         try clear c13
         try clear c13b0
         try clear c14
         try clear c14b0
         try clear c15
         try clear c15b0
         try clear c16
         try clear c18
         try clear c19
         try clear c22
         try clear c23
         try clear p24
         try clear q24
         try clear hx24
         try clear c25
         try clear c28
         try clear c29
         try clear c31
         try clear hcz11_0
         try clear hcz11_1
         try clear hcz11_2
         try clear hcz20_0
         try clear hcz20_1
         try clear hcz24_0
         try clear hcz24_1
         try clear hcz26_0
         try clear hcz26_1
         try clear hcz26_2
         try clear hcz32_0
         try clear hcz32_1
         try clear hcz32_2
         try clear hcz33_0
         try clear hcz33_1
         try clear hcz5_0
         try clear hcz5_1
         try clear hfz11_0
         try clear hfz11_1
         try clear hfz11_2
         try clear hfz20_0
         try clear hfz20_1
         try clear hfz24_0
         try clear hfz24_1
         try clear hfz26_0
         try clear hfz26_1
         try clear hfz26_2
         try clear hfz32_0
         try clear hfz32_1
         try clear hfz32_2
         try clear hfz33_0
         try clear hfz33_1
         try clear hfz5_0
         try clear hfz5_1
         try clear hx241_0
         try clear hx241_1
         try clear hx241_2
         try clear hx243_0
         try clear hx243_1
         try clear p2
         try clear p241
         try clear p243
         try clear q2
         try clear q241
         try clear q243
         obtain ⟨kq, x44_26, rfl, HA, HJ26, HO_3, BK240, BK242, HB⟩ := hcut
         cases kq with
         | zero => exact absurd HA.out (by simp [ropewayref10_Changes.j3])
         | succ kj26 =>
          have H := HA.out
          clear HA
          simp only [ropewayref10_Changes.j3] at H
          by_cases c35 : x44_26 = true
          rotate_left
          · replace c35 := Bool.eq_false_iff.mpr c35
            subst c35
            have H1 : (ropewayref10_Changes.l1 kj26 l0 x3_1 x5_2 l0 (l0.length : Int) (wrap64 (x15_2 + 1)) x241000_2 x241001_2) = some r := by rw [if_neg (show ¬ (false = true) by decide)] at H; exact H
            clear H
            have H := H1
            clear H1
            have H' := zM H
            clear H
            go_wp2
            go_roundg kj26
            case measure => have := HK1.out; have := HK2.out; have := HK3.out; have := HJ26.out; omega
            case rel => exact ⟨(x5_2), (wrap64 (x15_2 + 1)), (x241000_2), (x241001_2), (by first | rfl | (simp; done) | (simp [*]; done) | (simp; grind)), (by first | rfl | (simp; done) | (simp [*]; done) | (simp; grind)), H', ⟨by have := HK1.out; have := HK2.out; have := HK3.out; have := HJ26.out; omega⟩, ⟨by (with_reducible repeat (first | apply Kd.R_alloc | apply Kd.R_drewN | apply Kd.R_drew)); exact HO_3.out⟩, ⟨blf_⟩, ⟨bel_⟩⟩
          subst c35
          have H1 : (ropewayref10_Changes.l1 kj26 l0 x3_1 true l0 (l0.length : Int) (wrap64 (x15_2 + 1)) ((rd_T34 l0 x15_2).f1.f0) ((rd_T34 l0 x15_2).f1.f1)) = some r := by rw [if_pos rfl] at H; exact H
          clear H
          have H := H1
          clear H1
          have H' := zM H
          clear H
          have hnb36 := NB242_240.out
          have hnc36 := NB240_242.out
          obtain ⟨hcz37_0, hcz37_1, hcz37_2⟩ := r3_ BK242.out
          obtain ⟨hfz37_0, hfz37_1, hfz37_2⟩ := f3_ BK242.out
          obtain ⟨hcz38_0, hcz38_1⟩ := r2_ BK240.out
          obtain ⟨hfz38_0, hfz38_1⟩ := f2_ BK240.out
          go_wp2
          go_roundg kj26
          case measure => have := HK1.out; have := HK2.out; have := HK3.out; have := HJ26.out; omega
          case rel => exact ⟨(true), (wrap64 (x15_2 + 1)), (((rd_T34 l0 x15_2).f1.f0)), (((rd_T34 l0 x15_2).f1.f1)), (by first | rfl | (simp; done) | (simp [*]; done) | (simp; grind)), (by first | rfl | (simp; done) | (simp [*]; done) | (simp; grind)), H', ⟨by have := HK1.out; have := HK2.out; have := HK3.out; have := HJ26.out; omega⟩, ⟨by (with_reducible repeat (first | apply Kd.R_alloc | apply Kd.R_drewN | apply Kd.R_drew)); exact Kd.R_mono (Kd.R_far (p := ⟨gb240, 1, none⟩) (Kd.R_far (p := ⟨gb240, 0, none⟩) (Kd.R_mono HO_3.out (fun k_ hk => (⟨hk, hk⟩ : _ ∧ k_ ≠ gb240))) (fun _ hk => hk.2) (.int .i64 ((rd_T34 l0 x15_2).f1.f0))) (fun _ hk => hk.2) (.int .i64 ((rd_T34 l0 x15_2).f1.f1))) (fun _ hk => hk.1)⟩, ⟨by (with_reducible repeat (first | refine zN ?_ _ | refine zD ?_ | refine zA ?_ _)); refine blk_put (cs := #[.int .i64 ((rd_T34 l0 x15_2).f1.f0), .int .i64 x241001_2]) ?_ 1 _ rfl; (with_reducible repeat (first | refine zN ?_ _ | refine zD ?_ | refine zA ?_ _)); refine blk_put (cs := #[.int .i64 x241000_2, .int .i64 x241001_2]) ?_ 0 _ rfl; (with_reducible repeat (first | refine zN ?_ _ | refine zD ?_ | refine zA ?_ _)); exact BK240.out⟩, ⟨bel_⟩⟩
/-! ### ropewayref15_Found: function 21 -/
def ropewayref15_Found.j0 : Nat → Bool → Bool → Int → Int → Int → List (List (S34)) → Option ((List (S26)))
  | 0, _, _, _, _, _, _ => none
  | k + 1, x10, x250000, x250001, x250002, x250003, x250004 => if x10 = true then (some ([] : List (S26))) else (if (x250004.length : Int) > 2 then (if 2 < (x250004.length : Int) then ((ropewayref10_Changes.f k (rd_L3 x250004 2)).bind fun t251 => (some t251)) else (none)) else (if 0 < (x250004.length : Int) then ((ropewayref10_Changes.f k (rd_L3 x250004 0)).bind fun t255 => (some t255)) else (none)))
def ropewayref15_Found.f (k : Nat) (a0_0 : Bool) (a0_1 : Int) (a0_2 : Int) (a0_3 : Int) (l0_4 : List (List (S34))) : Option ((List (S26))) := if a0_0 = true then (ropewayref15_Found.j0 k true a0_0 a0_1 a0_2 a0_3 l0_4) else (ropewayref15_Found.j0 k ((l0_4.length : Int) == 0) a0_0 a0_1 a0_2 a0_3 l0_4)
theorem ropewayref15_Found.mono_l : ∀ k, (∀ y0 y1 y2 y3 y4 y5, LeO (ropewayref15_Found.j0 k y0 y1 y2 y3 y4 y5) (ropewayref15_Found.j0 (k + 1) y0 y1 y2 y3 y4 y5))
  | 0 => fun _ _ _ _ _ _ r h => by simp [ropewayref15_Found.j0] at h
  | k + 1 => by
    have ih0 := ropewayref15_Found.mono_l k
    · intro y0 y1 y2 y3 y4 y5
      unfold ropewayref15_Found.j0
      repeat' first
      | (with_reducible exact ih0 _ _ _ _ _ _)
      | (with_reducible exact ropewayref10_Changes.mono _ _)
      | (with_reducible exact LeO.refl _)
      | (with_reducible exact LeO.none _)
      | (with_reducible refine LeO.ite ?_ ?_)
      | (with_reducible refine LeO.bind ?_ (fun _ => ?_))
      | exact ih0 _ _ _ _ _ _
      | exact ropewayref10_Changes.mono _ _
      | exact LeO.none _
      | refine LeO.ite ?_ ?_
      | refine LeO.bind ?_ (fun _ => ?_)
theorem ropewayref15_Found.mono : ∀ a0 a1 a2 a3 a4 k, LeO (ropewayref15_Found.f k a0 a1 a2 a3 a4) (ropewayref15_Found.f (k + 1) a0 a1 a2 a3 a4) := by
  intro a0 a1 a2 a3 a4 k
  have ih0 := ropewayref15_Found.mono_l k
  unfold ropewayref15_Found.f
  repeat' first
      | (with_reducible exact ih0 _ _ _ _ _ _)
      | (with_reducible exact ropewayref10_Changes.mono _ _)
      | (with_reducible exact LeO.refl _)
      | (with_reducible exact LeO.none _)
      | (with_reducible refine LeO.ite ?_ ?_)
      | (with_reducible refine LeO.bind ?_ (fun _ => ?_))
      | exact ih0 _ _ _ _ _ _
      | exact ropewayref10_Changes.mono _ _
      | exact LeO.none _
      | refine LeO.ite ?_ ?_
      | refine LeO.bind ?_ (fun _ => ?_)
set_option maxHeartbeats 8000000 in
set_option maxRecDepth 100000 in
theorem ropewayref15_Found.calls (k : Nat) (a0_0 : Bool) (a0_1 : Int) (a0_2 : Int) (a0_3 : Int) (A0_4 : Option Addr) (c0_4 : Nat) (l0_4 : List (List (S34))) (r : List (S26)) (w : World) (hr0_4 : Kd.C (Kd.slice 34 k34) w A0_4 l0_4.length l0_4) (hc0_4 : l0_4.length ≤ c0_4) (h : ropewayref15_Found.f k a0_0 a0_1 a0_2 a0_3 l0_4 = some r) :
    Calls Try.prog 21 #[.agg #[.bool a0_0, .int .i64 a0_1, .int .i64 a0_2, .int .i64 a0_3, .slice A0_4 l0_4.length c0_4]] w fun e w' => ∃ v0_ : Value, e = .returned (v0_) ∧ Kd.R k26 26 w' w.heap.size (fun _ => True) v0_ r ∧ Below w.heap.size w w' := by
  have hu38 := Try.underlying38
  have HR0_4 := zM hr0_4
  have HC0_4 := zM hc0_4
  clear hr0_4 hc0_4
  have HB := zM (Below.refl w.heap.size w)
  have H : (if a0_0 = true then (ropewayref15_Found.j0 k true a0_0 a0_1 a0_2 a0_3 l0_4) else (ropewayref15_Found.j0 k ((l0_4.length : Int) == 0) a0_0 a0_1 a0_2 a0_3 l0_4)) = some r := h
  clear h
  have HC2 := zM H
  clear H
  go_enter Try.func21, Try.ntmps21
  go_upto_region 1 with (first | ((with_reducible refine gate_dst (N := 1) rfl ?_); (try (refine gate_guard (by rfl) ?_; dsimp only)); refine box_event ?hg (N := 1) ?hd (cs := #[.bool a0_0, .int .i64 a0_1, .int .i64 a0_2, .int .i64 a0_3, .slice A0_4 l0_4.length c0_4]) (t := 38) ?hr ?_; (case hd => rfl); (case hg => rfl); (case hr => first | (go_simp; done) | (go_simp; rfl)); intro gb249 hg w3 hbox hb; have BK249 := zM (hbox); have GW249 := zM (bs_ hg); have GE249 := zM (bs_ hg); replace HB := zM (zB bel_ hb); clear hb hbox hg))
  (try simp only [Act.put, zS, zZ, zC])
  go_cut [10] (fun v10 wc => ∃ (kq : Nat) (x10_1 : Bool), v10 = .bool x10_1 ∧ Aside0 (ropewayref15_Found.j0 kq x10_1 a0_0 a0_1 a0_2 a0_3 l0_4 = some r) ∧ Aside0 (kq ≤ k) ∧ Aside0 (wc.heap[gb249]? = some (.cells #[.bool a0_0, .int .i64 a0_1, .int .i64 a0_2, .int .i64 a0_3, (.slice A0_4 l0_4.length c0_4)] 38 (0, 0))) ∧ Aside0 (Below w.heap.size w wc))
  case first =>
   have H := HC2.out
   clear HC2
   by_cases c4 : a0_0 = true
   · subst c4
     have H1 : (ropewayref15_Found.j0 k true true a0_1 a0_2 a0_3 l0_4) = some r := by rw [if_pos rfl] at H; exact H
     clear H
     have H := H1
     clear H1
     have H' := zM H
     clear H
     obtain ⟨hcz5_0, hcz5_1, hcz5_2, hcz5_3, hcz5_4⟩ := r5_ BK249.out
     obtain ⟨hfz5_0, hfz5_1, hfz5_2, hfz5_3, hfz5_4⟩ := f5_ BK249.out
     go_wp2
     go_meet
     case rel => exact ⟨_, (true), (by first | rfl | (simp; done) | (simp [*]; done) | (simp; grind)), H', ⟨by first | omega | exact Nat.le_refl _⟩, ⟨blf_⟩, ⟨bel_⟩⟩
   replace c4 := Bool.eq_false_iff.mpr c4
   subst c4
   have H1 : (ropewayref15_Found.j0 k ((l0_4.length : Int) == 0) false a0_1 a0_2 a0_3 l0_4) = some r := by rw [if_neg (show ¬ (false = true) by decide)] at H; exact H
   clear H
   have H := H1
   clear H1
   have H' := zM H
   clear H
   obtain ⟨hcz6_0, hcz6_1, hcz6_2, hcz6_3, hcz6_4⟩ := r5_ BK249.out
   obtain ⟨hfz6_0, hfz6_1, hfz6_2, hfz6_3, hfz6_4⟩ := f5_ BK249.out
   go_wp2
   go_meet
   case rel => exact ⟨_, (((l0_4.length : Int) == 0)), (by first | rfl | (simp; done) | (simp [*]; done) | (simp; grind)), H', ⟨by first | omega | exact Nat.le_refl _⟩, ⟨blf_⟩, ⟨bel_⟩⟩
  case rest =>
   clear HC2
   try clear c2
   try clear p2
   try clear c4
   try clear hcz5_0
   try clear hcz5_1
   try clear hcz5_2
   try clear hcz5_3
   try clear hcz5_4
   try clear hcz6_0
   try clear hcz6_1
   try clear hcz6_2
   try clear hcz6_3
   try clear hcz6_4
   try clear hfz5_0
   try clear hfz5_1
   try clear hfz5_2
   try clear hfz5_3
   try clear hfz5_4
   try clear hfz6_0
   try clear hfz6_1
   try clear hfz6_2
   try clear hfz6_3
   try clear hfz6_4
   obtain ⟨kq, x10_1, rfl, HA, HJ1, BK249, HB⟩ := hcut
   cases kq with
   | zero => exact absurd HA.out (by simp [ropewayref15_Found.j0])
   | succ kj1 =>
    have H := HA.out
    clear HA
    simp only [ropewayref15_Found.j0] at H
    by_cases c7 : x10_1 = true
    · subst c7
      have H1 : (some ([] : List (S26))) = some r := by rw [if_pos rfl] at H; exact H
      clear H
      have H := H1
      clear H1
      obtain rfl := Option.some.inj H
      go_wp2
      go_ret
      exact ⟨_, by first | rfl | (simp [errW_none, errW_some] <;> rfl) | (simp [*, errW_none, errW_some] <;> rfl), by first | exact Kd.R_nil _ _ _ _ _ | exact Kd.N_nil _ _ _ _ _ | exact Kd.V_nil _ _ _ _ _ | exact Kd.Q_nil _ _ _ _ _ | exact Kd.S_nil _ _ _ _ _, bel_⟩
    replace c7 := Bool.eq_false_iff.mpr c7
    subst c7
    have H1 : (if (l0_4.length : Int) > 2 then (if 2 < (l0_4.length : Int) then ((ropewayref10_Changes.f kj1 (rd_L3 l0_4 2)).bind fun t251 => (some t251)) else (none)) else (if 0 < (l0_4.length : Int) then ((ropewayref10_Changes.f kj1 (rd_L3 l0_4 0)).bind fun t255 => (some t255)) else (none))) = some r := by rw [if_neg (show ¬ (false = true) by decide)] at H; exact H
    clear H
    have H := H1
    clear H1
    by_cases c8 : (l0_4.length : Int) > 2
    rotate_left
    · rw [if_neg c8] at H
      have c8b0 : decide (2 < (l0_4.length : Int)) = false := decide_eq_false c8
      have c8b1 : decide (2 < l0_4.length) = false := decide_eq_false (by omega)
      clear c8
      by_cases c13 : 0 < (l0_4.length : Int)
      rotate_left
      · rw [if_neg c13] at H
        exact absurd H (by simp)
      rw [if_pos c13] at H
      have c13b0 : decide (0 < (l0_4.length : Int)) = true := decide_eq_true c13
      have c13b1 : decide (0 < l0_4.length) = true := decide_eq_true (by omega)
      clear c13
      replace H := Option.bind_eq_some_iff.mp H
      obtain ⟨t255, A140, H⟩ := H
      replace H : (some t255) = some r := H
      have A14 := zM A140
      clear A140
      obtain rfl := Option.some.inj H
      obtain ⟨hcz15_0, hcz15_1, hcz15_2, hcz15_3, hcz15_4⟩ := r5_ BK249.out
      obtain ⟨hfz15_0, hfz15_1, hfz15_2, hfz15_3, hfz15_4⟩ := f5_ BK249.out
      have p254 : 0 ≤ (0 : Int) := (by omega)
      have q254 : 0 < (l0_4.length : Int) := of_decide_eq_true (by first | (with_reducible assumption) | assumption)
      obtain ⟨ad254, A254_0, c254_0, e254, hx254_0, hl254_0, hi254_0⟩ := at_L3 HR0_4.out 0 p254 q254
      cases e254
      have qi254 : (0 < l0_4.length) = True := eq_true (by omega)
      (try rw [show ((0 : Int)).toNat = 0 from rfl] at hx254_0)
      (try rw [Addr.add_zero'] at hx254_0)
      replace hx254_0 := (HB.out.cell (World.block_lt_of_cell? w _ hx254_0)).trans hx254_0
      have HR254_0 := zM hi254_0
      have HC254_0 := zM hl254_0
      clear hi254_0 hl254_0
      replace p254 := eq_true p254
      replace q254 := eq_true q254
      go_wp2_with (first | ((with_reducible refine gate_callee (f := 28) rfl ?_); refine goL_ (some 24) Try.func28 #[.slice A254_0 (rd_L3 l0_4 0).length c254_0] ?_; (with_reducible refine (ropewayref10_Changes.calls kj1 _ _ (rd_L3 l0_4 0) t255 _ ?side1 ?side2 A14.out).mono ?_); (case side1 => repeat (first | exact (Kd.C_below HR254_0.out HB.out) | (with_reducible refine Kd.C_alloc ?_ _) | (with_reducible refine Kd.C_drewN ?_ _) | (with_reducible refine Kd.C_drew ?_))); (case side2 => exact HC254_0.out); rintro e w16 ⟨v256, rfl, ho0, hb⟩; refine ⟨_, rfl, ?_⟩; have HO257 := zM (Kd.R_lower ho0 (below_size bel_)); replace BK249 := zM (bb_ BK249 hb); replace HB := zM (zB bel_ hb); (try clear hb); (try clear hb2); (try clear hk); (try clear hi); (try clear ho0)))
      go_ret
      exact ⟨_, by first | rfl | (simp [errW_none, errW_some] <;> rfl) | (simp [*, errW_none, errW_some] <;> rfl), by (with_reducible repeat (first | apply Kd.R_alloc | apply Kd.R_drewN | apply Kd.R_drew)); exact HO257.out, bel_⟩
    rw [if_pos c8] at H
    have c8b0 : decide (2 < (l0_4.length : Int)) = true := decide_eq_true c8
    have c8b1 : decide (2 < l0_4.length) = true := decide_eq_true (by omega)
    clear c8
    by_cases c9 : 2 < (l0_4.length : Int)
    rotate_left
    · rw [if_neg c9] at H
      exact absurd H (by simp)
    rw [if_pos c9] at H
    have c9b0 : decide (2 < (l0_4.length : Int)) = true := decide_eq_true c9
    have c9b1 : decide (2 < l0_4.length) = true := decide_eq_true (by omega)
    clear c9
    replace H := Option.bind_eq_some_iff.mp H
    obtain ⟨t251, A100, H⟩ := H
    replace H : (some t251) = some r := H
    have A10 := zM A100
    clear A100
    obtain rfl := Option.some.inj H
    obtain ⟨hcz11_0, hcz11_1, hcz11_2, hcz11_3, hcz11_4⟩ := r5_ BK249.out
    obtain ⟨hfz11_0, hfz11_1, hfz11_2, hfz11_3, hfz11_4⟩ := f5_ BK249.out
    have p250 : 0 ≤ (2 : Int) := (by omega)
    have q250 : 2 < (l0_4.length : Int) := of_decide_eq_true (by first | (with_reducible assumption) | assumption)
    obtain ⟨ad250, A250_0, c250_0, e250, hx250_0, hl250_0, hi250_0⟩ := at_L3 HR0_4.out 2 p250 q250
    cases e250
    (try simp only [show (2 : Int).toNat = 2 from rfl, Nat.reduceMul, Nat.reduceEqDiff, Go.Addr.add, ↓reduceIte] at hx250_0)
    have qi250 : (2 < l0_4.length) = True := eq_true (by omega)
    (try rw [show ((2 : Int)).toNat = 2 from rfl] at hx250_0)
    replace hx250_0 := (HB.out.cell (World.block_lt_of_cell? w _ hx250_0)).trans hx250_0
    have HR250_0 := zM hi250_0
    have HC250_0 := zM hl250_0
    clear hi250_0 hl250_0
    replace p250 := eq_true p250
    replace q250 := eq_true q250
    go_wp2_with (first | ((with_reducible refine gate_callee (f := 28) rfl ?_); refine goL_ (some 19) Try.func28 #[.slice A250_0 (rd_L3 l0_4 2).length c250_0] ?_; (with_reducible refine (ropewayref10_Changes.calls kj1 _ _ (rd_L3 l0_4 2) t251 _ ?side1 ?side2 A10.out).mono ?_); (case side1 => repeat (first | exact (Kd.C_below HR250_0.out HB.out) | (with_reducible refine Kd.C_alloc ?_ _) | (with_reducible refine Kd.C_drewN ?_ _) | (with_reducible refine Kd.C_drew ?_))); (case side2 => exact HC250_0.out); rintro e w12 ⟨v252, rfl, ho0, hb⟩; refine ⟨_, rfl, ?_⟩; have HO253 := zM (Kd.R_lower ho0 (below_size bel_)); replace BK249 := zM (bb_ BK249 hb); replace HB := zM (zB bel_ hb); (try clear hb); (try clear hb2); (try clear hk); (try clear hi); (try clear ho0)))
    go_ret
    exact ⟨_, by first | rfl | (simp [errW_none, errW_some] <;> rfl) | (simp [*, errW_none, errW_some] <;> rfl), by (with_reducible repeat (first | apply Kd.R_alloc | apply Kd.R_drewN | apply Kd.R_drew)); exact HO253.out, bel_⟩
end Go.Proofs.Ytoelfknhnmhlmaa.PSnapRuns
