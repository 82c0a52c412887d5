/- Written by a program of this session (wip/tool/px.py) over the kit's print: what the code that the law PastParts reaches computes, function by function, and the law's row. -/
import Derived.Test.YtmenkbdaabjojaaPPastPartsx0
import Derived.Test.YtmenkbdaabjojaaPPastPartsx3
import Derived.Test.YtmenkbdaabjojaaPPastPartsx7
import Derived.Test.YtmenkbdaabjojaaPPastPartsx12
namespace Go.Proofs.Ytmenkbdaabjojaa.PPastParts
open Go.RowKit Go.Proofs.YtmenkbdaabjojaaX Go.Proofs.YtmenkbdaabjojaaW.PrintWords Go.Proofs.YtmenkbdaabjojaaW.PrintLast Go.Proofs.YtmenkbdaabjojaaW.PrintMore
open List renaming setIfInBounds_toArray → zS, set_cons_zero → zZ, set_cons_succ → zC
open Go.Proofs.YtmenkbdaabjojaaW.PrintWords renaming blk_drewN → zN, blk_drew → zD, blk_alloc → zA, below_step → zB
open Go.Proofs.YtmenkbdaabjojaaW.PrintWords.Aside0 renaming mk → zM
attribute [local go_sem] max2_int min2_int max_two min_two max_three min_three max_four min_four   -- for this text's walks alone
set_option linter.unusedVariables false
set_option linter.unusedSimpArgs false

attribute [local go_sem] px_store_float px_neg_float px_call40
/-! ### ropewaylaw21_PastParts: function 5 -/
mutual
def ropewaylaw21_PastParts.j0 : Nat → List (S35) → Bool → Option (Bool)
  | 0, _, _ => none
  | k + 1, x0, x16 => if x16 = true then (some true) else (ropewaylaw21_PastParts.l0 k x0 (([] : List (S35))) (-1) x0 (x0.length : Int) 0)
def ropewaylaw21_PastParts.l0 : Nat → List (S35) → List (S35) → Int → List (S35) → Int → Int → Option (Bool)
  | 0, _, _, _, _, _, _ => none
  | k + 1, x0, x3, x4, x18, x19, x20 => if x20 < x19 then (if 0 ≤ x20 then (if x20 < (x18.length : Int) then (if ((rd_T35 x18 x20).f3.f0) = 1 then ((some (([(⟨(rd_T35 x18 x20).f0, (rd_T35 x18 x20).f1, (rd_T35 x18 x20).f2, (⟨(rd_T35 x18 x20).f3.f0, (rd_T35 x18 x20).f3.f1, (rd_T35 x18 x20).f3.f2, (⟨(rd_T35 x18 x20).f3.f3.f0, (rd_T35 x18 x20).f3.f3.f1⟩ : S24)⟩ : S26), (⟨(rd_T35 x18 x20).f4.f0, (⟨(rd_T35 x18 x20).f4.f1.f0, (rd_T35 x18 x20).f4.f1.f1⟩ : S24), (⟨(rd_T35 x18 x20).f4.f2.f0, (⟨(rd_T35 x18 x20).f4.f2.f1.f0, (rd_T35 x18 x20).f4.f2.f1.f1⟩ : S29), (rd_T35 x18 x20).f4.f2.f2⟩ : S31)⟩ : S33)⟩ : S35)] : List (S35)) : List (S35))).bind fun y334 => (if x3.length + y334.length < 1172812402961 then ((some (x3 ++ y334 : List (S35))).bind fun y337 => (if ((rd_T35 x18 x20).f3.f0) = 0 then ((past_Well.f ((rd_T35 x18 x20).f0) ((rd_T35 x18 x20).f1) ((rd_T35 x18 x20).f2) ((rd_T35 x18 x20).f3.f0) ((rd_T35 x18 x20).f3.f1) ((rd_T35 x18 x20).f3.f2) ((rd_T35 x18 x20).f3.f3.f0) ((rd_T35 x18 x20).f3.f3.f1) ((rd_T35 x18 x20).f4.f0) ((rd_T35 x18 x20).f4.f1.f0) ((rd_T35 x18 x20).f4.f1.f1) ((rd_T35 x18 x20).f4.f2.f0) ((rd_T35 x18 x20).f4.f2.f1.f0) ((rd_T35 x18 x20).f4.f2.f1.f1) ((rd_T35 x18 x20).f4.f2.f2)).bind fun t340 => (if t340 = true then (ropewaylaw21_PastParts.l0 k x0 y337 x20 x18 x19 (wrap64 (x20 + 1))) else (ropewaylaw21_PastParts.l0 k x0 y337 x4 x18 x19 (wrap64 (x20 + 1))))) else (ropewaylaw21_PastParts.l0 k x0 y337 x4 x18 x19 (wrap64 (x20 + 1))))) else (none))) else (if ((rd_T35 x18 x20).f3.f0) = 0 then ((past_Well.f ((rd_T35 x18 x20).f0) ((rd_T35 x18 x20).f1) ((rd_T35 x18 x20).f2) ((rd_T35 x18 x20).f3.f0) ((rd_T35 x18 x20).f3.f1) ((rd_T35 x18 x20).f3.f2) ((rd_T35 x18 x20).f3.f3.f0) ((rd_T35 x18 x20).f3.f3.f1) ((rd_T35 x18 x20).f4.f0) ((rd_T35 x18 x20).f4.f1.f0) ((rd_T35 x18 x20).f4.f1.f1) ((rd_T35 x18 x20).f4.f2.f0) ((rd_T35 x18 x20).f4.f2.f1.f0) ((rd_T35 x18 x20).f4.f2.f1.f1) ((rd_T35 x18 x20).f4.f2.f2)).bind fun t341 => (if t341 = true then (ropewaylaw21_PastParts.l0 k x0 x3 x20 x18 x19 (wrap64 (x20 + 1))) else (ropewaylaw21_PastParts.l0 k x0 x3 x4 x18 x19 (wrap64 (x20 + 1))))) else (ropewaylaw21_PastParts.l0 k x0 x3 x4 x18 x19 (wrap64 (x20 + 1))))) else (none)) else (none)) else ((past_Fits.f k x3).bind fun t342 => (if t342 = true then (if x4 < 0 then (some true) else ((some (([] : List (S35)) : List (S35))).bind fun y343 => (if y343.length + x0.length < 1172812402961 then ((some (y343 ++ x0 : List (S35))).bind fun y346 => (if 0 ≤ x4 then (if x4 < (x0.length : Int) then ((some (([(⟨(rd_T35 x0 x4).f0, (rd_T35 x0 x4).f1, (rd_T35 x0 x4).f2, (⟨(rd_T35 x0 x4).f3.f0, (rd_T35 x0 x4).f3.f1, (rd_T35 x0 x4).f3.f2, (⟨(rd_T35 x0 x4).f3.f3.f0, (rd_T35 x0 x4).f3.f3.f1⟩ : S24)⟩ : S26), (⟨(rd_T35 x0 x4).f4.f0, (⟨(rd_T35 x0 x4).f4.f1.f0, (rd_T35 x0 x4).f4.f1.f1⟩ : S24), (⟨(rd_T35 x0 x4).f4.f2.f0, (⟨(rd_T35 x0 x4).f4.f2.f1.f0, (rd_T35 x0 x4).f4.f2.f1.f1⟩ : S29), (rd_T35 x0 x4).f4.f2.f2⟩ : S31)⟩ : S33)⟩ : S35)] : List (S35)) : List (S35))).bind fun y350 => (if y346.length + y350.length < 1172812402961 then ((past_Fits.f k (y346 ++ y350)).bind fun t356 => (some t356)) else (none))) else (none)) else (none))) else (none)))) else (some false)))
end
def ropewaylaw21_PastParts.f (k : Nat) (l0 : List (S35)) : Option (Bool) := (ropewaylaw21_pastAlive.f k).bind fun t327 => (if t327 = true then (if (l0.length : Int) > 30 then (ropewaylaw21_PastParts.j0 k l0 true) else ((past_Fits.f k l0).bind fun t328 => (ropewaylaw21_PastParts.j0 k l0 (!t328)))) else (some false))
theorem ropewaylaw21_PastParts.mono_l : ∀ k, (∀ y0 y1, LeO (ropewaylaw21_PastParts.j0 k y0 y1) (ropewaylaw21_PastParts.j0 (k + 1) y0 y1)) ∧ (∀ y0 y1 y2 y3 y4 y5, LeO (ropewaylaw21_PastParts.l0 k y0 y1 y2 y3 y4 y5) (ropewaylaw21_PastParts.l0 (k + 1) y0 y1 y2 y3 y4 y5))
  | 0 => ⟨fun _ _ r h => by simp [ropewaylaw21_PastParts.j0] at h, fun _ _ _ _ _ _ r h => by simp [ropewaylaw21_PastParts.l0] at h⟩
  | k + 1 => by
    obtain ⟨ih0, ih1⟩ := ropewaylaw21_PastParts.mono_l k
    refine ⟨?_, ?_⟩
    · intro y0 y1
      unfold ropewaylaw21_PastParts.j0
      repeat' first
      | (with_reducible exact ih0 _ _)
      | (with_reducible exact ih1 _ _ _ _ _ _)
      | (with_reducible exact past_Fits.mono _ _)
      | (with_reducible exact ropewaylaw21_pastAlive.mono _)
      | (with_reducible exact LeO.refl _)
      | (with_reducible exact LeO.none _)
      | (with_reducible refine LeO.ite ?_ ?_)
      | (with_reducible refine LeO.bind ?_ (fun _ => ?_))
      | exact ih0 _ _
      | exact ih1 _ _ _ _ _ _
      | exact past_Fits.mono _ _
      | exact ropewaylaw21_pastAlive.mono _
      | exact LeO.none _
      | refine LeO.ite ?_ ?_
      | refine LeO.bind ?_ (fun _ => ?_)
    · intro y0 y1 y2 y3 y4 y5
      unfold ropewaylaw21_PastParts.l0
      repeat' first
      | (with_reducible exact ih0 _ _)
      | (with_reducible exact ih1 _ _ _ _ _ _)
      | (with_reducible exact past_Fits.mono _ _)
      | (with_reducible exact ropewaylaw21_pastAlive.mono _)
      | (with_reducible exact LeO.refl _)
      | (with_reducible exact LeO.none _)
      | (with_reducible refine LeO.ite ?_ ?_)
      | (with_reducible refine LeO.bind ?_ (fun _ => ?_))
      | exact ih0 _ _
      | exact ih1 _ _ _ _ _ _
      | exact past_Fits.mono _ _
      | exact ropewaylaw21_pastAlive.mono _
      | exact LeO.none _
      | refine LeO.ite ?_ ?_
      | refine LeO.bind ?_ (fun _ => ?_)
theorem ropewaylaw21_PastParts.mono : ∀ a0 k, LeO (ropewaylaw21_PastParts.f k a0) (ropewaylaw21_PastParts.f (k + 1) a0) := by
  intro a0 k
  obtain ⟨ih0, ih1⟩ := ropewaylaw21_PastParts.mono_l k
  unfold ropewaylaw21_PastParts.f
  repeat' first
      | (with_reducible exact ih0 _ _)
      | (with_reducible exact ih1 _ _ _ _ _ _)
      | (with_reducible exact past_Fits.mono _ _)
      | (with_reducible exact ropewaylaw21_pastAlive.mono _)
      | (with_reducible exact LeO.refl _)
      | (with_reducible exact LeO.none _)
      | (with_reducible refine LeO.ite ?_ ?_)
      | (with_reducible refine LeO.bind ?_ (fun _ => ?_))
      | exact ih0 _ _
      | exact ih1 _ _ _ _ _ _
      | exact past_Fits.mono _ _
      | exact ropewaylaw21_pastAlive.mono _
      | exact LeO.none _
      | refine LeO.ite ?_ ?_
      | refine LeO.bind ?_ (fun _ => ?_)
def ropewaylaw21_PastParts.T19 : Bool × List (List Nat × List Nat) := (true, [([], []), ([], []), ([0, 1], [0, 1]), ([], []), ([], []), ([3, 4], [3, 4]), ([5], [5]), ([6], [6]), ([2, 7, 2], [2, 7]), ([8, 8], [8]), ([9, 9, 0, 1, 2, 3, 4, 5, 6, 7, 8, 9], [9])])
def ropewaylaw21_PastParts.B19 : List Nat := [0, 0, 3, 0, 0, 24, 56, 120, 255, 511, 1023]
theorem ropewaylaw21_PastParts.tab19 : rtab .any (opsOf Try.f5 19) = ropewaylaw21_PastParts.T19 := by kernel_rfl
theorem ropewaylaw21_PastParts.bits19 : waitsOk ropewaylaw21_PastParts.T19.2 ropewaylaw21_PastParts.B19 = true := by kernel_rfl
set_option maxHeartbeats 8000000 in
set_option maxRecDepth 100000 in
theorem ropewaylaw21_PastParts.calls (k : Nat) (A0 : Option Addr) (c0 : Nat) (l0 : List (S35)) (r : Bool) (w : World) (hr0 : Kd.C k35 w A0 l0.length l0) (hc0 : l0.length ≤ c0) (hr1_ : Aside0 (r = true)) (h : ropewaylaw21_PastParts.f k l0 = some r) :
    Calls Try.prog 5 #[.slice A0 l0.length c0] w fun e w' => e = .returned (.bool r) ∧ Below w.heap.size w w' := by
  have hu35 := Try.underlying35
  have HR0 := zM hr0
  have HC0 := zM hc0
  clear hr0 hc0
  have HB := zM (Below.refl w.heap.size w)
  have H : ((ropewaylaw21_pastAlive.f k).bind fun t327 => (if t327 = true then (if (l0.length : Int) > 30 then (ropewaylaw21_PastParts.j0 k l0 true) else ((past_Fits.f k l0).bind fun t328 => (ropewaylaw21_PastParts.j0 k l0 (!t328)))) else (some false))) = some r := h
  clear h
  replace H := Option.bind_eq_some_iff.mp H
  obtain ⟨t327, A20, H⟩ := H
  replace H : (if t327 = true then (if (l0.length : Int) > 30 then (ropewaylaw21_PastParts.j0 k l0 true) else ((past_Fits.f k l0).bind fun t328 => (ropewaylaw21_PastParts.j0 k l0 (!t328)))) else (some false)) = some r := H
  have A2 := zM A20
  clear A20
  by_cases c3 : t327 = true
  rotate_left
  · replace c3 := Bool.eq_false_iff.mpr c3
    subst c3
    have H1 : (some false) = some r := by rw [if_neg (show ¬ (false = true) by decide)] at H; exact H
    clear H
    have H := H1
    clear H1
    exact absurd (Option.some.inj H) (by rw [hr1_.out]; decide)
  subst c3
  have H1 : (if (l0.length : Int) > 30 then (ropewaylaw21_PastParts.j0 k l0 true) else ((past_Fits.f k l0).bind fun t328 => (ropewaylaw21_PastParts.j0 k l0 (!t328)))) = some r := by rw [if_pos rfl] at H; exact H
  clear H
  have H := H1
  clear H1
  have HC4 := zM H
  clear H
  go_enter Try.func5, Try.ntmps5
  go_upto_region 3 with (first | ((with_reducible refine gate_callee (f := 7) rfl ?_); refine goL_ (some 7) Try.func7 #[] ?_; (with_reducible refine (ropewaylaw21_pastAlive.calls k  true _ A2.out).mono ?_); rintro e w5 ⟨rfl, hb⟩; refine ⟨_, rfl, ?_⟩; replace HB := zM (zB bel_ hb); (try clear hb); (try clear hb2); (try clear hk); (try clear hi)))
  (try simp only [Act.put, zS, zZ, zC])
  go_cut [16] (fun v16 wc => ∃ (kq : Nat) (x16_3 : Bool), v16 = .bool x16_3 ∧ Aside0 (ropewaylaw21_PastParts.j0 kq l0 x16_3 = some r) ∧ Aside0 (kq ≤ k) ∧ Aside0 (Below w.heap.size w wc))
  case first =>
   have H := HC4.out
   clear HC4
   by_cases c6 : (l0.length : Int) > 30
   · rw [if_pos c6] at H
     have c6b0 : decide (30 < (l0.length : Int)) = true := decide_eq_true c6
     have c6b1 : decide (30 < l0.length) = true := decide_eq_true (by omega)
     clear c6
     (first | rw [c6b0] | (simp only [i64_w, i32_w]; rw [c6b0]) | skip)
     have H' := zM H
     clear H
     go_wp2
     go_meet
     case rel => exact ⟨_, (true), (by first | rfl | (simp; done) | (simp [*]; done) | (simp; grind)), H', ⟨by first | omega | exact Nat.le_refl _⟩, ⟨bel_⟩⟩
   rw [if_neg c6] at H
   have c6b0 : decide (30 < (l0.length : Int)) = false := decide_eq_false c6
   have c6b1 : decide (30 < l0.length) = false := decide_eq_false (by omega)
   clear c6
   (first | rw [c6b0] | (simp only [i64_w, i32_w]; rw [c6b0]) | skip)
   replace H := Option.bind_eq_some_iff.mp H
   obtain ⟨t328, A70, H⟩ := H
   replace H : (ropewaylaw21_PastParts.j0 k l0 (!t328)) = some r := H
   have A7 := zM A70
   clear A70
   have H' := zM H
   clear H
   go_wp2_with (first | (go_at_call 8; (with_reducible refine (past_Fits.calls k _ _ l0 t328 _ ?side1 ?side2 A7.out).mono ?_); (case side1 => repeat (first | exact (Kd.C_below HR0.out HB.out) | (with_reducible refine Kd.C_alloc ?_ _) | (with_reducible refine Kd.C_drewN ?_ _) | (with_reducible refine Kd.C_drew ?_))); (case side2 => exact HC0.out); rintro e w8 ⟨rfl, hb⟩; replace HB := zM (zB bel_ hb); (try clear hb); (try clear hb2); (try clear hk); (try clear hi)))
   go_meet
   case rel => exact ⟨_, (!t328), (by first | rfl | (simp; done) | (simp [*]; done) | (simp; grind)), H', ⟨by first | omega | exact Nat.le_refl _⟩, ⟨bel_⟩⟩
  case rest =>
   clear HC4
   try clear p2
   try clear c3
   try clear c5
   try clear c6
   try clear c6b0
   try clear c6b1
   try clear c7
   obtain ⟨kq, x16_3, rfl, HA, HJ3, HB⟩ := hcut
   cases kq with
   | zero => exact absurd HA.out (by simp [ropewaylaw21_PastParts.j0])
   | succ kj3 =>
    have H := HA.out
    clear HA
    simp only [ropewaylaw21_PastParts.j0] at H
    by_cases c9 : x16_3 = true
    · subst c9
      have H1 : (some true) = some r := by rw [if_pos rfl] at H; exact H
      clear H
      have H := H1
      clear H1
      obtain rfl := Option.some.inj H
      go_wp2
      go_ret
      exact ⟨by first | rfl | (simp [errW_none, errW_some] <;> rfl) | (simp [*, errW_none, errW_some] <;> rfl), bel_⟩
    replace c9 := Bool.eq_false_iff.mpr c9
    subst c9
    have H1 : (ropewaylaw21_PastParts.l0 kj3 l0 (([] : List (S35))) (-1) l0 (l0.length : Int) 0) = some r := by rw [if_neg (show ¬ (false = true) by decide)] at H; exact H
    clear H
    have H := H1
    clear H1
    obtain ⟨y329, hy329⟩ : ∃ y_ : List (S35), y_ = (([] : List (S35))) := ⟨_, rfl⟩
    replace H : (ropewaylaw21_PastParts.l0 kj3 l0 y329 (-1) l0 (l0.length : Int) 0) = some r := by first | (rw [hy329]; with_reducible exact H) | (have H2_ := (Option.bind_some _ _).symm.trans H; rw [hy329]; with_reducible exact H2_) | (have H2_ := (Option.bind_some _ _).symm.trans H; with_reducible exact H2_) | with_reducible exact H | (rw [hy329]; exact H) | exact H
    have Ny329 := zM hy329
    clear hy329
    have H' := zM H
    clear H
    go_wp2_with (first | ((with_reducible refine gate_dst (N := 17) rfl ?_); refine Kd.R_lit k35 _ 35 ?hg (N := 17) ?hd (xs := ([] : List (S35))) (inner := []) (ok := fun _ => True) (okp := fun _ => True) ?hr ?hp (fun _ hk => hk) trivial (Below.refl _ _) (Nat.le_refl _) (by simp) ?_; (case hd => rfl); (case hg => rfl); (case hr => first | (go_simp; done) | (go_simp; rfl)); (case hp => exact (Reps.none _ _)); intro v330 w10 ho11 hb hg_ hnew_; clear hg_ hnew_; (first | rw [← Ny329.out] at ho11 | (simp only [Int.reduceToNat] at ho11; rw [← Ny329.out] at ho11)); have HO331 := zM (Kd.R_lower ho11 (below_size bel_)); replace HB := zM (zB bel_ hb); clear hb ho11))
    go_loopg [3, 4, 20] kj3 (fun kq v3 v4 v20 w' => ∃ (x3_2 : List (S35)) (x4_2 : Int) (x20_2 : Int), v4 = .int .i64 x4_2 ∧ v20 = .int .i64 x20_2 ∧ Aside0 (ropewaylaw21_PastParts.l0 kq l0 x3_2 x4_2 l0 (l0.length : Int) x20_2 = some r) ∧ Aside0 (kq ≤ kj3) ∧ Aside0 (Kd.R k35 35 w' w.heap.size (fun _ => True) v3 x3_2) ∧ Aside0 (Below w.heap.size w w'))
    case atStart => exact ⟨(y329), ((-1)), (0), (by first | rfl | (simp; done) | (simp [*]; done) | (simp; grind)), (by first | rfl | (simp; done) | (simp [*]; done) | (simp; grind)), H', ⟨Nat.le_refl _⟩, ⟨by (with_reducible repeat (first | apply Kd.R_alloc | apply Kd.R_drewN | apply Kd.R_drew)); exact HO331.out⟩, ⟨bel_⟩⟩
    case round =>
     clear H'
     try clear p2
     try clear c3
     try clear c5
     try clear c6
     try clear c6b0
     try clear c6b1
     try clear c7
     try clear c9
     try clear p2
     obtain ⟨x3_2, x4_2, x20_2, rfl, rfl, HA, HK2, HO_3, HB⟩ := hrel
     cases gk with
     | zero => exact absurd HA.out (by simp [ropewaylaw21_PastParts.l0])
     | succ k2 =>
      have H := HA.out
      clear HA
      simp only [ropewaylaw21_PastParts.l0] at H
      by_cases c12 : x20_2 < (l0.length : Int)
      rotate_left
      · rw [if_neg c12] at H
        have c12b0 : decide (x20_2 < (l0.length : Int)) = false := decide_eq_false c12
        clear c12
        replace H := Option.bind_eq_some_iff.mp H
        obtain ⟨t342, A540, H⟩ := H
        replace H : (if t342 = true then (if x4_2 < 0 then (some true) else ((some (([] : List (S35)) : List (S35))).bind fun y343 => (if y343.length + l0.length < 1172812402961 then ((some (y343 ++ l0 : List (S35))).bind fun y346 => (if 0 ≤ x4_2 then (if x4_2 < (l0.length : Int) then ((some (([(⟨(rd_T35 l0 x4_2).f0, (rd_T35 l0 x4_2).f1, (rd_T35 l0 x4_2).f2, (⟨(rd_T35 l0 x4_2).f3.f0, (rd_T35 l0 x4_2).f3.f1, (rd_T35 l0 x4_2).f3.f2, (⟨(rd_T35 l0 x4_2).f3.f3.f0, (rd_T35 l0 x4_2).f3.f3.f1⟩ : S24)⟩ : S26), (⟨(rd_T35 l0 x4_2).f4.f0, (⟨(rd_T35 l0 x4_2).f4.f1.f0, (rd_T35 l0 x4_2).f4.f1.f1⟩ : S24), (⟨(rd_T35 l0 x4_2).f4.f2.f0, (⟨(rd_T35 l0 x4_2).f4.f2.f1.f0, (rd_T35 l0 x4_2).f4.f2.f1.f1⟩ : S29), (rd_T35 l0 x4_2).f4.f2.f2⟩ : S31)⟩ : S33)⟩ : S35)] : List (S35)) : List (S35))).bind fun y350 => (if y346.length + y350.length < 1172812402961 then ((past_Fits.f k2 (y346 ++ y350)).bind fun t356 => (some t356)) else (none))) else (none)) else (none))) else (none)))) else (some false)) = some r := H
        have A54 := zM A540
        clear A540
        by_cases c55 : t342 = true
        rotate_left
        · replace c55 := Bool.eq_false_iff.mpr c55
          subst c55
          have H1 : (some false) = some r := by rw [if_neg (show ¬ (false = true) by decide)] at H; exact H
          clear H
          have H := H1
          clear H1
          exact absurd (Option.some.inj H) (by rw [hr1_.out]; decide)
        subst c55
        have H1 : (if x4_2 < 0 then (some true) else ((some (([] : List (S35)) : List (S35))).bind fun y343 => (if y343.length + l0.length < 1172812402961 then ((some (y343 ++ l0 : List (S35))).bind fun y346 => (if 0 ≤ x4_2 then (if x4_2 < (l0.length : Int) then ((some (([(⟨(rd_T35 l0 x4_2).f0, (rd_T35 l0 x4_2).f1, (rd_T35 l0 x4_2).f2, (⟨(rd_T35 l0 x4_2).f3.f0, (rd_T35 l0 x4_2).f3.f1, (rd_T35 l0 x4_2).f3.f2, (⟨(rd_T35 l0 x4_2).f3.f3.f0, (rd_T35 l0 x4_2).f3.f3.f1⟩ : S24)⟩ : S26), (⟨(rd_T35 l0 x4_2).f4.f0, (⟨(rd_T35 l0 x4_2).f4.f1.f0, (rd_T35 l0 x4_2).f4.f1.f1⟩ : S24), (⟨(rd_T35 l0 x4_2).f4.f2.f0, (⟨(rd_T35 l0 x4_2).f4.f2.f1.f0, (rd_T35 l0 x4_2).f4.f2.f1.f1⟩ : S29), (rd_T35 l0 x4_2).f4.f2.f2⟩ : S31)⟩ : S33)⟩ : S35)] : List (S35)) : List (S35))).bind fun y350 => (if y346.length + y350.length < 1172812402961 then ((past_Fits.f k2 (y346 ++ y350)).bind fun t356 => (some t356)) else (none))) else (none)) else (none))) else (none)))) = some r := by rw [if_pos rfl] at H; exact H
        clear H
        have H := H1
        clear H1
        by_cases c56 : x4_2 < 0
        · rw [if_pos c56] at H
          have c56b0 : decide (x4_2 < 0) = true := decide_eq_true c56
          clear c56
          obtain rfl := Option.some.inj H
          obtain ⟨Ao57, co57, eo57⟩ := Kd.R_slice HO_3.out
          subst eo57
          go_wp2_with (first | ((with_reducible refine gate_callee (f := 8) rfl ?_); refine goL_ (some 44) Try.func8 #[.slice Ao57 x3_2.length co57] ?_; (with_reducible refine (past_Fits.calls k2 _ _ x3_2 true _ ?side1 ?side2 A54.out).mono ?_); (case side1 => repeat (first | exact (Kd.R_reads' HO_3.out).2.2 | (with_reducible refine Kd.C_alloc ?_ _) | (with_reducible refine Kd.C_drewN ?_ _) | (with_reducible refine Kd.C_drew ?_))); (case side2 => exact (Kd.R_reads' HO_3.out).2.1); rintro e w58 ⟨rfl, hb⟩; refine ⟨_, rfl, ?_⟩; replace HO_3 := zM (Kd.R_below (rl_ HO_3) hb); replace HB := zM (zB bel_ hb); (try clear hb); (try clear hb2); (try clear hk); (try clear hi)))
          go_ret
          exact ⟨by first | rfl | (simp [errW_none, errW_some] <;> rfl) | (simp [*, errW_none, errW_some] <;> rfl), bel_⟩
        rw [if_neg c56] at H
        have c56b0 : decide (x4_2 < 0) = false := decide_eq_false c56
        clear c56
        obtain ⟨y343, hy343⟩ : ∃ y_ : List (S35), y_ = (([] : List (S35))) := ⟨_, rfl⟩
        replace H : (if y343.length + l0.length < 1172812402961 then ((some (y343 ++ l0 : List (S35))).bind fun y346 => (if 0 ≤ x4_2 then (if x4_2 < (l0.length : Int) then ((some (([(⟨(rd_T35 l0 x4_2).f0, (rd_T35 l0 x4_2).f1, (rd_T35 l0 x4_2).f2, (⟨(rd_T35 l0 x4_2).f3.f0, (rd_T35 l0 x4_2).f3.f1, (rd_T35 l0 x4_2).f3.f2, (⟨(rd_T35 l0 x4_2).f3.f3.f0, (rd_T35 l0 x4_2).f3.f3.f1⟩ : S24)⟩ : S26), (⟨(rd_T35 l0 x4_2).f4.f0, (⟨(rd_T35 l0 x4_2).f4.f1.f0, (rd_T35 l0 x4_2).f4.f1.f1⟩ : S24), (⟨(rd_T35 l0 x4_2).f4.f2.f0, (⟨(rd_T35 l0 x4_2).f4.f2.f1.f0, (rd_T35 l0 x4_2).f4.f2.f1.f1⟩ : S29), (rd_T35 l0 x4_2).f4.f2.f2⟩ : S31)⟩ : S33)⟩ : S35)] : List (S35)) : List (S35))).bind fun y350 => (if y346.length + y350.length < 1172812402961 then ((past_Fits.f k2 (y346 ++ y350)).bind fun t356 => (some t356)) else (none))) else (none)) else (none))) else (none)) = some r := by first | (rw [hy343]; with_reducible exact H) | (have H2_ := (Option.bind_some _ _).symm.trans H; rw [hy343]; with_reducible exact H2_) | (have H2_ := (Option.bind_some _ _).symm.trans H; with_reducible exact H2_) | with_reducible exact H | (rw [hy343]; exact H) | exact H
        have Ny343 := zM hy343
        clear hy343
        by_cases c59 : y343.length + l0.length < 1172812402961
        rotate_left
        · rw [if_neg c59] at H
          exact absurd H (by simp)
        rw [if_pos c59] at H
        have LMc59 := zM c59
        clear c59
        obtain ⟨y346, hy346⟩ : ∃ y_ : List (S35), y_ = (y343 ++ l0) := ⟨_, rfl⟩
        replace H : (if 0 ≤ x4_2 then (if x4_2 < (l0.length : Int) then ((some (([(⟨(rd_T35 l0 x4_2).f0, (rd_T35 l0 x4_2).f1, (rd_T35 l0 x4_2).f2, (⟨(rd_T35 l0 x4_2).f3.f0, (rd_T35 l0 x4_2).f3.f1, (rd_T35 l0 x4_2).f3.f2, (⟨(rd_T35 l0 x4_2).f3.f3.f0, (rd_T35 l0 x4_2).f3.f3.f1⟩ : S24)⟩ : S26), (⟨(rd_T35 l0 x4_2).f4.f0, (⟨(rd_T35 l0 x4_2).f4.f1.f0, (rd_T35 l0 x4_2).f4.f1.f1⟩ : S24), (⟨(rd_T35 l0 x4_2).f4.f2.f0, (⟨(rd_T35 l0 x4_2).f4.f2.f1.f0, (rd_T35 l0 x4_2).f4.f2.f1.f1⟩ : S29), (rd_T35 l0 x4_2).f4.f2.f2⟩ : S31)⟩ : S33)⟩ : S35)] : List (S35)) : List (S35))).bind fun y350 => (if y346.length + y350.length < 1172812402961 then ((past_Fits.f k2 (y346 ++ y350)).bind fun t356 => (some t356)) else (none))) else (none)) else (none)) = some r := by first | (rw [hy346]; with_reducible exact H) | (have H2_ := (Option.bind_some _ _).symm.trans H; rw [hy346]; with_reducible exact H2_) | (have H2_ := (Option.bind_some _ _).symm.trans H; with_reducible exact H2_) | with_reducible exact H | (rw [hy346]; exact H) | exact H
        have Ny346 := zM hy346
        clear hy346
        by_cases c60 : 0 ≤ x4_2
        rotate_left
        · rw [if_neg c60] at H
          exact absurd H (by simp)
        rw [if_pos c60] at H
        have c60b0 : decide (0 ≤ x4_2) = true := decide_eq_true c60
        clear c60
        by_cases c61 : x4_2 < (l0.length : Int)
        rotate_left
        · rw [if_neg c61] at H
          exact absurd H (by simp)
        rw [if_pos c61] at H
        have c61b0 : decide (x4_2 < (l0.length : Int)) = true := decide_eq_true c61
        clear c61
        obtain ⟨y350, hy350⟩ : ∃ y_ : List (S35), y_ = (([(⟨(rd_T35 l0 x4_2).f0, (rd_T35 l0 x4_2).f1, (rd_T35 l0 x4_2).f2, (⟨(rd_T35 l0 x4_2).f3.f0, (rd_T35 l0 x4_2).f3.f1, (rd_T35 l0 x4_2).f3.f2, (⟨(rd_T35 l0 x4_2).f3.f3.f0, (rd_T35 l0 x4_2).f3.f3.f1⟩ : S24)⟩ : S26), (⟨(rd_T35 l0 x4_2).f4.f0, (⟨(rd_T35 l0 x4_2).f4.f1.f0, (rd_T35 l0 x4_2).f4.f1.f1⟩ : S24), (⟨(rd_T35 l0 x4_2).f4.f2.f0, (⟨(rd_T35 l0 x4_2).f4.f2.f1.f0, (rd_T35 l0 x4_2).f4.f2.f1.f1⟩ : S29), (rd_T35 l0 x4_2).f4.f2.f2⟩ : S31)⟩ : S33)⟩ : S35)] : List (S35))) := ⟨_, rfl⟩
        replace H : (if y346.length + y350.length < 1172812402961 then ((past_Fits.f k2 (y346 ++ y350)).bind fun t356 => (some t356)) else (none)) = some r := by first | (rw [hy350]; with_reducible exact H) | (have H2_ := (Option.bind_some _ _).symm.trans H; rw [hy350]; with_reducible exact H2_) | (have H2_ := (Option.bind_some _ _).symm.trans H; with_reducible exact H2_) | with_reducible exact H | (rw [hy350]; exact H) | exact H
        have Ny350 := zM hy350
        clear hy350
        by_cases c62 : y346.length + y350.length < 1172812402961
        rotate_left
        · rw [if_neg c62] at H
          exact absurd H (by simp)
        rw [if_pos c62] at H
        have LMc62 := zM c62
        clear c62
        obtain ⟨y353, hy353⟩ : ∃ y_ : List (S35), y_ = (y346 ++ y350) := ⟨_, rfl⟩
        replace H : ((past_Fits.f k2 y353).bind fun t356 => (some t356)) = some r := by first | (rw [hy353]; with_reducible exact H) | (have H2_ := (Option.bind_some _ _).symm.trans H; rw [hy353]; with_reducible exact H2_) | (have H2_ := (Option.bind_some _ _).symm.trans H; with_reducible exact H2_) | with_reducible exact H | (rw [hy353]; exact H) | exact H
        have Ny353 := zM hy353
        clear hy353
        replace H := Option.bind_eq_some_iff.mp H
        obtain ⟨t356, A630, H⟩ := H
        replace H : (some t356) = some r := H
        have A63 := zM A630
        clear A630
        obtain rfl := Option.some.inj H
        obtain ⟨Ao64, co64, eo64⟩ := Kd.R_slice HO_3.out
        subst eo64
        try go_wp2_with (first | ((with_reducible refine gate_callee (f := 8) rfl ?_); refine goL_ (some 44) Try.func8 #[.slice Ao64 x3_2.length co64] ?_; (with_reducible refine (past_Fits.calls k2 _ _ x3_2 true _ ?side1 ?side2 A54.out).mono ?_); (case side1 => repeat (first | exact (Kd.R_reads' HO_3.out).2.2 | (with_reducible refine Kd.C_alloc ?_ _) | (with_reducible refine Kd.C_drewN ?_ _) | (with_reducible refine Kd.C_drew ?_))); (case side2 => exact (Kd.R_reads' HO_3.out).2.1); rintro e w65 ⟨rfl, hb⟩; refine ⟨_, rfl, ?_⟩; replace HO_3 := zM (Kd.R_below (rl_ HO_3) hb); replace HB := zM (zB bel_ hb); (try clear hb); (try clear hb2); (try clear hk); (try clear hi)))
        replace HO_3 := zM (Kd.R_drew HO_3.out)
        replace HB := zM (below_drew1 HB.out)
        have p349 : 0 ≤ (x4_2 : Int) := of_decide_eq_true (by first | (with_reducible assumption) | assumption)
        have q349 : x4_2 < (l0.length : Int) := of_decide_eq_true (by first | (with_reducible assumption) | assumption)
        obtain ⟨ad349, e349, hx349_0, hx349_1, hx349_2, hx349_3, hx349_4, hx349_5, hx349_6, hx349_7, hx349_8, hx349_9, hx349_10, hx349_11, hx349_12, hx349_13, hx349_14⟩ := at_T35 HR0.out x4_2 p349 q349
        have hw349_14 := hx349_14
        have hw349_13 := hx349_13
        have hw349_12 := hx349_12
        have hw349_11 := hx349_11
        have hw349_10 := hx349_10
        have hw349_9 := hx349_9
        have hw349_8 := hx349_8
        have hw349_7 := hx349_7
        have hw349_6 := hx349_6
        have hw349_5 := hx349_5
        have hw349_4 := hx349_4
        have hw349_3 := hx349_3
        have hw349_2 := hx349_2
        have hw349_1 := hx349_1
        have hw349_0 := hx349_0
        cases e349
        replace hx349_0 := (HB.out.cell (World.block_lt_of_cell? w _ hx349_0)).trans hx349_0
        replace hx349_1 := (HB.out.cell (World.block_lt_of_cell? w _ hx349_1)).trans hx349_1
        replace hx349_2 := (HB.out.cell (World.block_lt_of_cell? w _ hx349_2)).trans hx349_2
        replace hx349_3 := (HB.out.cell (World.block_lt_of_cell? w _ hx349_3)).trans hx349_3
        replace hx349_4 := (HB.out.cell (World.block_lt_of_cell? w _ hx349_4)).trans hx349_4
        replace hx349_5 := (HB.out.cell (World.block_lt_of_cell? w _ hx349_5)).trans hx349_5
        replace hx349_6 := (HB.out.cell (World.block_lt_of_cell? w _ hx349_6)).trans hx349_6
        replace hx349_7 := (HB.out.cell (World.block_lt_of_cell? w _ hx349_7)).trans hx349_7
        replace hx349_8 := (HB.out.cell (World.block_lt_of_cell? w _ hx349_8)).trans hx349_8
        replace hx349_9 := (HB.out.cell (World.block_lt_of_cell? w _ hx349_9)).trans hx349_9
        replace hx349_10 := (HB.out.cell (World.block_lt_of_cell? w _ hx349_10)).trans hx349_10
        replace hx349_11 := (HB.out.cell (World.block_lt_of_cell? w _ hx349_11)).trans hx349_11
        replace hx349_12 := (HB.out.cell (World.block_lt_of_cell? w _ hx349_12)).trans hx349_12
        replace hx349_13 := (HB.out.cell (World.block_lt_of_cell? w _ hx349_13)).trans hx349_13
        replace hx349_14 := (HB.out.cell (World.block_lt_of_cell? w _ hx349_14)).trans hx349_14
        replace p349 := eq_true p349
        replace q349 := eq_true q349
        refine start_ (n := 11) (S := fun w' => w'.cell? (ad349.add ((x4_2).toNat * 15)) = some (.int .i64 ((rd_T35 l0 x4_2).f0)) ∧ w'.cell? ⟨(ad349.add ((x4_2).toNat * 15)).block, (ad349.add ((x4_2).toNat * 15)).off + 1, none⟩ = some (.int .i64 ((rd_T35 l0 x4_2).f1)) ∧ w'.cell? ⟨(ad349.add ((x4_2).toNat * 15)).block, (ad349.add ((x4_2).toNat * 15)).off + 2, none⟩ = some (.int .i64 ((rd_T35 l0 x4_2).f2)) ∧ w'.cell? ⟨(ad349.add ((x4_2).toNat * 15)).block, (ad349.add ((x4_2).toNat * 15)).off + 3, none⟩ = some (.int .i64 ((rd_T35 l0 x4_2).f3.f0)) ∧ w'.cell? ⟨(ad349.add ((x4_2).toNat * 15)).block, (ad349.add ((x4_2).toNat * 15)).off + 4, none⟩ = some (.int .i64 ((rd_T35 l0 x4_2).f3.f1)) ∧ w'.cell? ⟨(ad349.add ((x4_2).toNat * 15)).block, (ad349.add ((x4_2).toNat * 15)).off + 5, none⟩ = some (.float .f64 ((rd_T35 l0 x4_2).f3.f2)) ∧ w'.cell? ⟨(ad349.add ((x4_2).toNat * 15)).block, (ad349.add ((x4_2).toNat * 15)).off + 6, none⟩ = some (.int .i64 ((rd_T35 l0 x4_2).f3.f3.f0)) ∧ w'.cell? ⟨(ad349.add ((x4_2).toNat * 15)).block, (ad349.add ((x4_2).toNat * 15)).off + 7, none⟩ = some (.int .i64 ((rd_T35 l0 x4_2).f3.f3.f1)) ∧ w'.cell? ⟨(ad349.add ((x4_2).toNat * 15)).block, (ad349.add ((x4_2).toNat * 15)).off + 8, none⟩ = some (.int .i64 ((rd_T35 l0 x4_2).f4.f0)) ∧ w'.cell? ⟨(ad349.add ((x4_2).toNat * 15)).block, (ad349.add ((x4_2).toNat * 15)).off + 9, none⟩ = some (.int .i64 ((rd_T35 l0 x4_2).f4.f1.f0)) ∧ w'.cell? ⟨(ad349.add ((x4_2).toNat * 15)).block, (ad349.add ((x4_2).toNat * 15)).off + 10, none⟩ = some (.int .i64 ((rd_T35 l0 x4_2).f4.f1.f1)) ∧ w'.cell? ⟨(ad349.add ((x4_2).toNat * 15)).block, (ad349.add ((x4_2).toNat * 15)).off + 11, none⟩ = some (.int .i64 ((rd_T35 l0 x4_2).f4.f2.f0)) ∧ w'.cell? ⟨(ad349.add ((x4_2).toNat * 15)).block, (ad349.add ((x4_2).toNat * 15)).off + 12, none⟩ = some (.int .i64 ((rd_T35 l0 x4_2).f4.f2.f1.f0)) ∧ w'.cell? ⟨(ad349.add ((x4_2).toNat * 15)).block, (ad349.add ((x4_2).toNat * 15)).off + 13, none⟩ = some (.int .i64 ((rd_T35 l0 x4_2).f4.f2.f1.f1)) ∧ w'.cell? ⟨(ad349.add ((x4_2).toNat * 15)).block, (ad349.add ((x4_2).toNat * 15)).off + 14, none⟩ = some (.float .f64 ((rd_T35 l0 x4_2).f4.f2.f2))) (ds := []) #[F_, F_, F_, F_, F_, F_, F_, F_, F_, F_, F_] (by kernel_rfl) rfl rfl ⟨(hb_ HB hw349_0), (hb_ HB hw349_1), (hb_ HB hw349_2), (hb_ HB hw349_3), (hb_ HB hw349_4), (hb_ HB hw349_5), (hb_ HB hw349_6), (hb_ HB hw349_7), (hb_ HB hw349_8), (hb_ HB hw349_9), (hb_ HB hw349_10), (hb_ HB hw349_11), (hb_ HB hw349_12), (hb_ HB hw349_13), (hb_ HB hw349_14)⟩ (fun hHeld => ?_); refine with_tabW ropewaylaw21_PastParts.tab19 ropewaylaw21_PastParts.bits19 (fun HT_ HW_ => ?_)
        generalize w65.drew = w66 at HO_3 HB hx349_0 hx349_1 hx349_10 hx349_11 hx349_12 hx349_13 hx349_14 hx349_2 hx349_3 hx349_4 hx349_5 hx349_6 hx349_7 hx349_8 hx349_9 hHeld ⊢
        refine pure_ (i := 1) (N := some 49) (v := ?_) (a' := ?_) #[F_, T_, F_, F_, F_, F_, F_, F_, F_, F_, F_] rfl rfl (any_of HT_.out (by kernel_rfl)) (fun _ _ _ h => h) (Or.inl ⟨by rfl, ?_⟩) ?_ ?_
        rotate_left
        · intro w'
          go_simp
          with_reducible rfl
        rotate_left
        · simp only [Act.put, zS, zZ, zC, i64_w, i32_w]
          rfl
        refine pure_ (i := 3) (N := some 51) (v := ?_) (a' := ?_) #[F_, T_, F_, T_, F_, F_, F_, F_, F_, F_, F_] rfl rfl (any_of HT_.out (by kernel_rfl)) (fun _ _ _ h => h) (Or.inl ⟨by rfl, ?_⟩) ?_ ?_
        rotate_left
        · intro w'
          go_simp
          with_reducible rfl
        rotate_left
        · simp only [Act.put, zS, zZ, zC, i64_w, i32_w]
          rfl
        refine pure_ (i := 4) (N := some 52) (v := ?_) (a' := ?_) #[F_, T_, F_, T_, T_, F_, F_, F_, F_, F_, F_] rfl rfl (any_of HT_.out (by kernel_rfl)) (fun _ _ _ h => h) (Or.inl ⟨by rfl, ?_⟩) ?_ ?_
        rotate_left
        · intro w'
          go_simp
          with_reducible rfl
        rotate_left
        · simp only [Act.put, zS, zZ, zC, i64_w, i32_w]
          rfl
        refine pure_ (i := 5) (N := some 53) (v := ?_) (a' := ?_) #[F_, T_, F_, T_, T_, T_, F_, F_, F_, F_, F_] rfl rfl (any_of HT_.out (by kernel_rfl)) (fun _ _ _ h => h) (Or.inl ⟨by rfl, ?_⟩) ?_ ?_
        rotate_left
        · intro w'
          go_simp
          with_reducible rfl
        rotate_left
        · simp only [Act.put, zS, zZ, zC, i64_w, i32_w]
          rfl
        refine take_ (i := 6) (N := some 54) (v := ?_) (a' := ?_) #[F_, T_, F_, T_, T_, T_, T_, F_, F_, F_, F_] rfl rfl (take_ofW HT_.out HW_.out (by kernel_rfl)) (fun _ _ _ h => h) (Or.inl ⟨by rfl, ?_⟩) hHeld ?_ ?_
        rotate_left
        · rintro w' ⟨s0, s1, s2, s3, s4, s5, s6, s7, s8, s9, s10, s11, s12, s13, s14⟩
          go_simp
          with_reducible rfl
        rotate_left
        · simp only [Act.put, zS, zZ, zC, i64_w, i32_w]
          rfl
        refine join_ (σ := Value × Value × Value) 3 #[T_, T_, T_, T_, T_, T_, T_, T_, F_, F_, F_] (fun s_ => [(48, s_.1), (50, s_.2.1), (55, s_.2.2)]) (fun s_ w' => (w'.cell? (ad349.add ((x4_2).toNat * 15)) = some (.int .i64 ((rd_T35 l0 x4_2).f0)) ∧ w'.cell? ⟨(ad349.add ((x4_2).toNat * 15)).block, (ad349.add ((x4_2).toNat * 15)).off + 1, none⟩ = some (.int .i64 ((rd_T35 l0 x4_2).f1)) ∧ w'.cell? ⟨(ad349.add ((x4_2).toNat * 15)).block, (ad349.add ((x4_2).toNat * 15)).off + 2, none⟩ = some (.int .i64 ((rd_T35 l0 x4_2).f2)) ∧ w'.cell? ⟨(ad349.add ((x4_2).toNat * 15)).block, (ad349.add ((x4_2).toNat * 15)).off + 3, none⟩ = some (.int .i64 ((rd_T35 l0 x4_2).f3.f0)) ∧ w'.cell? ⟨(ad349.add ((x4_2).toNat * 15)).block, (ad349.add ((x4_2).toNat * 15)).off + 4, none⟩ = some (.int .i64 ((rd_T35 l0 x4_2).f3.f1)) ∧ w'.cell? ⟨(ad349.add ((x4_2).toNat * 15)).block, (ad349.add ((x4_2).toNat * 15)).off + 5, none⟩ = some (.float .f64 ((rd_T35 l0 x4_2).f3.f2)) ∧ w'.cell? ⟨(ad349.add ((x4_2).toNat * 15)).block, (ad349.add ((x4_2).toNat * 15)).off + 6, none⟩ = some (.int .i64 ((rd_T35 l0 x4_2).f3.f3.f0)) ∧ w'.cell? ⟨(ad349.add ((x4_2).toNat * 15)).block, (ad349.add ((x4_2).toNat * 15)).off + 7, none⟩ = some (.int .i64 ((rd_T35 l0 x4_2).f3.f3.f1)) ∧ w'.cell? ⟨(ad349.add ((x4_2).toNat * 15)).block, (ad349.add ((x4_2).toNat * 15)).off + 8, none⟩ = some (.int .i64 ((rd_T35 l0 x4_2).f4.f0)) ∧ w'.cell? ⟨(ad349.add ((x4_2).toNat * 15)).block, (ad349.add ((x4_2).toNat * 15)).off + 9, none⟩ = some (.int .i64 ((rd_T35 l0 x4_2).f4.f1.f0)) ∧ w'.cell? ⟨(ad349.add ((x4_2).toNat * 15)).block, (ad349.add ((x4_2).toNat * 15)).off + 10, none⟩ = some (.int .i64 ((rd_T35 l0 x4_2).f4.f1.f1)) ∧ w'.cell? ⟨(ad349.add ((x4_2).toNat * 15)).block, (ad349.add ((x4_2).toNat * 15)).off + 11, none⟩ = some (.int .i64 ((rd_T35 l0 x4_2).f4.f2.f0)) ∧ w'.cell? ⟨(ad349.add ((x4_2).toNat * 15)).block, (ad349.add ((x4_2).toNat * 15)).off + 12, none⟩ = some (.int .i64 ((rd_T35 l0 x4_2).f4.f2.f1.f0)) ∧ w'.cell? ⟨(ad349.add ((x4_2).toNat * 15)).block, (ad349.add ((x4_2).toNat * 15)).off + 13, none⟩ = some (.int .i64 ((rd_T35 l0 x4_2).f4.f2.f1.f1)) ∧ w'.cell? ⟨(ad349.add ((x4_2).toNat * 15)).block, (ad349.add ((x4_2).toNat * 15)).off + 14, none⟩ = some (.float .f64 ((rd_T35 l0 x4_2).f4.f2.f2))) ∧ (Kd.R k35 35 w' w.heap.size (fun k_ => some k_ ≠ (s_.2.2 : Value).ownBlock ∧ some k_ ≠ (.slice Ao64 x3_2.length co64 : Value).ownBlock) s_.2.1 y346) ∧ (Kd.R k35 35 w' w.heap.size (fun k_ => some k_ ≠ (s_.2.1 : Value).ownBlock ∧ some k_ ≠ (.slice Ao64 x3_2.length co64 : Value).ownBlock) s_.2.2 y350) ∧ (Kd.R k35 35 w' w.heap.size (fun k_ => some k_ ≠ (s_.2.1 : Value).ownBlock ∧ some k_ ≠ (s_.2.2 : Value).ownBlock) (.slice Ao64 x3_2.length co64) x3_2) ∧ (Below w.heap.size w w')) ?_ ?_
        rotate_left
        · intro hCont
          refine two_ (i := 0) (j := 7) (Ni := some 48) (Nj := some 55) #[T_, T_, F_, T_, T_, T_, T_, F_, F_, F_, F_] #[F_, T_, F_, T_, T_, T_, T_, T_, F_, F_, F_] rfl rfl rfl rfl (two_of HT_.out (by kernel_rfl)) (by decide) (by decide) (fun K hK => ?_) (fun K hK => ?_)
          rotate_left
          · skip
            refine Kd.R_lit_step k35 _ 35 ?hg (N := 55) ?hd (xs := ([(⟨(rd_T35 l0 x4_2).f0, (rd_T35 l0 x4_2).f1, (rd_T35 l0 x4_2).f2, (⟨(rd_T35 l0 x4_2).f3.f0, (rd_T35 l0 x4_2).f3.f1, (rd_T35 l0 x4_2).f3.f2, (⟨(rd_T35 l0 x4_2).f3.f3.f0, (rd_T35 l0 x4_2).f3.f3.f1⟩ : S24)⟩ : S26), (⟨(rd_T35 l0 x4_2).f4.f0, (⟨(rd_T35 l0 x4_2).f4.f1.f0, (rd_T35 l0 x4_2).f4.f1.f1⟩ : S24), (⟨(rd_T35 l0 x4_2).f4.f2.f0, (⟨(rd_T35 l0 x4_2).f4.f2.f1.f0, (rd_T35 l0 x4_2).f4.f2.f1.f1⟩ : S29), (rd_T35 l0 x4_2).f4.f2.f2⟩ : S31)⟩ : S33)⟩ : S35)] : List (S35))) (inner := [.int .i64 ((rd_T35 l0 x4_2).f0), .int .i64 ((rd_T35 l0 x4_2).f1), .int .i64 ((rd_T35 l0 x4_2).f2), .int .i64 ((rd_T35 l0 x4_2).f3.f0), .int .i64 ((rd_T35 l0 x4_2).f3.f1), .float .f64 ((rd_T35 l0 x4_2).f3.f2), .int .i64 ((rd_T35 l0 x4_2).f3.f3.f0), .int .i64 ((rd_T35 l0 x4_2).f3.f3.f1), .int .i64 ((rd_T35 l0 x4_2).f4.f0), .int .i64 ((rd_T35 l0 x4_2).f4.f1.f0), .int .i64 ((rd_T35 l0 x4_2).f4.f1.f1), .int .i64 ((rd_T35 l0 x4_2).f4.f2.f0), .int .i64 ((rd_T35 l0 x4_2).f4.f2.f1.f0), .int .i64 ((rd_T35 l0 x4_2).f4.f2.f1.f1), .float .f64 ((rd_T35 l0 x4_2).f4.f2.f2)]) (ok := fun _ => True) (okp := fun _ => True) ?hr ?hp (fun _ hk => hk) trivial (Below.refl _ _) (Nat.le_refl _) (by simp) ?_; (case hd => rfl); (case hg => rfl); (case hr => first | (go_simp; done) | (go_simp; rfl)); (case hp => exact (Reps.front (show Kd.M k35 _ _ _ (⟨(rd_T35 l0 x4_2).f0, (rd_T35 l0 x4_2).f1, (rd_T35 l0 x4_2).f2, (⟨(rd_T35 l0 x4_2).f3.f0, (rd_T35 l0 x4_2).f3.f1, (rd_T35 l0 x4_2).f3.f2, (⟨(rd_T35 l0 x4_2).f3.f3.f0, (rd_T35 l0 x4_2).f3.f3.f1⟩ : S24)⟩ : S26), (⟨(rd_T35 l0 x4_2).f4.f0, (⟨(rd_T35 l0 x4_2).f4.f1.f0, (rd_T35 l0 x4_2).f4.f1.f1⟩ : S24), (⟨(rd_T35 l0 x4_2).f4.f2.f0, (⟨(rd_T35 l0 x4_2).f4.f2.f1.f0, (rd_T35 l0 x4_2).f4.f2.f1.f1⟩ : S29), (rd_T35 l0 x4_2).f4.f2.f2⟩ : S31)⟩ : S33)⟩ : S35) [.int .i64 ((rd_T35 l0 x4_2).f0), .int .i64 ((rd_T35 l0 x4_2).f1), .int .i64 ((rd_T35 l0 x4_2).f2), .int .i64 ((rd_T35 l0 x4_2).f3.f0), .int .i64 ((rd_T35 l0 x4_2).f3.f1), .float .f64 ((rd_T35 l0 x4_2).f3.f2), .int .i64 ((rd_T35 l0 x4_2).f3.f3.f0), .int .i64 ((rd_T35 l0 x4_2).f3.f3.f1), .int .i64 ((rd_T35 l0 x4_2).f4.f0), .int .i64 ((rd_T35 l0 x4_2).f4.f1.f0), .int .i64 ((rd_T35 l0 x4_2).f4.f1.f1), .int .i64 ((rd_T35 l0 x4_2).f4.f2.f0), .int .i64 ((rd_T35 l0 x4_2).f4.f2.f1.f0), .int .i64 ((rd_T35 l0 x4_2).f4.f2.f1.f1), .float .f64 ((rd_T35 l0 x4_2).f4.f2.f2)] from (k35_mkM _ _ _ (⟨(rd_T35 l0 x4_2).f0, (rd_T35 l0 x4_2).f1, (rd_T35 l0 x4_2).f2, (⟨(rd_T35 l0 x4_2).f3.f0, (rd_T35 l0 x4_2).f3.f1, (rd_T35 l0 x4_2).f3.f2, (⟨(rd_T35 l0 x4_2).f3.f3.f0, (rd_T35 l0 x4_2).f3.f3.f1⟩ : S24)⟩ : S26), (⟨(rd_T35 l0 x4_2).f4.f0, (⟨(rd_T35 l0 x4_2).f4.f1.f0, (rd_T35 l0 x4_2).f4.f1.f1⟩ : S24), (⟨(rd_T35 l0 x4_2).f4.f2.f0, (⟨(rd_T35 l0 x4_2).f4.f2.f1.f0, (rd_T35 l0 x4_2).f4.f2.f1.f1⟩ : S29), (rd_T35 l0 x4_2).f4.f2.f2⟩ : S31)⟩ : S33)⟩ : S35) )) rfl (Reps.none _ _) rfl))
            intro v351 w67 ho68 hb hg_ hnew_
            clear hg_ hnew_
            (first | rw [← Ny350.out] at ho68 | (simp only [Int.reduceToNat] at ho68; rw [← Ny350.out] at ho68))
            have HO352 := zM (Kd.R_lower (Kd.R_new' ho68 (Kd.R_lt (rl_ HO_3))) (below_size bel_))
            replace HO_3 := zM (Kd.R_elder' (rl_ HO_3) (Kd.R_base ho68) hb)
            replace HB := zM (zB bel_ hb)
            clear hb ho68
            refine hK.out _ _ ⟨(hb_ HB hw349_0), (hb_ HB hw349_1), (hb_ HB hw349_2), (hb_ HB hw349_3), (hb_ HB hw349_4), (hb_ HB hw349_5), (hb_ HB hw349_6), (hb_ HB hw349_7), (hb_ HB hw349_8), (hb_ HB hw349_9), (hb_ HB hw349_10), (hb_ HB hw349_11), (hb_ HB hw349_12), (hb_ HB hw349_13), (hb_ HB hw349_14)⟩ (fun hHeld => ?_)
            clear hK K
            refine norm_ (a' := ?_) ?_ ?_
            rotate_left
            · show Act.put _ (some 55) _ = _
              simp only [Act.put, zS, zZ, zC, i64_w, i32_w]
              rfl
            refine one_ (i := 0) (N := some 48) #[T_, T_, F_, T_, T_, T_, T_, T_, F_, F_, F_] rfl rfl (one_of HT_.out (by kernel_rfl)) (by decide) (fun K hK => ?_)
            refine Kd.R_lit_step k35 _ 35 ?hg (N := 48) ?hd (xs := ([] : List (S35))) (inner := []) (ok := fun _ => True) (okp := fun _ => True) ?hr ?hp (fun _ hk => hk) trivial (Below.refl _ _) (Nat.le_refl _) (by simp) ?_; (case hd => rfl); (case hg => rfl); (case hr => first | (go_simp; done) | (go_simp; rfl)); (case hp => exact (Reps.none _ _))
            intro v344 w69 ho70 hb hg_ hnew_
            clear hg_ hnew_
            (first | rw [← Ny343.out] at ho70 | (simp only [Int.reduceToNat] at ho70; rw [← Ny343.out] at ho70))
            have HO345 := zM (Kd.R_lower (Kd.R_new' (Kd.R_new' ho70 (Kd.R_lt (rl_ HO_3))) (Kd.R_lt (rl_ HO352))) (below_size bel_))
            replace HO_3 := zM (Kd.R_elder' (rl_ HO_3) (Kd.R_base ho70) hb)
            replace HO352 := zM (Kd.R_elder' (rl_ HO352) (Kd.R_base ho70) hb)
            replace HB := zM (zB bel_ hb)
            clear hb ho70
            refine hK.out _ _ ⟨(hb_ HB hw349_0), (hb_ HB hw349_1), (hb_ HB hw349_2), (hb_ HB hw349_3), (hb_ HB hw349_4), (hb_ HB hw349_5), (hb_ HB hw349_6), (hb_ HB hw349_7), (hb_ HB hw349_8), (hb_ HB hw349_9), (hb_ HB hw349_10), (hb_ HB hw349_11), (hb_ HB hw349_12), (hb_ HB hw349_13), (hb_ HB hw349_14)⟩ (fun hHeld => ?_)
            clear hK K
            refine norm_ (a' := ?_) ?_ ?_
            rotate_left
            · show Act.put _ (some 48) _ = _
              simp only [Act.put, zS, zZ, zC, i64_w, i32_w]
              rfl
            refine one_ (i := 2) (N := some 50) #[T_, T_, T_, T_, T_, T_, T_, T_, F_, F_, F_] rfl rfl (one_of HT_.out (by kernel_rfl)) (by decide) (fun K hK => ?_)
            refine Kd.R_append_rows_step k35 (w0 := w) w.heap.size (by rfl) (.tmp 48) (.tmp 49) 42 35 (.agg #[(.int .i64 0), (.int .i64 0), (.int .i64 0), (.int .i64 0), (.int .i64 0), (.float .f64 0), (.int .i64 0), (.int .i64 0), (.int .i64 0), (.int .i64 0), (.int .i64 0), (.int .i64 0), (.int .i64 0), (.int .i64 0), (.float .f64 0)]) 120 rfl Try.underlying42 info35 rfl (by decide) (by omega) v344 y343 l0 _ _ _ (fun k_ => some k_ ≠ (.slice Ao64 x3_2.length co64 : Value).ownBlock ∧ some k_ ≠ (v351 : Value).ownBlock) (fun _ => False) rfl rfl ?aO ?aR (fun _ _ h => h) (fun _ h => h.elim) ?aF ?aB ?aS ?aL ?_
            (case aR => repeat (first | exact (Kd.C_below HR0.out HB.out) | (with_reducible refine Kd.C_alloc ?_ _) | (with_reducible refine Kd.C_drewN ?_ _) | (with_reducible refine Kd.C_drew ?_)))
            (case aB => exact bel_)
            (case aF => exact (fun k_ hk => ⟨Kd.fresh' (Kd.R_lt (rl_ HO_3)) k_ hk, Kd.fresh' (Kd.R_lt (rl_ HO352)) k_ hk⟩))
            (case aO => exact (by (with_reducible repeat (first | apply Kd.R_alloc | apply Kd.R_drewN | apply Kd.R_drew)); exact Kd.R_mono HO345.out (fun _ hk => ⟨hk.1.2, hk.2⟩)))
            (case aS => exact (below_size bel_))
            (case aL => have := LMc59.out; omega)
            intro v347 w71 ho hb hg hat
            rw [← Ny346.out] at ho
            replace HO_3 := zM (Kd.R_after (ok := (fun k_ => some k_ ≠ (v351 : Value).ownBlock)) (by (with_reducible repeat (first | apply Kd.R_alloc | apply Kd.R_drewN | apply Kd.R_drew)); exact Kd.R_mono HO_3.out (fun _ hk => ⟨hk.1.2, hk.2⟩)) hg hat)
            replace HO352 := zM (Kd.R_after (ok := (fun k_ => some k_ ≠ (.slice Ao64 x3_2.length co64 : Value).ownBlock)) (by (with_reducible repeat (first | apply Kd.R_alloc | apply Kd.R_drewN | apply Kd.R_drew)); exact Kd.R_mono HO352.out (fun _ hk => ⟨hk.1.2, hk.2⟩)) hg hat)
            replace HB := zM (hb)
            have HO348 := zM (ho)
            clear HO345
            clear ho hb hg hat
            refine hK.out _ _ ⟨(hb_ HB hw349_0), (hb_ HB hw349_1), (hb_ HB hw349_2), (hb_ HB hw349_3), (hb_ HB hw349_4), (hb_ HB hw349_5), (hb_ HB hw349_6), (hb_ HB hw349_7), (hb_ HB hw349_8), (hb_ HB hw349_9), (hb_ HB hw349_10), (hb_ HB hw349_11), (hb_ HB hw349_12), (hb_ HB hw349_13), (hb_ HB hw349_14)⟩ (fun hHeld => ?_)
            clear hK K
            refine norm_ (a' := ?_) ?_ ?_
            rotate_left
            · show Act.put _ (some 50) _ = _
              simp only [Act.put, zS, zZ, zC, i64_w, i32_w]
              rfl
            exact norm_ (by simp only [putAll, Act.put, zS, zZ, zC]) (hCont (v344, v347, v351) _ ⟨hHeld, (by (with_reducible repeat (first | apply Kd.R_alloc | apply Kd.R_drewN | apply Kd.R_drew)); exact Kd.R_mono HO348.out (fun _ hk => ⟨hk.2, hk.1⟩)), (by (with_reducible repeat (first | apply Kd.R_alloc | apply Kd.R_drewN | apply Kd.R_drew)); exact Kd.R_mono HO352.out (fun _ hk => ⟨hk.2, hk.1⟩)), (by (with_reducible repeat (first | apply Kd.R_alloc | apply Kd.R_drewN | apply Kd.R_drew)); exact Kd.R_mono HO_3.out (fun _ hk => ⟨hk.2, hk.1⟩)), bel_⟩)
          skip
          refine Kd.R_lit_step k35 _ 35 ?hg (N := 48) ?hd (xs := ([] : List (S35))) (inner := []) (ok := fun _ => True) (okp := fun _ => True) ?hr ?hp (fun _ hk => hk) trivial (Below.refl _ _) (Nat.le_refl _) (by simp) ?_; (case hd => rfl); (case hg => rfl); (case hr => first | (go_simp; done) | (go_simp; rfl)); (case hp => exact (Reps.none _ _))
          intro v344 w67 ho68 hb hg_ hnew_
          clear hg_ hnew_
          (first | rw [← Ny343.out] at ho68 | (simp only [Int.reduceToNat] at ho68; rw [← Ny343.out] at ho68))
          have HO345 := zM (Kd.R_lower (Kd.R_new' ho68 (Kd.R_lt (rl_ HO_3))) (below_size bel_))
          replace HO_3 := zM (Kd.R_elder' (rl_ HO_3) (Kd.R_base ho68) hb)
          replace HB := zM (zB bel_ hb)
          clear hb ho68
          refine hK.out _ _ ⟨(hb_ HB hw349_0), (hb_ HB hw349_1), (hb_ HB hw349_2), (hb_ HB hw349_3), (hb_ HB hw349_4), (hb_ HB hw349_5), (hb_ HB hw349_6), (hb_ HB hw349_7), (hb_ HB hw349_8), (hb_ HB hw349_9), (hb_ HB hw349_10), (hb_ HB hw349_11), (hb_ HB hw349_12), (hb_ HB hw349_13), (hb_ HB hw349_14)⟩ (fun hHeld => ?_)
          clear hK K
          refine norm_ (a' := ?_) ?_ ?_
          rotate_left
          · show Act.put _ (some 48) _ = _
            simp only [Act.put, zS, zZ, zC, i64_w, i32_w]
            rfl
          refine two_ (i := 2) (j := 7) (Ni := some 50) (Nj := some 55) #[T_, T_, T_, T_, T_, T_, T_, F_, F_, F_, F_] #[T_, T_, F_, T_, T_, T_, T_, T_, F_, F_, F_] rfl rfl rfl rfl (two_of HT_.out (by kernel_rfl)) (by decide) (by decide) (fun K hK => ?_) (fun K hK => ?_)
          · skip
            refine Kd.R_append_rows_step k35 (w0 := w) w.heap.size (by rfl) (.tmp 48) (.tmp 49) 42 35 (.agg #[(.int .i64 0), (.int .i64 0), (.int .i64 0), (.int .i64 0), (.int .i64 0), (.float .f64 0), (.int .i64 0), (.int .i64 0), (.int .i64 0), (.int .i64 0), (.int .i64 0), (.int .i64 0), (.int .i64 0), (.int .i64 0), (.float .f64 0)]) 120 rfl Try.underlying42 info35 rfl (by decide) (by omega) v344 y343 l0 _ _ _ (fun k_ => some k_ ≠ (.slice Ao64 x3_2.length co64 : Value).ownBlock) (fun _ => False) rfl rfl ?aO ?aR (fun _ _ h => h) (fun _ h => h.elim) ?aF ?aB ?aS ?aL ?_
            (case aR => repeat (first | exact (Kd.C_below HR0.out HB.out) | (with_reducible refine Kd.C_alloc ?_ _) | (with_reducible refine Kd.C_drewN ?_ _) | (with_reducible refine Kd.C_drew ?_)))
            (case aB => exact bel_)
            (case aF => exact (fun k_ hk => Kd.fresh' (Kd.R_lt (rl_ HO_3)) k_ hk))
            (case aO => exact (by (with_reducible repeat (first | apply Kd.R_alloc | apply Kd.R_drewN | apply Kd.R_drew)); exact Kd.R_mono HO345.out (fun _ hk => hk.2)))
            (case aS => exact (below_size bel_))
            (case aL => have := LMc59.out; omega)
            intro v347 w69 ho hb hg hat
            rw [← Ny346.out] at ho
            replace HO_3 := zM (Kd.R_after (ok := (fun _ => True)) (rl_ HO_3) hg hat)
            replace HB := zM (hb)
            have HO348 := zM (ho)
            clear HO345
            clear ho hb hg hat
            refine hK.out _ _ ⟨(hb_ HB hw349_0), (hb_ HB hw349_1), (hb_ HB hw349_2), (hb_ HB hw349_3), (hb_ HB hw349_4), (hb_ HB hw349_5), (hb_ HB hw349_6), (hb_ HB hw349_7), (hb_ HB hw349_8), (hb_ HB hw349_9), (hb_ HB hw349_10), (hb_ HB hw349_11), (hb_ HB hw349_12), (hb_ HB hw349_13), (hb_ HB hw349_14)⟩ (fun hHeld => ?_)
            clear hK K
            refine norm_ (a' := ?_) ?_ ?_
            rotate_left
            · show Act.put _ (some 50) _ = _
              simp only [Act.put, zS, zZ, zC, i64_w, i32_w]
              rfl
            refine one_ (i := 7) (N := some 55) #[T_, T_, T_, T_, T_, T_, T_, T_, F_, F_, F_] rfl rfl (one_of HT_.out (by kernel_rfl)) (by decide) (fun K hK => ?_)
            refine Kd.R_lit_step k35 _ 35 ?hg (N := 55) ?hd (xs := ([(⟨(rd_T35 l0 x4_2).f0, (rd_T35 l0 x4_2).f1, (rd_T35 l0 x4_2).f2, (⟨(rd_T35 l0 x4_2).f3.f0, (rd_T35 l0 x4_2).f3.f1, (rd_T35 l0 x4_2).f3.f2, (⟨(rd_T35 l0 x4_2).f3.f3.f0, (rd_T35 l0 x4_2).f3.f3.f1⟩ : S24)⟩ : S26), (⟨(rd_T35 l0 x4_2).f4.f0, (⟨(rd_T35 l0 x4_2).f4.f1.f0, (rd_T35 l0 x4_2).f4.f1.f1⟩ : S24), (⟨(rd_T35 l0 x4_2).f4.f2.f0, (⟨(rd_T35 l0 x4_2).f4.f2.f1.f0, (rd_T35 l0 x4_2).f4.f2.f1.f1⟩ : S29), (rd_T35 l0 x4_2).f4.f2.f2⟩ : S31)⟩ : S33)⟩ : S35)] : List (S35))) (inner := [.int .i64 ((rd_T35 l0 x4_2).f0), .int .i64 ((rd_T35 l0 x4_2).f1), .int .i64 ((rd_T35 l0 x4_2).f2), .int .i64 ((rd_T35 l0 x4_2).f3.f0), .int .i64 ((rd_T35 l0 x4_2).f3.f1), .float .f64 ((rd_T35 l0 x4_2).f3.f2), .int .i64 ((rd_T35 l0 x4_2).f3.f3.f0), .int .i64 ((rd_T35 l0 x4_2).f3.f3.f1), .int .i64 ((rd_T35 l0 x4_2).f4.f0), .int .i64 ((rd_T35 l0 x4_2).f4.f1.f0), .int .i64 ((rd_T35 l0 x4_2).f4.f1.f1), .int .i64 ((rd_T35 l0 x4_2).f4.f2.f0), .int .i64 ((rd_T35 l0 x4_2).f4.f2.f1.f0), .int .i64 ((rd_T35 l0 x4_2).f4.f2.f1.f1), .float .f64 ((rd_T35 l0 x4_2).f4.f2.f2)]) (ok := fun _ => True) (okp := fun _ => True) ?hr ?hp (fun _ hk => hk) trivial (Below.refl _ _) (Nat.le_refl _) (by simp) ?_; (case hd => rfl); (case hg => rfl); (case hr => first | (go_simp; done) | (go_simp; rfl)); (case hp => exact (Reps.front (show Kd.M k35 _ _ _ (⟨(rd_T35 l0 x4_2).f0, (rd_T35 l0 x4_2).f1, (rd_T35 l0 x4_2).f2, (⟨(rd_T35 l0 x4_2).f3.f0, (rd_T35 l0 x4_2).f3.f1, (rd_T35 l0 x4_2).f3.f2, (⟨(rd_T35 l0 x4_2).f3.f3.f0, (rd_T35 l0 x4_2).f3.f3.f1⟩ : S24)⟩ : S26), (⟨(rd_T35 l0 x4_2).f4.f0, (⟨(rd_T35 l0 x4_2).f4.f1.f0, (rd_T35 l0 x4_2).f4.f1.f1⟩ : S24), (⟨(rd_T35 l0 x4_2).f4.f2.f0, (⟨(rd_T35 l0 x4_2).f4.f2.f1.f0, (rd_T35 l0 x4_2).f4.f2.f1.f1⟩ : S29), (rd_T35 l0 x4_2).f4.f2.f2⟩ : S31)⟩ : S33)⟩ : S35) [.int .i64 ((rd_T35 l0 x4_2).f0), .int .i64 ((rd_T35 l0 x4_2).f1), .int .i64 ((rd_T35 l0 x4_2).f2), .int .i64 ((rd_T35 l0 x4_2).f3.f0), .int .i64 ((rd_T35 l0 x4_2).f3.f1), .float .f64 ((rd_T35 l0 x4_2).f3.f2), .int .i64 ((rd_T35 l0 x4_2).f3.f3.f0), .int .i64 ((rd_T35 l0 x4_2).f3.f3.f1), .int .i64 ((rd_T35 l0 x4_2).f4.f0), .int .i64 ((rd_T35 l0 x4_2).f4.f1.f0), .int .i64 ((rd_T35 l0 x4_2).f4.f1.f1), .int .i64 ((rd_T35 l0 x4_2).f4.f2.f0), .int .i64 ((rd_T35 l0 x4_2).f4.f2.f1.f0), .int .i64 ((rd_T35 l0 x4_2).f4.f2.f1.f1), .float .f64 ((rd_T35 l0 x4_2).f4.f2.f2)] from (k35_mkM _ _ _ (⟨(rd_T35 l0 x4_2).f0, (rd_T35 l0 x4_2).f1, (rd_T35 l0 x4_2).f2, (⟨(rd_T35 l0 x4_2).f3.f0, (rd_T35 l0 x4_2).f3.f1, (rd_T35 l0 x4_2).f3.f2, (⟨(rd_T35 l0 x4_2).f3.f3.f0, (rd_T35 l0 x4_2).f3.f3.f1⟩ : S24)⟩ : S26), (⟨(rd_T35 l0 x4_2).f4.f0, (⟨(rd_T35 l0 x4_2).f4.f1.f0, (rd_T35 l0 x4_2).f4.f1.f1⟩ : S24), (⟨(rd_T35 l0 x4_2).f4.f2.f0, (⟨(rd_T35 l0 x4_2).f4.f2.f1.f0, (rd_T35 l0 x4_2).f4.f2.f1.f1⟩ : S29), (rd_T35 l0 x4_2).f4.f2.f2⟩ : S31)⟩ : S33)⟩ : S35) )) rfl (Reps.none _ _) rfl))
            intro v351 w70 ho71 hb hg_ hnew_
            clear hg_ hnew_
            (first | rw [← Ny350.out] at ho71 | (simp only [Int.reduceToNat] at ho71; rw [← Ny350.out] at ho71))
            have HO352 := zM (Kd.R_lower (Kd.R_new' (Kd.R_new' ho71 (Kd.R_lt (rl_ HO_3))) (Kd.R_lt (rl_ HO348))) (below_size bel_))
            replace HO_3 := zM (Kd.R_elder' (rl_ HO_3) (Kd.R_base ho71) hb)
            replace HO348 := zM (Kd.R_elder' (rl_ HO348) (Kd.R_base ho71) hb)
            replace HB := zM (zB bel_ hb)
            clear hb ho71
            refine hK.out _ _ ⟨(hb_ HB hw349_0), (hb_ HB hw349_1), (hb_ HB hw349_2), (hb_ HB hw349_3), (hb_ HB hw349_4), (hb_ HB hw349_5), (hb_ HB hw349_6), (hb_ HB hw349_7), (hb_ HB hw349_8), (hb_ HB hw349_9), (hb_ HB hw349_10), (hb_ HB hw349_11), (hb_ HB hw349_12), (hb_ HB hw349_13), (hb_ HB hw349_14)⟩ (fun hHeld => ?_)
            clear hK K
            refine norm_ (a' := ?_) ?_ ?_
            rotate_left
            · show Act.put _ (some 55) _ = _
              simp only [Act.put, zS, zZ, zC, i64_w, i32_w]
              rfl
            exact norm_ (by simp only [putAll, Act.put, zS, zZ, zC]) (hCont (v344, v347, v351) _ ⟨hHeld, (by (with_reducible repeat (first | apply Kd.R_alloc | apply Kd.R_drewN | apply Kd.R_drew)); exact Kd.R_mono HO348.out (fun _ hk => ⟨hk.2, hk.1⟩)), (by (with_reducible repeat (first | apply Kd.R_alloc | apply Kd.R_drewN | apply Kd.R_drew)); exact Kd.R_mono HO352.out (fun _ hk => ⟨hk.2, hk.1.2⟩)), (by (with_reducible repeat (first | apply Kd.R_alloc | apply Kd.R_drewN | apply Kd.R_drew)); exact Kd.R_mono HO_3.out (fun _ hk => ⟨hk.1.2, hk.2⟩)), bel_⟩)
          skip
          refine Kd.R_lit_step k35 _ 35 ?hg (N := 55) ?hd (xs := ([(⟨(rd_T35 l0 x4_2).f0, (rd_T35 l0 x4_2).f1, (rd_T35 l0 x4_2).f2, (⟨(rd_T35 l0 x4_2).f3.f0, (rd_T35 l0 x4_2).f3.f1, (rd_T35 l0 x4_2).f3.f2, (⟨(rd_T35 l0 x4_2).f3.f3.f0, (rd_T35 l0 x4_2).f3.f3.f1⟩ : S24)⟩ : S26), (⟨(rd_T35 l0 x4_2).f4.f0, (⟨(rd_T35 l0 x4_2).f4.f1.f0, (rd_T35 l0 x4_2).f4.f1.f1⟩ : S24), (⟨(rd_T35 l0 x4_2).f4.f2.f0, (⟨(rd_T35 l0 x4_2).f4.f2.f1.f0, (rd_T35 l0 x4_2).f4.f2.f1.f1⟩ : S29), (rd_T35 l0 x4_2).f4.f2.f2⟩ : S31)⟩ : S33)⟩ : S35)] : List (S35))) (inner := [.int .i64 ((rd_T35 l0 x4_2).f0), .int .i64 ((rd_T35 l0 x4_2).f1), .int .i64 ((rd_T35 l0 x4_2).f2), .int .i64 ((rd_T35 l0 x4_2).f3.f0), .int .i64 ((rd_T35 l0 x4_2).f3.f1), .float .f64 ((rd_T35 l0 x4_2).f3.f2), .int .i64 ((rd_T35 l0 x4_2).f3.f3.f0), .int .i64 ((rd_T35 l0 x4_2).f3.f3.f1), .int .i64 ((rd_T35 l0 x4_2).f4.f0), .int .i64 ((rd_T35 l0 x4_2).f4.f1.f0), .int .i64 ((rd_T35 l0 x4_2).f4.f1.f1), .int .i64 ((rd_T35 l0 x4_2).f4.f2.f0), .int .i64 ((rd_T35 l0 x4_2).f4.f2.f1.f0), .int .i64 ((rd_T35 l0 x4_2).f4.f2.f1.f1), .float .f64 ((rd_T35 l0 x4_2).f4.f2.f2)]) (ok := fun _ => True) (okp := fun _ => True) ?hr ?hp (fun _ hk => hk) trivial (Below.refl _ _) (Nat.le_refl _) (by simp) ?_; (case hd => rfl); (case hg => rfl); (case hr => first | (go_simp; done) | (go_simp; rfl)); (case hp => exact (Reps.front (show Kd.M k35 _ _ _ (⟨(rd_T35 l0 x4_2).f0, (rd_T35 l0 x4_2).f1, (rd_T35 l0 x4_2).f2, (⟨(rd_T35 l0 x4_2).f3.f0, (rd_T35 l0 x4_2).f3.f1, (rd_T35 l0 x4_2).f3.f2, (⟨(rd_T35 l0 x4_2).f3.f3.f0, (rd_T35 l0 x4_2).f3.f3.f1⟩ : S24)⟩ : S26), (⟨(rd_T35 l0 x4_2).f4.f0, (⟨(rd_T35 l0 x4_2).f4.f1.f0, (rd_T35 l0 x4_2).f4.f1.f1⟩ : S24), (⟨(rd_T35 l0 x4_2).f4.f2.f0, (⟨(rd_T35 l0 x4_2).f4.f2.f1.f0, (rd_T35 l0 x4_2).f4.f2.f1.f1⟩ : S29), (rd_T35 l0 x4_2).f4.f2.f2⟩ : S31)⟩ : S33)⟩ : S35) [.int .i64 ((rd_T35 l0 x4_2).f0), .int .i64 ((rd_T35 l0 x4_2).f1), .int .i64 ((rd_T35 l0 x4_2).f2), .int .i64 ((rd_T35 l0 x4_2).f3.f0), .int .i64 ((rd_T35 l0 x4_2).f3.f1), .float .f64 ((rd_T35 l0 x4_2).f3.f2), .int .i64 ((rd_T35 l0 x4_2).f3.f3.f0), .int .i64 ((rd_T35 l0 x4_2).f3.f3.f1), .int .i64 ((rd_T35 l0 x4_2).f4.f0), .int .i64 ((rd_T35 l0 x4_2).f4.f1.f0), .int .i64 ((rd_T35 l0 x4_2).f4.f1.f1), .int .i64 ((rd_T35 l0 x4_2).f4.f2.f0), .int .i64 ((rd_T35 l0 x4_2).f4.f2.f1.f0), .int .i64 ((rd_T35 l0 x4_2).f4.f2.f1.f1), .float .f64 ((rd_T35 l0 x4_2).f4.f2.f2)] from (k35_mkM _ _ _ (⟨(rd_T35 l0 x4_2).f0, (rd_T35 l0 x4_2).f1, (rd_T35 l0 x4_2).f2, (⟨(rd_T35 l0 x4_2).f3.f0, (rd_T35 l0 x4_2).f3.f1, (rd_T35 l0 x4_2).f3.f2, (⟨(rd_T35 l0 x4_2).f3.f3.f0, (rd_T35 l0 x4_2).f3.f3.f1⟩ : S24)⟩ : S26), (⟨(rd_T35 l0 x4_2).f4.f0, (⟨(rd_T35 l0 x4_2).f4.f1.f0, (rd_T35 l0 x4_2).f4.f1.f1⟩ : S24), (⟨(rd_T35 l0 x4_2).f4.f2.f0, (⟨(rd_T35 l0 x4_2).f4.f2.f1.f0, (rd_T35 l0 x4_2).f4.f2.f1.f1⟩ : S29), (rd_T35 l0 x4_2).f4.f2.f2⟩ : S31)⟩ : S33)⟩ : S35) )) rfl (Reps.none _ _) rfl))
          intro v351 w69 ho70 hb hg_ hnew_
          clear hg_ hnew_
          (first | rw [← Ny350.out] at ho70 | (simp only [Int.reduceToNat] at ho70; rw [← Ny350.out] at ho70))
          have HO352 := zM (Kd.R_lower (Kd.R_new' (Kd.R_new' ho70 (Kd.R_lt (rl_ HO_3))) (Kd.R_lt (rl_ HO345))) (below_size bel_))
          replace HO_3 := zM (Kd.R_elder' (rl_ HO_3) (Kd.R_base ho70) hb)
          replace HO345 := zM (Kd.R_elder' (rl_ HO345) (Kd.R_base ho70) hb)
          replace HB := zM (zB bel_ hb)
          clear hb ho70
          refine hK.out _ _ ⟨(hb_ HB hw349_0), (hb_ HB hw349_1), (hb_ HB hw349_2), (hb_ HB hw349_3), (hb_ HB hw349_4), (hb_ HB hw349_5), (hb_ HB hw349_6), (hb_ HB hw349_7), (hb_ HB hw349_8), (hb_ HB hw349_9), (hb_ HB hw349_10), (hb_ HB hw349_11), (hb_ HB hw349_12), (hb_ HB hw349_13), (hb_ HB hw349_14)⟩ (fun hHeld => ?_)
          clear hK K
          refine norm_ (a' := ?_) ?_ ?_
          rotate_left
          · show Act.put _ (some 55) _ = _
            simp only [Act.put, zS, zZ, zC, i64_w, i32_w]
            rfl
          refine one_ (i := 2) (N := some 50) #[T_, T_, T_, T_, T_, T_, T_, T_, F_, F_, F_] rfl rfl (one_of HT_.out (by kernel_rfl)) (by decide) (fun K hK => ?_)
          refine Kd.R_append_rows_step k35 (w0 := w) w.heap.size (by rfl) (.tmp 48) (.tmp 49) 42 35 (.agg #[(.int .i64 0), (.int .i64 0), (.int .i64 0), (.int .i64 0), (.int .i64 0), (.float .f64 0), (.int .i64 0), (.int .i64 0), (.int .i64 0), (.int .i64 0), (.int .i64 0), (.int .i64 0), (.int .i64 0), (.int .i64 0), (.float .f64 0)]) 120 rfl Try.underlying42 info35 rfl (by decide) (by omega) v344 y343 l0 _ _ _ (fun k_ => some k_ ≠ (.slice Ao64 x3_2.length co64 : Value).ownBlock ∧ some k_ ≠ (v351 : Value).ownBlock) (fun _ => False) rfl rfl ?aO ?aR (fun _ _ h => h) (fun _ h => h.elim) ?aF ?aB ?aS ?aL ?_
          (case aR => repeat (first | exact (Kd.C_below HR0.out HB.out) | (with_reducible refine Kd.C_alloc ?_ _) | (with_reducible refine Kd.C_drewN ?_ _) | (with_reducible refine Kd.C_drew ?_)))
          (case aB => exact bel_)
          (case aF => exact (fun k_ hk => ⟨Kd.fresh' (Kd.R_lt (rl_ HO_3)) k_ hk, Kd.fresh' (Kd.R_lt (rl_ HO352)) k_ hk⟩))
          (case aO => exact (by (with_reducible repeat (first | apply Kd.R_alloc | apply Kd.R_drewN | apply Kd.R_drew)); exact Kd.R_mono HO345.out (fun _ hk => ⟨hk.1.2, hk.2⟩)))
          (case aS => exact (below_size bel_))
          (case aL => have := LMc59.out; omega)
          intro v347 w71 ho hb hg hat
          rw [← Ny346.out] at ho
          replace HO_3 := zM (Kd.R_after (ok := (fun k_ => some k_ ≠ (v351 : Value).ownBlock)) (by (with_reducible repeat (first | apply Kd.R_alloc | apply Kd.R_drewN | apply Kd.R_drew)); exact Kd.R_mono HO_3.out (fun _ hk => ⟨hk.2, hk.1.2⟩)) hg hat)
          replace HO352 := zM (Kd.R_after (ok := (fun k_ => some k_ ≠ (.slice Ao64 x3_2.length co64 : Value).ownBlock)) (by (with_reducible repeat (first | apply Kd.R_alloc | apply Kd.R_drewN | apply Kd.R_drew)); exact Kd.R_mono HO352.out (fun _ hk => ⟨hk.1.2, hk.2⟩)) hg hat)
          replace HB := zM (hb)
          have HO348 := zM (ho)
          clear HO345
          clear ho hb hg hat
          refine hK.out _ _ ⟨(hb_ HB hw349_0), (hb_ HB hw349_1), (hb_ HB hw349_2), (hb_ HB hw349_3), (hb_ HB hw349_4), (hb_ HB hw349_5), (hb_ HB hw349_6), (hb_ HB hw349_7), (hb_ HB hw349_8), (hb_ HB hw349_9), (hb_ HB hw349_10), (hb_ HB hw349_11), (hb_ HB hw349_12), (hb_ HB hw349_13), (hb_ HB hw349_14)⟩ (fun hHeld => ?_)
          clear hK K
          refine norm_ (a' := ?_) ?_ ?_
          rotate_left
          · show Act.put _ (some 50) _ = _
            simp only [Act.put, zS, zZ, zC, i64_w, i32_w]
            rfl
          exact norm_ (by simp only [putAll, Act.put, zS, zZ, zC]) (hCont (v344, v347, v351) _ ⟨hHeld, (by (with_reducible repeat (first | apply Kd.R_alloc | apply Kd.R_drewN | apply Kd.R_drew)); exact Kd.R_mono HO348.out (fun _ hk => ⟨hk.2, hk.1⟩)), (by (with_reducible repeat (first | apply Kd.R_alloc | apply Kd.R_drewN | apply Kd.R_drew)); exact Kd.R_mono HO352.out (fun _ hk => ⟨hk.2, hk.1⟩)), (by (with_reducible repeat (first | apply Kd.R_alloc | apply Kd.R_drewN | apply Kd.R_drew)); exact Kd.R_mono HO_3.out (fun _ hk => ⟨hk.2, hk.1⟩)), bel_⟩)
        rintro ⟨v344, v347, v351⟩ w72 ⟨hS_, h0_, h1_, h2_, h3_⟩
        have HO348 : Aside0 (Kd.R k35 35 w72 w.heap.size (fun k_ => some k_ ≠ (v351 : Value).ownBlock ∧ some k_ ≠ (.slice Ao64 x3_2.length co64 : Value).ownBlock) v347 y346) := ⟨h0_⟩
        have HO352 : Aside0 (Kd.R k35 35 w72 w.heap.size (fun k_ => some k_ ≠ (v347 : Value).ownBlock ∧ some k_ ≠ (.slice Ao64 x3_2.length co64 : Value).ownBlock) v351 y350) := ⟨h1_⟩
        replace HO_3 : Aside0 (Kd.R k35 35 w72 w.heap.size (fun k_ => some k_ ≠ (v347 : Value).ownBlock ∧ some k_ ≠ (v351 : Value).ownBlock) (.slice Ao64 x3_2.length co64) x3_2) := ⟨h2_⟩
        replace HB : Aside0 (Below w.heap.size w w72) := ⟨h3_⟩
        clear h0_ h1_ h2_ h3_
        have hHeld : w72.cell? (ad349.add ((x4_2).toNat * 15)) = some (.int .i64 ((rd_T35 l0 x4_2).f0)) ∧ w72.cell? ⟨(ad349.add ((x4_2).toNat * 15)).block, (ad349.add ((x4_2).toNat * 15)).off + 1, none⟩ = some (.int .i64 ((rd_T35 l0 x4_2).f1)) ∧ w72.cell? ⟨(ad349.add ((x4_2).toNat * 15)).block, (ad349.add ((x4_2).toNat * 15)).off + 2, none⟩ = some (.int .i64 ((rd_T35 l0 x4_2).f2)) ∧ w72.cell? ⟨(ad349.add ((x4_2).toNat * 15)).block, (ad349.add ((x4_2).toNat * 15)).off + 3, none⟩ = some (.int .i64 ((rd_T35 l0 x4_2).f3.f0)) ∧ w72.cell? ⟨(ad349.add ((x4_2).toNat * 15)).block, (ad349.add ((x4_2).toNat * 15)).off + 4, none⟩ = some (.int .i64 ((rd_T35 l0 x4_2).f3.f1)) ∧ w72.cell? ⟨(ad349.add ((x4_2).toNat * 15)).block, (ad349.add ((x4_2).toNat * 15)).off + 5, none⟩ = some (.float .f64 ((rd_T35 l0 x4_2).f3.f2)) ∧ w72.cell? ⟨(ad349.add ((x4_2).toNat * 15)).block, (ad349.add ((x4_2).toNat * 15)).off + 6, none⟩ = some (.int .i64 ((rd_T35 l0 x4_2).f3.f3.f0)) ∧ w72.cell? ⟨(ad349.add ((x4_2).toNat * 15)).block, (ad349.add ((x4_2).toNat * 15)).off + 7, none⟩ = some (.int .i64 ((rd_T35 l0 x4_2).f3.f3.f1)) ∧ w72.cell? ⟨(ad349.add ((x4_2).toNat * 15)).block, (ad349.add ((x4_2).toNat * 15)).off + 8, none⟩ = some (.int .i64 ((rd_T35 l0 x4_2).f4.f0)) ∧ w72.cell? ⟨(ad349.add ((x4_2).toNat * 15)).block, (ad349.add ((x4_2).toNat * 15)).off + 9, none⟩ = some (.int .i64 ((rd_T35 l0 x4_2).f4.f1.f0)) ∧ w72.cell? ⟨(ad349.add ((x4_2).toNat * 15)).block, (ad349.add ((x4_2).toNat * 15)).off + 10, none⟩ = some (.int .i64 ((rd_T35 l0 x4_2).f4.f1.f1)) ∧ w72.cell? ⟨(ad349.add ((x4_2).toNat * 15)).block, (ad349.add ((x4_2).toNat * 15)).off + 11, none⟩ = some (.int .i64 ((rd_T35 l0 x4_2).f4.f2.f0)) ∧ w72.cell? ⟨(ad349.add ((x4_2).toNat * 15)).block, (ad349.add ((x4_2).toNat * 15)).off + 12, none⟩ = some (.int .i64 ((rd_T35 l0 x4_2).f4.f2.f1.f0)) ∧ w72.cell? ⟨(ad349.add ((x4_2).toNat * 15)).block, (ad349.add ((x4_2).toNat * 15)).off + 13, none⟩ = some (.int .i64 ((rd_T35 l0 x4_2).f4.f2.f1.f1)) ∧ w72.cell? ⟨(ad349.add ((x4_2).toNat * 15)).block, (ad349.add ((x4_2).toNat * 15)).off + 14, none⟩ = some (.float .f64 ((rd_T35 l0 x4_2).f4.f2.f2)) := hS_
        obtain ⟨Ao74, co74, eo74⟩ := Kd.R_slice HO352.out
        (first | subst eo74 | (injection eo74 with f1_ f2_ f3_; have f4_ := f1_.symm; have f5_ := f3_.symm; clear f1_ f2_ f3_; subst f4_; subst f5_))
        refine norm_ (a' := ?_) ?_ ?_
        rotate_left
        · simp only [putAll, Act.put, zS, zZ, zC]
          rfl
        refine one_ (i := 8) (N := some 56) #[T_, T_, T_, T_, T_, T_, T_, T_, T_, F_, F_] rfl rfl (one_of HT_.out (by kernel_rfl)) (by decide) (fun K hK => ?_)
        refine Kd.R_append_rows_step k35 (w0 := w) w.heap.size (by rfl) (.tmp 50) (.tmp 55) 42 35 (.agg #[(.int .i64 0), (.int .i64 0), (.int .i64 0), (.int .i64 0), (.int .i64 0), (.float .f64 0), (.int .i64 0), (.int .i64 0), (.int .i64 0), (.int .i64 0), (.int .i64 0), (.int .i64 0), (.int .i64 0), (.int .i64 0), (.float .f64 0)]) 120 rfl Try.underlying42 info35 rfl (by decide) (by omega) v347 y346 y350 _ _ _ (fun k_ => some k_ ≠ (.slice Ao64 x3_2.length co64 : Value).ownBlock ∧ some k_ ≠ (.slice Ao74 y350.length co74 : Value).ownBlock) (fun _ => False) rfl rfl ?aO ?aR (fun _ _ h => h) (fun _ h => h.elim) ?aF ?aB ?aS ?aL ?_
        (case aR => repeat (first | exact (Kd.R_reads' HO352.out).2.2 | (with_reducible refine Kd.C_alloc ?_ _) | (with_reducible refine Kd.C_drewN ?_ _) | (with_reducible refine Kd.C_drew ?_)))
        (case aB => exact bel_)
        (case aF => exact (fun k_ hk => ⟨Kd.fresh' (Kd.R_lt (rl_ HO_3)) k_ hk, Kd.fresh' (Kd.R_lt (rl_ HO352)) k_ hk⟩))
        (case aO => exact (by (with_reducible repeat (first | apply Kd.R_alloc | apply Kd.R_drewN | apply Kd.R_drew)); exact Kd.R_mono HO348.out (fun _ hk => ⟨hk.2, hk.1⟩)))
        (case aS => exact (below_size bel_))
        (case aL => have := LMc62.out; omega)
        intro v354 w73 ho hb hg hat
        rw [← Ny353.out] at ho
        replace HO_3 := zM (Kd.R_after (ok := (fun k_ => some k_ ≠ (.slice Ao74 y350.length co74 : Value).ownBlock)) (by (with_reducible repeat (first | apply Kd.R_alloc | apply Kd.R_drewN | apply Kd.R_drew)); exact Kd.R_mono HO_3.out (fun _ hk => ⟨hk.2, hk.1⟩)) hg hat)
        replace HO352 := zM (Kd.R_after (ok := (fun k_ => some k_ ≠ (.slice Ao64 x3_2.length co64 : Value).ownBlock)) (by (with_reducible repeat (first | apply Kd.R_alloc | apply Kd.R_drewN | apply Kd.R_drew)); exact Kd.R_mono HO352.out (fun _ hk => ⟨hk.2, hk.1⟩)) hg hat)
        replace HB := zM (hb)
        have HO355 := zM (ho)
        clear HO348
        clear ho hb hg hat
        obtain ⟨Ao75, co75, eo75⟩ := Kd.R_slice HO355.out
        (first | subst eo75 | (injection eo75 with f1_ f2_ f3_; have f4_ := f1_.symm; have f5_ := f3_.symm; clear f1_ f2_ f3_; subst f4_; subst f5_))
        refine hK.out _ _ ⟨(hb_ HB hw349_0), (hb_ HB hw349_1), (hb_ HB hw349_2), (hb_ HB hw349_3), (hb_ HB hw349_4), (hb_ HB hw349_5), (hb_ HB hw349_6), (hb_ HB hw349_7), (hb_ HB hw349_8), (hb_ HB hw349_9), (hb_ HB hw349_10), (hb_ HB hw349_11), (hb_ HB hw349_12), (hb_ HB hw349_13), (hb_ HB hw349_14)⟩ (fun hHeld => ?_)
        clear hK K
        refine norm_ (a' := ?_) ?_ ?_
        rotate_left
        · show Act.put _ (some 56) _ = _
          simp only [Act.put, zS, zZ, zC, i64_w, i32_w]
          rfl
        refine one_ (i := 9) (N := some 57) #[T_, T_, T_, T_, T_, T_, T_, T_, T_, T_, F_] rfl rfl (one_of HT_.out (by kernel_rfl)) (by decide) (fun K hK => ?_)
        refine goes_ Try.func8 (by kernel_rfl) rfl #[.slice Ao75 y353.length co75] (by rfl) rfl rfl (by (try simp only [List.map_toArray, List.map_cons, List.map_nil]); first | done | rfl | (simp only [List.length_drop, List.length_take]; rfl)) ?_
        with_reducible refine (past_Fits.calls k2 _ _ y353 t356 _ ?side1 ?side2 A63.out).mono ?_
        (case side1 => repeat (first | exact (Kd.R_reads' HO355.out).2.2 | (with_reducible refine Kd.C_alloc ?_ _) | (with_reducible refine Kd.C_drewN ?_ _) | (with_reducible refine Kd.C_drew ?_)))
        (case side2 => exact (Kd.R_reads' HO355.out).2.1)
        rintro e w76 ⟨rfl, hb⟩
        refine ⟨_, rfl, ?_⟩
        replace HO_3 := zM (Kd.R_below (rl_ HO_3) hb)
        replace HO352 := zM (Kd.R_below (rl_ HO352) hb)
        replace HO355 := zM (Kd.R_below (rl_ HO355) hb)
        replace HB := zM (zB bel_ hb)
        (try clear hb)
        (try clear hb2)
        (try clear hk)
        (try clear hi)
        refine hK.out _ _ ⟨(hb_ HB hw349_0), (hb_ HB hw349_1), (hb_ HB hw349_2), (hb_ HB hw349_3), (hb_ HB hw349_4), (hb_ HB hw349_5), (hb_ HB hw349_6), (hb_ HB hw349_7), (hb_ HB hw349_8), (hb_ HB hw349_9), (hb_ HB hw349_10), (hb_ HB hw349_11), (hb_ HB hw349_12), (hb_ HB hw349_13), (hb_ HB hw349_14)⟩ (fun hHeld => ?_)
        clear hK K
        refine norm_ (a' := ?_) ?_ ?_
        rotate_left
        · show Act.put _ (some 57) _ = _
          simp only [Act.put, zS, zZ, zC, i64_w, i32_w]
          rfl
        refine pure_ (i := 10) (N := some 2) (v := ?_) (a' := ?_) #[T_, T_, T_, T_, T_, T_, T_, T_, T_, T_, T_] rfl rfl (any_of HT_.out (by kernel_rfl)) (fun _ _ _ h => h) (Or.inl ⟨by rfl, ?_⟩) ?_ ?_
        rotate_left
        · intro w'
          go_simp
          with_reducible rfl
        rotate_left
        · simp only [Act.put, zS, zZ, zC, i64_w, i32_w]
          rfl
        refine done_ (done_of HT_.out (by kernel_rfl)) ?_
        try go_wp2
        go_ret
        exact ⟨by first | rfl | (simp [errW_none, errW_some] <;> rfl) | (simp [*, errW_none, errW_some] <;> rfl), bel_⟩
      rw [if_pos c12] at H
      have c12b0 : decide (x20_2 < (l0.length : Int)) = true := decide_eq_true c12
      clear c12
      by_cases c13 : 0 ≤ x20_2
      rotate_left
      · rw [if_neg c13] at H
        exact absurd H (by simp)
      rw [if_pos c13] at H
      have c13b0 : decide (0 ≤ x20_2) = true := decide_eq_true c13
      clear c13
      by_cases c14 : x20_2 < (l0.length : Int)
      rotate_left
      · rw [if_neg c14] at H
        exact absurd H (by simp)
      rw [if_pos c14] at H
      have c14b0 : decide (x20_2 < (l0.length : Int)) = true := decide_eq_true c14
      clear c14
      by_cases c15 : ((rd_T35 l0 x20_2).f3.f0) = 1
      rotate_left
      · rw [if_neg c15] at H
        have c15b0 : (((rd_T35 l0 x20_2).f3.f0) == 1) = false := beq_eq_false_iff_ne.mpr c15
        have c15b1 : (((rd_T35 l0 x20_2).f3.f0) != 1) = true := bne_iff_ne.mpr c15
        by_cases c43 : ((rd_T35 l0 x20_2).f3.f0) = 0
        rotate_left
        · rw [if_neg c43] at H
          have c43b0 : (((rd_T35 l0 x20_2).f3.f0) == 0) = false := beq_eq_false_iff_ne.mpr c43
          have c43b1 : (((rd_T35 l0 x20_2).f3.f0) != 0) = true := bne_iff_ne.mpr c43
          have H' := zM H
          clear H
          have p332 : 0 ≤ (x20_2 : Int) := of_decide_eq_true (by first | (with_reducible assumption) | assumption)
          have q332 : x20_2 < (l0.length : Int) := of_decide_eq_true (by first | (with_reducible assumption) | assumption)
          obtain ⟨ad332, e332, hx332_0, hx332_1, hx332_2, hx332_3, hx332_4, hx332_5, hx332_6, hx332_7, hx332_8, hx332_9, hx332_10, hx332_11, hx332_12, hx332_13, hx332_14⟩ := at_T35 HR0.out x20_2 p332 q332
          cases e332
          replace hx332_0 := (HB.out.cell (World.block_lt_of_cell? w _ hx332_0)).trans hx332_0
          replace hx332_1 := (HB.out.cell (World.block_lt_of_cell? w _ hx332_1)).trans hx332_1
          replace hx332_2 := (HB.out.cell (World.block_lt_of_cell? w _ hx332_2)).trans hx332_2
          replace hx332_3 := (HB.out.cell (World.block_lt_of_cell? w _ hx332_3)).trans hx332_3
          replace hx332_4 := (HB.out.cell (World.block_lt_of_cell? w _ hx332_4)).trans hx332_4
          replace hx332_5 := (HB.out.cell (World.block_lt_of_cell? w _ hx332_5)).trans hx332_5
          replace hx332_6 := (HB.out.cell (World.block_lt_of_cell? w _ hx332_6)).trans hx332_6
          replace hx332_7 := (HB.out.cell (World.block_lt_of_cell? w _ hx332_7)).trans hx332_7
          replace hx332_8 := (HB.out.cell (World.block_lt_of_cell? w _ hx332_8)).trans hx332_8
          replace hx332_9 := (HB.out.cell (World.block_lt_of_cell? w _ hx332_9)).trans hx332_9
          replace hx332_10 := (HB.out.cell (World.block_lt_of_cell? w _ hx332_10)).trans hx332_10
          replace hx332_11 := (HB.out.cell (World.block_lt_of_cell? w _ hx332_11)).trans hx332_11
          replace hx332_12 := (HB.out.cell (World.block_lt_of_cell? w _ hx332_12)).trans hx332_12
          replace hx332_13 := (HB.out.cell (World.block_lt_of_cell? w _ hx332_13)).trans hx332_13
          replace hx332_14 := (HB.out.cell (World.block_lt_of_cell? w _ hx332_14)).trans hx332_14
          replace p332 := eq_true p332
          replace q332 := eq_true q332
          go_wp2_with (first | ((with_reducible refine gld_ (t := 35) ?_); (try (refine gate_guard (by rfl) ?_; dsimp only)); first | refine wl15_ rfl 35 _ rfl rfl Try.underlying35 rfl (by kernel_rfl) ?_ | refine wlr15_ rfl 35 _ rfl rfl Try.underlying35 rfl (by kernel_rfl) ?_) | ((with_reducible refine gst_ (t := 35) ?_); refine ws15_ rfl 35 _ _ rfl rfl rfl (by kernel_rfl) ?_) | ((with_reducible refine gate_dst (N := 6) rfl ?_); refine box_event ?hg (N := 6) ?hd (cs := #[.int .i64 0, .int .i64 0, .int .i64 0, .int .i64 0, .int .i64 0, .float .f64 0, .int .i64 0, .int .i64 0, .int .i64 0, .int .i64 0, .int .i64 0, .int .i64 0, .int .i64 0, .int .i64 0, .float .f64 0]) (t := 35) ?hr ?_; (case hd => rfl); (case hg => rfl); (case hr => first | (go_simp; done) | (go_simp; rfl)); intro gb333 hg w52 hbox hb; replace HO_3 := zM (Kd.R_below (Kd.R_elderB (rl_ HO_3) gb333 (Nat.le_of_eq hg.symm)) hb); have BK333 := zM (hbox); have GW333 := zM (bs_ hg); have GE333 := zM (bs_ hg); replace HB := zM (zB bel_ hb); clear hb hbox hg; obtain ⟨hcz53_0, hcz53_1, hcz53_2, hcz53_3, hcz53_4, hcz53_5, hcz53_6, hcz53_7, hcz53_8, hcz53_9, hcz53_10, hcz53_11, hcz53_12, hcz53_13, hcz53_14⟩ := r15_ BK333.out; obtain ⟨hfz53_0, hfz53_1, hfz53_2, hfz53_3, hfz53_4, hfz53_5, hfz53_6, hfz53_7, hfz53_8, hfz53_9, hfz53_10, hfz53_11, hfz53_12, hfz53_13, hfz53_14⟩ := f15_ BK333.out))
          go_roundg k2
          case measure => have := HJ3.out; have := HK2.out; omega
          case rel => exact ⟨(x3_2), (x4_2), (wrap64 (x20_2 + 1)), (by first | rfl | (simp; done) | (simp [*]; done) | (simp; grind)), (by first | rfl | (simp; done) | (simp [*]; done) | (simp; grind)), H', ⟨by have := HJ3.out; have := HK2.out; omega⟩, ⟨by (with_reducible repeat (first | apply Kd.R_alloc | apply Kd.R_drewN | apply Kd.R_drew)); exact Kd.R_mono (Kd.R_far (p := ⟨gb333, 14, none⟩) (Kd.R_far (p := ⟨gb333, 13, none⟩) (Kd.R_far (p := ⟨gb333, 12, none⟩) (Kd.R_far (p := ⟨gb333, 11, none⟩) (Kd.R_far (p := ⟨gb333, 10, none⟩) (Kd.R_far (p := ⟨gb333, 9, none⟩) (Kd.R_far (p := ⟨gb333, 8, none⟩) (Kd.R_far (p := ⟨gb333, 7, none⟩) (Kd.R_far (p := ⟨gb333, 6, none⟩) (Kd.R_far (p := ⟨gb333, 5, none⟩) (Kd.R_far (p := ⟨gb333, 4, none⟩) (Kd.R_far (p := ⟨gb333, 3, none⟩) (Kd.R_far (p := ⟨gb333, 2, none⟩) (Kd.R_far (p := ⟨gb333, 1, none⟩) (Kd.R_far (p := ⟨gb333, 0, none⟩) (Kd.R_mono HO_3.out (fun k_ hk => (⟨hk, hk.2⟩ : _ ∧ k_ ≠ gb333))) (fun _ hk => hk.2) (.int .i64 ((rd_T35 l0 x20_2).f0))) (fun _ hk => hk.2) (.int .i64 ((rd_T35 l0 x20_2).f1))) (fun _ hk => hk.2) (.int .i64 ((rd_T35 l0 x20_2).f2))) (fun _ hk => hk.2) (.int .i64 ((rd_T35 l0 x20_2).f3.f0))) (fun _ hk => hk.2) (.int .i64 ((rd_T35 l0 x20_2).f3.f1))) (fun _ hk => hk.2) (.float .f64 ((rd_T35 l0 x20_2).f3.f2))) (fun _ hk => hk.2) (.int .i64 ((rd_T35 l0 x20_2).f3.f3.f0))) (fun _ hk => hk.2) (.int .i64 ((rd_T35 l0 x20_2).f3.f3.f1))) (fun _ hk => hk.2) (.int .i64 ((rd_T35 l0 x20_2).f4.f0))) (fun _ hk => hk.2) (.int .i64 ((rd_T35 l0 x20_2).f4.f1.f0))) (fun _ hk => hk.2) (.int .i64 ((rd_T35 l0 x20_2).f4.f1.f1))) (fun _ hk => hk.2) (.int .i64 ((rd_T35 l0 x20_2).f4.f2.f0))) (fun _ hk => hk.2) (.int .i64 ((rd_T35 l0 x20_2).f4.f2.f1.f0))) (fun _ hk => hk.2) (.int .i64 ((rd_T35 l0 x20_2).f4.f2.f1.f1))) (fun _ hk => hk.2) (.float .f64 ((rd_T35 l0 x20_2).f4.f2.f2))) (fun _ hk => trivial)⟩, ⟨bel_⟩⟩
        rw [if_pos c43] at H
        have c43b0 : (((rd_T35 l0 x20_2).f3.f0) == 0) = true := beq_iff_eq.mpr c43
        have c43b1 : (((rd_T35 l0 x20_2).f3.f0) != 0) = false := bne_eq_false_iff_eq.mpr c43
        clear c43
        replace H := Option.bind_eq_some_iff.mp H
        obtain ⟨t341, A440, H⟩ := H
        replace H : (if t341 = true then (ropewaylaw21_PastParts.l0 k2 l0 x3_2 x20_2 l0 (l0.length : Int) (wrap64 (x20_2 + 1))) else (ropewaylaw21_PastParts.l0 k2 l0 x3_2 x4_2 l0 (l0.length : Int) (wrap64 (x20_2 + 1)))) = some r := H
        have A44 := zM A440
        clear A440
        by_cases c45 : t341 = true
        · subst c45
          have H1 : (ropewaylaw21_PastParts.l0 k2 l0 x3_2 x20_2 l0 (l0.length : Int) (wrap64 (x20_2 + 1))) = some r := by rw [if_pos rfl] at H; exact H
          clear H
          have H := H1
          clear H1
          have H' := zM H
          clear H
          have p332 : 0 ≤ (x20_2 : Int) := of_decide_eq_true (by first | (with_reducible assumption) | assumption)
          have q332 : x20_2 < (l0.length : Int) := of_decide_eq_true (by first | (with_reducible assumption) | assumption)
          obtain ⟨ad332, e332, hx332_0, hx332_1, hx332_2, hx332_3, hx332_4, hx332_5, hx332_6, hx332_7, hx332_8, hx332_9, hx332_10, hx332_11, hx332_12, hx332_13, hx332_14⟩ := at_T35 HR0.out x20_2 p332 q332
          cases e332
          replace hx332_0 := (HB.out.cell (World.block_lt_of_cell? w _ hx332_0)).trans hx332_0
          replace hx332_1 := (HB.out.cell (World.block_lt_of_cell? w _ hx332_1)).trans hx332_1
          replace hx332_2 := (HB.out.cell (World.block_lt_of_cell? w _ hx332_2)).trans hx332_2
          replace hx332_3 := (HB.out.cell (World.block_lt_of_cell? w _ hx332_3)).trans hx332_3
          replace hx332_4 := (HB.out.cell (World.block_lt_of_cell? w _ hx332_4)).trans hx332_4
          replace hx332_5 := (HB.out.cell (World.block_lt_of_cell? w _ hx332_5)).trans hx332_5
          replace hx332_6 := (HB.out.cell (World.block_lt_of_cell? w _ hx332_6)).trans hx332_6
          replace hx332_7 := (HB.out.cell (World.block_lt_of_cell? w _ hx332_7)).trans hx332_7
          replace hx332_8 := (HB.out.cell (World.block_lt_of_cell? w _ hx332_8)).trans hx332_8
          replace hx332_9 := (HB.out.cell (World.block_lt_of_cell? w _ hx332_9)).trans hx332_9
          replace hx332_10 := (HB.out.cell (World.block_lt_of_cell? w _ hx332_10)).trans hx332_10
          replace hx332_11 := (HB.out.cell (World.block_lt_of_cell? w _ hx332_11)).trans hx332_11
          replace hx332_12 := (HB.out.cell (World.block_lt_of_cell? w _ hx332_12)).trans hx332_12
          replace hx332_13 := (HB.out.cell (World.block_lt_of_cell? w _ hx332_13)).trans hx332_13
          replace hx332_14 := (HB.out.cell (World.block_lt_of_cell? w _ hx332_14)).trans hx332_14
          replace p332 := eq_true p332
          replace q332 := eq_true q332
          go_wp2_with (first | ((with_reducible refine gld_ (t := 35) ?_); (try (refine gate_guard (by rfl) ?_; dsimp only)); first | refine wl15_ rfl 35 _ rfl rfl Try.underlying35 rfl (by kernel_rfl) ?_ | refine wlr15_ rfl 35 _ rfl rfl Try.underlying35 rfl (by kernel_rfl) ?_) | ((with_reducible refine gst_ (t := 35) ?_); refine ws15_ rfl 35 _ _ rfl rfl rfl (by kernel_rfl) ?_) | ((with_reducible refine gate_dst (N := 6) rfl ?_); refine box_event ?hg (N := 6) ?hd (cs := #[.int .i64 0, .int .i64 0, .int .i64 0, .int .i64 0, .int .i64 0, .float .f64 0, .int .i64 0, .int .i64 0, .int .i64 0, .int .i64 0, .int .i64 0, .int .i64 0, .int .i64 0, .int .i64 0, .float .f64 0]) (t := 35) ?hr ?_; (case hd => rfl); (case hg => rfl); (case hr => first | (go_simp; done) | (go_simp; rfl)); intro gb333 hg w46 hbox hb; replace HO_3 := zM (Kd.R_below (Kd.R_elderB (rl_ HO_3) gb333 (Nat.le_of_eq hg.symm)) hb); have BK333 := zM (hbox); have GW333 := zM (bs_ hg); have GE333 := zM (bs_ hg); replace HB := zM (zB bel_ hb); clear hb hbox hg; obtain ⟨hcz47_0, hcz47_1, hcz47_2, hcz47_3, hcz47_4, hcz47_5, hcz47_6, hcz47_7, hcz47_8, hcz47_9, hcz47_10, hcz47_11, hcz47_12, hcz47_13, hcz47_14⟩ := r15_ BK333.out; obtain ⟨hfz47_0, hfz47_1, hfz47_2, hfz47_3, hfz47_4, hfz47_5, hfz47_6, hfz47_7, hfz47_8, hfz47_9, hfz47_10, hfz47_11, hfz47_12, hfz47_13, hfz47_14⟩ := f15_ BK333.out) | (go_at_call 11; (with_reducible refine (past_Well.calls ((rd_T35 l0 x20_2).f0) ((rd_T35 l0 x20_2).f1) ((rd_T35 l0 x20_2).f2) ((rd_T35 l0 x20_2).f3.f0) ((rd_T35 l0 x20_2).f3.f1) ((rd_T35 l0 x20_2).f3.f2) ((rd_T35 l0 x20_2).f3.f3.f0) ((rd_T35 l0 x20_2).f3.f3.f1) ((rd_T35 l0 x20_2).f4.f0) ((rd_T35 l0 x20_2).f4.f1.f0) ((rd_T35 l0 x20_2).f4.f1.f1) ((rd_T35 l0 x20_2).f4.f2.f0) ((rd_T35 l0 x20_2).f4.f2.f1.f0) ((rd_T35 l0 x20_2).f4.f2.f1.f1) ((rd_T35 l0 x20_2).f4.f2.f2) true _ A44.out).mono ?_); rintro e w48 ⟨rfl, hb⟩; replace HO_3 := zM (Kd.R_below (by (with_reducible repeat (first | apply Kd.R_alloc | apply Kd.R_drewN | apply Kd.R_drew)); exact (Kd.R_mono (Kd.R_far (p := ⟨gb333, 14, none⟩) (Kd.R_far (p := ⟨gb333, 13, none⟩) (Kd.R_far (p := ⟨gb333, 12, none⟩) (Kd.R_far (p := ⟨gb333, 11, none⟩) (Kd.R_far (p := ⟨gb333, 10, none⟩) (Kd.R_far (p := ⟨gb333, 9, none⟩) (Kd.R_far (p := ⟨gb333, 8, none⟩) (Kd.R_far (p := ⟨gb333, 7, none⟩) (Kd.R_far (p := ⟨gb333, 6, none⟩) (Kd.R_far (p := ⟨gb333, 5, none⟩) (Kd.R_far (p := ⟨gb333, 4, none⟩) (Kd.R_far (p := ⟨gb333, 3, none⟩) (Kd.R_far (p := ⟨gb333, 2, none⟩) (Kd.R_far (p := ⟨gb333, 1, none⟩) (Kd.R_far (p := ⟨gb333, 0, none⟩) (Kd.R_mono HO_3.out (fun k_ hk => (⟨hk, hk.2⟩ : _ ∧ k_ ≠ gb333))) (fun _ hk => hk.2) (.int .i64 ((rd_T35 l0 x20_2).f0))) (fun _ hk => hk.2) (.int .i64 ((rd_T35 l0 x20_2).f1))) (fun _ hk => hk.2) (.int .i64 ((rd_T35 l0 x20_2).f2))) (fun _ hk => hk.2) (.int .i64 ((rd_T35 l0 x20_2).f3.f0))) (fun _ hk => hk.2) (.int .i64 ((rd_T35 l0 x20_2).f3.f1))) (fun _ hk => hk.2) (.float .f64 ((rd_T35 l0 x20_2).f3.f2))) (fun _ hk => hk.2) (.int .i64 ((rd_T35 l0 x20_2).f3.f3.f0))) (fun _ hk => hk.2) (.int .i64 ((rd_T35 l0 x20_2).f3.f3.f1))) (fun _ hk => hk.2) (.int .i64 ((rd_T35 l0 x20_2).f4.f0))) (fun _ hk => hk.2) (.int .i64 ((rd_T35 l0 x20_2).f4.f1.f0))) (fun _ hk => hk.2) (.int .i64 ((rd_T35 l0 x20_2).f4.f1.f1))) (fun _ hk => hk.2) (.int .i64 ((rd_T35 l0 x20_2).f4.f2.f0))) (fun _ hk => hk.2) (.int .i64 ((rd_T35 l0 x20_2).f4.f2.f1.f0))) (fun _ hk => hk.2) (.int .i64 ((rd_T35 l0 x20_2).f4.f2.f1.f1))) (fun _ hk => hk.2) (.float .f64 ((rd_T35 l0 x20_2).f4.f2.f2))) (fun _ h_ => h_.1))) hb); replace BK333 := zM (blk_below (g := gb333) (o := .cells (e35_ (rd_T35 l0 x20_2)) 35 (0, 0)) (by (with_reducible repeat (first | refine zN ?_ _ | refine zD ?_ | refine zA ?_ _)); exact fx15_ BK333) hb); replace HB := zM (zB bel_ hb); (try clear hb); (try clear hb2); (try clear hk); (try clear hi)))
          go_roundg k2
          case measure => have := HJ3.out; have := HK2.out; omega
          case rel => exact ⟨(x3_2), (x20_2), (wrap64 (x20_2 + 1)), (by first | rfl | (simp; done) | (simp [*]; done) | (simp; grind)), (by first | rfl | (simp; done) | (simp [*]; done) | (simp; grind)), H', ⟨by have := HJ3.out; have := HK2.out; omega⟩, ⟨by (with_reducible repeat (first | apply Kd.R_alloc | apply Kd.R_drewN | apply Kd.R_drew)); exact Kd.R_mono HO_3.out (fun _ hk => trivial)⟩, ⟨bel_⟩⟩
        replace c45 := Bool.eq_false_iff.mpr c45
        subst c45
        have H1 : (ropewaylaw21_PastParts.l0 k2 l0 x3_2 x4_2 l0 (l0.length : Int) (wrap64 (x20_2 + 1))) = some r := by rw [if_neg (show ¬ (false = true) by decide)] at H; exact H
        clear H
        have H := H1
        clear H1
        have H' := zM H
        clear H
        have p332 : 0 ≤ (x20_2 : Int) := of_decide_eq_true (by first | (with_reducible assumption) | assumption)
        have q332 : x20_2 < (l0.length : Int) := of_decide_eq_true (by first | (with_reducible assumption) | assumption)
        obtain ⟨ad332, e332, hx332_0, hx332_1, hx332_2, hx332_3, hx332_4, hx332_5, hx332_6, hx332_7, hx332_8, hx332_9, hx332_10, hx332_11, hx332_12, hx332_13, hx332_14⟩ := at_T35 HR0.out x20_2 p332 q332
        cases e332
        replace hx332_0 := (HB.out.cell (World.block_lt_of_cell? w _ hx332_0)).trans hx332_0
        replace hx332_1 := (HB.out.cell (World.block_lt_of_cell? w _ hx332_1)).trans hx332_1
        replace hx332_2 := (HB.out.cell (World.block_lt_of_cell? w _ hx332_2)).trans hx332_2
        replace hx332_3 := (HB.out.cell (World.block_lt_of_cell? w _ hx332_3)).trans hx332_3
        replace hx332_4 := (HB.out.cell (World.block_lt_of_cell? w _ hx332_4)).trans hx332_4
        replace hx332_5 := (HB.out.cell (World.block_lt_of_cell? w _ hx332_5)).trans hx332_5
        replace hx332_6 := (HB.out.cell (World.block_lt_of_cell? w _ hx332_6)).trans hx332_6
        replace hx332_7 := (HB.out.cell (World.block_lt_of_cell? w _ hx332_7)).trans hx332_7
        replace hx332_8 := (HB.out.cell (World.block_lt_of_cell? w _ hx332_8)).trans hx332_8
        replace hx332_9 := (HB.out.cell (World.block_lt_of_cell? w _ hx332_9)).trans hx332_9
        replace hx332_10 := (HB.out.cell (World.block_lt_of_cell? w _ hx332_10)).trans hx332_10
        replace hx332_11 := (HB.out.cell (World.block_lt_of_cell? w _ hx332_11)).trans hx332_11
        replace hx332_12 := (HB.out.cell (World.block_lt_of_cell? w _ hx332_12)).trans hx332_12
        replace hx332_13 := (HB.out.cell (World.block_lt_of_cell? w _ hx332_13)).trans hx332_13
        replace hx332_14 := (HB.out.cell (World.block_lt_of_cell? w _ hx332_14)).trans hx332_14
        replace p332 := eq_true p332
        replace q332 := eq_true q332
        go_wp2_with (first | ((with_reducible refine gld_ (t := 35) ?_); (try (refine gate_guard (by rfl) ?_; dsimp only)); first | refine wl15_ rfl 35 _ rfl rfl Try.underlying35 rfl (by kernel_rfl) ?_ | refine wlr15_ rfl 35 _ rfl rfl Try.underlying35 rfl (by kernel_rfl) ?_) | ((with_reducible refine gst_ (t := 35) ?_); refine ws15_ rfl 35 _ _ rfl rfl rfl (by kernel_rfl) ?_) | ((with_reducible refine gate_dst (N := 6) rfl ?_); refine box_event ?hg (N := 6) ?hd (cs := #[.int .i64 0, .int .i64 0, .int .i64 0, .int .i64 0, .int .i64 0, .float .f64 0, .int .i64 0, .int .i64 0, .int .i64 0, .int .i64 0, .int .i64 0, .int .i64 0, .int .i64 0, .int .i64 0, .float .f64 0]) (t := 35) ?hr ?_; (case hd => rfl); (case hg => rfl); (case hr => first | (go_simp; done) | (go_simp; rfl)); intro gb333 hg w49 hbox hb; replace HO_3 := zM (Kd.R_below (Kd.R_elderB (rl_ HO_3) gb333 (Nat.le_of_eq hg.symm)) hb); have BK333 := zM (hbox); have GW333 := zM (bs_ hg); have GE333 := zM (bs_ hg); replace HB := zM (zB bel_ hb); clear hb hbox hg; obtain ⟨hcz50_0, hcz50_1, hcz50_2, hcz50_3, hcz50_4, hcz50_5, hcz50_6, hcz50_7, hcz50_8, hcz50_9, hcz50_10, hcz50_11, hcz50_12, hcz50_13, hcz50_14⟩ := r15_ BK333.out; obtain ⟨hfz50_0, hfz50_1, hfz50_2, hfz50_3, hfz50_4, hfz50_5, hfz50_6, hfz50_7, hfz50_8, hfz50_9, hfz50_10, hfz50_11, hfz50_12, hfz50_13, hfz50_14⟩ := f15_ BK333.out) | (go_at_call 11; (with_reducible refine (past_Well.calls ((rd_T35 l0 x20_2).f0) ((rd_T35 l0 x20_2).f1) ((rd_T35 l0 x20_2).f2) ((rd_T35 l0 x20_2).f3.f0) ((rd_T35 l0 x20_2).f3.f1) ((rd_T35 l0 x20_2).f3.f2) ((rd_T35 l0 x20_2).f3.f3.f0) ((rd_T35 l0 x20_2).f3.f3.f1) ((rd_T35 l0 x20_2).f4.f0) ((rd_T35 l0 x20_2).f4.f1.f0) ((rd_T35 l0 x20_2).f4.f1.f1) ((rd_T35 l0 x20_2).f4.f2.f0) ((rd_T35 l0 x20_2).f4.f2.f1.f0) ((rd_T35 l0 x20_2).f4.f2.f1.f1) ((rd_T35 l0 x20_2).f4.f2.f2) false _ A44.out).mono ?_); rintro e w51 ⟨rfl, hb⟩; replace HO_3 := zM (Kd.R_below (by (with_reducible repeat (first | apply Kd.R_alloc | apply Kd.R_drewN | apply Kd.R_drew)); exact (Kd.R_mono (Kd.R_far (p := ⟨gb333, 14, none⟩) (Kd.R_far (p := ⟨gb333, 13, none⟩) (Kd.R_far (p := ⟨gb333, 12, none⟩) (Kd.R_far (p := ⟨gb333, 11, none⟩) (Kd.R_far (p := ⟨gb333, 10, none⟩) (Kd.R_far (p := ⟨gb333, 9, none⟩) (Kd.R_far (p := ⟨gb333, 8, none⟩) (Kd.R_far (p := ⟨gb333, 7, none⟩) (Kd.R_far (p := ⟨gb333, 6, none⟩) (Kd.R_far (p := ⟨gb333, 5, none⟩) (Kd.R_far (p := ⟨gb333, 4, none⟩) (Kd.R_far (p := ⟨gb333, 3, none⟩) (Kd.R_far (p := ⟨gb333, 2, none⟩) (Kd.R_far (p := ⟨gb333, 1, none⟩) (Kd.R_far (p := ⟨gb333, 0, none⟩) (Kd.R_mono HO_3.out (fun k_ hk => (⟨hk, hk.2⟩ : _ ∧ k_ ≠ gb333))) (fun _ hk => hk.2) (.int .i64 ((rd_T35 l0 x20_2).f0))) (fun _ hk => hk.2) (.int .i64 ((rd_T35 l0 x20_2).f1))) (fun _ hk => hk.2) (.int .i64 ((rd_T35 l0 x20_2).f2))) (fun _ hk => hk.2) (.int .i64 ((rd_T35 l0 x20_2).f3.f0))) (fun _ hk => hk.2) (.int .i64 ((rd_T35 l0 x20_2).f3.f1))) (fun _ hk => hk.2) (.float .f64 ((rd_T35 l0 x20_2).f3.f2))) (fun _ hk => hk.2) (.int .i64 ((rd_T35 l0 x20_2).f3.f3.f0))) (fun _ hk => hk.2) (.int .i64 ((rd_T35 l0 x20_2).f3.f3.f1))) (fun _ hk => hk.2) (.int .i64 ((rd_T35 l0 x20_2).f4.f0))) (fun _ hk => hk.2) (.int .i64 ((rd_T35 l0 x20_2).f4.f1.f0))) (fun _ hk => hk.2) (.int .i64 ((rd_T35 l0 x20_2).f4.f1.f1))) (fun _ hk => hk.2) (.int .i64 ((rd_T35 l0 x20_2).f4.f2.f0))) (fun _ hk => hk.2) (.int .i64 ((rd_T35 l0 x20_2).f4.f2.f1.f0))) (fun _ hk => hk.2) (.int .i64 ((rd_T35 l0 x20_2).f4.f2.f1.f1))) (fun _ hk => hk.2) (.float .f64 ((rd_T35 l0 x20_2).f4.f2.f2))) (fun _ h_ => h_.1))) hb); replace BK333 := zM (blk_below (g := gb333) (o := .cells (e35_ (rd_T35 l0 x20_2)) 35 (0, 0)) (by (with_reducible repeat (first | refine zN ?_ _ | refine zD ?_ | refine zA ?_ _)); exact fx15_ BK333) hb); replace HB := zM (zB bel_ hb); (try clear hb); (try clear hb2); (try clear hk); (try clear hi)))
        go_roundg k2
        case measure => have := HJ3.out; have := HK2.out; omega
        case rel => exact ⟨(x3_2), (x4_2), (wrap64 (x20_2 + 1)), (by first | rfl | (simp; done) | (simp [*]; done) | (simp; grind)), (by first | rfl | (simp; done) | (simp [*]; done) | (simp; grind)), H', ⟨by have := HJ3.out; have := HK2.out; omega⟩, ⟨by (with_reducible repeat (first | apply Kd.R_alloc | apply Kd.R_drewN | apply Kd.R_drew)); exact Kd.R_mono HO_3.out (fun _ hk => trivial)⟩, ⟨bel_⟩⟩
      rw [if_pos c15] at H
      have c15b0 : (((rd_T35 l0 x20_2).f3.f0) == 1) = true := beq_iff_eq.mpr c15
      have c15b1 : (((rd_T35 l0 x20_2).f3.f0) != 1) = false := bne_eq_false_iff_eq.mpr c15
      clear c15
      obtain ⟨y334, hy334⟩ : ∃ y_ : List (S35), y_ = (([(⟨(rd_T35 l0 x20_2).f0, (rd_T35 l0 x20_2).f1, (rd_T35 l0 x20_2).f2, (⟨(rd_T35 l0 x20_2).f3.f0, (rd_T35 l0 x20_2).f3.f1, (rd_T35 l0 x20_2).f3.f2, (⟨(rd_T35 l0 x20_2).f3.f3.f0, (rd_T35 l0 x20_2).f3.f3.f1⟩ : S24)⟩ : S26), (⟨(rd_T35 l0 x20_2).f4.f0, (⟨(rd_T35 l0 x20_2).f4.f1.f0, (rd_T35 l0 x20_2).f4.f1.f1⟩ : S24), (⟨(rd_T35 l0 x20_2).f4.f2.f0, (⟨(rd_T35 l0 x20_2).f4.f2.f1.f0, (rd_T35 l0 x20_2).f4.f2.f1.f1⟩ : S29), (rd_T35 l0 x20_2).f4.f2.f2⟩ : S31)⟩ : S33)⟩ : S35)] : List (S35))) := ⟨_, rfl⟩
      replace H : (if x3_2.length + y334.length < 1172812402961 then ((some (x3_2 ++ y334 : List (S35))).bind fun y337 => (if ((rd_T35 l0 x20_2).f3.f0) = 0 then ((past_Well.f ((rd_T35 l0 x20_2).f0) ((rd_T35 l0 x20_2).f1) ((rd_T35 l0 x20_2).f2) ((rd_T35 l0 x20_2).f3.f0) ((rd_T35 l0 x20_2).f3.f1) ((rd_T35 l0 x20_2).f3.f2) ((rd_T35 l0 x20_2).f3.f3.f0) ((rd_T35 l0 x20_2).f3.f3.f1) ((rd_T35 l0 x20_2).f4.f0) ((rd_T35 l0 x20_2).f4.f1.f0) ((rd_T35 l0 x20_2).f4.f1.f1) ((rd_T35 l0 x20_2).f4.f2.f0) ((rd_T35 l0 x20_2).f4.f2.f1.f0) ((rd_T35 l0 x20_2).f4.f2.f1.f1) ((rd_T35 l0 x20_2).f4.f2.f2)).bind fun t340 => (if t340 = true then (ropewaylaw21_PastParts.l0 k2 l0 y337 x20_2 l0 (l0.length : Int) (wrap64 (x20_2 + 1))) else (ropewaylaw21_PastParts.l0 k2 l0 y337 x4_2 l0 (l0.length : Int) (wrap64 (x20_2 + 1))))) else (ropewaylaw21_PastParts.l0 k2 l0 y337 x4_2 l0 (l0.length : Int) (wrap64 (x20_2 + 1))))) else (none)) = some r := by first | (rw [hy334]; with_reducible exact H) | (have H2_ := (Option.bind_some _ _).symm.trans H; rw [hy334]; with_reducible exact H2_) | (have H2_ := (Option.bind_some _ _).symm.trans H; with_reducible exact H2_) | with_reducible exact H | (rw [hy334]; exact H) | exact H
      have Ny334 := zM hy334
      clear hy334
      by_cases c16 : x3_2.length + y334.length < 1172812402961
      rotate_left
      · rw [if_neg c16] at H
        exact absurd H (by simp)
      rw [if_pos c16] at H
      have LMc16 := zM c16
      clear c16
      obtain ⟨y337, hy337⟩ : ∃ y_ : List (S35), y_ = (x3_2 ++ y334) := ⟨_, rfl⟩
      replace H : (if ((rd_T35 l0 x20_2).f3.f0) = 0 then ((past_Well.f ((rd_T35 l0 x20_2).f0) ((rd_T35 l0 x20_2).f1) ((rd_T35 l0 x20_2).f2) ((rd_T35 l0 x20_2).f3.f0) ((rd_T35 l0 x20_2).f3.f1) ((rd_T35 l0 x20_2).f3.f2) ((rd_T35 l0 x20_2).f3.f3.f0) ((rd_T35 l0 x20_2).f3.f3.f1) ((rd_T35 l0 x20_2).f4.f0) ((rd_T35 l0 x20_2).f4.f1.f0) ((rd_T35 l0 x20_2).f4.f1.f1) ((rd_T35 l0 x20_2).f4.f2.f0) ((rd_T35 l0 x20_2).f4.f2.f1.f0) ((rd_T35 l0 x20_2).f4.f2.f1.f1) ((rd_T35 l0 x20_2).f4.f2.f2)).bind fun t340 => (if t340 = true then (ropewaylaw21_PastParts.l0 k2 l0 y337 x20_2 l0 (l0.length : Int) (wrap64 (x20_2 + 1))) else (ropewaylaw21_PastParts.l0 k2 l0 y337 x4_2 l0 (l0.length : Int) (wrap64 (x20_2 + 1))))) else (ropewaylaw21_PastParts.l0 k2 l0 y337 x4_2 l0 (l0.length : Int) (wrap64 (x20_2 + 1)))) = some r := by first | (rw [hy337]; with_reducible exact H) | (have H2_ := (Option.bind_some _ _).symm.trans H; rw [hy337]; with_reducible exact H2_) | (have H2_ := (Option.bind_some _ _).symm.trans H; with_reducible exact H2_) | with_reducible exact H | (rw [hy337]; exact H) | exact H
      have Ny337 := zM hy337
      clear hy337
      by_cases c17 : ((rd_T35 l0 x20_2).f3.f0) = 0
      rotate_left
      · rw [if_neg c17] at H
        have c17b0 : (((rd_T35 l0 x20_2).f3.f0) == 0) = false := beq_eq_false_iff_ne.mpr c17
        have c17b1 : (((rd_T35 l0 x20_2).f3.f0) != 0) = true := bne_iff_ne.mpr c17
        have H' := zM H
        clear H
        have p332 : 0 ≤ (x20_2 : Int) := of_decide_eq_true (by first | (with_reducible assumption) | assumption)
        have q332 : x20_2 < (l0.length : Int) := of_decide_eq_true (by first | (with_reducible assumption) | assumption)
        obtain ⟨ad332, e332, hx332_0, hx332_1, hx332_2, hx332_3, hx332_4, hx332_5, hx332_6, hx332_7, hx332_8, hx332_9, hx332_10, hx332_11, hx332_12, hx332_13, hx332_14⟩ := at_T35 HR0.out x20_2 p332 q332
        cases e332
        replace hx332_0 := (HB.out.cell (World.block_lt_of_cell? w _ hx332_0)).trans hx332_0
        replace hx332_1 := (HB.out.cell (World.block_lt_of_cell? w _ hx332_1)).trans hx332_1
        replace hx332_2 := (HB.out.cell (World.block_lt_of_cell? w _ hx332_2)).trans hx332_2
        replace hx332_3 := (HB.out.cell (World.block_lt_of_cell? w _ hx332_3)).trans hx332_3
        replace hx332_4 := (HB.out.cell (World.block_lt_of_cell? w _ hx332_4)).trans hx332_4
        replace hx332_5 := (HB.out.cell (World.block_lt_of_cell? w _ hx332_5)).trans hx332_5
        replace hx332_6 := (HB.out.cell (World.block_lt_of_cell? w _ hx332_6)).trans hx332_6
        replace hx332_7 := (HB.out.cell (World.block_lt_of_cell? w _ hx332_7)).trans hx332_7
        replace hx332_8 := (HB.out.cell (World.block_lt_of_cell? w _ hx332_8)).trans hx332_8
        replace hx332_9 := (HB.out.cell (World.block_lt_of_cell? w _ hx332_9)).trans hx332_9
        replace hx332_10 := (HB.out.cell (World.block_lt_of_cell? w _ hx332_10)).trans hx332_10
        replace hx332_11 := (HB.out.cell (World.block_lt_of_cell? w _ hx332_11)).trans hx332_11
        replace hx332_12 := (HB.out.cell (World.block_lt_of_cell? w _ hx332_12)).trans hx332_12
        replace hx332_13 := (HB.out.cell (World.block_lt_of_cell? w _ hx332_13)).trans hx332_13
        replace hx332_14 := (HB.out.cell (World.block_lt_of_cell? w _ hx332_14)).trans hx332_14
        replace p332 := eq_true p332
        replace q332 := eq_true q332
        go_wp2_with (first | ((with_reducible refine gld_ (t := 35) ?_); (try (refine gate_guard (by rfl) ?_; dsimp only)); first | refine wl15_ rfl 35 _ rfl rfl Try.underlying35 rfl (by kernel_rfl) ?_ | refine wlr15_ rfl 35 _ rfl rfl Try.underlying35 rfl (by kernel_rfl) ?_) | ((with_reducible refine gst_ (t := 35) ?_); refine ws15_ rfl 35 _ _ rfl rfl rfl (by kernel_rfl) ?_) | ((with_reducible refine gate_dst (N := 6) rfl ?_); refine box_event ?hg (N := 6) ?hd (cs := #[.int .i64 0, .int .i64 0, .int .i64 0, .int .i64 0, .int .i64 0, .float .f64 0, .int .i64 0, .int .i64 0, .int .i64 0, .int .i64 0, .int .i64 0, .int .i64 0, .int .i64 0, .int .i64 0, .float .f64 0]) (t := 35) ?hr ?_; (case hd => rfl); (case hg => rfl); (case hr => first | (go_simp; done) | (go_simp; rfl)); intro gb333 hg w36 hbox hb; replace HO_3 := zM (Kd.R_below (Kd.R_elderB (rl_ HO_3) gb333 (Nat.le_of_eq hg.symm)) hb); have BK333 := zM (hbox); have GW333 := zM (bs_ hg); have GE333 := zM (bs_ hg); replace HB := zM (zB bel_ hb); clear hb hbox hg; obtain ⟨hcz37_0, hcz37_1, hcz37_2, hcz37_3, hcz37_4, hcz37_5, hcz37_6, hcz37_7, hcz37_8, hcz37_9, hcz37_10, hcz37_11, hcz37_12, hcz37_13, hcz37_14⟩ := r15_ BK333.out; obtain ⟨hfz37_0, hfz37_1, hfz37_2, hfz37_3, hfz37_4, hfz37_5, hfz37_6, hfz37_7, hfz37_8, hfz37_9, hfz37_10, hfz37_11, hfz37_12, hfz37_13, hfz37_14⟩ := f15_ BK333.out) | ((with_reducible refine gate_dst (N := 31) rfl ?_); refine Kd.R_lit k35 _ 35 ?hg (N := 31) ?hd (xs := ([(⟨(rd_T35 l0 x20_2).f0, (rd_T35 l0 x20_2).f1, (rd_T35 l0 x20_2).f2, (⟨(rd_T35 l0 x20_2).f3.f0, (rd_T35 l0 x20_2).f3.f1, (rd_T35 l0 x20_2).f3.f2, (⟨(rd_T35 l0 x20_2).f3.f3.f0, (rd_T35 l0 x20_2).f3.f3.f1⟩ : S24)⟩ : S26), (⟨(rd_T35 l0 x20_2).f4.f0, (⟨(rd_T35 l0 x20_2).f4.f1.f0, (rd_T35 l0 x20_2).f4.f1.f1⟩ : S24), (⟨(rd_T35 l0 x20_2).f4.f2.f0, (⟨(rd_T35 l0 x20_2).f4.f2.f1.f0, (rd_T35 l0 x20_2).f4.f2.f1.f1⟩ : S29), (rd_T35 l0 x20_2).f4.f2.f2⟩ : S31)⟩ : S33)⟩ : S35)] : List (S35))) (inner := [.int .i64 ((rd_T35 l0 x20_2).f0), .int .i64 ((rd_T35 l0 x20_2).f1), .int .i64 ((rd_T35 l0 x20_2).f2), .int .i64 ((rd_T35 l0 x20_2).f3.f0), .int .i64 ((rd_T35 l0 x20_2).f3.f1), .float .f64 ((rd_T35 l0 x20_2).f3.f2), .int .i64 ((rd_T35 l0 x20_2).f3.f3.f0), .int .i64 ((rd_T35 l0 x20_2).f3.f3.f1), .int .i64 ((rd_T35 l0 x20_2).f4.f0), .int .i64 ((rd_T35 l0 x20_2).f4.f1.f0), .int .i64 ((rd_T35 l0 x20_2).f4.f1.f1), .int .i64 ((rd_T35 l0 x20_2).f4.f2.f0), .int .i64 ((rd_T35 l0 x20_2).f4.f2.f1.f0), .int .i64 ((rd_T35 l0 x20_2).f4.f2.f1.f1), .float .f64 ((rd_T35 l0 x20_2).f4.f2.f2)]) (ok := fun _ => True) (okp := fun _ => True) ?hr ?hp (fun _ hk => hk) trivial (Below.refl _ _) (Nat.le_refl _) (by simp) ?_; (case hd => rfl); (case hg => rfl); (case hr => first | (go_simp; done) | (go_simp; rfl)); (case hp => exact (Reps.front (show Kd.M k35 _ _ _ (⟨(rd_T35 l0 x20_2).f0, (rd_T35 l0 x20_2).f1, (rd_T35 l0 x20_2).f2, (⟨(rd_T35 l0 x20_2).f3.f0, (rd_T35 l0 x20_2).f3.f1, (rd_T35 l0 x20_2).f3.f2, (⟨(rd_T35 l0 x20_2).f3.f3.f0, (rd_T35 l0 x20_2).f3.f3.f1⟩ : S24)⟩ : S26), (⟨(rd_T35 l0 x20_2).f4.f0, (⟨(rd_T35 l0 x20_2).f4.f1.f0, (rd_T35 l0 x20_2).f4.f1.f1⟩ : S24), (⟨(rd_T35 l0 x20_2).f4.f2.f0, (⟨(rd_T35 l0 x20_2).f4.f2.f1.f0, (rd_T35 l0 x20_2).f4.f2.f1.f1⟩ : S29), (rd_T35 l0 x20_2).f4.f2.f2⟩ : S31)⟩ : S33)⟩ : S35) [.int .i64 ((rd_T35 l0 x20_2).f0), .int .i64 ((rd_T35 l0 x20_2).f1), .int .i64 ((rd_T35 l0 x20_2).f2), .int .i64 ((rd_T35 l0 x20_2).f3.f0), .int .i64 ((rd_T35 l0 x20_2).f3.f1), .float .f64 ((rd_T35 l0 x20_2).f3.f2), .int .i64 ((rd_T35 l0 x20_2).f3.f3.f0), .int .i64 ((rd_T35 l0 x20_2).f3.f3.f1), .int .i64 ((rd_T35 l0 x20_2).f4.f0), .int .i64 ((rd_T35 l0 x20_2).f4.f1.f0), .int .i64 ((rd_T35 l0 x20_2).f4.f1.f1), .int .i64 ((rd_T35 l0 x20_2).f4.f2.f0), .int .i64 ((rd_T35 l0 x20_2).f4.f2.f1.f0), .int .i64 ((rd_T35 l0 x20_2).f4.f2.f1.f1), .float .f64 ((rd_T35 l0 x20_2).f4.f2.f2)] from (k35_mkM _ _ _ (⟨(rd_T35 l0 x20_2).f0, (rd_T35 l0 x20_2).f1, (rd_T35 l0 x20_2).f2, (⟨(rd_T35 l0 x20_2).f3.f0, (rd_T35 l0 x20_2).f3.f1, (rd_T35 l0 x20_2).f3.f2, (⟨(rd_T35 l0 x20_2).f3.f3.f0, (rd_T35 l0 x20_2).f3.f3.f1⟩ : S24)⟩ : S26), (⟨(rd_T35 l0 x20_2).f4.f0, (⟨(rd_T35 l0 x20_2).f4.f1.f0, (rd_T35 l0 x20_2).f4.f1.f1⟩ : S24), (⟨(rd_T35 l0 x20_2).f4.f2.f0, (⟨(rd_T35 l0 x20_2).f4.f2.f1.f0, (rd_T35 l0 x20_2).f4.f2.f1.f1⟩ : S29), (rd_T35 l0 x20_2).f4.f2.f2⟩ : S31)⟩ : S33)⟩ : S35) )) rfl (Reps.none _ _) rfl)); intro v335 w38 ho39 hb hg_ hnew_; clear hg_ hnew_; (first | rw [← Ny334.out] at ho39 | (simp only [Int.reduceToNat] at ho39; rw [← Ny334.out] at ho39)); have HO336 := zM (Kd.R_lower (Kd.R_newB (Kd.R_new' ho39 (Kd.R_lt (by (with_reducible repeat (first | apply Kd.R_alloc | apply Kd.R_drewN | apply Kd.R_drew)); exact (Kd.R_mono (Kd.R_far (p := ⟨gb333, 14, none⟩) (Kd.R_far (p := ⟨gb333, 13, none⟩) (Kd.R_far (p := ⟨gb333, 12, none⟩) (Kd.R_far (p := ⟨gb333, 11, none⟩) (Kd.R_far (p := ⟨gb333, 10, none⟩) (Kd.R_far (p := ⟨gb333, 9, none⟩) (Kd.R_far (p := ⟨gb333, 8, none⟩) (Kd.R_far (p := ⟨gb333, 7, none⟩) (Kd.R_far (p := ⟨gb333, 6, none⟩) (Kd.R_far (p := ⟨gb333, 5, none⟩) (Kd.R_far (p := ⟨gb333, 4, none⟩) (Kd.R_far (p := ⟨gb333, 3, none⟩) (Kd.R_far (p := ⟨gb333, 2, none⟩) (Kd.R_far (p := ⟨gb333, 1, none⟩) (Kd.R_far (p := ⟨gb333, 0, none⟩) (Kd.R_mono HO_3.out (fun k_ hk => (⟨hk, hk.2⟩ : _ ∧ k_ ≠ gb333))) (fun _ hk => hk.2) (.int .i64 ((rd_T35 l0 x20_2).f0))) (fun _ hk => hk.2) (.int .i64 ((rd_T35 l0 x20_2).f1))) (fun _ hk => hk.2) (.int .i64 ((rd_T35 l0 x20_2).f2))) (fun _ hk => hk.2) (.int .i64 ((rd_T35 l0 x20_2).f3.f0))) (fun _ hk => hk.2) (.int .i64 ((rd_T35 l0 x20_2).f3.f1))) (fun _ hk => hk.2) (.float .f64 ((rd_T35 l0 x20_2).f3.f2))) (fun _ hk => hk.2) (.int .i64 ((rd_T35 l0 x20_2).f3.f3.f0))) (fun _ hk => hk.2) (.int .i64 ((rd_T35 l0 x20_2).f3.f3.f1))) (fun _ hk => hk.2) (.int .i64 ((rd_T35 l0 x20_2).f4.f0))) (fun _ hk => hk.2) (.int .i64 ((rd_T35 l0 x20_2).f4.f1.f0))) (fun _ hk => hk.2) (.int .i64 ((rd_T35 l0 x20_2).f4.f1.f1))) (fun _ hk => hk.2) (.int .i64 ((rd_T35 l0 x20_2).f4.f2.f0))) (fun _ hk => hk.2) (.int .i64 ((rd_T35 l0 x20_2).f4.f2.f1.f0))) (fun _ hk => hk.2) (.int .i64 ((rd_T35 l0 x20_2).f4.f2.f1.f1))) (fun _ hk => hk.2) (.float .f64 ((rd_T35 l0 x20_2).f4.f2.f2))) (fun _ h_ => h_.1))))) (g := gb333) (o := .cells (e35_ (rd_T35 l0 x20_2)) 35 (0, 0)) (by (with_reducible repeat (first | refine zN ?_ _ | refine zD ?_ | refine zA ?_ _)); exact fx15_ BK333)) (below_size bel_)); replace HO_3 := zM (Kd.R_elder' (by (with_reducible repeat (first | apply Kd.R_alloc | apply Kd.R_drewN | apply Kd.R_drew)); exact (Kd.R_mono (Kd.R_far (p := ⟨gb333, 14, none⟩) (Kd.R_far (p := ⟨gb333, 13, none⟩) (Kd.R_far (p := ⟨gb333, 12, none⟩) (Kd.R_far (p := ⟨gb333, 11, none⟩) (Kd.R_far (p := ⟨gb333, 10, none⟩) (Kd.R_far (p := ⟨gb333, 9, none⟩) (Kd.R_far (p := ⟨gb333, 8, none⟩) (Kd.R_far (p := ⟨gb333, 7, none⟩) (Kd.R_far (p := ⟨gb333, 6, none⟩) (Kd.R_far (p := ⟨gb333, 5, none⟩) (Kd.R_far (p := ⟨gb333, 4, none⟩) (Kd.R_far (p := ⟨gb333, 3, none⟩) (Kd.R_far (p := ⟨gb333, 2, none⟩) (Kd.R_far (p := ⟨gb333, 1, none⟩) (Kd.R_far (p := ⟨gb333, 0, none⟩) (Kd.R_mono HO_3.out (fun k_ hk => (⟨hk, hk.2⟩ : _ ∧ k_ ≠ gb333))) (fun _ hk => hk.2) (.int .i64 ((rd_T35 l0 x20_2).f0))) (fun _ hk => hk.2) (.int .i64 ((rd_T35 l0 x20_2).f1))) (fun _ hk => hk.2) (.int .i64 ((rd_T35 l0 x20_2).f2))) (fun _ hk => hk.2) (.int .i64 ((rd_T35 l0 x20_2).f3.f0))) (fun _ hk => hk.2) (.int .i64 ((rd_T35 l0 x20_2).f3.f1))) (fun _ hk => hk.2) (.float .f64 ((rd_T35 l0 x20_2).f3.f2))) (fun _ hk => hk.2) (.int .i64 ((rd_T35 l0 x20_2).f3.f3.f0))) (fun _ hk => hk.2) (.int .i64 ((rd_T35 l0 x20_2).f3.f3.f1))) (fun _ hk => hk.2) (.int .i64 ((rd_T35 l0 x20_2).f4.f0))) (fun _ hk => hk.2) (.int .i64 ((rd_T35 l0 x20_2).f4.f1.f0))) (fun _ hk => hk.2) (.int .i64 ((rd_T35 l0 x20_2).f4.f1.f1))) (fun _ hk => hk.2) (.int .i64 ((rd_T35 l0 x20_2).f4.f2.f0))) (fun _ hk => hk.2) (.int .i64 ((rd_T35 l0 x20_2).f4.f2.f1.f0))) (fun _ hk => hk.2) (.int .i64 ((rd_T35 l0 x20_2).f4.f2.f1.f1))) (fun _ hk => hk.2) (.float .f64 ((rd_T35 l0 x20_2).f4.f2.f2))) (fun _ h_ => h_.1))) (Kd.R_base ho39) hb); replace BK333 := zM (blk_below (g := gb333) (o := .cells (e35_ (rd_T35 l0 x20_2)) 35 (0, 0)) (by (with_reducible repeat (first | refine zN ?_ _ | refine zD ?_ | refine zA ?_ _)); exact fx15_ BK333) hb); replace HB := zM (zB bel_ hb); clear hb ho39; obtain ⟨Ao41, co41, eo41⟩ := Kd.R_slice HO336.out; subst eo41) | ((with_reducible refine gate_builtin (b := .append) (xs := #[.tmp 29, .tmp 31]) rfl ?_); at_builtin; refine Kd.R_append_rows k35 (w0 := w) w.heap.size rfl (.tmp 29) (.tmp 31) 42 35 (.agg #[(.int .i64 0), (.int .i64 0), (.int .i64 0), (.int .i64 0), (.int .i64 0), (.float .f64 0), (.int .i64 0), (.int .i64 0), (.int .i64 0), (.int .i64 0), (.int .i64 0), (.int .i64 0), (.int .i64 0), (.int .i64 0), (.float .f64 0)]) 120 rfl Try.underlying42 info35 rfl (by decide) (by omega) u3 x3_2 y334 _ _ _ (fun k_ => some k_ ≠ (.slice Ao41 y334.length co41 : Value).ownBlock ∧ k_ ≠ gb333) (fun _ => False) rfl rfl ?aO ?aR (fun _ _ h => h) (fun _ h => h.elim) ?aF ?aB ?aS ?aL ?_; (case aR => repeat (first | exact (Kd.R_reads' HO336.out).2.2 | (with_reducible refine Kd.C_alloc ?_ _) | (with_reducible refine Kd.C_drewN ?_ _) | (with_reducible refine Kd.C_drew ?_))); (case aB => exact bel_); (case aF => exact (fun k_ hk => ⟨Kd.fresh' (Kd.R_lt (rl_ HO336)) k_ hk, Kd.freshB (g := gb333) (o := .cells (e35_ (rd_T35 l0 x20_2)) 35 (0, 0)) blk_ k_ hk⟩)); (case aO => exact (by (with_reducible repeat (first | apply Kd.R_alloc | apply Kd.R_drewN | apply Kd.R_drew)); exact Kd.R_mono HO_3.out (fun _ hk => ⟨hk.2, hk.1.2⟩))); (case aS => exact (below_size bel_)); (case aL => have := LMc16.out; omega); intro v338 w40 ho hb hg hat; rw [← Ny337.out] at ho; replace BK333 := zM (blk_grown (g := gb333) (o := .cells (e35_ (rd_T35 l0 x20_2)) 35 (0, 0)) blk_ hg (Kd.R_away HO_3.out (fun _ hk => hk.1.2))); replace HO336 := zM (Kd.R_after (ok := (fun k_ => k_ ≠ gb333)) (by (with_reducible repeat (first | apply Kd.R_alloc | apply Kd.R_drewN | apply Kd.R_drew)); exact Kd.R_mono HO336.out (fun _ hk => ⟨hk.2, hk.1.2⟩)) hg hat); replace HB := zM (hb); have HO339 := zM (ho); clear HO_3; clear ho hb hg hat; obtain ⟨hcz42_0, hcz42_1, hcz42_2, hcz42_3, hcz42_4, hcz42_5, hcz42_6, hcz42_7, hcz42_8, hcz42_9, hcz42_10, hcz42_11, hcz42_12, hcz42_13, hcz42_14⟩ := r15_ BK333.out; obtain ⟨hfz42_0, hfz42_1, hfz42_2, hfz42_3, hfz42_4, hfz42_5, hfz42_6, hfz42_7, hfz42_8, hfz42_9, hfz42_10, hfz42_11, hfz42_12, hfz42_13, hfz42_14⟩ := f15_ BK333.out))
        go_roundg k2
        case measure => have := HJ3.out; have := HK2.out; omega
        case rel => exact ⟨(y337), (x4_2), (wrap64 (x20_2 + 1)), (by first | rfl | (simp; done) | (simp [*]; done) | (simp; grind)), (by first | rfl | (simp; done) | (simp [*]; done) | (simp; grind)), H', ⟨by have := HJ3.out; have := HK2.out; omega⟩, ⟨by (with_reducible repeat (first | apply Kd.R_alloc | apply Kd.R_drewN | apply Kd.R_drew)); exact Kd.R_mono HO339.out (fun _ hk => trivial)⟩, ⟨bel_⟩⟩
      rw [if_pos c17] at H
      have c17b0 : (((rd_T35 l0 x20_2).f3.f0) == 0) = true := beq_iff_eq.mpr c17
      have c17b1 : (((rd_T35 l0 x20_2).f3.f0) != 0) = false := bne_eq_false_iff_eq.mpr c17
      clear c17
      replace H := Option.bind_eq_some_iff.mp H
      obtain ⟨t340, A180, H⟩ := H
      replace H : (if t340 = true then (ropewaylaw21_PastParts.l0 k2 l0 y337 x20_2 l0 (l0.length : Int) (wrap64 (x20_2 + 1))) else (ropewaylaw21_PastParts.l0 k2 l0 y337 x4_2 l0 (l0.length : Int) (wrap64 (x20_2 + 1)))) = some r := H
      have A18 := zM A180
      clear A180
      by_cases c19 : t340 = true
      · subst c19
        have H1 : (ropewaylaw21_PastParts.l0 k2 l0 y337 x20_2 l0 (l0.length : Int) (wrap64 (x20_2 + 1))) = some r := by rw [if_pos rfl] at H; exact H
        clear H
        have H := H1
        clear H1
        have H' := zM H
        clear H
        have p332 : 0 ≤ (x20_2 : Int) := of_decide_eq_true (by first | (with_reducible assumption) | assumption)
        have q332 : x20_2 < (l0.length : Int) := of_decide_eq_true (by first | (with_reducible assumption) | assumption)
        obtain ⟨ad332, e332, hx332_0, hx332_1, hx332_2, hx332_3, hx332_4, hx332_5, hx332_6, hx332_7, hx332_8, hx332_9, hx332_10, hx332_11, hx332_12, hx332_13, hx332_14⟩ := at_T35 HR0.out x20_2 p332 q332
        cases e332
        replace hx332_0 := (HB.out.cell (World.block_lt_of_cell? w _ hx332_0)).trans hx332_0
        replace hx332_1 := (HB.out.cell (World.block_lt_of_cell? w _ hx332_1)).trans hx332_1
        replace hx332_2 := (HB.out.cell (World.block_lt_of_cell? w _ hx332_2)).trans hx332_2
        replace hx332_3 := (HB.out.cell (World.block_lt_of_cell? w _ hx332_3)).trans hx332_3
        replace hx332_4 := (HB.out.cell (World.block_lt_of_cell? w _ hx332_4)).trans hx332_4
        replace hx332_5 := (HB.out.cell (World.block_lt_of_cell? w _ hx332_5)).trans hx332_5
        replace hx332_6 := (HB.out.cell (World.block_lt_of_cell? w _ hx332_6)).trans hx332_6
        replace hx332_7 := (HB.out.cell (World.block_lt_of_cell? w _ hx332_7)).trans hx332_7
        replace hx332_8 := (HB.out.cell (World.block_lt_of_cell? w _ hx332_8)).trans hx332_8
        replace hx332_9 := (HB.out.cell (World.block_lt_of_cell? w _ hx332_9)).trans hx332_9
        replace hx332_10 := (HB.out.cell (World.block_lt_of_cell? w _ hx332_10)).trans hx332_10
        replace hx332_11 := (HB.out.cell (World.block_lt_of_cell? w _ hx332_11)).trans hx332_11
        replace hx332_12 := (HB.out.cell (World.block_lt_of_cell? w _ hx332_12)).trans hx332_12
        replace hx332_13 := (HB.out.cell (World.block_lt_of_cell? w _ hx332_13)).trans hx332_13
        replace hx332_14 := (HB.out.cell (World.block_lt_of_cell? w _ hx332_14)).trans hx332_14
        replace p332 := eq_true p332
        replace q332 := eq_true q332
        go_wp2_with (first | ((with_reducible refine gld_ (t := 35) ?_); (try (refine gate_guard (by rfl) ?_; dsimp only)); first | refine wl15_ rfl 35 _ rfl rfl Try.underlying35 rfl (by kernel_rfl) ?_ | refine wlr15_ rfl 35 _ rfl rfl Try.underlying35 rfl (by kernel_rfl) ?_) | ((with_reducible refine gst_ (t := 35) ?_); refine ws15_ rfl 35 _ _ rfl rfl rfl (by kernel_rfl) ?_) | ((with_reducible refine gate_dst (N := 6) rfl ?_); refine box_event ?hg (N := 6) ?hd (cs := #[.int .i64 0, .int .i64 0, .int .i64 0, .int .i64 0, .int .i64 0, .float .f64 0, .int .i64 0, .int .i64 0, .int .i64 0, .int .i64 0, .int .i64 0, .int .i64 0, .int .i64 0, .int .i64 0, .float .f64 0]) (t := 35) ?hr ?_; (case hd => rfl); (case hg => rfl); (case hr => first | (go_simp; done) | (go_simp; rfl)); intro gb333 hg w20 hbox hb; replace HO_3 := zM (Kd.R_below (Kd.R_elderB (rl_ HO_3) gb333 (Nat.le_of_eq hg.symm)) hb); have BK333 := zM (hbox); have GW333 := zM (bs_ hg); have GE333 := zM (bs_ hg); replace HB := zM (zB bel_ hb); clear hb hbox hg; obtain ⟨hcz21_0, hcz21_1, hcz21_2, hcz21_3, hcz21_4, hcz21_5, hcz21_6, hcz21_7, hcz21_8, hcz21_9, hcz21_10, hcz21_11, hcz21_12, hcz21_13, hcz21_14⟩ := r15_ BK333.out; obtain ⟨hfz21_0, hfz21_1, hfz21_2, hfz21_3, hfz21_4, hfz21_5, hfz21_6, hfz21_7, hfz21_8, hfz21_9, hfz21_10, hfz21_11, hfz21_12, hfz21_13, hfz21_14⟩ := f15_ BK333.out) | ((with_reducible refine gate_dst (N := 31) rfl ?_); refine Kd.R_lit k35 _ 35 ?hg (N := 31) ?hd (xs := ([(⟨(rd_T35 l0 x20_2).f0, (rd_T35 l0 x20_2).f1, (rd_T35 l0 x20_2).f2, (⟨(rd_T35 l0 x20_2).f3.f0, (rd_T35 l0 x20_2).f3.f1, (rd_T35 l0 x20_2).f3.f2, (⟨(rd_T35 l0 x20_2).f3.f3.f0, (rd_T35 l0 x20_2).f3.f3.f1⟩ : S24)⟩ : S26), (⟨(rd_T35 l0 x20_2).f4.f0, (⟨(rd_T35 l0 x20_2).f4.f1.f0, (rd_T35 l0 x20_2).f4.f1.f1⟩ : S24), (⟨(rd_T35 l0 x20_2).f4.f2.f0, (⟨(rd_T35 l0 x20_2).f4.f2.f1.f0, (rd_T35 l0 x20_2).f4.f2.f1.f1⟩ : S29), (rd_T35 l0 x20_2).f4.f2.f2⟩ : S31)⟩ : S33)⟩ : S35)] : List (S35))) (inner := [.int .i64 ((rd_T35 l0 x20_2).f0), .int .i64 ((rd_T35 l0 x20_2).f1), .int .i64 ((rd_T35 l0 x20_2).f2), .int .i64 ((rd_T35 l0 x20_2).f3.f0), .int .i64 ((rd_T35 l0 x20_2).f3.f1), .float .f64 ((rd_T35 l0 x20_2).f3.f2), .int .i64 ((rd_T35 l0 x20_2).f3.f3.f0), .int .i64 ((rd_T35 l0 x20_2).f3.f3.f1), .int .i64 ((rd_T35 l0 x20_2).f4.f0), .int .i64 ((rd_T35 l0 x20_2).f4.f1.f0), .int .i64 ((rd_T35 l0 x20_2).f4.f1.f1), .int .i64 ((rd_T35 l0 x20_2).f4.f2.f0), .int .i64 ((rd_T35 l0 x20_2).f4.f2.f1.f0), .int .i64 ((rd_T35 l0 x20_2).f4.f2.f1.f1), .float .f64 ((rd_T35 l0 x20_2).f4.f2.f2)]) (ok := fun _ => True) (okp := fun _ => True) ?hr ?hp (fun _ hk => hk) trivial (Below.refl _ _) (Nat.le_refl _) (by simp) ?_; (case hd => rfl); (case hg => rfl); (case hr => first | (go_simp; done) | (go_simp; rfl)); (case hp => exact (Reps.front (show Kd.M k35 _ _ _ (⟨(rd_T35 l0 x20_2).f0, (rd_T35 l0 x20_2).f1, (rd_T35 l0 x20_2).f2, (⟨(rd_T35 l0 x20_2).f3.f0, (rd_T35 l0 x20_2).f3.f1, (rd_T35 l0 x20_2).f3.f2, (⟨(rd_T35 l0 x20_2).f3.f3.f0, (rd_T35 l0 x20_2).f3.f3.f1⟩ : S24)⟩ : S26), (⟨(rd_T35 l0 x20_2).f4.f0, (⟨(rd_T35 l0 x20_2).f4.f1.f0, (rd_T35 l0 x20_2).f4.f1.f1⟩ : S24), (⟨(rd_T35 l0 x20_2).f4.f2.f0, (⟨(rd_T35 l0 x20_2).f4.f2.f1.f0, (rd_T35 l0 x20_2).f4.f2.f1.f1⟩ : S29), (rd_T35 l0 x20_2).f4.f2.f2⟩ : S31)⟩ : S33)⟩ : S35) [.int .i64 ((rd_T35 l0 x20_2).f0), .int .i64 ((rd_T35 l0 x20_2).f1), .int .i64 ((rd_T35 l0 x20_2).f2), .int .i64 ((rd_T35 l0 x20_2).f3.f0), .int .i64 ((rd_T35 l0 x20_2).f3.f1), .float .f64 ((rd_T35 l0 x20_2).f3.f2), .int .i64 ((rd_T35 l0 x20_2).f3.f3.f0), .int .i64 ((rd_T35 l0 x20_2).f3.f3.f1), .int .i64 ((rd_T35 l0 x20_2).f4.f0), .int .i64 ((rd_T35 l0 x20_2).f4.f1.f0), .int .i64 ((rd_T35 l0 x20_2).f4.f1.f1), .int .i64 ((rd_T35 l0 x20_2).f4.f2.f0), .int .i64 ((rd_T35 l0 x20_2).f4.f2.f1.f0), .int .i64 ((rd_T35 l0 x20_2).f4.f2.f1.f1), .float .f64 ((rd_T35 l0 x20_2).f4.f2.f2)] from (k35_mkM _ _ _ (⟨(rd_T35 l0 x20_2).f0, (rd_T35 l0 x20_2).f1, (rd_T35 l0 x20_2).f2, (⟨(rd_T35 l0 x20_2).f3.f0, (rd_T35 l0 x20_2).f3.f1, (rd_T35 l0 x20_2).f3.f2, (⟨(rd_T35 l0 x20_2).f3.f3.f0, (rd_T35 l0 x20_2).f3.f3.f1⟩ : S24)⟩ : S26), (⟨(rd_T35 l0 x20_2).f4.f0, (⟨(rd_T35 l0 x20_2).f4.f1.f0, (rd_T35 l0 x20_2).f4.f1.f1⟩ : S24), (⟨(rd_T35 l0 x20_2).f4.f2.f0, (⟨(rd_T35 l0 x20_2).f4.f2.f1.f0, (rd_T35 l0 x20_2).f4.f2.f1.f1⟩ : S29), (rd_T35 l0 x20_2).f4.f2.f2⟩ : S31)⟩ : S33)⟩ : S35) )) rfl (Reps.none _ _) rfl)); intro v335 w22 ho23 hb hg_ hnew_; clear hg_ hnew_; (first | rw [← Ny334.out] at ho23 | (simp only [Int.reduceToNat] at ho23; rw [← Ny334.out] at ho23)); have HO336 := zM (Kd.R_lower (Kd.R_newB (Kd.R_new' ho23 (Kd.R_lt (by (with_reducible repeat (first | apply Kd.R_alloc | apply Kd.R_drewN | apply Kd.R_drew)); exact (Kd.R_mono (Kd.R_far (p := ⟨gb333, 14, none⟩) (Kd.R_far (p := ⟨gb333, 13, none⟩) (Kd.R_far (p := ⟨gb333, 12, none⟩) (Kd.R_far (p := ⟨gb333, 11, none⟩) (Kd.R_far (p := ⟨gb333, 10, none⟩) (Kd.R_far (p := ⟨gb333, 9, none⟩) (Kd.R_far (p := ⟨gb333, 8, none⟩) (Kd.R_far (p := ⟨gb333, 7, none⟩) (Kd.R_far (p := ⟨gb333, 6, none⟩) (Kd.R_far (p := ⟨gb333, 5, none⟩) (Kd.R_far (p := ⟨gb333, 4, none⟩) (Kd.R_far (p := ⟨gb333, 3, none⟩) (Kd.R_far (p := ⟨gb333, 2, none⟩) (Kd.R_far (p := ⟨gb333, 1, none⟩) (Kd.R_far (p := ⟨gb333, 0, none⟩) (Kd.R_mono HO_3.out (fun k_ hk => (⟨hk, hk.2⟩ : _ ∧ k_ ≠ gb333))) (fun _ hk => hk.2) (.int .i64 ((rd_T35 l0 x20_2).f0))) (fun _ hk => hk.2) (.int .i64 ((rd_T35 l0 x20_2).f1))) (fun _ hk => hk.2) (.int .i64 ((rd_T35 l0 x20_2).f2))) (fun _ hk => hk.2) (.int .i64 ((rd_T35 l0 x20_2).f3.f0))) (fun _ hk => hk.2) (.int .i64 ((rd_T35 l0 x20_2).f3.f1))) (fun _ hk => hk.2) (.float .f64 ((rd_T35 l0 x20_2).f3.f2))) (fun _ hk => hk.2) (.int .i64 ((rd_T35 l0 x20_2).f3.f3.f0))) (fun _ hk => hk.2) (.int .i64 ((rd_T35 l0 x20_2).f3.f3.f1))) (fun _ hk => hk.2) (.int .i64 ((rd_T35 l0 x20_2).f4.f0))) (fun _ hk => hk.2) (.int .i64 ((rd_T35 l0 x20_2).f4.f1.f0))) (fun _ hk => hk.2) (.int .i64 ((rd_T35 l0 x20_2).f4.f1.f1))) (fun _ hk => hk.2) (.int .i64 ((rd_T35 l0 x20_2).f4.f2.f0))) (fun _ hk => hk.2) (.int .i64 ((rd_T35 l0 x20_2).f4.f2.f1.f0))) (fun _ hk => hk.2) (.int .i64 ((rd_T35 l0 x20_2).f4.f2.f1.f1))) (fun _ hk => hk.2) (.float .f64 ((rd_T35 l0 x20_2).f4.f2.f2))) (fun _ h_ => h_.1))))) (g := gb333) (o := .cells (e35_ (rd_T35 l0 x20_2)) 35 (0, 0)) (by (with_reducible repeat (first | refine zN ?_ _ | refine zD ?_ | refine zA ?_ _)); exact fx15_ BK333)) (below_size bel_)); replace HO_3 := zM (Kd.R_elder' (by (with_reducible repeat (first | apply Kd.R_alloc | apply Kd.R_drewN | apply Kd.R_drew)); exact (Kd.R_mono (Kd.R_far (p := ⟨gb333, 14, none⟩) (Kd.R_far (p := ⟨gb333, 13, none⟩) (Kd.R_far (p := ⟨gb333, 12, none⟩) (Kd.R_far (p := ⟨gb333, 11, none⟩) (Kd.R_far (p := ⟨gb333, 10, none⟩) (Kd.R_far (p := ⟨gb333, 9, none⟩) (Kd.R_far (p := ⟨gb333, 8, none⟩) (Kd.R_far (p := ⟨gb333, 7, none⟩) (Kd.R_far (p := ⟨gb333, 6, none⟩) (Kd.R_far (p := ⟨gb333, 5, none⟩) (Kd.R_far (p := ⟨gb333, 4, none⟩) (Kd.R_far (p := ⟨gb333, 3, none⟩) (Kd.R_far (p := ⟨gb333, 2, none⟩) (Kd.R_far (p := ⟨gb333, 1, none⟩) (Kd.R_far (p := ⟨gb333, 0, none⟩) (Kd.R_mono HO_3.out (fun k_ hk => (⟨hk, hk.2⟩ : _ ∧ k_ ≠ gb333))) (fun _ hk => hk.2) (.int .i64 ((rd_T35 l0 x20_2).f0))) (fun _ hk => hk.2) (.int .i64 ((rd_T35 l0 x20_2).f1))) (fun _ hk => hk.2) (.int .i64 ((rd_T35 l0 x20_2).f2))) (fun _ hk => hk.2) (.int .i64 ((rd_T35 l0 x20_2).f3.f0))) (fun _ hk => hk.2) (.int .i64 ((rd_T35 l0 x20_2).f3.f1))) (fun _ hk => hk.2) (.float .f64 ((rd_T35 l0 x20_2).f3.f2))) (fun _ hk => hk.2) (.int .i64 ((rd_T35 l0 x20_2).f3.f3.f0))) (fun _ hk => hk.2) (.int .i64 ((rd_T35 l0 x20_2).f3.f3.f1))) (fun _ hk => hk.2) (.int .i64 ((rd_T35 l0 x20_2).f4.f0))) (fun _ hk => hk.2) (.int .i64 ((rd_T35 l0 x20_2).f4.f1.f0))) (fun _ hk => hk.2) (.int .i64 ((rd_T35 l0 x20_2).f4.f1.f1))) (fun _ hk => hk.2) (.int .i64 ((rd_T35 l0 x20_2).f4.f2.f0))) (fun _ hk => hk.2) (.int .i64 ((rd_T35 l0 x20_2).f4.f2.f1.f0))) (fun _ hk => hk.2) (.int .i64 ((rd_T35 l0 x20_2).f4.f2.f1.f1))) (fun _ hk => hk.2) (.float .f64 ((rd_T35 l0 x20_2).f4.f2.f2))) (fun _ h_ => h_.1))) (Kd.R_base ho23) hb); replace BK333 := zM (blk_below (g := gb333) (o := .cells (e35_ (rd_T35 l0 x20_2)) 35 (0, 0)) (by (with_reducible repeat (first | refine zN ?_ _ | refine zD ?_ | refine zA ?_ _)); exact fx15_ BK333) hb); replace HB := zM (zB bel_ hb); clear hb ho23; obtain ⟨Ao25, co25, eo25⟩ := Kd.R_slice HO336.out; subst eo25) | ((with_reducible refine gate_builtin (b := .append) (xs := #[.tmp 29, .tmp 31]) rfl ?_); at_builtin; refine Kd.R_append_rows k35 (w0 := w) w.heap.size rfl (.tmp 29) (.tmp 31) 42 35 (.agg #[(.int .i64 0), (.int .i64 0), (.int .i64 0), (.int .i64 0), (.int .i64 0), (.float .f64 0), (.int .i64 0), (.int .i64 0), (.int .i64 0), (.int .i64 0), (.int .i64 0), (.int .i64 0), (.int .i64 0), (.int .i64 0), (.float .f64 0)]) 120 rfl Try.underlying42 info35 rfl (by decide) (by omega) u3 x3_2 y334 _ _ _ (fun k_ => some k_ ≠ (.slice Ao25 y334.length co25 : Value).ownBlock ∧ k_ ≠ gb333) (fun _ => False) rfl rfl ?aO ?aR (fun _ _ h => h) (fun _ h => h.elim) ?aF ?aB ?aS ?aL ?_; (case aR => repeat (first | exact (Kd.R_reads' HO336.out).2.2 | (with_reducible refine Kd.C_alloc ?_ _) | (with_reducible refine Kd.C_drewN ?_ _) | (with_reducible refine Kd.C_drew ?_))); (case aB => exact bel_); (case aF => exact (fun k_ hk => ⟨Kd.fresh' (Kd.R_lt (rl_ HO336)) k_ hk, Kd.freshB (g := gb333) (o := .cells (e35_ (rd_T35 l0 x20_2)) 35 (0, 0)) blk_ k_ hk⟩)); (case aO => exact (by (with_reducible repeat (first | apply Kd.R_alloc | apply Kd.R_drewN | apply Kd.R_drew)); exact Kd.R_mono HO_3.out (fun _ hk => ⟨hk.2, hk.1.2⟩))); (case aS => exact (below_size bel_)); (case aL => have := LMc16.out; omega); intro v338 w24 ho hb hg hat; rw [← Ny337.out] at ho; replace BK333 := zM (blk_grown (g := gb333) (o := .cells (e35_ (rd_T35 l0 x20_2)) 35 (0, 0)) blk_ hg (Kd.R_away HO_3.out (fun _ hk => hk.1.2))); replace HO336 := zM (Kd.R_after (ok := (fun k_ => k_ ≠ gb333)) (by (with_reducible repeat (first | apply Kd.R_alloc | apply Kd.R_drewN | apply Kd.R_drew)); exact Kd.R_mono HO336.out (fun _ hk => ⟨hk.2, hk.1.2⟩)) hg hat); replace HB := zM (hb); have HO339 := zM (ho); clear HO_3; clear ho hb hg hat; obtain ⟨hcz26_0, hcz26_1, hcz26_2, hcz26_3, hcz26_4, hcz26_5, hcz26_6, hcz26_7, hcz26_8, hcz26_9, hcz26_10, hcz26_11, hcz26_12, hcz26_13, hcz26_14⟩ := r15_ BK333.out; obtain ⟨hfz26_0, hfz26_1, hfz26_2, hfz26_3, hfz26_4, hfz26_5, hfz26_6, hfz26_7, hfz26_8, hfz26_9, hfz26_10, hfz26_11, hfz26_12, hfz26_13, hfz26_14⟩ := f15_ BK333.out) | (go_at_call 11; (with_reducible refine (past_Well.calls ((rd_T35 l0 x20_2).f0) ((rd_T35 l0 x20_2).f1) ((rd_T35 l0 x20_2).f2) ((rd_T35 l0 x20_2).f3.f0) ((rd_T35 l0 x20_2).f3.f1) ((rd_T35 l0 x20_2).f3.f2) ((rd_T35 l0 x20_2).f3.f3.f0) ((rd_T35 l0 x20_2).f3.f3.f1) ((rd_T35 l0 x20_2).f4.f0) ((rd_T35 l0 x20_2).f4.f1.f0) ((rd_T35 l0 x20_2).f4.f1.f1) ((rd_T35 l0 x20_2).f4.f2.f0) ((rd_T35 l0 x20_2).f4.f2.f1.f0) ((rd_T35 l0 x20_2).f4.f2.f1.f1) ((rd_T35 l0 x20_2).f4.f2.f2) true _ A18.out).mono ?_); rintro e w27 ⟨rfl, hb⟩; replace HO336 := zM (Kd.R_below (rl_ HO336) hb); replace HO339 := zM (Kd.R_below (rl_ HO339) hb); replace BK333 := zM (bb_ BK333 hb); replace HB := zM (zB bel_ hb); (try clear hb); (try clear hb2); (try clear hk); (try clear hi)))
        go_roundg k2
        case measure => have := HJ3.out; have := HK2.out; omega
        case rel => exact ⟨(y337), (x20_2), (wrap64 (x20_2 + 1)), (by first | rfl | (simp; done) | (simp [*]; done) | (simp; grind)), (by first | rfl | (simp; done) | (simp [*]; done) | (simp; grind)), H', ⟨by have := HJ3.out; have := HK2.out; omega⟩, ⟨by (with_reducible repeat (first | apply Kd.R_alloc | apply Kd.R_drewN | apply Kd.R_drew)); exact Kd.R_mono HO339.out (fun _ hk => trivial)⟩, ⟨bel_⟩⟩
      replace c19 := Bool.eq_false_iff.mpr c19
      subst c19
      have H1 : (ropewaylaw21_PastParts.l0 k2 l0 y337 x4_2 l0 (l0.length : Int) (wrap64 (x20_2 + 1))) = some r := by rw [if_neg (show ¬ (false = true) by decide)] at H; exact H
      clear H
      have H := H1
      clear H1
      have H' := zM H
      clear H
      have p332 : 0 ≤ (x20_2 : Int) := of_decide_eq_true (by first | (with_reducible assumption) | assumption)
      have q332 : x20_2 < (l0.length : Int) := of_decide_eq_true (by first | (with_reducible assumption) | assumption)
      obtain ⟨ad332, e332, hx332_0, hx332_1, hx332_2, hx332_3, hx332_4, hx332_5, hx332_6, hx332_7, hx332_8, hx332_9, hx332_10, hx332_11, hx332_12, hx332_13, hx332_14⟩ := at_T35 HR0.out x20_2 p332 q332
      cases e332
      replace hx332_0 := (HB.out.cell (World.block_lt_of_cell? w _ hx332_0)).trans hx332_0
      replace hx332_1 := (HB.out.cell (World.block_lt_of_cell? w _ hx332_1)).trans hx332_1
      replace hx332_2 := (HB.out.cell (World.block_lt_of_cell? w _ hx332_2)).trans hx332_2
      replace hx332_3 := (HB.out.cell (World.block_lt_of_cell? w _ hx332_3)).trans hx332_3
      replace hx332_4 := (HB.out.cell (World.block_lt_of_cell? w _ hx332_4)).trans hx332_4
      replace hx332_5 := (HB.out.cell (World.block_lt_of_cell? w _ hx332_5)).trans hx332_5
      replace hx332_6 := (HB.out.cell (World.block_lt_of_cell? w _ hx332_6)).trans hx332_6
      replace hx332_7 := (HB.out.cell (World.block_lt_of_cell? w _ hx332_7)).trans hx332_7
      replace hx332_8 := (HB.out.cell (World.block_lt_of_cell? w _ hx332_8)).trans hx332_8
      replace hx332_9 := (HB.out.cell (World.block_lt_of_cell? w _ hx332_9)).trans hx332_9
      replace hx332_10 := (HB.out.cell (World.block_lt_of_cell? w _ hx332_10)).trans hx332_10
      replace hx332_11 := (HB.out.cell (World.block_lt_of_cell? w _ hx332_11)).trans hx332_11
      replace hx332_12 := (HB.out.cell (World.block_lt_of_cell? w _ hx332_12)).trans hx332_12
      replace hx332_13 := (HB.out.cell (World.block_lt_of_cell? w _ hx332_13)).trans hx332_13
      replace hx332_14 := (HB.out.cell (World.block_lt_of_cell? w _ hx332_14)).trans hx332_14
      replace p332 := eq_true p332
      replace q332 := eq_true q332
      go_wp2_with (first | ((with_reducible refine gld_ (t := 35) ?_); (try (refine gate_guard (by rfl) ?_; dsimp only)); first | refine wl15_ rfl 35 _ rfl rfl Try.underlying35 rfl (by kernel_rfl) ?_ | refine wlr15_ rfl 35 _ rfl rfl Try.underlying35 rfl (by kernel_rfl) ?_) | ((with_reducible refine gst_ (t := 35) ?_); refine ws15_ rfl 35 _ _ rfl rfl rfl (by kernel_rfl) ?_) | ((with_reducible refine gate_dst (N := 6) rfl ?_); refine box_event ?hg (N := 6) ?hd (cs := #[.int .i64 0, .int .i64 0, .int .i64 0, .int .i64 0, .int .i64 0, .float .f64 0, .int .i64 0, .int .i64 0, .int .i64 0, .int .i64 0, .int .i64 0, .int .i64 0, .int .i64 0, .int .i64 0, .float .f64 0]) (t := 35) ?hr ?_; (case hd => rfl); (case hg => rfl); (case hr => first | (go_simp; done) | (go_simp; rfl)); intro gb333 hg w28 hbox hb; replace HO_3 := zM (Kd.R_below (Kd.R_elderB (rl_ HO_3) gb333 (Nat.le_of_eq hg.symm)) hb); have BK333 := zM (hbox); have GW333 := zM (bs_ hg); have GE333 := zM (bs_ hg); replace HB := zM (zB bel_ hb); clear hb hbox hg; obtain ⟨hcz29_0, hcz29_1, hcz29_2, hcz29_3, hcz29_4, hcz29_5, hcz29_6, hcz29_7, hcz29_8, hcz29_9, hcz29_10, hcz29_11, hcz29_12, hcz29_13, hcz29_14⟩ := r15_ BK333.out; obtain ⟨hfz29_0, hfz29_1, hfz29_2, hfz29_3, hfz29_4, hfz29_5, hfz29_6, hfz29_7, hfz29_8, hfz29_9, hfz29_10, hfz29_11, hfz29_12, hfz29_13, hfz29_14⟩ := f15_ BK333.out) | ((with_reducible refine gate_dst (N := 31) rfl ?_); refine Kd.R_lit k35 _ 35 ?hg (N := 31) ?hd (xs := ([(⟨(rd_T35 l0 x20_2).f0, (rd_T35 l0 x20_2).f1, (rd_T35 l0 x20_2).f2, (⟨(rd_T35 l0 x20_2).f3.f0, (rd_T35 l0 x20_2).f3.f1, (rd_T35 l0 x20_2).f3.f2, (⟨(rd_T35 l0 x20_2).f3.f3.f0, (rd_T35 l0 x20_2).f3.f3.f1⟩ : S24)⟩ : S26), (⟨(rd_T35 l0 x20_2).f4.f0, (⟨(rd_T35 l0 x20_2).f4.f1.f0, (rd_T35 l0 x20_2).f4.f1.f1⟩ : S24), (⟨(rd_T35 l0 x20_2).f4.f2.f0, (⟨(rd_T35 l0 x20_2).f4.f2.f1.f0, (rd_T35 l0 x20_2).f4.f2.f1.f1⟩ : S29), (rd_T35 l0 x20_2).f4.f2.f2⟩ : S31)⟩ : S33)⟩ : S35)] : List (S35))) (inner := [.int .i64 ((rd_T35 l0 x20_2).f0), .int .i64 ((rd_T35 l0 x20_2).f1), .int .i64 ((rd_T35 l0 x20_2).f2), .int .i64 ((rd_T35 l0 x20_2).f3.f0), .int .i64 ((rd_T35 l0 x20_2).f3.f1), .float .f64 ((rd_T35 l0 x20_2).f3.f2), .int .i64 ((rd_T35 l0 x20_2).f3.f3.f0), .int .i64 ((rd_T35 l0 x20_2).f3.f3.f1), .int .i64 ((rd_T35 l0 x20_2).f4.f0), .int .i64 ((rd_T35 l0 x20_2).f4.f1.f0), .int .i64 ((rd_T35 l0 x20_2).f4.f1.f1), .int .i64 ((rd_T35 l0 x20_2).f4.f2.f0), .int .i64 ((rd_T35 l0 x20_2).f4.f2.f1.f0), .int .i64 ((rd_T35 l0 x20_2).f4.f2.f1.f1), .float .f64 ((rd_T35 l0 x20_2).f4.f2.f2)]) (ok := fun _ => True) (okp := fun _ => True) ?hr ?hp (fun _ hk => hk) trivial (Below.refl _ _) (Nat.le_refl _) (by simp) ?_; (case hd => rfl); (case hg => rfl); (case hr => first | (go_simp; done) | (go_simp; rfl)); (case hp => exact (Reps.front (show Kd.M k35 _ _ _ (⟨(rd_T35 l0 x20_2).f0, (rd_T35 l0 x20_2).f1, (rd_T35 l0 x20_2).f2, (⟨(rd_T35 l0 x20_2).f3.f0, (rd_T35 l0 x20_2).f3.f1, (rd_T35 l0 x20_2).f3.f2, (⟨(rd_T35 l0 x20_2).f3.f3.f0, (rd_T35 l0 x20_2).f3.f3.f1⟩ : S24)⟩ : S26), (⟨(rd_T35 l0 x20_2).f4.f0, (⟨(rd_T35 l0 x20_2).f4.f1.f0, (rd_T35 l0 x20_2).f4.f1.f1⟩ : S24), (⟨(rd_T35 l0 x20_2).f4.f2.f0, (⟨(rd_T35 l0 x20_2).f4.f2.f1.f0, (rd_T35 l0 x20_2).f4.f2.f1.f1⟩ : S29), (rd_T35 l0 x20_2).f4.f2.f2⟩ : S31)⟩ : S33)⟩ : S35) [.int .i64 ((rd_T35 l0 x20_2).f0), .int .i64 ((rd_T35 l0 x20_2).f1), .int .i64 ((rd_T35 l0 x20_2).f2), .int .i64 ((rd_T35 l0 x20_2).f3.f0), .int .i64 ((rd_T35 l0 x20_2).f3.f1), .float .f64 ((rd_T35 l0 x20_2).f3.f2), .int .i64 ((rd_T35 l0 x20_2).f3.f3.f0), .int .i64 ((rd_T35 l0 x20_2).f3.f3.f1), .int .i64 ((rd_T35 l0 x20_2).f4.f0), .int .i64 ((rd_T35 l0 x20_2).f4.f1.f0), .int .i64 ((rd_T35 l0 x20_2).f4.f1.f1), .int .i64 ((rd_T35 l0 x20_2).f4.f2.f0), .int .i64 ((rd_T35 l0 x20_2).f4.f2.f1.f0), .int .i64 ((rd_T35 l0 x20_2).f4.f2.f1.f1), .float .f64 ((rd_T35 l0 x20_2).f4.f2.f2)] from (k35_mkM _ _ _ (⟨(rd_T35 l0 x20_2).f0, (rd_T35 l0 x20_2).f1, (rd_T35 l0 x20_2).f2, (⟨(rd_T35 l0 x20_2).f3.f0, (rd_T35 l0 x20_2).f3.f1, (rd_T35 l0 x20_2).f3.f2, (⟨(rd_T35 l0 x20_2).f3.f3.f0, (rd_T35 l0 x20_2).f3.f3.f1⟩ : S24)⟩ : S26), (⟨(rd_T35 l0 x20_2).f4.f0, (⟨(rd_T35 l0 x20_2).f4.f1.f0, (rd_T35 l0 x20_2).f4.f1.f1⟩ : S24), (⟨(rd_T35 l0 x20_2).f4.f2.f0, (⟨(rd_T35 l0 x20_2).f4.f2.f1.f0, (rd_T35 l0 x20_2).f4.f2.f1.f1⟩ : S29), (rd_T35 l0 x20_2).f4.f2.f2⟩ : S31)⟩ : S33)⟩ : S35) )) rfl (Reps.none _ _) rfl)); intro v335 w30 ho31 hb hg_ hnew_; clear hg_ hnew_; (first | rw [← Ny334.out] at ho31 | (simp only [Int.reduceToNat] at ho31; rw [← Ny334.out] at ho31)); have HO336 := zM (Kd.R_lower (Kd.R_newB (Kd.R_new' ho31 (Kd.R_lt (by (with_reducible repeat (first | apply Kd.R_alloc | apply Kd.R_drewN | apply Kd.R_drew)); exact (Kd.R_mono (Kd.R_far (p := ⟨gb333, 14, none⟩) (Kd.R_far (p := ⟨gb333, 13, none⟩) (Kd.R_far (p := ⟨gb333, 12, none⟩) (Kd.R_far (p := ⟨gb333, 11, none⟩) (Kd.R_far (p := ⟨gb333, 10, none⟩) (Kd.R_far (p := ⟨gb333, 9, none⟩) (Kd.R_far (p := ⟨gb333, 8, none⟩) (Kd.R_far (p := ⟨gb333, 7, none⟩) (Kd.R_far (p := ⟨gb333, 6, none⟩) (Kd.R_far (p := ⟨gb333, 5, none⟩) (Kd.R_far (p := ⟨gb333, 4, none⟩) (Kd.R_far (p := ⟨gb333, 3, none⟩) (Kd.R_far (p := ⟨gb333, 2, none⟩) (Kd.R_far (p := ⟨gb333, 1, none⟩) (Kd.R_far (p := ⟨gb333, 0, none⟩) (Kd.R_mono HO_3.out (fun k_ hk => (⟨hk, hk.2⟩ : _ ∧ k_ ≠ gb333))) (fun _ hk => hk.2) (.int .i64 ((rd_T35 l0 x20_2).f0))) (fun _ hk => hk.2) (.int .i64 ((rd_T35 l0 x20_2).f1))) (fun _ hk => hk.2) (.int .i64 ((rd_T35 l0 x20_2).f2))) (fun _ hk => hk.2) (.int .i64 ((rd_T35 l0 x20_2).f3.f0))) (fun _ hk => hk.2) (.int .i64 ((rd_T35 l0 x20_2).f3.f1))) (fun _ hk => hk.2) (.float .f64 ((rd_T35 l0 x20_2).f3.f2))) (fun _ hk => hk.2) (.int .i64 ((rd_T35 l0 x20_2).f3.f3.f0))) (fun _ hk => hk.2) (.int .i64 ((rd_T35 l0 x20_2).f3.f3.f1))) (fun _ hk => hk.2) (.int .i64 ((rd_T35 l0 x20_2).f4.f0))) (fun _ hk => hk.2) (.int .i64 ((rd_T35 l0 x20_2).f4.f1.f0))) (fun _ hk => hk.2) (.int .i64 ((rd_T35 l0 x20_2).f4.f1.f1))) (fun _ hk => hk.2) (.int .i64 ((rd_T35 l0 x20_2).f4.f2.f0))) (fun _ hk => hk.2) (.int .i64 ((rd_T35 l0 x20_2).f4.f2.f1.f0))) (fun _ hk => hk.2) (.int .i64 ((rd_T35 l0 x20_2).f4.f2.f1.f1))) (fun _ hk => hk.2) (.float .f64 ((rd_T35 l0 x20_2).f4.f2.f2))) (fun _ h_ => h_.1))))) (g := gb333) (o := .cells (e35_ (rd_T35 l0 x20_2)) 35 (0, 0)) (by (with_reducible repeat (first | refine zN ?_ _ | refine zD ?_ | refine zA ?_ _)); exact fx15_ BK333)) (below_size bel_)); replace HO_3 := zM (Kd.R_elder' (by (with_reducible repeat (first | apply Kd.R_alloc | apply Kd.R_drewN | apply Kd.R_drew)); exact (Kd.R_mono (Kd.R_far (p := ⟨gb333, 14, none⟩) (Kd.R_far (p := ⟨gb333, 13, none⟩) (Kd.R_far (p := ⟨gb333, 12, none⟩) (Kd.R_far (p := ⟨gb333, 11, none⟩) (Kd.R_far (p := ⟨gb333, 10, none⟩) (Kd.R_far (p := ⟨gb333, 9, none⟩) (Kd.R_far (p := ⟨gb333, 8, none⟩) (Kd.R_far (p := ⟨gb333, 7, none⟩) (Kd.R_far (p := ⟨gb333, 6, none⟩) (Kd.R_far (p := ⟨gb333, 5, none⟩) (Kd.R_far (p := ⟨gb333, 4, none⟩) (Kd.R_far (p := ⟨gb333, 3, none⟩) (Kd.R_far (p := ⟨gb333, 2, none⟩) (Kd.R_far (p := ⟨gb333, 1, none⟩) (Kd.R_far (p := ⟨gb333, 0, none⟩) (Kd.R_mono HO_3.out (fun k_ hk => (⟨hk, hk.2⟩ : _ ∧ k_ ≠ gb333))) (fun _ hk => hk.2) (.int .i64 ((rd_T35 l0 x20_2).f0))) (fun _ hk => hk.2) (.int .i64 ((rd_T35 l0 x20_2).f1))) (fun _ hk => hk.2) (.int .i64 ((rd_T35 l0 x20_2).f2))) (fun _ hk => hk.2) (.int .i64 ((rd_T35 l0 x20_2).f3.f0))) (fun _ hk => hk.2) (.int .i64 ((rd_T35 l0 x20_2).f3.f1))) (fun _ hk => hk.2) (.float .f64 ((rd_T35 l0 x20_2).f3.f2))) (fun _ hk => hk.2) (.int .i64 ((rd_T35 l0 x20_2).f3.f3.f0))) (fun _ hk => hk.2) (.int .i64 ((rd_T35 l0 x20_2).f3.f3.f1))) (fun _ hk => hk.2) (.int .i64 ((rd_T35 l0 x20_2).f4.f0))) (fun _ hk => hk.2) (.int .i64 ((rd_T35 l0 x20_2).f4.f1.f0))) (fun _ hk => hk.2) (.int .i64 ((rd_T35 l0 x20_2).f4.f1.f1))) (fun _ hk => hk.2) (.int .i64 ((rd_T35 l0 x20_2).f4.f2.f0))) (fun _ hk => hk.2) (.int .i64 ((rd_T35 l0 x20_2).f4.f2.f1.f0))) (fun _ hk => hk.2) (.int .i64 ((rd_T35 l0 x20_2).f4.f2.f1.f1))) (fun _ hk => hk.2) (.float .f64 ((rd_T35 l0 x20_2).f4.f2.f2))) (fun _ h_ => h_.1))) (Kd.R_base ho31) hb); replace BK333 := zM (blk_below (g := gb333) (o := .cells (e35_ (rd_T35 l0 x20_2)) 35 (0, 0)) (by (with_reducible repeat (first | refine zN ?_ _ | refine zD ?_ | refine zA ?_ _)); exact fx15_ BK333) hb); replace HB := zM (zB bel_ hb); clear hb ho31; obtain ⟨Ao33, co33, eo33⟩ := Kd.R_slice HO336.out; subst eo33) | ((with_reducible refine gate_builtin (b := .append) (xs := #[.tmp 29, .tmp 31]) rfl ?_); at_builtin; refine Kd.R_append_rows k35 (w0 := w) w.heap.size rfl (.tmp 29) (.tmp 31) 42 35 (.agg #[(.int .i64 0), (.int .i64 0), (.int .i64 0), (.int .i64 0), (.int .i64 0), (.float .f64 0), (.int .i64 0), (.int .i64 0), (.int .i64 0), (.int .i64 0), (.int .i64 0), (.int .i64 0), (.int .i64 0), (.int .i64 0), (.float .f64 0)]) 120 rfl Try.underlying42 info35 rfl (by decide) (by omega) u3 x3_2 y334 _ _ _ (fun k_ => some k_ ≠ (.slice Ao33 y334.length co33 : Value).ownBlock ∧ k_ ≠ gb333) (fun _ => False) rfl rfl ?aO ?aR (fun _ _ h => h) (fun _ h => h.elim) ?aF ?aB ?aS ?aL ?_; (case aR => repeat (first | exact (Kd.R_reads' HO336.out).2.2 | (with_reducible refine Kd.C_alloc ?_ _) | (with_reducible refine Kd.C_drewN ?_ _) | (with_reducible refine Kd.C_drew ?_))); (case aB => exact bel_); (case aF => exact (fun k_ hk => ⟨Kd.fresh' (Kd.R_lt (rl_ HO336)) k_ hk, Kd.freshB (g := gb333) (o := .cells (e35_ (rd_T35 l0 x20_2)) 35 (0, 0)) blk_ k_ hk⟩)); (case aO => exact (by (with_reducible repeat (first | apply Kd.R_alloc | apply Kd.R_drewN | apply Kd.R_drew)); exact Kd.R_mono HO_3.out (fun _ hk => ⟨hk.2, hk.1.2⟩))); (case aS => exact (below_size bel_)); (case aL => have := LMc16.out; omega); intro v338 w32 ho hb hg hat; rw [← Ny337.out] at ho; replace BK333 := zM (blk_grown (g := gb333) (o := .cells (e35_ (rd_T35 l0 x20_2)) 35 (0, 0)) blk_ hg (Kd.R_away HO_3.out (fun _ hk => hk.1.2))); replace HO336 := zM (Kd.R_after (ok := (fun k_ => k_ ≠ gb333)) (by (with_reducible repeat (first | apply Kd.R_alloc | apply Kd.R_drewN | apply Kd.R_drew)); exact Kd.R_mono HO336.out (fun _ hk => ⟨hk.2, hk.1.2⟩)) hg hat); replace HB := zM (hb); have HO339 := zM (ho); clear HO_3; clear ho hb hg hat; obtain ⟨hcz34_0, hcz34_1, hcz34_2, hcz34_3, hcz34_4, hcz34_5, hcz34_6, hcz34_7, hcz34_8, hcz34_9, hcz34_10, hcz34_11, hcz34_12, hcz34_13, hcz34_14⟩ := r15_ BK333.out; obtain ⟨hfz34_0, hfz34_1, hfz34_2, hfz34_3, hfz34_4, hfz34_5, hfz34_6, hfz34_7, hfz34_8, hfz34_9, hfz34_10, hfz34_11, hfz34_12, hfz34_13, hfz34_14⟩ := f15_ BK333.out) | (go_at_call 11; (with_reducible refine (past_Well.calls ((rd_T35 l0 x20_2).f0) ((rd_T35 l0 x20_2).f1) ((rd_T35 l0 x20_2).f2) ((rd_T35 l0 x20_2).f3.f0) ((rd_T35 l0 x20_2).f3.f1) ((rd_T35 l0 x20_2).f3.f2) ((rd_T35 l0 x20_2).f3.f3.f0) ((rd_T35 l0 x20_2).f3.f3.f1) ((rd_T35 l0 x20_2).f4.f0) ((rd_T35 l0 x20_2).f4.f1.f0) ((rd_T35 l0 x20_2).f4.f1.f1) ((rd_T35 l0 x20_2).f4.f2.f0) ((rd_T35 l0 x20_2).f4.f2.f1.f0) ((rd_T35 l0 x20_2).f4.f2.f1.f1) ((rd_T35 l0 x20_2).f4.f2.f2) false _ A18.out).mono ?_); rintro e w35 ⟨rfl, hb⟩; replace HO336 := zM (Kd.R_below (rl_ HO336) hb); replace HO339 := zM (Kd.R_below (rl_ HO339) hb); replace BK333 := zM (bb_ BK333 hb); replace HB := zM (zB bel_ hb); (try clear hb); (try clear hb2); (try clear hk); (try clear hi)))
      go_roundg k2
      case measure => have := HJ3.out; have := HK2.out; omega
      case rel => exact ⟨(y337), (x4_2), (wrap64 (x20_2 + 1)), (by first | rfl | (simp; done) | (simp [*]; done) | (simp; grind)), (by first | rfl | (simp; done) | (simp [*]; done) | (simp; grind)), H', ⟨by have := HJ3.out; have := HK2.out; omega⟩, ⟨by (with_reducible repeat (first | apply Kd.R_alloc | apply Kd.R_drewN | apply Kd.R_drew)); exact Kd.R_mono HO339.out (fun _ hk => trivial)⟩, ⟨bel_⟩⟩
/-- THE ONE PURE STATEMENT of ropewaylaw21_PastParts. -/
def ropewaylaw21_PastParts.Pure : Prop := ∀ (l0 : List (S35)), (l0.length ≤ maxLen ∧ l0.length * 120 ≤ 140737488351232 ∧ ∀ y0 ∈ l0, ((Lit.int .i64 y0.f0).wf = true ∧ (Lit.int .i64 y0.f1).wf = true ∧ (Lit.int .i64 y0.f2).wf = true ∧ ((Lit.int .i64 y0.f3.f0).wf = true ∧ (Lit.int .i64 y0.f3.f1).wf = true ∧ y0.f3.f2 < 18446744073709551616 ∧ ((Lit.int .i64 y0.f3.f3.f0).wf = true ∧ (Lit.int .i64 y0.f3.f3.f1).wf = true)) ∧ ((Lit.int .i64 y0.f4.f0).wf = true ∧ ((Lit.int .i64 y0.f4.f1.f0).wf = true ∧ (Lit.int .i64 y0.f4.f1.f1).wf = true) ∧ ((Lit.int .i64 y0.f4.f2.f0).wf = true ∧ ((Lit.int .i64 y0.f4.f2.f1.f0).wf = true ∧ (Lit.int .i64 y0.f4.f2.f1.f1).wf = true) ∧ y0.f4.f2.f2 < 18446744073709551616)))) → ∃ k, ropewaylaw21_PastParts.f k l0 = some true

end Go.Proofs.Ytmenkbdaabjojaa.PPastParts
