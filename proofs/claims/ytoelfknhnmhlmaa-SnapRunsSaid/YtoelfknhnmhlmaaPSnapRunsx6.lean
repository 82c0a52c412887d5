/- Written by a program of this session (wip/tool/px.py) over the kit's print: what the code that the law SnapRuns reaches computes, function by function, and the law's row. -/
import Derived.Test.YtoelfknhnmhlmaaPSnapRunsx0
import Derived.Test.YtoelfknhnmhlmaaPSnapRunsx3
import Derived.Test.YtoelfknhnmhlmaaPSnapRunsx4
import Derived.Test.YtoelfknhnmhlmaaPSnapRunsx5
namespace Go.Proofs.Ytoelfknhnmhlmaa.PSnapRuns
open Go.RowKit Go.Proofs.YtoelfknhnmhlmaaX Go.Proofs.YtoelfknhnmhlmaaW.PrintWords Go.Proofs.YtoelfknhnmhlmaaW.PrintLast Go.Proofs.YtoelfknhnmhlmaaW.PrintMore
open Go.Proofs.YtoelfknhnmhlmaaW.PrintWords renaming blk_drewN → zN, blk_drew → zD, blk_alloc → zA, blk_cell → zL, below_step → zB
open Go.Proofs.YtoelfknhnmhlmaaW.PrintWords.Aside0 renaming mk → zM
attribute [local go_sem] max2_int min2_int max_two min_two max_three min_three max_four min_four   -- for this text's walks alone
set_option linter.unusedVariables false
set_option linter.unusedSimpArgs false

attribute [local go_sem] px_nilq27
/-! ### api_View_50: function 50 -/
mutual
def api_View_50.l0 : Nat → List (S26) → Int → Int → Int → Bool → Option ((List (S26)))
  | 0, _, _, _, _, _ => none
  | k + 1, x0, x1, x2, x3, x10 => if (wrap64 (x2 - x1)) ≤ 12 then ((api_View_66.f k x0 x1 x2).bind fun t146 => (some t146)) else (if x3 = 0 then (none) else (if x10 = true then (none) else (none)))
def api_View_50.f : Nat → List (S26) → Int → Int → Int → Option ((List (S26)))
  | 0, _, _, _, _ => none
  | k + 1, l0, a1, a2, a3 => api_View_50.l0 k l0 a1 a2 a3 true
end
theorem api_View_50.mono_l : ∀ k, (∀ y0 y1 y2 y3, LeO (api_View_50.f k y0 y1 y2 y3) (api_View_50.f (k + 1) y0 y1 y2 y3)) ∧ (∀ y0 y1 y2 y3 y4, LeO (api_View_50.l0 k y0 y1 y2 y3 y4) (api_View_50.l0 (k + 1) y0 y1 y2 y3 y4))
  | 0 => ⟨fun _ _ _ _ r h => by simp [api_View_50.f] at h, fun _ _ _ _ _ r h => by simp [api_View_50.l0] at h⟩
  | k + 1 => by
    obtain ⟨ih0, ih1⟩ := api_View_50.mono_l k
    refine ⟨?_, ?_⟩
    · intro y0 y1 y2 y3
      unfold api_View_50.f
      repeat' first
      | (with_reducible exact ih0 _ _ _ _)
      | (with_reducible exact ih1 _ _ _ _ _)
      | (with_reducible exact api_View_66.mono _ _ _ _)
      | (with_reducible exact LeO.refl _)
      | (with_reducible exact LeO.none _)
      | (with_reducible refine LeO.ite ?_ ?_)
      | (with_reducible refine LeO.bind ?_ (fun _ => ?_))
      | exact ih0 _ _ _ _
      | exact ih1 _ _ _ _ _
      | exact api_View_66.mono _ _ _ _
      | exact LeO.none _
      | refine LeO.ite ?_ ?_
      | refine LeO.bind ?_ (fun _ => ?_)
    · intro y0 y1 y2 y3 y4
      unfold api_View_50.l0
      repeat' first
      | (with_reducible exact ih0 _ _ _ _)
      | (with_reducible exact ih1 _ _ _ _ _)
      | (with_reducible exact api_View_66.mono _ _ _ _)
      | (with_reducible exact LeO.refl _)
      | (with_reducible exact LeO.none _)
      | (with_reducible refine LeO.ite ?_ ?_)
      | (with_reducible refine LeO.bind ?_ (fun _ => ?_))
      | exact ih0 _ _ _ _
      | exact ih1 _ _ _ _ _
      | exact api_View_66.mono _ _ _ _
      | exact LeO.none _
      | refine LeO.ite ?_ ?_
      | refine LeO.bind ?_ (fun _ => ?_)
theorem api_View_50.mono : ∀ a0 a1 a2 a3 k, LeO (api_View_50.f k a0 a1 a2 a3) (api_View_50.f (k + 1) a0 a1 a2 a3) := by
  intro a0 a1 a2 a3 k
  obtain ⟨ih0, ih1⟩ := api_View_50.mono_l k
  exact ih0 a0 a1 a2 a3
set_option maxHeartbeats 8000000 in
set_option maxRecDepth 100000 in
theorem api_View_50.calls (k : Nat) : ∀ (P0_ : Nat → Prop) (u9000_ : Value) (l0 : List (S26)) (a1 : Int) (a2 : Int) (a3 : Int)  (r : List (S26)) (w0 w : World) (hB : Below w0.heap.size w0 w) (ho0 : Kd.R k26 26 w w0.heap.size P0_ u9000_ l0) (h : api_View_50.f k l0 a1 a2 a3 = some r),
    Calls Try.prog 50 #[u9000_, .int .i64 a1, .int .i64 a2, .int .i64 a3, .func (.func 37) #[] #[]] w fun e w' => e = .returned (.tuple #[]) ∧ Kd.R k26 26 w' w0.heap.size (fun k_ => (P0_ k_ ∨ w.heap.size ≤ k_)) u9000_ r ∧ Below w0.heap.size w0 w' ∧ Kept w w' (fun k_ => P0_ k_) := by
  induction k using Nat.strongRecOn with
  | _ k ih =>
  intro P0_ u9000_ l0 a1 a2 a3 r w0 w hB ho0 h
  cases k with
  | zero => exact absurd h (by simp [api_View_50.f])
  | succ k =>
  simp only [api_View_50.f] at h
  have hu26 := Try.underlying26
  have HO0 := zM (show Kd.R k26 26 w w0.heap.size (fun k_ => (P0_ k_ ∨ w.heap.size ≤ k_)) u9000_ l0 from Kd.R_mono ho0 (fun k_ hk => (.inl hk)))
  have HK := zM (Kept.refl w (fun k_ => P0_ k_))
  have HW0 := zM hB.size
  have HB := zM hB
  clear hB
  have H : (api_View_50.l0 k l0 a1 a2 a3 true) = some r := h
  clear h
  have H' := zM H
  clear H
  go_enter Try.func50, Try.ntmps50
  go_wp2
  go_loopg [1, 2, 3, 10] k (fun kq v1 v2 v3 v10 w' => ∃ (x0_1 : List (S26)) (x1_1 : Int) (x2_1 : Int) (x3_1 : Int) (x10_1 : Bool), v1 = .int .i64 x1_1 ∧ v2 = .int .i64 x2_1 ∧ v3 = .int .i64 x3_1 ∧ v10 = .bool x10_1 ∧ Aside0 (api_View_50.l0 kq x0_1 x1_1 x2_1 x3_1 x10_1 = some r) ∧ Aside0 (kq ≤ k) ∧ Aside0 (Kd.R k26 26 w' w0.heap.size (fun k_ => (P0_ k_ ∨ w.heap.size ≤ k_)) u9000_ x0_1) ∧ Aside0 (Kept w w' (fun k_ => P0_ k_)) ∧ Aside0 (Below w0.heap.size w0 w'))
  case atStart => exact ⟨(l0), (a1), (a2), (a3), (true), (by first | rfl | (simp; done) | (simp [*]; done) | (simp; grind)), (by first | rfl | (simp; done) | (simp [*]; done) | (simp; grind)), (by first | rfl | (simp; done) | (simp [*]; done) | (simp; grind)), (by first | rfl | (simp; done) | (simp [*]; done) | (simp; grind)), H', ⟨Nat.le_refl _⟩, ⟨by (with_reducible repeat (first | apply Kd.R_alloc | apply Kd.R_drewN | apply Kd.R_drew)); exact HO0.out⟩, ⟨by repeat (first | (with_reducible first | exact HK.out | apply Kept.alloc | apply Kept.drewN | apply Kept.drew) | exact HK.out)⟩, ⟨bel_⟩⟩
  case round =>
   clear H'
   try clear p2
   try clear c5
   obtain ⟨x0_1, x1_1, x2_1, x3_1, x10_1, rfl, rfl, rfl, rfl, HA, HK1, HO_0, HK, HB⟩ := hrel
   cases gk with
   | zero => exact absurd HA.out (by simp [api_View_50.l0])
   | succ k1 =>
    have H := HA.out
    clear HA
    simp only [api_View_50.l0] at H
    by_cases c6 : (wrap64 (x2_1 - x1_1)) ≤ 12
    rotate_left
    · rw [if_neg c6] at H
      have c6b0 : decide ((wrap64 (x2_1 - x1_1)) ≤ 12) = false := decide_eq_false c6
      clear c6
      by_cases c10 : x3_1 = 0
      · rw [if_pos c10] at H
        exact absurd H (by simp)
      rw [if_neg c10] at H
      have c10b0 : (x3_1 == 0) = false := beq_eq_false_iff_ne.mpr c10
      have c10b1 : (x3_1 != 0) = true := bne_iff_ne.mpr c10
      by_cases c11 : x10_1 = true
      · subst c11
        have H1 : (none) = some r := by rw [if_pos rfl] at H; exact H
        clear H
        have H := H1
        clear H1
        exact absurd H (by simp)
      replace c11 := Bool.eq_false_iff.mpr c11
      subst c11
      have H1 : (none) = some r := by rw [if_neg (show ¬ (false = true) by decide)] at H; exact H
      clear H
      have H := H1
      clear H1
      exact absurd H (by simp)
    rw [if_pos c6] at H
    have c6b0 : decide ((wrap64 (x2_1 - x1_1)) ≤ 12) = true := decide_eq_true c6
    clear c6
    replace H := Option.bind_eq_some_iff.mp H
    obtain ⟨t146, A70, H⟩ := H
    replace H : (some t146) = some r := H
    have A7 := zM A70
    clear A70
    obtain rfl := Option.some.inj H
    obtain ⟨Ao8, co8, eo8⟩ := Kd.R_slice HO_0.out
    subst eo8
    go_wp2_with (first | ((with_reducible refine gate_callee (f := 66) rfl ?_); refine goL_ (some 30) Try.func66 #[.slice Ao8 x0_1.length co8, .int .i64 x1_1, .int .i64 x2_1, .func (.func 37) #[] #[]] ?_; (with_reducible refine (api_View_66.calls k1 (fun k_ => some k_ = (.slice Ao8 x0_1.length co8 : Value).ownBlock) (.slice Ao8 x0_1.length co8) x0_1 x1_1 x2_1  t146 w0 _ ?side1 ?side2 A7.out).mono ?_); (case side1 => repeat (first | (with_reducible first | exact HB.out | apply below_alloc | apply pw_below_drewN | apply below_drew1) | exact HB.out)); (case side2 => exact Kd.R_tight rfl HO_0.out); rintro e w9 ⟨rfl, hy0, hb, hkp⟩; refine ⟨_, rfl, ?_⟩; replace HK := zM (Kept.then_ (S := (fun k_ => P0_ k_)) (by repeat (first | (with_reducible first | exact HK.out | apply Kept.alloc | apply Kept.drewN | apply Kept.drew) | exact HK.out)) hkp (fun k_ hs_ => (fun e_ => (HO_0.out.1 k_ e_.symm)) hs_)); replace HO_0 := zM (Kd.R_reok rfl hy0 (fun k_ e_ => HO_0.out.1 k_ e_)); replace HB := zM (hb); (try clear hb); (try clear hkp); (try clear hy0)))
    first | go_end0 | ((try simp only [Exit.inBlock, Exit.then]); refine bodyPost_ret (results_none rfl _ _ _) rfl ?_)
    exact ⟨by first | rfl | (simp [errW_none, errW_some] <;> rfl) | (simp [*, errW_none, errW_some] <;> rfl), by (with_reducible repeat (first | apply Kd.R_alloc | apply Kd.R_drewN | apply Kd.R_drew)); exact HO_0.out, by repeat (first | (with_reducible first | exact HB.out | apply below_alloc | apply pw_below_drewN | apply below_drew1) | exact HB.out), by repeat (first | (with_reducible first | exact HK.out | apply Kept.alloc | apply Kept.drewN | apply Kept.drew) | exact HK.out)⟩
/-! ### api_View_36: function 36 -/
def api_View_36.f (k : Nat) (l0 : List (S26))  : Option ((List (S26))) := (bits_Len.f k (IntKind.u64.wrap ((l0.length : Int)))).bind fun t147 => ((api_View_50.f k l0 0 (l0.length : Int) t147).bind fun t148 => (some t148))
theorem api_View_36.mono : ∀ a0 k, LeO (api_View_36.f k a0) (api_View_36.f (k + 1) a0) := by
  intro a0 k
  unfold api_View_36.f
  repeat' first
      | (with_reducible exact api_View_50.mono _ _ _ _ _)
      | (with_reducible exact bits_Len.mono _ _)
      | (with_reducible exact LeO.refl _)
      | (with_reducible exact LeO.none _)
      | (with_reducible refine LeO.ite ?_ ?_)
      | (with_reducible refine LeO.bind ?_ (fun _ => ?_))
      | exact api_View_50.mono _ _ _ _ _
      | exact bits_Len.mono _ _
      | exact LeO.none _
      | refine LeO.ite ?_ ?_
      | refine LeO.bind ?_ (fun _ => ?_)
set_option maxHeartbeats 8000000 in
set_option maxRecDepth 100000 in
theorem api_View_36.calls (k : Nat) (P0_ : Nat → Prop) (u9000_ : Value) (l0 : List (S26))  (r : List (S26)) (w0 w : World) (hB : Below w0.heap.size w0 w) (ho0 : Kd.R k26 26 w w0.heap.size P0_ u9000_ l0) (h : api_View_36.f k l0 = some r) :
    Calls Try.prog 36 #[u9000_, .func (.func 37) #[] #[]] w fun e w' => e = .returned (.tuple #[]) ∧ Kd.R k26 26 w' w0.heap.size (fun k_ => (P0_ k_ ∨ w.heap.size ≤ k_)) u9000_ r ∧ Below w0.heap.size w0 w' ∧ Kept w w' (fun k_ => P0_ k_) := by
  have HO0 := zM (show Kd.R k26 26 w w0.heap.size (fun k_ => (P0_ k_ ∨ w.heap.size ≤ k_)) u9000_ l0 from Kd.R_mono ho0 (fun k_ hk => (.inl hk)))
  have HK := zM (Kept.refl w (fun k_ => P0_ k_))
  have HW0 := zM hB.size
  have HB := zM hB
  clear hB
  have H : ((bits_Len.f k (IntKind.u64.wrap ((l0.length : Int)))).bind fun t147 => ((api_View_50.f k l0 0 (l0.length : Int) t147).bind fun t148 => (some t148))) = some r := h
  clear h
  replace H := Option.bind_eq_some_iff.mp H
  obtain ⟨t147, A30, H⟩ := H
  replace H : ((api_View_50.f k l0 0 (l0.length : Int) t147).bind fun t148 => (some t148)) = some r := H
  have A3 := zM A30
  clear A30
  replace H := Option.bind_eq_some_iff.mp H
  obtain ⟨t148, A40, H⟩ := H
  replace H : (some t148) = some r := H
  have A4 := zM A40
  clear A40
  obtain rfl := Option.some.inj H
  obtain ⟨Ao5, co5, eo5⟩ := Kd.R_slice HO0.out
  subst eo5
  go_enter Try.func36, Try.ntmps36
  go_wp2_with (first | ((with_reducible refine gate_callee (f := 47) rfl ?_); refine goL_ (some 11) Try.func47 #[.int .u64 (IntKind.u64.wrap ((l0.length : Int)))] ?_; (with_reducible refine (bits_Len.calls k (IntKind.u64.wrap ((l0.length : Int))) t147 _ A3.out).mono ?_); rintro e w' ⟨rfl, ⟨nd, rfl⟩⟩; refine ⟨_, rfl, ?_⟩) | ((with_reducible refine gate_callee (f := 50) rfl ?_); refine goL_ (some 13) Try.func50 #[.slice Ao5 l0.length co5, .int .i64 0, .int .i64 (l0.length : Int), .int .i64 t147, .func (.func 37) #[] #[]] ?_; (with_reducible refine (api_View_50.calls k (fun k_ => some k_ = (.slice Ao5 l0.length co5 : Value).ownBlock) (.slice Ao5 l0.length co5) l0 0 (l0.length : Int) t147  t148 w0 _ ?side1 ?side2 A4.out).mono ?_); (case side1 => repeat (first | (with_reducible first | exact HB.out | apply below_alloc | apply pw_below_drewN | apply below_drew1) | exact HB.out)); (case side2 => exact Kd.R_tight rfl HO0.out); rintro e w6 ⟨rfl, hy0, hb, hkp⟩; refine ⟨_, rfl, ?_⟩; replace HK := zM (Kept.then_ (S := (fun k_ => P0_ k_)) (by repeat (first | (with_reducible first | exact HK.out | apply Kept.alloc | apply Kept.drewN | apply Kept.drew) | exact HK.out)) hkp (fun k_ hs_ => (fun e_ => (HO0.out.1 k_ e_.symm)) hs_)); replace HO0 := zM (Kd.R_reok rfl hy0 (fun k_ e_ => HO0.out.1 k_ e_)); replace HB := zM (hb); (try clear hb); (try clear hkp); (try clear hy0)))
  first | go_end0 | ((try simp only [Exit.inBlock, Exit.then]); refine bodyPost_ret (results_none rfl _ _ _) rfl ?_)
  exact ⟨by first | rfl | (simp [errW_none, errW_some] <;> rfl) | (simp [*, errW_none, errW_some] <;> rfl), by (with_reducible repeat (first | apply Kd.R_alloc | apply Kd.R_drewN | apply Kd.R_drew)); exact HO0.out, by repeat (first | (with_reducible first | exact HB.out | apply below_alloc | apply pw_below_drewN | apply below_drew1) | exact HB.out), by repeat (first | (with_reducible first | exact HK.out | apply Kept.alloc | apply Kept.drewN | apply Kept.drew) | exact HK.out)⟩
/-! ### cells_Changes: function 27 -/
def cells_Changes.l0 : Nat → List (S26) → List (S34) → Int → Int → Option ((List (S26)))
  | 0, _, _, _, _ => none
  | k + 1, x3, x6, x7, x8 => if x8 < x7 then (if 0 ≤ x8 then (if x8 < (x6.length : Int) then ((api_View_35.f k x3 ((rd_T34 x6 x8).f1.f0) ((rd_T34 x6 x8).f1.f1)).bind fun t151 => (if t151 = true then (cells_Changes.l0 k x3 x6 x7 (wrap64 (x8 + 1))) else (if x3.length < 8796093022208 then (cells_Changes.l0 k (x3 ++ [(⟨(rd_T34 x6 x8).f1.f0, (rd_T34 x6 x8).f1.f1⟩ : S26)]) x6 x7 (wrap64 (x8 + 1))) else (none)))) else (none)) else (none)) else ((api_View_36.f k x3).bind fun t155 => (some t155))
def cells_Changes.f (k : Nat) (l0 : List (S34)) : Option ((List (S26))) := cells_Changes.l0 k ([] : List (S26)) l0 (l0.length : Int) 0
theorem cells_Changes.mono_l : ∀ k, (∀ y0 y1 y2 y3, LeO (cells_Changes.l0 k y0 y1 y2 y3) (cells_Changes.l0 (k + 1) y0 y1 y2 y3))
  | 0 => fun _ _ _ _ r h => by simp [cells_Changes.l0] at h
  | k + 1 => by
    have ih0 := cells_Changes.mono_l k
    · intro y0 y1 y2 y3
      unfold cells_Changes.l0
      repeat' first
      | (with_reducible exact ih0 _ _ _ _)
      | (with_reducible exact api_View_35.mono _ _ _ _)
      | (with_reducible exact api_View_36.mono _ _)
      | (with_reducible exact LeO.refl _)
      | (with_reducible exact LeO.none _)
      | (with_reducible refine LeO.ite ?_ ?_)
      | (with_reducible refine LeO.bind ?_ (fun _ => ?_))
      | exact ih0 _ _ _ _
      | exact api_View_35.mono _ _ _ _
      | exact api_View_36.mono _ _
      | exact LeO.none _
      | refine LeO.ite ?_ ?_
      | refine LeO.bind ?_ (fun _ => ?_)
theorem cells_Changes.mono : ∀ a0 k, LeO (cells_Changes.f k a0) (cells_Changes.f (k + 1) a0) := by
  intro a0 k
  have ih0 := cells_Changes.mono_l k
  unfold cells_Changes.f
  repeat' first
      | (with_reducible exact ih0 _ _ _ _)
      | (with_reducible exact api_View_35.mono _ _ _ _)
      | (with_reducible exact api_View_36.mono _ _)
      | (with_reducible exact LeO.refl _)
      | (with_reducible exact LeO.none _)
      | (with_reducible refine LeO.ite ?_ ?_)
      | (with_reducible refine LeO.bind ?_ (fun _ => ?_))
      | exact ih0 _ _ _ _
      | exact api_View_35.mono _ _ _ _
      | exact api_View_36.mono _ _
      | exact LeO.none _
      | refine LeO.ite ?_ ?_
      | refine LeO.bind ?_ (fun _ => ?_)
set_option maxHeartbeats 8000000 in
set_option maxRecDepth 100000 in
theorem cells_Changes.calls (k : Nat) (A0 : Option Addr) (c0 : Nat) (l0 : List (S34)) (r : List (S26)) (w : World) (hr0 : Kd.C k34 w A0 l0.length l0) (hc0 : l0.length ≤ c0) (h : cells_Changes.f k l0 = some r) :
    Calls Try.prog 27 #[.slice A0 l0.length c0] w fun e w' => ∃ v0_ : Value, e = .returned (v0_) ∧ Kd.R k26 26 w' w.heap.size (fun _ => True) v0_ r ∧ Below w.heap.size w w' := by
  have hu34 := Try.underlying34
  have hu26 := Try.underlying26
  have HR0 := zM hr0
  have HC0 := zM hc0
  clear hr0 hc0
  have HB := zM (Below.refl w.heap.size w)
  have H : (cells_Changes.l0 k ([] : List (S26)) l0 (l0.length : Int) 0) = some r := h
  clear h
  have H' := zM H
  clear H
  go_enter Try.func27, Try.ntmps27
  go_wp2
  go_loopg [3, 8] k (fun kq v3 v8 w' => ∃ (x3_1 : List (S26)) (x8_1 : Int), v8 = .int .i64 x8_1 ∧ Aside0 (cells_Changes.l0 kq x3_1 l0 (l0.length : Int) x8_1 = some r) ∧ Aside0 (kq ≤ k) ∧ Aside0 (Kd.R k26 26 w' w.heap.size (fun _ => True) v3 x3_1) ∧ Aside0 (Below w.heap.size w w'))
  case atStart => exact ⟨(([] : List (S26))), (0), (by first | rfl | (simp; done) | (simp [*]; done) | (simp; grind)), H', ⟨Nat.le_refl _⟩, ⟨by first | exact Kd.R_nil _ _ _ _ _ | exact Kd.N_nil _ _ _ _ _ | exact Kd.V_nil _ _ _ _ _ | exact Kd.Q_nil _ _ _ _ _ | exact Kd.S_nil _ _ _ _ _⟩, ⟨bel_⟩⟩
  case round =>
   clear H'
   obtain ⟨x3_1, x8_1, rfl, HA, HK1, HO_3, HB⟩ := hrel
   cases gk with
   | zero => exact absurd HA.out (by simp [cells_Changes.l0])
   | succ k1 =>
    have H := HA.out
    clear HA
    simp only [cells_Changes.l0] at H
    by_cases c2 : x8_1 < (l0.length : Int)
    rotate_left
    · rw [if_neg c2] at H
      have c2b0 : decide (x8_1 < (l0.length : Int)) = false := decide_eq_false c2
      clear c2
      replace H := Option.bind_eq_some_iff.mp H
      obtain ⟨t155, A180, H⟩ := H
      replace H : (some t155) = some r := H
      have A18 := zM A180
      clear A180
      obtain rfl := Option.some.inj H
      obtain ⟨Ao19, co19, eo19⟩ := Kd.R_slice HO_3.out
      subst eo19
      go_wp2_with (first | ((with_reducible refine gate_callee (f := 36) rfl ?_); refine goL_ (some 24) Try.func36 #[.slice Ao19 x3_1.length co19, .func (.func 37) #[] #[]] ?_; (with_reducible refine (api_View_36.calls k1 (fun k_ => some k_ = (.slice Ao19 x3_1.length co19 : Value).ownBlock) (.slice Ao19 x3_1.length co19) x3_1  t155 w _ ?side1 ?side2 A18.out).mono ?_); (case side1 => repeat (first | (with_reducible first | exact HB.out | apply below_alloc | apply pw_below_drewN | apply below_drew1) | exact HB.out)); (case side2 => exact Kd.R_tight rfl HO_3.out); rintro e w20 ⟨rfl, hy0, hb, hkp⟩; refine ⟨_, rfl, ?_⟩; replace HO_3 := zM (Kd.R_reok rfl hy0 (fun k_ e_ => HO_3.out.1 k_ e_)); replace HB := zM (hb); (try clear hb); (try clear hkp); (try clear hy0)))
      go_ret
      exact ⟨_, by first | rfl | (simp [errW_none, errW_some] <;> rfl) | (simp [*, errW_none, errW_some] <;> rfl), by (with_reducible repeat (first | apply Kd.R_alloc | apply Kd.R_drewN | apply Kd.R_drew)); exact HO_3.out, bel_⟩
    rw [if_pos c2] at H
    have c2b0 : decide (x8_1 < (l0.length : Int)) = true := decide_eq_true c2
    clear c2
    by_cases c3 : 0 ≤ x8_1
    rotate_left
    · rw [if_neg c3] at H
      exact absurd H (by simp)
    rw [if_pos c3] at H
    have c3b0 : decide (0 ≤ x8_1) = true := decide_eq_true c3
    clear c3
    by_cases c4 : x8_1 < (l0.length : Int)
    rotate_left
    · rw [if_neg c4] at H
      exact absurd H (by simp)
    rw [if_pos c4] at H
    have c4b0 : decide (x8_1 < (l0.length : Int)) = true := decide_eq_true c4
    clear c4
    replace H := Option.bind_eq_some_iff.mp H
    obtain ⟨t151, A50, H⟩ := H
    replace H : (if t151 = true then (cells_Changes.l0 k1 x3_1 l0 (l0.length : Int) (wrap64 (x8_1 + 1))) else (if x3_1.length < 8796093022208 then (cells_Changes.l0 k1 (x3_1 ++ [(⟨(rd_T34 l0 x8_1).f1.f0, (rd_T34 l0 x8_1).f1.f1⟩ : S26)]) l0 (l0.length : Int) (wrap64 (x8_1 + 1))) else (none))) = some r := H
    have A5 := zM A50
    clear A50
    by_cases c6 : t151 = true
    · subst c6
      have H1 : (cells_Changes.l0 k1 x3_1 l0 (l0.length : Int) (wrap64 (x8_1 + 1))) = some r := by rw [if_pos rfl] at H; exact H
      clear H
      have H := H1
      clear H1
      have H' := zM H
      clear H
      have p149 : 0 ≤ (x8_1 : Int) := of_decide_eq_true (by first | (with_reducible assumption) | assumption)
      have q149 : x8_1 < (l0.length : Int) := of_decide_eq_true (by first | (with_reducible assumption) | assumption)
      obtain ⟨ad149, e149, hx149_0, hx149_1, hx149_2⟩ := at_T34 HR0.out x8_1 p149 q149
      cases e149
      replace hx149_0 := (HB.out.cell (World.block_lt_of_cell? w _ hx149_0)).trans hx149_0
      replace hx149_1 := (HB.out.cell (World.block_lt_of_cell? w _ hx149_1)).trans hx149_1
      replace hx149_2 := (HB.out.cell (World.block_lt_of_cell? w _ hx149_2)).trans hx149_2
      replace p149 := eq_true p149
      replace q149 := eq_true q149
      go_wp2_with (first | ((with_reducible refine gate_dst (N := 5) rfl ?_); refine box_event ?hg (N := 5) ?hd (cs := #[.int .i64 0, .int .i64 0, .int .i64 0]) (t := 34) ?hr ?_; (case hd => rfl); (case hg => rfl); (case hr => first | (go_simp; done) | (go_simp; rfl)); intro gb150 hg w7 hbox hb; replace HO_3 := zM (Kd.R_below (rl_ HO_3) hb); have BK150 := zM (hbox); have GW150 := zM (bs_ hg); have GE150 := zM (bs_ hg); replace HB := zM (zB bel_ hb); clear hb hbox hg; obtain ⟨hcz8_0, hcz8_1, hcz8_2⟩ := r3_ BK150.out; obtain ⟨hfz8_0, hfz8_1, hfz8_2⟩ := f3_ BK150.out; obtain ⟨Ao9, co9, eo9⟩ := Kd.R_slice HO_3.out; subst eo9) | ((with_reducible refine gate_callee (f := 35) rfl ?_); refine goL_ (some 15) Try.func35 #[.slice Ao9 x3_1.length co9, .agg #[.int .i64 ((rd_T34 l0 x8_1).f1.f0), .int .i64 ((rd_T34 l0 x8_1).f1.f1)]] ?_; (with_reducible refine (api_View_35.calls k1 _ _ x3_1 ((rd_T34 l0 x8_1).f1.f0) ((rd_T34 l0 x8_1).f1.f1) true _ ?side1 ?side2 A5.out).mono ?_); (case side1 => refine (Kd.R_reads' (e := 26) (base := w.heap.size) (ok := fun k_ => True) (n := x3_1.length) (c := co9) ?_).2.2; exact (by (with_reducible repeat (first | apply Kd.R_alloc | apply Kd.R_drewN | apply Kd.R_drew)); exact (Kd.R_mono (Kd.R_far (p := ⟨gb150, 2, none⟩) (Kd.R_far (p := ⟨gb150, 1, none⟩) (Kd.R_far (p := ⟨gb150, 0, none⟩) (Kd.R_types HO_3.out BK150.out (by decide)) (fun _ hk => hk.2) (.int .i64 ((rd_T34 l0 x8_1).f0))) (fun _ hk => hk.2) (.int .i64 ((rd_T34 l0 x8_1).f1.f0))) (fun _ hk => hk.2) (.int .i64 ((rd_T34 l0 x8_1).f1.f1))) (fun _ h_ => h_.1)))); (case side2 => exact (Kd.R_reads' HO_3.out).2.1); rintro e w10 ⟨rfl, hb⟩; refine ⟨_, rfl, ?_⟩; replace HO_3 := zM (Kd.R_below (by (with_reducible repeat (first | apply Kd.R_alloc | apply Kd.R_drewN | apply Kd.R_drew)); exact (Kd.R_mono (Kd.R_far (p := ⟨gb150, 2, none⟩) (Kd.R_far (p := ⟨gb150, 1, none⟩) (Kd.R_far (p := ⟨gb150, 0, none⟩) (Kd.R_types HO_3.out BK150.out (by decide)) (fun _ hk => hk.2) (.int .i64 ((rd_T34 l0 x8_1).f0))) (fun _ hk => hk.2) (.int .i64 ((rd_T34 l0 x8_1).f1.f0))) (fun _ hk => hk.2) (.int .i64 ((rd_T34 l0 x8_1).f1.f1))) (fun _ h_ => h_.1))) hb); replace BK150 := zM (blk_below (g := gb150) (o := .cells #[.int .i64 ((rd_T34 l0 x8_1).f0), .int .i64 ((rd_T34 l0 x8_1).f1.f0), .int .i64 ((rd_T34 l0 x8_1).f1.f1)] 34 (0, 0)) (by (with_reducible repeat (first | refine zN ?_ _ | refine zD ?_ | refine zA ?_ _)); exact fx3_ BK150) hb); replace HB := zM (zB bel_ hb); (try clear hb); (try clear hb2); (try clear hk); (try clear hi)))
      go_roundg k1
      case measure => have := HK1.out; omega
      case rel => exact ⟨(x3_1), (wrap64 (x8_1 + 1)), (by first | rfl | (simp; done) | (simp [*]; done) | (simp; grind)), H', ⟨by have := HK1.out; omega⟩, ⟨by (with_reducible repeat (first | apply Kd.R_alloc | apply Kd.R_drewN | apply Kd.R_drew)); exact HO_3.out⟩, ⟨bel_⟩⟩
    replace c6 := Bool.eq_false_iff.mpr c6
    subst c6
    have H1 : (if x3_1.length < 8796093022208 then (cells_Changes.l0 k1 (x3_1 ++ [(⟨(rd_T34 l0 x8_1).f1.f0, (rd_T34 l0 x8_1).f1.f1⟩ : S26)]) l0 (l0.length : Int) (wrap64 (x8_1 + 1))) else (none)) = some r := by rw [if_neg (show ¬ (false = true) by decide)] at H; exact H
    clear H
    have H := H1
    clear H1
    by_cases c11 : x3_1.length < 8796093022208
    rotate_left
    · rw [if_neg c11] at H
      exact absurd H (by simp)
    rw [if_pos c11] at H
    have LMc11 := zM c11
    clear c11
    obtain ⟨y152, hy152⟩ : ∃ y_ : List (S26), y_ = (x3_1 ++ [(⟨(rd_T34 l0 x8_1).f1.f0, (rd_T34 l0 x8_1).f1.f1⟩ : S26)]) := ⟨_, rfl⟩
    replace H : (cells_Changes.l0 k1 y152 l0 (l0.length : Int) (wrap64 (x8_1 + 1))) = some r := by first | (rw [hy152]; with_reducible exact H) | (have H2_ := (Option.bind_some _ _).symm.trans H; rw [hy152]; with_reducible exact H2_) | (have H2_ := (Option.bind_some _ _).symm.trans H; with_reducible exact H2_) | with_reducible exact H | (rw [hy152]; exact H) | exact H
    have Ny152 := zM hy152
    clear hy152
    have H' := zM H
    clear H
    have p149 : 0 ≤ (x8_1 : Int) := of_decide_eq_true (by first | (with_reducible assumption) | assumption)
    have q149 : x8_1 < (l0.length : Int) := of_decide_eq_true (by first | (with_reducible assumption) | assumption)
    obtain ⟨ad149, e149, hx149_0, hx149_1, hx149_2⟩ := at_T34 HR0.out x8_1 p149 q149
    cases e149
    replace hx149_0 := (HB.out.cell (World.block_lt_of_cell? w _ hx149_0)).trans hx149_0
    replace hx149_1 := (HB.out.cell (World.block_lt_of_cell? w _ hx149_1)).trans hx149_1
    replace hx149_2 := (HB.out.cell (World.block_lt_of_cell? w _ hx149_2)).trans hx149_2
    replace p149 := eq_true p149
    replace q149 := eq_true q149
    go_wp2_with (first | ((with_reducible refine gate_dst (N := 5) rfl ?_); refine box_event ?hg (N := 5) ?hd (cs := #[.int .i64 0, .int .i64 0, .int .i64 0]) (t := 34) ?hr ?_; (case hd => rfl); (case hg => rfl); (case hr => first | (go_simp; done) | (go_simp; rfl)); intro gb150 hg w12 hbox hb; replace HO_3 := zM (Kd.R_below (rl_ HO_3) hb); have BK150 := zM (hbox); have GW150 := zM (bs_ hg); have GE150 := zM (bs_ hg); replace HB := zM (zB bel_ hb); clear hb hbox hg; obtain ⟨hcz13_0, hcz13_1, hcz13_2⟩ := r3_ BK150.out; obtain ⟨hfz13_0, hfz13_1, hfz13_2⟩ := f3_ BK150.out; obtain ⟨Ao14, co14, eo14⟩ := Kd.R_slice HO_3.out; subst eo14) | ((with_reducible refine gate_callee (f := 35) rfl ?_); refine goL_ (some 15) Try.func35 #[.slice Ao14 x3_1.length co14, .agg #[.int .i64 ((rd_T34 l0 x8_1).f1.f0), .int .i64 ((rd_T34 l0 x8_1).f1.f1)]] ?_; (with_reducible refine (api_View_35.calls k1 _ _ x3_1 ((rd_T34 l0 x8_1).f1.f0) ((rd_T34 l0 x8_1).f1.f1) false _ ?side1 ?side2 A5.out).mono ?_); (case side1 => refine (Kd.R_reads' (e := 26) (base := w.heap.size) (ok := fun k_ => True) (n := x3_1.length) (c := co14) ?_).2.2; exact (by (with_reducible repeat (first | apply Kd.R_alloc | apply Kd.R_drewN | apply Kd.R_drew)); exact (Kd.R_mono (Kd.R_far (p := ⟨gb150, 2, none⟩) (Kd.R_far (p := ⟨gb150, 1, none⟩) (Kd.R_far (p := ⟨gb150, 0, none⟩) (Kd.R_types HO_3.out BK150.out (by decide)) (fun _ hk => hk.2) (.int .i64 ((rd_T34 l0 x8_1).f0))) (fun _ hk => hk.2) (.int .i64 ((rd_T34 l0 x8_1).f1.f0))) (fun _ hk => hk.2) (.int .i64 ((rd_T34 l0 x8_1).f1.f1))) (fun _ h_ => h_.1)))); (case side2 => exact (Kd.R_reads' HO_3.out).2.1); rintro e w15 ⟨rfl, hb⟩; refine ⟨_, rfl, ?_⟩; replace HO_3 := zM (Kd.R_below (by (with_reducible repeat (first | apply Kd.R_alloc | apply Kd.R_drewN | apply Kd.R_drew)); exact (Kd.R_mono (Kd.R_far (p := ⟨gb150, 2, none⟩) (Kd.R_far (p := ⟨gb150, 1, none⟩) (Kd.R_far (p := ⟨gb150, 0, none⟩) (Kd.R_types HO_3.out BK150.out (by decide)) (fun _ hk => hk.2) (.int .i64 ((rd_T34 l0 x8_1).f0))) (fun _ hk => hk.2) (.int .i64 ((rd_T34 l0 x8_1).f1.f0))) (fun _ hk => hk.2) (.int .i64 ((rd_T34 l0 x8_1).f1.f1))) (fun _ h_ => h_.1))) hb); replace BK150 := zM (blk_below (g := gb150) (o := .cells #[.int .i64 ((rd_T34 l0 x8_1).f0), .int .i64 ((rd_T34 l0 x8_1).f1.f0), .int .i64 ((rd_T34 l0 x8_1).f1.f1)] 34 (0, 0)) (by (with_reducible repeat (first | refine zN ?_ _ | refine zD ?_ | refine zA ?_ _)); exact fx3_ BK150) hb); replace HB := zM (zB bel_ hb); (try clear hb); (try clear hb2); (try clear hk); (try clear hi); obtain ⟨hcz16_0, hcz16_1, hcz16_2⟩ := r3_ BK150.out; obtain ⟨hfz16_0, hfz16_1, hfz16_2⟩ := f3_ BK150.out) | ((with_reducible refine gate_builtin (b := .append) (xs := #[.tmp 17, .tmp 20]) rfl ?_); at_builtin; refine Kd.R_append k26 (w0 := w) w.heap.size rfl (.tmp 17) (.tmp 20) 31 26 (.agg #[(.int .i64 0), (.int .i64 0)]) 16 rfl Try.underlying31 info26 rfl (by decide) (by omega) (.slice Ao14 x3_1.length co14) x3_1 (⟨(rd_T34 l0 x8_1).f1.f0, (rd_T34 l0 x8_1).f1.f1⟩ : S26) [.int .i64 ((rd_T34 l0 x8_1).f1.f0), .int .i64 ((rd_T34 l0 x8_1).f1.f1)] (fun _ => True) (fun _ => False) rfl rfl ?aP (fun _ hk => hk.elim) ?aF ?aO ?aB ?aS ?aL ?_; (case aP => exact k26_mkM _ _ _ (⟨(rd_T34 l0 x8_1).f1.f0, (rd_T34 l0 x8_1).f1.f1⟩ : S26)); (case aB => exact bel_); (case aF => exact (fun _ _ => trivial)); (case aO => exact (rl_ HO_3)); (case aS => exact (below_size bel_)); (case aL => have := LMc11.out; omega); intro v153 w17 ho hb hg hat; rw [← Ny152.out] at ho; replace BK150 := zM (blk_grown (g := gb150) (o := .cells #[.int .i64 ((rd_T34 l0 x8_1).f0), .int .i64 ((rd_T34 l0 x8_1).f1.f0), .int .i64 ((rd_T34 l0 x8_1).f1.f1)] 34 (0, 0)) blk_ hg (Kd.R_ne HO_3.out BK150.out (by decide))); replace HB := zM (hb); have HO154 := zM (ho); clear HO_3; clear ho hb hg hat))
    go_roundg k1
    case measure => have := HK1.out; omega
    case rel => exact ⟨(y152), (wrap64 (x8_1 + 1)), (by first | rfl | (simp; done) | (simp [*]; done) | (simp; grind)), H', ⟨by have := HK1.out; omega⟩, ⟨by (with_reducible repeat (first | apply Kd.R_alloc | apply Kd.R_drewN | apply Kd.R_drew)); exact HO154.out⟩, ⟨bel_⟩⟩
/-! ### snap_Snap_Found: function 12 -/
def snap_Snap_Found.f (k : Nat) (l0_0 : List (S34)) (a0_1 : Int) (l0_2 : List (S34)) : Option ((List (S26))) := (snap_Snap_update.f l0_0 a0_1 l0_2).bind fun t156 => (if t156 = true then (some ([] : List (S26))) else ((cells_Changes.f k l0_2).bind fun t157 => (some t157)))
theorem snap_Snap_Found.mono : ∀ a0 a1 a2 k, LeO (snap_Snap_Found.f k a0 a1 a2) (snap_Snap_Found.f (k + 1) a0 a1 a2) := by
  intro a0 a1 a2 k
  unfold snap_Snap_Found.f
  repeat' first
      | (with_reducible exact cells_Changes.mono _ _)
      | (with_reducible exact LeO.refl _)
      | (with_reducible exact LeO.none _)
      | (with_reducible refine LeO.ite ?_ ?_)
      | (with_reducible refine LeO.bind ?_ (fun _ => ?_))
      | exact cells_Changes.mono _ _
      | exact LeO.none _
      | refine LeO.ite ?_ ?_
      | refine LeO.bind ?_ (fun _ => ?_)
set_option maxHeartbeats 8000000 in
set_option maxRecDepth 100000 in
theorem snap_Snap_Found.calls (k : Nat) (g0_0 : Nat) (A0_0 : Option Addr) (c0_0 : Nat) (l0_0 : List (S34)) (a0_1 : Int) (A0_2 : Option Addr) (c0_2 : Nat) (l0_2 : List (S34)) (r : List (S26)) (w : World) (hr0_0 : Kd.C k34 w A0_0 l0_0.length l0_0) (hc0_0 : l0_0.length ≤ c0_0) (hr0_2 : Kd.C k34 w A0_2 l0_2.length l0_2) (hc0_2 : l0_2.length ≤ c0_2) (hb0_0 : w.heap[g0_0]? = some (.cells #[.slice A0_0 l0_0.length c0_0, .int .i64 a0_1, .slice A0_2 l0_2.length c0_2] 61 (0, 0))) (h : snap_Snap_Found.f k l0_0 a0_1 l0_2 = some r) :
    Calls Try.prog 12 #[.pointer (some ⟨g0_0, 0, none⟩)] w fun e w' => ∃ v0_ : Value, e = .returned (v0_) ∧ Kd.R k26 26 w' w.heap.size (fun _ => True) v0_ r ∧ Below w.heap.size w w' := by
  have HR0_0 := zM hr0_0
  have HC0_0 := zM hc0_0
  clear hr0_0 hc0_0
  have HR0_2 := zM hr0_2
  have HC0_2 := zM hc0_2
  clear hr0_2 hc0_2
  have BK40 := zM hb0_0
  clear hb0_0
  have HB := zM (Below.refl w.heap.size w)
  have H : ((snap_Snap_update.f l0_0 a0_1 l0_2).bind fun t156 => (if t156 = true then (some ([] : List (S26))) else ((cells_Changes.f k l0_2).bind fun t157 => (some t157)))) = some r := h
  clear h
  replace H := Option.bind_eq_some_iff.mp H
  obtain ⟨t156, A20, H⟩ := H
  replace H : (if t156 = true then (some ([] : List (S26))) else ((cells_Changes.f k l0_2).bind fun t157 => (some t157))) = some r := H
  have A2 := zM A20
  clear A20
  by_cases c3 : t156 = true
  · subst c3
    have H1 : (some ([] : List (S26))) = some r := by rw [if_pos rfl] at H; exact H
    clear H
    have H := H1
    clear H1
    obtain rfl := Option.some.inj H
    go_enter Try.func12, Try.ntmps12
    go_wp2_with (first | ((with_reducible refine gate_callee (f := 26) rfl ?_); refine goL_ (some 4) Try.func26 #[.pointer (some ⟨g0_0, 0, none⟩)] ?_; (with_reducible refine (snap_Snap_update.calls g0_0 A0_0 c0_0 l0_0 a0_1 A0_2 c0_2 l0_2 true _ ?side1 ?side2 ?side3 ?side4 ?side5 A2.out).mono ?_); (case side1 => repeat (first | exact HR0_0.out | (with_reducible refine Kd.C_alloc ?_ _) | (with_reducible refine Kd.C_drewN ?_ _) | (with_reducible refine Kd.C_drew ?_))); (case side2 => exact HC0_0.out); (case side3 => repeat (first | exact HR0_2.out | (with_reducible refine Kd.C_alloc ?_ _) | (with_reducible refine Kd.C_drewN ?_ _) | (with_reducible refine Kd.C_drew ?_))); (case side4 => exact HC0_2.out); (case side5 => exact blf_); rintro e w' ⟨rfl, ⟨nd, rfl⟩⟩; refine ⟨_, rfl, ?_⟩))
    go_ret
    exact ⟨_, by first | rfl | (simp [errW_none, errW_some] <;> rfl) | (simp [*, errW_none, errW_some] <;> rfl), by first | exact Kd.R_nil _ _ _ _ _ | exact Kd.N_nil _ _ _ _ _ | exact Kd.V_nil _ _ _ _ _ | exact Kd.Q_nil _ _ _ _ _ | exact Kd.S_nil _ _ _ _ _, bel_⟩
  replace c3 := Bool.eq_false_iff.mpr c3
  subst c3
  have H1 : ((cells_Changes.f k l0_2).bind fun t157 => (some t157)) = some r := by rw [if_neg (show ¬ (false = true) by decide)] at H; exact H
  clear H
  have H := H1
  clear H1
  replace H := Option.bind_eq_some_iff.mp H
  obtain ⟨t157, A40, H⟩ := H
  replace H : (some t157) = some r := H
  have A4 := zM A40
  clear A40
  obtain rfl := Option.some.inj H
  go_enter Try.func12, Try.ntmps12
  go_wp2_with (first | ((with_reducible refine gate_callee (f := 26) rfl ?_); refine goL_ (some 4) Try.func26 #[.pointer (some ⟨g0_0, 0, none⟩)] ?_; (with_reducible refine (snap_Snap_update.calls g0_0 A0_0 c0_0 l0_0 a0_1 A0_2 c0_2 l0_2 false _ ?side1 ?side2 ?side3 ?side4 ?side5 A2.out).mono ?_); (case side1 => repeat (first | exact HR0_0.out | (with_reducible refine Kd.C_alloc ?_ _) | (with_reducible refine Kd.C_drewN ?_ _) | (with_reducible refine Kd.C_drew ?_))); (case side2 => exact HC0_0.out); (case side3 => repeat (first | exact HR0_2.out | (with_reducible refine Kd.C_alloc ?_ _) | (with_reducible refine Kd.C_drewN ?_ _) | (with_reducible refine Kd.C_drew ?_))); (case side4 => exact HC0_2.out); (case side5 => exact blf_); rintro e w' ⟨rfl, ⟨nd, rfl⟩⟩; refine ⟨_, rfl, ?_⟩; have hcz5_0 : w.cell? ⟨g0_0, 0, none⟩ = some (.slice A0_0 l0_0.length c0_0) := (zL BK40.out 0).trans rfl; have hcz5_1 : w.cell? ⟨g0_0, 1, none⟩ = some (.int .i64 a0_1) := (zL BK40.out 1).trans rfl; have hcz5_2 : w.cell? ⟨g0_0, 2, none⟩ = some (.slice A0_2 l0_2.length c0_2) := (zL BK40.out 2).trans rfl; obtain ⟨hfz5_0, hfz5_1, hfz5_2⟩ := f3_ BK40.out) | ((with_reducible refine gate_callee (f := 27) rfl ?_); refine goL_ (some 9) Try.func27 #[.slice A0_2 l0_2.length c0_2] ?_; (with_reducible refine (cells_Changes.calls k _ _ l0_2 t157 _ ?side1 ?side2 A4.out).mono ?_); (case side1 => repeat (first | exact HR0_2.out | (with_reducible refine Kd.C_alloc ?_ _) | (with_reducible refine Kd.C_drewN ?_ _) | (with_reducible refine Kd.C_drew ?_))); (case side2 => exact HC0_2.out); rintro e w6 ⟨v158, rfl, ho0, hb⟩; refine ⟨_, rfl, ?_⟩; have HO159 := zM (Kd.R_lower ho0 (below_size bel_)); replace BK40 := zM (blk_below (g := g0_0) (o := .cells #[.slice A0_0 l0_0.length c0_0, .int .i64 a0_1, .slice A0_2 l0_2.length c0_2] 61 (0, 0)) blk_ hb); replace HB := zM (zB bel_ hb); (try clear hb); (try clear hb2); (try clear hk); (try clear hi); (try clear ho0)))
  go_ret
  exact ⟨_, by first | rfl | (simp [errW_none, errW_some] <;> rfl) | (simp [*, errW_none, errW_some] <;> rfl), by (with_reducible repeat (first | apply Kd.R_alloc | apply Kd.R_drewN | apply Kd.R_drew)); exact HO159.out, bel_⟩
/-! ### ropewaylaw15_snapAlive: function 10 -/
def ropewaylaw15_snapAlive.f (k : Nat)  : Option (Bool) := (some (([(⟨2, (⟨8, 0⟩ : S26)⟩ : S34)] : List (S34)) : List (S34))).bind fun y162 => ((api_Cell.f ([] : List (S34))).bind fun t166 => ((api_Cell.f ([] : List (S34))).bind fun t169 => (if ((y162.length : Int) > 0) then (if (t169.length : Int) = 0 then ((api_Cell.f y162).bind fun t172 => (if (t172.length : Int) = 1 then (if 0 < (t172.length : Int) then (if ((rd_T34 t172 0).f0) = 2 then ((cells_Changes.f k t166).bind fun t179 => (some ((t179.length : Int) == 0))) else (some false)) else (none)) else (some false))) else ((api_Cell.f t169).bind fun t175 => (some false))) else (none))))
theorem ropewaylaw15_snapAlive.mono : ∀ k, LeO (ropewaylaw15_snapAlive.f k ) (ropewaylaw15_snapAlive.f (k + 1) ) := by
  intro  k
  unfold ropewaylaw15_snapAlive.f
  repeat' first
      | (with_reducible exact cells_Changes.mono _ _)
      | (with_reducible exact LeO.refl _)
      | (with_reducible exact LeO.none _)
      | (with_reducible refine LeO.ite ?_ ?_)
      | (with_reducible refine LeO.bind ?_ (fun _ => ?_))
      | exact cells_Changes.mono _ _
      | exact LeO.none _
      | refine LeO.ite ?_ ?_
      | refine LeO.bind ?_ (fun _ => ?_)
set_option maxHeartbeats 8000000 in
set_option maxRecDepth 100000 in
theorem ropewaylaw15_snapAlive.calls (k : Nat)  (r : Bool) (w : World) (h : ropewaylaw15_snapAlive.f k  = some r) :
    Calls Try.prog 10 #[] w fun e w' => e = .returned (.bool r) ∧ Below w.heap.size w w' := by
  have hu26 := Try.underlying26
  have HB := zM (Below.refl w.heap.size w)
  have H : ((some (([(⟨2, (⟨8, 0⟩ : S26)⟩ : S34)] : List (S34)) : List (S34))).bind fun y162 => ((api_Cell.f ([] : List (S34))).bind fun t166 => ((api_Cell.f ([] : List (S34))).bind fun t169 => (if ((y162.length : Int) > 0) then (if (t169.length : Int) = 0 then ((api_Cell.f y162).bind fun t172 => (if (t172.length : Int) = 1 then (if 0 < (t172.length : Int) then (if ((rd_T34 t172 0).f0) = 2 then ((cells_Changes.f k t166).bind fun t179 => (some ((t179.length : Int) == 0))) else (some false)) else (none)) else (some false))) else ((api_Cell.f t169).bind fun t175 => (some false))) else (none))))) = some r := h
  have hr_ : r = true := det_ ropewaylaw15_snapAlive.mono h (show ropewaylaw15_snapAlive.f 60 = some true by decide +kernel)
  clear h
  obtain ⟨y162, hy162⟩ : ∃ y_ : List (S34), y_ = (([(⟨2, (⟨8, 0⟩ : S26)⟩ : S34)] : List (S34))) := ⟨_, rfl⟩
  replace H : ((api_Cell.f ([] : List (S34))).bind fun t166 => ((api_Cell.f ([] : List (S34))).bind fun t169 => (if ((y162.length : Int) > 0) then (if (t169.length : Int) = 0 then ((api_Cell.f y162).bind fun t172 => (if (t172.length : Int) = 1 then (if 0 < (t172.length : Int) then (if ((rd_T34 t172 0).f0) = 2 then ((cells_Changes.f k t166).bind fun t179 => (some ((t179.length : Int) == 0))) else (some false)) else (none)) else (some false))) else ((api_Cell.f t169).bind fun t175 => (some false))) else (none)))) = some r := by first | (rw [hy162]; with_reducible exact H) | (have H2_ := (Option.bind_some _ _).symm.trans H; rw [hy162]; with_reducible exact H2_) | (have H2_ := (Option.bind_some _ _).symm.trans H; with_reducible exact H2_) | with_reducible exact H | (rw [hy162]; exact H) | exact H
  have Ny162 := zM hy162
  clear hy162
  replace H := Option.bind_eq_some_iff.mp H
  obtain ⟨t166, A10, H⟩ := H
  replace H : ((api_Cell.f ([] : List (S34))).bind fun t169 => (if ((y162.length : Int) > 0) then (if (t169.length : Int) = 0 then ((api_Cell.f y162).bind fun t172 => (if (t172.length : Int) = 1 then (if 0 < (t172.length : Int) then (if ((rd_T34 t172 0).f0) = 2 then ((cells_Changes.f k t166).bind fun t179 => (some ((t179.length : Int) == 0))) else (some false)) else (none)) else (some false))) else ((api_Cell.f t169).bind fun t175 => (some false))) else (none))) = some r := H
  have A1 := zM A10
  clear A10
  replace H := Option.bind_eq_some_iff.mp H
  obtain ⟨t169, A20, H⟩ := H
  replace H : (if ((y162.length : Int) > 0) then (if (t169.length : Int) = 0 then ((api_Cell.f y162).bind fun t172 => (if (t172.length : Int) = 1 then (if 0 < (t172.length : Int) then (if ((rd_T34 t172 0).f0) = 2 then ((cells_Changes.f k t166).bind fun t179 => (some ((t179.length : Int) == 0))) else (some false)) else (none)) else (some false))) else ((api_Cell.f t169).bind fun t175 => (some false))) else (none)) = some r := H
  have A2 := zM A20
  clear A20
  by_cases c3 : ((y162.length : Int) > 0)
  rotate_left
  · rw [if_neg c3] at H
    exact absurd H (by simp)
  rw [if_pos c3] at H
  have c3b0 : decide (0 < (y162.length : Int)) = true := decide_eq_true c3
  have c3b1 : decide (0 < y162.length) = true := decide_eq_true (by omega)
  clear c3
  by_cases c4 : (t169.length : Int) = 0
  rotate_left
  · rw [if_neg c4] at H
    have c4b0 : ((t169.length : Int) == 0) = false := beq_eq_false_iff_ne.mpr c4
    have c4b1 : ((t169.length : Int) != 0) = true := bne_iff_ne.mpr c4
    have c4b2 : ¬ (t169 = []) := fun h_ => c4 (by rw [h_]; rfl)
    replace H := Option.bind_eq_some_iff.mp H
    obtain ⟨t175, A2250, H⟩ := H
    replace H : (some false) = some r := H
    have A225 := zM A2250
    clear A2250
    exact absurd ((Option.some.inj H).trans hr_) (by decide)
  rw [if_pos c4] at H
  have c4b0 : ((t169.length : Int) == 0) = true := beq_iff_eq.mpr c4
  have c4b1 : ((t169.length : Int) != 0) = false := bne_eq_false_iff_eq.mpr c4
  clear c4
  replace H := Option.bind_eq_some_iff.mp H
  obtain ⟨t172, A50, H⟩ := H
  replace H : (if (t172.length : Int) = 1 then (if 0 < (t172.length : Int) then (if ((rd_T34 t172 0).f0) = 2 then ((cells_Changes.f k t166).bind fun t179 => (some ((t179.length : Int) == 0))) else (some false)) else (none)) else (some false)) = some r := H
  have A5 := zM A50
  clear A50
  by_cases c6 : (t172.length : Int) = 1
  rotate_left
  · rw [if_neg c6] at H
    have c6b0 : ((t172.length : Int) == 1) = false := beq_eq_false_iff_ne.mpr c6
    have c6b1 : ((t172.length : Int) != 1) = true := bne_iff_ne.mpr c6
    exact absurd ((Option.some.inj H).trans hr_) (by decide)
  rw [if_pos c6] at H
  have c6b0 : ((t172.length : Int) == 1) = true := beq_iff_eq.mpr c6
  have c6b1 : ((t172.length : Int) != 1) = false := bne_eq_false_iff_eq.mpr c6
  clear c6
  by_cases c7 : 0 < (t172.length : Int)
  rotate_left
  · rw [if_neg c7] at H
    exact absurd H (by simp)
  rw [if_pos c7] at H
  have c7b0 : decide (0 < (t172.length : Int)) = true := decide_eq_true c7
  have c7b1 : decide (0 < t172.length) = true := decide_eq_true (by omega)
  clear c7
  by_cases c8 : ((rd_T34 t172 0).f0) = 2
  rotate_left
  · rw [if_neg c8] at H
    have c8b0 : (((rd_T34 t172 0).f0) == 2) = false := beq_eq_false_iff_ne.mpr c8
    have c8b1 : (((rd_T34 t172 0).f0) != 2) = true := bne_iff_ne.mpr c8
    exact absurd ((Option.some.inj H).trans hr_) (by decide)
  rw [if_pos c8] at H
  have c8b0 : (((rd_T34 t172 0).f0) == 2) = true := beq_iff_eq.mpr c8
  have c8b1 : (((rd_T34 t172 0).f0) != 2) = false := bne_eq_false_iff_eq.mpr c8
  clear c8
  replace H := Option.bind_eq_some_iff.mp H
  obtain ⟨t179, A90, H⟩ := H
  replace H : (some ((t179.length : Int) == 0)) = some r := H
  have A9 := zM A90
  clear A90
  obtain rfl := Option.some.inj H
  go_enter Try.func10, Try.ntmps10
  have tk10 : True := trivial
  have tk12 : True := trivial
  have tk13 : True := trivial
  have tk14 : True := trivial
  have tk16 : True := trivial
  have tk21 : True := trivial
  have tk24 : True := trivial
  have tk25 : True := trivial
  have tk26 : True := trivial
  have tk29 : True := trivial
  have tk30 : True := trivial
  have tk32 : True := trivial
  have tk36 : True := trivial
  have tk39 : True := trivial
  have tk40 : True := trivial
  have tk42 : True := trivial
  have tk44 : True := trivial
  have tk45 : True := trivial
  have tk46 : True := trivial
  have tk48 : True := trivial
  have tk49 : True := trivial
  have tk53 : True := trivial
  have tk57 : True := trivial
  have tk60 : True := trivial
  have tk61 : True := trivial
  have tk63 : True := trivial
  have tk64 : True := trivial
  have tk65 : True := trivial
  have tk66 : True := trivial
  have tk67 : True := trivial
  have tk68 : True := trivial
  have tk69 : True := trivial
  have tk71 : True := trivial
  have tk72 : True := trivial
  have tk73 : True := trivial
  have tk75 : True := trivial
  have tk76 : True := trivial
  have tk77 : True := trivial
  have tk79 : True := trivial
  have tk80 : True := trivial
  have tk82 : True := trivial
  have tk84 : True := trivial
  have tk85 : True := trivial
  go_wp2_with (first | ((with_reducible refine gate_callee (f := 7) rfl ?_); clear tk10; refine goL_ (some 12) Try.func7 #[] ?_; go_enter Try.func7, Try.ntmps7) | ((with_reducible refine gate_dst (N := 2) rfl ?_); clear tk12; (try (refine gate_guard (by rfl) ?_; dsimp only)); refine box_event ?hg (N := 2) ?hd (cs := #[.slice none 0 0, .int .i64 0, .slice none 0 0]) (t := 61) ?hr ?_; (case hd => rfl); (case hg => rfl); (case hr => first | (go_simp; done) | (go_simp; rfl)); intro gb160 hg w11 hbox hb; have BK160 := zM (hbox); have GW160 := zM (bs_ hg); have GE160 := zM (bs_ hg); replace HB := zM (zB bel_ hb); clear hb hbox hg) | (clear tk13; (first | go_ret | go_ret2 | go_ret3 | go_end0); with_reducible refine inl_back_ ?_) | ((with_reducible refine gate_callee (f := 8) rfl ?_); clear tk14; refine goL_ (some 14) Try.func8 #[.int .i64 2, .agg #[.int .i64 8, .int .i64 0]] ?_; go_enter Try.func8, Try.ntmps8) | ((with_reducible refine gate_dst (N := 3) rfl ?_); clear tk16; (try (refine gate_guard (by rfl) ?_; dsimp only)); refine box_event ?hg (N := 3) ?hd (cs := #[.int .i64 8, .int .i64 0]) (t := 26) ?hr ?_; (case hd => rfl); (case hg => rfl); (case hr => first | (go_simp; done) | (go_simp; rfl)); intro gb161 hg w15 hbox hb; have BK161 := zM (hbox); have GW161 := zM (bs_ hg); have GE161 := zM (bs_ hg); replace HB := zM (zB bel_ hb); have NB160_161 := zM (nl_ BK160 hg); have NB161_160 := zM (ng_ BK160 hg); replace BK160 := zM (bb_ BK160 hb); clear hb hbox hg; have hnb17 := NB161_160.out; have hnc17 := NB160_161.out; obtain ⟨hcz18_0, hcz18_1⟩ := r2_ BK161.out; obtain ⟨hfz18_0, hfz18_1⟩ := f2_ BK161.out) | ((with_reducible refine gate_dst (N := 8) rfl ?_); clear tk21; (try (refine gate_guard (by rfl) ?_; dsimp only)); refine Kd.R_lit k34 _ 34 ?hg (N := 8) ?hd (xs := ([(⟨2, (⟨8, 0⟩ : S26)⟩ : S34)] : List (S34))) (inner := [.int .i64 2, .int .i64 8, .int .i64 0]) (ok := fun _ => True) (okp := fun _ => True) ?hr ?hp (fun _ hk => hk) trivial (Below.refl _ _) (Nat.le_refl _) (by simp) ?_; (case hd => rfl); (case hg => rfl); (case hr => first | (go_simp; done) | (go_simp; rfl)); (case hp => exact (Reps.c3 (show Kd.M k34 _ _ _ (⟨2, (⟨8, 0⟩ : S26)⟩ : S34) [.int .i64 2, .int .i64 8, .int .i64 0] from (k34_mkM _ _ _ (⟨2, (⟨8, 0⟩ : S26)⟩ : S34) )) (Reps.none _ _))); intro v163 w19 ho20 hb hg_ hnew_; clear hg_ hnew_; (first | rw [← Ny162.out] at ho20 | (simp only [Int.reduceToNat] at ho20; rw [← Ny162.out] at ho20)); have HO164 := zM (Kd.R_lower ho20 (below_size bel_)); replace BK160 := zM (bb_ BK160 hb); replace BK161 := zM (bb_ BK161 hb); replace HB := zM (zB bel_ hb); clear hb ho20; obtain ⟨Ao22, co22, eo22⟩ := Kd.R_slice HO164.out; subst eo22) | ((with_reducible refine gate_dst (N := 10) rfl ?_); clear tk24; (try (refine gate_guard (by rfl) ?_; dsimp only)); refine box_event ?hg (N := 10) ?hd (cs := #[.slice Ao22 y162.length co22, .int .i64 0, .slice none 0 0]) (t := 61) ?hr ?_; (case hd => rfl); (case hg => rfl); (case hr => first | (go_simp; done) | (go_simp; rfl)); intro gb165 hg w23 hbox hb; replace HO164 := zM (Kd.R_below (rl_ HO164) hb); have BK165 := zM (hbox); have GW165 := zM (bs_ hg); have GE165 := zM (bs_ hg); replace HB := zM (zB bel_ hb); have NB160_165 := zM (nl_ BK160 hg); have NB165_160 := zM (ng_ BK160 hg); replace BK160 := zM (bb_ BK160 hb); have NB161_165 := zM (nl_ BK161 hg); have NB165_161 := zM (ng_ BK161 hg); replace BK161 := zM (bb_ BK161 hb); clear hb hbox hg) | (clear tk25; (first | go_ret | go_ret2 | go_ret3 | go_end0); with_reducible refine inl_back_ ?_) | ((with_reducible refine gate_callee (f := 9) rfl ?_); clear tk26; refine goL_ (some 23) Try.func9 #[.pointer (some ⟨gb160, 0, none⟩)] ?_; go_enter Try.func9, Try.ntmps9; have hnb27 := NB160_165.out; have hnc27 := NB165_160.out; obtain ⟨hcz28_0, hcz28_1, hcz28_2⟩ := r3_ BK160.out; obtain ⟨hfz28_0, hfz28_1, hfz28_2⟩ := f3_ BK160.out) | (clear tk29; (first | go_ret | go_ret2 | go_ret3 | go_end0); with_reducible refine inl_back_ ?_) | ((with_reducible refine gate_callee (f := 15) rfl ?_); clear tk30; refine goL_ (some 28) Try.func15 #[.pointer (some ⟨gb160, 0, none⟩), .slice none 0 0] ?_; go_enter Try.func15, Try.ntmps15) | ((with_reducible refine gate_callee (f := 25) rfl ?_); clear tk32; refine goL_ (some 13) Try.func25 #[.slice none 0 0] ?_; (with_reducible refine calls_of_args (args' := #[.slice none 0 0]) rfl ?_); (refine (api_Cell.calls _ _ ([] : List (S34)) t166 _ ?side1 ?side2 A1.out).mono ?_); (case side1 => exact Kd.C_nil _ _); (case side2 => exact Nat.le_refl _); rintro e w31 ⟨v167, rfl, ho0, hb⟩; refine ⟨_, rfl, ?_⟩; have HO168 := zM (Kd.R_lower (Kd.R_new' ho0 (Kd.R_lt (rl_ HO164))) (below_size bel_)); replace HO164 := zM (Kd.R_elder' (rl_ HO164) (Kd.R_base ho0) hb); replace BK160 := zM (bb_ BK160 hb); replace BK161 := zM (bb_ BK161 hb); replace BK165 := zM (bb_ BK165 hb); replace HB := zM (zB bel_ hb); (try clear hb); (try clear hb2); (try clear hk); (try clear hi); (try clear ho0); obtain ⟨Ao33, co33, eo33⟩ := Kd.R_slice HO168.out; subst eo33; obtain ⟨hcz34_0, hcz34_1, hcz34_2⟩ := r3_ BK160.out; obtain ⟨hfz34_0, hfz34_1, hfz34_2⟩ := f3_ BK160.out) | ((with_reducible refine gate_store (t := 27) (p := 15) rfl ?_); clear tk36; refine store_event (t := 27) (p := 15) (v := ?vo_w35) (w1 := (w31.setCell ⟨gb160, 2, none⟩ (.slice Ao33 t166.length co33))) ?hg ?ho ?hn ?hr ?_; (case ho => rfl); (case hg => rfl); (case hn => rfl); (case hr => first | (go_simp; done) | (go_simp; rfl)); intro w35 hw; have n0_ : Aside0 (Kd.R k34 34 w35 w.heap.size (fun k_ => some k_ ≠ (.slice Ao33 t166.length co33 : Value).ownBlock) (.slice Ao22 y162.length co22) y162) := ⟨(by rw [hw]; exact (by (with_reducible repeat (first | apply Kd.R_alloc | apply Kd.R_drewN | apply Kd.R_drew)); exact Kd.R_mono (Kd.R_far (p := ⟨gb160, 2, none⟩) (Kd.R_types HO164.out BK160.out (by decide)) (fun _ hk => hk.2) (.slice Ao33 t166.length co33)) (fun _ hk => hk.1.2)))⟩; have n1_ : Aside0 (Kd.R k34 34 w35 w.heap.size (fun k_ => some k_ ≠ (.slice Ao22 y162.length co22 : Value).ownBlock) (.slice Ao33 t166.length co33) t166) := ⟨(by rw [hw]; exact (by (with_reducible repeat (first | apply Kd.R_alloc | apply Kd.R_drewN | apply Kd.R_drew)); exact Kd.R_mono (Kd.R_far (p := ⟨gb160, 2, none⟩) (Kd.R_types HO168.out BK160.out (by decide)) (fun _ hk => hk.2) (.slice Ao33 t166.length co33)) (fun _ hk => hk.1.2)))⟩; have n2_ : Aside0 (w35.heap[gb160]? = some (.cells #[.slice none 0 0, .int .i64 0, .slice Ao33 t166.length co33] 61 (0, 0))) := ⟨(by rw [hw]; exact (by (with_reducible repeat (first | refine zN ?_ _ | refine zD ?_ | refine zA ?_ _)); refine blk_put (cs := #[.slice none 0 0, .int .i64 0, .slice none 0 0]) ?_ 2 _ rfl; (with_reducible repeat (first | refine zN ?_ _ | refine zD ?_ | refine zA ?_ _)); exact BK160.out))⟩; have n3_ : Aside0 (w35.heap[gb161]? = some (.cells #[.int .i64 8, .int .i64 0] 26 (0, 0))) := ⟨(by rw [hw]; exact blf_)⟩; have n4_ : Aside0 (w35.heap[gb165]? = some (.cells #[.slice Ao22 y162.length co22, .int .i64 0, .slice none 0 0] 61 (0, 0))) := ⟨(by rw [hw]; exact blf_)⟩; have n5_ : Aside0 (Below w.heap.size w w35) := ⟨(by rw [hw]; exact bel_)⟩; clear hw; clear HO164; clear HO168; clear BK160; clear BK161; clear BK165; clear HB; have HO164 := n0_; have HO168 := n1_; have BK160 := n2_; have BK161 := n3_; have BK165 := n4_; have HB := n5_; clear n0_ n1_ n2_ n3_ n4_ n5_; obtain ⟨hcz37_0, hcz37_1, hcz37_2⟩ := r3_ BK160.out; obtain ⟨hfz37_0, hfz37_1, hfz37_2⟩ := f3_ BK160.out) | ((with_reducible refine gate_store (t := 3) (p := 22) rfl ?_); clear tk39; refine store_event (t := 3) (p := 22) (v := ?vo_w38) (w1 := (w35.setCell ⟨gb160, 1, none⟩ (.int .i64 1))) ?hg ?ho ?hn ?hr ?_; (case ho => rfl); (case hg => rfl); (case hn => rfl); (case hr => first | (go_simp; done) | (go_simp; rfl)); intro w38 hw; have n0_ : Aside0 (Kd.R k34 34 w38 w.heap.size (fun k_ => some k_ ≠ (.slice Ao33 t166.length co33 : Value).ownBlock) (.slice Ao22 y162.length co22) y162) := ⟨(by rw [hw]; exact (by (with_reducible repeat (first | apply Kd.R_alloc | apply Kd.R_drewN | apply Kd.R_drew)); exact Kd.R_mono (Kd.R_far (p := ⟨gb160, 1, none⟩) (Kd.R_types HO164.out BK160.out (by decide)) (fun _ hk => hk.2) (.int .i64 1)) (fun _ hk => hk.1)))⟩; have n1_ : Aside0 (Kd.R k34 34 w38 w.heap.size (fun k_ => some k_ ≠ (.slice Ao22 y162.length co22 : Value).ownBlock) (.slice Ao33 t166.length co33) t166) := ⟨(by rw [hw]; exact (by (with_reducible repeat (first | apply Kd.R_alloc | apply Kd.R_drewN | apply Kd.R_drew)); exact Kd.R_mono (Kd.R_far (p := ⟨gb160, 1, none⟩) (Kd.R_types HO168.out BK160.out (by decide)) (fun _ hk => hk.2) (.int .i64 1)) (fun _ hk => hk.1)))⟩; have n2_ : Aside0 (w38.heap[gb160]? = some (.cells #[.slice none 0 0, .int .i64 1, .slice Ao33 t166.length co33] 61 (0, 0))) := ⟨(by rw [hw]; exact (by (with_reducible repeat (first | refine zN ?_ _ | refine zD ?_ | refine zA ?_ _)); refine blk_put (cs := #[.slice none 0 0, .int .i64 0, .slice Ao33 t166.length co33]) ?_ 1 _ rfl; (with_reducible repeat (first | refine zN ?_ _ | refine zD ?_ | refine zA ?_ _)); exact BK160.out))⟩; have n3_ : Aside0 (w38.heap[gb161]? = some (.cells #[.int .i64 8, .int .i64 0] 26 (0, 0))) := ⟨(by rw [hw]; exact blf_)⟩; have n4_ : Aside0 (w38.heap[gb165]? = some (.cells #[.slice Ao22 y162.length co22, .int .i64 0, .slice none 0 0] 61 (0, 0))) := ⟨(by rw [hw]; exact blf_)⟩; have n5_ : Aside0 (Below w.heap.size w w38) := ⟨(by rw [hw]; exact bel_)⟩; clear hw; clear HO164; clear HO168; clear BK160; clear BK161; clear BK165; clear HB; have HO164 := n0_; have HO168 := n1_; have BK160 := n2_; have BK161 := n3_; have BK165 := n4_; have HB := n5_; clear n0_ n1_ n2_ n3_ n4_ n5_) | (go_at_call 26; clear tk40; go_enter Try.func26, Try.ntmps26; obtain ⟨hcz41_0, hcz41_1, hcz41_2⟩ := r3_ BK160.out; obtain ⟨hfz41_0, hfz41_1, hfz41_2⟩ := f3_ BK160.out) | (clear tk42; (first | go_ret | go_ret2 | go_ret3 | go_end0); simp only []; go_at_K) | ((with_reducible refine gate_store (t := 3) (p := 33) rfl ?_); clear tk44; refine store_event (t := 3) (p := 33) (v := ?vo_w43) (w1 := (w38.setCell ⟨gb160, 1, none⟩ (.int .i64 4))) ?hg ?ho ?hn ?hr ?_; (case ho => rfl); (case hg => rfl); (case hn => rfl); (case hr => first | (go_simp; done) | (go_simp; rfl)); intro w43 hw; have n0_ : Aside0 (Kd.R k34 34 w43 w.heap.size (fun k_ => some k_ ≠ (.slice Ao33 t166.length co33 : Value).ownBlock) (.slice Ao22 y162.length co22) y162) := ⟨(by rw [hw]; exact (by (with_reducible repeat (first | apply Kd.R_alloc | apply Kd.R_drewN | apply Kd.R_drew)); exact Kd.R_mono (Kd.R_far (p := ⟨gb160, 1, none⟩) (Kd.R_types HO164.out BK160.out (by decide)) (fun _ hk => hk.2) (.int .i64 4)) (fun _ hk => hk.1)))⟩; have n1_ : Aside0 (Kd.R k34 34 w43 w.heap.size (fun k_ => some k_ ≠ (.slice Ao22 y162.length co22 : Value).ownBlock) (.slice Ao33 t166.length co33) t166) := ⟨(by rw [hw]; exact (by (with_reducible repeat (first | apply Kd.R_alloc | apply Kd.R_drewN | apply Kd.R_drew)); exact Kd.R_mono (Kd.R_far (p := ⟨gb160, 1, none⟩) (Kd.R_types HO168.out BK160.out (by decide)) (fun _ hk => hk.2) (.int .i64 4)) (fun _ hk => hk.1)))⟩; have n2_ : Aside0 (w43.heap[gb160]? = some (.cells #[.slice none 0 0, .int .i64 4, .slice Ao33 t166.length co33] 61 (0, 0))) := ⟨(by rw [hw]; exact (by (with_reducible repeat (first | refine zN ?_ _ | refine zD ?_ | refine zA ?_ _)); refine blk_put (cs := #[.slice none 0 0, .int .i64 1, .slice Ao33 t166.length co33]) ?_ 1 _ rfl; (with_reducible repeat (first | refine zN ?_ _ | refine zD ?_ | refine zA ?_ _)); exact BK160.out))⟩; have n3_ : Aside0 (w43.heap[gb161]? = some (.cells #[.int .i64 8, .int .i64 0] 26 (0, 0))) := ⟨(by rw [hw]; exact blf_)⟩; have n4_ : Aside0 (w43.heap[gb165]? = some (.cells #[.slice Ao22 y162.length co22, .int .i64 0, .slice none 0 0] 61 (0, 0))) := ⟨(by rw [hw]; exact blf_)⟩; have n5_ : Aside0 (Below w.heap.size w w43) := ⟨(by rw [hw]; exact bel_)⟩; clear hw; clear HO164; clear HO168; clear BK160; clear BK161; clear BK165; clear HB; have HO164 := n0_; have HO168 := n1_; have BK160 := n2_; have BK161 := n3_; have BK165 := n4_; have HB := n5_; clear n0_ n1_ n2_ n3_ n4_ n5_) | (clear tk45; (first | go_ret | go_ret2 | go_ret3 | go_end0); with_reducible refine inl_back_ ?_) | ((with_reducible refine gate_callee (f := 9) rfl ?_); clear tk46; refine goL_ (some 31) Try.func9 #[.pointer (some ⟨gb160, 0, none⟩)] ?_; go_enter Try.func9, Try.ntmps9; obtain ⟨hcz47_0, hcz47_1, hcz47_2⟩ := r3_ BK160.out; obtain ⟨hfz47_0, hfz47_1, hfz47_2⟩ := f3_ BK160.out) | (clear tk48; (first | go_ret | go_ret2 | go_ret3 | go_end0); with_reducible refine inl_back_ ?_) | ((with_reducible refine gate_callee (f := 15) rfl ?_); clear tk49; refine goL_ (some 36) Try.func15 #[.pointer (some ⟨gb165, 0, none⟩), .slice none 0 0] ?_; go_enter Try.func15, Try.ntmps15; have hnb50 := NB165_161.out; have hnc50 := NB161_165.out; obtain ⟨hcz51_0, hcz51_1, hcz51_2⟩ := r3_ BK165.out; obtain ⟨hfz51_0, hfz51_1, hfz51_2⟩ := f3_ BK165.out) | ((with_reducible refine gate_callee (f := 25) rfl ?_); clear tk53; refine goL_ (some 13) Try.func25 #[.slice none 0 0] ?_; (with_reducible refine calls_of_args (args' := #[.slice none 0 0]) rfl ?_); (refine (api_Cell.calls _ _ ([] : List (S34)) t169 _ ?side1 ?side2 A2.out).mono ?_); (case side1 => exact Kd.C_nil _ _); (case side2 => exact Nat.le_refl _); rintro e w52 ⟨v170, rfl, ho0, hb⟩; refine ⟨_, rfl, ?_⟩; have HO171 := zM (Kd.R_lower (Kd.R_new' (Kd.R_new' ho0 (Kd.R_lt (rl_ HO164))) (Kd.R_lt (rl_ HO168))) (below_size bel_)); replace HO164 := zM (Kd.R_elder' (rl_ HO164) (Kd.R_base ho0) hb); replace HO168 := zM (Kd.R_elder' (rl_ HO168) (Kd.R_base ho0) hb); replace BK160 := zM (bb_ BK160 hb); replace BK161 := zM (bb_ BK161 hb); replace BK165 := zM (bb_ BK165 hb); replace HB := zM (zB bel_ hb); (try clear hb); (try clear hb2); (try clear hk); (try clear hi); (try clear ho0); obtain ⟨Ao54, co54, eo54⟩ := Kd.R_slice HO171.out; subst eo54; obtain ⟨hcz55_0, hcz55_1, hcz55_2⟩ := r3_ BK165.out; obtain ⟨hfz55_0, hfz55_1, hfz55_2⟩ := f3_ BK165.out) | ((with_reducible refine gate_store (t := 27) (p := 15) rfl ?_); clear tk57; refine store_event (t := 27) (p := 15) (v := ?vo_w56) (w1 := (w52.setCell ⟨gb165, 2, none⟩ (.slice Ao54 t169.length co54))) ?hg ?ho ?hn ?hr ?_; (case ho => rfl); (case hg => rfl); (case hn => rfl); (case hr => first | (go_simp; done) | (go_simp; rfl)); intro w56 hw; have n0_ : Aside0 (Kd.R k34 34 w56 w.heap.size (fun k_ => some k_ ≠ (.slice Ao33 t166.length co33 : Value).ownBlock ∧ some k_ ≠ (.slice Ao54 t169.length co54 : Value).ownBlock) (.slice Ao22 y162.length co22) y162) := ⟨(by rw [hw]; exact (by (with_reducible repeat (first | apply Kd.R_alloc | apply Kd.R_drewN | apply Kd.R_drew)); exact Kd.R_mono (Kd.R_far (p := ⟨gb165, 2, none⟩) (Kd.R_types HO164.out BK165.out (by decide)) (fun _ hk => hk.2) (.slice Ao54 t169.length co54)) (fun _ hk => ⟨hk.1.1, hk.1.2⟩)))⟩; have n1_ : Aside0 (Kd.R k34 34 w56 w.heap.size (fun k_ => some k_ ≠ (.slice Ao22 y162.length co22 : Value).ownBlock ∧ some k_ ≠ (.slice Ao54 t169.length co54 : Value).ownBlock) (.slice Ao33 t166.length co33) t166) := ⟨(by rw [hw]; exact (by (with_reducible repeat (first | apply Kd.R_alloc | apply Kd.R_drewN | apply Kd.R_drew)); exact Kd.R_mono (Kd.R_far (p := ⟨gb165, 2, none⟩) (Kd.R_types HO168.out BK165.out (by decide)) (fun _ hk => hk.2) (.slice Ao54 t169.length co54)) (fun _ hk => ⟨hk.1.1, hk.1.2⟩)))⟩; have n2_ : Aside0 (Kd.R k34 34 w56 w.heap.size (fun k_ => some k_ ≠ (.slice Ao22 y162.length co22 : Value).ownBlock ∧ some k_ ≠ (.slice Ao33 t166.length co33 : Value).ownBlock) (.slice Ao54 t169.length co54) t169) := ⟨(by rw [hw]; exact (by (with_reducible repeat (first | apply Kd.R_alloc | apply Kd.R_drewN | apply Kd.R_drew)); exact Kd.R_mono (Kd.R_far (p := ⟨gb165, 2, none⟩) (Kd.R_types HO171.out BK165.out (by decide)) (fun _ hk => hk.2) (.slice Ao54 t169.length co54)) (fun _ hk => ⟨hk.1.1.2, hk.1.2⟩)))⟩; have n3_ : Aside0 (w56.heap[gb160]? = some (.cells #[.slice none 0 0, .int .i64 4, .slice Ao33 t166.length co33] 61 (0, 0))) := ⟨(by rw [hw]; exact blf_)⟩; have n4_ : Aside0 (w56.heap[gb161]? = some (.cells #[.int .i64 8, .int .i64 0] 26 (0, 0))) := ⟨(by rw [hw]; exact blf_)⟩; have n5_ : Aside0 (w56.heap[gb165]? = some (.cells #[.slice Ao22 y162.length co22, .int .i64 0, .slice Ao54 t169.length co54] 61 (0, 0))) := ⟨(by rw [hw]; exact (by (with_reducible repeat (first | refine zN ?_ _ | refine zD ?_ | refine zA ?_ _)); refine blk_put (cs := #[.slice Ao22 y162.length co22, .int .i64 0, .slice none 0 0]) ?_ 2 _ rfl; (with_reducible repeat (first | refine zN ?_ _ | refine zD ?_ | refine zA ?_ _)); exact BK165.out))⟩; have n6_ : Aside0 (Below w.heap.size w w56) := ⟨(by rw [hw]; exact bel_)⟩; clear hw; clear HO164; clear HO168; clear HO171; clear BK160; clear BK161; clear BK165; clear HB; have HO164 := n0_; have HO168 := n1_; have HO171 := n2_; have BK160 := n3_; have BK161 := n4_; have BK165 := n5_; have HB := n6_; clear n0_ n1_ n2_ n3_ n4_ n5_ n6_; obtain ⟨hcz58_0, hcz58_1, hcz58_2⟩ := r3_ BK165.out; obtain ⟨hfz58_0, hfz58_1, hfz58_2⟩ := f3_ BK165.out) | ((with_reducible refine gate_store (t := 3) (p := 22) rfl ?_); clear tk60; refine store_event (t := 3) (p := 22) (v := ?vo_w59) (w1 := (w56.setCell ⟨gb165, 1, none⟩ (.int .i64 1))) ?hg ?ho ?hn ?hr ?_; (case ho => rfl); (case hg => rfl); (case hn => rfl); (case hr => first | (go_simp; done) | (go_simp; rfl)); intro w59 hw; have n0_ : Aside0 (Kd.R k34 34 w59 w.heap.size (fun k_ => some k_ ≠ (.slice Ao33 t166.length co33 : Value).ownBlock ∧ some k_ ≠ (.slice Ao54 t169.length co54 : Value).ownBlock) (.slice Ao22 y162.length co22) y162) := ⟨(by rw [hw]; exact (by (with_reducible repeat (first | apply Kd.R_alloc | apply Kd.R_drewN | apply Kd.R_drew)); exact Kd.R_mono (Kd.R_far (p := ⟨gb165, 1, none⟩) (Kd.R_types HO164.out BK165.out (by decide)) (fun _ hk => hk.2) (.int .i64 1)) (fun _ hk => ⟨hk.1.1, hk.1.2⟩)))⟩; have n1_ : Aside0 (Kd.R k34 34 w59 w.heap.size (fun k_ => some k_ ≠ (.slice Ao22 y162.length co22 : Value).ownBlock ∧ some k_ ≠ (.slice Ao54 t169.length co54 : Value).ownBlock) (.slice Ao33 t166.length co33) t166) := ⟨(by rw [hw]; exact (by (with_reducible repeat (first | apply Kd.R_alloc | apply Kd.R_drewN | apply Kd.R_drew)); exact Kd.R_mono (Kd.R_far (p := ⟨gb165, 1, none⟩) (Kd.R_types HO168.out BK165.out (by decide)) (fun _ hk => hk.2) (.int .i64 1)) (fun _ hk => ⟨hk.1.1, hk.1.2⟩)))⟩; have n2_ : Aside0 (Kd.R k34 34 w59 w.heap.size (fun k_ => some k_ ≠ (.slice Ao22 y162.length co22 : Value).ownBlock ∧ some k_ ≠ (.slice Ao33 t166.length co33 : Value).ownBlock) (.slice Ao54 t169.length co54) t169) := ⟨(by rw [hw]; exact (by (with_reducible repeat (first | apply Kd.R_alloc | apply Kd.R_drewN | apply Kd.R_drew)); exact Kd.R_mono (Kd.R_far (p := ⟨gb165, 1, none⟩) (Kd.R_types HO171.out BK165.out (by decide)) (fun _ hk => hk.2) (.int .i64 1)) (fun _ hk => ⟨hk.1.1, hk.1.2⟩)))⟩; have n3_ : Aside0 (w59.heap[gb160]? = some (.cells #[.slice none 0 0, .int .i64 4, .slice Ao33 t166.length co33] 61 (0, 0))) := ⟨(by rw [hw]; exact blf_)⟩; have n4_ : Aside0 (w59.heap[gb161]? = some (.cells #[.int .i64 8, .int .i64 0] 26 (0, 0))) := ⟨(by rw [hw]; exact blf_)⟩; have n5_ : Aside0 (w59.heap[gb165]? = some (.cells #[.slice Ao22 y162.length co22, .int .i64 1, .slice Ao54 t169.length co54] 61 (0, 0))) := ⟨(by rw [hw]; exact (by (with_reducible repeat (first | refine zN ?_ _ | refine zD ?_ | refine zA ?_ _)); refine blk_put (cs := #[.slice Ao22 y162.length co22, .int .i64 0, .slice Ao54 t169.length co54]) ?_ 1 _ rfl; (with_reducible repeat (first | refine zN ?_ _ | refine zD ?_ | refine zA ?_ _)); exact BK165.out))⟩; have n6_ : Aside0 (Below w.heap.size w w59) := ⟨(by rw [hw]; exact bel_)⟩; clear hw; clear HO164; clear HO168; clear HO171; clear BK160; clear BK161; clear BK165; clear HB; have HO164 := n0_; have HO168 := n1_; have HO171 := n2_; have BK160 := n3_; have BK161 := n4_; have BK165 := n5_; have HB := n6_; clear n0_ n1_ n2_ n3_ n4_ n5_ n6_) | (go_at_call 26; clear tk61; go_enter Try.func26, Try.ntmps26; obtain ⟨hcz62_0, hcz62_1, hcz62_2⟩ := r3_ BK165.out; obtain ⟨hfz62_0, hfz62_1, hfz62_2⟩ := f3_ BK165.out) | (clear tk63; (first | go_ret | go_ret2 | go_ret3 | go_end0); simp only []; go_at_K) | (clear tk64; (first | go_ret | go_ret2 | go_ret3 | go_end0); with_reducible refine inl_back_ ?_) | ((with_reducible refine gate_callee (f := 9) rfl ?_); clear tk65; refine goL_ (some 39) Try.func9 #[.pointer (some ⟨gb165, 0, none⟩)] ?_; go_enter Try.func9, Try.ntmps9) | ((with_reducible refine gate_callee (f := 11) rfl ?_); clear tk66; refine goL_ (some 24) Try.func11 #[.pointer (some ⟨gb165, 0, none⟩)] ?_; go_enter Try.func11, Try.ntmps11) | (go_at_call 26; clear tk67; go_enter Try.func26, Try.ntmps26) | (clear tk68; (first | go_ret | go_ret2 | go_ret3 | go_end0); simp only []; go_at_K) | (clear tk69; (first | go_ret | go_ret2 | go_ret3 | go_end0); with_reducible refine inl_back_ ?_) | ((with_reducible refine gate_callee (f := 25) rfl ?_); clear tk71; refine goL_ (some 29) Try.func25 #[.slice Ao22 y162.length co22] ?_; (with_reducible refine (api_Cell.calls _ _ y162 t172 _ ?side1 ?side2 A5.out).mono ?_); (case side1 => repeat (first | exact (Kd.R_reads' HO164.out).2.2 | (with_reducible refine Kd.C_alloc ?_ _) | (with_reducible refine Kd.C_drewN ?_ _) | (with_reducible refine Kd.C_drew ?_))); (case side2 => exact (Kd.R_reads' HO164.out).2.1); rintro e w70 ⟨v173, rfl, ho0, hb⟩; refine ⟨_, rfl, ?_⟩; have HO174 := zM (Kd.R_lower (Kd.R_new' (Kd.R_new' (Kd.R_new' ho0 (Kd.R_lt (rl_ HO164))) (Kd.R_lt (rl_ HO168))) (Kd.R_lt (rl_ HO171))) (below_size bel_)); replace HO164 := zM (Kd.R_elder' (rl_ HO164) (Kd.R_base ho0) hb); replace HO168 := zM (Kd.R_elder' (rl_ HO168) (Kd.R_base ho0) hb); replace HO171 := zM (Kd.R_elder' (rl_ HO171) (Kd.R_base ho0) hb); replace BK160 := zM (bb_ BK160 hb); replace BK161 := zM (bb_ BK161 hb); replace BK165 := zM (bb_ BK165 hb); replace HB := zM (zB bel_ hb); (try clear hb); (try clear hb2); (try clear hk); (try clear hi); (try clear ho0)) | (clear tk72; (first | go_ret | go_ret2 | go_ret3 | go_end0); with_reducible refine inl_back_ ?_) | (go_at_call 11; clear tk73; go_enter Try.func11, Try.ntmps11; obtain ⟨hcz74_0, hcz74_1, hcz74_2⟩ := r3_ BK165.out; obtain ⟨hfz74_0, hfz74_1, hfz74_2⟩ := f3_ BK165.out) | (go_at_call 26; clear tk75; go_enter Try.func26, Try.ntmps26) | (clear tk76; (first | go_ret | go_ret2 | go_ret3 | go_end0); simp only []; go_at_K) | (clear tk77; (first | go_ret | go_ret2 | go_ret3 | go_end0); simp only []; go_at_K; obtain ⟨Ao78, co78, eo78⟩ := Kd.R_slice HO174.out; subst eo78; have p178 : 0 ≤ (0 : Int) := (by omega); have q178 : 0 < (t172.length : Int) := of_decide_eq_true (by first | (with_reducible assumption) | assumption); obtain ⟨ad178, e178, hx178_0, hx178_1, hx178_2⟩ := at_T34 (Kd.R_reads' HO174.out).2.2 0 p178 q178; cases e178; have qi178 : (0 < t172.length) = True := eq_true (by omega); (try rw [show ((0 : Int)).toNat = 0 from rfl] at hx178_0); (try rw [show 0 * 3 = 0 from rfl] at hx178_0); (try rw [Addr.add_zero'] at hx178_0); (try rw [show ((0 : Int)).toNat = 0 from rfl] at hx178_1); (try rw [show 0 * 3 = 0 from rfl] at hx178_1); (try rw [Addr.add_zero'] at hx178_1); (try rw [show ((0 : Int)).toNat = 0 from rfl] at hx178_2); (try rw [show 0 * 3 = 0 from rfl] at hx178_2); (try rw [Addr.add_zero'] at hx178_2); replace p178 := eq_true p178; replace q178 := eq_true q178) | (go_at_call 12; clear tk79; go_enter Try.func12, Try.ntmps12) | ((with_reducible refine gate_callee (f := 26) rfl ?_); clear tk80; refine goL_ (some 4) Try.func26 #[.pointer (some ⟨gb160, 0, none⟩)] ?_; go_enter Try.func26, Try.ntmps26; obtain ⟨hcz81_0, hcz81_1, hcz81_2⟩ := r3_ BK160.out; obtain ⟨hfz81_0, hfz81_1, hfz81_2⟩ := f3_ BK160.out) | (clear tk82; (first | go_ret | go_ret2 | go_ret3 | go_end0); with_reducible refine inl_back_ ?_) | ((with_reducible refine gate_callee (f := 27) rfl ?_); clear tk84; refine goL_ (some 9) Try.func27 #[.slice Ao33 t166.length co33] ?_; (with_reducible refine (cells_Changes.calls k _ _ t166 t179 _ ?side1 ?side2 A9.out).mono ?_); (case side1 => repeat (first | exact (Kd.R_reads' HO168.out).2.2 | (with_reducible refine Kd.C_alloc ?_ _) | (with_reducible refine Kd.C_drewN ?_ _) | (with_reducible refine Kd.C_drew ?_))); (case side2 => exact (Kd.R_reads' HO168.out).2.1); rintro e w83 ⟨v180, rfl, ho0, hb⟩; refine ⟨_, rfl, ?_⟩; replace HO164 := zM (Kd.R_below (rl_ HO164) hb); replace HO168 := zM (Kd.R_below (rl_ HO168) hb); replace HO171 := zM (Kd.R_below (rl_ HO171) hb); replace HO174 := zM (Kd.R_below (rl_ HO174) hb); have HO181 := zM (Kd.R_lower (Kd.R_newB ho0 (g := gb161) (o := .cells #[.int .i64 8, .int .i64 0] 26 (0, 0)) blk_) (below_size bel_)); replace BK160 := zM (bb_ BK160 hb); replace BK161 := zM (bb_ BK161 hb); replace BK165 := zM (bb_ BK165 hb); replace HB := zM (zB bel_ hb); (try clear hb); (try clear hb2); (try clear hk); (try clear hi); (try clear ho0)) | (clear tk85; (first | go_ret | go_ret2 | go_ret3 | go_end0); simp only []; go_at_K; obtain ⟨Ao86, co86, eo86⟩ := Kd.R_slice HO181.out; subst eo86))
  go_ret
  exact ⟨by first | rfl | (simp [errW_none, errW_some] <;> rfl) | (simp [*, errW_none, errW_some] <;> rfl), bel_⟩
/-! ### ropewayref04_Right: function 13 -/
def ropewayref04_Right.f (a0_0 : Int) (a0_1 : Int) : Option (Bool) := if a0_0 ≥ 0 then (if a0_0 ≤ 63 then (if a0_1 ≥ 0 then (some (decide (a0_1 ≤ 63))) else (some false)) else (some false)) else (some false)
set_option maxHeartbeats 8000000 in
set_option maxRecDepth 100000 in
theorem ropewayref04_Right.calls (a0_0 : Int) (a0_1 : Int) (r : Bool) (w : World) (h : ropewayref04_Right.f a0_0 a0_1 = some r) :
    Calls Try.prog 13 #[.agg #[.int .i64 a0_0, .int .i64 a0_1]] w fun e w' => e = .returned (.bool r) ∧ Below w.heap.size w w' := by
  have hu26 := Try.underlying26
  have HB := zM (Below.refl w.heap.size w)
  have H : (if a0_0 ≥ 0 then (if a0_0 ≤ 63 then (if a0_1 ≥ 0 then (some (decide (a0_1 ≤ 63))) else (some false)) else (some false)) else (some false)) = some r := h
  clear h
  by_cases c2 : a0_0 ≥ 0
  rotate_left
  · rw [if_neg c2] at H
    have c2b0 : decide (0 ≤ a0_0) = false := decide_eq_false c2
    clear c2
    obtain rfl := Option.some.inj H
    go_enter Try.func13, Try.ntmps13
    go_wp2_with (first | ((with_reducible refine gate_dst (N := 1) rfl ?_); refine box_event ?hg (N := 1) ?hd (cs := #[.int .i64 a0_0, .int .i64 a0_1]) (t := 26) ?hr ?_; (case hd => rfl); (case hg => rfl); (case hr => first | (go_simp; done) | (go_simp; rfl)); intro gb182 hg w11 hbox hb; have BK182 := zM (hbox); have GW182 := zM (bs_ hg); have GE182 := zM (bs_ hg); replace HB := zM (zB bel_ hb); clear hb hbox hg; obtain ⟨hcz12_0, hcz12_1⟩ := r2_ BK182.out; obtain ⟨hfz12_0, hfz12_1⟩ := f2_ BK182.out))
    go_ret
    exact ⟨by first | rfl | (simp [errW_none, errW_some] <;> rfl) | (simp [*, errW_none, errW_some] <;> rfl), bel_⟩
  rw [if_pos c2] at H
  have c2b0 : decide (0 ≤ a0_0) = true := decide_eq_true c2
  clear c2
  by_cases c3 : a0_0 ≤ 63
  rotate_left
  · rw [if_neg c3] at H
    have c3b0 : decide (a0_0 ≤ 63) = false := decide_eq_false c3
    clear c3
    obtain rfl := Option.some.inj H
    go_enter Try.func13, Try.ntmps13
    go_wp2_with (first | ((with_reducible refine gate_dst (N := 1) rfl ?_); refine box_event ?hg (N := 1) ?hd (cs := #[.int .i64 a0_0, .int .i64 a0_1]) (t := 26) ?hr ?_; (case hd => rfl); (case hg => rfl); (case hr => first | (go_simp; done) | (go_simp; rfl)); intro gb182 hg w9 hbox hb; have BK182 := zM (hbox); have GW182 := zM (bs_ hg); have GE182 := zM (bs_ hg); replace HB := zM (zB bel_ hb); clear hb hbox hg; obtain ⟨hcz10_0, hcz10_1⟩ := r2_ BK182.out; obtain ⟨hfz10_0, hfz10_1⟩ := f2_ BK182.out))
    go_ret
    exact ⟨by first | rfl | (simp [errW_none, errW_some] <;> rfl) | (simp [*, errW_none, errW_some] <;> rfl), bel_⟩
  rw [if_pos c3] at H
  have c3b0 : decide (a0_0 ≤ 63) = true := decide_eq_true c3
  clear c3
  by_cases c4 : a0_1 ≥ 0
  · rw [if_pos c4] at H
    have c4b0 : decide (0 ≤ a0_1) = true := decide_eq_true c4
    clear c4
    obtain rfl := Option.some.inj H
    go_enter Try.func13, Try.ntmps13
    go_wp2_with (first | ((with_reducible refine gate_dst (N := 1) rfl ?_); refine box_event ?hg (N := 1) ?hd (cs := #[.int .i64 a0_0, .int .i64 a0_1]) (t := 26) ?hr ?_; (case hd => rfl); (case hg => rfl); (case hr => first | (go_simp; done) | (go_simp; rfl)); intro gb182 hg w5 hbox hb; have BK182 := zM (hbox); have GW182 := zM (bs_ hg); have GE182 := zM (bs_ hg); replace HB := zM (zB bel_ hb); clear hb hbox hg; obtain ⟨hcz6_0, hcz6_1⟩ := r2_ BK182.out; obtain ⟨hfz6_0, hfz6_1⟩ := f2_ BK182.out))
    go_ret
    exact ⟨by first | rfl | (simp [errW_none, errW_some] <;> rfl) | (simp [*, errW_none, errW_some] <;> rfl), bel_⟩
  rw [if_neg c4] at H
  have c4b0 : decide (0 ≤ a0_1) = false := decide_eq_false c4
  clear c4
  obtain rfl := Option.some.inj H
  go_enter Try.func13, Try.ntmps13
  go_wp2_with (first | ((with_reducible refine gate_dst (N := 1) rfl ?_); refine box_event ?hg (N := 1) ?hd (cs := #[.int .i64 a0_0, .int .i64 a0_1]) (t := 26) ?hr ?_; (case hd => rfl); (case hg => rfl); (case hr => first | (go_simp; done) | (go_simp; rfl)); intro gb182 hg w7 hbox hb; have BK182 := zM (hbox); have GW182 := zM (bs_ hg); have GE182 := zM (bs_ hg); replace HB := zM (zB bel_ hb); clear hb hbox hg; obtain ⟨hcz8_0, hcz8_1⟩ := r2_ BK182.out; obtain ⟨hfz8_0, hfz8_1⟩ := f2_ BK182.out))
  go_ret
  exact ⟨by first | rfl | (simp [errW_none, errW_some] <;> rfl) | (simp [*, errW_none, errW_some] <;> rfl), bel_⟩
end Go.Proofs.Ytoelfknhnmhlmaa.PSnapRuns
