/- Written by a program of this session (wip/tool/px.py) over the kit's print: what the code that the law CellsTurns reaches computes, function by function, and the law's row. -/
import Derived.Test.YtophohbodmnpjaaPCellsTurnsx0
import Derived.Test.YtophohbodmnpjaaPCellsTurnsx3
import Derived.Test.YtophohbodmnpjaaPCellsTurnsx6
import Derived.Test.YtophohbodmnpjaaPCellsTurnsx7
import Derived.Test.YtophohbodmnpjaaPCellsTurnsx9
namespace Go.Proofs.Ytophohbodmnpjaa.PCellsTurns
open Go.RowKit Go.Proofs.YtophohbodmnpjaaX Go.Proofs.YtophohbodmnpjaaW.PrintWords Go.Proofs.YtophohbodmnpjaaW.PrintLast Go.Proofs.YtophohbodmnpjaaW.PrintMore
attribute [local go_sem] max2_int min2_int max_two min_two max_three min_three max_four min_four   -- for this text's walks alone
set_option linter.unusedVariables false
set_option linter.unusedSimpArgs false

attribute [local go_sem] px_nilq36
/-! ### ropewaylaw10_CellsTurns: function 10 -/
mutual
def ropewaylaw10_CellsTurns.j0 : Nat → List (S41) → List (S41) → List (S41) → Bool → Option (Bool)
  | 0, _, _, _, _ => none
  | k + 1, x0, x1, x2, x26 => if x26 = true then (some true) else ((cells_Merge.f k x0 x1).bind fun t269 => ((cells_Check.f k t269).bind fun t272 => (if t272 = 0 then ((cells_Merge.f k t269 x2).bind fun t273 => ((cells_Merge.f k x1 x2).bind fun t276 => ((cells_Merge.f k x0 t276).bind fun t279 => ((ropewayref10_Same.f k t273 t279).bind fun t282 => (if t282 = true then ((cells_News.f k x0 x1).bind fun t283 => ((cells_Merge.f k x0 t283).bind fun t286 => ((ropewayref10_Same.f k t286 t269).bind fun t289 => (if t289 = true then ((cells_Clash.f k t269 x0).bind fun t290 => (ropewaylaw10_CellsTurns.j1 k x0 x1 t269 t290)) else (ropewaylaw10_CellsTurns.j1 k x0 x1 t269 true))))) else (ropewaylaw10_CellsTurns.j1 k x0 x1 t269 true)))))) else (ropewaylaw10_CellsTurns.j1 k x0 x1 t269 true))))
def ropewaylaw10_CellsTurns.j1 : Nat → List (S41) → List (S41) → List (S41) → Bool → Option (Bool)
  | 0, _, _, _, _ => none
  | k + 1, x0, x1, x7, x59 => if x59 = true then (some false) else (ropewaylaw10_CellsTurns.l0 k x0 x1 x7 x1 (x1.length : Int) 0)
def ropewaylaw10_CellsTurns.l0 : Nat → List (S41) → List (S41) → List (S41) → List (S41) → Int → Int → Option (Bool)
  | 0, _, _, _, _, _, _ => none
  | k + 1, x0, x1, x7, x60, x61, x62 => if x62 < x61 then (if 0 ≤ x62 then (if x62 < (x60.length : Int) then ((cells_Of.f k x7 ((rd_T41 x60 x62).f0)).bind fun bt293 => (if bt293.2.2 = true then (ropewaylaw10_CellsTurns.l0 k x0 x1 x7 x60 x61 (wrap64 (x62 + 1))) else (some false))) else (none)) else (none)) else ((cells_Clash.f k x0 x1).bind fun t297 => (if t297 = true then (some true) else ((cells_Merge.f k x1 x0).bind fun t298 => ((ropewayref10_Same.f k x7 t298).bind fun t301 => (if t301 = true then ((cells_Clash.f k x7 x1).bind fun t302 => (some (!t302))) else (some false))))))
end
def ropewaylaw10_CellsTurns.f (k : Nat) (l0 : List (S41)) (l1 : List (S41)) (l2 : List (S41)) : Option (Bool) := (ropewaylaw10_cellsAlive.f k).bind fun t265 => (if t265 = true then ((cells_Check.f k l0).bind fun t266 => (if t266 = 0 then ((cells_Check.f k l1).bind fun t267 => (if t267 = 0 then ((cells_Check.f k l2).bind fun t268 => (ropewaylaw10_CellsTurns.j0 k l0 l1 l2 (t268 != 0))) else (ropewaylaw10_CellsTurns.j0 k l0 l1 l2 true))) else (ropewaylaw10_CellsTurns.j0 k l0 l1 l2 true))) else (some false))
theorem ropewaylaw10_CellsTurns.mono_l : ∀ k, (∀ y0 y1 y2 y3, LeO (ropewaylaw10_CellsTurns.j0 k y0 y1 y2 y3) (ropewaylaw10_CellsTurns.j0 (k + 1) y0 y1 y2 y3)) ∧ (∀ y0 y1 y2 y3, LeO (ropewaylaw10_CellsTurns.j1 k y0 y1 y2 y3) (ropewaylaw10_CellsTurns.j1 (k + 1) y0 y1 y2 y3)) ∧ (∀ y0 y1 y2 y3 y4 y5, LeO (ropewaylaw10_CellsTurns.l0 k y0 y1 y2 y3 y4 y5) (ropewaylaw10_CellsTurns.l0 (k + 1) y0 y1 y2 y3 y4 y5))
  | 0 => ⟨fun _ _ _ _ r h => by simp [ropewaylaw10_CellsTurns.j0] at h, fun _ _ _ _ r h => by simp [ropewaylaw10_CellsTurns.j1] at h, fun _ _ _ _ _ _ r h => by simp [ropewaylaw10_CellsTurns.l0] at h⟩
  | k + 1 => by
    obtain ⟨ih0, ih1, ih2⟩ := ropewaylaw10_CellsTurns.mono_l k
    refine ⟨?_, ?_, ?_⟩
    · intro y0 y1 y2 y3
      unfold ropewaylaw10_CellsTurns.j0
      repeat' first
      | (with_reducible exact ih0 _ _ _ _)
      | (with_reducible exact ih1 _ _ _ _)
      | (with_reducible exact ih2 _ _ _ _ _ _)
      | (with_reducible exact cells_Check.mono _ _)
      | (with_reducible exact cells_Clash.mono _ _ _)
      | (with_reducible exact cells_Merge.mono _ _ _)
      | (with_reducible exact cells_News.mono _ _ _)
      | (with_reducible exact cells_Of.mono _ _ _)
      | (with_reducible exact ropewaylaw10_cellsAlive.mono _)
      | (with_reducible exact ropewayref10_Same.mono _ _ _)
      | (with_reducible exact LeO.refl _)
      | (with_reducible exact LeO.none _)
      | (with_reducible refine LeO.ite ?_ ?_)
      | (with_reducible refine LeO.bind ?_ (fun _ => ?_))
      | exact ih0 _ _ _ _
      | exact ih1 _ _ _ _
      | exact ih2 _ _ _ _ _ _
      | exact cells_Check.mono _ _
      | exact cells_Clash.mono _ _ _
      | exact cells_Merge.mono _ _ _
      | exact cells_News.mono _ _ _
      | exact cells_Of.mono _ _ _
      | exact ropewaylaw10_cellsAlive.mono _
      | exact ropewayref10_Same.mono _ _ _
      | exact LeO.none _
      | refine LeO.ite ?_ ?_
      | refine LeO.bind ?_ (fun _ => ?_)
    · intro y0 y1 y2 y3
      unfold ropewaylaw10_CellsTurns.j1
      repeat' first
      | (with_reducible exact ih0 _ _ _ _)
      | (with_reducible exact ih1 _ _ _ _)
      | (with_reducible exact ih2 _ _ _ _ _ _)
      | (with_reducible exact cells_Check.mono _ _)
      | (with_reducible exact cells_Clash.mono _ _ _)
      | (with_reducible exact cells_Merge.mono _ _ _)
      | (with_reducible exact cells_News.mono _ _ _)
      | (with_reducible exact cells_Of.mono _ _ _)
      | (with_reducible exact ropewaylaw10_cellsAlive.mono _)
      | (with_reducible exact ropewayref10_Same.mono _ _ _)
      | (with_reducible exact LeO.refl _)
      | (with_reducible exact LeO.none _)
      | (with_reducible refine LeO.ite ?_ ?_)
      | (with_reducible refine LeO.bind ?_ (fun _ => ?_))
      | exact ih0 _ _ _ _
      | exact ih1 _ _ _ _
      | exact ih2 _ _ _ _ _ _
      | exact cells_Check.mono _ _
      | exact cells_Clash.mono _ _ _
      | exact cells_Merge.mono _ _ _
      | exact cells_News.mono _ _ _
      | exact cells_Of.mono _ _ _
      | exact ropewaylaw10_cellsAlive.mono _
      | exact ropewayref10_Same.mono _ _ _
      | exact LeO.none _
      | refine LeO.ite ?_ ?_
      | refine LeO.bind ?_ (fun _ => ?_)
    · intro y0 y1 y2 y3 y4 y5
      unfold ropewaylaw10_CellsTurns.l0
      repeat' first
      | (with_reducible exact ih0 _ _ _ _)
      | (with_reducible exact ih1 _ _ _ _)
      | (with_reducible exact ih2 _ _ _ _ _ _)
      | (with_reducible exact cells_Check.mono _ _)
      | (with_reducible exact cells_Clash.mono _ _ _)
      | (with_reducible exact cells_Merge.mono _ _ _)
      | (with_reducible exact cells_News.mono _ _ _)
      | (with_reducible exact cells_Of.mono _ _ _)
      | (with_reducible exact ropewaylaw10_cellsAlive.mono _)
      | (with_reducible exact ropewayref10_Same.mono _ _ _)
      | (with_reducible exact LeO.refl _)
      | (with_reducible exact LeO.none _)
      | (with_reducible refine LeO.ite ?_ ?_)
      | (with_reducible refine LeO.bind ?_ (fun _ => ?_))
      | exact ih0 _ _ _ _
      | exact ih1 _ _ _ _
      | exact ih2 _ _ _ _ _ _
      | exact cells_Check.mono _ _
      | exact cells_Clash.mono _ _ _
      | exact cells_Merge.mono _ _ _
      | exact cells_News.mono _ _ _
      | exact cells_Of.mono _ _ _
      | exact ropewaylaw10_cellsAlive.mono _
      | exact ropewayref10_Same.mono _ _ _
      | exact LeO.none _
      | refine LeO.ite ?_ ?_
      | refine LeO.bind ?_ (fun _ => ?_)
theorem ropewaylaw10_CellsTurns.mono : ∀ a0 a1 a2 k, LeO (ropewaylaw10_CellsTurns.f k a0 a1 a2) (ropewaylaw10_CellsTurns.f (k + 1) a0 a1 a2) := by
  intro a0 a1 a2 k
  obtain ⟨ih0, ih1, ih2⟩ := ropewaylaw10_CellsTurns.mono_l k
  unfold ropewaylaw10_CellsTurns.f
  repeat' first
      | (with_reducible exact ih0 _ _ _ _)
      | (with_reducible exact ih1 _ _ _ _)
      | (with_reducible exact ih2 _ _ _ _ _ _)
      | (with_reducible exact cells_Check.mono _ _)
      | (with_reducible exact cells_Clash.mono _ _ _)
      | (with_reducible exact cells_Merge.mono _ _ _)
      | (with_reducible exact cells_News.mono _ _ _)
      | (with_reducible exact cells_Of.mono _ _ _)
      | (with_reducible exact ropewaylaw10_cellsAlive.mono _)
      | (with_reducible exact ropewayref10_Same.mono _ _ _)
      | (with_reducible exact LeO.refl _)
      | (with_reducible exact LeO.none _)
      | (with_reducible refine LeO.ite ?_ ?_)
      | (with_reducible refine LeO.bind ?_ (fun _ => ?_))
      | exact ih0 _ _ _ _
      | exact ih1 _ _ _ _
      | exact ih2 _ _ _ _ _ _
      | exact cells_Check.mono _ _
      | exact cells_Clash.mono _ _ _
      | exact cells_Merge.mono _ _ _
      | exact cells_News.mono _ _ _
      | exact cells_Of.mono _ _ _
      | exact ropewaylaw10_cellsAlive.mono _
      | exact ropewayref10_Same.mono _ _ _
      | exact LeO.none _
      | refine LeO.ite ?_ ?_
      | refine LeO.bind ?_ (fun _ => ?_)
set_option maxHeartbeats 8000000 in
set_option maxRecDepth 100000 in
theorem ropewaylaw10_CellsTurns.calls (k : Nat) (A0 : Option Addr) (c0 : Nat) (l0 : List (S41)) (A1 : Option Addr) (c1 : Nat) (l1 : List (S41)) (A2 : Option Addr) (c2 : Nat) (l2 : List (S41)) (r : Bool) (w : World) (hr0 : Kd.C k41 w A0 l0.length l0) (hc0 : l0.length ≤ c0) (hr1 : Kd.C k41 w A1 l1.length l1) (hc1 : l1.length ≤ c1) (hr2 : Kd.C k41 w A2 l2.length l2) (hc2 : l2.length ≤ c2) (hr1_ : Aside0 (r = true)) (h : ropewaylaw10_CellsTurns.f k l0 l1 l2 = some r) :
    Calls Try.prog 10 #[.slice A0 l0.length c0, .slice A1 l1.length c1, .slice A2 l2.length c2] w fun e w' => e = .returned (.bool r) ∧ Below w.heap.size w w' := by
  have hu41 := Try.underlying41
  have hu25 := Try.underlying25
  have HR0 := Aside0.mk hr0
  have HC0 := Aside0.mk hc0
  clear hr0 hc0
  have HR1 := Aside0.mk hr1
  have HC1 := Aside0.mk hc1
  clear hr1 hc1
  have HR2 := Aside0.mk hr2
  have HC2 := Aside0.mk hc2
  clear hr2 hc2
  have HB := Aside0.mk (Below.refl w.heap.size w)
  have H : ((ropewaylaw10_cellsAlive.f k).bind fun t265 => (if t265 = true then ((cells_Check.f k l0).bind fun t266 => (if t266 = 0 then ((cells_Check.f k l1).bind fun t267 => (if t267 = 0 then ((cells_Check.f k l2).bind fun t268 => (ropewaylaw10_CellsTurns.j0 k l0 l1 l2 (t268 != 0))) else (ropewaylaw10_CellsTurns.j0 k l0 l1 l2 true))) else (ropewaylaw10_CellsTurns.j0 k l0 l1 l2 true))) else (some false))) = some r := h
  clear h
  replace H := Option.bind_eq_some_iff.mp H
  obtain ⟨t265, A40, H⟩ := H
  replace H : (if t265 = true then ((cells_Check.f k l0).bind fun t266 => (if t266 = 0 then ((cells_Check.f k l1).bind fun t267 => (if t267 = 0 then ((cells_Check.f k l2).bind fun t268 => (ropewaylaw10_CellsTurns.j0 k l0 l1 l2 (t268 != 0))) else (ropewaylaw10_CellsTurns.j0 k l0 l1 l2 true))) else (ropewaylaw10_CellsTurns.j0 k l0 l1 l2 true))) else (some false)) = some r := H
  have A4 := Aside0.mk A40
  clear A40
  by_cases c5 : t265 = true
  · subst c5
    have H1 : ((cells_Check.f k l0).bind fun t266 => (if t266 = 0 then ((cells_Check.f k l1).bind fun t267 => (if t267 = 0 then ((cells_Check.f k l2).bind fun t268 => (ropewaylaw10_CellsTurns.j0 k l0 l1 l2 (t268 != 0))) else (ropewaylaw10_CellsTurns.j0 k l0 l1 l2 true))) else (ropewaylaw10_CellsTurns.j0 k l0 l1 l2 true))) = some r := by rw [if_pos rfl] at H; exact H
    clear H
    have H := H1
    clear H1
    have HC6 := Aside0.mk H
    clear H
    go_enter Try.func10, Try.ntmps10
    go_upto_region 3 with (first | ((with_reducible refine gate_callee (f := 25) rfl ?_); refine goesL_ (some 12) rfl rfl Try.func25 (by kernel_rfl) rfl #[] rfl (by (try simp only [List.map_toArray, List.map_cons, List.map_nil]); first | done | rfl | (simp only [List.length_drop, List.length_take]; rfl)) ?_; (with_reducible refine (ropewaylaw10_cellsAlive.calls k  true _ A4.out).mono ?_); rintro e w7 ⟨rfl, hb⟩; refine ⟨_, rfl, ?_⟩; have n0_ := Aside0.mk (below_step (by repeat (first | (with_reducible first | exact HB.out | apply below_alloc | apply pw_below_drewN | apply below_drew1) | exact HB.out)) hb); clear HB; have HB := n0_; clear n0_; (try clear hb); (try clear hb2); (try clear hk); (try clear hi)))
    (try simp only [Act.put, List.setIfInBounds_toArray, List.set_cons_zero, List.set_cons_succ])
    go_cut [26] (fun v26 wc => ∃ (kq : Nat) (x26_5 : Bool), v26 = .bool x26_5 ∧ Aside0 (ropewaylaw10_CellsTurns.j0 kq l0 l1 l2 x26_5 = some r) ∧ Aside0 (kq ≤ k) ∧ Aside0 (Below w.heap.size w wc))
    case first =>
      have H := HC6.out
      clear HC6
      replace H := Option.bind_eq_some_iff.mp H
      obtain ⟨t266, A80, H⟩ := H
      replace H : (if t266 = 0 then ((cells_Check.f k l1).bind fun t267 => (if t267 = 0 then ((cells_Check.f k l2).bind fun t268 => (ropewaylaw10_CellsTurns.j0 k l0 l1 l2 (t268 != 0))) else (ropewaylaw10_CellsTurns.j0 k l0 l1 l2 true))) else (ropewaylaw10_CellsTurns.j0 k l0 l1 l2 true)) = some r := H
      have A8 := Aside0.mk A80
      clear A80
      by_cases c9 : t266 = 0
      · rw [if_pos c9] at H
        have c9b0 : (t266 == 0) = true := beq_iff_eq.mpr c9
        have c9b1 : (t266 != 0) = false := bne_eq_false_iff_eq.mpr c9
        clear c9
        (first | rw [c9b0] | (simp only [i64_w, i32_w]; rw [c9b0]) | skip)
        replace H := Option.bind_eq_some_iff.mp H
        obtain ⟨t267, A100, H⟩ := H
        replace H : (if t267 = 0 then ((cells_Check.f k l2).bind fun t268 => (ropewaylaw10_CellsTurns.j0 k l0 l1 l2 (t268 != 0))) else (ropewaylaw10_CellsTurns.j0 k l0 l1 l2 true)) = some r := H
        have A10 := Aside0.mk A100
        clear A100
        by_cases c11 : t267 = 0
        · rw [if_pos c11] at H
          have c11b0 : (t267 == 0) = true := beq_iff_eq.mpr c11
          have c11b1 : (t267 != 0) = false := bne_eq_false_iff_eq.mpr c11
          clear c11
          replace H := Option.bind_eq_some_iff.mp H
          obtain ⟨t268, A120, H⟩ := H
          replace H : (ropewaylaw10_CellsTurns.j0 k l0 l1 l2 (t268 != 0)) = some r := H
          have A12 := Aside0.mk A120
          clear A120
          have H' := Aside0.mk H
          clear H
          go_wp2_with (first | ((with_reducible refine gate_callee (f := 26) rfl ?_); refine goesL_ (some 15) rfl rfl Try.func26 (by kernel_rfl) rfl #[.slice A0 l0.length c0] rfl (by (try simp only [List.map_toArray, List.map_cons, List.map_nil]); first | done | rfl | (simp only [List.length_drop, List.length_take]; rfl)) ?_; (with_reducible refine (cells_Check.calls k _ _ l0 t266 _ ?side1 ?side2 A8.out).mono ?_); (case side1 => repeat (first | exact (Kd.C_below HR0.out HB.out) | (with_reducible refine Kd.C_alloc ?_ _) | (with_reducible refine Kd.C_drewN ?_ _) | (with_reducible refine Kd.C_drew ?_))); (case side2 => exact HC0.out); rintro e w13 ⟨rfl, hb⟩; refine ⟨_, rfl, ?_⟩; have n0_ := Aside0.mk (below_step (by repeat (first | (with_reducible first | exact HB.out | apply below_alloc | apply pw_below_drewN | apply below_drew1) | exact HB.out)) hb); clear HB; have HB := n0_; clear n0_; (try clear hb); (try clear hb2); (try clear hk); (try clear hi)) | (go_at_call 26; (with_reducible refine (cells_Check.calls k _ _ l1 t267 _ ?side1 ?side2 A10.out).mono ?_); (case side1 => repeat (first | exact (Kd.C_below HR1.out HB.out) | (with_reducible refine Kd.C_alloc ?_ _) | (with_reducible refine Kd.C_drewN ?_ _) | (with_reducible refine Kd.C_drew ?_))); (case side2 => exact HC1.out); rintro e w14 ⟨rfl, hb⟩; have n0_ := Aside0.mk (below_step (by repeat (first | (with_reducible first | exact HB.out | apply below_alloc | apply pw_below_drewN | apply below_drew1) | exact HB.out)) hb); clear HB; have HB := n0_; clear n0_; (try clear hb); (try clear hb2); (try clear hk); (try clear hi)) | (go_at_call 26; (with_reducible refine (cells_Check.calls k _ _ l2 t268 _ ?side1 ?side2 A12.out).mono ?_); (case side1 => repeat (first | exact (Kd.C_below HR2.out HB.out) | (with_reducible refine Kd.C_alloc ?_ _) | (with_reducible refine Kd.C_drewN ?_ _) | (with_reducible refine Kd.C_drew ?_))); (case side2 => exact HC2.out); rintro e w15 ⟨rfl, hb⟩; have n0_ := Aside0.mk (below_step (by repeat (first | (with_reducible first | exact HB.out | apply below_alloc | apply pw_below_drewN | apply below_drew1) | exact HB.out)) hb); clear HB; have HB := n0_; clear n0_; (try clear hb); (try clear hb2); (try clear hk); (try clear hi)))
          go_meet
          case rel => exact ⟨_, ((t268 != 0)), (by first | rfl | (simp; done) | (simp [*]; done) | (simp; grind)), H', ⟨by first | omega | exact Nat.le_refl _⟩, ⟨by repeat (first | (with_reducible first | exact HB.out | apply below_alloc | apply pw_below_drewN | apply below_drew1) | exact HB.out)⟩⟩
        · rw [if_neg c11] at H
          have c11b0 : (t267 == 0) = false := beq_eq_false_iff_ne.mpr c11
          have c11b1 : (t267 != 0) = true := bne_iff_ne.mpr c11
          have H' := Aside0.mk H
          clear H
          go_wp2_with (first | ((with_reducible refine gate_callee (f := 26) rfl ?_); refine goesL_ (some 15) rfl rfl Try.func26 (by kernel_rfl) rfl #[.slice A0 l0.length c0] rfl (by (try simp only [List.map_toArray, List.map_cons, List.map_nil]); first | done | rfl | (simp only [List.length_drop, List.length_take]; rfl)) ?_; (with_reducible refine (cells_Check.calls k _ _ l0 t266 _ ?side1 ?side2 A8.out).mono ?_); (case side1 => repeat (first | exact (Kd.C_below HR0.out HB.out) | (with_reducible refine Kd.C_alloc ?_ _) | (with_reducible refine Kd.C_drewN ?_ _) | (with_reducible refine Kd.C_drew ?_))); (case side2 => exact HC0.out); rintro e w16 ⟨rfl, hb⟩; refine ⟨_, rfl, ?_⟩; have n0_ := Aside0.mk (below_step (by repeat (first | (with_reducible first | exact HB.out | apply below_alloc | apply pw_below_drewN | apply below_drew1) | exact HB.out)) hb); clear HB; have HB := n0_; clear n0_; (try clear hb); (try clear hb2); (try clear hk); (try clear hi)) | (go_at_call 26; (with_reducible refine (cells_Check.calls k _ _ l1 t267 _ ?side1 ?side2 A10.out).mono ?_); (case side1 => repeat (first | exact (Kd.C_below HR1.out HB.out) | (with_reducible refine Kd.C_alloc ?_ _) | (with_reducible refine Kd.C_drewN ?_ _) | (with_reducible refine Kd.C_drew ?_))); (case side2 => exact HC1.out); rintro e w17 ⟨rfl, hb⟩; have n0_ := Aside0.mk (below_step (by repeat (first | (with_reducible first | exact HB.out | apply below_alloc | apply pw_below_drewN | apply below_drew1) | exact HB.out)) hb); clear HB; have HB := n0_; clear n0_; (try clear hb); (try clear hb2); (try clear hk); (try clear hi)))
          go_meet
          case rel => exact ⟨_, (true), (by first | rfl | (simp; done) | (simp [*]; done) | (simp; grind)), H', ⟨by first | omega | exact Nat.le_refl _⟩, ⟨by repeat (first | (with_reducible first | exact HB.out | apply below_alloc | apply pw_below_drewN | apply below_drew1) | exact HB.out)⟩⟩
      · rw [if_neg c9] at H
        have c9b0 : (t266 == 0) = false := beq_eq_false_iff_ne.mpr c9
        have c9b1 : (t266 != 0) = true := bne_iff_ne.mpr c9
        (first | rw [c9b0] | (simp only [i64_w, i32_w]; rw [c9b0]) | skip)
        have H' := Aside0.mk H
        clear H
        go_wp2_with (first | ((with_reducible refine gate_callee (f := 26) rfl ?_); refine goesL_ (some 15) rfl rfl Try.func26 (by kernel_rfl) rfl #[.slice A0 l0.length c0] rfl (by (try simp only [List.map_toArray, List.map_cons, List.map_nil]); first | done | rfl | (simp only [List.length_drop, List.length_take]; rfl)) ?_; (with_reducible refine (cells_Check.calls k _ _ l0 t266 _ ?side1 ?side2 A8.out).mono ?_); (case side1 => repeat (first | exact (Kd.C_below HR0.out HB.out) | (with_reducible refine Kd.C_alloc ?_ _) | (with_reducible refine Kd.C_drewN ?_ _) | (with_reducible refine Kd.C_drew ?_))); (case side2 => exact HC0.out); rintro e w18 ⟨rfl, hb⟩; refine ⟨_, rfl, ?_⟩; have n0_ := Aside0.mk (below_step (by repeat (first | (with_reducible first | exact HB.out | apply below_alloc | apply pw_below_drewN | apply below_drew1) | exact HB.out)) hb); clear HB; have HB := n0_; clear n0_; (try clear hb); (try clear hb2); (try clear hk); (try clear hi)))
        go_meet
        case rel => exact ⟨_, (true), (by first | rfl | (simp; done) | (simp [*]; done) | (simp; grind)), H', ⟨by first | omega | exact Nat.le_refl _⟩, ⟨by repeat (first | (with_reducible first | exact HB.out | apply below_alloc | apply pw_below_drewN | apply below_drew1) | exact HB.out)⟩⟩
    case rest =>
      clear HC6
      try clear c1
      try clear c2
      try clear p2
      try clear c5
      try clear c9
      try clear c9b0
      try clear c9b1
      try clear c10
      try clear c11
      try clear c11b0
      try clear c11b1
      obtain ⟨kq, x26_5, rfl, HA, HJ5, HB⟩ := hcut
      cases kq with
      | zero => exact absurd HA.out (by simp [ropewaylaw10_CellsTurns.j0])
      | succ kj5 =>
        have H := HA.out
        clear HA
        simp only [ropewaylaw10_CellsTurns.j0] at H
        by_cases c19 : x26_5 = true
        · subst c19
          have H1 : (some true) = some r := by rw [if_pos rfl] at H; exact H
          clear H
          have H := H1
          clear H1
          obtain rfl := Option.some.inj H
          go_wp2
          go_ret
          exact ⟨by first | rfl | (simp [errW_none, errW_some] <;> rfl) | (simp [*, errW_none, errW_some] <;> rfl), by repeat (first | (with_reducible first | exact HB.out | apply below_alloc | apply pw_below_drewN | apply below_drew1) | exact HB.out)⟩
        · replace c19 := Bool.eq_false_iff.mpr c19
          subst c19
          have H1 : ((cells_Merge.f kj5 l0 l1).bind fun t269 => ((cells_Check.f kj5 t269).bind fun t272 => (if t272 = 0 then ((cells_Merge.f kj5 t269 l2).bind fun t273 => ((cells_Merge.f kj5 l1 l2).bind fun t276 => ((cells_Merge.f kj5 l0 t276).bind fun t279 => ((ropewayref10_Same.f kj5 t273 t279).bind fun t282 => (if t282 = true then ((cells_News.f kj5 l0 l1).bind fun t283 => ((cells_Merge.f kj5 l0 t283).bind fun t286 => ((ropewayref10_Same.f kj5 t286 t269).bind fun t289 => (if t289 = true then ((cells_Clash.f kj5 t269 l0).bind fun t290 => (ropewaylaw10_CellsTurns.j1 kj5 l0 l1 t269 t290)) else (ropewaylaw10_CellsTurns.j1 kj5 l0 l1 t269 true))))) else (ropewaylaw10_CellsTurns.j1 kj5 l0 l1 t269 true)))))) else (ropewaylaw10_CellsTurns.j1 kj5 l0 l1 t269 true)))) = some r := by rw [if_neg (show ¬ (false = true) by decide)] at H; exact H
          clear H
          have H := H1
          clear H1
          replace H := Option.bind_eq_some_iff.mp H
          obtain ⟨t269, A200, H⟩ := H
          replace H : ((cells_Check.f kj5 t269).bind fun t272 => (if t272 = 0 then ((cells_Merge.f kj5 t269 l2).bind fun t273 => ((cells_Merge.f kj5 l1 l2).bind fun t276 => ((cells_Merge.f kj5 l0 t276).bind fun t279 => ((ropewayref10_Same.f kj5 t273 t279).bind fun t282 => (if t282 = true then ((cells_News.f kj5 l0 l1).bind fun t283 => ((cells_Merge.f kj5 l0 t283).bind fun t286 => ((ropewayref10_Same.f kj5 t286 t269).bind fun t289 => (if t289 = true then ((cells_Clash.f kj5 t269 l0).bind fun t290 => (ropewaylaw10_CellsTurns.j1 kj5 l0 l1 t269 t290)) else (ropewaylaw10_CellsTurns.j1 kj5 l0 l1 t269 true))))) else (ropewaylaw10_CellsTurns.j1 kj5 l0 l1 t269 true)))))) else (ropewaylaw10_CellsTurns.j1 kj5 l0 l1 t269 true))) = some r := H
          have A20 := Aside0.mk A200
          clear A200
          have HC21 := Aside0.mk H
          clear H
          go_upto_region 6 with (first | ((with_reducible refine gate_callee (f := 29) rfl ?_); refine goesL_ (some 29) rfl rfl Try.func29 (by kernel_rfl) rfl #[.slice A0 l0.length c0, .slice A1 l1.length c1] rfl (by (try simp only [List.map_toArray, List.map_cons, List.map_nil]); first | done | rfl | (simp only [List.length_drop, List.length_take]; rfl)) ?_; (with_reducible refine (cells_Merge.calls kj5 (fun k_ => k_ < w.heap.size) _ _ l0 _ _ l1 t269 _ ?side1 ?side2 ?side3 A20.out).mono ?_); (case side1 => exact Kd.V_mk HC0.out (Kd.F_below (Kd.C_F k41_heap HR0.out) (by repeat (first | (with_reducible first | exact HB.out | apply below_alloc | apply pw_below_drewN | apply below_drew1) | exact HB.out)))); (case side2 => repeat (first | exact (Kd.C_below HR1.out HB.out) | (with_reducible refine Kd.C_alloc ?_ _) | (with_reducible refine Kd.C_drewN ?_ _) | (with_reducible refine Kd.C_drew ?_))); (case side3 => exact HC1.out); rintro e w22 ⟨v270, rfl, ho0, hb⟩; refine ⟨_, rfl, ?_⟩; have n0_ := Aside0.mk (Kd.R_lower (Kd.R_mono (ok' := fun k_ => True) ho0 (fun _ hk_ => trivial)) (below_size (by repeat (first | (with_reducible first | exact HB.out | apply below_alloc | apply pw_below_drewN | apply below_drew1) | exact HB.out)))); have n1_ := Aside0.mk (below_step (by repeat (first | (with_reducible first | exact HB.out | apply below_alloc | apply pw_below_drewN | apply below_drew1) | exact HB.out)) hb); clear HB; have HO271 := n0_; have HB := n1_; clear n0_ n1_; (try clear hb); (try clear hb2); (try clear hk); (try clear hi); (try clear ho0)))
          (try simp only [Act.put, List.setIfInBounds_toArray, List.set_cons_zero, List.set_cons_succ])
          go_cut [59] (fun v59 wc => ∃ (kq : Nat) (x59_20 : Bool), v59 = .bool x59_20 ∧ Aside0 (ropewaylaw10_CellsTurns.j1 kq l0 l1 t269 x59_20 = some r) ∧ Aside0 (kq ≤ kj5) ∧ Aside0 (Kd.R k41 41 wc w.heap.size (fun _ => True) v270 t269) ∧ Aside0 (Below w.heap.size w wc))
          case first =>
            have H := HC21.out
            clear HC21
            replace H := Option.bind_eq_some_iff.mp H
            obtain ⟨t272, A230, H⟩ := H
            replace H : (if t272 = 0 then ((cells_Merge.f kj5 t269 l2).bind fun t273 => ((cells_Merge.f kj5 l1 l2).bind fun t276 => ((cells_Merge.f kj5 l0 t276).bind fun t279 => ((ropewayref10_Same.f kj5 t273 t279).bind fun t282 => (if t282 = true then ((cells_News.f kj5 l0 l1).bind fun t283 => ((cells_Merge.f kj5 l0 t283).bind fun t286 => ((ropewayref10_Same.f kj5 t286 t269).bind fun t289 => (if t289 = true then ((cells_Clash.f kj5 t269 l0).bind fun t290 => (ropewaylaw10_CellsTurns.j1 kj5 l0 l1 t269 t290)) else (ropewaylaw10_CellsTurns.j1 kj5 l0 l1 t269 true))))) else (ropewaylaw10_CellsTurns.j1 kj5 l0 l1 t269 true)))))) else (ropewaylaw10_CellsTurns.j1 kj5 l0 l1 t269 true)) = some r := H
            have A23 := Aside0.mk A230
            clear A230
            by_cases c24 : t272 = 0
            · rw [if_pos c24] at H
              have c24b0 : (t272 == 0) = true := beq_iff_eq.mpr c24
              have c24b1 : (t272 != 0) = false := bne_eq_false_iff_eq.mpr c24
              clear c24
              (first | rw [c24b0] | (simp only [i64_w, i32_w]; rw [c24b0]) | skip)
              replace H := Option.bind_eq_some_iff.mp H
              obtain ⟨t273, A250, H⟩ := H
              replace H : ((cells_Merge.f kj5 l1 l2).bind fun t276 => ((cells_Merge.f kj5 l0 t276).bind fun t279 => ((ropewayref10_Same.f kj5 t273 t279).bind fun t282 => (if t282 = true then ((cells_News.f kj5 l0 l1).bind fun t283 => ((cells_Merge.f kj5 l0 t283).bind fun t286 => ((ropewayref10_Same.f kj5 t286 t269).bind fun t289 => (if t289 = true then ((cells_Clash.f kj5 t269 l0).bind fun t290 => (ropewaylaw10_CellsTurns.j1 kj5 l0 l1 t269 t290)) else (ropewaylaw10_CellsTurns.j1 kj5 l0 l1 t269 true))))) else (ropewaylaw10_CellsTurns.j1 kj5 l0 l1 t269 true))))) = some r := H
              have A25 := Aside0.mk A250
              clear A250
              replace H := Option.bind_eq_some_iff.mp H
              obtain ⟨t276, A260, H⟩ := H
              replace H : ((cells_Merge.f kj5 l0 t276).bind fun t279 => ((ropewayref10_Same.f kj5 t273 t279).bind fun t282 => (if t282 = true then ((cells_News.f kj5 l0 l1).bind fun t283 => ((cells_Merge.f kj5 l0 t283).bind fun t286 => ((ropewayref10_Same.f kj5 t286 t269).bind fun t289 => (if t289 = true then ((cells_Clash.f kj5 t269 l0).bind fun t290 => (ropewaylaw10_CellsTurns.j1 kj5 l0 l1 t269 t290)) else (ropewaylaw10_CellsTurns.j1 kj5 l0 l1 t269 true))))) else (ropewaylaw10_CellsTurns.j1 kj5 l0 l1 t269 true)))) = some r := H
              have A26 := Aside0.mk A260
              clear A260
              replace H := Option.bind_eq_some_iff.mp H
              obtain ⟨t279, A270, H⟩ := H
              replace H : ((ropewayref10_Same.f kj5 t273 t279).bind fun t282 => (if t282 = true then ((cells_News.f kj5 l0 l1).bind fun t283 => ((cells_Merge.f kj5 l0 t283).bind fun t286 => ((ropewayref10_Same.f kj5 t286 t269).bind fun t289 => (if t289 = true then ((cells_Clash.f kj5 t269 l0).bind fun t290 => (ropewaylaw10_CellsTurns.j1 kj5 l0 l1 t269 t290)) else (ropewaylaw10_CellsTurns.j1 kj5 l0 l1 t269 true))))) else (ropewaylaw10_CellsTurns.j1 kj5 l0 l1 t269 true))) = some r := H
              have A27 := Aside0.mk A270
              clear A270
              replace H := Option.bind_eq_some_iff.mp H
              obtain ⟨t282, A280, H⟩ := H
              replace H : (if t282 = true then ((cells_News.f kj5 l0 l1).bind fun t283 => ((cells_Merge.f kj5 l0 t283).bind fun t286 => ((ropewayref10_Same.f kj5 t286 t269).bind fun t289 => (if t289 = true then ((cells_Clash.f kj5 t269 l0).bind fun t290 => (ropewaylaw10_CellsTurns.j1 kj5 l0 l1 t269 t290)) else (ropewaylaw10_CellsTurns.j1 kj5 l0 l1 t269 true))))) else (ropewaylaw10_CellsTurns.j1 kj5 l0 l1 t269 true)) = some r := H
              have A28 := Aside0.mk A280
              clear A280
              by_cases c29 : t282 = true
              · subst c29
                have H1 : ((cells_News.f kj5 l0 l1).bind fun t283 => ((cells_Merge.f kj5 l0 t283).bind fun t286 => ((ropewayref10_Same.f kj5 t286 t269).bind fun t289 => (if t289 = true then ((cells_Clash.f kj5 t269 l0).bind fun t290 => (ropewaylaw10_CellsTurns.j1 kj5 l0 l1 t269 t290)) else (ropewaylaw10_CellsTurns.j1 kj5 l0 l1 t269 true))))) = some r := by rw [if_pos rfl] at H; exact H
                clear H
                have H := H1
                clear H1
                replace H := Option.bind_eq_some_iff.mp H
                obtain ⟨t283, A300, H⟩ := H
                replace H : ((cells_Merge.f kj5 l0 t283).bind fun t286 => ((ropewayref10_Same.f kj5 t286 t269).bind fun t289 => (if t289 = true then ((cells_Clash.f kj5 t269 l0).bind fun t290 => (ropewaylaw10_CellsTurns.j1 kj5 l0 l1 t269 t290)) else (ropewaylaw10_CellsTurns.j1 kj5 l0 l1 t269 true)))) = some r := H
                have A30 := Aside0.mk A300
                clear A300
                replace H := Option.bind_eq_some_iff.mp H
                obtain ⟨t286, A310, H⟩ := H
                replace H : ((ropewayref10_Same.f kj5 t286 t269).bind fun t289 => (if t289 = true then ((cells_Clash.f kj5 t269 l0).bind fun t290 => (ropewaylaw10_CellsTurns.j1 kj5 l0 l1 t269 t290)) else (ropewaylaw10_CellsTurns.j1 kj5 l0 l1 t269 true))) = some r := H
                have A31 := Aside0.mk A310
                clear A310
                replace H := Option.bind_eq_some_iff.mp H
                obtain ⟨t289, A320, H⟩ := H
                replace H : (if t289 = true then ((cells_Clash.f kj5 t269 l0).bind fun t290 => (ropewaylaw10_CellsTurns.j1 kj5 l0 l1 t269 t290)) else (ropewaylaw10_CellsTurns.j1 kj5 l0 l1 t269 true)) = some r := H
                have A32 := Aside0.mk A320
                clear A320
                by_cases c33 : t289 = true
                · subst c33
                  have H1 : ((cells_Clash.f kj5 t269 l0).bind fun t290 => (ropewaylaw10_CellsTurns.j1 kj5 l0 l1 t269 t290)) = some r := by rw [if_pos rfl] at H; exact H
                  clear H
                  have H := H1
                  clear H1
                  replace H := Option.bind_eq_some_iff.mp H
                  obtain ⟨t290, A340, H⟩ := H
                  replace H : (ropewaylaw10_CellsTurns.j1 kj5 l0 l1 t269 t290) = some r := H
                  have A34 := Aside0.mk A340
                  clear A340
                  have H' := Aside0.mk H
                  clear H
                  obtain ⟨Ao35, co35, eo35⟩ := Kd.R_slice HO271.out
                  subst eo35
                  go_wp2_with (first | ((with_reducible refine gate_callee (f := 26) rfl ?_); refine goesL_ (some 31) rfl rfl Try.func26 (by kernel_rfl) rfl #[.slice Ao35 t269.length co35] rfl (by (try simp only [List.map_toArray, List.map_cons, List.map_nil]); first | done | rfl | (simp only [List.length_drop, List.length_take]; rfl)) ?_; (with_reducible refine (cells_Check.calls kj5 _ _ t269 t272 _ ?side1 ?side2 A23.out).mono ?_); (case side1 => repeat (first | exact (Kd.R_reads' HO271.out).2.2 | (with_reducible refine Kd.C_alloc ?_ _) | (with_reducible refine Kd.C_drewN ?_ _) | (with_reducible refine Kd.C_drew ?_))); (case side2 => exact (Kd.R_reads' HO271.out).2.1); rintro e w36 ⟨rfl, hb⟩; refine ⟨_, rfl, ?_⟩; have n0_ := Aside0.mk (Kd.R_below (by (with_reducible repeat (first | apply Kd.R_alloc | apply Kd.R_drewN | apply Kd.R_drew)); exact HO271.out) hb); have n1_ := Aside0.mk (below_step (by repeat (first | (with_reducible first | exact HB.out | apply below_alloc | apply pw_below_drewN | apply below_drew1) | exact HB.out)) hb); clear HO271; clear HB; have HO271 := n0_; have HB := n1_; clear n0_ n1_; (try clear hb); (try clear hb2); (try clear hk); (try clear hi)) | (go_at_call 29; (with_reducible refine (cells_Merge.calls kj5 (fun k_ => some k_ = (.slice Ao35 t269.length co35 : Value).ownBlock) _ _ t269 _ _ l2 t273 _ ?side1 ?side2 ?side3 A25.out).mono ?_); (case side1 => exact Kd.R_V (Kd.R_tight rfl (HO271.out))); (case side2 => repeat (first | exact (Kd.C_below HR2.out HB.out) | (with_reducible refine Kd.C_alloc ?_ _) | (with_reducible refine Kd.C_drewN ?_ _) | (with_reducible refine Kd.C_drew ?_))); (case side3 => exact HC2.out); rintro e w37 ⟨v274, rfl, ho0, hb⟩; have n0_ := Aside0.mk (Kd.R_elder' (by (with_reducible repeat (first | apply Kd.R_alloc | apply Kd.R_drewN | apply Kd.R_drew)); exact HO271.out) (Kd.R_base ho0) hb); have n1_ := Aside0.mk (Kd.R_lower (Kd.R_new' (Kd.R_mono (ok' := fun k_ => True) ho0 (fun _ hk_ => trivial)) (Kd.R_lt (by (with_reducible repeat (first | apply Kd.R_alloc | apply Kd.R_drewN | apply Kd.R_drew)); exact HO271.out))) (below_size (by repeat (first | (with_reducible first | exact HB.out | apply below_alloc | apply pw_below_drewN | apply below_drew1) | exact HB.out)))); have n2_ := Aside0.mk (below_step (by repeat (first | (with_reducible first | exact HB.out | apply below_alloc | apply pw_below_drewN | apply below_drew1) | exact HB.out)) hb); clear HO271; clear HB; have HO271 := n0_; have HO275 := n1_; have HB := n2_; clear n0_ n1_ n2_; (try clear hb); (try clear hb2); (try clear hk); (try clear hi); (try clear ho0)) | (go_at_call 29; (with_reducible refine (cells_Merge.calls kj5 (fun k_ => k_ < w.heap.size) _ _ l1 _ _ l2 t276 _ ?side1 ?side2 ?side3 A26.out).mono ?_); (case side1 => exact Kd.V_mk HC1.out (Kd.F_below (Kd.C_F k41_heap HR1.out) (by repeat (first | (with_reducible first | exact HB.out | apply below_alloc | apply pw_below_drewN | apply below_drew1) | exact HB.out)))); (case side2 => repeat (first | exact (Kd.C_below HR2.out HB.out) | (with_reducible refine Kd.C_alloc ?_ _) | (with_reducible refine Kd.C_drewN ?_ _) | (with_reducible refine Kd.C_drew ?_))); (case side3 => exact HC2.out); rintro e w38 ⟨v277, rfl, ho0, hb⟩; have n0_ := Aside0.mk (Kd.R_elder' (by (with_reducible repeat (first | apply Kd.R_alloc | apply Kd.R_drewN | apply Kd.R_drew)); exact HO271.out) (Kd.R_base ho0) hb); have n1_ := Aside0.mk (Kd.R_elder' (by (with_reducible repeat (first | apply Kd.R_alloc | apply Kd.R_drewN | apply Kd.R_drew)); exact HO275.out) (Kd.R_base ho0) hb); have n2_ := Aside0.mk (Kd.R_lower (Kd.R_new' (Kd.R_new' (Kd.R_mono (ok' := fun k_ => True) ho0 (fun _ hk_ => trivial)) (Kd.R_lt (by (with_reducible repeat (first | apply Kd.R_alloc | apply Kd.R_drewN | apply Kd.R_drew)); exact HO271.out))) (Kd.R_lt (by (with_reducible repeat (first | apply Kd.R_alloc | apply Kd.R_drewN | apply Kd.R_drew)); exact HO275.out))) (below_size (by repeat (first | (with_reducible first | exact HB.out | apply below_alloc | apply pw_below_drewN | apply below_drew1) | exact HB.out)))); have n3_ := Aside0.mk (below_step (by repeat (first | (with_reducible first | exact HB.out | apply below_alloc | apply pw_below_drewN | apply below_drew1) | exact HB.out)) hb); clear HO271; clear HO275; clear HB; have HO271 := n0_; have HO275 := n1_; have HO278 := n2_; have HB := n3_; clear n0_ n1_ n2_ n3_; (try clear hb); (try clear hb2); (try clear hk); (try clear hi); (try clear ho0); obtain ⟨Ao39, co39, eo39⟩ := Kd.R_slice HO278.out; subst eo39) | (go_at_call 29; (with_reducible refine (cells_Merge.calls kj5 (fun k_ => k_ < w.heap.size) _ _ l0 _ _ t276 t279 _ ?side1 ?side2 ?side3 A27.out).mono ?_); (case side1 => exact Kd.V_mk HC0.out (Kd.F_below (Kd.C_F k41_heap HR0.out) (by repeat (first | (with_reducible first | exact HB.out | apply below_alloc | apply pw_below_drewN | apply below_drew1) | exact HB.out)))); (case side2 => repeat (first | exact (Kd.R_reads' HO278.out).2.2 | (with_reducible refine Kd.C_alloc ?_ _) | (with_reducible refine Kd.C_drewN ?_ _) | (with_reducible refine Kd.C_drew ?_))); (case side3 => exact (Kd.R_reads' HO278.out).2.1); rintro e w40 ⟨v280, rfl, ho0, hb⟩; have n0_ := Aside0.mk (Kd.R_elder' (by (with_reducible repeat (first | apply Kd.R_alloc | apply Kd.R_drewN | apply Kd.R_drew)); exact HO271.out) (Kd.R_base ho0) hb); have n1_ := Aside0.mk (Kd.R_elder' (by (with_reducible repeat (first | apply Kd.R_alloc | apply Kd.R_drewN | apply Kd.R_drew)); exact HO275.out) (Kd.R_base ho0) hb); have n2_ := Aside0.mk (Kd.R_elder' (by (with_reducible repeat (first | apply Kd.R_alloc | apply Kd.R_drewN | apply Kd.R_drew)); exact HO278.out) (Kd.R_base ho0) hb); have n3_ := Aside0.mk (Kd.R_lower (Kd.R_new' (Kd.R_new' (Kd.R_new' (Kd.R_mono (ok' := fun k_ => True) ho0 (fun _ hk_ => trivial)) (Kd.R_lt (by (with_reducible repeat (first | apply Kd.R_alloc | apply Kd.R_drewN | apply Kd.R_drew)); exact HO271.out))) (Kd.R_lt (by (with_reducible repeat (first | apply Kd.R_alloc | apply Kd.R_drewN | apply Kd.R_drew)); exact HO275.out))) (Kd.R_lt (by (with_reducible repeat (first | apply Kd.R_alloc | apply Kd.R_drewN | apply Kd.R_drew)); exact HO278.out))) (below_size (by repeat (first | (with_reducible first | exact HB.out | apply below_alloc | apply pw_below_drewN | apply below_drew1) | exact HB.out)))); have n4_ := Aside0.mk (below_step (by repeat (first | (with_reducible first | exact HB.out | apply below_alloc | apply pw_below_drewN | apply below_drew1) | exact HB.out)) hb); clear HO271; clear HO275; clear HO278; clear HB; have HO271 := n0_; have HO275 := n1_; have HO278 := n2_; have HO281 := n3_; have HB := n4_; clear n0_ n1_ n2_ n3_ n4_; (try clear hb); (try clear hb2); (try clear hk); (try clear hi); (try clear ho0); obtain ⟨Ao41, co41, eo41⟩ := Kd.R_slice HO275.out; subst eo41; obtain ⟨Ao42, co42, eo42⟩ := Kd.R_slice HO281.out; subst eo42) | (go_at_call 32; (with_reducible refine (ropewayref10_Same.calls kj5 _ _ t273 _ _ t279 true _ ?side1 ?side2 ?side3 ?side4 A28.out).mono ?_); (case side1 => repeat (first | exact (Kd.R_reads' HO275.out).2.2 | (with_reducible refine Kd.C_alloc ?_ _) | (with_reducible refine Kd.C_drewN ?_ _) | (with_reducible refine Kd.C_drew ?_))); (case side2 => exact (Kd.R_reads' HO275.out).2.1); (case side3 => repeat (first | exact (Kd.R_reads' HO281.out).2.2 | (with_reducible refine Kd.C_alloc ?_ _) | (with_reducible refine Kd.C_drewN ?_ _) | (with_reducible refine Kd.C_drew ?_))); (case side4 => exact (Kd.R_reads' HO281.out).2.1); rintro e w' ⟨rfl, ⟨nd, rfl⟩⟩) | (go_at_call 31; (with_reducible refine (cells_News.calls kj5 _ _ l0 _ _ l1 t283 _ ?side1 ?side2 ?side3 ?side4 A30.out).mono ?_); (case side1 => repeat (first | exact (Kd.C_below HR0.out (by repeat (first | (with_reducible first | exact HB.out | apply below_alloc | apply pw_below_drewN | apply below_drew1) | exact HB.out))) | (with_reducible refine Kd.C_alloc ?_ _) | (with_reducible refine Kd.C_drewN ?_ _) | (with_reducible refine Kd.C_drew ?_))); (case side2 => exact HC0.out); (case side3 => repeat (first | exact (Kd.C_below HR1.out (by repeat (first | (with_reducible first | exact HB.out | apply below_alloc | apply pw_below_drewN | apply below_drew1) | exact HB.out))) | (with_reducible refine Kd.C_alloc ?_ _) | (with_reducible refine Kd.C_drewN ?_ _) | (with_reducible refine Kd.C_drew ?_))); (case side4 => exact HC1.out); rintro e w43 ⟨v284, rfl, ho0, hb⟩; have n0_ := Aside0.mk (Kd.R_elder' (by (with_reducible repeat (first | apply Kd.R_alloc | apply Kd.R_drewN | apply Kd.R_drew)); exact HO271.out) (Kd.R_base ho0) hb); have n1_ := Aside0.mk (Kd.R_elder' (by (with_reducible repeat (first | apply Kd.R_alloc | apply Kd.R_drewN | apply Kd.R_drew)); exact HO275.out) (Kd.R_base ho0) hb); have n2_ := Aside0.mk (Kd.R_elder' (by (with_reducible repeat (first | apply Kd.R_alloc | apply Kd.R_drewN | apply Kd.R_drew)); exact HO278.out) (Kd.R_base ho0) hb); have n3_ := Aside0.mk (Kd.R_elder' (by (with_reducible repeat (first | apply Kd.R_alloc | apply Kd.R_drewN | apply Kd.R_drew)); exact HO281.out) (Kd.R_base ho0) hb); have n4_ := Aside0.mk (Kd.R_lower (Kd.R_new' (Kd.R_new' (Kd.R_new' (Kd.R_new' ho0 (Kd.R_lt (by (with_reducible repeat (first | apply Kd.R_alloc | apply Kd.R_drewN | apply Kd.R_drew)); exact HO271.out))) (Kd.R_lt (by (with_reducible repeat (first | apply Kd.R_alloc | apply Kd.R_drewN | apply Kd.R_drew)); exact HO275.out))) (Kd.R_lt (by (with_reducible repeat (first | apply Kd.R_alloc | apply Kd.R_drewN | apply Kd.R_drew)); exact HO278.out))) (Kd.R_lt (by (with_reducible repeat (first | apply Kd.R_alloc | apply Kd.R_drewN | apply Kd.R_drew)); exact HO281.out))) (below_size (by repeat (first | (with_reducible first | exact HB.out | apply below_alloc | apply pw_below_drewN | apply below_drew1) | exact HB.out)))); have n5_ := Aside0.mk (below_step (by repeat (first | (with_reducible first | exact HB.out | apply below_alloc | apply pw_below_drewN | apply below_drew1) | exact HB.out)) hb); clear HO271; clear HO275; clear HO278; clear HO281; clear HB; have HO271 := n0_; have HO275 := n1_; have HO278 := n2_; have HO281 := n3_; have HO285 := n4_; have HB := n5_; clear n0_ n1_ n2_ n3_ n4_ n5_; (try clear hb); (try clear hb2); (try clear hk); (try clear hi); (try clear ho0); obtain ⟨Ao44, co44, eo44⟩ := Kd.R_slice HO285.out; subst eo44) | (go_at_call 29; (with_reducible refine (cells_Merge.calls kj5 (fun k_ => k_ < w.heap.size) _ _ l0 _ _ t283 t286 _ ?side1 ?side2 ?side3 A31.out).mono ?_); (case side1 => exact Kd.V_mk HC0.out (Kd.F_below (Kd.C_F k41_heap HR0.out) (by repeat (first | (with_reducible first | exact HB.out | apply below_alloc | apply pw_below_drewN | apply below_drew1) | exact HB.out)))); (case side2 => repeat (first | exact (Kd.R_reads' HO285.out).2.2 | (with_reducible refine Kd.C_alloc ?_ _) | (with_reducible refine Kd.C_drewN ?_ _) | (with_reducible refine Kd.C_drew ?_))); (case side3 => exact (Kd.R_reads' HO285.out).2.1); rintro e w45 ⟨v287, rfl, ho0, hb⟩; have n0_ := Aside0.mk (Kd.R_elder' (by (with_reducible repeat (first | apply Kd.R_alloc | apply Kd.R_drewN | apply Kd.R_drew)); exact HO271.out) (Kd.R_base ho0) hb); have n1_ := Aside0.mk (Kd.R_elder' (by (with_reducible repeat (first | apply Kd.R_alloc | apply Kd.R_drewN | apply Kd.R_drew)); exact HO275.out) (Kd.R_base ho0) hb); have n2_ := Aside0.mk (Kd.R_elder' (by (with_reducible repeat (first | apply Kd.R_alloc | apply Kd.R_drewN | apply Kd.R_drew)); exact HO278.out) (Kd.R_base ho0) hb); have n3_ := Aside0.mk (Kd.R_elder' (by (with_reducible repeat (first | apply Kd.R_alloc | apply Kd.R_drewN | apply Kd.R_drew)); exact HO281.out) (Kd.R_base ho0) hb); have n4_ := Aside0.mk (Kd.R_elder' (by (with_reducible repeat (first | apply Kd.R_alloc | apply Kd.R_drewN | apply Kd.R_drew)); exact HO285.out) (Kd.R_base ho0) hb); have n5_ := Aside0.mk (Kd.R_lower (Kd.R_new' (Kd.R_new' (Kd.R_new' (Kd.R_new' (Kd.R_new' (Kd.R_mono (ok' := fun k_ => True) ho0 (fun _ hk_ => trivial)) (Kd.R_lt (by (with_reducible repeat (first | apply Kd.R_alloc | apply Kd.R_drewN | apply Kd.R_drew)); exact HO271.out))) (Kd.R_lt (by (with_reducible repeat (first | apply Kd.R_alloc | apply Kd.R_drewN | apply Kd.R_drew)); exact HO275.out))) (Kd.R_lt (by (with_reducible repeat (first | apply Kd.R_alloc | apply Kd.R_drewN | apply Kd.R_drew)); exact HO278.out))) (Kd.R_lt (by (with_reducible repeat (first | apply Kd.R_alloc | apply Kd.R_drewN | apply Kd.R_drew)); exact HO281.out))) (Kd.R_lt (by (with_reducible repeat (first | apply Kd.R_alloc | apply Kd.R_drewN | apply Kd.R_drew)); exact HO285.out))) (below_size (by repeat (first | (with_reducible first | exact HB.out | apply below_alloc | apply pw_below_drewN | apply below_drew1) | exact HB.out)))); have n6_ := Aside0.mk (below_step (by repeat (first | (with_reducible first | exact HB.out | apply below_alloc | apply pw_below_drewN | apply below_drew1) | exact HB.out)) hb); clear HO271; clear HO275; clear HO278; clear HO281; clear HO285; clear HB; have HO271 := n0_; have HO275 := n1_; have HO278 := n2_; have HO281 := n3_; have HO285 := n4_; have HO288 := n5_; have HB := n6_; clear n0_ n1_ n2_ n3_ n4_ n5_ n6_; (try clear hb); (try clear hb2); (try clear hk); (try clear hi); (try clear ho0); obtain ⟨Ao46, co46, eo46⟩ := Kd.R_slice HO288.out; subst eo46) | (go_at_call 32; (with_reducible refine (ropewayref10_Same.calls kj5 _ _ t286 _ _ t269 true _ ?side1 ?side2 ?side3 ?side4 A32.out).mono ?_); (case side1 => repeat (first | exact (Kd.R_reads' HO288.out).2.2 | (with_reducible refine Kd.C_alloc ?_ _) | (with_reducible refine Kd.C_drewN ?_ _) | (with_reducible refine Kd.C_drew ?_))); (case side2 => exact (Kd.R_reads' HO288.out).2.1); (case side3 => repeat (first | exact (Kd.R_reads' HO271.out).2.2 | (with_reducible refine Kd.C_alloc ?_ _) | (with_reducible refine Kd.C_drewN ?_ _) | (with_reducible refine Kd.C_drew ?_))); (case side4 => exact (Kd.R_reads' HO271.out).2.1); rintro e w' ⟨rfl, ⟨nd, rfl⟩⟩) | (go_at_call 33; (with_reducible refine (cells_Clash.calls kj5 _ _ t269 _ _ l0 t290 _ ?side1 ?side2 ?side3 ?side4 A34.out).mono ?_); (case side1 => repeat (first | exact (Kd.R_reads' HO271.out).2.2 | (with_reducible refine Kd.C_alloc ?_ _) | (with_reducible refine Kd.C_drewN ?_ _) | (with_reducible refine Kd.C_drew ?_))); (case side2 => exact (Kd.R_reads' HO271.out).2.1); (case side3 => repeat (first | exact (Kd.C_below HR0.out (by repeat (first | (with_reducible first | exact HB.out | apply below_alloc | apply pw_below_drewN | apply below_drew1) | exact HB.out))) | (with_reducible refine Kd.C_alloc ?_ _) | (with_reducible refine Kd.C_drewN ?_ _) | (with_reducible refine Kd.C_drew ?_))); (case side4 => exact HC0.out); rintro e w47 ⟨rfl, hb⟩; have n0_ := Aside0.mk (Kd.R_below (by (with_reducible repeat (first | apply Kd.R_alloc | apply Kd.R_drewN | apply Kd.R_drew)); exact HO271.out) hb); have n1_ := Aside0.mk (Kd.R_below (by (with_reducible repeat (first | apply Kd.R_alloc | apply Kd.R_drewN | apply Kd.R_drew)); exact HO275.out) hb); have n2_ := Aside0.mk (Kd.R_below (by (with_reducible repeat (first | apply Kd.R_alloc | apply Kd.R_drewN | apply Kd.R_drew)); exact HO278.out) hb); have n3_ := Aside0.mk (Kd.R_below (by (with_reducible repeat (first | apply Kd.R_alloc | apply Kd.R_drewN | apply Kd.R_drew)); exact HO281.out) hb); have n4_ := Aside0.mk (Kd.R_below (by (with_reducible repeat (first | apply Kd.R_alloc | apply Kd.R_drewN | apply Kd.R_drew)); exact HO285.out) hb); have n5_ := Aside0.mk (Kd.R_below (by (with_reducible repeat (first | apply Kd.R_alloc | apply Kd.R_drewN | apply Kd.R_drew)); exact HO288.out) hb); have n6_ := Aside0.mk (below_step (by repeat (first | (with_reducible first | exact HB.out | apply below_alloc | apply pw_below_drewN | apply below_drew1) | exact HB.out)) hb); clear HO271; clear HO275; clear HO278; clear HO281; clear HO285; clear HO288; clear HB; have HO271 := n0_; have HO275 := n1_; have HO278 := n2_; have HO281 := n3_; have HO285 := n4_; have HO288 := n5_; have HB := n6_; clear n0_ n1_ n2_ n3_ n4_ n5_ n6_; (try clear hb); (try clear hb2); (try clear hk); (try clear hi)))
                  go_meet
                  case rel => exact ⟨_, (t290), (by first | rfl | (simp; done) | (simp [*]; done) | (simp; grind)), H', ⟨by have := HJ5.out; first | omega | exact Nat.le_refl _⟩, ⟨by (with_reducible repeat (first | apply Kd.R_alloc | apply Kd.R_drewN | apply Kd.R_drew)); exact Kd.R_mono HO271.out (fun _ hk => trivial)⟩, ⟨by repeat (first | (with_reducible first | exact HB.out | apply below_alloc | apply pw_below_drewN | apply below_drew1) | exact HB.out)⟩⟩
                · replace c33 := Bool.eq_false_iff.mpr c33
                  subst c33
                  have H1 : (ropewaylaw10_CellsTurns.j1 kj5 l0 l1 t269 true) = some r := by rw [if_neg (show ¬ (false = true) by decide)] at H; exact H
                  clear H
                  have H := H1
                  clear H1
                  have hr1 := hr1_.out
                  subst hr1
                  (cases kj5) <;> simp [ropewaylaw10_CellsTurns.j1] at H
              · replace c29 := Bool.eq_false_iff.mpr c29
                subst c29
                have H1 : (ropewaylaw10_CellsTurns.j1 kj5 l0 l1 t269 true) = some r := by rw [if_neg (show ¬ (false = true) by decide)] at H; exact H
                clear H
                have H := H1
                clear H1
                have hr1 := hr1_.out
                subst hr1
                (cases kj5) <;> simp [ropewaylaw10_CellsTurns.j1] at H
            · rw [if_neg c24] at H
              have c24b0 : (t272 == 0) = false := beq_eq_false_iff_ne.mpr c24
              have c24b1 : (t272 != 0) = true := bne_iff_ne.mpr c24
              (first | rw [c24b0] | (simp only [i64_w, i32_w]; rw [c24b0]) | skip)
              have hr1 := hr1_.out
              subst hr1
              (cases kj5) <;> simp [ropewaylaw10_CellsTurns.j1] at H
          case rest =>
            clear HC21
            try clear c1
            try clear c2
            try clear p2
            try clear c3
            try clear c5
            try clear c9
            try clear c9b0
            try clear c9b1
            try clear c10
            try clear c11
            try clear c11b0
            try clear c11b1
            try clear c19
            try clear c24
            try clear c24b0
            try clear c24b1
            try clear c25
            try clear c26
            try clear c29
            try clear c33
            try clear p2
            obtain ⟨kq, x59_20, rfl, HA, HJ20, HO_7, HB⟩ := hcut
            cases kq with
            | zero => exact absurd HA.out (by simp [ropewaylaw10_CellsTurns.j1])
            | succ kj20 =>
              have H := HA.out
              clear HA
              simp only [ropewaylaw10_CellsTurns.j1] at H
              by_cases c48 : x59_20 = true
              · subst c48
                have H1 : (some false) = some r := by rw [if_pos rfl] at H; exact H
                clear H
                have H := H1
                clear H1
                exact absurd (Option.some.inj H) (by rw [hr1_.out]; decide)
              · replace c48 := Bool.eq_false_iff.mpr c48
                subst c48
                have H1 : (ropewaylaw10_CellsTurns.l0 kj20 l0 l1 t269 l1 (l1.length : Int) 0) = some r := by rw [if_neg (show ¬ (false = true) by decide)] at H; exact H
                clear H
                have H := H1
                clear H1
                have H' := Aside0.mk H
                clear H
                go_wp2
                go_loopg [62] kj20 (fun kq v62 w' => ∃ (x62_3 : Int), v62 = .int .i64 x62_3 ∧ Aside0 (ropewaylaw10_CellsTurns.l0 kq l0 l1 t269 l1 (l1.length : Int) x62_3 = some r) ∧ Aside0 (kq ≤ kj20) ∧ Aside0 (Kd.R k41 41 w' w.heap.size (fun _ => True) v270 t269) ∧ Aside0 (Below w.heap.size w w'))
                case atStart => exact ⟨(0), (by first | rfl | (simp; done) | (simp [*]; done) | (simp; grind)), H', ⟨Nat.le_refl _⟩, ⟨by (with_reducible repeat (first | apply Kd.R_alloc | apply Kd.R_drewN | apply Kd.R_drew)); exact HO_7.out⟩, ⟨by repeat (first | (with_reducible first | exact HB.out | apply below_alloc | apply pw_below_drewN | apply below_drew1) | exact HB.out)⟩⟩
                case round =>
                  clear H'
                  try clear c1
                  try clear c2
                  try clear p2
                  try clear c3
                  try clear c4
                  try clear c5
                  try clear c9
                  try clear c9b0
                  try clear c9b1
                  try clear c10
                  try clear c11
                  try clear c11b0
                  try clear c11b1
                  try clear c19
                  try clear c24
                  try clear c24b0
                  try clear c24b1
                  try clear c25
                  try clear c26
                  try clear c29
                  try clear c33
                  try clear c48
                  try clear p2
                  obtain ⟨x62_3, rfl, HA, HK3, HO_7, HB⟩ := hrel
                  cases gk with
                  | zero => exact absurd HA.out (by simp [ropewaylaw10_CellsTurns.l0])
                  | succ k3 =>
                    have H := HA.out
                    clear HA
                    simp only [ropewaylaw10_CellsTurns.l0] at H
                    by_cases c49 : x62_3 < (l1.length : Int)
                    · rw [if_pos c49] at H
                      have c49b0 : decide (x62_3 < (l1.length : Int)) = true := decide_eq_true c49
                      clear c49
                      by_cases c50 : 0 ≤ x62_3
                      · rw [if_pos c50] at H
                        have c50b0 : decide (0 ≤ x62_3) = true := decide_eq_true c50
                        clear c50
                        by_cases c51 : x62_3 < (l1.length : Int)
                        · rw [if_pos c51] at H
                          have c51b0 : decide (x62_3 < (l1.length : Int)) = true := decide_eq_true c51
                          clear c51
                          replace H := Option.bind_eq_some_iff.mp H
                          obtain ⟨⟨t293, t294, t295⟩, A520, H⟩ := H
                          replace H : (if t295 = true then (ropewaylaw10_CellsTurns.l0 k3 l0 l1 t269 l1 (l1.length : Int) (wrap64 (x62_3 + 1))) else (some false)) = some r := H
                          have A52 := Aside0.mk A520
                          clear A520
                          by_cases c53 : t295 = true
                          · subst c53
                            have H1 : (ropewaylaw10_CellsTurns.l0 k3 l0 l1 t269 l1 (l1.length : Int) (wrap64 (x62_3 + 1))) = some r := by rw [if_pos rfl] at H; exact H
                            clear H
                            have H := H1
                            clear H1
                            have H' := Aside0.mk H
                            clear H
                            have p291 : 0 ≤ (x62_3 : Int) := of_decide_eq_true (by first | (with_reducible assumption) | assumption)
                            have q291 : x62_3 < (l1.length : Int) := of_decide_eq_true (by first | (with_reducible assumption) | assumption)
                            obtain ⟨ad291, e291, hx291_0, hx291_1, hx291_2⟩ := at_T41 HR1.out x62_3 p291 q291
                            cases e291
                            replace hx291_0 := (HB.out.cell (World.block_lt_of_cell? w _ hx291_0)).trans hx291_0
                            replace hx291_1 := (HB.out.cell (World.block_lt_of_cell? w _ hx291_1)).trans hx291_1
                            replace hx291_2 := (HB.out.cell (World.block_lt_of_cell? w _ hx291_2)).trans hx291_2
                            replace p291 := eq_true p291
                            replace q291 := eq_true q291
                            go_wp2_with (first | ((with_reducible refine gate_dst (N := 9) rfl ?_); refine box_event ?hg (N := 9) ?hd (cs := #[.int .i64 0, .int .i64 0, .int .i64 0]) (t := 41) ?hr ?_; (case hd => rfl); (case hg => rfl); (case hr => first | (go_simp; done) | (go_simp; rfl)); intro gb292 hg w54 hbox hb; have n0_ := Aside0.mk (Kd.R_below (Kd.R_elderB (by (with_reducible repeat (first | apply Kd.R_alloc | apply Kd.R_drewN | apply Kd.R_drew)); exact HO_7.out) gb292 (Nat.le_of_eq hg.symm)) hb); have n1_ := Aside0.mk (below_step (by repeat (first | (with_reducible first | exact HB.out | apply below_alloc | apply pw_below_drewN | apply below_drew1) | exact HB.out)) hb); have n2_ := Aside0.mk (hbox); have n3_ := Aside0.mk ((by rw [hg]; exact (below_size (by repeat (first | (with_reducible first | exact HB.out | apply below_alloc | apply pw_below_drewN | apply below_drew1) | exact HB.out))) : w.heap.size ≤ gb292)); have n4_ := Aside0.mk ((by rw [hg]; exact (below_size (by repeat (first | (with_reducible first | exact HB.out | apply below_alloc | apply pw_below_drewN | apply below_drew1) | exact HB.out))) : w.heap.size ≤ gb292)); clear HO_7; clear HB; have HO_7 := n0_; have HB := n1_; have BK292 := n2_; have GW292 := n3_; have GE292 := n4_; clear n0_ n1_ n2_ n3_ n4_; clear hb hbox hg; have hcz55_0 : w54.cell? ⟨gb292, 0, none⟩ = some (.int .i64 0) := (blk_cell BK292.out 0).trans rfl; have hcz55_1 : w54.cell? ⟨gb292, 1, none⟩ = some (.int .i64 0) := (blk_cell BK292.out 1).trans rfl; have hcz55_2 : w54.cell? ⟨gb292, 2, none⟩ = some (.int .i64 0) := (blk_cell BK292.out 2).trans rfl; have hfz55_0 := blk_frozen BK292.out 0; have hfz55_1 := blk_frozen BK292.out 1; have hfz55_2 := blk_frozen BK292.out 2; obtain ⟨Ao56, co56, eo56⟩ := Kd.R_slice HO_7.out; subst eo56) | ((with_reducible refine gate_callee (f := 30) rfl ?_); refine goesL_ (some 70) rfl rfl Try.func30 (by kernel_rfl) rfl #[.slice Ao56 t269.length co56, .int .i64 ((rd_T41 l1 x62_3).f0)] rfl (by (try simp only [List.map_toArray, List.map_cons, List.map_nil]); first | done | rfl | (simp only [List.length_drop, List.length_take]; rfl)) ?_; (with_reducible refine (cells_Of.calls k3 _ _ t269 ((rd_T41 l1 x62_3).f0) t293 t294 true _ ?side1 ?side2 A52.out).mono ?_); (case side1 => refine (Kd.R_reads' (e := 41) (base := w.heap.size) (ok := fun k_ => (True ∧ k_ ≠ gb292)) (n := t269.length) (c := co56) ?_).2.2; exact (by (with_reducible repeat (first | apply Kd.R_alloc | apply Kd.R_drewN | apply Kd.R_drew)); exact (Kd.R_mono (Kd.R_far (p := ⟨gb292, 2, none⟩) (Kd.R_far (p := ⟨gb292, 1, none⟩) (Kd.R_far (p := ⟨gb292, 0, none⟩) (Kd.R_mono HO_7.out (fun k_ hk => (⟨hk, hk.2⟩ : _ ∧ k_ ≠ gb292))) (fun _ hk => hk.2) (.int .i64 ((rd_T41 l1 x62_3).f0))) (fun _ hk => hk.2) (.int .i64 ((rd_T41 l1 x62_3).f1.f0))) (fun _ hk => hk.2) (.int .i64 ((rd_T41 l1 x62_3).f1.f1))) (fun _ h_ => h_.1)))); (case side2 => exact (Kd.R_reads' HO_7.out).2.1); rintro e w57 ⟨rfl, hb⟩; refine ⟨_, rfl, ?_⟩; have n0_ := Aside0.mk (Kd.R_below (by (with_reducible repeat (first | apply Kd.R_alloc | apply Kd.R_drewN | apply Kd.R_drew)); exact (Kd.R_mono (Kd.R_far (p := ⟨gb292, 2, none⟩) (Kd.R_far (p := ⟨gb292, 1, none⟩) (Kd.R_far (p := ⟨gb292, 0, none⟩) (Kd.R_mono HO_7.out (fun k_ hk => (⟨hk, hk.2⟩ : _ ∧ k_ ≠ gb292))) (fun _ hk => hk.2) (.int .i64 ((rd_T41 l1 x62_3).f0))) (fun _ hk => hk.2) (.int .i64 ((rd_T41 l1 x62_3).f1.f0))) (fun _ hk => hk.2) (.int .i64 ((rd_T41 l1 x62_3).f1.f1))) (fun _ h_ => h_.1))) hb); have n1_ := Aside0.mk (blk_below (g := gb292) (o := .cells #[.int .i64 ((rd_T41 l1 x62_3).f0), .int .i64 ((rd_T41 l1 x62_3).f1.f0), .int .i64 ((rd_T41 l1 x62_3).f1.f1)] 41 (0, 0)) (by (with_reducible repeat (first | refine blk_drewN ?_ _ | refine blk_drew ?_ | refine blk_alloc ?_ _)); refine blk_put (cs := #[.int .i64 ((rd_T41 l1 x62_3).f0), .int .i64 ((rd_T41 l1 x62_3).f1.f0), .int .i64 0]) ?_ 2 _ rfl; (with_reducible repeat (first | refine blk_drewN ?_ _ | refine blk_drew ?_ | refine blk_alloc ?_ _)); refine blk_put (cs := #[.int .i64 ((rd_T41 l1 x62_3).f0), .int .i64 0, .int .i64 0]) ?_ 1 _ rfl; (with_reducible repeat (first | refine blk_drewN ?_ _ | refine blk_drew ?_ | refine blk_alloc ?_ _)); refine blk_put (cs := #[.int .i64 0, .int .i64 0, .int .i64 0]) ?_ 0 _ rfl; (with_reducible repeat (first | refine blk_drewN ?_ _ | refine blk_drew ?_ | refine blk_alloc ?_ _)); exact BK292.out) hb); have n2_ := Aside0.mk (below_step (by repeat (first | (with_reducible first | exact HB.out | apply below_alloc | apply pw_below_drewN | apply below_drew1 | refine below_set ?_ GE292.out) | exact HB.out)) hb); clear HO_7; clear BK292; clear HB; have HO_7 := n0_; have BK292 := n1_; have HB := n2_; clear n0_ n1_ n2_; (try clear hb); (try clear hb2); (try clear hk); (try clear hi)) | ((with_reducible refine gate_dst (N := 10) rfl ?_); refine box_event ?hg (N := 10) ?hd (cs := #[.int .i64 0, .int .i64 0]) (t := 25) ?hr ?_; (case hd => rfl); (case hg => rfl); (case hr => first | (go_simp; done) | (go_simp; rfl)); intro gb296 hg w58 hbox hb; have n0_ := Aside0.mk (Kd.R_below (by (with_reducible repeat (first | apply Kd.R_alloc | apply Kd.R_drewN | apply Kd.R_drew)); exact HO_7.out) hb); have n1_ := Aside0.mk (blk_below (g := gb292) (o := .cells #[.int .i64 ((rd_T41 l1 x62_3).f0), .int .i64 ((rd_T41 l1 x62_3).f1.f0), .int .i64 ((rd_T41 l1 x62_3).f1.f1)] 41 (0, 0)) (by (with_reducible repeat (first | refine blk_drewN ?_ _ | refine blk_drew ?_ | refine blk_alloc ?_ _)); exact BK292.out) hb); have n2_ := Aside0.mk (below_step (by repeat (first | (with_reducible first | exact HB.out | apply below_alloc | apply pw_below_drewN | apply below_drew1 | refine below_set ?_ GE292.out) | exact HB.out)) hb); have n3_ := Aside0.mk (hbox); have n4_ := Aside0.mk ((by rw [hg]; exact (below_size (by repeat (first | (with_reducible first | exact HB.out | apply below_alloc | apply pw_below_drewN | apply below_drew1 | refine below_set ?_ GE292.out) | exact HB.out))) : w.heap.size ≤ gb296)); have n5_ := Aside0.mk ((by rw [hg]; exact (below_size (by repeat (first | (with_reducible first | exact HB.out | apply below_alloc | apply pw_below_drewN | apply below_drew1 | refine below_set ?_ GE292.out) | exact HB.out))) : w.heap.size ≤ gb296)); have n6_ := Aside0.mk ((by rw [hg]; exact Nat.ne_of_lt (blk_lt (g := gb292) (o := .cells #[.int .i64 ((rd_T41 l1 x62_3).f0), .int .i64 ((rd_T41 l1 x62_3).f1.f0), .int .i64 ((rd_T41 l1 x62_3).f1.f1)] 41 (0, 0)) (by (with_reducible repeat (first | refine blk_drewN ?_ _ | refine blk_drew ?_ | refine blk_alloc ?_ _)); exact BK292.out)) : gb292 ≠ gb296)); have n7_ := Aside0.mk ((by rw [hg]; exact Nat.ne_of_gt (blk_lt (g := gb292) (o := .cells #[.int .i64 ((rd_T41 l1 x62_3).f0), .int .i64 ((rd_T41 l1 x62_3).f1.f0), .int .i64 ((rd_T41 l1 x62_3).f1.f1)] 41 (0, 0)) (by (with_reducible repeat (first | refine blk_drewN ?_ _ | refine blk_drew ?_ | refine blk_alloc ?_ _)); exact BK292.out)) : gb296 ≠ gb292)); clear HO_7; clear BK292; clear HB; have HO_7 := n0_; have BK292 := n1_; have HB := n2_; have BK296 := n3_; have GW296 := n4_; have GE296 := n5_; have NB292_296 := n6_; have NB296_292 := n7_; clear n0_ n1_ n2_ n3_ n4_ n5_ n6_ n7_; clear hb hbox hg; have hnb59 := NB296_292.out; have hnc59 := NB292_296.out; have hcz60_0 : w58.cell? ⟨gb296, 0, none⟩ = some (.int .i64 0) := (blk_cell BK296.out 0).trans rfl; have hcz60_1 : w58.cell? ⟨gb296, 1, none⟩ = some (.int .i64 0) := (blk_cell BK296.out 1).trans rfl; have hfz60_0 := blk_frozen BK296.out 0; have hfz60_1 := blk_frozen BK296.out 1))
                            go_roundg k3
                            case measure => have := HJ5.out; have := HJ20.out; have := HK3.out; omega
                            case rel => exact ⟨(wrap64 (x62_3 + 1)), (by first | rfl | (simp; done) | (simp [*]; done) | (simp; grind)), H', ⟨by have := HJ5.out; have := HJ20.out; have := HK3.out; omega⟩, ⟨by (with_reducible repeat (first | apply Kd.R_alloc | apply Kd.R_drewN | apply Kd.R_drew)); exact Kd.R_mono (Kd.R_far (p := ⟨gb296, 1, none⟩) (Kd.R_far (p := ⟨gb296, 0, none⟩) (Kd.R_types HO_7.out BK296.out (by decide)) (fun _ hk => hk.2) (.int .i64 t293)) (fun _ hk => hk.2) (.int .i64 t294)) (fun _ hk => trivial)⟩, ⟨by repeat (first | (with_reducible first | exact HB.out | apply below_alloc | apply pw_below_drewN | apply below_drew1 | refine below_set ?_ GE292.out | refine below_set ?_ GE296.out) | exact HB.out)⟩⟩
                          · replace c53 := Bool.eq_false_iff.mpr c53
                            subst c53
                            have H1 : (some false) = some r := by rw [if_neg (show ¬ (false = true) by decide)] at H; exact H
                            clear H
                            have H := H1
                            clear H1
                            exact absurd (Option.some.inj H) (by rw [hr1_.out]; decide)
                        · rw [if_neg c51] at H
                          exact absurd H (by simp)
                      · rw [if_neg c50] at H
                        exact absurd H (by simp)
                    · rw [if_neg c49] at H
                      have c49b0 : decide (x62_3 < (l1.length : Int)) = false := decide_eq_false c49
                      clear c49
                      replace H := Option.bind_eq_some_iff.mp H
                      obtain ⟨t297, A610, H⟩ := H
                      replace H : (if t297 = true then (some true) else ((cells_Merge.f k3 l1 l0).bind fun t298 => ((ropewayref10_Same.f k3 t269 t298).bind fun t301 => (if t301 = true then ((cells_Clash.f k3 t269 l1).bind fun t302 => (some (!t302))) else (some false))))) = some r := H
                      have A61 := Aside0.mk A610
                      clear A610
                      by_cases c62 : t297 = true
                      · subst c62
                        have H1 : (some true) = some r := by rw [if_pos rfl] at H; exact H
                        clear H
                        have H := H1
                        clear H1
                        obtain rfl := Option.some.inj H
                        go_wp2_with (first | ((with_reducible refine gate_callee (f := 33) rfl ?_); refine goesL_ (some 78) rfl rfl Try.func33 (by kernel_rfl) rfl #[.slice A0 l0.length c0, .slice A1 l1.length c1] rfl (by (try simp only [List.map_toArray, List.map_cons, List.map_nil]); first | done | rfl | (simp only [List.length_drop, List.length_take]; rfl)) ?_; (with_reducible refine (cells_Clash.calls k3 _ _ l0 _ _ l1 true _ ?side1 ?side2 ?side3 ?side4 A61.out).mono ?_); (case side1 => repeat (first | exact (Kd.C_below HR0.out HB.out) | (with_reducible refine Kd.C_alloc ?_ _) | (with_reducible refine Kd.C_drewN ?_ _) | (with_reducible refine Kd.C_drew ?_))); (case side2 => exact HC0.out); (case side3 => repeat (first | exact (Kd.C_below HR1.out HB.out) | (with_reducible refine Kd.C_alloc ?_ _) | (with_reducible refine Kd.C_drewN ?_ _) | (with_reducible refine Kd.C_drew ?_))); (case side4 => exact HC1.out); rintro e w63 ⟨rfl, hb⟩; refine ⟨_, rfl, ?_⟩; have n0_ := Aside0.mk (Kd.R_below (by (with_reducible repeat (first | apply Kd.R_alloc | apply Kd.R_drewN | apply Kd.R_drew)); exact HO_7.out) hb); have n1_ := Aside0.mk (below_step (by repeat (first | (with_reducible first | exact HB.out | apply below_alloc | apply pw_below_drewN | apply below_drew1) | exact HB.out)) hb); clear HO_7; clear HB; have HO_7 := n0_; have HB := n1_; clear n0_ n1_; (try clear hb); (try clear hb2); (try clear hk); (try clear hi)))
                        go_ret
                        exact ⟨by first | rfl | (simp [errW_none, errW_some] <;> rfl) | (simp [*, errW_none, errW_some] <;> rfl), by repeat (first | (with_reducible first | exact HB.out | apply below_alloc | apply pw_below_drewN | apply below_drew1) | exact HB.out)⟩
                      · replace c62 := Bool.eq_false_iff.mpr c62
                        subst c62
                        have H1 : ((cells_Merge.f k3 l1 l0).bind fun t298 => ((ropewayref10_Same.f k3 t269 t298).bind fun t301 => (if t301 = true then ((cells_Clash.f k3 t269 l1).bind fun t302 => (some (!t302))) else (some false)))) = some r := by rw [if_neg (show ¬ (false = true) by decide)] at H; exact H
                        clear H
                        have H := H1
                        clear H1
                        replace H := Option.bind_eq_some_iff.mp H
                        obtain ⟨t298, A640, H⟩ := H
                        replace H : ((ropewayref10_Same.f k3 t269 t298).bind fun t301 => (if t301 = true then ((cells_Clash.f k3 t269 l1).bind fun t302 => (some (!t302))) else (some false))) = some r := H
                        have A64 := Aside0.mk A640
                        clear A640
                        replace H := Option.bind_eq_some_iff.mp H
                        obtain ⟨t301, A650, H⟩ := H
                        replace H : (if t301 = true then ((cells_Clash.f k3 t269 l1).bind fun t302 => (some (!t302))) else (some false)) = some r := H
                        have A65 := Aside0.mk A650
                        clear A650
                        by_cases c66 : t301 = true
                        · subst c66
                          have H1 : ((cells_Clash.f k3 t269 l1).bind fun t302 => (some (!t302))) = some r := by rw [if_pos rfl] at H; exact H
                          clear H
                          have H := H1
                          clear H1
                          replace H := Option.bind_eq_some_iff.mp H
                          obtain ⟨t302, A670, H⟩ := H
                          replace H : (some (!t302)) = some r := H
                          have A67 := Aside0.mk A670
                          clear A670
                          obtain rfl := Option.some.inj H
                          go_wp2_with (first | ((with_reducible refine gate_callee (f := 33) rfl ?_); refine goesL_ (some 78) rfl rfl Try.func33 (by kernel_rfl) rfl #[.slice A0 l0.length c0, .slice A1 l1.length c1] rfl (by (try simp only [List.map_toArray, List.map_cons, List.map_nil]); first | done | rfl | (simp only [List.length_drop, List.length_take]; rfl)) ?_; (with_reducible refine (cells_Clash.calls k3 _ _ l0 _ _ l1 false _ ?side1 ?side2 ?side3 ?side4 A61.out).mono ?_); (case side1 => repeat (first | exact (Kd.C_below HR0.out HB.out) | (with_reducible refine Kd.C_alloc ?_ _) | (with_reducible refine Kd.C_drewN ?_ _) | (with_reducible refine Kd.C_drew ?_))); (case side2 => exact HC0.out); (case side3 => repeat (first | exact (Kd.C_below HR1.out HB.out) | (with_reducible refine Kd.C_alloc ?_ _) | (with_reducible refine Kd.C_drewN ?_ _) | (with_reducible refine Kd.C_drew ?_))); (case side4 => exact HC1.out); rintro e w68 ⟨rfl, hb⟩; refine ⟨_, rfl, ?_⟩; have n0_ := Aside0.mk (Kd.R_below (by (with_reducible repeat (first | apply Kd.R_alloc | apply Kd.R_drewN | apply Kd.R_drew)); exact HO_7.out) hb); have n1_ := Aside0.mk (below_step (by repeat (first | (with_reducible first | exact HB.out | apply below_alloc | apply pw_below_drewN | apply below_drew1) | exact HB.out)) hb); clear HO_7; clear HB; have HO_7 := n0_; have HB := n1_; clear n0_ n1_; (try clear hb); (try clear hb2); (try clear hk); (try clear hi)) | (go_at_call 29; (with_reducible refine (cells_Merge.calls k3 (fun k_ => k_ < w.heap.size) _ _ l1 _ _ l0 t298 _ ?side1 ?side2 ?side3 A64.out).mono ?_); (case side1 => exact Kd.V_mk HC1.out (Kd.F_below (Kd.C_F k41_heap HR1.out) (by repeat (first | (with_reducible first | exact HB.out | apply below_alloc | apply pw_below_drewN | apply below_drew1) | exact HB.out)))); (case side2 => repeat (first | exact (Kd.C_below HR0.out HB.out) | (with_reducible refine Kd.C_alloc ?_ _) | (with_reducible refine Kd.C_drewN ?_ _) | (with_reducible refine Kd.C_drew ?_))); (case side3 => exact HC0.out); rintro e w69 ⟨v299, rfl, ho0, hb⟩; have n0_ := Aside0.mk (Kd.R_elder' (by (with_reducible repeat (first | apply Kd.R_alloc | apply Kd.R_drewN | apply Kd.R_drew)); exact HO_7.out) (Kd.R_base ho0) hb); have n1_ := Aside0.mk (Kd.R_lower (Kd.R_new' (Kd.R_mono (ok' := fun k_ => True) ho0 (fun _ hk_ => trivial)) (Kd.R_lt (by (with_reducible repeat (first | apply Kd.R_alloc | apply Kd.R_drewN | apply Kd.R_drew)); exact HO_7.out))) (below_size (by repeat (first | (with_reducible first | exact HB.out | apply below_alloc | apply pw_below_drewN | apply below_drew1) | exact HB.out)))); have n2_ := Aside0.mk (below_step (by repeat (first | (with_reducible first | exact HB.out | apply below_alloc | apply pw_below_drewN | apply below_drew1) | exact HB.out)) hb); clear HO_7; clear HB; have HO_7 := n0_; have HO300 := n1_; have HB := n2_; clear n0_ n1_ n2_; (try clear hb); (try clear hb2); (try clear hk); (try clear hi); (try clear ho0); obtain ⟨Ao70, co70, eo70⟩ := Kd.R_slice HO_7.out; subst eo70; obtain ⟨Ao71, co71, eo71⟩ := Kd.R_slice HO300.out; subst eo71) | (go_at_call 32; (with_reducible refine (ropewayref10_Same.calls k3 _ _ t269 _ _ t298 true _ ?side1 ?side2 ?side3 ?side4 A65.out).mono ?_); (case side1 => repeat (first | exact (Kd.R_reads' HO_7.out).2.2 | (with_reducible refine Kd.C_alloc ?_ _) | (with_reducible refine Kd.C_drewN ?_ _) | (with_reducible refine Kd.C_drew ?_))); (case side2 => exact (Kd.R_reads' HO_7.out).2.1); (case side3 => repeat (first | exact (Kd.R_reads' HO300.out).2.2 | (with_reducible refine Kd.C_alloc ?_ _) | (with_reducible refine Kd.C_drewN ?_ _) | (with_reducible refine Kd.C_drew ?_))); (case side4 => exact (Kd.R_reads' HO300.out).2.1); rintro e w' ⟨rfl, ⟨nd, rfl⟩⟩) | (go_at_call 33; (with_reducible refine (cells_Clash.calls k3 _ _ t269 _ _ l1 t302 _ ?side1 ?side2 ?side3 ?side4 A67.out).mono ?_); (case side1 => repeat (first | exact (Kd.R_reads' HO_7.out).2.2 | (with_reducible refine Kd.C_alloc ?_ _) | (with_reducible refine Kd.C_drewN ?_ _) | (with_reducible refine Kd.C_drew ?_))); (case side2 => exact (Kd.R_reads' HO_7.out).2.1); (case side3 => repeat (first | exact (Kd.C_below HR1.out (by repeat (first | (with_reducible first | exact HB.out | apply below_alloc | apply pw_below_drewN | apply below_drew1) | exact HB.out))) | (with_reducible refine Kd.C_alloc ?_ _) | (with_reducible refine Kd.C_drewN ?_ _) | (with_reducible refine Kd.C_drew ?_))); (case side4 => exact HC1.out); rintro e w72 ⟨rfl, hb⟩; have n0_ := Aside0.mk (Kd.R_below (by (with_reducible repeat (first | apply Kd.R_alloc | apply Kd.R_drewN | apply Kd.R_drew)); exact HO_7.out) hb); have n1_ := Aside0.mk (Kd.R_below (by (with_reducible repeat (first | apply Kd.R_alloc | apply Kd.R_drewN | apply Kd.R_drew)); exact HO300.out) hb); have n2_ := Aside0.mk (below_step (by repeat (first | (with_reducible first | exact HB.out | apply below_alloc | apply pw_below_drewN | apply below_drew1) | exact HB.out)) hb); clear HO_7; clear HO300; clear HB; have HO_7 := n0_; have HO300 := n1_; have HB := n2_; clear n0_ n1_ n2_; (try clear hb); (try clear hb2); (try clear hk); (try clear hi)))
                          go_ret
                          exact ⟨by first | rfl | (simp [errW_none, errW_some] <;> rfl) | (simp [*, errW_none, errW_some] <;> rfl), by repeat (first | (with_reducible first | exact HB.out | apply below_alloc | apply pw_below_drewN | apply below_drew1) | exact HB.out)⟩
                        · replace c66 := Bool.eq_false_iff.mpr c66
                          subst c66
                          have H1 : (some false) = some r := by rw [if_neg (show ¬ (false = true) by decide)] at H; exact H
                          clear H
                          have H := H1
                          clear H1
                          exact absurd (Option.some.inj H) (by rw [hr1_.out]; decide)
  · replace c5 := Bool.eq_false_iff.mpr c5
    subst c5
    have H1 : (some false) = some r := by rw [if_neg (show ¬ (false = true) by decide)] at H; exact H
    clear H
    have H := H1
    clear H1
    exact absurd (Option.some.inj H) (by rw [hr1_.out]; decide)

/-- THE ONE PURE STATEMENT of ropewaylaw10_CellsTurns. -/
def ropewaylaw10_CellsTurns.Pure : Prop := ∀ (l0 : List (S41)) (l1 : List (S41)) (l2 : List (S41)), (l0.length ≤ maxLen ∧ l0.length * 24 ≤ 140737488351232 ∧ ∀ y0 ∈ l0, ((Lit.int .i64 y0.f0).wf = true ∧ ((Lit.int .i64 y0.f1.f0).wf = true ∧ (Lit.int .i64 y0.f1.f1).wf = true))) → (l1.length ≤ maxLen ∧ l1.length * 24 ≤ 140737488351232 ∧ ∀ y0 ∈ l1, ((Lit.int .i64 y0.f0).wf = true ∧ ((Lit.int .i64 y0.f1.f0).wf = true ∧ (Lit.int .i64 y0.f1.f1).wf = true))) → (l2.length ≤ maxLen ∧ l2.length * 24 ≤ 140737488351232 ∧ ∀ y0 ∈ l2, ((Lit.int .i64 y0.f0).wf = true ∧ ((Lit.int .i64 y0.f1.f0).wf = true ∧ (Lit.int .i64 y0.f1.f1).wf = true))) → ∃ k, ropewaylaw10_CellsTurns.f k l0 l1 l2 = some true

end Go.Proofs.Ytophohbodmnpjaa.PCellsTurns
