/- What the code that the law SnapRuns reaches computes (written by a program of this session). -/
import Derived.Test.YtoelfknhnmhlmaaSSnapRunsXWEnd
import Derived.Test.YtoelfknhnmhlmaaPSnapRunsx0
import Derived.Test.YtoelfknhnmhlmaaPSnapRunsx1
import Derived.Test.YtoelfknhnmhlmaaPSnapRunsx3
import Derived.Test.YtoelfknhnmhlmaaPSnapRunsx6
import Derived.Test.YtoelfknhnmhlmaaPSnapRunsx7
import Derived.Test.YtoelfknhnmhlmaaPSnapRunsx8
import Derived.Test.YtoelfknhnmhlmaaPSnapRunsx10
namespace Go.Proofs.Ytoelfknhnmhlmaa.PSnapRuns
open Go.RowKit Go.Proofs.YtoelfknhnmhlmaaX Go.Proofs.YtoelfknhnmhlmaaW.PrintWords Go.Proofs.YtoelfknhnmhlmaaW.PrintLast Go.Proofs.YtoelfknhnmhlmaaW.PrintMore
open List renaming setIfInBounds_toArray → zS, set_cons_zero → zZ, set_cons_succ → zC
open Go.Proofs.YtoelfknhnmhlmaaW.PrintWords renaming blk_drewN → zN, blk_drew → zD, blk_alloc → zA, blk_cell → zL, below_step → zB
open Go.Proofs.YtoelfknhnmhlmaaW.PrintWords.Aside0 renaming mk → zM
attribute [local go_sem] max2_int min2_int max_two min_two max_three min_three max_four min_four
set_option linter.unusedVariables false
set_option linter.unusedSimpArgs false

attribute [local go_sem] px_nilq27
attribute [local go_sem high] eqA26
/-! ### ropewaylaw15_SnapRuns_f: function 4 -/
mutual
def ropewaylaw15_SnapRuns_f.j0 : Nat → List (List (S34)) → Bool → Int → Int → Int → Option (Bool)
  | 0, _, _, _, _, _ => none
  | k + 1, x2, x52, X0, X1, X2 => if x52 = true then (some true) else (ropewaylaw15_SnapRuns_f.l0 k x2 (x2.length : Int) 0 0 ([] : List (S34)) false X0 X1 X2 ([] : List (List (S34))))
def ropewaylaw15_SnapRuns_f.l0 : Nat → List (List (S34)) → Int → Int → Int → List (S34) → Bool → Int → Int → Int → List (List (S34)) → Option (Bool)
  | 0, _, _, _, _, _, _, _, _, _, _ => none
  | k + 1, x63, x64, x65, X0, X1, X2, X3, X4, X5, X6 => if x65 < x64 then (if 0 ≤ x65 then (if x65 < (x63.length : Int) then ((ropewayref10_Check.f k (rd_L3 x63 x65)).bind fun t344 => (if t344 = 0 then ((some (([] : List (S34)) : List (S34))).bind fun y345 => (if y345.length + (rd_L3 x63 x65).length < 5864062014805 then ((some (y345 ++ (rd_L3 x63 x65) : List (S34))).bind fun y348 => (if X0 = 0 then ((api_Cell.f y348).bind fun t351 => (if (y348.length : Int) = 0 then ((snap_Snap_update.f ([] : List (S34)) (wrap64 (X0 + 1)) t351).bind fun t354 => (if t354 = true then (ropewaylaw15_SnapRuns_f.j2 k (rd_L3 x63 x65) y348 x63 x64 x65 (wrap64 (X0 + 1)) t351 X2 X3 X4 X5 X6) else (ropewaylaw15_SnapRuns_f.j2 k (rd_L3 x63 x65) y348 x63 x64 x65 4 t351 X2 X3 X4 X5 X6))) else (ropewaylaw15_SnapRuns_f.j2 k (rd_L3 x63 x65) y348 x63 x64 x65 (wrap64 (X0 + 1)) t351 X2 X3 X4 X5 X6))) else (if X0 = 2 then ((api_Cell.f y348).bind fun t355 => (if (y348.length : Int) = 0 then ((snap_Snap_update.f ([] : List (S34)) (wrap64 (X0 + 1)) t355).bind fun t358 => (if t358 = true then (ropewaylaw15_SnapRuns_f.j2 k (rd_L3 x63 x65) y348 x63 x64 x65 (wrap64 (X0 + 1)) t355 X2 X3 X4 X5 X6) else (ropewaylaw15_SnapRuns_f.j2 k (rd_L3 x63 x65) y348 x63 x64 x65 4 t355 X2 X3 X4 X5 X6))) else (ropewaylaw15_SnapRuns_f.j2 k (rd_L3 x63 x65) y348 x63 x64 x65 (wrap64 (X0 + 1)) t355 X2 X3 X4 X5 X6))) else (if X0 = 1 then ((snap_Snap_update.f ([] : List (S34)) 2 X1).bind fun t359 => (if t359 = true then (ropewaylaw15_SnapRuns_f.j2 k (rd_L3 x63 x65) y348 x63 x64 x65 4 X1 X2 X3 X4 X5 X6) else (ropewaylaw15_SnapRuns_f.j2 k (rd_L3 x63 x65) y348 x63 x64 x65 2 X1 X2 X3 X4 X5 X6))) else (if X0 = 3 then (ropewaylaw15_SnapRuns_f.j2 k (rd_L3 x63 x65) y348 x63 x64 x65 4 X1 X2 X3 X4 X5 X6) else (ropewaylaw15_SnapRuns_f.j2 k (rd_L3 x63 x65) y348 x63 x64 x65 X0 X1 X2 X3 X4 X5 X6)))))) else (none))) else (some true))) else (none)) else (none)) else (if X0 = 4 then (ropewaylaw15_SnapRuns_f.j6 k 0 ([] : List (S34)) false X0 X1 X2 X3 X4 X5 X6) else (if X0 = 0 then (ropewaylaw15_SnapRuns_f.j6 k 0 ([] : List (S34)) true X0 X1 X2 X3 X4 X5 X6) else (if X0 = 2 then (ropewaylaw15_SnapRuns_f.j6 k 0 ([] : List (S34)) true X0 X1 X2 X3 X4 X5 X6) else ((snap_Snap_Own.f ([] : List (S34)) X0 X1).bind fun t383 => (if t383 = true then ((api_Cell.f ([] : List (S34))).bind fun t384 => (ropewaylaw15_SnapRuns_f.j6 k 1 t384 true X0 X1 X2 X3 X4 X5 X6)) else ((api_Cell.f X1).bind fun t387 => (ropewaylaw15_SnapRuns_f.j6 k 1 t387 true X0 X1 X2 X3 X4 X5 X6)))))))
def ropewaylaw15_SnapRuns_f.j2 : Nat → List (S34) → List (S34) → List (List (S34)) → Int → Int → Int → List (S34) → Bool → Int → Int → Int → List (List (S34)) → Option (Bool)
  | 0, _, _, _, _, _, _, _, _, _, _, _, _ => none
  | k + 1, x10, x11, x63, x64, x65, X0, X1, X2, X3, X4, X5, X6 => (ropewayref15_Got.f X2 X3 X4 X5 X6 x10).bind fun bt360 => (ropewaylaw15_SnapRuns_f.l1 k x11 x63 x64 x65 (x11.length : Int) 0 X0 X1 bt360.1 bt360.2.1 bt360.2.2.1 bt360.2.2.2.1 bt360.2.2.2.2)
def ropewaylaw15_SnapRuns_f.l1 : Nat → List (S34) → List (List (S34)) → Int → Int → Int → Int → Int → List (S34) → Bool → Int → Int → Int → List (List (S34)) → Option (Bool)
  | 0, _, _, _, _, _, _, _, _, _, _, _, _, _ => none
  | k + 1, x11, x63, x64, x65, x82, x83, X0, X1, X2, X3, X4, X5, X6 => if x83 < x82 then (if 0 ≤ x83 then (if x83 < (x11.length : Int) then (ropewaylaw15_SnapRuns_f.l1 k (x11.set (x83 : Int).toNat (⟨77, (⟨(rd_T34 x11 x83).f1.f0, (rd_T34 x11 x83).f1.f1⟩ : S26)⟩ : S34)) x63 x64 x65 x82 (wrap64 (x83 + 1)) X0 X1 X2 X3 X4 X5 X6) else (none)) else (none)) else (if X0 = 4 then (ropewaylaw15_SnapRuns_f.j4 k 0 ([] : List (S34)) false x63 x64 x65 X0 X1 X2 X3 X4 X5 X6) else (if X0 = 0 then (ropewaylaw15_SnapRuns_f.j4 k 0 ([] : List (S34)) true x63 x64 x65 X0 X1 X2 X3 X4 X5 X6) else (if X0 = 2 then (ropewaylaw15_SnapRuns_f.j4 k 0 ([] : List (S34)) true x63 x64 x65 X0 X1 X2 X3 X4 X5 X6) else ((snap_Snap_Own.f ([] : List (S34)) X0 X1).bind fun t368 => (if t368 = true then ((api_Cell.f ([] : List (S34))).bind fun t369 => (ropewaylaw15_SnapRuns_f.j4 k 1 t369 true x63 x64 x65 X0 X1 X2 X3 X4 X5 X6)) else ((api_Cell.f X1).bind fun t372 => (ropewaylaw15_SnapRuns_f.j4 k 1 t372 true x63 x64 x65 X0 X1 X2 X3 X4 X5 X6)))))))
def ropewaylaw15_SnapRuns_f.j4 : Nat → Int → List (S34) → Bool → List (List (S34)) → Int → Int → Int → List (S34) → Bool → Int → Int → Int → List (List (S34)) → Option (Bool)
  | 0, _, _, _, _, _, _, _, _, _, _, _, _, _ => none
  | k + 1, x13, x14, x15, x63, x64, x65, X0, X1, X2, X3, X4, X5, X6 => (ropewayref15_Need.f X2 X3 X4 X5 X6).bind fun bt375 => (if x13 = bt375.1 then ((ropewayref10_Same.f k x14 bt375.2.1).bind fun t380 => (if t380 = true then (if (x15 != bt375.2.2) = true then (ropewaylaw15_SnapRuns_f.j5 k x63 x64 x65 true X0 X1 X2 X3 X4 X5 X6) else ((snap_Snap_Own.f ([] : List (S34)) X0 X1).bind fun t381 => ((ropewayref15_Own.f X2 X3 X4 X5 X6).bind fun t382 => (ropewaylaw15_SnapRuns_f.j5 k x63 x64 x65 (t381 != t382) X0 X1 X2 X3 X4 X5 X6)))) else (ropewaylaw15_SnapRuns_f.j5 k x63 x64 x65 true X0 X1 X2 X3 X4 X5 X6))) else (ropewaylaw15_SnapRuns_f.j5 k x63 x64 x65 true X0 X1 X2 X3 X4 X5 X6))
def ropewaylaw15_SnapRuns_f.j5 : Nat → List (List (S34)) → Int → Int → Bool → Int → List (S34) → Bool → Int → Int → Int → List (List (S34)) → Option (Bool)
  | 0, _, _, _, _, _, _, _, _, _, _, _ => none
  | k + 1, x63, x64, x65, x123, X0, X1, X2, X3, X4, X5, X6 => if x123 = true then (some false) else (ropewaylaw15_SnapRuns_f.l0 k x63 x64 (wrap64 (x65 + 1)) X0 X1 X2 X3 X4 X5 X6)
def ropewaylaw15_SnapRuns_f.j6 : Nat → Int → List (S34) → Bool → Int → List (S34) → Bool → Int → Int → Int → List (List (S34)) → Option (Bool)
  | 0, _, _, _, _, _, _, _, _, _, _ => none
  | k + 1, x19, x20, x21, X0, X1, X2, X3, X4, X5, X6 => ropewaylaw15_SnapRuns_f.l2 k x19 x20 x21 (x20.length : Int) 0 X0 X1 X2 X3 X4 X5 X6
def ropewaylaw15_SnapRuns_f.l2 : Nat → Int → List (S34) → Bool → Int → Int → Int → List (S34) → Bool → Int → Int → Int → List (List (S34)) → Option (Bool)
  | 0, _, _, _, _, _, _, _, _, _, _, _, _ => none
  | k + 1, x19, x20, x21, x132, x133, X0, X1, X2, X3, X4, X5, X6 => if x133 < x132 then (if 0 ≤ x133 then (if x133 < (x20.length : Int) then (ropewaylaw15_SnapRuns_f.l2 k x19 (x20.set (x133 : Int).toNat (⟨77, (⟨(rd_T34 x20 x133).f1.f0, (rd_T34 x20 x133).f1.f1⟩ : S26)⟩ : S34)) x21 x132 (wrap64 (x133 + 1)) X0 X1 X2 X3 X4 X5 X6) else (none)) else (none)) else (if X0 = 4 then (ropewaylaw15_SnapRuns_f.j8 k x19 x21 0 ([] : List (S34)) false X0 X1 X2 X3 X4 X5 X6) else (if X0 = 0 then (ropewaylaw15_SnapRuns_f.j8 k x19 x21 0 ([] : List (S34)) true X0 X1 X2 X3 X4 X5 X6) else (if X0 = 2 then (ropewaylaw15_SnapRuns_f.j8 k x19 x21 0 ([] : List (S34)) true X0 X1 X2 X3 X4 X5 X6) else ((snap_Snap_Own.f ([] : List (S34)) X0 X1).bind fun t391 => (if t391 = true then ((api_Cell.f ([] : List (S34))).bind fun t392 => (ropewaylaw15_SnapRuns_f.j8 k x19 x21 1 t392 true X0 X1 X2 X3 X4 X5 X6)) else ((api_Cell.f X1).bind fun t395 => (ropewaylaw15_SnapRuns_f.j8 k x19 x21 1 t395 true X0 X1 X2 X3 X4 X5 X6)))))))
def ropewaylaw15_SnapRuns_f.j8 : Nat → Int → Bool → Int → List (S34) → Bool → Int → List (S34) → Bool → Int → Int → Int → List (List (S34)) → Option (Bool)
  | 0, _, _, _, _, _, _, _, _, _, _, _, _ => none
  | k + 1, x19, x21, x23, x24, x25, X0, X1, X2, X3, X4, X5, X6 => if x19 = x23 then (if (x21 == x25) = true then (if (x24.length : Int) = 0 then (if x21 = true then (some true) else ((snap_Snap_Found.f k ([] : List (S34)) X0 X1).bind fun t398 => ((ropewayref15_Found.f k X2 X3 X4 X5 X6).bind fun t401 => ((ropewayref05_Same.f k t398 t401).bind fun t404 => (some t404))))) else (if 0 < (x24.length : Int) then (if ((rd_T34 x24 0).f0) = 77 then (some false) else (if x21 = true then (some true) else ((snap_Snap_Found.f k ([] : List (S34)) X0 X1).bind fun t406 => ((ropewayref15_Found.f k X2 X3 X4 X5 X6).bind fun t409 => ((ropewayref05_Same.f k t406 t409).bind fun t412 => (some t412)))))) else (none))) else (some false)) else (some false)
end
def ropewaylaw15_SnapRuns_f.f (k : Nat)  (a1_0 : Int) (a1_1 : Int) (a1_2 : Int) (l2 : List (List (S34))) : Option (Bool) := (ropewaylaw15_snapAlive.f k).bind fun t339 => (if t339 = true then (if (l2.length : Int) > 20 then (ropewaylaw15_SnapRuns_f.j0 k l2 true a1_0 a1_1 a1_2) else (if a1_0 < 0 then (ropewaylaw15_SnapRuns_f.j0 k l2 true a1_0 a1_1 a1_2) else (if a1_0 > 5 then (ropewaylaw15_SnapRuns_f.j0 k l2 true a1_0 a1_1 a1_2) else ((ropewayref04_Right.f a1_1 a1_2).bind fun t340 => (if t340 = true then (ropewaylaw15_SnapRuns_f.j0 k l2 (a1_1 == 0 && (a1_2 == 0)) a1_0 a1_1 a1_2) else (ropewaylaw15_SnapRuns_f.j0 k l2 true a1_0 a1_1 a1_2)))))) else (some false))
theorem ropewaylaw15_SnapRuns_f.mono_l : ∀ k, (∀ y0 y1 y2 y3 y4, LeO (ropewaylaw15_SnapRuns_f.j0 k y0 y1 y2 y3 y4) (ropewaylaw15_SnapRuns_f.j0 (k + 1) y0 y1 y2 y3 y4)) ∧ (∀ y0 y1 y2 y3 y4 y5 y6 y7 y8 y9, LeO (ropewaylaw15_SnapRuns_f.l0 k y0 y1 y2 y3 y4 y5 y6 y7 y8 y9) (ropewaylaw15_SnapRuns_f.l0 (k + 1) y0 y1 y2 y3 y4 y5 y6 y7 y8 y9)) ∧ (∀ y0 y1 y2 y3 y4 y5 y6 y7 y8 y9 y10 y11, LeO (ropewaylaw15_SnapRuns_f.j2 k y0 y1 y2 y3 y4 y5 y6 y7 y8 y9 y10 y11) (ropewaylaw15_SnapRuns_f.j2 (k + 1) y0 y1 y2 y3 y4 y5 y6 y7 y8 y9 y10 y11)) ∧ (∀ y0 y1 y2 y3 y4 y5 y6 y7 y8 y9 y10 y11 y12, LeO (ropewaylaw15_SnapRuns_f.l1 k y0 y1 y2 y3 y4 y5 y6 y7 y8 y9 y10 y11 y12) (ropewaylaw15_SnapRuns_f.l1 (k + 1) y0 y1 y2 y3 y4 y5 y6 y7 y8 y9 y10 y11 y12)) ∧ (∀ y0 y1 y2 y3 y4 y5 y6 y7 y8 y9 y10 y11 y12, LeO (ropewaylaw15_SnapRuns_f.j4 k y0 y1 y2 y3 y4 y5 y6 y7 y8 y9 y10 y11 y12) (ropewaylaw15_SnapRuns_f.j4 (k + 1) y0 y1 y2 y3 y4 y5 y6 y7 y8 y9 y10 y11 y12)) ∧ (∀ y0 y1 y2 y3 y4 y5 y6 y7 y8 y9 y10, LeO (ropewaylaw15_SnapRuns_f.j5 k y0 y1 y2 y3 y4 y5 y6 y7 y8 y9 y10) (ropewaylaw15_SnapRuns_f.j5 (k + 1) y0 y1 y2 y3 y4 y5 y6 y7 y8 y9 y10)) ∧ (∀ y0 y1 y2 y3 y4 y5 y6 y7 y8 y9, LeO (ropewaylaw15_SnapRuns_f.j6 k y0 y1 y2 y3 y4 y5 y6 y7 y8 y9) (ropewaylaw15_SnapRuns_f.j6 (k + 1) y0 y1 y2 y3 y4 y5 y6 y7 y8 y9)) ∧ (∀ y0 y1 y2 y3 y4 y5 y6 y7 y8 y9 y10 y11, LeO (ropewaylaw15_SnapRuns_f.l2 k y0 y1 y2 y3 y4 y5 y6 y7 y8 y9 y10 y11) (ropewaylaw15_SnapRuns_f.l2 (k + 1) y0 y1 y2 y3 y4 y5 y6 y7 y8 y9 y10 y11)) ∧ (∀ y0 y1 y2 y3 y4 y5 y6 y7 y8 y9 y10 y11, LeO (ropewaylaw15_SnapRuns_f.j8 k y0 y1 y2 y3 y4 y5 y6 y7 y8 y9 y10 y11) (ropewaylaw15_SnapRuns_f.j8 (k + 1) y0 y1 y2 y3 y4 y5 y6 y7 y8 y9 y10 y11))
  | 0 => ⟨fun _ _ _ _ _ r h => by simp [ropewaylaw15_SnapRuns_f.j0] at h, fun _ _ _ _ _ _ _ _ _ _ r h => by simp [ropewaylaw15_SnapRuns_f.l0] at h, by intros; intro r h; simp [ropewaylaw15_SnapRuns_f.j2] at h, by intros; intro r h; simp [ropewaylaw15_SnapRuns_f.l1] at h, by intros; intro r h; simp [ropewaylaw15_SnapRuns_f.j4] at h, fun _ _ _ _ _ _ _ _ _ _ _ r h => by simp [ropewaylaw15_SnapRuns_f.j5] at h, fun _ _ _ _ _ _ _ _ _ _ r h => by simp [ropewaylaw15_SnapRuns_f.j6] at h, by intros; intro r h; simp [ropewaylaw15_SnapRuns_f.l2] at h, by intros; intro r h; simp [ropewaylaw15_SnapRuns_f.j8] at h⟩
  | k + 1 => by
    obtain ⟨ih0, ih1, ih2, ih3, ih4, ih5, ih6, ih7, ih8⟩ := ropewaylaw15_SnapRuns_f.mono_l k
    refine ⟨?_, ?_, ?_, ?_, ?_, ?_, ?_, ?_, ?_⟩
    · intros
      unfold ropewaylaw15_SnapRuns_f.j0
      repeat' first | (with_reducible first | apply ih1 | exact LeO.refl _ | exact LeO.none _ | refine LeO.ite ?_ ?_ | refine LeO.bind ?_ (fun _ => ?_)) | apply ih1 | exact LeO.none _ | refine LeO.ite ?_ ?_ | refine LeO.bind ?_ (fun _ => ?_)
    · intros
      unfold ropewaylaw15_SnapRuns_f.l0
      repeat' first | (with_reducible first | apply ih2 | apply ih6 | apply ropewayref10_Check.mono | exact LeO.refl _ | exact LeO.none _ | refine LeO.ite ?_ ?_ | refine LeO.bind ?_ (fun _ => ?_)) | apply ih2 | apply ih6 | apply ropewayref10_Check.mono | exact LeO.none _ | refine LeO.ite ?_ ?_ | refine LeO.bind ?_ (fun _ => ?_)
    · intros
      unfold ropewaylaw15_SnapRuns_f.j2
      repeat' first | (with_reducible first | apply ih3 | exact LeO.refl _ | exact LeO.none _ | refine LeO.ite ?_ ?_ | refine LeO.bind ?_ (fun _ => ?_)) | apply ih3 | exact LeO.none _ | refine LeO.ite ?_ ?_ | refine LeO.bind ?_ (fun _ => ?_)
    · intros
      unfold ropewaylaw15_SnapRuns_f.l1
      repeat' first | (with_reducible first | apply ih3 | apply ih4 | exact LeO.refl _ | exact LeO.none _ | refine LeO.ite ?_ ?_ | refine LeO.bind ?_ (fun _ => ?_)) | apply ih3 | apply ih4 | exact LeO.none _ | refine LeO.ite ?_ ?_ | refine LeO.bind ?_ (fun _ => ?_)
    · intros
      unfold ropewaylaw15_SnapRuns_f.j4
      repeat' first | (with_reducible first | apply ih5 | apply ropewayref10_Same.mono | exact LeO.refl _ | exact LeO.none _ | refine LeO.ite ?_ ?_ | refine LeO.bind ?_ (fun _ => ?_)) | apply ih5 | apply ropewayref10_Same.mono | exact LeO.none _ | refine LeO.ite ?_ ?_ | refine LeO.bind ?_ (fun _ => ?_)
    · intros
      unfold ropewaylaw15_SnapRuns_f.j5
      repeat' first | (with_reducible first | apply ih1 | exact LeO.refl _ | exact LeO.none _ | refine LeO.ite ?_ ?_ | refine LeO.bind ?_ (fun _ => ?_)) | apply ih1 | exact LeO.none _ | refine LeO.ite ?_ ?_ | refine LeO.bind ?_ (fun _ => ?_)
    · intros
      unfold ropewaylaw15_SnapRuns_f.j6
      repeat' first | (with_reducible first | apply ih7 | exact LeO.refl _ | exact LeO.none _ | refine LeO.ite ?_ ?_ | refine LeO.bind ?_ (fun _ => ?_)) | apply ih7 | exact LeO.none _ | refine LeO.ite ?_ ?_ | refine LeO.bind ?_ (fun _ => ?_)
    · intros
      unfold ropewaylaw15_SnapRuns_f.l2
      repeat' first | (with_reducible first | apply ih7 | apply ih8 | exact LeO.refl _ | exact LeO.none _ | refine LeO.ite ?_ ?_ | refine LeO.bind ?_ (fun _ => ?_)) | apply ih7 | apply ih8 | exact LeO.none _ | refine LeO.ite ?_ ?_ | refine LeO.bind ?_ (fun _ => ?_)
    · intros
      unfold ropewaylaw15_SnapRuns_f.j8
      repeat' first | (with_reducible first | apply ropewayref05_Same.mono | apply ropewayref15_Found.mono | apply snap_Snap_Found.mono | exact LeO.refl _ | exact LeO.none _ | refine LeO.ite ?_ ?_ | refine LeO.bind ?_ (fun _ => ?_)) | apply ropewayref05_Same.mono | apply ropewayref15_Found.mono | apply snap_Snap_Found.mono | exact LeO.none _ | refine LeO.ite ?_ ?_ | refine LeO.bind ?_ (fun _ => ?_)
theorem ropewaylaw15_SnapRuns_f.mono : ∀ a0 a1 a2 a3 k, LeO (ropewaylaw15_SnapRuns_f.f k a0 a1 a2 a3) (ropewaylaw15_SnapRuns_f.f (k + 1) a0 a1 a2 a3) := by
  intro a0 a1 a2 a3 k
  obtain ⟨ih0, ih1, ih2, ih3, ih4, ih5, ih6, ih7, ih8⟩ := ropewaylaw15_SnapRuns_f.mono_l k
  unfold ropewaylaw15_SnapRuns_f.f
  repeat' first | (with_reducible first | apply ih0 | apply ih1 | apply ih2 | apply ih3 | apply ih4 | apply ih5 | apply ih6 | apply ih7 | apply ih8 | apply ropewaylaw15_snapAlive.mono | exact LeO.refl _ | exact LeO.none _ | refine LeO.ite ?_ ?_ | refine LeO.bind ?_ (fun _ => ?_)) | apply ih0 | apply ih1 | apply ih2 | apply ih3 | apply ih4 | apply ih5 | apply ih6 | apply ih7 | apply ih8 | apply ropewaylaw15_snapAlive.mono | exact LeO.none _ | refine LeO.ite ?_ ?_ | refine LeO.bind ?_ (fun _ => ?_)
def ropewaylaw15_SnapRuns_f.T24 : Bool × List (List Nat × List Nat) := (true, [([], []), ([], []), ([0, 1], [0, 1]), ([2], [2]), ([3], [3]), ([3], [3]), ([4, 5, 3, 3], [3, 4, 5]), ([6, 3], [3, 6]), ([3, 7], [3, 7]), ([8, 6], [8]), ([9], [9]), ([9], [9]), ([10, 11, 9], [9, 10, 11]), ([9, 12], [9, 12]), ([13, 9], [13]), ([14], [14]), ([15, 14, 14], [14, 15]), ([14], [14]), ([17, 16, 14], [14, 17]), ([16, 18, 14], [14, 16, 18]), ([14, 19], [14, 19])])
def ropewaylaw15_SnapRuns_f.B24 : List Nat := [0, 0, 3, 7, 15, 15, 63, 127, 255, 511, 1023, 1023, 4095, 8191, 16383, 32767, 65535, 32767, 262143, 524287, 1048575]
theorem ropewaylaw15_SnapRuns_f.tab24 : rtab .any (opsOf Try.f4 24) = ropewaylaw15_SnapRuns_f.T24 := by kernel_rfl
theorem ropewaylaw15_SnapRuns_f.bits24 : waitsOk ropewaylaw15_SnapRuns_f.T24.2 ropewaylaw15_SnapRuns_f.B24 = true := by kernel_rfl
def ropewaylaw15_SnapRuns_f.T34 : Bool × List (List Nat × List Nat) := (true, [([], []), ([], []), ([0, 1], [0, 1]), ([2], [2]), ([3], [3]), ([3], [3]), ([4, 5, 3], [3, 4, 5]), ([3, 6], [3, 6]), ([7, 3], [7]), ([8], [8]), ([9, 8], [8, 9]), ([10, 8], [8, 10]), ([11, 8, 8], [8, 11]), ([12], [12]), ([13, 12], [12, 13]), ([14, 12], [12, 14]), ([15, 12], [12, 15]), ([16, 12], [12, 16]), ([12, 17, 8], [8, 12, 17]), ([8, 18], [8, 18]), ([19, 12], [19]), ([20], [20]), ([21, 20, 20], [20, 21]), ([22], [22]), ([23, 22, 22], [22, 23]), ([22], [22]), ([25, 24, 22], [22, 25]), ([24, 26, 26, 22], [22, 24, 26]), ([22, 27, 20], [20, 22, 27]), ([20, 28], [20, 28]), ([29, 27, 0, 1, 2, 3, 4, 5, 6, 7, 8, 9, 10, 11, 12, 13, 14, 15, 16, 17, 18, 19, 20, 21, 22, 23, 24, 25, 26, 27, 28, 29], [29])])
def ropewaylaw15_SnapRuns_f.B34 : List Nat := [0, 0, 3, 7, 15, 15, 63, 127, 255, 511, 1023, 2047, 4095, 8191, 16383, 32767, 65535, 131071, 262143, 524287, 1048575, 2097151, 4194303, 8388607, 16777215, 8388607, 67108863, 134217727, 268435455, 536870911, 1073741823]
theorem ropewaylaw15_SnapRuns_f.tab34 : rtab .any (opsOf Try.f4 34) = ropewaylaw15_SnapRuns_f.T34 := by kernel_rfl
theorem ropewaylaw15_SnapRuns_f.bits34 : waitsOk ropewaylaw15_SnapRuns_f.T34.2 ropewaylaw15_SnapRuns_f.B34 = true := by kernel_rfl
set_option maxHeartbeats 8000000 in
set_option maxRecDepth 100000 in
theorem ropewaylaw15_SnapRuns_f.calls (k : Nat)  (a1_0 : Int) (a1_1 : Int) (a1_2 : Int) (A2 : Option Addr) (c2 : Nat) (l2 : List (List (S34))) (r : Bool) (w : World) (hr2 : Kd.C (Kd.slice 34 k34) w A2 l2.length l2) (hc2 : l2.length ≤ c2) (hr1_ : Aside0 (r = true)) (h : ropewaylaw15_SnapRuns_f.f k a1_0 a1_1 a1_2 l2 = some r) :
    Calls Try.prog 4 #[.bool false, .agg #[.int .i64 a1_0, .int .i64 a1_1, .int .i64 a1_2], .slice A2 l2.length c2] w fun e w' => e = .returned (.bool r) ∧ Below w.heap.size w w' := by
  have hu34 := Try.underlying34
  have hu26 := Try.underlying26
  have hu38 := Try.underlying38
  have HR2 := zM hr2
  have HC2 := zM hc2
  clear hr2 hc2
  have HB := zM (Below.refl w.heap.size w)
  have H : ((ropewaylaw15_snapAlive.f k).bind fun t339 => (if t339 = true then (if (l2.length : Int) > 20 then (ropewaylaw15_SnapRuns_f.j0 k l2 true a1_0 a1_1 a1_2) else (if a1_0 < 0 then (ropewaylaw15_SnapRuns_f.j0 k l2 true a1_0 a1_1 a1_2) else (if a1_0 > 5 then (ropewaylaw15_SnapRuns_f.j0 k l2 true a1_0 a1_1 a1_2) else ((ropewayref04_Right.f a1_1 a1_2).bind fun t340 => (if t340 = true then (ropewaylaw15_SnapRuns_f.j0 k l2 (a1_1 == 0 && (a1_2 == 0)) a1_0 a1_1 a1_2) else (ropewaylaw15_SnapRuns_f.j0 k l2 true a1_0 a1_1 a1_2)))))) else (some false))) = some r := h
  clear h
  go_enter Try.func4, Try.ntmps4
  have tk5 : True := trivial
  go_upto_region 1 with (first | ((with_reducible refine gate_dst (N := 4) rfl ?_); clear tk5; (try (refine gate_guard (by rfl) ?_; dsimp only)); refine box_event ?hg (N := 4) ?hd (cs := #[.int .i64 a1_0, .int .i64 a1_1, .int .i64 a1_2]) (t := 34) ?hr ?_; (case hd => rfl); (case hg => rfl); (case hr => first | (go_simp; done) | (go_simp; rfl)); intro gb338 hg w4 hbox hb; have BK338 := zM (hbox); have GW338 := zM (bs_ hg); have GE338 := zM (bs_ hg); replace HB := zM (zB bel_ hb); clear hb hbox hg))
  replace H := Option.bind_eq_some_iff.mp H
  obtain ⟨t339, A60, H⟩ := H
  replace H : (if t339 = true then (if (l2.length : Int) > 20 then (ropewaylaw15_SnapRuns_f.j0 k l2 true a1_0 a1_1 a1_2) else (if a1_0 < 0 then (ropewaylaw15_SnapRuns_f.j0 k l2 true a1_0 a1_1 a1_2) else (if a1_0 > 5 then (ropewaylaw15_SnapRuns_f.j0 k l2 true a1_0 a1_1 a1_2) else ((ropewayref04_Right.f a1_1 a1_2).bind fun t340 => (if t340 = true then (ropewaylaw15_SnapRuns_f.j0 k l2 (a1_1 == 0 && (a1_2 == 0)) a1_0 a1_1 a1_2) else (ropewaylaw15_SnapRuns_f.j0 k l2 true a1_0 a1_1 a1_2)))))) else (some false)) = some r := H
  have A6 := zM A60
  clear A60
  by_cases c7 : t339 = true
  rotate_left
  ·
   replace c7 := Bool.eq_false_iff.mpr c7
   subst c7
   have H1 : (some false) = some r := by rw [if_neg (show ¬ (false = true) by decide)] at H; exact H
   clear H
   have H := H1
   clear H1
   have tk392 : True := trivial
   go_upto_region 2 with (first | ((with_reducible refine gate_callee (f := 10) rfl ?_); clear tk392; refine goL_ (some 26) Try.func10 #[] ?_; (with_reducible refine (ropewaylaw15_snapAlive.calls k  false _ A6.out).mono ?_); rintro e w391 ⟨rfl, hb⟩; refine ⟨_, rfl, ?_⟩; replace BK338 := zM (bb_ BK338 hb); replace HB := zM (zB bel_ hb); (try clear hb); (try clear hi)))
   exact absurd (Option.some.inj H) (by rw [hr1_.out]; decide)
  as_aux_lemma =>
   subst c7
   have H1 : (if (l2.length : Int) > 20 then (ropewaylaw15_SnapRuns_f.j0 k l2 true a1_0 a1_1 a1_2) else (if a1_0 < 0 then (ropewaylaw15_SnapRuns_f.j0 k l2 true a1_0 a1_1 a1_2) else (if a1_0 > 5 then (ropewaylaw15_SnapRuns_f.j0 k l2 true a1_0 a1_1 a1_2) else ((ropewayref04_Right.f a1_1 a1_2).bind fun t340 => (if t340 = true then (ropewaylaw15_SnapRuns_f.j0 k l2 (a1_1 == 0 && (a1_2 == 0)) a1_0 a1_1 a1_2) else (ropewaylaw15_SnapRuns_f.j0 k l2 true a1_0 a1_1 a1_2)))))) = some r := by rw [if_pos rfl] at H; exact H
   clear H
   have H := H1
   clear H1
   have tk9 : True := trivial
   go_upto_region 3 with (first | ((with_reducible refine gate_callee (f := 10) rfl ?_); clear tk9; refine goL_ (some 26) Try.func10 #[] ?_; (with_reducible refine (ropewaylaw15_snapAlive.calls k  true _ A6.out).mono ?_); rintro e w8 ⟨rfl, hb⟩; refine ⟨_, rfl, ?_⟩; replace BK338 := zM (bb_ BK338 hb); replace HB := zM (zB bel_ hb); (try clear hb); (try clear hi)))
   have HC10 := zM H
   clear H
   go_upto_region 3 with (fail)
   (try simp only [Act.put, zS, zZ, zC])
   go_cut [52] (fun v52 wc => ∃ (kq : Nat) (x52_9 : Bool), v52 = .bool x52_9 ∧ Aside0 (ropewaylaw15_SnapRuns_f.j0 kq l2 x52_9 a1_0 a1_1 a1_2 = some r) ∧ Aside0 (kq ≤ k) ∧ Aside0 (wc.heap[gb338]? = some (.cells #[.int .i64 a1_0, .int .i64 a1_1, .int .i64 a1_2] 34 (0, 0))) ∧ Aside0 (Below w.heap.size w wc))
   case first =>
    have H := HC10.out
    clear HC10
    by_cases c11 : (l2.length : Int) > 20
    ·
     rw [if_pos c11] at H
     have c11b0 : decide (20 < (l2.length : Int)) = true := decide_eq_true c11
     have c11b1 : decide (20 < l2.length) = true := decide_eq_true (by omega)
     clear c11
     (first | rw [c11b0] | (simp only [i64_w, i32_w]; rw [c11b0]) | skip)
     have H' := zM H
     clear H
     go_wp2
     go_meet
     case rel => exact ⟨_, (true), (by first | rfl | (simp; done) | (simp [*]; done) | (simp; grind)), H', ⟨by first | omega | exact Nat.le_refl _⟩, ⟨blf_⟩, ⟨bel_⟩⟩
    rw [if_neg c11] at H
    have c11b0 : decide (20 < (l2.length : Int)) = false := decide_eq_false c11
    have c11b1 : decide (20 < l2.length) = false := decide_eq_false (by omega)
    clear c11
    (first | rw [c11b0] | (simp only [i64_w, i32_w]; rw [c11b0]) | skip)
    by_cases c12 : a1_0 < 0
    ·
     rw [if_pos c12] at H
     have c12b0 : decide (a1_0 < 0) = true := decide_eq_true c12
     clear c12
     have H' := zM H
     clear H
     have hcz13 := rf3_ BK338.out
     go_wp2
     go_meet
     case rel => exact ⟨_, (true), (by first | rfl | (simp; done) | (simp [*]; done) | (simp; grind)), H', ⟨by first | omega | exact Nat.le_refl _⟩, ⟨blf_⟩, ⟨bel_⟩⟩
    rw [if_neg c12] at H
    have c12b0 : decide (a1_0 < 0) = false := decide_eq_false c12
    clear c12
    by_cases c14 : a1_0 > 5
    ·
     rw [if_pos c14] at H
     have c14b0 : decide (5 < a1_0) = true := decide_eq_true c14
     clear c14
     have H' := zM H
     clear H
     have hcz15 := rf3_ BK338.out
     go_wp2
     go_meet
     case rel => exact ⟨_, (true), (by first | rfl | (simp; done) | (simp [*]; done) | (simp; grind)), H', ⟨by first | omega | exact Nat.le_refl _⟩, ⟨blf_⟩, ⟨bel_⟩⟩
    rw [if_neg c14] at H
    have c14b0 : decide (5 < a1_0) = false := decide_eq_false c14
    clear c14
    replace H := Option.bind_eq_some_iff.mp H
    obtain ⟨t340, A160, H⟩ := H
    replace H : (if t340 = true then (ropewaylaw15_SnapRuns_f.j0 k l2 (a1_1 == 0 && (a1_2 == 0)) a1_0 a1_1 a1_2) else (ropewaylaw15_SnapRuns_f.j0 k l2 true a1_0 a1_1 a1_2)) = some r := H
    have A16 := zM A160
    clear A160
    by_cases c17 : t340 = true
    rotate_left
    ·
     replace c17 := Bool.eq_false_iff.mpr c17
     subst c17
     have H1 : (ropewaylaw15_SnapRuns_f.j0 k l2 true a1_0 a1_1 a1_2) = some r := by rw [if_neg (show ¬ (false = true) by decide)] at H; exact H
     clear H
     have H := H1
     clear H1
     have H' := zM H
     clear H
     have hcz22 := rf3_ BK338.out
     have tk24 : True := trivial
     go_wp2_with (first | (go_at_call 13; (with_reducible refine (ropewayref04_Right.calls a1_1 a1_2 false _ A16.out).mono ?_); clear tk24; rintro e w23 ⟨rfl, hb⟩; replace BK338 := zM (bb_ BK338 hb); replace HB := zM (zB bel_ hb); (try clear hb); (try clear hi)))
     go_meet
     case rel => exact ⟨_, (true), (by first | rfl | (simp; done) | (simp [*]; done) | (simp; grind)), H', ⟨by first | omega | exact Nat.le_refl _⟩, ⟨blf_⟩, ⟨bel_⟩⟩
    subst c17
    have H1 : (ropewaylaw15_SnapRuns_f.j0 k l2 (a1_1 == 0 && (a1_2 == 0)) a1_0 a1_1 a1_2) = some r := by rw [if_pos rfl] at H; exact H
    clear H
    have H := H1
    clear H1
    have H' := zM H
    clear H
    have hcz18 := rf3_ BK338.out
    have tk20 : True := trivial
    go_wp2_with (first | (go_at_call 13; (with_reducible refine (ropewayref04_Right.calls a1_1 a1_2 true _ A16.out).mono ?_); clear tk20; rintro e w19 ⟨rfl, hb⟩; replace BK338 := zM (bb_ BK338 hb); replace HB := zM (zB bel_ hb); (try clear hb); have hcz21 := rf3_ BK338.out))
    go_meet
    case rel => exact ⟨_, ((a1_1 == 0 && (a1_2 == 0))), (by first | rfl | (simp; done) | (simp [*]; done) | (simp; grind)), H', ⟨by first | omega | exact Nat.le_refl _⟩, ⟨blf_⟩, ⟨bel_⟩⟩
   case rest => as_aux_lemma =>
    clear HC10
    try clear c2
    try clear c7
    try clear c11
    try clear c11b0
    try clear c11b1
    try clear c12
    try clear c12b0
    try clear c14
    try clear c14b0
    try clear c17
    try clear hcz13
    try clear hcz15
    try clear hcz18
    try clear hcz21
    try clear hcz22
    obtain ⟨kq, x52_9, rfl, HA, HJ9, BK338, HB⟩ := hcut
    cases kq with
    | zero => exact absurd HA.out (by simp [ropewaylaw15_SnapRuns_f.j0])
    | succ kj9 =>
     have H := HA.out
     clear HA
     simp only [ropewaylaw15_SnapRuns_f.j0] at H
     by_cases c25 : x52_9 = true
     ·
      subst c25
      have H1 : (some true) = some r := by rw [if_pos rfl] at H; exact H
      clear H
      have H := H1
      clear H1
      obtain rfl := Option.some.inj H
      go_wp2
      go_ret
      exact ⟨by first | rfl | (simp [errW_none, errW_some] <;> rfl) | (simp [*, errW_none, errW_some] <;> rfl), bel_⟩
     replace c25 := Bool.eq_false_iff.mpr c25
     subst c25
     have H1 : (ropewaylaw15_SnapRuns_f.l0 kj9 l2 (l2.length : Int) 0 0 ([] : List (S34)) false a1_0 a1_1 a1_2 ([] : List (List (S34)))) = some r := by rw [if_neg (show ¬ (false = true) by decide)] at H; exact H
     clear H
     have H := H1
     clear H1
     have tk26 : True := trivial
     have tk28 : True := trivial
     have tk29 : True := trivial
     go_upto_region 6 with (first | ((with_reducible refine gate_callee (f := 7) rfl ?_); clear tk26; refine goL_ (some 53) Try.func7 #[] ?_; go_enter Try.func7, Try.ntmps7) | ((with_reducible refine gate_dst (N := 2) rfl ?_); clear tk28; (try (refine gate_guard (by rfl) ?_; dsimp only)); refine box_event ?hg (N := 2) ?hd (cs := #[.slice none 0 0, .int .i64 0, .slice none 0 0]) (t := 61) ?hr ?_; (case hd => rfl); (case hg => rfl); (case hr => first | (go_simp; done) | (go_simp; rfl)); intro gb341 hg w27 hbox hb; have BK341 := zM (hbox); have GW341 := zM (bs_ hg); have GE341 := zM (bs_ hg); replace HB := zM (zB bel_ hb); have NB338_341 := zM (nl_ BK338 hg); have NB341_338 := zM (ng_ BK338 hg); replace BK338 := zM (bb_ BK338 hb); clear hb hbox hg) | (clear tk29; (first | go_ret | go_ret2 | go_ret3 | go_end0); with_reducible refine inl_back_ ?_))
     have hnb30 := NB338_341.out
     have hnc30 := NB341_338.out
     have hcz31 := rf3_ BK338.out
     have tk33 : True := trivial
     have tk38 : True := trivial
     go_upto_region 9 with (first | ((with_reducible refine gate_dst (N := 8) rfl ?_); clear tk33; (try (refine gate_guard (by rfl) ?_; dsimp only)); refine box_event ?hg (N := 8) ?hd (cs := #[.bool false, .int .i64 0, .int .i64 0, .int .i64 0, .slice none 0 0]) (t := 38) ?hr ?_; (case hd => rfl); (case hg => rfl); (case hr => first | (go_simp; done) | (go_simp; rfl)); intro gb342 hg w32 hbox hb; have BK342 := zM (hbox); have GW342 := zM (bs_ hg); have GE342 := zM (bs_ hg); replace HB := zM (zB bel_ hb); have NB338_342 := zM (nl_ BK338 hg); have NB342_338 := zM (ng_ BK338 hg); replace BK338 := zM (bb_ BK338 hb); have NB341_342 := zM (nl_ BK341 hg); have NB342_341 := zM (ng_ BK341 hg); replace BK341 := zM (bb_ BK341 hb); clear hb hbox hg; have hnb34 := NB342_338.out; have hnc34 := NB338_342.out; have hnb35 := NB342_341.out; have hnc35 := NB341_342.out; have hcz36 := rf5_ BK342.out) | ((with_reducible refine gate_store (t := 38) (p := 8) rfl ?_); clear tk38; refine store_event (t := 38) (p := 8) (v := ?vo_w37) (w1 := (((((w32.setCell ⟨gb342, 0, none⟩ (.bool false)).setCell ⟨gb342, 1, none⟩ (.int .i64 a1_0)).setCell ⟨gb342, 2, none⟩ (.int .i64 a1_1)).setCell ⟨gb342, 3, none⟩ (.int .i64 a1_2)).setCell ⟨gb342, 4, none⟩ (.slice none 0 0))) ?hg ?ho ?hn ?hr ?_; (case ho => rfl); (case hg => rfl); (case hn => rfl); (case hr => first | (go_simp; done) | (go_simp; rfl)); intro w37 hw; replace BK338 := bB5_ hw BK338 NB338_342; replace BK341 := bB5_ hw BK341 NB341_342; replace BK342 : Aside0 (w37.heap[gb342]? = some (.cells #[.bool false, .int .i64 a1_0, .int .i64 a1_1, .int .i64 a1_2, .slice none 0 0] 38 (0, 0))) := bP5_ hw BK342 rfl; replace HB : Aside0 (Below w.heap.size w w37) := ⟨(by rw [hw]; exact bel_)⟩; clear hw))
     try clear hcz36
     try clear hnb34
     try clear hnb35
     try clear hnc34
     try clear hnc35
     have H' := zM H
     clear H
     go_wp2
     go_loopg [65] kj9 (fun kq v65 w' => ∃ (x65_2 : Int) (X0 : Int) (X1 : Int) (X2 : List (S34)) (X3 : Bool) (X4 : Int) (X5 : Int) (X6 : Int) (X7 : List (List (S34))) (u342002 : Value) (u343004 : Value), v65 = .int .i64 x65_2 ∧ Aside0 (ropewaylaw15_SnapRuns_f.l0 kq l2 (l2.length : Int) x65_2 X1 X2 X3 X4 X5 X6 X7 = some r) ∧ Aside0 (kq ≤ kj9) ∧ Aside0 (Kd.R k34 34 w' w.heap.size (fun k_ => k_ ≠ gb338) u342002 X2) ∧ Aside0 (Kd.V (Kd.slice 34 k34) 27 w' w.heap.size (fun k_ => some k_ ≠ (u342002 : Value).ownBlock ∧ k_ ≠ gb338 ∧ k_ ≠ gb341 ∧ k_ ≠ gb342) u343004 X7) ∧ Aside0 (w'.heap[gb338]? = some (.cells #[.int .i64 X0, .int .i64 a1_1, .int .i64 a1_2] 34 (0, 0))) ∧ Aside0 (w'.heap[gb341]? = some (.cells #[(.slice none 0 0), .int .i64 X1, u342002] 61 (0, 0))) ∧ Aside0 (w'.heap[gb342]? = some (.cells #[.bool X3, .int .i64 X4, .int .i64 X5, .int .i64 X6, u343004] 38 (0, 0))) ∧ Aside0 (Below w.heap.size w w'))
     case atStart => exact ⟨(0), (a1_0), (0), (([] : List (S34))), (false), (a1_0), (a1_1), (a1_2), (([] : List (List (S34)))), (.slice none 0 0), (.slice none 0 0), (by first | rfl | (simp; done) | (simp [*]; done) | (simp; grind)), H', ⟨Nat.le_refl _⟩, ⟨by first | exact Kd.R_nil _ _ _ _ _ | exact Kd.N_nil _ _ _ _ _ | exact Kd.V_nil _ _ _ _ _ | exact Kd.Q_nil _ _ _ _ _ | exact Kd.S_nil _ _ _ _ _⟩, ⟨Kd.V_nil _ _ _ _ _⟩, ⟨blf_⟩, ⟨blf_⟩, ⟨blf_⟩, ⟨bel_⟩⟩
     case round => as_aux_lemma =>
      clear H'
      try clear c2
      try clear c7
      try clear c11
      try clear c11b0
      try clear c11b1
      try clear c12
      try clear c12b0
      try clear c14
      try clear c14b0
      try clear c17
      try clear c25
      try clear hcz13
      try clear hcz15
      try clear hcz18
      try clear hcz21
      try clear hcz22
      try clear hcz31
      try clear hcz36
      obtain ⟨x65_2, X0, X1, X2, X3, X4, X5, X6, X7, u342002, u343004, rfl, HA, HK2, HOa, HOb, BK338, BK341, BK342, HB⟩ := hrel
      cases gk with
      | zero => exact absurd HA.out (by simp [ropewaylaw15_SnapRuns_f.l0])
      | succ k2 =>
       have H := HA.out
       clear HA
       simp only [ropewaylaw15_SnapRuns_f.l0] at H
       by_cases c39 : x65_2 < (l2.length : Int)
       rotate_left
       ·
        as_aux_lemma =>
         rw [if_neg c39] at H
         have c39b0 : decide (x65_2 < (l2.length : Int)) = false := decide_eq_false c39
         clear c39
         have HC268 := zM H
         clear H
         go_upto_region 27 with (fail)
         (try simp only [Act.put, zS, zZ, zC])
         go_cut [19, 20, 21] (fun v19 v20 v21 wc => ∃ (kq : Nat) (x19_267 : Int) (x20_267 : List (S34)) (x21_267 : Bool) (X8 : Int), v19 = .int .i64 x19_267 ∧ v21 = .bool x21_267 ∧ Aside0 (ropewaylaw15_SnapRuns_f.j6 kq x19_267 x20_267 x21_267 X8 X2 X3 X4 X5 X6 X7 = some r) ∧ Aside0 (kq ≤ k2) ∧ Aside0 (Kd.R k34 34 wc w.heap.size (fun k_ => some k_ ≠ (u342002 : Value).ownBlock ∧ k_ ≠ gb338) v20 x20_267) ∧ Aside0 (Kd.R k34 34 wc w.heap.size (fun k_ => some k_ ≠ (v20 : Value).ownBlock ∧ k_ ≠ gb338) u342002 X2) ∧ Aside0 (Kd.V (Kd.slice 34 k34) 27 wc w.heap.size (fun k_ => some k_ ≠ (v20 : Value).ownBlock ∧ some k_ ≠ (u342002 : Value).ownBlock ∧ k_ ≠ gb338 ∧ k_ ≠ gb341 ∧ k_ ≠ gb342) u343004 X7) ∧ Aside0 (wc.heap[gb338]? = some (.cells #[.int .i64 X0, .int .i64 a1_1, .int .i64 a1_2] 34 (0, 0))) ∧ Aside0 (wc.heap[gb341]? = some (.cells #[(.slice none 0 0), .int .i64 X8, u342002] 61 (0, 0))) ∧ Aside0 (wc.heap[gb342]? = some (.cells #[.bool X3, .int .i64 X4, .int .i64 X5, .int .i64 X6, u343004] 38 (0, 0))) ∧ Aside0 (Below w.heap.size w wc))
         case first => as_aux_lemma =>
          have H := HC268.out
          clear HC268
          by_cases c269 : X1 = 4
          · rw [if_pos c269] at H
            have c269b0 : (X1 == 4) = true := beq_iff_eq.mpr c269
            have c269b1 : (X1 != 4) = false := bne_eq_false_iff_eq.mpr c269
            clear c269
            (first | rw [c269b0] | (simp only [i64_w, i32_w]; rw [c269b0]) | skip)
            have H' := zM H
            clear H
            have tk270 : True := trivial
            have tk274 : True := trivial
            go_wp2_with (first | ((with_reducible refine gate_callee (f := 9) rfl ?_); clear tk270; refine goL_ (some 127) Try.func9 #[.pointer (some ⟨gb341, 0, none⟩)] ?_; go_enter Try.func9, Try.ntmps9; have hnb271 := NB341_338.out; have hnc271 := NB338_341.out; have hnb272 := NB341_342.out; have hnc272 := NB342_341.out; have hcz273 := rf3_ BK341.out) | (clear tk274; (first | go_ret | go_ret2 | go_ret3 | go_end0); with_reducible refine inl_back_ ?_))
            go_meet
            case rel => exact ⟨_, (0), (([] : List (S34))), (false), (X1), (by first | rfl | (simp; done) | (simp [*]; done) | (simp; grind)), (by first | rfl | (simp; done) | (simp [*]; done) | (simp; grind)), H', ⟨by have := HJ9.out; have := HK2.out; first | omega | exact Nat.le_refl _⟩, ⟨by first | exact Kd.R_nil _ _ _ _ _ | exact Kd.N_nil _ _ _ _ _ | exact Kd.V_nil _ _ _ _ _ | exact Kd.Q_nil _ _ _ _ _ | exact Kd.S_nil _ _ _ _ _⟩, rm_ HOa (fun _ h => ⟨(by simp [Value.ownBlock]), h⟩), vm_ HOb (fun _ h => ⟨(by simp [Value.ownBlock]), h⟩), ⟨blf_⟩, ⟨blf_⟩, ⟨blf_⟩, ⟨bel_⟩⟩
          rw [if_neg c269] at H
          have c269b0 : (X1 == 4) = false := beq_eq_false_iff_ne.mpr c269
          have c269b1 : (X1 != 4) = true := bne_iff_ne.mpr c269
          (first | rw [c269b0] | (simp only [i64_w, i32_w]; rw [c269b0]) | skip)
          by_cases c275 : X1 = 0
          · rw [if_pos c275] at H
            have c275b0 : (X1 == 0) = true := beq_iff_eq.mpr c275
            have c275b1 : (X1 != 0) = false := bne_eq_false_iff_eq.mpr c275
            clear c275
            have H' := zM H
            clear H
            have tk276 : True := trivial
            have tk280 : True := trivial
            go_wp2_with (first | ((with_reducible refine gate_callee (f := 9) rfl ?_); clear tk276; refine goL_ (some 127) Try.func9 #[.pointer (some ⟨gb341, 0, none⟩)] ?_; go_enter Try.func9, Try.ntmps9; have hnb277 := NB341_338.out; have hnc277 := NB338_341.out; have hnb278 := NB341_342.out; have hnc278 := NB342_341.out; have hcz279 := rf3_ BK341.out) | (clear tk280; (first | go_ret | go_ret2 | go_ret3 | go_end0); with_reducible refine inl_back_ ?_))
            go_meet
            case rel => exact ⟨_, (0), (([] : List (S34))), (true), (X1), (by first | rfl | (simp; done) | (simp [*]; done) | (simp; grind)), (by first | rfl | (simp; done) | (simp [*]; done) | (simp; grind)), H', ⟨by have := HJ9.out; have := HK2.out; first | omega | exact Nat.le_refl _⟩, ⟨by first | exact Kd.R_nil _ _ _ _ _ | exact Kd.N_nil _ _ _ _ _ | exact Kd.V_nil _ _ _ _ _ | exact Kd.Q_nil _ _ _ _ _ | exact Kd.S_nil _ _ _ _ _⟩, rm_ HOa (fun _ h => ⟨(by simp [Value.ownBlock]), h⟩), vm_ HOb (fun _ h => ⟨(by simp [Value.ownBlock]), h⟩), ⟨blf_⟩, ⟨blf_⟩, ⟨blf_⟩, ⟨bel_⟩⟩
          rw [if_neg c275] at H
          have c275b0 : (X1 == 0) = false := beq_eq_false_iff_ne.mpr c275
          have c275b1 : (X1 != 0) = true := bne_iff_ne.mpr c275
          by_cases c281 : X1 = 2
          · rw [if_pos c281] at H
            have c281b0 : (X1 == 2) = true := beq_iff_eq.mpr c281
            have c281b1 : (X1 != 2) = false := bne_eq_false_iff_eq.mpr c281
            clear c281
            have H' := zM H
            clear H
            have tk282 : True := trivial
            have tk286 : True := trivial
            go_wp2_with (first | ((with_reducible refine gate_callee (f := 9) rfl ?_); clear tk282; refine goL_ (some 127) Try.func9 #[.pointer (some ⟨gb341, 0, none⟩)] ?_; go_enter Try.func9, Try.ntmps9; have hnb283 := NB341_338.out; have hnc283 := NB338_341.out; have hnb284 := NB341_342.out; have hnc284 := NB342_341.out; have hcz285 := rf3_ BK341.out) | (clear tk286; (first | go_ret | go_ret2 | go_ret3 | go_end0); with_reducible refine inl_back_ ?_))
            go_meet
            case rel => exact ⟨_, (0), (([] : List (S34))), (true), (X1), (by first | rfl | (simp; done) | (simp [*]; done) | (simp; grind)), (by first | rfl | (simp; done) | (simp [*]; done) | (simp; grind)), H', ⟨by have := HJ9.out; have := HK2.out; first | omega | exact Nat.le_refl _⟩, ⟨by first | exact Kd.R_nil _ _ _ _ _ | exact Kd.N_nil _ _ _ _ _ | exact Kd.V_nil _ _ _ _ _ | exact Kd.Q_nil _ _ _ _ _ | exact Kd.S_nil _ _ _ _ _⟩, rm_ HOa (fun _ h => ⟨(by simp [Value.ownBlock]), h⟩), vm_ HOb (fun _ h => ⟨(by simp [Value.ownBlock]), h⟩), ⟨blf_⟩, ⟨blf_⟩, ⟨blf_⟩, ⟨bel_⟩⟩
          rw [if_neg c281] at H
          have c281b0 : (X1 == 2) = false := beq_eq_false_iff_ne.mpr c281
          have c281b1 : (X1 != 2) = true := bne_iff_ne.mpr c281
          replace H := Option.bind_eq_some_iff.mp H
          obtain ⟨t383, A2870, H⟩ := H
          replace H : (if t383 = true then ((api_Cell.f ([] : List (S34))).bind fun t384 => (ropewaylaw15_SnapRuns_f.j6 k2 1 t384 true X1 X2 X3 X4 X5 X6 X7)) else ((api_Cell.f X2).bind fun t387 => (ropewaylaw15_SnapRuns_f.j6 k2 1 t387 true X1 X2 X3 X4 X5 X6 X7))) = some r := H
          have A287 := zM A2870
          clear A2870
          by_cases c288 : t383 = true
          ·
           subst c288
           have H1 : ((api_Cell.f ([] : List (S34))).bind fun t384 => (ropewaylaw15_SnapRuns_f.j6 k2 1 t384 true X1 X2 X3 X4 X5 X6 X7)) = some r := by rw [if_pos rfl] at H; exact H
           clear H
           have H := H1
           clear H1
           replace H := Option.bind_eq_some_iff.mp H
           obtain ⟨t384, A2890, H⟩ := H
           replace H : (ropewaylaw15_SnapRuns_f.j6 k2 1 t384 true X1 X2 X3 X4 X5 X6 X7) = some r := H
           have A289 := zM A2890
           clear A2890
           have H' := zM H
           clear H
           have tk290 : True := trivial
           have tk295 : True := trivial
           have tk297 : True := trivial
           have tk298 : True := trivial
           go_wp2_with (first | ((with_reducible refine gate_callee (f := 9) rfl ?_); clear tk290; refine goL_ (some 127) Try.func9 #[.pointer (some ⟨gb341, 0, none⟩)] ?_; go_enter Try.func9, Try.ntmps9; have hnb291 := NB341_338.out; have hnc291 := NB338_341.out; have hnb292 := NB341_342.out; have hnc292 := NB342_341.out; have hcz293 := rf3_ BK341.out; obtain ⟨Ao294, co294, eo294⟩ := Kd.R_slice HOa.out; subst eo294) | ((with_reducible refine gate_callee (f := 11) rfl ?_); clear tk295; refine goL_ (some 24) Try.func11 #[.pointer (some ⟨gb341, 0, none⟩)] ?_; (with_reducible refine calls_of_args (args' := #[.pointer (some ⟨gb341, 0, none⟩)]) rfl ?_); (refine (snap_Snap_Own.calls gb341 none 0 ([] : List (S34)) X1 Ao294 co294 X2 true _ ?side1 ?side2 ?side3 ?side4 ?side5 A287.out).mono ?_); (case side1 => exact Kd.C_nil _ _); (case side2 => exact Nat.le_refl _); (case side3 => exact (Kd.R_reads' HOa.out).2.2); (case side4 => exact (Kd.R_reads' HOa.out).2.1); (case side5 => exact blf_); rintro e w' ⟨rfl, ⟨nd, rfl⟩⟩; refine ⟨_, rfl, ?_⟩) | ((with_reducible refine gate_callee (f := 25) rfl ?_); clear tk297; refine goL_ (some 29) Try.func25 #[.slice none 0 0] ?_; (with_reducible refine calls_of_args (args' := #[.slice none 0 0]) rfl ?_); (refine (api_Cell.calls _ _ ([] : List (S34)) t384 _ ?side1 ?side2 A289.out).mono ?_); (case side1 => exact Kd.C_nil _ _); (case side2 => exact Nat.le_refl _); rintro e w296 ⟨v385, rfl, ho0, hb⟩; refine ⟨_, rfl, ?_⟩; replace HOb := zM (Kd.V_elder' (rv_ HOb) (Kd.R_base ho0) hb); have HO386 := zM (Kd.R_lower (Kd.R_newB (Kd.R_new' ho0 (Kd.R_lt (rl_ HOa))) (g := gb338) (o := .cells #[.int .i64 X0, .int .i64 a1_1, .int .i64 a1_2] 34 (0, 0)) blk_) (below_size bel_)); replace HOa := zM (Kd.R_elder' (rl_ HOa) (Kd.R_base ho0) hb); replace BK338 := zM (bb_ BK338 hb); replace BK341 := zM (bb_ BK341 hb); replace BK342 := zM (bb_ BK342 hb); replace HB := zM (zB bel_ hb); (try clear hb); (try clear ho0)) | (clear tk298; (first | go_ret | go_ret2 | go_ret3 | go_end0); with_reducible refine inl_back_ ?_))
           go_meet
           case rel => exact ⟨_, (1), (t384), (true), (X1), (by first | rfl | (simp; done) | (simp [*]; done) | (simp; grind)), (by first | rfl | (simp; done) | (simp [*]; done) | (simp; grind)), H', ⟨by have := HJ9.out; have := HK2.out; first | omega | exact Nat.le_refl _⟩, rm_ HO386 (fun _ h => ⟨h.1.2, h.2⟩), rm_ HOa (fun _ h => ⟨h.2, h.1⟩), vm_ HOb (fun _ h => ⟨h.2, h.1⟩), ⟨blf_⟩, ⟨blf_⟩, ⟨blf_⟩, ⟨bel_⟩⟩
          replace c288 := Bool.eq_false_iff.mpr c288
          subst c288
          have H1 : ((api_Cell.f X2).bind fun t387 => (ropewaylaw15_SnapRuns_f.j6 k2 1 t387 true X1 X2 X3 X4 X5 X6 X7)) = some r := by rw [if_neg (show ¬ (false = true) by decide)] at H; exact H
          clear H
          have H := H1
          clear H1
          replace H := Option.bind_eq_some_iff.mp H
          obtain ⟨t387, A2990, H⟩ := H
          replace H : (ropewaylaw15_SnapRuns_f.j6 k2 1 t387 true X1 X2 X3 X4 X5 X6 X7) = some r := H
          have A299 := zM A2990
          clear A2990
          have H' := zM H
          clear H
          have tk300 : True := trivial
          have tk305 : True := trivial
          have tk307 : True := trivial
          have tk308 : True := trivial
          go_wp2_with (first | ((with_reducible refine gate_callee (f := 9) rfl ?_); clear tk300; refine goL_ (some 127) Try.func9 #[.pointer (some ⟨gb341, 0, none⟩)] ?_; go_enter Try.func9, Try.ntmps9; have hnb301 := NB341_338.out; have hnc301 := NB338_341.out; have hnb302 := NB341_342.out; have hnc302 := NB342_341.out; have hcz303 := rf3_ BK341.out; obtain ⟨Ao304, co304, eo304⟩ := Kd.R_slice HOa.out; subst eo304) | ((with_reducible refine gate_callee (f := 11) rfl ?_); clear tk305; refine goL_ (some 24) Try.func11 #[.pointer (some ⟨gb341, 0, none⟩)] ?_; (with_reducible refine calls_of_args (args' := #[.pointer (some ⟨gb341, 0, none⟩)]) rfl ?_); (refine (snap_Snap_Own.calls gb341 none 0 ([] : List (S34)) X1 Ao304 co304 X2 false _ ?side1 ?side2 ?side3 ?side4 ?side5 A287.out).mono ?_); (case side1 => exact Kd.C_nil _ _); (case side2 => exact Nat.le_refl _); (case side3 => exact (Kd.R_reads' HOa.out).2.2); (case side4 => exact (Kd.R_reads' HOa.out).2.1); (case side5 => exact blf_); rintro e w' ⟨rfl, ⟨nd, rfl⟩⟩; refine ⟨_, rfl, ?_⟩) | ((with_reducible refine gate_callee (f := 25) rfl ?_); clear tk307; refine goL_ (some 34) Try.func25 #[.slice Ao304 X2.length co304] ?_; (with_reducible refine (api_Cell.calls _ _ X2 t387 _ ?side1 ?side2 A299.out).mono ?_); (case side1 => exact (Kd.R_reads' HOa.out).2.2); (case side2 => exact (Kd.R_reads' HOa.out).2.1); rintro e w306 ⟨v388, rfl, ho0, hb⟩; refine ⟨_, rfl, ?_⟩; replace HOb := zM (Kd.V_elder' (rv_ HOb) (Kd.R_base ho0) hb); have HO389 := zM (Kd.R_lower (Kd.R_newB (Kd.R_new' ho0 (Kd.R_lt (rl_ HOa))) (g := gb338) (o := .cells #[.int .i64 X0, .int .i64 a1_1, .int .i64 a1_2] 34 (0, 0)) blk_) (below_size bel_)); replace HOa := zM (Kd.R_elder' (rl_ HOa) (Kd.R_base ho0) hb); replace BK338 := zM (bb_ BK338 hb); replace BK341 := zM (bb_ BK341 hb); replace BK342 := zM (bb_ BK342 hb); replace HB := zM (zB bel_ hb); (try clear hb); (try clear ho0)) | (clear tk308; (first | go_ret | go_ret2 | go_ret3 | go_end0); with_reducible refine inl_back_ ?_))
          go_meet
          case rel => exact ⟨_, (1), (t387), (true), (X1), (by first | rfl | (simp; done) | (simp [*]; done) | (simp; grind)), (by first | rfl | (simp; done) | (simp [*]; done) | (simp; grind)), H', ⟨by have := HJ9.out; have := HK2.out; first | omega | exact Nat.le_refl _⟩, rm_ HO389 (fun _ h => ⟨h.1.2, h.2⟩), rm_ HOa (fun _ h => ⟨h.2, h.1⟩), vm_ HOb (fun _ h => ⟨h.2, h.1⟩), ⟨blf_⟩, ⟨blf_⟩, ⟨blf_⟩, ⟨bel_⟩⟩
         case rest => as_aux_lemma =>
          clear HC268
          try clear c2
          try clear c11
          try clear c14
          try clear c25
          try clear c39
          try clear c39b0
          try clear c40
          try clear c41
          try clear c43
          try clear c43b0
          try clear c43b1
          try clear c46
          try clear c247
          try clear c247b0
          try clear c247b1
          try clear c249
          try clear c250
          try clear c250b0
          try clear c250b1
          try clear c250b2
          try clear c265
          try clear c269
          try clear c269b0
          try clear c269b1
          try clear c275
          try clear c275b0
          try clear c275b1
          try clear c281
          try clear c281b0
          try clear c281b1
          try clear c288
          try clear hcz273
          try clear hcz279
          try clear hcz285
          try clear hcz293
          try clear hcz303
          try clear hx343_0
          try clear p343
          try clear q343
          obtain ⟨kq, x19_267, x20_267, x21_267, X8, rfl, rfl, HA, HJ267, HO_20, HOa, HOb, BK338, BK341, BK342, HB⟩ := hcut
          cases kq with
          | zero => exact absurd HA.out (by simp [ropewaylaw15_SnapRuns_f.j6])
          | succ kj267 =>
           have H := HA.out
           clear HA
           simp only [ropewaylaw15_SnapRuns_f.j6] at H
           have H' := zM H
           clear H
           obtain ⟨Ao309, co309, eo309⟩ := Kd.R_slice HO_20.out
           subst eo309
           go_wp2
           go_loopg [133] kj267 (fun kq v133 w' => ∃ (x20_4 : List (S34)) (x133_4 : Int) (X9 : Int), v133 = .int .i64 x133_4 ∧ Aside0 (ropewaylaw15_SnapRuns_f.l2 kq x19_267 x20_4 x21_267 (x20_267.length : Int) x133_4 X8 X2 X3 X4 X5 X6 X7 = some r) ∧ Aside0 (kq ≤ kj267) ∧ Aside0 (Kd.R k34 34 w' w.heap.size (fun k_ => some k_ ≠ (u342002 : Value).ownBlock ∧ k_ ≠ gb338) (.slice Ao309 x20_267.length co309) x20_4) ∧ Aside0 (Kd.R k34 34 w' w.heap.size (fun k_ => some k_ ≠ ((.slice Ao309 x20_267.length co309) : Value).ownBlock ∧ k_ ≠ gb338) u342002 X2) ∧ Aside0 (Kd.V (Kd.slice 34 k34) 27 w' w.heap.size (fun k_ => some k_ ≠ ((.slice Ao309 x20_267.length co309) : Value).ownBlock ∧ some k_ ≠ (u342002 : Value).ownBlock ∧ k_ ≠ gb338 ∧ k_ ≠ gb341 ∧ k_ ≠ gb342) u343004 X7) ∧ Aside0 (w'.heap[gb338]? = some (.cells #[.int .i64 X9, .int .i64 a1_1, .int .i64 a1_2] 34 (0, 0))) ∧ Aside0 (w'.heap[gb341]? = some (.cells #[(.slice none 0 0), .int .i64 X8, u342002] 61 (0, 0))) ∧ Aside0 (w'.heap[gb342]? = some (.cells #[.bool X3, .int .i64 X4, .int .i64 X5, .int .i64 X6, u343004] 38 (0, 0))) ∧ Aside0 (Below w.heap.size w w'))
           case atStart => exact ⟨(x20_267), (0), (X0), (by first | rfl | (simp; done) | (simp [*]; done) | (simp; grind)), H', ⟨Nat.le_refl _⟩, HO_20, HOa, HOb, ⟨blf_⟩, ⟨blf_⟩, ⟨blf_⟩, ⟨bel_⟩⟩
           case round => as_aux_lemma =>
            clear H'
            try clear c2
            try clear c11
            try clear c14
            try clear c25
            try clear c39
            try clear c39b0
            try clear c40
            try clear c41
            try clear c43
            try clear c43b0
            try clear c43b1
            try clear c46
            try clear c247
            try clear c247b0
            try clear c247b1
            try clear c249
            try clear c250
            try clear c250b0
            try clear c250b1
            try clear c250b2
            try clear c265
            try clear c269
            try clear c269b0
            try clear c269b1
            try clear c275
            try clear c275b0
            try clear c275b1
            try clear c281
            try clear c281b0
            try clear c281b1
            try clear c288
            try clear hcz273
            try clear hcz279
            try clear hcz285
            try clear hcz293
            try clear hcz303
            try clear hx343_0
            try clear p343
            try clear q343
            obtain ⟨x20_4, x133_4, X9, rfl, HA, HK4, HO_20, HOa, HOb, BK338, BK341, BK342, HB⟩ := hrel
            have hl20_4 := (Kd.R_reads' HO_20.out).1
            rw [hl20_4] at HO_20
            (try simp only [hl20_4])
            (try simp only [hl20_4] at BK338)
            (try simp only [hl20_4] at BK341)
            (try simp only [hl20_4] at BK342)
            (try simp only [hl20_4] at HOa)
            (try simp only [hl20_4] at HOb)
            cases gk with
            | zero => exact absurd HA.out (by simp [ropewaylaw15_SnapRuns_f.l2])
            | succ k4 =>
             have H := HA.out
             clear HA
             simp only [ropewaylaw15_SnapRuns_f.l2] at H
             by_cases c310 : x133_4 < (x20_267.length : Int)
             ·
              rw [if_pos c310] at H
              have c310b0 : decide (x133_4 < (x20_267.length : Int)) = true := decide_eq_true c310
              clear c310
              by_cases c311 : 0 ≤ x133_4
              rotate_left
              · rw [if_neg c311] at H
                exact absurd H (by simp)
              as_aux_lemma =>
               rw [if_pos c311] at H
               have c311b0 : decide (0 ≤ x133_4) = true := decide_eq_true c311
               clear c311
               by_cases c312 : x133_4 < (x20_4.length : Int)
               rotate_left
               · rw [if_neg c312] at H
                 exact absurd H (by simp)
               as_aux_lemma =>
                rw [if_pos c312] at H
                have c312b0 : decide (x133_4 < (x20_4.length : Int)) = true := decide_eq_true c312
                clear c312
                obtain ⟨y390, hy390⟩ : ∃ y_ : List (S34), y_ = (x20_4.set (x133_4 : Int).toNat (⟨77, (⟨(rd_T34 x20_4 x133_4).f1.f0, (rd_T34 x20_4 x133_4).f1.f1⟩ : S26)⟩ : S34)) := ⟨_, rfl⟩
                replace H : (ropewaylaw15_SnapRuns_f.l2 k4 x19_267 y390 x21_267 (x20_267.length : Int) (wrap64 (x133_4 + 1)) X8 X2 X3 X4 X5 X6 X7) = some r := by first | (rw [hy390]; with_reducible exact H) | (have H2_ := (Option.bind_some _ _).symm.trans H; rw [hy390]; with_reducible exact H2_) | (have H2_ := (Option.bind_some _ _).symm.trans H; with_reducible exact H2_) | with_reducible exact H | (rw [hy390]; exact H) | exact H
                have Ny390 := zM hy390
                clear hy390
                have p313 : 0 ≤ (x133_4 : Int) := of_decide_eq_true (by first | (with_reducible assumption) | assumption)
                have q313 : (x133_4 : Int) < ((x20_4.length : Int) : Int) := of_decide_eq_true (by first | (with_reducible assumption) | assumption)
                obtain ⟨go313, co313, eo313, gb313, gl313, cl313, HG313⟩ := Kd.R_form HO_20.out (by omega)
                (first | cases eo313 | (injection eo313 with ea_ en_ ec_; (first | subst ea_ | (injection ea_ with ea_; subst ea_)); subst ec_; clear en_))
                have GB313 := zM gb313
                have GG313 := zM HG313
                clear gb313 gl313 HG313
                obtain ⟨ce313, hcl313, hM313, hcc313, hfr313⟩ := Kd.R_elem HO_20.out z34 (x133_4 : Int) p313 q313
                obtain rfl := k34_openM hM313
                have hx313_0 : wr.cell? ⟨go313, (x133_4 : Int).toNat * 3, none⟩ = some (.int .i64 ((rd_T34 x20_4 x133_4).f0)) := hcc313 0 _ rfl
                have hx313_1 : wr.cell? ⟨go313, (x133_4 : Int).toNat * 3 + 1, none⟩ = some (.int .i64 ((rd_T34 x20_4 x133_4).f1.f0)) := hcc313 1 _ rfl
                have hx313_2 : wr.cell? ⟨go313, (x133_4 : Int).toNat * 3 + 2, none⟩ = some (.int .i64 ((rd_T34 x20_4 x133_4).f1.f1)) := hcc313 2 _ rfl
                have hf313_0 : wr.frozen? ⟨go313, (x133_4 : Int).toNat * 3, none⟩ = false := hfr313 0
                have hf313_1 : wr.frozen? ⟨go313, (x133_4 : Int).toNat * 3 + 1, none⟩ = false := hfr313 1
                have hf313_2 : wr.frozen? ⟨go313, (x133_4 : Int).toNat * 3 + 2, none⟩ = false := hfr313 2
                clear hcl313 hcc313 hfr313 hM313
                replace p313 := eq_true p313
                replace q313 := eq_true q313
                have HX314 := zM (show Kd.R k34 34 wr w.heap.size (fun k_ => some k_ ≠ (u342002 : Value).ownBlock ∧ k_ ≠ gb338) (.slice (some ⟨go313, 0, none⟩) x20_4.length co309) x20_4 from (rl_ HO_20))
                obtain ⟨ce314, hcl314, hM314, hcc314, hfr314⟩ := Kd.R_elem HX314.out z34 (x133_4 : Int) (of_decide_eq_true (by first | (with_reducible assumption) | assumption)) (by have h_ : (x133_4 : Int) < ((x20_4.length : Int) : Int) := of_decide_eq_true (by first | (with_reducible assumption) | assumption); first | exact h_ | (have e_ := (Kd.R_reads' HO_20.out).1; omega) | simpa using h_)
                obtain rfl := k34_openM hM314
                have HP314 := Kd.R_seg HX314.out (x133_4 : Int) (of_decide_eq_true (by first | (with_reducible assumption) | assumption)) (by have h_ : (x133_4 : Int) < ((x20_4.length : Int) : Int) := of_decide_eq_true (by first | (with_reducible assumption) | assumption); first | exact h_ | (have e_ := (Kd.R_reads' HO_20.out).1; omega) | simpa using h_) (seg := [.int .i64 77]) (j := 0) hcl314 hcc314 (show 1 ≤ 3 from by decide) (x' := (⟨77, (⟨(rd_T34 x20_4 x133_4).f1.f0, (rd_T34 x20_4 x133_4).f1.f1⟩ : S26)⟩ : S34)) (k34_mkM _ _ _ (⟨77, (⟨(rd_T34 x20_4 x133_4).f1.f0, (rd_T34 x20_4 x133_4).f1.f1⟩ : S26)⟩ : S34) ) (fun _ hk => hk)
                have hx314_0 := hcc314 0 _ rfl
                (try simp only [show (k34).sz = 3 from rfl, Nat.mul_one, Nat.add_zero] at hx314_0)
                have hf314_0 := hfr314 0
                (try simp only [show (k34).sz = 3 from rfl, Nat.mul_one, Nat.add_zero] at hf314_0)
                clear hcl314 hcc314 hfr314 hM314
                have tk316 : True := trivial
                go_upto_region 32 with (first | ((with_reducible refine gate_store (t := 3) (p := 139) rfl ?_); clear tk316; refine store_event (t := 3) (p := 139) (v := ?vo_w315) (w1 := (wr.setCell ⟨go313, (x133_4 : Int).toNat * 3, none⟩ (.int .i64 77))) ?hg ?ho ?hn ?hr ?_; (case ho => rfl); (case hg => rfl); (case hn => rfl); (case hr => first | (go_simp; done) | (go_simp; rfl)); intro w315 hw; have hg : wr.grownBy w315 (some go313) := (by rw [hw]; exact HP314.2); have hp_ : Kd.R k34 34 w315 w.heap.size (fun k_ => some k_ ≠ (u342002 : Value).ownBlock ∧ k_ ≠ gb338) (.slice (some ⟨go313, 0, none⟩) x20_4.length co309) y390 := (by rw [hw, Ny390.out]; exact HP314.1); clear HP314; replace HOa := zM (Kd.R_after (v := (.slice (some ⟨go313, 0, none⟩) x20_4.length co309)) (v1 := (.slice (some ⟨go313, 0, none⟩) x20_4.length co309)) (ok := (fun k_ => k_ ≠ gb338)) (by (with_reducible repeat (first | apply Kd.R_alloc | apply Kd.R_drewN | apply Kd.R_drew)); exact Kd.R_mono HOa.out (fun _ h => ⟨h.2, h.1⟩)) hg (.inl rfl)); replace HOb := zM (Kd.V_afterv (v := (.slice (some ⟨go313, 0, none⟩) x20_4.length co309)) (v1 := (.slice (some ⟨go313, 0, none⟩) x20_4.length co309)) (ok := (fun k_ => some k_ ≠ (u342002 : Value).ownBlock ∧ k_ ≠ gb338 ∧ k_ ≠ gb341 ∧ k_ ≠ gb342)) (by (with_reducible repeat (first | apply Kd.V_alloc | apply Kd.V_drewN | apply Kd.V_drew)); exact Kd.V_mono HOb.out (fun _ h => ⟨h.2, h.1⟩)) hg (.inl rfl)); replace BK338 := (bG_ BK338 hg (Kd.R_away HO_20.out (fun _ hk => hk.2))); replace BK341 := (bG_ BK341 hg (Kd.R_ne HO_20.out BK341.out (by decide))); replace BK342 := (bG_ BK342 hg (Kd.R_ne HO_20.out BK342.out (by decide))); replace HO_20 := zM (hp_); replace HB := zM ((by rw [hw]; exact below_set (HB.out) GB313.out : Below w.heap.size w w315)); clear hg hw hp_))
                have H' := zM H
                clear H
                go_wp2
                (try simp only [← hl20_4])
                go_roundg k4
                case measure => have := HJ9.out; have := HK2.out; have := HJ267.out; have := HK4.out; omega
                case rel => exact ⟨(y390), (wrap64 (x133_4 + 1)), (X9), (by first | rfl | (simp; done) | (simp [*]; done) | (simp; grind)), H', ⟨by have := HJ9.out; have := HK2.out; have := HJ267.out; have := HK4.out; omega⟩, ⟨by (try simp only [hl20_4]); exact HO_20.out⟩, ⟨by (try simp only [hl20_4]); exact Kd.R_mono HOa.out (fun _ h => ⟨h.2, h.1⟩)⟩, ⟨by (try simp only [hl20_4]); exact Kd.V_mono HOb.out (fun _ h => ⟨h.2, h.1⟩)⟩, ⟨by (try simp only [hl20_4]); exact BK338.out⟩, ⟨by (try simp only [hl20_4]); exact BK341.out⟩, ⟨by (try simp only [hl20_4]); exact BK342.out⟩, ⟨bel_⟩⟩
             rw [if_neg c310] at H
             have c310b0 : decide (x133_4 < (x20_267.length : Int)) = false := decide_eq_false c310
             try have c310b9 : decide (x133_4 < (x20_4.length : Int)) = false := by rw [← hl20_4]; exact c310b0
             clear c310
             have HC317 := zM H
             clear H
             go_upto_region 33 with (fail)
             (try simp only [Act.put, zS, zZ, zC])
             go_cut [23, 24, 25] (fun v23 v24 v25 wc => ∃ (kq : Nat) (x23_316 : Int) (x24_316 : List (S34)) (x25_316 : Bool) (Xa : Int), v23 = .int .i64 x23_316 ∧ v25 = .bool x25_316 ∧ Aside0 (ropewaylaw15_SnapRuns_f.j8 kq x19_267 x21_267 x23_316 x24_316 x25_316 Xa X2 X3 X4 X5 X6 X7 = some r) ∧ Aside0 (kq ≤ k4) ∧ Aside0 (Kd.R k34 34 wc w.heap.size (fun k_ => some k_ ≠ (u342002 : Value).ownBlock ∧ k_ ≠ gb338) v24 x24_316) ∧ Aside0 (Kd.R k34 34 wc w.heap.size (fun k_ => some k_ ≠ (v24 : Value).ownBlock ∧ k_ ≠ gb338) u342002 X2) ∧ Aside0 (Kd.V (Kd.slice 34 k34) 27 wc w.heap.size (fun k_ => some k_ ≠ (v24 : Value).ownBlock ∧ some k_ ≠ (u342002 : Value).ownBlock ∧ k_ ≠ gb338 ∧ k_ ≠ gb341 ∧ k_ ≠ gb342) u343004 X7) ∧ Aside0 (wc.heap[gb338]? = some (.cells #[.int .i64 X9, .int .i64 a1_1, .int .i64 a1_2] 34 (0, 0))) ∧ Aside0 (wc.heap[gb341]? = some (.cells #[(.slice none 0 0), .int .i64 Xa, u342002] 61 (0, 0))) ∧ Aside0 (wc.heap[gb342]? = some (.cells #[.bool X3, .int .i64 X4, .int .i64 X5, .int .i64 X6, u343004] 38 (0, 0))) ∧ Aside0 (Below w.heap.size w wc))
             case first => as_aux_lemma =>
              have H := HC317.out
              clear HC317
              by_cases c318 : X8 = 4
              · rw [if_pos c318] at H
                have c318b0 : (X8 == 4) = true := beq_iff_eq.mpr c318
                have c318b1 : (X8 != 4) = false := bne_eq_false_iff_eq.mpr c318
                clear c318
                (first | rw [c318b0] | (simp only [i64_w, i32_w]; rw [c318b0]) | skip)
                have H' := zM H
                clear H
                have tk319 : True := trivial
                have tk323 : True := trivial
                go_wp2_with (first | ((with_reducible refine gate_callee (f := 9) rfl ?_); clear tk319; refine goL_ (some 143) Try.func9 #[.pointer (some ⟨gb341, 0, none⟩)] ?_; go_enter Try.func9, Try.ntmps9; have hnb320 := NB341_338.out; have hnc320 := NB338_341.out; have hnb321 := NB341_342.out; have hnc321 := NB342_341.out; have hcz322 := rf3_ BK341.out) | (clear tk323; (first | go_ret | go_ret2 | go_ret3 | go_end0); with_reducible refine inl_back_ ?_))
                go_meet
                case rel => exact ⟨_, (0), (([] : List (S34))), (false), (X8), (by first | rfl | (simp; done) | (simp [*]; done) | (simp; grind)), (by first | rfl | (simp; done) | (simp [*]; done) | (simp; grind)), H', ⟨by have := HJ9.out; have := HK2.out; have := HJ267.out; have := HK4.out; first | omega | exact Nat.le_refl _⟩, ⟨by (try simp only [hl20_4]); first | exact Kd.R_nil _ _ _ _ _ | exact Kd.N_nil _ _ _ _ _ | exact Kd.V_nil _ _ _ _ _ | exact Kd.Q_nil _ _ _ _ _ | exact Kd.S_nil _ _ _ _ _⟩, ⟨by (try simp only [hl20_4]); exact Kd.R_mono HOa.out (fun _ h => ⟨(by simp [Value.ownBlock]), h.2⟩)⟩, ⟨by (try simp only [hl20_4]); exact Kd.V_mono HOb.out (fun _ h => ⟨(by simp [Value.ownBlock]), h.2⟩)⟩, ⟨by (try simp only [hl20_4]); exact BK338.out⟩, ⟨by (try simp only [hl20_4]); exact BK341.out⟩, ⟨by (try simp only [hl20_4]); exact BK342.out⟩, ⟨bel_⟩⟩
              rw [if_neg c318] at H
              have c318b0 : (X8 == 4) = false := beq_eq_false_iff_ne.mpr c318
              have c318b1 : (X8 != 4) = true := bne_iff_ne.mpr c318
              (first | rw [c318b0] | (simp only [i64_w, i32_w]; rw [c318b0]) | skip)
              by_cases c324 : X8 = 0
              · rw [if_pos c324] at H
                have c324b0 : (X8 == 0) = true := beq_iff_eq.mpr c324
                have c324b1 : (X8 != 0) = false := bne_eq_false_iff_eq.mpr c324
                clear c324
                have H' := zM H
                clear H
                have tk325 : True := trivial
                have tk329 : True := trivial
                go_wp2_with (first | ((with_reducible refine gate_callee (f := 9) rfl ?_); clear tk325; refine goL_ (some 143) Try.func9 #[.pointer (some ⟨gb341, 0, none⟩)] ?_; go_enter Try.func9, Try.ntmps9; have hnb326 := NB341_338.out; have hnc326 := NB338_341.out; have hnb327 := NB341_342.out; have hnc327 := NB342_341.out; have hcz328 := rf3_ BK341.out) | (clear tk329; (first | go_ret | go_ret2 | go_ret3 | go_end0); with_reducible refine inl_back_ ?_))
                go_meet
                case rel => exact ⟨_, (0), (([] : List (S34))), (true), (X8), (by first | rfl | (simp; done) | (simp [*]; done) | (simp; grind)), (by first | rfl | (simp; done) | (simp [*]; done) | (simp; grind)), H', ⟨by have := HJ9.out; have := HK2.out; have := HJ267.out; have := HK4.out; first | omega | exact Nat.le_refl _⟩, ⟨by (try simp only [hl20_4]); first | exact Kd.R_nil _ _ _ _ _ | exact Kd.N_nil _ _ _ _ _ | exact Kd.V_nil _ _ _ _ _ | exact Kd.Q_nil _ _ _ _ _ | exact Kd.S_nil _ _ _ _ _⟩, ⟨by (try simp only [hl20_4]); exact Kd.R_mono HOa.out (fun _ h => ⟨(by simp [Value.ownBlock]), h.2⟩)⟩, ⟨by (try simp only [hl20_4]); exact Kd.V_mono HOb.out (fun _ h => ⟨(by simp [Value.ownBlock]), h.2⟩)⟩, ⟨by (try simp only [hl20_4]); exact BK338.out⟩, ⟨by (try simp only [hl20_4]); exact BK341.out⟩, ⟨by (try simp only [hl20_4]); exact BK342.out⟩, ⟨bel_⟩⟩
              rw [if_neg c324] at H
              have c324b0 : (X8 == 0) = false := beq_eq_false_iff_ne.mpr c324
              have c324b1 : (X8 != 0) = true := bne_iff_ne.mpr c324
              by_cases c330 : X8 = 2
              · rw [if_pos c330] at H
                have c330b0 : (X8 == 2) = true := beq_iff_eq.mpr c330
                have c330b1 : (X8 != 2) = false := bne_eq_false_iff_eq.mpr c330
                clear c330
                have H' := zM H
                clear H
                have tk331 : True := trivial
                have tk335 : True := trivial
                go_wp2_with (first | ((with_reducible refine gate_callee (f := 9) rfl ?_); clear tk331; refine goL_ (some 143) Try.func9 #[.pointer (some ⟨gb341, 0, none⟩)] ?_; go_enter Try.func9, Try.ntmps9; have hnb332 := NB341_338.out; have hnc332 := NB338_341.out; have hnb333 := NB341_342.out; have hnc333 := NB342_341.out; have hcz334 := rf3_ BK341.out) | (clear tk335; (first | go_ret | go_ret2 | go_ret3 | go_end0); with_reducible refine inl_back_ ?_))
                go_meet
                case rel => exact ⟨_, (0), (([] : List (S34))), (true), (X8), (by first | rfl | (simp; done) | (simp [*]; done) | (simp; grind)), (by first | rfl | (simp; done) | (simp [*]; done) | (simp; grind)), H', ⟨by have := HJ9.out; have := HK2.out; have := HJ267.out; have := HK4.out; first | omega | exact Nat.le_refl _⟩, ⟨by (try simp only [hl20_4]); first | exact Kd.R_nil _ _ _ _ _ | exact Kd.N_nil _ _ _ _ _ | exact Kd.V_nil _ _ _ _ _ | exact Kd.Q_nil _ _ _ _ _ | exact Kd.S_nil _ _ _ _ _⟩, ⟨by (try simp only [hl20_4]); exact Kd.R_mono HOa.out (fun _ h => ⟨(by simp [Value.ownBlock]), h.2⟩)⟩, ⟨by (try simp only [hl20_4]); exact Kd.V_mono HOb.out (fun _ h => ⟨(by simp [Value.ownBlock]), h.2⟩)⟩, ⟨by (try simp only [hl20_4]); exact BK338.out⟩, ⟨by (try simp only [hl20_4]); exact BK341.out⟩, ⟨by (try simp only [hl20_4]); exact BK342.out⟩, ⟨bel_⟩⟩
              rw [if_neg c330] at H
              have c330b0 : (X8 == 2) = false := beq_eq_false_iff_ne.mpr c330
              have c330b1 : (X8 != 2) = true := bne_iff_ne.mpr c330
              replace H := Option.bind_eq_some_iff.mp H
              obtain ⟨t391, A3360, H⟩ := H
              replace H : (if t391 = true then ((api_Cell.f ([] : List (S34))).bind fun t392 => (ropewaylaw15_SnapRuns_f.j8 k4 x19_267 x21_267 1 t392 true X8 X2 X3 X4 X5 X6 X7)) else ((api_Cell.f X2).bind fun t395 => (ropewaylaw15_SnapRuns_f.j8 k4 x19_267 x21_267 1 t395 true X8 X2 X3 X4 X5 X6 X7))) = some r := H
              have A336 := zM A3360
              clear A3360
              by_cases c337 : t391 = true
              ·
               subst c337
               have H1 : ((api_Cell.f ([] : List (S34))).bind fun t392 => (ropewaylaw15_SnapRuns_f.j8 k4 x19_267 x21_267 1 t392 true X8 X2 X3 X4 X5 X6 X7)) = some r := by rw [if_pos rfl] at H; exact H
               clear H
               have H := H1
               clear H1
               replace H := Option.bind_eq_some_iff.mp H
               obtain ⟨t392, A3380, H⟩ := H
               replace H : (ropewaylaw15_SnapRuns_f.j8 k4 x19_267 x21_267 1 t392 true X8 X2 X3 X4 X5 X6 X7) = some r := H
               have A338 := zM A3380
               clear A3380
               have H' := zM H
               clear H
               have tk339 : True := trivial
               have tk344 : True := trivial
               have tk346 : True := trivial
               have tk347 : True := trivial
               go_wp2_with (first | ((with_reducible refine gate_callee (f := 9) rfl ?_); clear tk339; refine goL_ (some 143) Try.func9 #[.pointer (some ⟨gb341, 0, none⟩)] ?_; go_enter Try.func9, Try.ntmps9; have hnb340 := NB341_338.out; have hnc340 := NB338_341.out; have hnb341 := NB341_342.out; have hnc341 := NB342_341.out; have hcz342 := rf3_ BK341.out; obtain ⟨Ao343, co343, eo343⟩ := Kd.R_slice HOa.out; subst eo343) | ((with_reducible refine gate_callee (f := 11) rfl ?_); clear tk344; refine goL_ (some 24) Try.func11 #[.pointer (some ⟨gb341, 0, none⟩)] ?_; (with_reducible refine calls_of_args (args' := #[.pointer (some ⟨gb341, 0, none⟩)]) rfl ?_); (refine (snap_Snap_Own.calls gb341 none 0 ([] : List (S34)) X8 Ao343 co343 X2 true _ ?side1 ?side2 ?side3 ?side4 ?side5 A336.out).mono ?_); (case side1 => exact Kd.C_nil _ _); (case side2 => exact Nat.le_refl _); (case side3 => exact (Kd.R_reads' HOa.out).2.2); (case side4 => exact (Kd.R_reads' HOa.out).2.1); (case side5 => exact blf_); rintro e w' ⟨rfl, ⟨nd, rfl⟩⟩; refine ⟨_, rfl, ?_⟩) | ((with_reducible refine gate_callee (f := 25) rfl ?_); clear tk346; refine goL_ (some 29) Try.func25 #[.slice none 0 0] ?_; (with_reducible refine calls_of_args (args' := #[.slice none 0 0]) rfl ?_); (refine (api_Cell.calls _ _ ([] : List (S34)) t392 _ ?side1 ?side2 A338.out).mono ?_); (case side1 => exact Kd.C_nil _ _); (case side2 => exact Nat.le_refl _); rintro e w345 ⟨v393, rfl, ho0, hb⟩; refine ⟨_, rfl, ?_⟩; replace HOb := zM (Kd.V_elder' (rv_ HOb) (Kd.R_base ho0) hb); have HO394 := zM (Kd.R_lower (Kd.R_newB (Kd.R_new' (Kd.R_new' ho0 (Kd.R_lt (rl_ HO_20))) (Kd.R_lt (rl_ HOa))) (g := gb338) (o := .cells #[.int .i64 X9, .int .i64 a1_1, .int .i64 a1_2] 34 (0, 0)) blk_) (below_size bel_)); replace HO_20 := zM (Kd.R_elder' (rl_ HO_20) (Kd.R_base ho0) hb); replace HOa := zM (Kd.R_elder' (rl_ HOa) (Kd.R_base ho0) hb); replace BK338 := zM (bb_ BK338 hb); replace BK341 := zM (bb_ BK341 hb); replace BK342 := zM (bb_ BK342 hb); replace HB := zM (zB bel_ hb); (try clear hb); (try clear ho0)) | (clear tk347; (first | go_ret | go_ret2 | go_ret3 | go_end0); with_reducible refine inl_back_ ?_))
               go_meet
               case rel => exact ⟨_, (1), (t392), (true), (X8), (by first | rfl | (simp; done) | (simp [*]; done) | (simp; grind)), (by first | rfl | (simp; done) | (simp [*]; done) | (simp; grind)), H', ⟨by have := HJ9.out; have := HK2.out; have := HJ267.out; have := HK4.out; first | omega | exact Nat.le_refl _⟩, ⟨by (try simp only [hl20_4]); exact Kd.R_mono HO394.out (fun _ h => ⟨h.1.2, h.2⟩)⟩, ⟨by (try simp only [hl20_4]); exact Kd.R_mono HOa.out (fun _ h => ⟨h.2, h.1.2⟩)⟩, ⟨by (try simp only [hl20_4]); exact Kd.V_mono HOb.out (fun _ h => ⟨h.2, h.1.2⟩)⟩, ⟨by (try simp only [hl20_4]); exact BK338.out⟩, ⟨by (try simp only [hl20_4]); exact BK341.out⟩, ⟨by (try simp only [hl20_4]); exact BK342.out⟩, ⟨bel_⟩⟩
              replace c337 := Bool.eq_false_iff.mpr c337
              subst c337
              have H1 : ((api_Cell.f X2).bind fun t395 => (ropewaylaw15_SnapRuns_f.j8 k4 x19_267 x21_267 1 t395 true X8 X2 X3 X4 X5 X6 X7)) = some r := by rw [if_neg (show ¬ (false = true) by decide)] at H; exact H
              clear H
              have H := H1
              clear H1
              replace H := Option.bind_eq_some_iff.mp H
              obtain ⟨t395, A3480, H⟩ := H
              replace H : (ropewaylaw15_SnapRuns_f.j8 k4 x19_267 x21_267 1 t395 true X8 X2 X3 X4 X5 X6 X7) = some r := H
              have A348 := zM A3480
              clear A3480
              have H' := zM H
              clear H
              have tk349 : True := trivial
              have tk354 : True := trivial
              have tk356 : True := trivial
              have tk357 : True := trivial
              go_wp2_with (first | ((with_reducible refine gate_callee (f := 9) rfl ?_); clear tk349; refine goL_ (some 143) Try.func9 #[.pointer (some ⟨gb341, 0, none⟩)] ?_; go_enter Try.func9, Try.ntmps9; have hnb350 := NB341_338.out; have hnc350 := NB338_341.out; have hnb351 := NB341_342.out; have hnc351 := NB342_341.out; have hcz352 := rf3_ BK341.out; obtain ⟨Ao353, co353, eo353⟩ := Kd.R_slice HOa.out; subst eo353) | ((with_reducible refine gate_callee (f := 11) rfl ?_); clear tk354; refine goL_ (some 24) Try.func11 #[.pointer (some ⟨gb341, 0, none⟩)] ?_; (with_reducible refine calls_of_args (args' := #[.pointer (some ⟨gb341, 0, none⟩)]) rfl ?_); (refine (snap_Snap_Own.calls gb341 none 0 ([] : List (S34)) X8 Ao353 co353 X2 false _ ?side1 ?side2 ?side3 ?side4 ?side5 A336.out).mono ?_); (case side1 => exact Kd.C_nil _ _); (case side2 => exact Nat.le_refl _); (case side3 => exact (Kd.R_reads' HOa.out).2.2); (case side4 => exact (Kd.R_reads' HOa.out).2.1); (case side5 => exact blf_); rintro e w' ⟨rfl, ⟨nd, rfl⟩⟩; refine ⟨_, rfl, ?_⟩) | ((with_reducible refine gate_callee (f := 25) rfl ?_); clear tk356; refine goL_ (some 34) Try.func25 #[.slice Ao353 X2.length co353] ?_; (with_reducible refine (api_Cell.calls _ _ X2 t395 _ ?side1 ?side2 A348.out).mono ?_); (case side1 => exact (Kd.R_reads' HOa.out).2.2); (case side2 => exact (Kd.R_reads' HOa.out).2.1); rintro e w355 ⟨v396, rfl, ho0, hb⟩; refine ⟨_, rfl, ?_⟩; replace HOb := zM (Kd.V_elder' (rv_ HOb) (Kd.R_base ho0) hb); have HO397 := zM (Kd.R_lower (Kd.R_newB (Kd.R_new' (Kd.R_new' ho0 (Kd.R_lt (rl_ HO_20))) (Kd.R_lt (rl_ HOa))) (g := gb338) (o := .cells #[.int .i64 X9, .int .i64 a1_1, .int .i64 a1_2] 34 (0, 0)) blk_) (below_size bel_)); replace HO_20 := zM (Kd.R_elder' (rl_ HO_20) (Kd.R_base ho0) hb); replace HOa := zM (Kd.R_elder' (rl_ HOa) (Kd.R_base ho0) hb); replace BK338 := zM (bb_ BK338 hb); replace BK341 := zM (bb_ BK341 hb); replace BK342 := zM (bb_ BK342 hb); replace HB := zM (zB bel_ hb); (try clear hb); (try clear ho0)) | (clear tk357; (first | go_ret | go_ret2 | go_ret3 | go_end0); with_reducible refine inl_back_ ?_))
              go_meet
              case rel => exact ⟨_, (1), (t395), (true), (X8), (by first | rfl | (simp; done) | (simp [*]; done) | (simp; grind)), (by first | rfl | (simp; done) | (simp [*]; done) | (simp; grind)), H', ⟨by have := HJ9.out; have := HK2.out; have := HJ267.out; have := HK4.out; first | omega | exact Nat.le_refl _⟩, ⟨by (try simp only [hl20_4]); exact Kd.R_mono HO397.out (fun _ h => ⟨h.1.2, h.2⟩)⟩, ⟨by (try simp only [hl20_4]); exact Kd.R_mono HOa.out (fun _ h => ⟨h.2, h.1.2⟩)⟩, ⟨by (try simp only [hl20_4]); exact Kd.V_mono HOb.out (fun _ h => ⟨h.2, h.1.2⟩)⟩, ⟨by (try simp only [hl20_4]); exact BK338.out⟩, ⟨by (try simp only [hl20_4]); exact BK341.out⟩, ⟨by (try simp only [hl20_4]); exact BK342.out⟩, ⟨bel_⟩⟩
             case rest => as_aux_lemma =>
              clear HC317
              try clear c2
              try clear c11
              try clear c14
              try clear c25
              try clear c39
              try clear c39b0
              try clear c40
              try clear c41
              try clear c43
              try clear c43b0
              try clear c43b1
              try clear c46
              try clear c247
              try clear c247b0
              try clear c247b1
              try clear c249
              try clear c250
              try clear c250b0
              try clear c250b1
              try clear c250b2
              try clear c265
              try clear c269
              try clear c269b0
              try clear c269b1
              try clear c275
              try clear c275b0
              try clear c275b1
              try clear c281
              try clear c281b0
              try clear c281b1
              try clear c288
              try clear c310
              try clear c310b0
              try clear c311
              try clear c311b0
              try clear c312
              try clear c312b0
              try clear p313
              try clear q313
              try clear c318
              try clear c318b0
              try clear c318b1
              try clear c324
              try clear c324b0
              try clear c324b1
              try clear c330
              try clear c330b0
              try clear c330b1
              try clear c337
              try clear p343
              try clear q343
              try clear hcz273
              try clear hcz279
              try clear hcz285
              try clear hcz293
              try clear hcz303
              try clear hcz322
              try clear hcz328
              try clear hcz334
              try clear hcz342
              try clear hcz352
              try clear hx313_0
              try clear hx313_1
              try clear hx313_2
              try clear hx314_0
              try clear hx343_0
              try clear p313
              try clear p343
              try clear q313
              try clear q343
              obtain ⟨kq, x23_316, x24_316, x25_316, Xa, rfl, rfl, HA, HJ316, HO_24, HOa, HOb, BK338, BK341, BK342, HB⟩ := hcut
              cases kq with
              | zero => exact absurd HA.out (by simp [ropewaylaw15_SnapRuns_f.j8])
              | succ kj316 =>
               have H := HA.out
               clear HA
               simp only [ropewaylaw15_SnapRuns_f.j8] at H
               by_cases c358 : x19_267 = x23_316
               rotate_left
               · rw [if_neg c358] at H
                 have c358b0 : (x19_267 == x23_316) = false := beq_eq_false_iff_ne.mpr c358
                 have c358b1 : (x19_267 != x23_316) = true := bne_iff_ne.mpr c358
                 exact absurd (Option.some.inj H) (by rw [hr1_.out]; decide)
               as_aux_lemma =>
                rw [if_pos c358] at H
                have c358b0 : (x19_267 == x23_316) = true := beq_iff_eq.mpr c358
                have c358b1 : (x19_267 != x23_316) = false := bne_eq_false_iff_eq.mpr c358
                clear c358
                by_cases c359 : (x21_267 == x25_316) = true
                rotate_left
                · rw [if_neg c359] at H
                  have c359b0 : (x21_267 == x25_316) = false := by simpa using c359
                  (try (have c359b1 : decide (x21_267 = x25_316) = false := by simpa using c359))
                  (try (have c359b2 : (x21_267 == x25_316) = false := by simpa using c359))
                  (try (have c359b3 : ¬ (x21_267 = x25_316) := by simpa using c359))
                  clear c359
                  exact absurd (Option.some.inj H) (by rw [hr1_.out]; decide)
                as_aux_lemma =>
                 rw [if_pos c359] at H
                 have c359b0 : (x21_267 == x25_316) = true := c359
                 (try (have c359b1 : decide (x21_267 = x25_316) = true := by simpa using c359))
                 (try (have c359b2 : (x21_267 == x25_316) = true := by simpa using c359))
                 clear c359
                 by_cases c360 : (x24_316.length : Int) = 0
                 ·
                  rw [if_pos c360] at H
                  have c360b0 : ((x24_316.length : Int) == 0) = true := beq_iff_eq.mpr c360
                  have c360b1 : ((x24_316.length : Int) != 0) = false := bne_eq_false_iff_eq.mpr c360
                  clear c360
                  by_cases c361 : x21_267 = true
                  ·
                   subst c361
                   have H1 : (some true) = some r := by rw [if_pos rfl] at H; exact H
                   clear H
                   have H := H1
                   clear H1
                   obtain rfl := Option.some.inj H
                   try go_wp2
                   obtain ⟨Ao363, co363, eo363⟩ := Kd.R_slice HO_24.out
                   (first | subst eo363 | (injection eo363 with f1_ f2_ f3_; have f4_ := f1_.symm; have f5_ := f3_.symm; clear f1_ f2_ f3_; subst f4_; subst f5_))
                   go_quiet (fail)
                   replace HO_24 := zM (Kd.R_drewN HO_24.out nq)
                   replace HOa := zM (Kd.R_drewN HOa.out nq)
                   replace HOb := zM (Kd.V_drewN HOb.out nq)
                   replace BK338 := zM (zN BK338.out nq)
                   replace BK341 := zM (zN BK341.out nq)
                   replace BK342 := zM (zN BK342.out nq)
                   replace HB := zM (pw_below_drewN HB.out nq)
                   generalize wc.drewN nq = w362 at HO_24 HOa HOb BK338 BK341 BK342 HB ⊢
                   try go_wp2
                   go_ret
                   exact ⟨by first | rfl | (simp [errW_none, errW_some] <;> rfl) | (simp [*, errW_none, errW_some] <;> rfl), bel_⟩
                  replace c361 := Bool.eq_false_iff.mpr c361
                  subst c361
                  have H1 : ((snap_Snap_Found.f kj316 ([] : List (S34)) Xa X2).bind fun t398 => ((ropewayref15_Found.f kj316 X3 X4 X5 X6 X7).bind fun t401 => ((ropewayref05_Same.f kj316 t398 t401).bind fun t404 => (some t404)))) = some r := by rw [if_neg (show ¬ (false = true) by decide)] at H; exact H
                  clear H
                  have H := H1
                  clear H1
                  replace H := Option.bind_eq_some_iff.mp H
                  obtain ⟨t398, A3640, H⟩ := H
                  replace H : ((ropewayref15_Found.f kj316 X3 X4 X5 X6 X7).bind fun t401 => ((ropewayref05_Same.f kj316 t398 t401).bind fun t404 => (some t404))) = some r := H
                  have A364 := zM A3640
                  clear A3640
                  replace H := Option.bind_eq_some_iff.mp H
                  obtain ⟨t401, A3650, H⟩ := H
                  replace H : ((ropewayref05_Same.f kj316 t398 t401).bind fun t404 => (some t404)) = some r := H
                  have A365 := zM A3650
                  clear A3650
                  replace H := Option.bind_eq_some_iff.mp H
                  obtain ⟨t404, A3660, H⟩ := H
                  replace H : (some t404) = some r := H
                  have A366 := zM A3660
                  clear A3660
                  obtain rfl := Option.some.inj H
                  try go_wp2
                  replace HO_24 := zM (Kd.R_drew HO_24.out)
                  replace HOa := zM (Kd.R_drew HOa.out)
                  replace HOb := zM (Kd.V_drew HOb.out)
                  replace BK338 := zM (zD BK338.out)
                  replace BK341 := zM (zD BK341.out)
                  replace BK342 := zM (zD BK342.out)
                  replace HB := zM (below_drew1 HB.out)
                  obtain ⟨Ao368, co368, eo368⟩ := Kd.R_slice HO_24.out
                  (first | subst eo368 | (injection eo368 with f1_ f2_ f3_; have f4_ := f1_.symm; have f5_ := f3_.symm; clear f1_ f2_ f3_; subst f4_; subst f5_))
                  obtain ⟨Ao369, co369, eo369⟩ := Kd.R_slice HOa.out
                  (first | subst eo369 | (injection eo369 with f1_ f2_ f3_; have f4_ := f1_.symm; have f5_ := f3_.symm; clear f1_ f2_ f3_; subst f4_; subst f5_))
                  refine start_ (n := 31) (S := fun w' => cz5_ w' gb342 (.bool X3) (.int .i64 X4) (.int .i64 X5) (.int .i64 X6) (u343004)) (ds := []) #[F_, F_, F_, F_, F_, F_, F_, F_, F_, F_, F_, F_, F_, F_, F_, F_, F_, F_, F_, F_, F_, F_, F_, F_, F_, F_, F_, F_, F_, F_, F_] (by kernel_rfl) rfl rfl (r5_ BK342.out) (fun hHeld => ?_); refine with_tabW ropewaylaw15_SnapRuns_f.tab34 ropewaylaw15_SnapRuns_f.bits34 (fun HT_ HW_ => ?_)
                  generalize wc.drew = w367 at HO_24 HOa HOb BK338 BK341 BK342 HB hHeld ⊢
                  refine put_ HT_ 0 147 (dm_ 31 1) ?_
                  refine put_ HT_ 1 148 (dm_ 31 3) ?_
                  refine put_ HT_ 2 149 (dm_ 31 7) ?_
                  refine put_ HT_ 3 150 (dm_ 31 15) ?_
                  refine put_ HT_ 4 151 (dm_ 31 31) ?_
                  refine put_ HT_ 5 152 (dm_ 31 63) ?_
                  refine put_ HT_ 6 153 (dm_ 31 127) ?_
                  refine put_ HT_ 7 154 (dm_ 31 255) ?_
                  refine put_ HT_ 8 155 (dm_ 31 511) ?_
                  refine put_ HT_ 9 156 (dm_ 31 1023) ?_
                  refine put_ HT_ 10 157 (dm_ 31 2047) ?_
                  refine put_ HT_ 11 158 (dm_ 31 4095) ?_
                  refine put_ HT_ 12 159 (dm_ 31 8191) ?_
                  refine pzt_ HT_ 13 160 (dm_ 31 16383) ?_
                  refine pzt_ HT_ 14 161 (dm_ 31 32767) ?_
                  refine pzt_ HT_ 15 162 (dm_ 31 65535) ?_
                  refine pzt_ HT_ 16 163 (dm_ 31 131071) ?_
                  refine pzt_ HT_ 17 164 (dm_ 31 262143) ?_
                  refine put_ HT_ 18 165 (dm_ 31 524287) ?_
                  refine put_ HT_ 19 166 (dm_ 31 1048575) ?_
                  refine put_ HT_ 20 167 (dm_ 31 2097151) ?_
                  refine put_ HT_ 21 168 (dm_ 31 4194303) ?_
                  refine put_ HT_ 22 169 (dm_ 31 8388607) ?_
                  refine put_ HT_ 23 170 (dm_ 31 16777215) ?_
                  refine tkt_ HT_ HW_ hHeld 25 172 (dm_ 31 50331647) ?_
                  refine one_ (i := 24) (N := some 171) (dm_ 31 67108863) rfl rfl (one_of HT_.out (by kernel_rfl)) (by decide) (fun K hK => ?_)
                  first | refine goes_ Try.func12 (by kernel_rfl) rfl #[.pointer (some ⟨gb341, 0, none⟩)] (by rfl) rfl rfl (by (try simp only [List.map_toArray, List.map_cons, List.map_nil]); first | done | rfl | (simp only [List.length_drop, List.length_take]; rfl)) ?_ | refine goesT_ Try.func12 (by kernel_rfl) rfl #[.pointer (some ⟨gb341, 0, none⟩)] (by rfl) rfl rfl (by rfl) (by (try simp only [List.map_toArray, List.map_cons, List.map_nil]); first | done | rfl | (simp only [List.length_drop, List.length_take]; rfl)) ?_
                  refine (snap_Snap_Found.calls kj316 gb341 none 0 ([] : List (S34)) Xa Ao369 co369 X2 t398 _ ?side1 ?side2 ?side3 ?side4 ?side5 A364.out).mono ?_
                  (case side1 => exact Kd.C_nil _ _)
                  (case side2 => exact Nat.le_refl _)
                  (case side3 => exact (Kd.R_reads' HOa.out).2.2)
                  (case side4 => exact (Kd.R_reads' HOa.out).2.1)
                  (case side5 => exact blf_)
                  rintro e w370 ⟨v399, rfl, ho0, hb⟩
                  refine ⟨_, rfl, ?_⟩
                  replace HO_24 := zM (Kd.R_below (rl_ HO_24) hb)
                  replace HOa := zM (Kd.R_below (rl_ HOa) hb)
                  replace HOb := zM (Kd.V_elder' (rv_ HOb) (Kd.R_base ho0) hb)
                  have HO400 := zM (Kd.R_lower ho0 (below_size bel_))
                  replace BK338 := zM (bb_ BK338 hb)
                  replace BK341 := zM (bb_ BK341 hb)
                  replace BK342 := zM (bb_ BK342 hb)
                  replace HB := zM (zB bel_ hb)
                  (try clear hb)
                  (try clear hb2)
                  (try clear hk)
                  (try clear hi)
                  (try clear ho0)
                  obtain ⟨Ao371, co371, eo371⟩ := Kd.V_slice HOb.out
                  (first | subst eo371 | (injection eo371 with f1_ f2_ f3_; have f4_ := f1_.symm; have f5_ := f3_.symm; clear f1_ f2_ f3_; subst f4_; subst f5_))
                  refine hK.out _ _ (r5_ BK342.out) (fun hHeld => ?_)
                  clear hK K
                  refine norm_ (a' := ?_) ?_ ?_
                  rotate_left
                  · show Act.put _ (some 171) _ = _
                    simp only [Act.put, zS, zZ, zC, i64_w, i32_w]
                    rfl
                  refine one_ (i := 26) (N := some 173) (dm_ 31 134217727) rfl rfl (one_of HT_.out (by kernel_rfl)) (by decide) (fun K hK => ?_)
                  first | refine goes_ Try.func21 (by kernel_rfl) rfl #[.agg #[.bool X3, .int .i64 X4, .int .i64 X5, .int .i64 X6, .slice Ao371 X7.length co371]] (by rfl) rfl rfl (by (try simp only [List.map_toArray, List.map_cons, List.map_nil]); first | done | rfl | (simp only [List.length_drop, List.length_take]; rfl)) ?_ | refine goesT_ Try.func21 (by kernel_rfl) rfl #[.agg #[.bool X3, .int .i64 X4, .int .i64 X5, .int .i64 X6, .slice Ao371 X7.length co371]] (by rfl) rfl rfl (by rfl) (by (try simp only [List.map_toArray, List.map_cons, List.map_nil]); first | done | rfl | (simp only [List.length_drop, List.length_take]; rfl)) ?_
                  with_reducible refine (ropewayref15_Found.calls kj316 X3 X4 X5 X6 _ _ X7 t401 _ ?side1 ?side2 A365.out).mono ?_
                  (case side1 => repeat (first | exact (Kd.V_reads' HOb.out).2.2 | (with_reducible refine Kd.C_alloc ?_ _) | (with_reducible refine Kd.C_drewN ?_ _) | (with_reducible refine Kd.C_drew ?_)))
                  (case side2 => exact (Kd.V_reads' HOb.out).2.1)
                  rintro e w372 ⟨v402, rfl, ho0, hb⟩
                  refine ⟨_, rfl, ?_⟩
                  replace HO_24 := zM (Kd.R_below (rl_ HO_24) hb)
                  replace HOa := zM (Kd.R_below (rl_ HOa) hb)
                  replace HOb := zM (Kd.V_elder' (rv_ HOb) (Kd.R_base ho0) hb)
                  have HO403 := zM (Kd.R_lower (Kd.R_new' ho0 (Kd.R_lt (rl_ HO400))) (below_size bel_))
                  replace HO400 := zM (Kd.R_elder' (rl_ HO400) (Kd.R_base ho0) hb)
                  replace BK338 := zM (bb_ BK338 hb)
                  replace BK341 := zM (bb_ BK341 hb)
                  replace BK342 := zM (bb_ BK342 hb)
                  replace HB := zM (zB bel_ hb)
                  (try clear hb)
                  (try clear hb2)
                  (try clear hk)
                  (try clear hi)
                  (try clear ho0)
                  obtain ⟨Ao373, co373, eo373⟩ := Kd.R_slice HO400.out
                  (first | subst eo373 | (injection eo373 with f1_ f2_ f3_; have f4_ := f1_.symm; have f5_ := f3_.symm; clear f1_ f2_ f3_; subst f4_; subst f5_))
                  obtain ⟨Ao374, co374, eo374⟩ := Kd.R_slice HO403.out
                  (first | subst eo374 | (injection eo374 with f1_ f2_ f3_; have f4_ := f1_.symm; have f5_ := f3_.symm; clear f1_ f2_ f3_; subst f4_; subst f5_))
                  refine hK.out _ _ (r5_ BK342.out) (fun hHeld => ?_)
                  clear hK K
                  refine norm_ (a' := ?_) ?_ ?_
                  rotate_left
                  · show Act.put _ (some 173) _ = _
                    simp only [Act.put, zS, zZ, zC, i64_w, i32_w]
                    rfl
                  refine one_ (i := 27) (N := some 174) (dm_ 31 268435455) rfl rfl (one_of HT_.out (by kernel_rfl)) (by decide) (fun K hK => ?_)
                  first | refine goes_ Try.func20 (by kernel_rfl) rfl #[.slice Ao373 t398.length co373, .slice Ao374 t401.length co374] (by rfl) rfl rfl (by (try simp only [List.map_toArray, List.map_cons, List.map_nil]); first | done | rfl | (simp only [List.length_drop, List.length_take]; rfl)) ?_ | refine goesT_ Try.func20 (by kernel_rfl) rfl #[.slice Ao373 t398.length co373, .slice Ao374 t401.length co374] (by rfl) rfl rfl (by rfl) (by (try simp only [List.map_toArray, List.map_cons, List.map_nil]); first | done | rfl | (simp only [List.length_drop, List.length_take]; rfl)) ?_
                  with_reducible refine (ropewayref05_Same.calls kj316 _ _ t398 _ _ t401 t404 _ ?side1 ?side2 ?side3 ?side4 A366.out).mono ?_
                  (case side1 => exact (Kd.R_reads' HO400.out).2.2)
                  (case side2 => exact (Kd.R_reads' HO400.out).2.1)
                  (case side3 => exact (Kd.R_reads' HO403.out).2.2)
                  (case side4 => exact (Kd.R_reads' HO403.out).2.1)
                  rintro e w' ⟨rfl, ⟨nd, rfl⟩⟩
                  refine ⟨_, rfl, ?_⟩
                  refine hK.out _ _ (r5_ BK342.out) (fun hHeld => ?_)
                  clear hK K
                  refine norm_ (a' := ?_) ?_ ?_
                  rotate_left
                  · show Act.put _ (some 174) _ = _
                    simp only [Act.put, zS, zZ, zC, i64_w, i32_w]
                    rfl
                  refine put_ HT_ 28 175 (dm_ 31 536870911) ?_
                  refine put_ HT_ 29 176 (dm_ 31 1073741823) ?_
                  refine put_ HT_ 30 6 (dm_ 31 2147483647) ?_
                  refine done_ (done_of HT_.out (by kernel_rfl)) ?_
                  try go_wp2
                  go_ret
                  exact ⟨by first | rfl | (simp [errW_none, errW_some] <;> rfl) | (simp [*, errW_none, errW_some] <;> rfl), bel_⟩
                 rw [if_neg c360] at H
                 have c360b0 : ((x24_316.length : Int) == 0) = false := beq_eq_false_iff_ne.mpr c360
                 have c360b1 : ((x24_316.length : Int) != 0) = true := bne_iff_ne.mpr c360
                 have c360b2 : ¬ (x24_316 = []) := fun h_ => c360 (by rw [h_]; rfl)
                 by_cases c375 : 0 < (x24_316.length : Int)
                 rotate_left
                 · rw [if_neg c375] at H
                   exact absurd H (by simp)
                 as_aux_lemma =>
                  rw [if_pos c375] at H
                  have c375b0 : decide (0 < (x24_316.length : Int)) = true := decide_eq_true c375
                  have c375b1 : decide (0 < x24_316.length) = true := decide_eq_true (by omega)
                  clear c375
                  by_cases c376 : ((rd_T34 x24_316 0).f0) = 77
                  · rw [if_pos c376] at H
                    have c376b0 : (((rd_T34 x24_316 0).f0) == 77) = true := beq_iff_eq.mpr c376
                    have c376b1 : (((rd_T34 x24_316 0).f0) != 77) = false := bne_eq_false_iff_eq.mpr c376
                    clear c376
                    exact absurd (Option.some.inj H) (by rw [hr1_.out]; decide)
                  rw [if_neg c376] at H
                  have c376b0 : (((rd_T34 x24_316 0).f0) == 77) = false := beq_eq_false_iff_ne.mpr c376
                  have c376b1 : (((rd_T34 x24_316 0).f0) != 77) = true := bne_iff_ne.mpr c376
                  by_cases c377 : x21_267 = true
                  ·
                   subst c377
                   have H1 : (some true) = some r := by rw [if_pos rfl] at H; exact H
                   clear H
                   have H := H1
                   clear H1
                   obtain rfl := Option.some.inj H
                   try go_wp2
                   replace HO_24 := zM (Kd.R_drew HO_24.out)
                   replace HOa := zM (Kd.R_drew HOa.out)
                   replace HOb := zM (Kd.V_drew HOb.out)
                   replace BK338 := zM (zD BK338.out)
                   replace BK341 := zM (zD BK341.out)
                   replace BK342 := zM (zD BK342.out)
                   replace HB := zM (below_drew1 HB.out)
                   obtain ⟨Ao379, co379, eo379⟩ := Kd.R_slice HO_24.out
                   (first | subst eo379 | (injection eo379 with f1_ f2_ f3_; have f4_ := f1_.symm; have f5_ := f3_.symm; clear f1_ f2_ f3_; subst f4_; subst f5_))
                   have p405 : 0 ≤ (0 : Int) := (by omega)
                   have q405 : 0 < (x24_316.length : Int) := of_decide_eq_true (by first | (with_reducible assumption) | assumption)
                   obtain ⟨ad405, e405, hx405_0, hx405_1, hx405_2⟩ := at_T34 (Kd.R_reads' HO_24.out).2.2 0 p405 q405
                   cases e405
                   have qi405 : (0 < x24_316.length) = True := eq_true (by omega)
                   (try rw [show ((0 : Int)).toNat = 0 from rfl] at hx405_0)
                   (try rw [show 0 * 3 = 0 from rfl] at hx405_0)
                   (try rw [Addr.add_zero'] at hx405_0)
                   (try rw [show ((0 : Int)).toNat = 0 from rfl] at hx405_1)
                   (try rw [show 0 * 3 = 0 from rfl] at hx405_1)
                   (try rw [Addr.add_zero'] at hx405_1)
                   (try rw [show ((0 : Int)).toNat = 0 from rfl] at hx405_2)
                   (try rw [show 0 * 3 = 0 from rfl] at hx405_2)
                   (try rw [Addr.add_zero'] at hx405_2)
                   replace p405 := eq_true p405
                   replace q405 := eq_true q405
                   refine start_ (n := 31) (S := fun w' => w'.cell? ad405 = some (.int .i64 ((rd_T34 x24_316 0).f0)) ∧ w'.cell? ⟨ad405.block, ad405.off + 1, none⟩ = some (.int .i64 ((rd_T34 x24_316 0).f1.f0)) ∧ w'.cell? ⟨ad405.block, ad405.off + 2, none⟩ = some (.int .i64 ((rd_T34 x24_316 0).f1.f1))) (ds := []) #[F_, F_, F_, F_, F_, F_, F_, F_, F_, F_, F_, F_, F_, F_, F_, F_, F_, F_, F_, F_, F_, F_, F_, F_, F_, F_, F_, F_, F_, F_, F_] (by kernel_rfl) rfl rfl ⟨hx405_0, hx405_1, hx405_2⟩ (fun hHeld => ?_); refine with_tabW ropewaylaw15_SnapRuns_f.tab34 ropewaylaw15_SnapRuns_f.bits34 (fun HT_ HW_ => ?_)
                   generalize wc.drew = w378 at HO_24 HOa HOb BK338 BK341 BK342 HB hx405_0 hx405_1 hx405_2 hHeld ⊢
                   refine put_ HT_ 0 147 (dm_ 31 1) ?_
                   refine put_ HT_ 1 148 (dm_ 31 3) ?_
                   refine put_ HT_ 2 149 (dm_ 31 7) ?_
                   refine put_ HT_ 3 150 (dm_ 31 15) ?_
                   refine put_ HT_ 4 151 (dm_ 31 31) ?_
                   refine put_ HT_ 5 152 (dm_ 31 63) ?_
                   refine put_ HT_ 6 153 (dm_ 31 127) ?_
                   refine put_ HT_ 7 154 (dm_ 31 255) ?_
                   refine put_ HT_ 8 155 (dm_ 31 511) ?_
                   refine put_ HT_ 9 156 (dm_ 31 1023) ?_
                   refine put_ HT_ 10 157 (dm_ 31 2047) ?_
                   refine put_ HT_ 11 158 (dm_ 31 4095) ?_
                   refine put_ HT_ 12 159 (dm_ 31 8191) ?_
                   refine put_ HT_ 13 160 (dm_ 31 16383) ?_
                   refine put_ HT_ 14 161 (dm_ 31 32767) ?_
                   refine put_ HT_ 15 162 (dm_ 31 65535) ?_
                   refine tkt_ HT_ HW_ hHeld 16 163 (dm_ 31 131071) ?_
                   refine put_ HT_ 17 164 (dm_ 31 262143) ?_
                   refine put_ HT_ 18 165 (dm_ 31 524287) ?_
                   refine put_ HT_ 19 166 (dm_ 31 1048575) ?_
                   refine put_ HT_ 20 167 (dm_ 31 2097151) ?_
                   refine put_ HT_ 21 168 (dm_ 31 4194303) ?_
                   refine put_ HT_ 22 169 (dm_ 31 8388607) ?_
                   refine pzt_ HT_ 23 170 (dm_ 31 16777215) ?_
                   refine pzt_ HT_ 24 171 (dm_ 31 33554431) ?_
                   refine pzt_ HT_ 25 172 (dm_ 31 67108863) ?_
                   refine pzt_ HT_ 26 173 (dm_ 31 134217727) ?_
                   refine pzt_ HT_ 27 174 (dm_ 31 268435455) ?_
                   refine put_ HT_ 28 175 (dm_ 31 536870911) ?_
                   refine put_ HT_ 29 176 (dm_ 31 1073741823) ?_
                   refine put_ HT_ 30 6 (dm_ 31 2147483647) ?_
                   refine done_ (done_of HT_.out (by kernel_rfl)) ?_
                   try go_wp2
                   go_ret
                   exact ⟨by first | rfl | (simp [errW_none, errW_some] <;> rfl) | (simp [*, errW_none, errW_some] <;> rfl), bel_⟩
                  replace c377 := Bool.eq_false_iff.mpr c377
                  subst c377
                  have H1 : ((snap_Snap_Found.f kj316 ([] : List (S34)) Xa X2).bind fun t406 => ((ropewayref15_Found.f kj316 X3 X4 X5 X6 X7).bind fun t409 => ((ropewayref05_Same.f kj316 t406 t409).bind fun t412 => (some t412)))) = some r := by rw [if_neg (show ¬ (false = true) by decide)] at H; exact H
                  clear H
                  have H := H1
                  clear H1
                  replace H := Option.bind_eq_some_iff.mp H
                  obtain ⟨t406, A3800, H⟩ := H
                  replace H : ((ropewayref15_Found.f kj316 X3 X4 X5 X6 X7).bind fun t409 => ((ropewayref05_Same.f kj316 t406 t409).bind fun t412 => (some t412))) = some r := H
                  have A380 := zM A3800
                  clear A3800
                  replace H := Option.bind_eq_some_iff.mp H
                  obtain ⟨t409, A3810, H⟩ := H
                  replace H : ((ropewayref05_Same.f kj316 t406 t409).bind fun t412 => (some t412)) = some r := H
                  have A381 := zM A3810
                  clear A3810
                  replace H := Option.bind_eq_some_iff.mp H
                  obtain ⟨t412, A3820, H⟩ := H
                  replace H : (some t412) = some r := H
                  have A382 := zM A3820
                  clear A3820
                  obtain rfl := Option.some.inj H
                  try go_wp2
                  replace HO_24 := zM (Kd.R_drew HO_24.out)
                  replace HOa := zM (Kd.R_drew HOa.out)
                  replace HOb := zM (Kd.V_drew HOb.out)
                  replace BK338 := zM (zD BK338.out)
                  replace BK341 := zM (zD BK341.out)
                  replace BK342 := zM (zD BK342.out)
                  replace HB := zM (below_drew1 HB.out)
                  obtain ⟨Ao384, co384, eo384⟩ := Kd.R_slice HO_24.out
                  (first | subst eo384 | (injection eo384 with f1_ f2_ f3_; have f4_ := f1_.symm; have f5_ := f3_.symm; clear f1_ f2_ f3_; subst f4_; subst f5_))
                  have p405 : 0 ≤ (0 : Int) := (by omega)
                  have q405 : 0 < (x24_316.length : Int) := of_decide_eq_true (by first | (with_reducible assumption) | assumption)
                  obtain ⟨ad405, e405, hx405_0, hx405_1, hx405_2⟩ := at_T34 (Kd.R_reads' HO_24.out).2.2 0 p405 q405
                  cases e405
                  have qi405 : (0 < x24_316.length) = True := eq_true (by omega)
                  (try rw [show ((0 : Int)).toNat = 0 from rfl] at hx405_0)
                  (try rw [show 0 * 3 = 0 from rfl] at hx405_0)
                  (try rw [Addr.add_zero'] at hx405_0)
                  (try rw [show ((0 : Int)).toNat = 0 from rfl] at hx405_1)
                  (try rw [show 0 * 3 = 0 from rfl] at hx405_1)
                  (try rw [Addr.add_zero'] at hx405_1)
                  (try rw [show ((0 : Int)).toNat = 0 from rfl] at hx405_2)
                  (try rw [show 0 * 3 = 0 from rfl] at hx405_2)
                  (try rw [Addr.add_zero'] at hx405_2)
                  replace p405 := eq_true p405
                  replace q405 := eq_true q405
                  obtain ⟨Ao385, co385, eo385⟩ := Kd.R_slice HOa.out
                  (first | subst eo385 | (injection eo385 with f1_ f2_ f3_; have f4_ := f1_.symm; have f5_ := f3_.symm; clear f1_ f2_ f3_; subst f4_; subst f5_))
                  refine start_ (n := 31) (S := fun w' => ca5_ w' gb342 (.bool X3) (.int .i64 X4) (.int .i64 X5) (.int .i64 X6) (u343004) (w'.cell? ad405 = some (.int .i64 ((rd_T34 x24_316 0).f0)) ∧ w'.cell? ⟨ad405.block, ad405.off + 1, none⟩ = some (.int .i64 ((rd_T34 x24_316 0).f1.f0)) ∧ w'.cell? ⟨ad405.block, ad405.off + 2, none⟩ = some (.int .i64 ((rd_T34 x24_316 0).f1.f1)))) (ds := []) #[F_, F_, F_, F_, F_, F_, F_, F_, F_, F_, F_, F_, F_, F_, F_, F_, F_, F_, F_, F_, F_, F_, F_, F_, F_, F_, F_, F_, F_, F_, F_] (by kernel_rfl) rfl rfl (rc5_ BK342.out ⟨hx405_0, hx405_1, hx405_2⟩) (fun hHeld => ?_); refine with_tabW ropewaylaw15_SnapRuns_f.tab34 ropewaylaw15_SnapRuns_f.bits34 (fun HT_ HW_ => ?_)
                  generalize wc.drew = w383 at HO_24 HOa HOb BK338 BK341 BK342 HB hx405_0 hx405_1 hx405_2 hHeld ⊢
                  refine put_ HT_ 0 147 (dm_ 31 1) ?_
                  refine put_ HT_ 1 148 (dm_ 31 3) ?_
                  refine put_ HT_ 2 149 (dm_ 31 7) ?_
                  refine put_ HT_ 3 150 (dm_ 31 15) ?_
                  refine put_ HT_ 4 151 (dm_ 31 31) ?_
                  refine put_ HT_ 5 152 (dm_ 31 63) ?_
                  refine put_ HT_ 6 153 (dm_ 31 127) ?_
                  refine put_ HT_ 7 154 (dm_ 31 255) ?_
                  refine put_ HT_ 8 155 (dm_ 31 511) ?_
                  refine put_ HT_ 9 156 (dm_ 31 1023) ?_
                  refine put_ HT_ 10 157 (dm_ 31 2047) ?_
                  refine put_ HT_ 11 158 (dm_ 31 4095) ?_
                  refine put_ HT_ 12 159 (dm_ 31 8191) ?_
                  refine put_ HT_ 13 160 (dm_ 31 16383) ?_
                  refine put_ HT_ 14 161 (dm_ 31 32767) ?_
                  refine put_ HT_ 15 162 (dm_ 31 65535) ?_
                  refine tkt_ HT_ HW_ hHeld 16 163 (dm_ 31 131071) ?_
                  refine put_ HT_ 17 164 (dm_ 31 262143) ?_
                  refine put_ HT_ 18 165 (dm_ 31 524287) ?_
                  refine put_ HT_ 19 166 (dm_ 31 1048575) ?_
                  refine put_ HT_ 20 167 (dm_ 31 2097151) ?_
                  refine put_ HT_ 21 168 (dm_ 31 4194303) ?_
                  refine put_ HT_ 22 169 (dm_ 31 8388607) ?_
                  refine put_ HT_ 23 170 (dm_ 31 16777215) ?_
                  refine tkt_ HT_ HW_ hHeld 25 172 (dm_ 31 50331647) ?_
                  refine one_ (i := 24) (N := some 171) (dm_ 31 67108863) rfl rfl (one_of HT_.out (by kernel_rfl)) (by decide) (fun K hK => ?_)
                  first | refine goes_ Try.func12 (by kernel_rfl) rfl #[.pointer (some ⟨gb341, 0, none⟩)] (by rfl) rfl rfl (by (try simp only [List.map_toArray, List.map_cons, List.map_nil]); first | done | rfl | (simp only [List.length_drop, List.length_take]; rfl)) ?_ | refine goesT_ Try.func12 (by kernel_rfl) rfl #[.pointer (some ⟨gb341, 0, none⟩)] (by rfl) rfl rfl (by rfl) (by (try simp only [List.map_toArray, List.map_cons, List.map_nil]); first | done | rfl | (simp only [List.length_drop, List.length_take]; rfl)) ?_
                  refine (snap_Snap_Found.calls kj316 gb341 none 0 ([] : List (S34)) Xa Ao385 co385 X2 t406 _ ?side1 ?side2 ?side3 ?side4 ?side5 A380.out).mono ?_
                  (case side1 => exact Kd.C_nil _ _)
                  (case side2 => exact Nat.le_refl _)
                  (case side3 => exact (Kd.R_reads' HOa.out).2.2)
                  (case side4 => exact (Kd.R_reads' HOa.out).2.1)
                  (case side5 => exact blf_)
                  rintro e w386 ⟨v407, rfl, ho0, hb⟩
                  have HS5_ := (hb.cell (World.block_lt_of_cell? _ _ (hHeld.2.2.2.2.2.1))).trans (hHeld.2.2.2.2.2.1)
                  have HS6_ := (hb.cell (World.block_lt_of_cell? _ _ (hHeld.2.2.2.2.2.2.1))).trans (hHeld.2.2.2.2.2.2.1)
                  have HS7_ := (hb.cell (World.block_lt_of_cell? _ _ (hHeld.2.2.2.2.2.2.2))).trans (hHeld.2.2.2.2.2.2.2)
                  refine ⟨_, rfl, ?_⟩
                  replace HO_24 := zM (Kd.R_below (rl_ HO_24) hb)
                  replace HOa := zM (Kd.R_below (rl_ HOa) hb)
                  replace HOb := zM (Kd.V_elder' (rv_ HOb) (Kd.R_base ho0) hb)
                  have HO408 := zM (Kd.R_lower ho0 (below_size bel_))
                  replace BK338 := zM (bb_ BK338 hb)
                  replace BK341 := zM (bb_ BK341 hb)
                  replace BK342 := zM (bb_ BK342 hb)
                  replace HB := zM (zB bel_ hb)
                  (try clear hb)
                  (try clear hb2)
                  (try clear hk)
                  (try clear hi)
                  (try clear ho0)
                  obtain ⟨Ao387, co387, eo387⟩ := Kd.V_slice HOb.out
                  (first | subst eo387 | (injection eo387 with f1_ f2_ f3_; have f4_ := f1_.symm; have f5_ := f3_.symm; clear f1_ f2_ f3_; subst f4_; subst f5_))
                  refine hK.out _ _ (rc5_ BK342.out ⟨HS5_, HS6_, HS7_⟩) (fun hHeld => ?_)
                  clear hK K
                  refine norm_ (a' := ?_) ?_ ?_
                  rotate_left
                  · show Act.put _ (some 171) _ = _
                    simp only [Act.put, zS, zZ, zC, i64_w, i32_w]
                    rfl
                  refine one_ (i := 26) (N := some 173) (dm_ 31 134217727) rfl rfl (one_of HT_.out (by kernel_rfl)) (by decide) (fun K hK => ?_)
                  first | refine goes_ Try.func21 (by kernel_rfl) rfl #[.agg #[.bool X3, .int .i64 X4, .int .i64 X5, .int .i64 X6, .slice Ao387 X7.length co387]] (by rfl) rfl rfl (by (try simp only [List.map_toArray, List.map_cons, List.map_nil]); first | done | rfl | (simp only [List.length_drop, List.length_take]; rfl)) ?_ | refine goesT_ Try.func21 (by kernel_rfl) rfl #[.agg #[.bool X3, .int .i64 X4, .int .i64 X5, .int .i64 X6, .slice Ao387 X7.length co387]] (by rfl) rfl rfl (by rfl) (by (try simp only [List.map_toArray, List.map_cons, List.map_nil]); first | done | rfl | (simp only [List.length_drop, List.length_take]; rfl)) ?_
                  with_reducible refine (ropewayref15_Found.calls kj316 X3 X4 X5 X6 _ _ X7 t409 _ ?side1 ?side2 A381.out).mono ?_
                  (case side1 => repeat (first | exact (Kd.V_reads' HOb.out).2.2 | (with_reducible refine Kd.C_alloc ?_ _) | (with_reducible refine Kd.C_drewN ?_ _) | (with_reducible refine Kd.C_drew ?_)))
                  (case side2 => exact (Kd.V_reads' HOb.out).2.1)
                  rintro e w388 ⟨v410, rfl, ho0, hb⟩
                  have HS5_ := (hb.cell (World.block_lt_of_cell? _ _ (hHeld.2.2.2.2.2.1))).trans (hHeld.2.2.2.2.2.1)
                  have HS6_ := (hb.cell (World.block_lt_of_cell? _ _ (hHeld.2.2.2.2.2.2.1))).trans (hHeld.2.2.2.2.2.2.1)
                  have HS7_ := (hb.cell (World.block_lt_of_cell? _ _ (hHeld.2.2.2.2.2.2.2))).trans (hHeld.2.2.2.2.2.2.2)
                  refine ⟨_, rfl, ?_⟩
                  replace HO_24 := zM (Kd.R_below (rl_ HO_24) hb)
                  replace HOa := zM (Kd.R_below (rl_ HOa) hb)
                  replace HOb := zM (Kd.V_elder' (rv_ HOb) (Kd.R_base ho0) hb)
                  have HO411 := zM (Kd.R_lower (Kd.R_new' ho0 (Kd.R_lt (rl_ HO408))) (below_size bel_))
                  replace HO408 := zM (Kd.R_elder' (rl_ HO408) (Kd.R_base ho0) hb)
                  replace BK338 := zM (bb_ BK338 hb)
                  replace BK341 := zM (bb_ BK341 hb)
                  replace BK342 := zM (bb_ BK342 hb)
                  replace HB := zM (zB bel_ hb)
                  (try clear hb)
                  (try clear hb2)
                  (try clear hk)
                  (try clear hi)
                  (try clear ho0)
                  obtain ⟨Ao389, co389, eo389⟩ := Kd.R_slice HO408.out
                  (first | subst eo389 | (injection eo389 with f1_ f2_ f3_; have f4_ := f1_.symm; have f5_ := f3_.symm; clear f1_ f2_ f3_; subst f4_; subst f5_))
                  obtain ⟨Ao390, co390, eo390⟩ := Kd.R_slice HO411.out
                  (first | subst eo390 | (injection eo390 with f1_ f2_ f3_; have f4_ := f1_.symm; have f5_ := f3_.symm; clear f1_ f2_ f3_; subst f4_; subst f5_))
                  refine hK.out _ _ (rc5_ BK342.out ⟨HS5_, HS6_, HS7_⟩) (fun hHeld => ?_)
                  clear hK K
                  refine norm_ (a' := ?_) ?_ ?_
                  rotate_left
                  · show Act.put _ (some 173) _ = _
                    simp only [Act.put, zS, zZ, zC, i64_w, i32_w]
                    rfl
                  refine one_ (i := 27) (N := some 174) (dm_ 31 268435455) rfl rfl (one_of HT_.out (by kernel_rfl)) (by decide) (fun K hK => ?_)
                  first | refine goes_ Try.func20 (by kernel_rfl) rfl #[.slice Ao389 t406.length co389, .slice Ao390 t409.length co390] (by rfl) rfl rfl (by (try simp only [List.map_toArray, List.map_cons, List.map_nil]); first | done | rfl | (simp only [List.length_drop, List.length_take]; rfl)) ?_ | refine goesT_ Try.func20 (by kernel_rfl) rfl #[.slice Ao389 t406.length co389, .slice Ao390 t409.length co390] (by rfl) rfl rfl (by rfl) (by (try simp only [List.map_toArray, List.map_cons, List.map_nil]); first | done | rfl | (simp only [List.length_drop, List.length_take]; rfl)) ?_
                  with_reducible refine (ropewayref05_Same.calls kj316 _ _ t406 _ _ t409 t412 _ ?side1 ?side2 ?side3 ?side4 A382.out).mono ?_
                  (case side1 => exact (Kd.R_reads' HO408.out).2.2)
                  (case side2 => exact (Kd.R_reads' HO408.out).2.1)
                  (case side3 => exact (Kd.R_reads' HO411.out).2.2)
                  (case side4 => exact (Kd.R_reads' HO411.out).2.1)
                  rintro e w' ⟨rfl, ⟨nd, rfl⟩⟩
                  refine ⟨_, rfl, ?_⟩
                  refine hK.out _ _ (rc5_ BK342.out ⟨hHeld.2.2.2.2.2.1, hHeld.2.2.2.2.2.2.1, hHeld.2.2.2.2.2.2.2⟩) (fun hHeld => ?_)
                  clear hK K
                  refine norm_ (a' := ?_) ?_ ?_
                  rotate_left
                  · show Act.put _ (some 174) _ = _
                    simp only [Act.put, zS, zZ, zC, i64_w, i32_w]
                    rfl
                  refine put_ HT_ 28 175 (dm_ 31 536870911) ?_
                  refine put_ HT_ 29 176 (dm_ 31 1073741823) ?_
                  refine put_ HT_ 30 6 (dm_ 31 2147483647) ?_
                  refine done_ (done_of HT_.out (by kernel_rfl)) ?_
                  try go_wp2
                  go_ret
                  exact ⟨by first | rfl | (simp [errW_none, errW_some] <;> rfl) | (simp [*, errW_none, errW_some] <;> rfl), bel_⟩
       as_aux_lemma =>
        rw [if_pos c39] at H
        have c39b0 : decide (x65_2 < (l2.length : Int)) = true := decide_eq_true c39
        clear c39
        by_cases c40 : 0 ≤ x65_2
        rotate_left
        · rw [if_neg c40] at H
          exact absurd H (by simp)
        as_aux_lemma =>
         rw [if_pos c40] at H
         have c40b0 : decide (0 ≤ x65_2) = true := decide_eq_true c40
         clear c40
         by_cases c41 : x65_2 < (l2.length : Int)
         rotate_left
         · rw [if_neg c41] at H
           exact absurd H (by simp)
         as_aux_lemma =>
          rw [if_pos c41] at H
          have c41b0 : decide (x65_2 < (l2.length : Int)) = true := decide_eq_true c41
          clear c41
          replace H := Option.bind_eq_some_iff.mp H
          obtain ⟨t344, A420, H⟩ := H
          replace H : (if t344 = 0 then ((some (([] : List (S34)) : List (S34))).bind fun y345 => (if y345.length + (rd_L3 l2 x65_2).length < 5864062014805 then ((some (y345 ++ (rd_L3 l2 x65_2) : List (S34))).bind fun y348 => (if X1 = 0 then ((api_Cell.f y348).bind fun t351 => (if (y348.length : Int) = 0 then ((snap_Snap_update.f ([] : List (S34)) (wrap64 (X1 + 1)) t351).bind fun t354 => (if t354 = true then (ropewaylaw15_SnapRuns_f.j2 k2 (rd_L3 l2 x65_2) y348 l2 (l2.length : Int) x65_2 (wrap64 (X1 + 1)) t351 X3 X4 X5 X6 X7) else (ropewaylaw15_SnapRuns_f.j2 k2 (rd_L3 l2 x65_2) y348 l2 (l2.length : Int) x65_2 4 t351 X3 X4 X5 X6 X7))) else (ropewaylaw15_SnapRuns_f.j2 k2 (rd_L3 l2 x65_2) y348 l2 (l2.length : Int) x65_2 (wrap64 (X1 + 1)) t351 X3 X4 X5 X6 X7))) else (if X1 = 2 then ((api_Cell.f y348).bind fun t355 => (if (y348.length : Int) = 0 then ((snap_Snap_update.f ([] : List (S34)) (wrap64 (X1 + 1)) t355).bind fun t358 => (if t358 = true then (ropewaylaw15_SnapRuns_f.j2 k2 (rd_L3 l2 x65_2) y348 l2 (l2.length : Int) x65_2 (wrap64 (X1 + 1)) t355 X3 X4 X5 X6 X7) else (ropewaylaw15_SnapRuns_f.j2 k2 (rd_L3 l2 x65_2) y348 l2 (l2.length : Int) x65_2 4 t355 X3 X4 X5 X6 X7))) else (ropewaylaw15_SnapRuns_f.j2 k2 (rd_L3 l2 x65_2) y348 l2 (l2.length : Int) x65_2 (wrap64 (X1 + 1)) t355 X3 X4 X5 X6 X7))) else (if X1 = 1 then ((snap_Snap_update.f ([] : List (S34)) 2 X2).bind fun t359 => (if t359 = true then (ropewaylaw15_SnapRuns_f.j2 k2 (rd_L3 l2 x65_2) y348 l2 (l2.length : Int) x65_2 4 X2 X3 X4 X5 X6 X7) else (ropewaylaw15_SnapRuns_f.j2 k2 (rd_L3 l2 x65_2) y348 l2 (l2.length : Int) x65_2 2 X2 X3 X4 X5 X6 X7))) else (if X1 = 3 then (ropewaylaw15_SnapRuns_f.j2 k2 (rd_L3 l2 x65_2) y348 l2 (l2.length : Int) x65_2 4 X2 X3 X4 X5 X6 X7) else (ropewaylaw15_SnapRuns_f.j2 k2 (rd_L3 l2 x65_2) y348 l2 (l2.length : Int) x65_2 X1 X2 X3 X4 X5 X6 X7)))))) else (none))) else (some true)) = some r := H
          have A42 := zM A420
          clear A420
          by_cases c43 : t344 = 0
          rotate_left
          ·
           rw [if_neg c43] at H
           have c43b0 : (t344 == 0) = false := beq_eq_false_iff_ne.mpr c43
           have c43b1 : (t344 != 0) = true := bne_iff_ne.mpr c43
           have p343 : 0 ≤ (x65_2 : Int) := of_decide_eq_true (by first | (with_reducible assumption) | assumption)
           have q343 : x65_2 < (l2.length : Int) := of_decide_eq_true (by first | (with_reducible assumption) | assumption)
           obtain ⟨ad343, A343_0, c343_0, e343, hx343_0, hl343_0, hi343_0⟩ := at_L3 HR2.out x65_2 p343 q343
           cases e343
           replace hx343_0 := (HB.out.cell (World.block_lt_of_cell? w _ hx343_0)).trans hx343_0
           have HR343_0 := zM hi343_0
           have HC343_0 := zM hl343_0
           clear hi343_0 hl343_0
           replace p343 := eq_true p343
           replace q343 := eq_true q343
           have tk267 : True := trivial
           go_upto_region 13 with (first | ((with_reducible refine gate_callee (f := 14) rfl ?_); clear tk267; refine goL_ (some 70) Try.func14 #[.slice A343_0 (rd_L3 l2 x65_2).length c343_0] ?_; (with_reducible refine (ropewayref10_Check.calls k2 _ _ (rd_L3 l2 x65_2) t344 _ ?side1 ?side2 A42.out).mono ?_); (case side1 => repeat (first | exact (Kd.C_below HR343_0.out HB.out) | (with_reducible refine Kd.C_alloc ?_ _) | (with_reducible refine Kd.C_drewN ?_ _) | (with_reducible refine Kd.C_drew ?_))); (case side2 => exact HC343_0.out); rintro e w266 ⟨rfl, hb⟩; refine ⟨_, rfl, ?_⟩; replace HOa := zM (Kd.R_below (rl_ HOa) hb); replace HOb := zM (Kd.V_below (rv_ HOb) hb); replace BK338 := zM (bb_ BK338 hb); replace BK341 := zM (bb_ BK341 hb); replace BK342 := zM (bb_ BK342 hb); replace HB := zM (zB bel_ hb); (try clear hb); (try clear hi)))
           obtain rfl := Option.some.inj H
           go_wp2
           go_ret
           exact ⟨by first | rfl | (simp [errW_none, errW_some] <;> rfl) | (simp [*, errW_none, errW_some] <;> rfl), bel_⟩
          as_aux_lemma =>
           rw [if_pos c43] at H
           have c43b0 : (t344 == 0) = true := beq_iff_eq.mpr c43
           have c43b1 : (t344 != 0) = false := bne_eq_false_iff_eq.mpr c43
           clear c43
           have p343 : 0 ≤ (x65_2 : Int) := of_decide_eq_true (by first | (with_reducible assumption) | assumption)
           have q343 : x65_2 < (l2.length : Int) := of_decide_eq_true (by first | (with_reducible assumption) | assumption)
           obtain ⟨ad343, A343_0, c343_0, e343, hx343_0, hl343_0, hi343_0⟩ := at_L3 HR2.out x65_2 p343 q343
           cases e343
           replace hx343_0 := (HB.out.cell (World.block_lt_of_cell? w _ hx343_0)).trans hx343_0
           have HR343_0 := zM hi343_0
           have HC343_0 := zM hl343_0
           clear hi343_0 hl343_0
           replace p343 := eq_true p343
           replace q343 := eq_true q343
           have tk45 : True := trivial
           go_upto_region 14 with (first | ((with_reducible refine gate_callee (f := 14) rfl ?_); clear tk45; refine goL_ (some 70) Try.func14 #[.slice A343_0 (rd_L3 l2 x65_2).length c343_0] ?_; (with_reducible refine (ropewayref10_Check.calls k2 _ _ (rd_L3 l2 x65_2) t344 _ ?side1 ?side2 A42.out).mono ?_); (case side1 => repeat (first | exact (Kd.C_below HR343_0.out HB.out) | (with_reducible refine Kd.C_alloc ?_ _) | (with_reducible refine Kd.C_drewN ?_ _) | (with_reducible refine Kd.C_drew ?_))); (case side2 => exact HC343_0.out); rintro e w44 ⟨rfl, hb⟩; refine ⟨_, rfl, ?_⟩; replace HOa := zM (Kd.R_below (rl_ HOa) hb); replace HOb := zM (Kd.V_below (rv_ HOb) hb); replace BK338 := zM (bb_ BK338 hb); replace BK341 := zM (bb_ BK341 hb); replace BK342 := zM (bb_ BK342 hb); replace HB := zM (zB bel_ hb); (try clear hb); (try clear hi)))
           obtain ⟨y345, hy345⟩ : ∃ y_ : List (S34), y_ = (([] : List (S34))) := ⟨_, rfl⟩
           replace H : (if y345.length + (rd_L3 l2 x65_2).length < 5864062014805 then ((some (y345 ++ (rd_L3 l2 x65_2) : List (S34))).bind fun y348 => (if X1 = 0 then ((api_Cell.f y348).bind fun t351 => (if (y348.length : Int) = 0 then ((snap_Snap_update.f ([] : List (S34)) (wrap64 (X1 + 1)) t351).bind fun t354 => (if t354 = true then (ropewaylaw15_SnapRuns_f.j2 k2 (rd_L3 l2 x65_2) y348 l2 (l2.length : Int) x65_2 (wrap64 (X1 + 1)) t351 X3 X4 X5 X6 X7) else (ropewaylaw15_SnapRuns_f.j2 k2 (rd_L3 l2 x65_2) y348 l2 (l2.length : Int) x65_2 4 t351 X3 X4 X5 X6 X7))) else (ropewaylaw15_SnapRuns_f.j2 k2 (rd_L3 l2 x65_2) y348 l2 (l2.length : Int) x65_2 (wrap64 (X1 + 1)) t351 X3 X4 X5 X6 X7))) else (if X1 = 2 then ((api_Cell.f y348).bind fun t355 => (if (y348.length : Int) = 0 then ((snap_Snap_update.f ([] : List (S34)) (wrap64 (X1 + 1)) t355).bind fun t358 => (if t358 = true then (ropewaylaw15_SnapRuns_f.j2 k2 (rd_L3 l2 x65_2) y348 l2 (l2.length : Int) x65_2 (wrap64 (X1 + 1)) t355 X3 X4 X5 X6 X7) else (ropewaylaw15_SnapRuns_f.j2 k2 (rd_L3 l2 x65_2) y348 l2 (l2.length : Int) x65_2 4 t355 X3 X4 X5 X6 X7))) else (ropewaylaw15_SnapRuns_f.j2 k2 (rd_L3 l2 x65_2) y348 l2 (l2.length : Int) x65_2 (wrap64 (X1 + 1)) t355 X3 X4 X5 X6 X7))) else (if X1 = 1 then ((snap_Snap_update.f ([] : List (S34)) 2 X2).bind fun t359 => (if t359 = true then (ropewaylaw15_SnapRuns_f.j2 k2 (rd_L3 l2 x65_2) y348 l2 (l2.length : Int) x65_2 4 X2 X3 X4 X5 X6 X7) else (ropewaylaw15_SnapRuns_f.j2 k2 (rd_L3 l2 x65_2) y348 l2 (l2.length : Int) x65_2 2 X2 X3 X4 X5 X6 X7))) else (if X1 = 3 then (ropewaylaw15_SnapRuns_f.j2 k2 (rd_L3 l2 x65_2) y348 l2 (l2.length : Int) x65_2 4 X2 X3 X4 X5 X6 X7) else (ropewaylaw15_SnapRuns_f.j2 k2 (rd_L3 l2 x65_2) y348 l2 (l2.length : Int) x65_2 X1 X2 X3 X4 X5 X6 X7)))))) else (none)) = some r := by first | (rw [hy345]; with_reducible exact H) | (have H2_ := (Option.bind_some _ _).symm.trans H; rw [hy345]; with_reducible exact H2_) | (have H2_ := (Option.bind_some _ _).symm.trans H; with_reducible exact H2_) | with_reducible exact H | (rw [hy345]; exact H) | exact H
           have Ny345 := zM hy345
           clear hy345
           by_cases c46 : y345.length + (rd_L3 l2 x65_2).length < 5864062014805
           rotate_left
           · rw [if_neg c46] at H
             exact absurd H (by simp)
           as_aux_lemma =>
            rw [if_pos c46] at H
            have LMc46 := zM c46
            clear c46
            obtain ⟨y348, hy348⟩ : ∃ y_ : List (S34), y_ = (y345 ++ (rd_L3 l2 x65_2)) := ⟨_, rfl⟩
            replace H : (if X1 = 0 then ((api_Cell.f y348).bind fun t351 => (if (y348.length : Int) = 0 then ((snap_Snap_update.f ([] : List (S34)) (wrap64 (X1 + 1)) t351).bind fun t354 => (if t354 = true then (ropewaylaw15_SnapRuns_f.j2 k2 (rd_L3 l2 x65_2) y348 l2 (l2.length : Int) x65_2 (wrap64 (X1 + 1)) t351 X3 X4 X5 X6 X7) else (ropewaylaw15_SnapRuns_f.j2 k2 (rd_L3 l2 x65_2) y348 l2 (l2.length : Int) x65_2 4 t351 X3 X4 X5 X6 X7))) else (ropewaylaw15_SnapRuns_f.j2 k2 (rd_L3 l2 x65_2) y348 l2 (l2.length : Int) x65_2 (wrap64 (X1 + 1)) t351 X3 X4 X5 X6 X7))) else (if X1 = 2 then ((api_Cell.f y348).bind fun t355 => (if (y348.length : Int) = 0 then ((snap_Snap_update.f ([] : List (S34)) (wrap64 (X1 + 1)) t355).bind fun t358 => (if t358 = true then (ropewaylaw15_SnapRuns_f.j2 k2 (rd_L3 l2 x65_2) y348 l2 (l2.length : Int) x65_2 (wrap64 (X1 + 1)) t355 X3 X4 X5 X6 X7) else (ropewaylaw15_SnapRuns_f.j2 k2 (rd_L3 l2 x65_2) y348 l2 (l2.length : Int) x65_2 4 t355 X3 X4 X5 X6 X7))) else (ropewaylaw15_SnapRuns_f.j2 k2 (rd_L3 l2 x65_2) y348 l2 (l2.length : Int) x65_2 (wrap64 (X1 + 1)) t355 X3 X4 X5 X6 X7))) else (if X1 = 1 then ((snap_Snap_update.f ([] : List (S34)) 2 X2).bind fun t359 => (if t359 = true then (ropewaylaw15_SnapRuns_f.j2 k2 (rd_L3 l2 x65_2) y348 l2 (l2.length : Int) x65_2 4 X2 X3 X4 X5 X6 X7) else (ropewaylaw15_SnapRuns_f.j2 k2 (rd_L3 l2 x65_2) y348 l2 (l2.length : Int) x65_2 2 X2 X3 X4 X5 X6 X7))) else (if X1 = 3 then (ropewaylaw15_SnapRuns_f.j2 k2 (rd_L3 l2 x65_2) y348 l2 (l2.length : Int) x65_2 4 X2 X3 X4 X5 X6 X7) else (ropewaylaw15_SnapRuns_f.j2 k2 (rd_L3 l2 x65_2) y348 l2 (l2.length : Int) x65_2 X1 X2 X3 X4 X5 X6 X7))))) = some r := by first | (rw [hy348]; with_reducible exact H) | (have H2_ := (Option.bind_some _ _).symm.trans H; rw [hy348]; with_reducible exact H2_) | (have H2_ := (Option.bind_some _ _).symm.trans H; with_reducible exact H2_) | with_reducible exact H | (rw [hy348]; exact H) | exact H
            have Ny348 := zM hy348
            clear hy348
            have tk49 : True := trivial
            have tk51 : True := trivial
            go_upto_region 15 with (first | ((with_reducible refine gate_dst (N := 72) rfl ?_); clear tk49; (try (refine gate_guard (by rfl) ?_; dsimp only)); refine Kd.R_lit k34 _ 34 ?hg (N := 72) ?hd (xs := ([] : List (S34))) (inner := []) (ok := fun _ => True) (okp := fun _ => True) ?hr ?hp (fun _ hk => hk) trivial (Below.refl _ _) (Nat.le_refl _) (by simp) ?_; (case hd => rfl); (case hg => rfl); (case hr => first | (go_simp; done) | (go_simp; rfl)); (case hp => exact (Reps.none _ _)); intro v346 w47 ho48 hb hg_ hnew_; clear hg_ hnew_; (first | rw [← Ny345.out] at ho48 | (simp only [Int.reduceToNat] at ho48; rw [← Ny345.out] at ho48)); replace HOb := zM (Kd.V_elder' (rv_ HOb) (Kd.R_base ho48) hb); have HO347 := zM (Kd.R_lower (Kd.R_newB (Kd.R_new' ho48 (Kd.R_lt (rl_ HOa))) (g := gb338) (o := .cells #[.int .i64 X0, .int .i64 a1_1, .int .i64 a1_2] 34 (0, 0)) blk_) (below_size bel_)); replace HOa := zM (Kd.R_elder' (rl_ HOa) (Kd.R_base ho48) hb); replace BK338 := zM (bb_ BK338 hb); replace BK341 := zM (bb_ BK341 hb); replace BK342 := zM (bb_ BK342 hb); replace HB := zM (zB bel_ hb); clear hb ho48) | ((with_reducible refine gate_builtin (b := .append) (xs := #[.tmp 72, .tmp 73]) rfl ?_); clear tk51; (try (refine gate_guard (by rfl) ?_; dsimp only)); at_builtin; refine Kd.R_append_rows k34 (w0 := w) w.heap.size rfl (.tmp 72) (.tmp 73) 27 34 (.agg #[(.int .i64 0), (.int .i64 0), (.int .i64 0)]) 24 rfl Try.underlying27 info34 rfl (by decide) (by omega) v346 y345 (rd_L3 l2 x65_2) _ _ _ (fun k_ => some k_ ≠ (u342002 : Value).ownBlock ∧ k_ ≠ gb338) (fun _ => False) rfl rfl ?aO ?aR (fun _ _ h => h) (fun _ h => h.elim) ?aF ?aB ?aS ?aL ?_; (case aR => repeat (first | exact (Kd.C_below HR343_0.out HB.out) | (with_reducible refine Kd.C_alloc ?_ _) | (with_reducible refine Kd.C_drewN ?_ _) | (with_reducible refine Kd.C_drew ?_))); (case aB => exact bel_); (case aF => exact (fun k_ hk => ⟨Kd.fresh' (Kd.R_lt (rl_ HOa)) k_ hk, Kd.freshB (g := gb338) (o := .cells #[.int .i64 X0, .int .i64 a1_1, .int .i64 a1_2] 34 (0, 0)) blk_ k_ hk⟩)); (case aO => exact (by (with_reducible repeat (first | apply Kd.R_alloc | apply Kd.R_drewN | apply Kd.R_drew)); exact Kd.R_mono HO347.out (fun _ h => ⟨h.1.2, h.2⟩))); (case aS => exact (below_size bel_)); (case aL => have := LMc46.out; omega); intro v349 w50 ho hb hg hat; rw [← Ny348.out] at ho; replace HOa := zM (Kd.R_after (ok := (fun k_ => k_ ≠ gb338)) (rl_ HOa) hg hat); replace HOb := zM (Kd.V_afterv (ok := (fun k_ => some k_ ≠ (u342002 : Value).ownBlock ∧ k_ ≠ gb338 ∧ k_ ≠ gb341 ∧ k_ ≠ gb342)) (rv_ HOb) hg hat); replace BK338 := (bG_ BK338 hg (Kd.R_away HO347.out (fun _ hk => hk.2))); replace BK341 := (bG_ BK341 hg (Kd.R_ne HO347.out BK341.out (by decide))); replace BK342 := (bG_ BK342 hg (Kd.R_ne HO347.out BK342.out (by decide))); replace HB := zM (hb); have HO350 := zM (ho); clear HO347; clear ho hb hg hat))
            have HC52 := zM H
            clear H
            go_upto_region 15 with (fail)
            (try simp only [Act.put, zS, zZ, zC])
            go_cut [] (fun wc => ∃ (kq : Nat) (Xb : Int) (Xc : List (S34)) (u342002 : Value), Aside0 (ropewaylaw15_SnapRuns_f.j2 kq (rd_L3 l2 x65_2) y348 l2 (l2.length : Int) x65_2 Xb Xc X3 X4 X5 X6 X7 = some r) ∧ Aside0 (kq ≤ k2) ∧ Aside0 (Kd.R k34 34 wc w.heap.size (fun k_ => some k_ ≠ (u342002 : Value).ownBlock ∧ k_ ≠ gb338) v349 y348) ∧ Aside0 (Kd.R k34 34 wc w.heap.size (fun k_ => some k_ ≠ (v349 : Value).ownBlock ∧ k_ ≠ gb338) u342002 Xc) ∧ Aside0 (Kd.V (Kd.slice 34 k34) 27 wc w.heap.size (fun k_ => some k_ ≠ (v349 : Value).ownBlock ∧ some k_ ≠ (u342002 : Value).ownBlock ∧ k_ ≠ gb338 ∧ k_ ≠ gb341 ∧ k_ ≠ gb342) u343004 X7) ∧ Aside0 (wc.heap[gb338]? = some (.cells #[.int .i64 X0, .int .i64 a1_1, .int .i64 a1_2] 34 (0, 0))) ∧ Aside0 (wc.heap[gb341]? = some (.cells #[(.slice none 0 0), .int .i64 Xb, u342002] 61 (0, 0))) ∧ Aside0 (wc.heap[gb342]? = some (.cells #[.bool X3, .int .i64 X4, .int .i64 X5, .int .i64 X6, u343004] 38 (0, 0))) ∧ Aside0 (Below w.heap.size w wc))
            case first => as_aux_lemma =>
             have H := HC52.out
             clear HC52
             by_cases c53 : X1 = 0
             ·
              rw [if_pos c53] at H
              have c53b0 : (X1 == 0) = true := beq_iff_eq.mpr c53
              have c53b1 : (X1 != 0) = false := bne_eq_false_iff_eq.mpr c53
              clear c53
              (first | rw [c53b0] | (simp only [i64_w, i32_w]; rw [c53b0]) | skip)
              replace H := Option.bind_eq_some_iff.mp H
              obtain ⟨t351, A540, H⟩ := H
              replace H : (if (y348.length : Int) = 0 then ((snap_Snap_update.f ([] : List (S34)) (wrap64 (X1 + 1)) t351).bind fun t354 => (if t354 = true then (ropewaylaw15_SnapRuns_f.j2 k2 (rd_L3 l2 x65_2) y348 l2 (l2.length : Int) x65_2 (wrap64 (X1 + 1)) t351 X3 X4 X5 X6 X7) else (ropewaylaw15_SnapRuns_f.j2 k2 (rd_L3 l2 x65_2) y348 l2 (l2.length : Int) x65_2 4 t351 X3 X4 X5 X6 X7))) else (ropewaylaw15_SnapRuns_f.j2 k2 (rd_L3 l2 x65_2) y348 l2 (l2.length : Int) x65_2 (wrap64 (X1 + 1)) t351 X3 X4 X5 X6 X7)) = some r := H
              have A54 := zM A540
              clear A540
              by_cases c55 : (y348.length : Int) = 0
              rotate_left
              · as_aux_lemma =>
                 rw [if_neg c55] at H
                 have c55b0 : ((y348.length : Int) == 0) = false := beq_eq_false_iff_ne.mpr c55
                 have c55b1 : ((y348.length : Int) != 0) = true := bne_iff_ne.mpr c55
                 have c55b2 : ¬ (y348 = []) := fun h_ => c55 (by rw [h_]; rfl)
                 have H' := zM H
                 clear H
                 obtain ⟨Ao85, co85, eo85⟩ := Kd.R_slice HO350.out
                 subst eo85
                 have tk86 : True := trivial
                 have tk91 : True := trivial
                 have tk95 : True := trivial
                 have tk96 : True := trivial
                 go_wp2_with (first | ((with_reducible refine gate_callee (f := 15) rfl ?_); clear tk86; refine goL_ (some 77) Try.func15 #[.pointer (some ⟨gb341, 0, none⟩), .slice Ao85 y348.length co85] ?_; go_enter Try.func15, Try.ntmps15; have hnb87 := NB341_338.out; have hnc87 := NB338_341.out; have hnb88 := NB341_342.out; have hnc88 := NB342_341.out; have hcz89 := rf3_ BK341.out) | ((with_reducible refine gate_callee (f := 25) rfl ?_); clear tk91; refine goL_ (some 13) Try.func25 #[.slice Ao85 y348.length co85] ?_; (with_reducible refine (api_Cell.calls _ _ y348 t351 _ ?side1 ?side2 A54.out).mono ?_); (case side1 => exact (Kd.R_reads' HO350.out).2.2); (case side2 => exact (Kd.R_reads' HO350.out).2.1); rintro e w90 ⟨v352, rfl, ho0, hb⟩; refine ⟨_, rfl, ?_⟩; replace HOb := zM (Kd.V_elder' (rv_ HOb) (Kd.R_base ho0) hb); have HO353 := zM (Kd.R_lower (Kd.R_newB (Kd.R_new' (Kd.R_new' ho0 (Kd.R_lt (rl_ HOa))) (Kd.R_lt (rl_ HO350))) (g := gb338) (o := .cells #[.int .i64 X0, .int .i64 a1_1, .int .i64 a1_2] 34 (0, 0)) blk_) (below_size bel_)); replace HOa := zM (Kd.R_elder' (rl_ HOa) (Kd.R_base ho0) hb); replace HO350 := zM (Kd.R_elder' (rl_ HO350) (Kd.R_base ho0) hb); replace BK338 := zM (bb_ BK338 hb); replace BK341 := zM (bb_ BK341 hb); replace BK342 := zM (bb_ BK342 hb); replace HB := zM (zB bel_ hb); (try clear hb); (try clear ho0); obtain ⟨Ao92, co92, eo92⟩ := Kd.R_slice HO353.out; subst eo92; have hcz93 := rf3_ BK341.out) | ((with_reducible refine gate_store (t := 3) (p := 22) rfl ?_); clear tk95; refine store_event (t := 3) (p := 22) (v := ?vo_w94) (w1 := ((w90.setCell ⟨gb341, 2, none⟩ (.slice Ao92 t351.length co92)).setCell ⟨gb341, 1, none⟩ (.int .i64 (wrap64 (X1 + 1))))) ?hg ?ho ?hn ?hr ?_; (case ho => rfl); (case hg => rfl); (case hn => rfl); (case hr => first | (go_simp; done) | (go_simp; rfl)); intro w94 hw; replace HOa : Aside0 (Kd.R k34 34 w94 w.heap.size (fun k_ => some k_ ≠ (.slice Ao85 y348.length co85 : Value).ownBlock ∧ some k_ ≠ (.slice Ao92 t351.length co92 : Value).ownBlock ∧ k_ ≠ gb338) u342002 X2) := tR2_ hw HOa BK341 (fun _ h => ⟨h.1.1.2, h.1.2, h.1.1.1⟩); replace HOb : Aside0 (Kd.V (Kd.slice 34 k34) 27 w94 w.heap.size (fun k_ => some k_ ≠ (u342002 : Value).ownBlock ∧ some k_ ≠ (.slice Ao85 y348.length co85 : Value).ownBlock ∧ some k_ ≠ (.slice Ao92 t351.length co92 : Value).ownBlock ∧ k_ ≠ gb338 ∧ k_ ≠ gb341 ∧ k_ ≠ gb342) u343004 X7) := tV2_ hw HOb (fun _ h => h.1.1.2.2.1) (fun _ h => ⟨h.1.1.1.1, h.1.1.2, h.1.2, h.1.1.1.2⟩); replace HO350 : Aside0 (Kd.R k34 34 w94 w.heap.size (fun k_ => some k_ ≠ (u342002 : Value).ownBlock ∧ some k_ ≠ (.slice Ao92 t351.length co92 : Value).ownBlock ∧ k_ ≠ gb338) (.slice Ao85 y348.length co85) y348) := tR2_ hw HO350 BK341 (fun _ h => ⟨h.1.1.1, h.1.2, h.1.1.2⟩); replace HO353 : Aside0 (Kd.R k34 34 w94 w.heap.size (fun k_ => some k_ ≠ (u342002 : Value).ownBlock ∧ some k_ ≠ (.slice Ao85 y348.length co85 : Value).ownBlock ∧ k_ ≠ gb338) (.slice Ao92 t351.length co92) t351) := tR2_ hw HO353 BK341 (fun _ h => ⟨h.1.1.1.2, h.1.1.2, h.1.2⟩); replace BK338 := bB2_ hw BK338 NB338_341; replace BK341 : Aside0 (w94.heap[gb341]? = some (.cells #[.slice none 0 0, .int .i64 (wrap64 (X1 + 1)), .slice Ao92 t351.length co92] 61 (0, 0))) := bP2_ hw BK341 rfl; replace BK342 := bB2_ hw BK342 NB342_341; replace HB : Aside0 (Below w.heap.size w w94) := ⟨(by rw [hw]; exact bel_)⟩; clear hw) | (clear tk96; (first | go_ret | go_ret2 | go_ret3 | go_end0); with_reducible refine inl_back_ ?_))
                 go_meet
                 case rel => exact ⟨_, (wrap64 (X1 + 1)), (t351), (.slice Ao92 t351.length co92), H', ⟨by have := HJ9.out; have := HK2.out; first | omega | exact Nat.le_refl _⟩, rm_ HO350 (fun _ h => h.2), rm_ HO353 (fun _ h => h.2), vm_ HOb (fun _ h => h.2), ⟨blf_⟩, ⟨blf_⟩, ⟨blf_⟩, ⟨bel_⟩⟩
              as_aux_lemma =>
               rw [if_pos c55] at H
               have c55b0 : ((y348.length : Int) == 0) = true := beq_iff_eq.mpr c55
               have c55b1 : ((y348.length : Int) != 0) = false := bne_eq_false_iff_eq.mpr c55
               clear c55
               replace H := Option.bind_eq_some_iff.mp H
               obtain ⟨t354, A560, H⟩ := H
               replace H : (if t354 = true then (ropewaylaw15_SnapRuns_f.j2 k2 (rd_L3 l2 x65_2) y348 l2 (l2.length : Int) x65_2 (wrap64 (X1 + 1)) t351 X3 X4 X5 X6 X7) else (ropewaylaw15_SnapRuns_f.j2 k2 (rd_L3 l2 x65_2) y348 l2 (l2.length : Int) x65_2 4 t351 X3 X4 X5 X6 X7)) = some r := H
               have A56 := zM A560
               clear A560
               by_cases c57 : t354 = true
               · subst c57
                 have H1 : (ropewaylaw15_SnapRuns_f.j2 k2 (rd_L3 l2 x65_2) y348 l2 (l2.length : Int) x65_2 (wrap64 (X1 + 1)) t351 X3 X4 X5 X6 X7) = some r := by rw [if_pos rfl] at H; exact H
                 clear H
                 have H := H1
                 clear H1
                 have H' := zM H
                 clear H
                 obtain ⟨Ao58, co58, eo58⟩ := Kd.R_slice HO350.out
                 subst eo58
                 have tk59 : True := trivial
                 have tk64 : True := trivial
                 have tk68 : True := trivial
                 have tk69 : True := trivial
                 have tk70 : True := trivial
                 go_wp2_with (first | ((with_reducible refine gate_callee (f := 15) rfl ?_); clear tk59; refine goL_ (some 77) Try.func15 #[.pointer (some ⟨gb341, 0, none⟩), .slice Ao58 y348.length co58] ?_; go_enter Try.func15, Try.ntmps15; have hnb60 := NB341_338.out; have hnc60 := NB338_341.out; have hnb61 := NB341_342.out; have hnc61 := NB342_341.out; have hcz62 := rf3_ BK341.out) | ((with_reducible refine gate_callee (f := 25) rfl ?_); clear tk64; refine goL_ (some 13) Try.func25 #[.slice Ao58 y348.length co58] ?_; (with_reducible refine (api_Cell.calls _ _ y348 t351 _ ?side1 ?side2 A54.out).mono ?_); (case side1 => exact (Kd.R_reads' HO350.out).2.2); (case side2 => exact (Kd.R_reads' HO350.out).2.1); rintro e w63 ⟨v352, rfl, ho0, hb⟩; refine ⟨_, rfl, ?_⟩; replace HOb := zM (Kd.V_elder' (rv_ HOb) (Kd.R_base ho0) hb); have HO353 := zM (Kd.R_lower (Kd.R_newB (Kd.R_new' (Kd.R_new' ho0 (Kd.R_lt (rl_ HOa))) (Kd.R_lt (rl_ HO350))) (g := gb338) (o := .cells #[.int .i64 X0, .int .i64 a1_1, .int .i64 a1_2] 34 (0, 0)) blk_) (below_size bel_)); replace HOa := zM (Kd.R_elder' (rl_ HOa) (Kd.R_base ho0) hb); replace HO350 := zM (Kd.R_elder' (rl_ HO350) (Kd.R_base ho0) hb); replace BK338 := zM (bb_ BK338 hb); replace BK341 := zM (bb_ BK341 hb); replace BK342 := zM (bb_ BK342 hb); replace HB := zM (zB bel_ hb); (try clear hb); (try clear ho0); obtain ⟨Ao65, co65, eo65⟩ := Kd.R_slice HO353.out; subst eo65; have hcz66 := rf3_ BK341.out) | ((with_reducible refine gate_store (t := 3) (p := 22) rfl ?_); clear tk68; refine store_event (t := 3) (p := 22) (v := ?vo_w67) (w1 := ((w63.setCell ⟨gb341, 2, none⟩ (.slice Ao65 t351.length co65)).setCell ⟨gb341, 1, none⟩ (.int .i64 (wrap64 (X1 + 1))))) ?hg ?ho ?hn ?hr ?_; (case ho => rfl); (case hg => rfl); (case hn => rfl); (case hr => first | (go_simp; done) | (go_simp; rfl)); intro w67 hw; replace HOa : Aside0 (Kd.R k34 34 w67 w.heap.size (fun k_ => some k_ ≠ (.slice Ao58 y348.length co58 : Value).ownBlock ∧ some k_ ≠ (.slice Ao65 t351.length co65 : Value).ownBlock ∧ k_ ≠ gb338) u342002 X2) := tR2_ hw HOa BK341 (fun _ h => ⟨h.1.1.2, h.1.2, h.1.1.1⟩); replace HOb : Aside0 (Kd.V (Kd.slice 34 k34) 27 w67 w.heap.size (fun k_ => some k_ ≠ (u342002 : Value).ownBlock ∧ some k_ ≠ (.slice Ao58 y348.length co58 : Value).ownBlock ∧ some k_ ≠ (.slice Ao65 t351.length co65 : Value).ownBlock ∧ k_ ≠ gb338 ∧ k_ ≠ gb341 ∧ k_ ≠ gb342) u343004 X7) := tV2_ hw HOb (fun _ h => h.1.1.2.2.1) (fun _ h => ⟨h.1.1.1.1, h.1.1.2, h.1.2, h.1.1.1.2⟩); replace HO350 : Aside0 (Kd.R k34 34 w67 w.heap.size (fun k_ => some k_ ≠ (u342002 : Value).ownBlock ∧ some k_ ≠ (.slice Ao65 t351.length co65 : Value).ownBlock ∧ k_ ≠ gb338) (.slice Ao58 y348.length co58) y348) := tR2_ hw HO350 BK341 (fun _ h => ⟨h.1.1.1, h.1.2, h.1.1.2⟩); replace HO353 : Aside0 (Kd.R k34 34 w67 w.heap.size (fun k_ => some k_ ≠ (u342002 : Value).ownBlock ∧ some k_ ≠ (.slice Ao58 y348.length co58 : Value).ownBlock ∧ k_ ≠ gb338) (.slice Ao65 t351.length co65) t351) := tR2_ hw HO353 BK341 (fun _ h => ⟨h.1.1.1.2, h.1.1.2, h.1.2⟩); replace BK338 := bB2_ hw BK338 NB338_341; replace BK341 : Aside0 (w67.heap[gb341]? = some (.cells #[.slice none 0 0, .int .i64 (wrap64 (X1 + 1)), .slice Ao65 t351.length co65] 61 (0, 0))) := bP2_ hw BK341 rfl; replace BK342 := bB2_ hw BK342 NB342_341; replace HB : Aside0 (Below w.heap.size w w67) := ⟨(by rw [hw]; exact bel_)⟩; clear hw) | (go_at_call 26; (with_reducible refine calls_of_args (args' := #[.pointer (some ⟨gb341, 0, none⟩)]) rfl ?_); (refine (snap_Snap_update.calls gb341 none 0 ([] : List (S34)) (wrap64 (X1 + 1)) Ao65 co65 t351 true _ ?side1 ?side2 ?side3 ?side4 ?side5 A56.out).mono ?_); (case side1 => exact Kd.C_nil _ _); (case side2 => exact Nat.le_refl _); (case side3 => exact (Kd.R_reads' HO353.out).2.2); (case side4 => exact (Kd.R_reads' HO353.out).2.1); (case side5 => exact blf_); clear tk69; rintro e w' ⟨rfl, ⟨nd, rfl⟩⟩) | (clear tk70; (first | go_ret | go_ret2 | go_ret3 | go_end0); with_reducible refine inl_back_ ?_))
                 go_meet
                 case rel => exact ⟨_, (wrap64 (X1 + 1)), (t351), (.slice Ao65 t351.length co65), H', ⟨by have := HJ9.out; have := HK2.out; first | omega | exact Nat.le_refl _⟩, rm_ HO350 (fun _ h => h.2), rm_ HO353 (fun _ h => h.2), vm_ HOb (fun _ h => h.2), ⟨blf_⟩, ⟨blf_⟩, ⟨blf_⟩, ⟨bel_⟩⟩
               replace c57 := Bool.eq_false_iff.mpr c57
               subst c57
               have H1 : (ropewaylaw15_SnapRuns_f.j2 k2 (rd_L3 l2 x65_2) y348 l2 (l2.length : Int) x65_2 4 t351 X3 X4 X5 X6 X7) = some r := by rw [if_neg (show ¬ (false = true) by decide)] at H; exact H
               clear H
               have H := H1
               clear H1
               have H' := zM H
               clear H
               obtain ⟨Ao71, co71, eo71⟩ := Kd.R_slice HO350.out
               subst eo71
               have tk72 : True := trivial
               have tk77 : True := trivial
               have tk80 : True := trivial
               have tk83 : True := trivial
               have tk84 : True := trivial
               go_wp2_with (first | ((with_reducible refine gate_callee (f := 15) rfl ?_); clear tk72; refine goL_ (some 77) Try.func15 #[.pointer (some ⟨gb341, 0, none⟩), .slice Ao71 y348.length co71] ?_; go_enter Try.func15, Try.ntmps15; have hnb73 := NB341_338.out; have hnc73 := NB338_341.out; have hnb74 := NB341_342.out; have hnc74 := NB342_341.out; have hcz75 := rf3_ BK341.out) | ((with_reducible refine gate_callee (f := 25) rfl ?_); clear tk77; refine goL_ (some 13) Try.func25 #[.slice Ao71 y348.length co71] ?_; (with_reducible refine (api_Cell.calls _ _ y348 t351 _ ?side1 ?side2 A54.out).mono ?_); (case side1 => exact (Kd.R_reads' HO350.out).2.2); (case side2 => exact (Kd.R_reads' HO350.out).2.1); rintro e w76 ⟨v352, rfl, ho0, hb⟩; refine ⟨_, rfl, ?_⟩; replace HOb := zM (Kd.V_elder' (rv_ HOb) (Kd.R_base ho0) hb); have HO353 := zM (Kd.R_lower (Kd.R_newB (Kd.R_new' (Kd.R_new' ho0 (Kd.R_lt (rl_ HOa))) (Kd.R_lt (rl_ HO350))) (g := gb338) (o := .cells #[.int .i64 X0, .int .i64 a1_1, .int .i64 a1_2] 34 (0, 0)) blk_) (below_size bel_)); replace HOa := zM (Kd.R_elder' (rl_ HOa) (Kd.R_base ho0) hb); replace HO350 := zM (Kd.R_elder' (rl_ HO350) (Kd.R_base ho0) hb); replace BK338 := zM (bb_ BK338 hb); replace BK341 := zM (bb_ BK341 hb); replace BK342 := zM (bb_ BK342 hb); replace HB := zM (zB bel_ hb); (try clear hb); (try clear ho0); obtain ⟨Ao78, co78, eo78⟩ := Kd.R_slice HO353.out; subst eo78; have hcz79 := rf3_ BK341.out) | (go_at_call 26; (with_reducible refine calls_of_args (args' := #[.pointer (some ⟨gb341, 0, none⟩)]) rfl ?_); (refine (snap_Snap_update.calls gb341 none 0 ([] : List (S34)) (wrap64 (X1 + 1)) Ao78 co78 t351 false _ ?side1 ?side2 ?side3 ?side4 ?side5 A56.out).mono ?_); (case side1 => exact Kd.C_nil _ _); (case side2 => exact Nat.le_refl _); (case side3 => refine (Kd.R_reads' (e := 34) (base := w.heap.size) (ok := fun k_ => (((True ∧ some k_ ≠ (u342002 : Value).ownBlock) ∧ some k_ ≠ (.slice Ao71 y348.length co71 : Value).ownBlock) ∧ k_ ≠ gb338)) (n := t351.length) (c := co78) ?_).2.2; exact (by (with_reducible repeat (first | apply Kd.R_alloc | apply Kd.R_drewN | apply Kd.R_drew)); exact (Kd.R_mono (Kd.R_far (p := ⟨gb341, 1, none⟩) (Kd.R_far (p := ⟨gb341, 2, none⟩) (Kd.R_types HO353.out BK341.out (by decide)) (fun _ hk => hk.2) (.slice Ao78 t351.length co78)) (fun _ hk => hk.2) (.int .i64 (wrap64 (X1 + 1)))) (fun _ h_ => h_.1)))); (case side4 => exact (Kd.R_reads' HO353.out).2.1); (case side5 => exact by (with_reducible repeat (first | refine zN ?_ _ | refine zD ?_ | refine zA ?_ _)); refine blk_put (cs := #[.slice none 0 0, .int .i64 X1, .slice Ao78 t351.length co78]) ?_ 1 _ rfl; (with_reducible repeat (first | refine zN ?_ _ | refine zD ?_ | refine zA ?_ _)); refine blk_put (cs := #[.slice none 0 0, .int .i64 X1, u342002]) ?_ 2 _ rfl; (with_reducible repeat (first | refine zN ?_ _ | refine zD ?_ | refine zA ?_ _)); exact BK341.out); clear tk80; rintro e w' ⟨rfl, ⟨nd, rfl⟩⟩; have hcy81 : ((((w76.setCell ⟨gb341, 2, none⟩ (.slice Ao78 t351.length co78)).setCell ⟨gb341, 1, none⟩ (.int .i64 (wrap64 (X1 + 1)))).drewN nd).setCell ⟨gb341, 1, none⟩ (.int .i64 4)).cell? ⟨gb341, 1, none⟩ = some (.int .i64 4) := (zL (show ((((w76.setCell ⟨gb341, 2, none⟩ (.slice Ao78 t351.length co78)).setCell ⟨gb341, 1, none⟩ (.int .i64 (wrap64 (X1 + 1)))).drewN nd).setCell ⟨gb341, 1, none⟩ (.int .i64 4)).heap[gb341]? = some (.cells #[.slice none 0 0, .int .i64 4, .slice Ao78 t351.length co78] 61 (0, 0)) from by (with_reducible repeat (first | refine zN ?_ _ | refine zD ?_ | refine zA ?_ _)); refine blk_put (cs := #[.slice none 0 0, .int .i64 (wrap64 (X1 + 1)), .slice Ao78 t351.length co78]) ?_ 1 _ rfl; (with_reducible repeat (first | refine zN ?_ _ | refine zD ?_ | refine zA ?_ _)); refine blk_put (cs := #[.slice none 0 0, .int .i64 X1, .slice Ao78 t351.length co78]) ?_ 1 _ rfl; (with_reducible repeat (first | refine zN ?_ _ | refine zD ?_ | refine zA ?_ _)); refine blk_put (cs := #[.slice none 0 0, .int .i64 X1, u342002]) ?_ 2 _ rfl; (with_reducible repeat (first | refine zN ?_ _ | refine zD ?_ | refine zA ?_ _)); exact BK341.out) 1).trans rfl) | ((with_reducible refine gate_store (t := 3) (p := 33) rfl ?_); clear tk83; refine store_event (t := 3) (p := 33) (v := ?vo_w82) (w1 := ((((w76.setCell ⟨gb341, 2, none⟩ (.slice Ao78 t351.length co78)).setCell ⟨gb341, 1, none⟩ (.int .i64 (wrap64 (X1 + 1)))).drewN nd).setCell ⟨gb341, 1, none⟩ (.int .i64 4))) ?hg ?ho ?hn ?hr ?_; (case ho => rfl); (case hg => rfl); (case hn => rfl); (case hr => first | (go_simp; done) | (go_simp; rfl)); intro w82 hw; replace HOa : Aside0 (Kd.R k34 34 w82 w.heap.size (fun k_ => some k_ ≠ (.slice Ao71 y348.length co71 : Value).ownBlock ∧ some k_ ≠ (.slice Ao78 t351.length co78 : Value).ownBlock ∧ k_ ≠ gb338) u342002 X2) := tR2d1_ hw HOa BK341 (fun _ h => ⟨h.1.1.2, h.1.2, h.1.1.1⟩); replace HOb : Aside0 (Kd.V (Kd.slice 34 k34) 27 w82 w.heap.size (fun k_ => some k_ ≠ (u342002 : Value).ownBlock ∧ some k_ ≠ (.slice Ao71 y348.length co71 : Value).ownBlock ∧ some k_ ≠ (.slice Ao78 t351.length co78 : Value).ownBlock ∧ k_ ≠ gb338 ∧ k_ ≠ gb341 ∧ k_ ≠ gb342) u343004 X7) := tV2d1_ hw HOb (fun _ h => h.1.1.2.2.1) (fun _ h => ⟨h.1.1.1.1, h.1.1.2, h.1.2, h.1.1.1.2⟩); replace HO350 : Aside0 (Kd.R k34 34 w82 w.heap.size (fun k_ => some k_ ≠ (u342002 : Value).ownBlock ∧ some k_ ≠ (.slice Ao78 t351.length co78 : Value).ownBlock ∧ k_ ≠ gb338) (.slice Ao71 y348.length co71) y348) := tR2d1_ hw HO350 BK341 (fun _ h => ⟨h.1.1.1, h.1.2, h.1.1.2⟩); replace HO353 : Aside0 (Kd.R k34 34 w82 w.heap.size (fun k_ => some k_ ≠ (u342002 : Value).ownBlock ∧ some k_ ≠ (.slice Ao71 y348.length co71 : Value).ownBlock ∧ k_ ≠ gb338) (.slice Ao78 t351.length co78) t351) := tR2d1_ hw HO353 BK341 (fun _ h => ⟨h.1.1.1.2, h.1.1.2, h.1.2⟩); replace BK338 := bB2d1_ hw BK338 NB338_341; replace BK341 : Aside0 (w82.heap[gb341]? = some (.cells #[.slice none 0 0, .int .i64 4, .slice Ao78 t351.length co78] 61 (0, 0))) := bP2d1_ hw BK341 rfl; replace BK342 := bB2d1_ hw BK342 NB342_341; replace HB : Aside0 (Below w.heap.size w w82) := ⟨(by rw [hw]; exact bel_)⟩; clear hw) | (clear tk84; (first | go_ret | go_ret2 | go_ret3 | go_end0); with_reducible refine inl_back_ ?_))
               go_meet
               case rel => exact ⟨_, (4), (t351), (.slice Ao78 t351.length co78), H', ⟨by have := HJ9.out; have := HK2.out; first | omega | exact Nat.le_refl _⟩, rm_ HO350 (fun _ h => h.2), rm_ HO353 (fun _ h => h.2), vm_ HOb (fun _ h => h.2), ⟨blf_⟩, ⟨blf_⟩, ⟨blf_⟩, ⟨bel_⟩⟩
             rw [if_neg c53] at H
             have c53b0 : (X1 == 0) = false := beq_eq_false_iff_ne.mpr c53
             have c53b1 : (X1 != 0) = true := bne_iff_ne.mpr c53
             (first | rw [c53b0] | (simp only [i64_w, i32_w]; rw [c53b0]) | skip)
             by_cases c97 : X1 = 2
             rotate_left
             ·
              as_aux_lemma =>
               rw [if_neg c97] at H
               have c97b0 : (X1 == 2) = false := beq_eq_false_iff_ne.mpr c97
               have c97b1 : (X1 != 2) = true := bne_iff_ne.mpr c97
               by_cases c141 : X1 = 1
               rotate_left
               ·
                rw [if_neg c141] at H
                have c141b0 : (X1 == 1) = false := beq_eq_false_iff_ne.mpr c141
                have c141b1 : (X1 != 1) = true := bne_iff_ne.mpr c141
                by_cases c165 : X1 = 3
                rotate_left
                · rw [if_neg c165] at H
                  have c165b0 : (X1 == 3) = false := beq_eq_false_iff_ne.mpr c165
                  have c165b1 : (X1 != 3) = true := bne_iff_ne.mpr c165
                  have H' := zM H
                  clear H
                  obtain ⟨Ao174, co174, eo174⟩ := Kd.R_slice HO350.out
                  subst eo174
                  have tk175 : True := trivial
                  have tk179 : True := trivial
                  go_wp2_with (first | ((with_reducible refine gate_callee (f := 15) rfl ?_); clear tk175; refine goL_ (some 77) Try.func15 #[.pointer (some ⟨gb341, 0, none⟩), .slice Ao174 y348.length co174] ?_; go_enter Try.func15, Try.ntmps15; have hnb176 := NB341_338.out; have hnc176 := NB338_341.out; have hnb177 := NB341_342.out; have hnc177 := NB342_341.out; have hcz178 := rf3_ BK341.out) | (clear tk179; (first | go_ret | go_ret2 | go_ret3 | go_end0); with_reducible refine inl_back_ ?_))
                  go_meet
                  case rel => exact ⟨_, (X1), (X2), (u342002), H', ⟨by have := HJ9.out; have := HK2.out; first | omega | exact Nat.le_refl _⟩, HO350, rm_ HOa (fun _ h => ⟨h.2, h.1⟩), vm_ HOb (fun _ h => ⟨h.2, h.1⟩), ⟨blf_⟩, ⟨blf_⟩, ⟨blf_⟩, ⟨bel_⟩⟩
                rw [if_pos c165] at H
                have c165b0 : (X1 == 3) = true := beq_iff_eq.mpr c165
                have c165b1 : (X1 != 3) = false := bne_eq_false_iff_eq.mpr c165
                clear c165
                have H' := zM H
                clear H
                obtain ⟨Ao166, co166, eo166⟩ := Kd.R_slice HO350.out
                subst eo166
                have tk167 : True := trivial
                have tk172 : True := trivial
                have tk173 : True := trivial
                go_wp2_with (first | ((with_reducible refine gate_callee (f := 15) rfl ?_); clear tk167; refine goL_ (some 77) Try.func15 #[.pointer (some ⟨gb341, 0, none⟩), .slice Ao166 y348.length co166] ?_; go_enter Try.func15, Try.ntmps15; have hnb168 := NB341_338.out; have hnc168 := NB338_341.out; have hnb169 := NB341_342.out; have hnc169 := NB342_341.out; have hcz170 := rf3_ BK341.out) | ((with_reducible refine gate_store (t := 3) (p := 48) rfl ?_); clear tk172; refine store_event (t := 3) (p := 48) (v := ?vo_w171) (w1 := (w50.setCell ⟨gb341, 1, none⟩ (.int .i64 4))) ?hg ?ho ?hn ?hr ?_; (case ho => rfl); (case hg => rfl); (case hn => rfl); (case hr => first | (go_simp; done) | (go_simp; rfl)); intro w171 hw; replace HOa : Aside0 (Kd.R k34 34 w171 w.heap.size (fun k_ => some k_ ≠ (.slice Ao166 y348.length co166 : Value).ownBlock ∧ k_ ≠ gb338) u342002 X2) := tR1_ hw HOa BK341 (fun _ h => ⟨h.1.2, h.1.1⟩); replace HOb : Aside0 (Kd.V (Kd.slice 34 k34) 27 w171 w.heap.size (fun k_ => some k_ ≠ (u342002 : Value).ownBlock ∧ some k_ ≠ (.slice Ao166 y348.length co166 : Value).ownBlock ∧ k_ ≠ gb338 ∧ k_ ≠ gb341 ∧ k_ ≠ gb342) u343004 X7) := tV1_ hw HOb (fun _ h => h.1.2.2.1) (fun _ h => ⟨h.1.1.1, h.1.2, h.1.1.2⟩); replace HO350 : Aside0 (Kd.R k34 34 w171 w.heap.size (fun k_ => some k_ ≠ (u342002 : Value).ownBlock ∧ k_ ≠ gb338) (.slice Ao166 y348.length co166) y348) := tR1_ hw HO350 BK341 (fun _ h => h.1); replace BK338 := bB1_ hw BK338 NB338_341; replace BK341 : Aside0 (w171.heap[gb341]? = some (.cells #[.slice none 0 0, .int .i64 4, u342002] 61 (0, 0))) := bP1_ hw BK341 rfl; replace BK342 := bB1_ hw BK342 NB342_341; replace HB : Aside0 (Below w.heap.size w w171) := ⟨(by rw [hw]; exact bel_)⟩; clear hw) | (clear tk173; (first | go_ret | go_ret2 | go_ret3 | go_end0); with_reducible refine inl_back_ ?_))
                go_meet
                case rel => exact ⟨_, (4), (X2), (u342002), H', ⟨by have := HJ9.out; have := HK2.out; first | omega | exact Nat.le_refl _⟩, HO350, HOa, vm_ HOb (fun _ h => ⟨h.2.1, h.1, h.2.2⟩), ⟨blf_⟩, ⟨blf_⟩, ⟨blf_⟩, ⟨bel_⟩⟩
               as_aux_lemma =>
                rw [if_pos c141] at H
                have c141b0 : (X1 == 1) = true := beq_iff_eq.mpr c141
                have c141b1 : (X1 != 1) = false := bne_eq_false_iff_eq.mpr c141
                clear c141
                replace H := Option.bind_eq_some_iff.mp H
                obtain ⟨t359, A1420, H⟩ := H
                replace H : (if t359 = true then (ropewaylaw15_SnapRuns_f.j2 k2 (rd_L3 l2 x65_2) y348 l2 (l2.length : Int) x65_2 4 X2 X3 X4 X5 X6 X7) else (ropewaylaw15_SnapRuns_f.j2 k2 (rd_L3 l2 x65_2) y348 l2 (l2.length : Int) x65_2 2 X2 X3 X4 X5 X6 X7)) = some r := H
                have A142 := zM A1420
                clear A1420
                by_cases c143 : t359 = true
                rotate_left
                · replace c143 := Bool.eq_false_iff.mpr c143
                  subst c143
                  have H1 : (ropewaylaw15_SnapRuns_f.j2 k2 (rd_L3 l2 x65_2) y348 l2 (l2.length : Int) x65_2 2 X2 X3 X4 X5 X6 X7) = some r := by rw [if_neg (show ¬ (false = true) by decide)] at H; exact H
                  clear H
                  have H := H1
                  clear H1
                  have H' := zM H
                  clear H
                  obtain ⟨Ao155, co155, eo155⟩ := Kd.R_slice HO350.out
                  subst eo155
                  have tk156 : True := trivial
                  have tk161 : True := trivial
                  have tk163 : True := trivial
                  have tk164 : True := trivial
                  go_wp2_with (first | ((with_reducible refine gate_callee (f := 15) rfl ?_); clear tk156; refine goL_ (some 77) Try.func15 #[.pointer (some ⟨gb341, 0, none⟩), .slice Ao155 y348.length co155] ?_; go_enter Try.func15, Try.ntmps15; have hnb157 := NB341_338.out; have hnc157 := NB338_341.out; have hnb158 := NB341_342.out; have hnc158 := NB342_341.out; have hcz159 := rf3_ BK341.out) | ((with_reducible refine gate_store (t := 3) (p := 38) rfl ?_); clear tk161; refine store_event (t := 3) (p := 38) (v := ?vo_w160) (w1 := (w50.setCell ⟨gb341, 1, none⟩ (.int .i64 2))) ?hg ?ho ?hn ?hr ?_; (case ho => rfl); (case hg => rfl); (case hn => rfl); (case hr => first | (go_simp; done) | (go_simp; rfl)); intro w160 hw; replace HOa : Aside0 (Kd.R k34 34 w160 w.heap.size (fun k_ => some k_ ≠ (.slice Ao155 y348.length co155 : Value).ownBlock ∧ k_ ≠ gb338) u342002 X2) := tR1_ hw HOa BK341 (fun _ h => ⟨h.1.2, h.1.1⟩); replace HOb : Aside0 (Kd.V (Kd.slice 34 k34) 27 w160 w.heap.size (fun k_ => some k_ ≠ (u342002 : Value).ownBlock ∧ some k_ ≠ (.slice Ao155 y348.length co155 : Value).ownBlock ∧ k_ ≠ gb338 ∧ k_ ≠ gb341 ∧ k_ ≠ gb342) u343004 X7) := tV1_ hw HOb (fun _ h => h.1.2.2.1) (fun _ h => ⟨h.1.1.1, h.1.2, h.1.1.2⟩); replace HO350 : Aside0 (Kd.R k34 34 w160 w.heap.size (fun k_ => some k_ ≠ (u342002 : Value).ownBlock ∧ k_ ≠ gb338) (.slice Ao155 y348.length co155) y348) := tR1_ hw HO350 BK341 (fun _ h => h.1); replace BK338 := bB1_ hw BK338 NB338_341; replace BK341 : Aside0 (w160.heap[gb341]? = some (.cells #[.slice none 0 0, .int .i64 2, u342002] 61 (0, 0))) := bP1_ hw BK341 rfl; replace BK342 := bB1_ hw BK342 NB342_341; replace HB : Aside0 (Below w.heap.size w w160) := ⟨(by rw [hw]; exact bel_)⟩; clear hw; obtain ⟨Ao162, co162, eo162⟩ := Kd.R_slice HOa.out; subst eo162) | ((with_reducible refine gate_callee (f := 26) rfl ?_); clear tk163; refine goL_ (some 40) Try.func26 #[.pointer (some ⟨gb341, 0, none⟩)] ?_; (with_reducible refine calls_of_args (args' := #[.pointer (some ⟨gb341, 0, none⟩)]) rfl ?_); (refine (snap_Snap_update.calls gb341 none 0 ([] : List (S34)) 2 Ao162 co162 X2 false _ ?side1 ?side2 ?side3 ?side4 ?side5 A142.out).mono ?_); (case side1 => exact Kd.C_nil _ _); (case side2 => exact Nat.le_refl _); (case side3 => exact (Kd.R_reads' HOa.out).2.2); (case side4 => exact (Kd.R_reads' HOa.out).2.1); (case side5 => exact blf_); rintro e w' ⟨rfl, ⟨nd, rfl⟩⟩; refine ⟨_, rfl, ?_⟩) | (clear tk164; (first | go_ret | go_ret2 | go_ret3 | go_end0); with_reducible refine inl_back_ ?_))
                  go_meet
                  case rel => exact ⟨_, (2), (X2), (.slice Ao162 X2.length co162), H', ⟨by have := HJ9.out; have := HK2.out; first | omega | exact Nat.le_refl _⟩, HO350, HOa, vm_ HOb (fun _ h => ⟨h.2.1, h.1, h.2.2⟩), ⟨blf_⟩, ⟨blf_⟩, ⟨blf_⟩, ⟨bel_⟩⟩
                as_aux_lemma =>
                 subst c143
                 have H1 : (ropewaylaw15_SnapRuns_f.j2 k2 (rd_L3 l2 x65_2) y348 l2 (l2.length : Int) x65_2 4 X2 X3 X4 X5 X6 X7) = some r := by rw [if_pos rfl] at H; exact H
                 clear H
                 have H := H1
                 clear H1
                 have H' := zM H
                 clear H
                 obtain ⟨Ao144, co144, eo144⟩ := Kd.R_slice HO350.out
                 subst eo144
                 have tk145 : True := trivial
                 have tk150 : True := trivial
                 have tk153 : True := trivial
                 have tk154 : True := trivial
                 go_wp2_with (first | ((with_reducible refine gate_callee (f := 15) rfl ?_); clear tk145; refine goL_ (some 77) Try.func15 #[.pointer (some ⟨gb341, 0, none⟩), .slice Ao144 y348.length co144] ?_; go_enter Try.func15, Try.ntmps15; have hnb146 := NB341_338.out; have hnc146 := NB338_341.out; have hnb147 := NB341_342.out; have hnc147 := NB342_341.out; have hcz148 := rf3_ BK341.out; obtain ⟨Ao149, co149, eo149⟩ := Kd.R_slice HOa.out; subst eo149) | ((with_reducible refine gate_callee (f := 26) rfl ?_); clear tk150; refine goL_ (some 40) Try.func26 #[.pointer (some ⟨gb341, 0, none⟩)] ?_; (with_reducible refine calls_of_args (args' := #[.pointer (some ⟨gb341, 0, none⟩)]) rfl ?_); (refine (snap_Snap_update.calls gb341 none 0 ([] : List (S34)) 2 Ao149 co149 X2 true _ ?side1 ?side2 ?side3 ?side4 ?side5 A142.out).mono ?_); (case side1 => exact Kd.C_nil _ _); (case side2 => exact Nat.le_refl _); (case side3 => refine (Kd.R_reads' (e := 34) (base := w.heap.size) (ok := fun k_ => (k_ ≠ gb338 ∧ some k_ ≠ (.slice Ao144 y348.length co144 : Value).ownBlock)) (n := X2.length) (c := co149) ?_).2.2; exact (by (with_reducible repeat (first | apply Kd.R_alloc | apply Kd.R_drewN | apply Kd.R_drew)); exact (Kd.R_mono (Kd.R_far (p := ⟨gb341, 1, none⟩) (Kd.R_types HOa.out BK341.out (by decide)) (fun _ hk => hk.2) (.int .i64 2)) (fun _ h_ => h_.1)))); (case side4 => exact (Kd.R_reads' HOa.out).2.1); (case side5 => exact by (with_reducible repeat (first | refine zN ?_ _ | refine zD ?_ | refine zA ?_ _)); refine blk_put (cs := #[.slice none 0 0, .int .i64 X1, .slice Ao149 X2.length co149]) ?_ 1 _ rfl; (with_reducible repeat (first | refine zN ?_ _ | refine zD ?_ | refine zA ?_ _)); exact BK341.out); rintro e w' ⟨rfl, ⟨nd, rfl⟩⟩; refine ⟨_, rfl, ?_⟩; have hcy151 : (((w50.setCell ⟨gb341, 1, none⟩ (.int .i64 2)).drewN nd).setCell ⟨gb341, 1, none⟩ (.int .i64 4)).cell? ⟨gb341, 1, none⟩ = some (.int .i64 4) := (zL (show (((w50.setCell ⟨gb341, 1, none⟩ (.int .i64 2)).drewN nd).setCell ⟨gb341, 1, none⟩ (.int .i64 4)).heap[gb341]? = some (.cells #[.slice none 0 0, .int .i64 4, .slice Ao149 X2.length co149] 61 (0, 0)) from by (with_reducible repeat (first | refine zN ?_ _ | refine zD ?_ | refine zA ?_ _)); refine blk_put (cs := #[.slice none 0 0, .int .i64 2, .slice Ao149 X2.length co149]) ?_ 1 _ rfl; (with_reducible repeat (first | refine zN ?_ _ | refine zD ?_ | refine zA ?_ _)); refine blk_put (cs := #[.slice none 0 0, .int .i64 X1, .slice Ao149 X2.length co149]) ?_ 1 _ rfl; (with_reducible repeat (first | refine zN ?_ _ | refine zD ?_ | refine zA ?_ _)); exact BK341.out) 1).trans rfl) | ((with_reducible refine gate_store (t := 3) (p := 43) rfl ?_); clear tk153; refine store_event (t := 3) (p := 43) (v := ?vo_w152) (w1 := (((w50.setCell ⟨gb341, 1, none⟩ (.int .i64 2)).drewN nd).setCell ⟨gb341, 1, none⟩ (.int .i64 4))) ?hg ?ho ?hn ?hr ?_; (case ho => rfl); (case hg => rfl); (case hn => rfl); (case hr => first | (go_simp; done) | (go_simp; rfl)); intro w152 hw; replace HOa : Aside0 (Kd.R k34 34 w152 w.heap.size (fun k_ => some k_ ≠ (.slice Ao144 y348.length co144 : Value).ownBlock ∧ k_ ≠ gb338) (.slice Ao149 X2.length co149) X2) := tR1d1_ hw HOa BK341 (fun _ h => ⟨h.1.2, h.1.1⟩); replace HOb : Aside0 (Kd.V (Kd.slice 34 k34) 27 w152 w.heap.size (fun k_ => some k_ ≠ (.slice Ao149 X2.length co149 : Value).ownBlock ∧ some k_ ≠ (.slice Ao144 y348.length co144 : Value).ownBlock ∧ k_ ≠ gb338 ∧ k_ ≠ gb341 ∧ k_ ≠ gb342) u343004 X7) := tV1d1_ hw HOb (fun _ h => h.1.2.2.1) (fun _ h => ⟨h.1.1.1, h.1.2, h.1.1.2⟩); replace HO350 : Aside0 (Kd.R k34 34 w152 w.heap.size (fun k_ => some k_ ≠ (.slice Ao149 X2.length co149 : Value).ownBlock ∧ k_ ≠ gb338) (.slice Ao144 y348.length co144) y348) := tR1d1_ hw HO350 BK341 (fun _ h => h.1); replace BK338 := bB1d1_ hw BK338 NB338_341; replace BK341 : Aside0 (w152.heap[gb341]? = some (.cells #[.slice none 0 0, .int .i64 4, .slice Ao149 X2.length co149] 61 (0, 0))) := bP1d1_ hw BK341 rfl; replace BK342 := bB1d1_ hw BK342 NB342_341; replace HB : Aside0 (Below w.heap.size w w152) := ⟨(by rw [hw]; exact bel_)⟩; clear hw) | (clear tk154; (first | go_ret | go_ret2 | go_ret3 | go_end0); with_reducible refine inl_back_ ?_))
                 go_meet
                 case rel => exact ⟨_, (4), (X2), (.slice Ao149 X2.length co149), H', ⟨by have := HJ9.out; have := HK2.out; first | omega | exact Nat.le_refl _⟩, HO350, HOa, vm_ HOb (fun _ h => ⟨h.2.1, h.1, h.2.2⟩), ⟨blf_⟩, ⟨blf_⟩, ⟨blf_⟩, ⟨bel_⟩⟩
             as_aux_lemma =>
              rw [if_pos c97] at H
              have c97b0 : (X1 == 2) = true := beq_iff_eq.mpr c97
              have c97b1 : (X1 != 2) = false := bne_eq_false_iff_eq.mpr c97
              clear c97
              replace H := Option.bind_eq_some_iff.mp H
              obtain ⟨t355, A980, H⟩ := H
              replace H : (if (y348.length : Int) = 0 then ((snap_Snap_update.f ([] : List (S34)) (wrap64 (X1 + 1)) t355).bind fun t358 => (if t358 = true then (ropewaylaw15_SnapRuns_f.j2 k2 (rd_L3 l2 x65_2) y348 l2 (l2.length : Int) x65_2 (wrap64 (X1 + 1)) t355 X3 X4 X5 X6 X7) else (ropewaylaw15_SnapRuns_f.j2 k2 (rd_L3 l2 x65_2) y348 l2 (l2.length : Int) x65_2 4 t355 X3 X4 X5 X6 X7))) else (ropewaylaw15_SnapRuns_f.j2 k2 (rd_L3 l2 x65_2) y348 l2 (l2.length : Int) x65_2 (wrap64 (X1 + 1)) t355 X3 X4 X5 X6 X7)) = some r := H
              have A98 := zM A980
              clear A980
              by_cases c99 : (y348.length : Int) = 0
              rotate_left
              · as_aux_lemma =>
                 rw [if_neg c99] at H
                 have c99b0 : ((y348.length : Int) == 0) = false := beq_eq_false_iff_ne.mpr c99
                 have c99b1 : ((y348.length : Int) != 0) = true := bne_iff_ne.mpr c99
                 have c99b2 : ¬ (y348 = []) := fun h_ => c99 (by rw [h_]; rfl)
                 have H' := zM H
                 clear H
                 obtain ⟨Ao129, co129, eo129⟩ := Kd.R_slice HO350.out
                 subst eo129
                 have tk130 : True := trivial
                 have tk135 : True := trivial
                 have tk139 : True := trivial
                 have tk140 : True := trivial
                 go_wp2_with (first | ((with_reducible refine gate_callee (f := 15) rfl ?_); clear tk130; refine goL_ (some 77) Try.func15 #[.pointer (some ⟨gb341, 0, none⟩), .slice Ao129 y348.length co129] ?_; go_enter Try.func15, Try.ntmps15; have hnb131 := NB341_338.out; have hnc131 := NB338_341.out; have hnb132 := NB341_342.out; have hnc132 := NB342_341.out; have hcz133 := rf3_ BK341.out) | ((with_reducible refine gate_callee (f := 25) rfl ?_); clear tk135; refine goL_ (some 13) Try.func25 #[.slice Ao129 y348.length co129] ?_; (with_reducible refine (api_Cell.calls _ _ y348 t355 _ ?side1 ?side2 A98.out).mono ?_); (case side1 => exact (Kd.R_reads' HO350.out).2.2); (case side2 => exact (Kd.R_reads' HO350.out).2.1); rintro e w134 ⟨v356, rfl, ho0, hb⟩; refine ⟨_, rfl, ?_⟩; replace HOb := zM (Kd.V_elder' (rv_ HOb) (Kd.R_base ho0) hb); have HO357 := zM (Kd.R_lower (Kd.R_newB (Kd.R_new' (Kd.R_new' ho0 (Kd.R_lt (rl_ HOa))) (Kd.R_lt (rl_ HO350))) (g := gb338) (o := .cells #[.int .i64 X0, .int .i64 a1_1, .int .i64 a1_2] 34 (0, 0)) blk_) (below_size bel_)); replace HOa := zM (Kd.R_elder' (rl_ HOa) (Kd.R_base ho0) hb); replace HO350 := zM (Kd.R_elder' (rl_ HO350) (Kd.R_base ho0) hb); replace BK338 := zM (bb_ BK338 hb); replace BK341 := zM (bb_ BK341 hb); replace BK342 := zM (bb_ BK342 hb); replace HB := zM (zB bel_ hb); (try clear hb); (try clear ho0); obtain ⟨Ao136, co136, eo136⟩ := Kd.R_slice HO357.out; subst eo136; have hcz137 := rf3_ BK341.out) | ((with_reducible refine gate_store (t := 3) (p := 22) rfl ?_); clear tk139; refine store_event (t := 3) (p := 22) (v := ?vo_w138) (w1 := ((w134.setCell ⟨gb341, 2, none⟩ (.slice Ao136 t355.length co136)).setCell ⟨gb341, 1, none⟩ (.int .i64 (wrap64 (X1 + 1))))) ?hg ?ho ?hn ?hr ?_; (case ho => rfl); (case hg => rfl); (case hn => rfl); (case hr => first | (go_simp; done) | (go_simp; rfl)); intro w138 hw; replace HOa : Aside0 (Kd.R k34 34 w138 w.heap.size (fun k_ => some k_ ≠ (.slice Ao129 y348.length co129 : Value).ownBlock ∧ some k_ ≠ (.slice Ao136 t355.length co136 : Value).ownBlock ∧ k_ ≠ gb338) u342002 X2) := tR2_ hw HOa BK341 (fun _ h => ⟨h.1.1.2, h.1.2, h.1.1.1⟩); replace HOb : Aside0 (Kd.V (Kd.slice 34 k34) 27 w138 w.heap.size (fun k_ => some k_ ≠ (u342002 : Value).ownBlock ∧ some k_ ≠ (.slice Ao129 y348.length co129 : Value).ownBlock ∧ some k_ ≠ (.slice Ao136 t355.length co136 : Value).ownBlock ∧ k_ ≠ gb338 ∧ k_ ≠ gb341 ∧ k_ ≠ gb342) u343004 X7) := tV2_ hw HOb (fun _ h => h.1.1.2.2.1) (fun _ h => ⟨h.1.1.1.1, h.1.1.2, h.1.2, h.1.1.1.2⟩); replace HO350 : Aside0 (Kd.R k34 34 w138 w.heap.size (fun k_ => some k_ ≠ (u342002 : Value).ownBlock ∧ some k_ ≠ (.slice Ao136 t355.length co136 : Value).ownBlock ∧ k_ ≠ gb338) (.slice Ao129 y348.length co129) y348) := tR2_ hw HO350 BK341 (fun _ h => ⟨h.1.1.1, h.1.2, h.1.1.2⟩); replace HO357 : Aside0 (Kd.R k34 34 w138 w.heap.size (fun k_ => some k_ ≠ (u342002 : Value).ownBlock ∧ some k_ ≠ (.slice Ao129 y348.length co129 : Value).ownBlock ∧ k_ ≠ gb338) (.slice Ao136 t355.length co136) t355) := tR2_ hw HO357 BK341 (fun _ h => ⟨h.1.1.1.2, h.1.1.2, h.1.2⟩); replace BK338 := bB2_ hw BK338 NB338_341; replace BK341 : Aside0 (w138.heap[gb341]? = some (.cells #[.slice none 0 0, .int .i64 (wrap64 (X1 + 1)), .slice Ao136 t355.length co136] 61 (0, 0))) := bP2_ hw BK341 rfl; replace BK342 := bB2_ hw BK342 NB342_341; replace HB : Aside0 (Below w.heap.size w w138) := ⟨(by rw [hw]; exact bel_)⟩; clear hw) | (clear tk140; (first | go_ret | go_ret2 | go_ret3 | go_end0); with_reducible refine inl_back_ ?_))
                 go_meet
                 case rel => exact ⟨_, (wrap64 (X1 + 1)), (t355), (.slice Ao136 t355.length co136), H', ⟨by have := HJ9.out; have := HK2.out; first | omega | exact Nat.le_refl _⟩, rm_ HO350 (fun _ h => h.2), rm_ HO357 (fun _ h => h.2), vm_ HOb (fun _ h => h.2), ⟨blf_⟩, ⟨blf_⟩, ⟨blf_⟩, ⟨bel_⟩⟩
              as_aux_lemma =>
               rw [if_pos c99] at H
               have c99b0 : ((y348.length : Int) == 0) = true := beq_iff_eq.mpr c99
               have c99b1 : ((y348.length : Int) != 0) = false := bne_eq_false_iff_eq.mpr c99
               clear c99
               replace H := Option.bind_eq_some_iff.mp H
               obtain ⟨t358, A1000, H⟩ := H
               replace H : (if t358 = true then (ropewaylaw15_SnapRuns_f.j2 k2 (rd_L3 l2 x65_2) y348 l2 (l2.length : Int) x65_2 (wrap64 (X1 + 1)) t355 X3 X4 X5 X6 X7) else (ropewaylaw15_SnapRuns_f.j2 k2 (rd_L3 l2 x65_2) y348 l2 (l2.length : Int) x65_2 4 t355 X3 X4 X5 X6 X7)) = some r := H
               have A100 := zM A1000
               clear A1000
               by_cases c101 : t358 = true
               · subst c101
                 have H1 : (ropewaylaw15_SnapRuns_f.j2 k2 (rd_L3 l2 x65_2) y348 l2 (l2.length : Int) x65_2 (wrap64 (X1 + 1)) t355 X3 X4 X5 X6 X7) = some r := by rw [if_pos rfl] at H; exact H
                 clear H
                 have H := H1
                 clear H1
                 have H' := zM H
                 clear H
                 obtain ⟨Ao102, co102, eo102⟩ := Kd.R_slice HO350.out
                 subst eo102
                 have tk103 : True := trivial
                 have tk108 : True := trivial
                 have tk112 : True := trivial
                 have tk113 : True := trivial
                 have tk114 : True := trivial
                 go_wp2_with (first | ((with_reducible refine gate_callee (f := 15) rfl ?_); clear tk103; refine goL_ (some 77) Try.func15 #[.pointer (some ⟨gb341, 0, none⟩), .slice Ao102 y348.length co102] ?_; go_enter Try.func15, Try.ntmps15; have hnb104 := NB341_338.out; have hnc104 := NB338_341.out; have hnb105 := NB341_342.out; have hnc105 := NB342_341.out; have hcz106 := rf3_ BK341.out) | ((with_reducible refine gate_callee (f := 25) rfl ?_); clear tk108; refine goL_ (some 13) Try.func25 #[.slice Ao102 y348.length co102] ?_; (with_reducible refine (api_Cell.calls _ _ y348 t355 _ ?side1 ?side2 A98.out).mono ?_); (case side1 => exact (Kd.R_reads' HO350.out).2.2); (case side2 => exact (Kd.R_reads' HO350.out).2.1); rintro e w107 ⟨v356, rfl, ho0, hb⟩; refine ⟨_, rfl, ?_⟩; replace HOb := zM (Kd.V_elder' (rv_ HOb) (Kd.R_base ho0) hb); have HO357 := zM (Kd.R_lower (Kd.R_newB (Kd.R_new' (Kd.R_new' ho0 (Kd.R_lt (rl_ HOa))) (Kd.R_lt (rl_ HO350))) (g := gb338) (o := .cells #[.int .i64 X0, .int .i64 a1_1, .int .i64 a1_2] 34 (0, 0)) blk_) (below_size bel_)); replace HOa := zM (Kd.R_elder' (rl_ HOa) (Kd.R_base ho0) hb); replace HO350 := zM (Kd.R_elder' (rl_ HO350) (Kd.R_base ho0) hb); replace BK338 := zM (bb_ BK338 hb); replace BK341 := zM (bb_ BK341 hb); replace BK342 := zM (bb_ BK342 hb); replace HB := zM (zB bel_ hb); (try clear hb); (try clear ho0); obtain ⟨Ao109, co109, eo109⟩ := Kd.R_slice HO357.out; subst eo109; have hcz110 := rf3_ BK341.out) | ((with_reducible refine gate_store (t := 3) (p := 22) rfl ?_); clear tk112; refine store_event (t := 3) (p := 22) (v := ?vo_w111) (w1 := ((w107.setCell ⟨gb341, 2, none⟩ (.slice Ao109 t355.length co109)).setCell ⟨gb341, 1, none⟩ (.int .i64 (wrap64 (X1 + 1))))) ?hg ?ho ?hn ?hr ?_; (case ho => rfl); (case hg => rfl); (case hn => rfl); (case hr => first | (go_simp; done) | (go_simp; rfl)); intro w111 hw; replace HOa : Aside0 (Kd.R k34 34 w111 w.heap.size (fun k_ => some k_ ≠ (.slice Ao102 y348.length co102 : Value).ownBlock ∧ some k_ ≠ (.slice Ao109 t355.length co109 : Value).ownBlock ∧ k_ ≠ gb338) u342002 X2) := tR2_ hw HOa BK341 (fun _ h => ⟨h.1.1.2, h.1.2, h.1.1.1⟩); replace HOb : Aside0 (Kd.V (Kd.slice 34 k34) 27 w111 w.heap.size (fun k_ => some k_ ≠ (u342002 : Value).ownBlock ∧ some k_ ≠ (.slice Ao102 y348.length co102 : Value).ownBlock ∧ some k_ ≠ (.slice Ao109 t355.length co109 : Value).ownBlock ∧ k_ ≠ gb338 ∧ k_ ≠ gb341 ∧ k_ ≠ gb342) u343004 X7) := tV2_ hw HOb (fun _ h => h.1.1.2.2.1) (fun _ h => ⟨h.1.1.1.1, h.1.1.2, h.1.2, h.1.1.1.2⟩); replace HO350 : Aside0 (Kd.R k34 34 w111 w.heap.size (fun k_ => some k_ ≠ (u342002 : Value).ownBlock ∧ some k_ ≠ (.slice Ao109 t355.length co109 : Value).ownBlock ∧ k_ ≠ gb338) (.slice Ao102 y348.length co102) y348) := tR2_ hw HO350 BK341 (fun _ h => ⟨h.1.1.1, h.1.2, h.1.1.2⟩); replace HO357 : Aside0 (Kd.R k34 34 w111 w.heap.size (fun k_ => some k_ ≠ (u342002 : Value).ownBlock ∧ some k_ ≠ (.slice Ao102 y348.length co102 : Value).ownBlock ∧ k_ ≠ gb338) (.slice Ao109 t355.length co109) t355) := tR2_ hw HO357 BK341 (fun _ h => ⟨h.1.1.1.2, h.1.1.2, h.1.2⟩); replace BK338 := bB2_ hw BK338 NB338_341; replace BK341 : Aside0 (w111.heap[gb341]? = some (.cells #[.slice none 0 0, .int .i64 (wrap64 (X1 + 1)), .slice Ao109 t355.length co109] 61 (0, 0))) := bP2_ hw BK341 rfl; replace BK342 := bB2_ hw BK342 NB342_341; replace HB : Aside0 (Below w.heap.size w w111) := ⟨(by rw [hw]; exact bel_)⟩; clear hw) | (go_at_call 26; (with_reducible refine calls_of_args (args' := #[.pointer (some ⟨gb341, 0, none⟩)]) rfl ?_); (refine (snap_Snap_update.calls gb341 none 0 ([] : List (S34)) (wrap64 (X1 + 1)) Ao109 co109 t355 true _ ?side1 ?side2 ?side3 ?side4 ?side5 A100.out).mono ?_); (case side1 => exact Kd.C_nil _ _); (case side2 => exact Nat.le_refl _); (case side3 => exact (Kd.R_reads' HO357.out).2.2); (case side4 => exact (Kd.R_reads' HO357.out).2.1); (case side5 => exact blf_); clear tk113; rintro e w' ⟨rfl, ⟨nd, rfl⟩⟩) | (clear tk114; (first | go_ret | go_ret2 | go_ret3 | go_end0); with_reducible refine inl_back_ ?_))
                 go_meet
                 case rel => exact ⟨_, (wrap64 (X1 + 1)), (t355), (.slice Ao109 t355.length co109), H', ⟨by have := HJ9.out; have := HK2.out; first | omega | exact Nat.le_refl _⟩, rm_ HO350 (fun _ h => h.2), rm_ HO357 (fun _ h => h.2), vm_ HOb (fun _ h => h.2), ⟨blf_⟩, ⟨blf_⟩, ⟨blf_⟩, ⟨bel_⟩⟩
               replace c101 := Bool.eq_false_iff.mpr c101
               subst c101
               have H1 : (ropewaylaw15_SnapRuns_f.j2 k2 (rd_L3 l2 x65_2) y348 l2 (l2.length : Int) x65_2 4 t355 X3 X4 X5 X6 X7) = some r := by rw [if_neg (show ¬ (false = true) by decide)] at H; exact H
               clear H
               have H := H1
               clear H1
               have H' := zM H
               clear H
               obtain ⟨Ao115, co115, eo115⟩ := Kd.R_slice HO350.out
               subst eo115
               have tk116 : True := trivial
               have tk121 : True := trivial
               have tk124 : True := trivial
               have tk127 : True := trivial
               have tk128 : True := trivial
               go_wp2_with (first | ((with_reducible refine gate_callee (f := 15) rfl ?_); clear tk116; refine goL_ (some 77) Try.func15 #[.pointer (some ⟨gb341, 0, none⟩), .slice Ao115 y348.length co115] ?_; go_enter Try.func15, Try.ntmps15; have hnb117 := NB341_338.out; have hnc117 := NB338_341.out; have hnb118 := NB341_342.out; have hnc118 := NB342_341.out; have hcz119 := rf3_ BK341.out) | ((with_reducible refine gate_callee (f := 25) rfl ?_); clear tk121; refine goL_ (some 13) Try.func25 #[.slice Ao115 y348.length co115] ?_; (with_reducible refine (api_Cell.calls _ _ y348 t355 _ ?side1 ?side2 A98.out).mono ?_); (case side1 => exact (Kd.R_reads' HO350.out).2.2); (case side2 => exact (Kd.R_reads' HO350.out).2.1); rintro e w120 ⟨v356, rfl, ho0, hb⟩; refine ⟨_, rfl, ?_⟩; replace HOb := zM (Kd.V_elder' (rv_ HOb) (Kd.R_base ho0) hb); have HO357 := zM (Kd.R_lower (Kd.R_newB (Kd.R_new' (Kd.R_new' ho0 (Kd.R_lt (rl_ HOa))) (Kd.R_lt (rl_ HO350))) (g := gb338) (o := .cells #[.int .i64 X0, .int .i64 a1_1, .int .i64 a1_2] 34 (0, 0)) blk_) (below_size bel_)); replace HOa := zM (Kd.R_elder' (rl_ HOa) (Kd.R_base ho0) hb); replace HO350 := zM (Kd.R_elder' (rl_ HO350) (Kd.R_base ho0) hb); replace BK338 := zM (bb_ BK338 hb); replace BK341 := zM (bb_ BK341 hb); replace BK342 := zM (bb_ BK342 hb); replace HB := zM (zB bel_ hb); (try clear hb); (try clear ho0); obtain ⟨Ao122, co122, eo122⟩ := Kd.R_slice HO357.out; subst eo122; have hcz123 := rf3_ BK341.out) | (go_at_call 26; (with_reducible refine calls_of_args (args' := #[.pointer (some ⟨gb341, 0, none⟩)]) rfl ?_); (refine (snap_Snap_update.calls gb341 none 0 ([] : List (S34)) (wrap64 (X1 + 1)) Ao122 co122 t355 false _ ?side1 ?side2 ?side3 ?side4 ?side5 A100.out).mono ?_); (case side1 => exact Kd.C_nil _ _); (case side2 => exact Nat.le_refl _); (case side3 => refine (Kd.R_reads' (e := 34) (base := w.heap.size) (ok := fun k_ => (((True ∧ some k_ ≠ (u342002 : Value).ownBlock) ∧ some k_ ≠ (.slice Ao115 y348.length co115 : Value).ownBlock) ∧ k_ ≠ gb338)) (n := t355.length) (c := co122) ?_).2.2; exact (by (with_reducible repeat (first | apply Kd.R_alloc | apply Kd.R_drewN | apply Kd.R_drew)); exact (Kd.R_mono (Kd.R_far (p := ⟨gb341, 1, none⟩) (Kd.R_far (p := ⟨gb341, 2, none⟩) (Kd.R_types HO357.out BK341.out (by decide)) (fun _ hk => hk.2) (.slice Ao122 t355.length co122)) (fun _ hk => hk.2) (.int .i64 (wrap64 (X1 + 1)))) (fun _ h_ => h_.1)))); (case side4 => exact (Kd.R_reads' HO357.out).2.1); (case side5 => exact by (with_reducible repeat (first | refine zN ?_ _ | refine zD ?_ | refine zA ?_ _)); refine blk_put (cs := #[.slice none 0 0, .int .i64 X1, .slice Ao122 t355.length co122]) ?_ 1 _ rfl; (with_reducible repeat (first | refine zN ?_ _ | refine zD ?_ | refine zA ?_ _)); refine blk_put (cs := #[.slice none 0 0, .int .i64 X1, u342002]) ?_ 2 _ rfl; (with_reducible repeat (first | refine zN ?_ _ | refine zD ?_ | refine zA ?_ _)); exact BK341.out); clear tk124; rintro e w' ⟨rfl, ⟨nd, rfl⟩⟩; have hcy125 : ((((w120.setCell ⟨gb341, 2, none⟩ (.slice Ao122 t355.length co122)).setCell ⟨gb341, 1, none⟩ (.int .i64 (wrap64 (X1 + 1)))).drewN nd).setCell ⟨gb341, 1, none⟩ (.int .i64 4)).cell? ⟨gb341, 1, none⟩ = some (.int .i64 4) := (zL (show ((((w120.setCell ⟨gb341, 2, none⟩ (.slice Ao122 t355.length co122)).setCell ⟨gb341, 1, none⟩ (.int .i64 (wrap64 (X1 + 1)))).drewN nd).setCell ⟨gb341, 1, none⟩ (.int .i64 4)).heap[gb341]? = some (.cells #[.slice none 0 0, .int .i64 4, .slice Ao122 t355.length co122] 61 (0, 0)) from by (with_reducible repeat (first | refine zN ?_ _ | refine zD ?_ | refine zA ?_ _)); refine blk_put (cs := #[.slice none 0 0, .int .i64 (wrap64 (X1 + 1)), .slice Ao122 t355.length co122]) ?_ 1 _ rfl; (with_reducible repeat (first | refine zN ?_ _ | refine zD ?_ | refine zA ?_ _)); refine blk_put (cs := #[.slice none 0 0, .int .i64 X1, .slice Ao122 t355.length co122]) ?_ 1 _ rfl; (with_reducible repeat (first | refine zN ?_ _ | refine zD ?_ | refine zA ?_ _)); refine blk_put (cs := #[.slice none 0 0, .int .i64 X1, u342002]) ?_ 2 _ rfl; (with_reducible repeat (first | refine zN ?_ _ | refine zD ?_ | refine zA ?_ _)); exact BK341.out) 1).trans rfl) | ((with_reducible refine gate_store (t := 3) (p := 33) rfl ?_); clear tk127; refine store_event (t := 3) (p := 33) (v := ?vo_w126) (w1 := ((((w120.setCell ⟨gb341, 2, none⟩ (.slice Ao122 t355.length co122)).setCell ⟨gb341, 1, none⟩ (.int .i64 (wrap64 (X1 + 1)))).drewN nd).setCell ⟨gb341, 1, none⟩ (.int .i64 4))) ?hg ?ho ?hn ?hr ?_; (case ho => rfl); (case hg => rfl); (case hn => rfl); (case hr => first | (go_simp; done) | (go_simp; rfl)); intro w126 hw; replace HOa : Aside0 (Kd.R k34 34 w126 w.heap.size (fun k_ => some k_ ≠ (.slice Ao115 y348.length co115 : Value).ownBlock ∧ some k_ ≠ (.slice Ao122 t355.length co122 : Value).ownBlock ∧ k_ ≠ gb338) u342002 X2) := tR2d1_ hw HOa BK341 (fun _ h => ⟨h.1.1.2, h.1.2, h.1.1.1⟩); replace HOb : Aside0 (Kd.V (Kd.slice 34 k34) 27 w126 w.heap.size (fun k_ => some k_ ≠ (u342002 : Value).ownBlock ∧ some k_ ≠ (.slice Ao115 y348.length co115 : Value).ownBlock ∧ some k_ ≠ (.slice Ao122 t355.length co122 : Value).ownBlock ∧ k_ ≠ gb338 ∧ k_ ≠ gb341 ∧ k_ ≠ gb342) u343004 X7) := tV2d1_ hw HOb (fun _ h => h.1.1.2.2.1) (fun _ h => ⟨h.1.1.1.1, h.1.1.2, h.1.2, h.1.1.1.2⟩); replace HO350 : Aside0 (Kd.R k34 34 w126 w.heap.size (fun k_ => some k_ ≠ (u342002 : Value).ownBlock ∧ some k_ ≠ (.slice Ao122 t355.length co122 : Value).ownBlock ∧ k_ ≠ gb338) (.slice Ao115 y348.length co115) y348) := tR2d1_ hw HO350 BK341 (fun _ h => ⟨h.1.1.1, h.1.2, h.1.1.2⟩); replace HO357 : Aside0 (Kd.R k34 34 w126 w.heap.size (fun k_ => some k_ ≠ (u342002 : Value).ownBlock ∧ some k_ ≠ (.slice Ao115 y348.length co115 : Value).ownBlock ∧ k_ ≠ gb338) (.slice Ao122 t355.length co122) t355) := tR2d1_ hw HO357 BK341 (fun _ h => ⟨h.1.1.1.2, h.1.1.2, h.1.2⟩); replace BK338 := bB2d1_ hw BK338 NB338_341; replace BK341 : Aside0 (w126.heap[gb341]? = some (.cells #[.slice none 0 0, .int .i64 4, .slice Ao122 t355.length co122] 61 (0, 0))) := bP2d1_ hw BK341 rfl; replace BK342 := bB2d1_ hw BK342 NB342_341; replace HB : Aside0 (Below w.heap.size w w126) := ⟨(by rw [hw]; exact bel_)⟩; clear hw) | (clear tk128; (first | go_ret | go_ret2 | go_ret3 | go_end0); with_reducible refine inl_back_ ?_))
               go_meet
               case rel => exact ⟨_, (4), (t355), (.slice Ao122 t355.length co122), H', ⟨by have := HJ9.out; have := HK2.out; first | omega | exact Nat.le_refl _⟩, rm_ HO350 (fun _ h => h.2), rm_ HO357 (fun _ h => h.2), vm_ HOb (fun _ h => h.2), ⟨blf_⟩, ⟨blf_⟩, ⟨blf_⟩, ⟨bel_⟩⟩
            case rest => as_aux_lemma =>
             clear HC52
             try clear c2
             try clear c7
             try clear c11
             try clear c11b0
             try clear c11b1
             try clear c12
             try clear c12b0
             try clear c14
             try clear c14b0
             try clear c17
             try clear c25
             try clear c39
             try clear c39b0
             try clear c40
             try clear c40b0
             try clear c41
             try clear c41b0
             try clear c43
             try clear c43b0
             try clear c43b1
             try clear c46
             try clear c53
             try clear c53b0
             try clear c53b1
             try clear c55
             try clear c55b0
             try clear c55b1
             try clear c55b2
             try clear c57
             try clear c97
             try clear c97b0
             try clear c97b1
             try clear c99
             try clear c99b0
             try clear c99b1
             try clear c99b2
             try clear c101
             try clear c141
             try clear c141b0
             try clear c141b1
             try clear c143
             try clear c165
             try clear c165b0
             try clear c165b1
             try clear hcz106
             try clear hcz110
             try clear hcz119
             try clear hcz123
             try clear hcz133
             try clear hcz137
             try clear hcz13
             try clear hcz148
             try clear hcz159
             try clear hcz15
             try clear hcz170
             try clear hcz178
             try clear hcz18
             try clear hcz21
             try clear hcz22
             try clear hcz31
             try clear hcz36
             try clear hcz62
             try clear hcz66
             try clear hcz75
             try clear hcz79
             try clear hcz89
             try clear hcz93
             try clear hx343_0
             try clear p343
             try clear q343
             obtain ⟨kq, Xb, Xc, u342002, HA, HJ51, HO_11, HOa, HOb, BK338, BK341, BK342, HB⟩ := hcut
             cases kq with
             | zero => exact absurd HA.out (by simp [ropewaylaw15_SnapRuns_f.j2])
             | succ kj51 =>
              have H := HA.out
              clear HA
              simp only [ropewaylaw15_SnapRuns_f.j2] at H
              replace H := Option.bind_eq_some_iff.mp H
              obtain ⟨⟨t360, t361, t362, t363, t364⟩, A1800, H⟩ := H
              replace H : (ropewaylaw15_SnapRuns_f.l1 kj51 y348 l2 (l2.length : Int) x65_2 (y348.length : Int) 0 Xb Xc t360 t361 t362 t363 t364) = some r := H
              have A180 := zM A1800
              clear A1800
              have hnb181 := NB342_338.out
              have hnc181 := NB338_342.out
              have hnb182 := NB342_341.out
              have hnc182 := NB341_342.out
              have hcz183 := rf5_ BK342.out
              obtain ⟨Ao184, co184, eo184⟩ := Kd.V_slice HOb.out
              subst eo184
              have tk186 : True := trivial
              have tk190 : True := trivial
              go_upto_region 17 with (first | ((with_reducible refine gate_callee (f := 16) rfl ?_); clear tk186; refine goL_ (some 80) Try.func16 #[.agg #[.bool X3, .int .i64 X4, .int .i64 X5, .int .i64 X6, .slice Ao184 X7.length co184], .slice A343_0 (rd_L3 l2 x65_2).length c343_0] ?_; (with_reducible refine (ropewayref15_Got.calls X3 X4 X5 X6 (fun k_ => (some k_ ≠ (v349 : Value).ownBlock ∧ (some k_ ≠ (u342002 : Value).ownBlock ∧ (k_ ≠ gb338 ∧ (k_ ≠ gb341 ∧ k_ ≠ gb342))))) _ _ X7 _ _ (rd_L3 l2 x65_2) t360 t361 t362 t363 t364 _ ?side1 ?side2 ?side3 A180.out).mono ?_); (case side1 => exact HOb.out); (case side2 => repeat (first | exact (Kd.C_below HR343_0.out HB.out) | (with_reducible refine Kd.C_alloc ?_ _) | (with_reducible refine Kd.C_drewN ?_ _) | (with_reducible refine Kd.C_drew ?_))); (case side3 => exact HC343_0.out); rintro e w185 ⟨v365, rfl, ho0, hb⟩; refine ⟨_, rfl, ?_⟩; replace HOb := zM (Kd.V_below (rv_ HOb) hb); have HO366 := zM (Kd.V_lower (Kd.V_mono (ok' := fun k_ => some k_ ≠ (v349 : Value).ownBlock ∧ some k_ ≠ (u342002 : Value).ownBlock ∧ k_ ≠ gb338 ∧ k_ ≠ gb341 ∧ k_ ≠ gb342) ho0 (fun k_ hk_ => ⟨Or.elim hk_ (fun hs_ => hs_.1) (fun hn_ => (Kd.fresh' (Kd.R_lt (rl_ HO_11)) k_ hn_)), Or.elim hk_ (fun hs_ => hs_.2.1) (fun hn_ => (Kd.fresh' (Kd.R_lt (rl_ HOa)) k_ hn_)), Or.elim hk_ (fun hs_ => hs_.2.2.1) (fun hn_ => (Kd.freshB (g := gb338) (o := .cells #[.int .i64 X0, .int .i64 a1_1, .int .i64 a1_2] 34 (0, 0)) blk_ k_ hn_)), Or.elim hk_ (fun hs_ => hs_.2.2.2.1) (fun hn_ => (Kd.freshB (g := gb341) (o := .cells #[.slice none 0 0, .int .i64 Xb, u342002] 61 (0, 0)) blk_ k_ hn_)), Or.elim hk_ (fun hs_ => hs_.2.2.2.2) (fun hn_ => (Kd.freshB (g := gb342) (o := .cells #[.bool X3, .int .i64 X4, .int .i64 X5, .int .i64 X6, .slice Ao184 X7.length co184] 38 (0, 0)) blk_ k_ hn_))⟩)) (below_size bel_)); replace HO_11 := zM (Kd.R_below (rl_ HO_11) hb); replace HOa := zM (Kd.R_below (rl_ HOa) hb); replace BK338 := zM (bb_ BK338 hb); replace BK341 := zM (bb_ BK341 hb); replace BK342 := zM (bb_ BK342 hb); replace HB := zM (zB bel_ hb); (try clear hb); (try clear ho0); have hcz187 := rf5_ BK342.out; obtain ⟨Ao188, co188, eo188⟩ := Kd.V_slice HO366.out; subst eo188) | ((with_reducible refine gate_store (t := 38) (p := 8) rfl ?_); clear tk190; refine store_event (t := 38) (p := 8) (v := ?vo_w189) (w1 := (((((w185.setCell ⟨gb342, 0, none⟩ (.bool t360)).setCell ⟨gb342, 1, none⟩ (.int .i64 t361)).setCell ⟨gb342, 2, none⟩ (.int .i64 t362)).setCell ⟨gb342, 3, none⟩ (.int .i64 t363)).setCell ⟨gb342, 4, none⟩ (.slice Ao188 t364.length co188))) ?hg ?ho ?hn ?hr ?_; (case ho => rfl); (case hg => rfl); (case hn => rfl); (case hr => first | (go_simp; done) | (go_simp; rfl)); intro w189 hw; replace HO_11 : Aside0 (Kd.R k34 34 w189 w.heap.size (fun k_ => some k_ ≠ (u342002 : Value).ownBlock ∧ k_ ≠ gb338) v349 y348) := tR5_ hw HO_11 BK342 (fun _ h => h.1); replace HOa : Aside0 (Kd.R k34 34 w189 w.heap.size (fun k_ => some k_ ≠ (v349 : Value).ownBlock ∧ k_ ≠ gb338) u342002 Xc) := tR5_ hw HOa BK342 (fun _ h => h.1); replace HOb : Aside0 (Kd.V (Kd.slice 34 k34) 27 w189 w.heap.size (fun k_ => some k_ ≠ (v349 : Value).ownBlock ∧ some k_ ≠ (u342002 : Value).ownBlock ∧ k_ ≠ gb338 ∧ k_ ≠ gb341 ∧ k_ ≠ gb342) (.slice Ao184 X7.length co184) X7) := tV5_ hw HOb (fun _ h => h.2.2.2.2) (fun _ h => h.1); replace HO366 : Aside0 (Kd.V (Kd.slice 34 k34) 27 w189 w.heap.size (fun k_ => some k_ ≠ (v349 : Value).ownBlock ∧ some k_ ≠ (u342002 : Value).ownBlock ∧ k_ ≠ gb338 ∧ k_ ≠ gb341 ∧ k_ ≠ gb342) (.slice Ao188 t364.length co188) t364) := tV5_ hw HO366 (fun _ h => h.2.2.2.2) (fun _ h => h.1); replace BK338 := bB5_ hw BK338 NB338_342; replace BK341 := bB5_ hw BK341 NB341_342; replace BK342 : Aside0 (w189.heap[gb342]? = some (.cells #[.bool t360, .int .i64 t361, .int .i64 t362, .int .i64 t363, .slice Ao188 t364.length co188] 38 (0, 0))) := bP5_ hw BK342 rfl; replace HB : Aside0 (Below w.heap.size w w189) := ⟨(by rw [hw]; exact bel_)⟩; clear hw))
              try clear hcz187
              have H' := zM H
              clear H
              obtain ⟨Ao191, co191, eo191⟩ := Kd.R_slice HO_11.out
              subst eo191
              go_wp2
              go_loopg [83] kj51 (fun kq v83 w' => ∃ (x11_4 : List (S34)) (x83_4 : Int) (X9 : Int), v83 = .int .i64 x83_4 ∧ Aside0 (ropewaylaw15_SnapRuns_f.l1 kq x11_4 l2 (l2.length : Int) x65_2 (y348.length : Int) x83_4 Xb Xc t360 t361 t362 t363 t364 = some r) ∧ Aside0 (kq ≤ kj51) ∧ Aside0 (Kd.R k34 34 w' w.heap.size (fun k_ => some k_ ≠ (u342002 : Value).ownBlock ∧ k_ ≠ gb338) (.slice Ao191 y348.length co191) x11_4) ∧ Aside0 (Kd.R k34 34 w' w.heap.size (fun k_ => some k_ ≠ ((.slice Ao191 y348.length co191) : Value).ownBlock ∧ k_ ≠ gb338) u342002 Xc) ∧ Aside0 (Kd.V (Kd.slice 34 k34) 27 w' w.heap.size (fun k_ => some k_ ≠ ((.slice Ao191 y348.length co191) : Value).ownBlock ∧ some k_ ≠ (u342002 : Value).ownBlock ∧ k_ ≠ gb338 ∧ k_ ≠ gb341 ∧ k_ ≠ gb342) (.slice Ao188 t364.length co188) t364) ∧ Aside0 (w'.heap[gb338]? = some (.cells #[.int .i64 X9, .int .i64 a1_1, .int .i64 a1_2] 34 (0, 0))) ∧ Aside0 (w'.heap[gb341]? = some (.cells #[(.slice none 0 0), .int .i64 Xb, u342002] 61 (0, 0))) ∧ Aside0 (w'.heap[gb342]? = some (.cells #[.bool t360, .int .i64 t361, .int .i64 t362, .int .i64 t363, (.slice Ao188 t364.length co188)] 38 (0, 0))) ∧ Aside0 (Below w.heap.size w w'))
              case atStart => exact ⟨(y348), (0), (X0), (by first | rfl | (simp; done) | (simp [*]; done) | (simp; grind)), H', ⟨Nat.le_refl _⟩, HO_11, HOa, HO366, ⟨blf_⟩, ⟨blf_⟩, ⟨blf_⟩, ⟨bel_⟩⟩
              case round => as_aux_lemma =>
               clear H'
               try clear c2
               try clear c7
               try clear c11
               try clear c11b0
               try clear c11b1
               try clear c12
               try clear c12b0
               try clear c14
               try clear c14b0
               try clear c17
               try clear c25
               try clear c39
               try clear c39b0
               try clear c40
               try clear c40b0
               try clear c41
               try clear c41b0
               try clear c43
               try clear c43b0
               try clear c43b1
               try clear c46
               try clear c53
               try clear c53b0
               try clear c53b1
               try clear c55
               try clear c55b0
               try clear c55b1
               try clear c55b2
               try clear c57
               try clear c97
               try clear c97b0
               try clear c97b1
               try clear c99
               try clear c99b0
               try clear c99b1
               try clear c99b2
               try clear c101
               try clear c141
               try clear c141b0
               try clear c141b1
               try clear c143
               try clear c165
               try clear c165b0
               try clear c165b1
               try clear hcz106
               try clear hcz110
               try clear hcz119
               try clear hcz123
               try clear hcz133
               try clear hcz137
               try clear hcz13
               try clear hcz148
               try clear hcz159
               try clear hcz15
               try clear hcz170
               try clear hcz178
               try clear hcz183
               try clear hcz187
               try clear hcz18
               try clear hcz21
               try clear hcz22
               try clear hcz31
               try clear hcz36
               try clear hcz62
               try clear hcz66
               try clear hcz75
               try clear hcz79
               try clear hcz89
               try clear hcz93
               try clear hx343_0
               try clear p343
               try clear q343
               obtain ⟨x11_4, x83_4, X9, rfl, HA, HK4, HO_11, HOa, HOb, BK338, BK341, BK342, HB⟩ := hrel
               have hl11_4 := (Kd.R_reads' HO_11.out).1
               rw [hl11_4] at HO_11
               (try simp only [hl11_4])
               (try simp only [hl11_4] at BK338)
               (try simp only [hl11_4] at BK341)
               (try simp only [hl11_4] at BK342)
               (try simp only [hl11_4] at HOa)
               (try simp only [hl11_4] at HOb)
               cases gk with
               | zero => exact absurd HA.out (by simp [ropewaylaw15_SnapRuns_f.l1])
               | succ k4 =>
                have H := HA.out
                clear HA
                simp only [ropewaylaw15_SnapRuns_f.l1] at H
                by_cases c192 : x83_4 < (y348.length : Int)
                ·
                 rw [if_pos c192] at H
                 have c192b0 : decide (x83_4 < (y348.length : Int)) = true := decide_eq_true c192
                 clear c192
                 by_cases c193 : 0 ≤ x83_4
                 rotate_left
                 · rw [if_neg c193] at H
                   exact absurd H (by simp)
                 as_aux_lemma =>
                  rw [if_pos c193] at H
                  have c193b0 : decide (0 ≤ x83_4) = true := decide_eq_true c193
                  clear c193
                  by_cases c194 : x83_4 < (x11_4.length : Int)
                  rotate_left
                  · rw [if_neg c194] at H
                    exact absurd H (by simp)
                  as_aux_lemma =>
                   rw [if_pos c194] at H
                   have c194b0 : decide (x83_4 < (x11_4.length : Int)) = true := decide_eq_true c194
                   clear c194
                   obtain ⟨y367, hy367⟩ : ∃ y_ : List (S34), y_ = (x11_4.set (x83_4 : Int).toNat (⟨77, (⟨(rd_T34 x11_4 x83_4).f1.f0, (rd_T34 x11_4 x83_4).f1.f1⟩ : S26)⟩ : S34)) := ⟨_, rfl⟩
                   replace H : (ropewaylaw15_SnapRuns_f.l1 k4 y367 l2 (l2.length : Int) x65_2 (y348.length : Int) (wrap64 (x83_4 + 1)) Xb Xc t360 t361 t362 t363 t364) = some r := by first | (rw [hy367]; with_reducible exact H) | (have H2_ := (Option.bind_some _ _).symm.trans H; rw [hy367]; with_reducible exact H2_) | (have H2_ := (Option.bind_some _ _).symm.trans H; with_reducible exact H2_) | with_reducible exact H | (rw [hy367]; exact H) | exact H
                   have Ny367 := zM hy367
                   clear hy367
                   have p195 : 0 ≤ (x83_4 : Int) := of_decide_eq_true (by first | (with_reducible assumption) | assumption)
                   have q195 : (x83_4 : Int) < ((x11_4.length : Int) : Int) := of_decide_eq_true (by first | (with_reducible assumption) | assumption)
                   obtain ⟨go195, co195, eo195, gb195, gl195, cl195, HG195⟩ := Kd.R_form HO_11.out (by omega)
                   (first | cases eo195 | (injection eo195 with ea_ en_ ec_; (first | subst ea_ | (injection ea_ with ea_; subst ea_)); subst ec_; clear en_))
                   have GB195 := zM gb195
                   have GG195 := zM HG195
                   clear gb195 gl195 HG195
                   obtain ⟨ce195, hcl195, hM195, hcc195, hfr195⟩ := Kd.R_elem HO_11.out z34 (x83_4 : Int) p195 q195
                   obtain rfl := k34_openM hM195
                   have hx195_0 : wr.cell? ⟨go195, (x83_4 : Int).toNat * 3, none⟩ = some (.int .i64 ((rd_T34 x11_4 x83_4).f0)) := hcc195 0 _ rfl
                   have hx195_1 : wr.cell? ⟨go195, (x83_4 : Int).toNat * 3 + 1, none⟩ = some (.int .i64 ((rd_T34 x11_4 x83_4).f1.f0)) := hcc195 1 _ rfl
                   have hx195_2 : wr.cell? ⟨go195, (x83_4 : Int).toNat * 3 + 2, none⟩ = some (.int .i64 ((rd_T34 x11_4 x83_4).f1.f1)) := hcc195 2 _ rfl
                   have hf195_0 : wr.frozen? ⟨go195, (x83_4 : Int).toNat * 3, none⟩ = false := hfr195 0
                   have hf195_1 : wr.frozen? ⟨go195, (x83_4 : Int).toNat * 3 + 1, none⟩ = false := hfr195 1
                   have hf195_2 : wr.frozen? ⟨go195, (x83_4 : Int).toNat * 3 + 2, none⟩ = false := hfr195 2
                   clear hcl195 hcc195 hfr195 hM195
                   replace p195 := eq_true p195
                   replace q195 := eq_true q195
                   have HX196 := zM (show Kd.R k34 34 wr w.heap.size (fun k_ => some k_ ≠ (u342002 : Value).ownBlock ∧ k_ ≠ gb338) (.slice (some ⟨go195, 0, none⟩) x11_4.length co191) x11_4 from (rl_ HO_11))
                   obtain ⟨ce196, hcl196, hM196, hcc196, hfr196⟩ := Kd.R_elem HX196.out z34 (x83_4 : Int) (of_decide_eq_true (by first | (with_reducible assumption) | assumption)) (by have h_ : (x83_4 : Int) < ((x11_4.length : Int) : Int) := of_decide_eq_true (by first | (with_reducible assumption) | assumption); first | exact h_ | (have e_ := (Kd.R_reads' HO_11.out).1; omega) | simpa using h_)
                   obtain rfl := k34_openM hM196
                   have HP196 := Kd.R_seg HX196.out (x83_4 : Int) (of_decide_eq_true (by first | (with_reducible assumption) | assumption)) (by have h_ : (x83_4 : Int) < ((x11_4.length : Int) : Int) := of_decide_eq_true (by first | (with_reducible assumption) | assumption); first | exact h_ | (have e_ := (Kd.R_reads' HO_11.out).1; omega) | simpa using h_) (seg := [.int .i64 77]) (j := 0) hcl196 hcc196 (show 1 ≤ 3 from by decide) (x' := (⟨77, (⟨(rd_T34 x11_4 x83_4).f1.f0, (rd_T34 x11_4 x83_4).f1.f1⟩ : S26)⟩ : S34)) (k34_mkM _ _ _ (⟨77, (⟨(rd_T34 x11_4 x83_4).f1.f0, (rd_T34 x11_4 x83_4).f1.f1⟩ : S26)⟩ : S34) ) (fun _ hk => hk)
                   have hx196_0 := hcc196 0 _ rfl
                   (try simp only [show (k34).sz = 3 from rfl, Nat.mul_one, Nat.add_zero] at hx196_0)
                   have hf196_0 := hfr196 0
                   (try simp only [show (k34).sz = 3 from rfl, Nat.mul_one, Nat.add_zero] at hf196_0)
                   clear hcl196 hcc196 hfr196 hM196
                   have tk198 : True := trivial
                   go_upto_region 21 with (first | ((with_reducible refine gate_store (t := 3) (p := 89) rfl ?_); clear tk198; refine store_event (t := 3) (p := 89) (v := ?vo_w197) (w1 := (wr.setCell ⟨go195, (x83_4 : Int).toNat * 3, none⟩ (.int .i64 77))) ?hg ?ho ?hn ?hr ?_; (case ho => rfl); (case hg => rfl); (case hn => rfl); (case hr => first | (go_simp; done) | (go_simp; rfl)); intro w197 hw; have hg : wr.grownBy w197 (some go195) := (by rw [hw]; exact HP196.2); have hp_ : Kd.R k34 34 w197 w.heap.size (fun k_ => some k_ ≠ (u342002 : Value).ownBlock ∧ k_ ≠ gb338) (.slice (some ⟨go195, 0, none⟩) x11_4.length co191) y367 := (by rw [hw, Ny367.out]; exact HP196.1); clear HP196; replace HOa := zM (Kd.R_after (v := (.slice (some ⟨go195, 0, none⟩) x11_4.length co191)) (v1 := (.slice (some ⟨go195, 0, none⟩) x11_4.length co191)) (ok := (fun k_ => k_ ≠ gb338)) (by (with_reducible repeat (first | apply Kd.R_alloc | apply Kd.R_drewN | apply Kd.R_drew)); exact Kd.R_mono HOa.out (fun _ h => ⟨h.2, h.1⟩)) hg (.inl rfl)); replace HOb := zM (Kd.V_afterv (v := (.slice (some ⟨go195, 0, none⟩) x11_4.length co191)) (v1 := (.slice (some ⟨go195, 0, none⟩) x11_4.length co191)) (ok := (fun k_ => some k_ ≠ (u342002 : Value).ownBlock ∧ k_ ≠ gb338 ∧ k_ ≠ gb341 ∧ k_ ≠ gb342)) (by (with_reducible repeat (first | apply Kd.V_alloc | apply Kd.V_drewN | apply Kd.V_drew)); exact Kd.V_mono HOb.out (fun _ h => ⟨h.2, h.1⟩)) hg (.inl rfl)); replace BK338 := (bG_ BK338 hg (Kd.R_away HO_11.out (fun _ hk => hk.2))); replace BK341 := (bG_ BK341 hg (Kd.R_ne HO_11.out BK341.out (by decide))); replace BK342 := (bG_ BK342 hg (Kd.R_ne HO_11.out BK342.out (by decide))); replace HO_11 := zM (hp_); replace HB := zM ((by rw [hw]; exact below_set (HB.out) GB195.out : Below w.heap.size w w197)); clear hg hw hp_))
                   have H' := zM H
                   clear H
                   go_wp2
                   (try simp only [← hl11_4])
                   go_roundg k4
                   case measure => have := HJ9.out; have := HK2.out; have := HJ51.out; have := HK4.out; omega
                   case rel => exact ⟨(y367), (wrap64 (x83_4 + 1)), (X9), (by first | rfl | (simp; done) | (simp [*]; done) | (simp; grind)), H', ⟨by have := HJ9.out; have := HK2.out; have := HJ51.out; have := HK4.out; omega⟩, ⟨by (try simp only [hl11_4]); exact HO_11.out⟩, ⟨by (try simp only [hl11_4]); exact Kd.R_mono HOa.out (fun _ h => ⟨h.2, h.1⟩)⟩, ⟨by (try simp only [hl11_4]); exact Kd.V_mono HOb.out (fun _ h => ⟨h.2, h.1⟩)⟩, ⟨by (try simp only [hl11_4]); exact BK338.out⟩, ⟨by (try simp only [hl11_4]); exact BK341.out⟩, ⟨by (try simp only [hl11_4]); exact BK342.out⟩, ⟨bel_⟩⟩
                rw [if_neg c192] at H
                have c192b0 : decide (x83_4 < (y348.length : Int)) = false := decide_eq_false c192
                try have c192b9 : decide (x83_4 < (x11_4.length : Int)) = false := by rw [← hl11_4]; exact c192b0
                clear c192
                have HC199 := zM H
                clear H
                go_upto_region 22 with (fail)
                (try simp only [Act.put, zS, zZ, zC])
                go_cut [13, 14, 15] (fun v13 v14 v15 wc => ∃ (kq : Nat) (x13_198 : Int) (x14_198 : List (S34)) (x15_198 : Bool) (Xd : Int), v13 = .int .i64 x13_198 ∧ v15 = .bool x15_198 ∧ Aside0 (ropewaylaw15_SnapRuns_f.j4 kq x13_198 x14_198 x15_198 l2 (l2.length : Int) x65_2 Xd Xc t360 t361 t362 t363 t364 = some r) ∧ Aside0 (kq ≤ k4) ∧ Aside0 (Kd.R k34 34 wc w.heap.size (fun k_ => some k_ ≠ (u342002 : Value).ownBlock ∧ k_ ≠ gb338) v14 x14_198) ∧ Aside0 (Kd.R k34 34 wc w.heap.size (fun k_ => some k_ ≠ (v14 : Value).ownBlock ∧ k_ ≠ gb338) u342002 Xc) ∧ Aside0 (Kd.V (Kd.slice 34 k34) 27 wc w.heap.size (fun k_ => some k_ ≠ (v14 : Value).ownBlock ∧ some k_ ≠ (u342002 : Value).ownBlock ∧ k_ ≠ gb338 ∧ k_ ≠ gb341 ∧ k_ ≠ gb342) (.slice Ao188 t364.length co188) t364) ∧ Aside0 (wc.heap[gb338]? = some (.cells #[.int .i64 X9, .int .i64 a1_1, .int .i64 a1_2] 34 (0, 0))) ∧ Aside0 (wc.heap[gb341]? = some (.cells #[(.slice none 0 0), .int .i64 Xd, u342002] 61 (0, 0))) ∧ Aside0 (wc.heap[gb342]? = some (.cells #[.bool t360, .int .i64 t361, .int .i64 t362, .int .i64 t363, (.slice Ao188 t364.length co188)] 38 (0, 0))) ∧ Aside0 (Below w.heap.size w wc))
                case first => as_aux_lemma =>
                 have H := HC199.out
                 clear HC199
                 by_cases c200 : Xb = 4
                 · rw [if_pos c200] at H
                   have c200b0 : (Xb == 4) = true := beq_iff_eq.mpr c200
                   have c200b1 : (Xb != 4) = false := bne_eq_false_iff_eq.mpr c200
                   clear c200
                   (first | rw [c200b0] | (simp only [i64_w, i32_w]; rw [c200b0]) | skip)
                   have H' := zM H
                   clear H
                   have tk201 : True := trivial
                   have tk205 : True := trivial
                   go_wp2_with (first | ((with_reducible refine gate_callee (f := 9) rfl ?_); clear tk201; refine goL_ (some 93) Try.func9 #[.pointer (some ⟨gb341, 0, none⟩)] ?_; go_enter Try.func9, Try.ntmps9; have hnb202 := NB341_338.out; have hnc202 := NB338_341.out; have hnb203 := NB341_342.out; have hnc203 := NB342_341.out; have hcz204 := rf3_ BK341.out) | (clear tk205; (first | go_ret | go_ret2 | go_ret3 | go_end0); with_reducible refine inl_back_ ?_))
                   go_meet
                   case rel => exact ⟨_, (0), (([] : List (S34))), (false), (Xb), (by first | rfl | (simp; done) | (simp [*]; done) | (simp; grind)), (by first | rfl | (simp; done) | (simp [*]; done) | (simp; grind)), H', ⟨by have := HJ9.out; have := HK2.out; have := HJ51.out; have := HK4.out; first | omega | exact Nat.le_refl _⟩, ⟨by (try simp only [hl11_4]); first | exact Kd.R_nil _ _ _ _ _ | exact Kd.N_nil _ _ _ _ _ | exact Kd.V_nil _ _ _ _ _ | exact Kd.Q_nil _ _ _ _ _ | exact Kd.S_nil _ _ _ _ _⟩, ⟨by (try simp only [hl11_4]); exact Kd.R_mono HOa.out (fun _ h => ⟨(by simp [Value.ownBlock]), h.2⟩)⟩, ⟨by (try simp only [hl11_4]); exact Kd.V_mono HOb.out (fun _ h => ⟨(by simp [Value.ownBlock]), h.2⟩)⟩, ⟨by (try simp only [hl11_4]); exact BK338.out⟩, ⟨by (try simp only [hl11_4]); exact BK341.out⟩, ⟨by (try simp only [hl11_4]); exact BK342.out⟩, ⟨bel_⟩⟩
                 rw [if_neg c200] at H
                 have c200b0 : (Xb == 4) = false := beq_eq_false_iff_ne.mpr c200
                 have c200b1 : (Xb != 4) = true := bne_iff_ne.mpr c200
                 (first | rw [c200b0] | (simp only [i64_w, i32_w]; rw [c200b0]) | skip)
                 by_cases c206 : Xb = 0
                 · rw [if_pos c206] at H
                   have c206b0 : (Xb == 0) = true := beq_iff_eq.mpr c206
                   have c206b1 : (Xb != 0) = false := bne_eq_false_iff_eq.mpr c206
                   clear c206
                   have H' := zM H
                   clear H
                   have tk207 : True := trivial
                   have tk211 : True := trivial
                   go_wp2_with (first | ((with_reducible refine gate_callee (f := 9) rfl ?_); clear tk207; refine goL_ (some 93) Try.func9 #[.pointer (some ⟨gb341, 0, none⟩)] ?_; go_enter Try.func9, Try.ntmps9; have hnb208 := NB341_338.out; have hnc208 := NB338_341.out; have hnb209 := NB341_342.out; have hnc209 := NB342_341.out; have hcz210 := rf3_ BK341.out) | (clear tk211; (first | go_ret | go_ret2 | go_ret3 | go_end0); with_reducible refine inl_back_ ?_))
                   go_meet
                   case rel => exact ⟨_, (0), (([] : List (S34))), (true), (Xb), (by first | rfl | (simp; done) | (simp [*]; done) | (simp; grind)), (by first | rfl | (simp; done) | (simp [*]; done) | (simp; grind)), H', ⟨by have := HJ9.out; have := HK2.out; have := HJ51.out; have := HK4.out; first | omega | exact Nat.le_refl _⟩, ⟨by (try simp only [hl11_4]); first | exact Kd.R_nil _ _ _ _ _ | exact Kd.N_nil _ _ _ _ _ | exact Kd.V_nil _ _ _ _ _ | exact Kd.Q_nil _ _ _ _ _ | exact Kd.S_nil _ _ _ _ _⟩, ⟨by (try simp only [hl11_4]); exact Kd.R_mono HOa.out (fun _ h => ⟨(by simp [Value.ownBlock]), h.2⟩)⟩, ⟨by (try simp only [hl11_4]); exact Kd.V_mono HOb.out (fun _ h => ⟨(by simp [Value.ownBlock]), h.2⟩)⟩, ⟨by (try simp only [hl11_4]); exact BK338.out⟩, ⟨by (try simp only [hl11_4]); exact BK341.out⟩, ⟨by (try simp only [hl11_4]); exact BK342.out⟩, ⟨bel_⟩⟩
                 rw [if_neg c206] at H
                 have c206b0 : (Xb == 0) = false := beq_eq_false_iff_ne.mpr c206
                 have c206b1 : (Xb != 0) = true := bne_iff_ne.mpr c206
                 by_cases c212 : Xb = 2
                 · rw [if_pos c212] at H
                   have c212b0 : (Xb == 2) = true := beq_iff_eq.mpr c212
                   have c212b1 : (Xb != 2) = false := bne_eq_false_iff_eq.mpr c212
                   clear c212
                   have H' := zM H
                   clear H
                   have tk213 : True := trivial
                   have tk217 : True := trivial
                   go_wp2_with (first | ((with_reducible refine gate_callee (f := 9) rfl ?_); clear tk213; refine goL_ (some 93) Try.func9 #[.pointer (some ⟨gb341, 0, none⟩)] ?_; go_enter Try.func9, Try.ntmps9; have hnb214 := NB341_338.out; have hnc214 := NB338_341.out; have hnb215 := NB341_342.out; have hnc215 := NB342_341.out; have hcz216 := rf3_ BK341.out) | (clear tk217; (first | go_ret | go_ret2 | go_ret3 | go_end0); with_reducible refine inl_back_ ?_))
                   go_meet
                   case rel => exact ⟨_, (0), (([] : List (S34))), (true), (Xb), (by first | rfl | (simp; done) | (simp [*]; done) | (simp; grind)), (by first | rfl | (simp; done) | (simp [*]; done) | (simp; grind)), H', ⟨by have := HJ9.out; have := HK2.out; have := HJ51.out; have := HK4.out; first | omega | exact Nat.le_refl _⟩, ⟨by (try simp only [hl11_4]); first | exact Kd.R_nil _ _ _ _ _ | exact Kd.N_nil _ _ _ _ _ | exact Kd.V_nil _ _ _ _ _ | exact Kd.Q_nil _ _ _ _ _ | exact Kd.S_nil _ _ _ _ _⟩, ⟨by (try simp only [hl11_4]); exact Kd.R_mono HOa.out (fun _ h => ⟨(by simp [Value.ownBlock]), h.2⟩)⟩, ⟨by (try simp only [hl11_4]); exact Kd.V_mono HOb.out (fun _ h => ⟨(by simp [Value.ownBlock]), h.2⟩)⟩, ⟨by (try simp only [hl11_4]); exact BK338.out⟩, ⟨by (try simp only [hl11_4]); exact BK341.out⟩, ⟨by (try simp only [hl11_4]); exact BK342.out⟩, ⟨bel_⟩⟩
                 rw [if_neg c212] at H
                 have c212b0 : (Xb == 2) = false := beq_eq_false_iff_ne.mpr c212
                 have c212b1 : (Xb != 2) = true := bne_iff_ne.mpr c212
                 replace H := Option.bind_eq_some_iff.mp H
                 obtain ⟨t368, A2180, H⟩ := H
                 replace H : (if t368 = true then ((api_Cell.f ([] : List (S34))).bind fun t369 => (ropewaylaw15_SnapRuns_f.j4 k4 1 t369 true l2 (l2.length : Int) x65_2 Xb Xc t360 t361 t362 t363 t364)) else ((api_Cell.f Xc).bind fun t372 => (ropewaylaw15_SnapRuns_f.j4 k4 1 t372 true l2 (l2.length : Int) x65_2 Xb Xc t360 t361 t362 t363 t364))) = some r := H
                 have A218 := zM A2180
                 clear A2180
                 by_cases c219 : t368 = true
                 · subst c219
                   have H1 : ((api_Cell.f ([] : List (S34))).bind fun t369 => (ropewaylaw15_SnapRuns_f.j4 k4 1 t369 true l2 (l2.length : Int) x65_2 Xb Xc t360 t361 t362 t363 t364)) = some r := by rw [if_pos rfl] at H; exact H
                   clear H
                   have H := H1
                   clear H1
                   replace H := Option.bind_eq_some_iff.mp H
                   obtain ⟨t369, A2200, H⟩ := H
                   replace H : (ropewaylaw15_SnapRuns_f.j4 k4 1 t369 true l2 (l2.length : Int) x65_2 Xb Xc t360 t361 t362 t363 t364) = some r := H
                   have A220 := zM A2200
                   clear A2200
                   have H' := zM H
                   clear H
                   have tk221 : True := trivial
                   have tk226 : True := trivial
                   have tk228 : True := trivial
                   have tk229 : True := trivial
                   go_wp2_with (first | ((with_reducible refine gate_callee (f := 9) rfl ?_); clear tk221; refine goL_ (some 93) Try.func9 #[.pointer (some ⟨gb341, 0, none⟩)] ?_; go_enter Try.func9, Try.ntmps9; have hnb222 := NB341_338.out; have hnc222 := NB338_341.out; have hnb223 := NB341_342.out; have hnc223 := NB342_341.out; have hcz224 := rf3_ BK341.out; obtain ⟨Ao225, co225, eo225⟩ := Kd.R_slice HOa.out; subst eo225) | ((with_reducible refine gate_callee (f := 11) rfl ?_); clear tk226; refine goL_ (some 24) Try.func11 #[.pointer (some ⟨gb341, 0, none⟩)] ?_; (with_reducible refine calls_of_args (args' := #[.pointer (some ⟨gb341, 0, none⟩)]) rfl ?_); (refine (snap_Snap_Own.calls gb341 none 0 ([] : List (S34)) Xb Ao225 co225 Xc true _ ?side1 ?side2 ?side3 ?side4 ?side5 A218.out).mono ?_); (case side1 => exact Kd.C_nil _ _); (case side2 => exact Nat.le_refl _); (case side3 => exact (Kd.R_reads' HOa.out).2.2); (case side4 => exact (Kd.R_reads' HOa.out).2.1); (case side5 => exact blf_); rintro e w' ⟨rfl, ⟨nd, rfl⟩⟩; refine ⟨_, rfl, ?_⟩) | ((with_reducible refine gate_callee (f := 25) rfl ?_); clear tk228; refine goL_ (some 29) Try.func25 #[.slice none 0 0] ?_; (with_reducible refine calls_of_args (args' := #[.slice none 0 0]) rfl ?_); (refine (api_Cell.calls _ _ ([] : List (S34)) t369 _ ?side1 ?side2 A220.out).mono ?_); (case side1 => exact Kd.C_nil _ _); (case side2 => exact Nat.le_refl _); rintro e w227 ⟨v370, rfl, ho0, hb⟩; refine ⟨_, rfl, ?_⟩; replace HOb := zM (Kd.V_elder' (rv_ HOb) (Kd.R_base ho0) hb); have HO371 := zM (Kd.R_lower (Kd.R_newB (Kd.R_new' (Kd.R_new' ho0 (Kd.R_lt (rl_ HO_11))) (Kd.R_lt (rl_ HOa))) (g := gb338) (o := .cells #[.int .i64 X9, .int .i64 a1_1, .int .i64 a1_2] 34 (0, 0)) blk_) (below_size bel_)); replace HO_11 := zM (Kd.R_elder' (rl_ HO_11) (Kd.R_base ho0) hb); replace HOa := zM (Kd.R_elder' (rl_ HOa) (Kd.R_base ho0) hb); replace BK338 := zM (bb_ BK338 hb); replace BK341 := zM (bb_ BK341 hb); replace BK342 := zM (bb_ BK342 hb); replace HB := zM (zB bel_ hb); (try clear hb); (try clear ho0)) | (clear tk229; (first | go_ret | go_ret2 | go_ret3 | go_end0); with_reducible refine inl_back_ ?_))
                   go_meet
                   case rel => exact ⟨_, (1), (t369), (true), (Xb), (by first | rfl | (simp; done) | (simp [*]; done) | (simp; grind)), (by first | rfl | (simp; done) | (simp [*]; done) | (simp; grind)), H', ⟨by have := HJ9.out; have := HK2.out; have := HJ51.out; have := HK4.out; first | omega | exact Nat.le_refl _⟩, ⟨by (try simp only [hl11_4]); exact Kd.R_mono HO371.out (fun _ h => ⟨h.1.2, h.2⟩)⟩, ⟨by (try simp only [hl11_4]); exact Kd.R_mono HOa.out (fun _ h => ⟨h.2, h.1.2⟩)⟩, ⟨by (try simp only [hl11_4]); exact Kd.V_mono HOb.out (fun _ h => ⟨h.2, h.1.2⟩)⟩, ⟨by (try simp only [hl11_4]); exact BK338.out⟩, ⟨by (try simp only [hl11_4]); exact BK341.out⟩, ⟨by (try simp only [hl11_4]); exact BK342.out⟩, ⟨bel_⟩⟩
                 replace c219 := Bool.eq_false_iff.mpr c219
                 subst c219
                 have H1 : ((api_Cell.f Xc).bind fun t372 => (ropewaylaw15_SnapRuns_f.j4 k4 1 t372 true l2 (l2.length : Int) x65_2 Xb Xc t360 t361 t362 t363 t364)) = some r := by rw [if_neg (show ¬ (false = true) by decide)] at H; exact H
                 clear H
                 have H := H1
                 clear H1
                 replace H := Option.bind_eq_some_iff.mp H
                 obtain ⟨t372, A2300, H⟩ := H
                 replace H : (ropewaylaw15_SnapRuns_f.j4 k4 1 t372 true l2 (l2.length : Int) x65_2 Xb Xc t360 t361 t362 t363 t364) = some r := H
                 have A230 := zM A2300
                 clear A2300
                 have H' := zM H
                 clear H
                 have tk231 : True := trivial
                 have tk236 : True := trivial
                 have tk238 : True := trivial
                 have tk239 : True := trivial
                 go_wp2_with (first | ((with_reducible refine gate_callee (f := 9) rfl ?_); clear tk231; refine goL_ (some 93) Try.func9 #[.pointer (some ⟨gb341, 0, none⟩)] ?_; go_enter Try.func9, Try.ntmps9; have hnb232 := NB341_338.out; have hnc232 := NB338_341.out; have hnb233 := NB341_342.out; have hnc233 := NB342_341.out; have hcz234 := rf3_ BK341.out; obtain ⟨Ao235, co235, eo235⟩ := Kd.R_slice HOa.out; subst eo235) | ((with_reducible refine gate_callee (f := 11) rfl ?_); clear tk236; refine goL_ (some 24) Try.func11 #[.pointer (some ⟨gb341, 0, none⟩)] ?_; (with_reducible refine calls_of_args (args' := #[.pointer (some ⟨gb341, 0, none⟩)]) rfl ?_); (refine (snap_Snap_Own.calls gb341 none 0 ([] : List (S34)) Xb Ao235 co235 Xc false _ ?side1 ?side2 ?side3 ?side4 ?side5 A218.out).mono ?_); (case side1 => exact Kd.C_nil _ _); (case side2 => exact Nat.le_refl _); (case side3 => exact (Kd.R_reads' HOa.out).2.2); (case side4 => exact (Kd.R_reads' HOa.out).2.1); (case side5 => exact blf_); rintro e w' ⟨rfl, ⟨nd, rfl⟩⟩; refine ⟨_, rfl, ?_⟩) | ((with_reducible refine gate_callee (f := 25) rfl ?_); clear tk238; refine goL_ (some 34) Try.func25 #[.slice Ao235 Xc.length co235] ?_; (with_reducible refine (api_Cell.calls _ _ Xc t372 _ ?side1 ?side2 A230.out).mono ?_); (case side1 => exact (Kd.R_reads' HOa.out).2.2); (case side2 => exact (Kd.R_reads' HOa.out).2.1); rintro e w237 ⟨v373, rfl, ho0, hb⟩; refine ⟨_, rfl, ?_⟩; replace HOb := zM (Kd.V_elder' (rv_ HOb) (Kd.R_base ho0) hb); have HO374 := zM (Kd.R_lower (Kd.R_newB (Kd.R_new' (Kd.R_new' ho0 (Kd.R_lt (rl_ HO_11))) (Kd.R_lt (rl_ HOa))) (g := gb338) (o := .cells #[.int .i64 X9, .int .i64 a1_1, .int .i64 a1_2] 34 (0, 0)) blk_) (below_size bel_)); replace HO_11 := zM (Kd.R_elder' (rl_ HO_11) (Kd.R_base ho0) hb); replace HOa := zM (Kd.R_elder' (rl_ HOa) (Kd.R_base ho0) hb); replace BK338 := zM (bb_ BK338 hb); replace BK341 := zM (bb_ BK341 hb); replace BK342 := zM (bb_ BK342 hb); replace HB := zM (zB bel_ hb); (try clear hb); (try clear ho0)) | (clear tk239; (first | go_ret | go_ret2 | go_ret3 | go_end0); with_reducible refine inl_back_ ?_))
                 go_meet
                 case rel => exact ⟨_, (1), (t372), (true), (Xb), (by first | rfl | (simp; done) | (simp [*]; done) | (simp; grind)), (by first | rfl | (simp; done) | (simp [*]; done) | (simp; grind)), H', ⟨by have := HJ9.out; have := HK2.out; have := HJ51.out; have := HK4.out; first | omega | exact Nat.le_refl _⟩, ⟨by (try simp only [hl11_4]); exact Kd.R_mono HO374.out (fun _ h => ⟨h.1.2, h.2⟩)⟩, ⟨by (try simp only [hl11_4]); exact Kd.R_mono HOa.out (fun _ h => ⟨h.2, h.1.2⟩)⟩, ⟨by (try simp only [hl11_4]); exact Kd.V_mono HOb.out (fun _ h => ⟨h.2, h.1.2⟩)⟩, ⟨by (try simp only [hl11_4]); exact BK338.out⟩, ⟨by (try simp only [hl11_4]); exact BK341.out⟩, ⟨by (try simp only [hl11_4]); exact BK342.out⟩, ⟨bel_⟩⟩
                case rest => as_aux_lemma =>
                 clear HC199
                 try clear c2
                 try clear c7
                 try clear c11
                 try clear c11b0
                 try clear c11b1
                 try clear c12
                 try clear c12b0
                 try clear c14
                 try clear c14b0
                 try clear c17
                 try clear c25
                 try clear c39
                 try clear c39b0
                 try clear c40
                 try clear c40b0
                 try clear c41
                 try clear c41b0
                 try clear c43
                 try clear c43b0
                 try clear c43b1
                 try clear c46
                 try clear c53
                 try clear c53b0
                 try clear c53b1
                 try clear c55
                 try clear c55b0
                 try clear c55b1
                 try clear c55b2
                 try clear c57
                 try clear c97
                 try clear c97b0
                 try clear c97b1
                 try clear c99
                 try clear c99b0
                 try clear c99b1
                 try clear c99b2
                 try clear c101
                 try clear c141
                 try clear c141b0
                 try clear c141b1
                 try clear c143
                 try clear c165
                 try clear c165b0
                 try clear c165b1
                 try clear c192
                 try clear c192b0
                 try clear c193
                 try clear c193b0
                 try clear c194
                 try clear c194b0
                 try clear p195
                 try clear q195
                 try clear c200
                 try clear c200b0
                 try clear c200b1
                 try clear c206
                 try clear c206b0
                 try clear c206b1
                 try clear c212
                 try clear c212b0
                 try clear c212b1
                 try clear c219
                 try clear hcz106
                 try clear hcz110
                 try clear hcz119
                 try clear hcz123
                 try clear hcz133
                 try clear hcz137
                 try clear hcz13
                 try clear hcz148
                 try clear hcz159
                 try clear hcz15
                 try clear hcz170
                 try clear hcz178
                 try clear hcz183
                 try clear hcz187
                 try clear hcz18
                 try clear hcz204
                 try clear hcz210
                 try clear hcz216
                 try clear hcz21
                 try clear hcz224
                 try clear hcz22
                 try clear hcz234
                 try clear hcz31
                 try clear hcz36
                 try clear hcz62
                 try clear hcz66
                 try clear hcz75
                 try clear hcz79
                 try clear hcz89
                 try clear hcz93
                 try clear hx195_0
                 try clear hx195_1
                 try clear hx195_2
                 try clear hx196_0
                 try clear hx343_0
                 try clear p195
                 try clear p343
                 try clear q195
                 try clear q343
                 obtain ⟨kq, x13_198, x14_198, x15_198, Xd, rfl, rfl, HA, HJ198, HO_14, HOa, HOb, BK338, BK341, BK342, HB⟩ := hcut
                 cases kq with
                 | zero => exact absurd HA.out (by simp [ropewaylaw15_SnapRuns_f.j4])
                 | succ kj198 =>
                  have H := HA.out
                  clear HA
                  simp only [ropewaylaw15_SnapRuns_f.j4] at H
                  replace H := Option.bind_eq_some_iff.mp H
                  obtain ⟨⟨t375, t376, t379⟩, A2400, H⟩ := H
                  replace H : (if x13_198 = t375 then ((ropewayref10_Same.f kj198 x14_198 t376).bind fun t380 => (if t380 = true then (if (x15_198 != t379) = true then (ropewaylaw15_SnapRuns_f.j5 kj198 l2 (l2.length : Int) x65_2 true Xd Xc t360 t361 t362 t363 t364) else ((snap_Snap_Own.f ([] : List (S34)) Xd Xc).bind fun t381 => ((ropewayref15_Own.f t360 t361 t362 t363 t364).bind fun t382 => (ropewaylaw15_SnapRuns_f.j5 kj198 l2 (l2.length : Int) x65_2 (t381 != t382) Xd Xc t360 t361 t362 t363 t364)))) else (ropewaylaw15_SnapRuns_f.j5 kj198 l2 (l2.length : Int) x65_2 true Xd Xc t360 t361 t362 t363 t364))) else (ropewaylaw15_SnapRuns_f.j5 kj198 l2 (l2.length : Int) x65_2 true Xd Xc t360 t361 t362 t363 t364)) = some r := H
                  have A240 := zM A2400
                  clear A2400
                  have hnb241 := NB342_338.out
                  have hnc241 := NB338_342.out
                  have hnb242 := NB342_341.out
                  have hnc242 := NB341_342.out
                  have hcz243 := rf5_ BK342.out
                  have tk245 : True := trivial
                  go_upto_region 24 with (first | ((with_reducible refine gate_callee (f := 17) rfl ?_); clear tk245; refine goL_ (some 99) Try.func17 #[.agg #[.bool t360, .int .i64 t361, .int .i64 t362, .int .i64 t363, .slice Ao188 t364.length co188]] ?_; (with_reducible refine (ropewayref15_Need.calls t360 t361 t362 t363 (fun k_ => (some k_ ≠ (u14 : Value).ownBlock ∧ (some k_ ≠ (u342002 : Value).ownBlock ∧ (k_ ≠ gb338 ∧ (k_ ≠ gb341 ∧ k_ ≠ gb342))))) _ _ t364 t375 t376 t379 _ ?side1 A240.out).mono ?_); (case side1 => exact HOb.out); rintro e w244 ⟨v377, rfl, ho0, hb⟩; refine ⟨_, rfl, ?_⟩; replace HOb := zM (Kd.V_below (rv_ HOb) hb); have HO378 := zM (Kd.V_lower (Kd.V_mono (ok' := fun k_ => some k_ ≠ (u14 : Value).ownBlock ∧ some k_ ≠ (u342002 : Value).ownBlock ∧ k_ ≠ gb338 ∧ k_ ≠ gb341 ∧ k_ ≠ gb342) ho0 (fun k_ hk_ => ⟨Or.elim hk_ (fun hs_ => hs_.1) (fun hn_ => (Kd.fresh' (Kd.R_lt (rl_ HO_14)) k_ hn_)), Or.elim hk_ (fun hs_ => hs_.2.1) (fun hn_ => (Kd.fresh' (Kd.R_lt (rl_ HOa)) k_ hn_)), Or.elim hk_ (fun hs_ => hs_.2.2.1) (fun hn_ => (Kd.freshB (g := gb338) (o := .cells #[.int .i64 X9, .int .i64 a1_1, .int .i64 a1_2] 34 (0, 0)) blk_ k_ hn_)), Or.elim hk_ (fun hs_ => hs_.2.2.2.1) (fun hn_ => (Kd.freshB (g := gb341) (o := .cells #[.slice none 0 0, .int .i64 Xd, u342002] 61 (0, 0)) blk_ k_ hn_)), Or.elim hk_ (fun hs_ => hs_.2.2.2.2) (fun hn_ => (Kd.freshB (g := gb342) (o := .cells #[.bool t360, .int .i64 t361, .int .i64 t362, .int .i64 t363, .slice Ao188 t364.length co188] 38 (0, 0)) blk_ k_ hn_))⟩)) (below_size bel_)); replace HO_14 := zM (Kd.R_below (rl_ HO_14) hb); replace HOa := zM (Kd.R_below (rl_ HOa) hb); replace BK338 := zM (bb_ BK338 hb); replace BK341 := zM (bb_ BK341 hb); replace BK342 := zM (bb_ BK342 hb); replace HB := zM (zB bel_ hb); (try clear hb); (try clear ho0)))
                  have HC246 := zM H
                  clear H
                  go_upto_region 24 with (fail)
                  (try simp only [Act.put, zS, zZ, zC])
                  go_cut [123] (fun v123 wc => ∃ (kq : Nat) (x123_245 : Bool) (Xe : Int), v123 = .bool x123_245 ∧ Aside0 (ropewaylaw15_SnapRuns_f.j5 kq l2 (l2.length : Int) x65_2 x123_245 Xe Xc t360 t361 t362 t363 t364 = some r) ∧ Aside0 (kq ≤ kj198) ∧ Aside0 (Kd.R k34 34 wc w.heap.size (fun k_ => k_ ≠ gb338) u342002 Xc) ∧ Aside0 (Kd.V (Kd.slice 34 k34) 27 wc w.heap.size (fun k_ => some k_ ≠ (u342002 : Value).ownBlock ∧ k_ ≠ gb338 ∧ k_ ≠ gb341 ∧ k_ ≠ gb342) (.slice Ao188 t364.length co188) t364) ∧ Aside0 (wc.heap[gb338]? = some (.cells #[.int .i64 X9, .int .i64 a1_1, .int .i64 a1_2] 34 (0, 0))) ∧ Aside0 (wc.heap[gb341]? = some (.cells #[(.slice none 0 0), .int .i64 Xe, u342002] 61 (0, 0))) ∧ Aside0 (wc.heap[gb342]? = some (.cells #[.bool t360, .int .i64 t361, .int .i64 t362, .int .i64 t363, (.slice Ao188 t364.length co188)] 38 (0, 0))) ∧ Aside0 (Below w.heap.size w wc))
                  case first => as_aux_lemma =>
                   have H := HC246.out
                   clear HC246
                   by_cases c247 : x13_198 = t375
                   rotate_left
                   · rw [if_neg c247] at H
                     have c247b0 : (x13_198 == t375) = false := beq_eq_false_iff_ne.mpr c247
                     have c247b1 : (x13_198 != t375) = true := bne_iff_ne.mpr c247
                     (first | rw [c247b0] | (simp only [i64_w, i32_w]; rw [c247b0]) | skip)
                     have H' := zM H
                     clear H
                     try go_wp2
                     go_quiet (fail)
                     replace HO_14 := zM (Kd.R_drewN HO_14.out nq)
                     replace HOa := zM (Kd.R_drewN HOa.out nq)
                     replace HOb := zM (Kd.V_drewN HOb.out nq)
                     replace HO378 := zM (Kd.V_drewN HO378.out nq)
                     replace BK338 := zM (zN BK338.out nq)
                     replace BK341 := zM (zN BK341.out nq)
                     replace BK342 := zM (zN BK342.out nq)
                     replace HB := zM (pw_below_drewN HB.out nq)
                     generalize w244.drewN nq = w264 at HO_14 HOa HOb HO378 BK338 BK341 BK342 HB ⊢
                     try go_wp2
                     go_meet
                     case rel => exact ⟨_, (true), (Xd), (by first | rfl | (simp; done) | (simp [*]; done) | (simp; grind)), H', ⟨by have := HJ9.out; have := HK2.out; have := HJ51.out; have := HK4.out; have := HJ198.out; first | omega | exact Nat.le_refl _⟩, ⟨by (try simp only [hl11_4]); exact Kd.R_mono HOa.out (fun _ h => h.2)⟩, ⟨by (try simp only [hl11_4]); exact Kd.V_mono HOb.out (fun _ h => h.2)⟩, ⟨by (try simp only [hl11_4]); exact BK338.out⟩, ⟨by (try simp only [hl11_4]); exact BK341.out⟩, ⟨by (try simp only [hl11_4]); exact BK342.out⟩, ⟨bel_⟩⟩
                   as_aux_lemma =>
                    rw [if_pos c247] at H
                    have c247b0 : (x13_198 == t375) = true := beq_iff_eq.mpr c247
                    have c247b1 : (x13_198 != t375) = false := bne_eq_false_iff_eq.mpr c247
                    clear c247
                    (first | rw [c247b0] | (simp only [i64_w, i32_w]; rw [c247b0]) | skip)
                    replace H := Option.bind_eq_some_iff.mp H
                    obtain ⟨t380, A2480, H⟩ := H
                    replace H : (if t380 = true then (if (x15_198 != t379) = true then (ropewaylaw15_SnapRuns_f.j5 kj198 l2 (l2.length : Int) x65_2 true Xd Xc t360 t361 t362 t363 t364) else ((snap_Snap_Own.f ([] : List (S34)) Xd Xc).bind fun t381 => ((ropewayref15_Own.f t360 t361 t362 t363 t364).bind fun t382 => (ropewaylaw15_SnapRuns_f.j5 kj198 l2 (l2.length : Int) x65_2 (t381 != t382) Xd Xc t360 t361 t362 t363 t364)))) else (ropewaylaw15_SnapRuns_f.j5 kj198 l2 (l2.length : Int) x65_2 true Xd Xc t360 t361 t362 t363 t364)) = some r := H
                    have A248 := zM A2480
                    clear A2480
                    by_cases c249 : t380 = true
                    rotate_left
                    ·
                     as_aux_lemma =>
                      replace c249 := Bool.eq_false_iff.mpr c249
                      subst c249
                      have H1 : (ropewaylaw15_SnapRuns_f.j5 kj198 l2 (l2.length : Int) x65_2 true Xd Xc t360 t361 t362 t363 t364) = some r := by rw [if_neg (show ¬ (false = true) by decide)] at H; exact H
                      clear H
                      have H := H1
                      clear H1
                      have H' := zM H
                      clear H
                      try go_wp2
                      replace HO_14 := zM (Kd.R_drew HO_14.out)
                      replace HOa := zM (Kd.R_drew HOa.out)
                      replace HOb := zM (Kd.V_drew HOb.out)
                      replace HO378 := zM (Kd.V_drew HO378.out)
                      replace BK338 := zM (zD BK338.out)
                      replace BK341 := zM (zD BK341.out)
                      replace BK342 := zM (zD BK342.out)
                      replace HB := zM (below_drew1 HB.out)
                      obtain ⟨Ao262, co262, eo262⟩ := Kd.R_slice HO_14.out
                      (first | subst eo262 | (injection eo262 with f1_ f2_ f3_; have f4_ := f1_.symm; have f5_ := f3_.symm; clear f1_ f2_ f3_; subst f4_; subst f5_))
                      obtain ⟨Ao263, co263, eo263⟩ := Kd.V_slice HO378.out
                      (first | subst eo263 | (injection eo263 with f1_ f2_ f3_; have f4_ := f1_.symm; have f5_ := f3_.symm; clear f1_ f2_ f3_; subst f4_; subst f5_))
                      refine start_ (n := 21) (S := fun w' => True) (ds := []) #[F_, F_, F_, F_, F_, F_, F_, F_, F_, F_, F_, F_, F_, F_, F_, F_, F_, F_, F_, F_, F_] (by kernel_rfl) rfl rfl trivial (fun hHeld => ?_); refine with_tabW ropewaylaw15_SnapRuns_f.tab24 ropewaylaw15_SnapRuns_f.bits24 (fun HT_ HW_ => ?_)
                      generalize w244.drew = w261 at HO_14 HOa HOb HO378 BK338 BK341 BK342 HB hHeld ⊢
                      refine put_ HT_ 0 103 (dm_ 21 1) ?_
                      refine put_ HT_ 1 104 (dm_ 21 3) ?_
                      refine put_ HT_ 2 105 (dm_ 21 7) ?_
                      refine put_ HT_ 3 106 (dm_ 21 15) ?_
                      refine put_ HT_ 4 107 (dm_ 21 31) ?_
                      refine put_ HT_ 5 108 (dm_ 21 63) ?_
                      refine one_ (i := 6) (N := some 109) (dm_ 21 127) rfl rfl (one_of HT_.out (by kernel_rfl)) (by decide) (fun K hK => ?_)
                      first | refine goes_ Try.func18 (by kernel_rfl) rfl #[.slice Ao262 x14_198.length co262, .slice Ao263 t376.length co263] (by rfl) rfl rfl (by (try simp only [List.map_toArray, List.map_cons, List.map_nil]); first | done | rfl | (simp only [List.length_drop, List.length_take]; rfl)) ?_ | refine goesT_ Try.func18 (by kernel_rfl) rfl #[.slice Ao262 x14_198.length co262, .slice Ao263 t376.length co263] (by rfl) rfl rfl (by rfl) (by (try simp only [List.map_toArray, List.map_cons, List.map_nil]); first | done | rfl | (simp only [List.length_drop, List.length_take]; rfl)) ?_
                      with_reducible refine (ropewayref10_Same.calls kj198 _ _ x14_198 _ _ t376 false _ ?side1 ?side2 ?side3 ?side4 A248.out).mono ?_
                      (case side1 => exact (Kd.R_reads' HO_14.out).2.2)
                      (case side2 => exact (Kd.R_reads' HO_14.out).2.1)
                      (case side3 => repeat (first | exact (Kd.V_reads' HO378.out).2.2 | (with_reducible refine Kd.C_alloc ?_ _) | (with_reducible refine Kd.C_drewN ?_ _) | (with_reducible refine Kd.C_drew ?_)))
                      (case side4 => exact (Kd.V_reads' HO378.out).2.1)
                      rintro e w' ⟨rfl, ⟨nd, rfl⟩⟩
                      refine ⟨_, rfl, ?_⟩
                      refine hK.out _ _ trivial (fun hHeld => ?_)
                      clear hK K
                      refine norm_ (a' := ?_) ?_ ?_
                      rotate_left
                      · show Act.put _ (some 109) _ = _
                        simp only [Act.put, zS, zZ, zC, i64_w, i32_w]
                        rfl
                      refine put_ HT_ 7 110 (dm_ 21 255) ?_
                      refine put_ HT_ 8 111 (dm_ 21 511) ?_
                      refine put_ HT_ 9 112 (dm_ 21 1023) ?_
                      refine pzt_ HT_ 10 113 (dm_ 21 2047) ?_
                      refine pzt_ HT_ 11 114 (dm_ 21 4095) ?_
                      refine pzt_ HT_ 12 115 (dm_ 21 8191) ?_
                      refine put_ HT_ 13 116 (dm_ 21 16383) ?_
                      refine put_ HT_ 14 117 (dm_ 21 32767) ?_
                      refine pzt_ HT_ 15 118 (dm_ 21 65535) ?_
                      refine pzt_ HT_ 16 119 (dm_ 21 131071) ?_
                      refine pzt_ HT_ 17 120 (dm_ 21 262143) ?_
                      refine pzt_ HT_ 18 121 (dm_ 21 524287) ?_
                      refine pzt_ HT_ 19 122 (dm_ 21 1048575) ?_
                      refine put_ HT_ 20 123 (dm_ 21 2097151) ?_
                      refine done_ (done_of HT_.out (by kernel_rfl)) ?_
                      try go_wp2
                      go_meet
                      case rel => exact ⟨_, (true), (Xd), (by first | rfl | (simp; done) | (simp [*]; done) | (simp; grind)), H', ⟨by have := HJ9.out; have := HK2.out; have := HJ51.out; have := HK4.out; have := HJ198.out; first | omega | exact Nat.le_refl _⟩, ⟨by (try simp only [hl11_4]); exact Kd.R_mono HOa.out (fun _ h => h.2)⟩, ⟨by (try simp only [hl11_4]); exact Kd.V_mono HOb.out (fun _ h => h.2)⟩, ⟨by (try simp only [hl11_4]); exact BK338.out⟩, ⟨by (try simp only [hl11_4]); exact BK341.out⟩, ⟨by (try simp only [hl11_4]); exact BK342.out⟩, ⟨bel_⟩⟩
                    as_aux_lemma =>
                     subst c249
                     have H1 : (if (x15_198 != t379) = true then (ropewaylaw15_SnapRuns_f.j5 kj198 l2 (l2.length : Int) x65_2 true Xd Xc t360 t361 t362 t363 t364) else ((snap_Snap_Own.f ([] : List (S34)) Xd Xc).bind fun t381 => ((ropewayref15_Own.f t360 t361 t362 t363 t364).bind fun t382 => (ropewaylaw15_SnapRuns_f.j5 kj198 l2 (l2.length : Int) x65_2 (t381 != t382) Xd Xc t360 t361 t362 t363 t364)))) = some r := by rw [if_pos rfl] at H; exact H
                     clear H
                     have H := H1
                     clear H1
                     by_cases c250 : (x15_198 != t379) = true
                     ·
                      rw [if_pos c250] at H
                      have c250b0 : (x15_198 != t379) = true := c250
                      (try (have c250b1 : decide (x15_198 = t379) = false := by simpa using c250))
                      (try (have c250b2 : (x15_198 == t379) = false := by simpa using c250))
                      (try (have c250b3 : ¬ (x15_198 = t379) := by simpa using c250))
                      clear c250
                      have H' := zM H
                      clear H
                      try go_wp2
                      replace HO_14 := zM (Kd.R_drew HO_14.out)
                      replace HOa := zM (Kd.R_drew HOa.out)
                      replace HOb := zM (Kd.V_drew HOb.out)
                      replace HO378 := zM (Kd.V_drew HO378.out)
                      replace BK338 := zM (zD BK338.out)
                      replace BK341 := zM (zD BK341.out)
                      replace BK342 := zM (zD BK342.out)
                      replace HB := zM (below_drew1 HB.out)
                      obtain ⟨Ao252, co252, eo252⟩ := Kd.R_slice HO_14.out
                      (first | subst eo252 | (injection eo252 with f1_ f2_ f3_; have f4_ := f1_.symm; have f5_ := f3_.symm; clear f1_ f2_ f3_; subst f4_; subst f5_))
                      obtain ⟨Ao253, co253, eo253⟩ := Kd.V_slice HO378.out
                      (first | subst eo253 | (injection eo253 with f1_ f2_ f3_; have f4_ := f1_.symm; have f5_ := f3_.symm; clear f1_ f2_ f3_; subst f4_; subst f5_))
                      refine start_ (n := 21) (S := fun w' => True) (ds := []) #[F_, F_, F_, F_, F_, F_, F_, F_, F_, F_, F_, F_, F_, F_, F_, F_, F_, F_, F_, F_, F_] (by kernel_rfl) rfl rfl trivial (fun hHeld => ?_); refine with_tabW ropewaylaw15_SnapRuns_f.tab24 ropewaylaw15_SnapRuns_f.bits24 (fun HT_ HW_ => ?_)
                      generalize w244.drew = w251 at HO_14 HOa HOb HO378 BK338 BK341 BK342 HB hHeld ⊢
                      refine put_ HT_ 0 103 (dm_ 21 1) ?_
                      refine put_ HT_ 1 104 (dm_ 21 3) ?_
                      refine put_ HT_ 2 105 (dm_ 21 7) ?_
                      refine put_ HT_ 3 106 (dm_ 21 15) ?_
                      refine put_ HT_ 4 107 (dm_ 21 31) ?_
                      refine put_ HT_ 5 108 (dm_ 21 63) ?_
                      refine one_ (i := 6) (N := some 109) (dm_ 21 127) rfl rfl (one_of HT_.out (by kernel_rfl)) (by decide) (fun K hK => ?_)
                      first | refine goes_ Try.func18 (by kernel_rfl) rfl #[.slice Ao252 x14_198.length co252, .slice Ao253 t376.length co253] (by rfl) rfl rfl (by (try simp only [List.map_toArray, List.map_cons, List.map_nil]); first | done | rfl | (simp only [List.length_drop, List.length_take]; rfl)) ?_ | refine goesT_ Try.func18 (by kernel_rfl) rfl #[.slice Ao252 x14_198.length co252, .slice Ao253 t376.length co253] (by rfl) rfl rfl (by rfl) (by (try simp only [List.map_toArray, List.map_cons, List.map_nil]); first | done | rfl | (simp only [List.length_drop, List.length_take]; rfl)) ?_
                      with_reducible refine (ropewayref10_Same.calls kj198 _ _ x14_198 _ _ t376 true _ ?side1 ?side2 ?side3 ?side4 A248.out).mono ?_
                      (case side1 => exact (Kd.R_reads' HO_14.out).2.2)
                      (case side2 => exact (Kd.R_reads' HO_14.out).2.1)
                      (case side3 => repeat (first | exact (Kd.V_reads' HO378.out).2.2 | (with_reducible refine Kd.C_alloc ?_ _) | (with_reducible refine Kd.C_drewN ?_ _) | (with_reducible refine Kd.C_drew ?_)))
                      (case side4 => exact (Kd.V_reads' HO378.out).2.1)
                      rintro e w' ⟨rfl, ⟨nd, rfl⟩⟩
                      refine ⟨_, rfl, ?_⟩
                      refine hK.out _ _ trivial (fun hHeld => ?_)
                      clear hK K
                      refine norm_ (a' := ?_) ?_ ?_
                      rotate_left
                      · show Act.put _ (some 109) _ = _
                        simp only [Act.put, zS, zZ, zC, i64_w, i32_w]
                        rfl
                      refine put_ HT_ 7 110 (dm_ 21 255) ?_
                      refine put_ HT_ 8 111 (dm_ 21 511) ?_
                      refine put_ HT_ 9 112 (dm_ 21 1023) ?_
                      refine put_ HT_ 10 113 (dm_ 21 2047) ?_
                      refine put_ HT_ 11 114 (dm_ 21 4095) ?_
                      refine put_ HT_ 12 115 (dm_ 21 8191) ?_
                      refine put_ HT_ 13 116 (dm_ 21 16383) ?_
                      refine put_ HT_ 14 117 (dm_ 21 32767) ?_
                      refine pzt_ HT_ 15 118 (dm_ 21 65535) ?_
                      refine pzt_ HT_ 16 119 (dm_ 21 131071) ?_
                      refine pzt_ HT_ 17 120 (dm_ 21 262143) ?_
                      refine pzt_ HT_ 18 121 (dm_ 21 524287) ?_
                      refine pzt_ HT_ 19 122 (dm_ 21 1048575) ?_
                      refine put_ HT_ 20 123 (dm_ 21 2097151) ?_
                      refine done_ (done_of HT_.out (by kernel_rfl)) ?_
                      try go_wp2
                      go_meet
                      case rel => exact ⟨_, (true), (Xd), (by first | rfl | (simp; done) | (simp [*]; done) | (simp; grind)), H', ⟨by have := HJ9.out; have := HK2.out; have := HJ51.out; have := HK4.out; have := HJ198.out; first | omega | exact Nat.le_refl _⟩, ⟨by (try simp only [hl11_4]); exact Kd.R_mono HOa.out (fun _ h => h.2)⟩, ⟨by (try simp only [hl11_4]); exact Kd.V_mono HOb.out (fun _ h => h.2)⟩, ⟨by (try simp only [hl11_4]); exact BK338.out⟩, ⟨by (try simp only [hl11_4]); exact BK341.out⟩, ⟨by (try simp only [hl11_4]); exact BK342.out⟩, ⟨bel_⟩⟩
                     rw [if_neg c250] at H
                     have c250b0 : (x15_198 != t379) = false := by simpa using c250
                     (try (have c250b1 : decide (x15_198 = t379) = true := by simpa using c250))
                     (try (have c250b2 : (x15_198 == t379) = true := by simpa using c250))
                     clear c250
                     replace H := Option.bind_eq_some_iff.mp H
                     obtain ⟨t381, A2540, H⟩ := H
                     replace H : ((ropewayref15_Own.f t360 t361 t362 t363 t364).bind fun t382 => (ropewaylaw15_SnapRuns_f.j5 kj198 l2 (l2.length : Int) x65_2 (t381 != t382) Xd Xc t360 t361 t362 t363 t364)) = some r := H
                     have A254 := zM A2540
                     clear A2540
                     replace H := Option.bind_eq_some_iff.mp H
                     obtain ⟨t382, A2550, H⟩ := H
                     replace H : (ropewaylaw15_SnapRuns_f.j5 kj198 l2 (l2.length : Int) x65_2 (t381 != t382) Xd Xc t360 t361 t362 t363 t364) = some r := H
                     have A255 := zM A2550
                     clear A2550
                     have H' := zM H
                     clear H
                     try go_wp2
                     replace HO_14 := zM (Kd.R_drew HO_14.out)
                     replace HOa := zM (Kd.R_drew HOa.out)
                     replace HOb := zM (Kd.V_drew HOb.out)
                     replace HO378 := zM (Kd.V_drew HO378.out)
                     replace BK338 := zM (zD BK338.out)
                     replace BK341 := zM (zD BK341.out)
                     replace BK342 := zM (zD BK342.out)
                     replace HB := zM (below_drew1 HB.out)
                     obtain ⟨Ao257, co257, eo257⟩ := Kd.R_slice HO_14.out
                     (first | subst eo257 | (injection eo257 with f1_ f2_ f3_; have f4_ := f1_.symm; have f5_ := f3_.symm; clear f1_ f2_ f3_; subst f4_; subst f5_))
                     obtain ⟨Ao258, co258, eo258⟩ := Kd.V_slice HO378.out
                     (first | subst eo258 | (injection eo258 with f1_ f2_ f3_; have f4_ := f1_.symm; have f5_ := f3_.symm; clear f1_ f2_ f3_; subst f4_; subst f5_))
                     refine start_ (n := 21) (S := fun w' => cz5_ w' gb342 (.bool t360) (.int .i64 t361) (.int .i64 t362) (.int .i64 t363) (.slice Ao188 t364.length co188)) (ds := []) #[F_, F_, F_, F_, F_, F_, F_, F_, F_, F_, F_, F_, F_, F_, F_, F_, F_, F_, F_, F_, F_] (by kernel_rfl) rfl rfl (r5_ BK342.out) (fun hHeld => ?_); refine with_tabW ropewaylaw15_SnapRuns_f.tab24 ropewaylaw15_SnapRuns_f.bits24 (fun HT_ HW_ => ?_)
                     generalize w244.drew = w256 at HO_14 HOa HOb HO378 BK338 BK341 BK342 HB hHeld ⊢
                     refine put_ HT_ 0 103 (dm_ 21 1) ?_
                     refine put_ HT_ 1 104 (dm_ 21 3) ?_
                     refine put_ HT_ 2 105 (dm_ 21 7) ?_
                     refine put_ HT_ 3 106 (dm_ 21 15) ?_
                     refine put_ HT_ 4 107 (dm_ 21 31) ?_
                     refine put_ HT_ 5 108 (dm_ 21 63) ?_
                     refine one_ (i := 6) (N := some 109) (dm_ 21 127) rfl rfl (one_of HT_.out (by kernel_rfl)) (by decide) (fun K hK => ?_)
                     first | refine goes_ Try.func18 (by kernel_rfl) rfl #[.slice Ao257 x14_198.length co257, .slice Ao258 t376.length co258] (by rfl) rfl rfl (by (try simp only [List.map_toArray, List.map_cons, List.map_nil]); first | done | rfl | (simp only [List.length_drop, List.length_take]; rfl)) ?_ | refine goesT_ Try.func18 (by kernel_rfl) rfl #[.slice Ao257 x14_198.length co257, .slice Ao258 t376.length co258] (by rfl) rfl rfl (by rfl) (by (try simp only [List.map_toArray, List.map_cons, List.map_nil]); first | done | rfl | (simp only [List.length_drop, List.length_take]; rfl)) ?_
                     with_reducible refine (ropewayref10_Same.calls kj198 _ _ x14_198 _ _ t376 true _ ?side1 ?side2 ?side3 ?side4 A248.out).mono ?_
                     (case side1 => exact (Kd.R_reads' HO_14.out).2.2)
                     (case side2 => exact (Kd.R_reads' HO_14.out).2.1)
                     (case side3 => repeat (first | exact (Kd.V_reads' HO378.out).2.2 | (with_reducible refine Kd.C_alloc ?_ _) | (with_reducible refine Kd.C_drewN ?_ _) | (with_reducible refine Kd.C_drew ?_)))
                     (case side4 => exact (Kd.V_reads' HO378.out).2.1)
                     rintro e w' ⟨rfl, ⟨nd, rfl⟩⟩
                     refine ⟨_, rfl, ?_⟩
                     obtain ⟨Ao259, co259, eo259⟩ := Kd.R_slice HOa.out
                     (first | subst eo259 | (injection eo259 with f1_ f2_ f3_; have f4_ := f1_.symm; have f5_ := f3_.symm; clear f1_ f2_ f3_; subst f4_; subst f5_))
                     refine hK.out _ _ (r5_ BK342.out) (fun hHeld => ?_)
                     clear hK K
                     refine norm_ (a' := ?_) ?_ ?_
                     rotate_left
                     · show Act.put _ (some 109) _ = _
                       simp only [Act.put, zS, zZ, zC, i64_w, i32_w]
                       rfl
                     refine put_ HT_ 7 110 (dm_ 21 255) ?_
                     refine put_ HT_ 8 111 (dm_ 21 511) ?_
                     refine put_ HT_ 9 112 (dm_ 21 1023) ?_
                     refine put_ HT_ 10 113 (dm_ 21 2047) ?_
                     refine put_ HT_ 11 114 (dm_ 21 4095) ?_
                     refine put_ HT_ 12 115 (dm_ 21 8191) ?_
                     refine put_ HT_ 13 116 (dm_ 21 16383) ?_
                     refine put_ HT_ 14 117 (dm_ 21 32767) ?_
                     refine put_ HT_ 15 118 (dm_ 21 65535) ?_
                     refine tkt_ HT_ HW_ hHeld 17 120 (dm_ 21 196607) ?_
                     refine one_ (i := 16) (N := some 119) (dm_ 21 262143) rfl rfl (one_of HT_.out (by kernel_rfl)) (by decide) (fun K hK => ?_)
                     first | refine goes_ Try.func11 (by kernel_rfl) rfl #[.pointer (some ⟨gb341, 0, none⟩)] (by rfl) rfl rfl (by (try simp only [List.map_toArray, List.map_cons, List.map_nil]); first | done | rfl | (simp only [List.length_drop, List.length_take]; rfl)) ?_ | refine goesT_ Try.func11 (by kernel_rfl) rfl #[.pointer (some ⟨gb341, 0, none⟩)] (by rfl) rfl rfl (by rfl) (by (try simp only [List.map_toArray, List.map_cons, List.map_nil]); first | done | rfl | (simp only [List.length_drop, List.length_take]; rfl)) ?_
                     refine (snap_Snap_Own.calls gb341 none 0 ([] : List (S34)) Xd Ao259 co259 Xc t381 _ ?side1 ?side2 ?side3 ?side4 ?side5 A254.out).mono ?_
                     (case side1 => exact Kd.C_nil _ _)
                     (case side2 => exact Nat.le_refl _)
                     (case side3 => exact (Kd.R_reads' HOa.out).2.2)
                     (case side4 => exact (Kd.R_reads' HOa.out).2.1)
                     (case side5 => exact blf_)
                     rintro e w' ⟨rfl, ⟨nd, rfl⟩⟩
                     refine ⟨_, rfl, ?_⟩
                     refine hK.out _ _ (r5_ BK342.out) (fun hHeld => ?_)
                     clear hK K
                     refine norm_ (a' := ?_) ?_ ?_
                     rotate_left
                     · show Act.put _ (some 119) _ = _
                       simp only [Act.put, zS, zZ, zC, i64_w, i32_w]
                       rfl
                     refine one_ (i := 18) (N := some 121) (dm_ 21 524287) rfl rfl (one_of HT_.out (by kernel_rfl)) (by decide) (fun K hK => ?_)
                     first | refine goes_ Try.func19 (by kernel_rfl) rfl #[.agg #[.bool t360, .int .i64 t361, .int .i64 t362, .int .i64 t363, .slice Ao188 t364.length co188]] (by rfl) rfl rfl (by (try simp only [List.map_toArray, List.map_cons, List.map_nil]); first | done | rfl | (simp only [List.length_drop, List.length_take]; rfl)) ?_ | refine goesT_ Try.func19 (by kernel_rfl) rfl #[.agg #[.bool t360, .int .i64 t361, .int .i64 t362, .int .i64 t363, .slice Ao188 t364.length co188]] (by rfl) rfl rfl (by rfl) (by (try simp only [List.map_toArray, List.map_cons, List.map_nil]); first | done | rfl | (simp only [List.length_drop, List.length_take]; rfl)) ?_
                     with_reducible refine (ropewayref15_Own.calls t360 t361 t362 t363 _ _ t364 t382 _ ?side1 ?side2 A255.out).mono ?_
                     (case side1 => repeat (first | exact (Kd.V_reads' HOb.out).2.2 | (with_reducible refine Kd.C_alloc ?_ _) | (with_reducible refine Kd.C_drewN ?_ _) | (with_reducible refine Kd.C_drew ?_)))
                     (case side2 => exact (Kd.V_reads' HOb.out).2.1)
                     rintro e w260 ⟨rfl, hb⟩
                     refine ⟨_, rfl, ?_⟩
                     replace HO_14 := zM (Kd.R_below (rl_ HO_14) hb)
                     replace HOa := zM (Kd.R_below (rl_ HOa) hb)
                     replace HOb := zM (Kd.V_below (rv_ HOb) hb)
                     replace HO378 := zM (Kd.V_below (rv_ HO378) hb)
                     replace BK338 := zM (bb_ BK338 hb)
                     replace BK341 := zM (bb_ BK341 hb)
                     replace BK342 := zM (bb_ BK342 hb)
                     replace HB := zM (zB bel_ hb)
                     (try clear hb)
                     (try clear hb2)
                     (try clear hk)
                     (try clear hi)
                     refine hK.out _ _ (r5_ BK342.out) (fun hHeld => ?_)
                     clear hK K
                     refine norm_ (a' := ?_) ?_ ?_
                     rotate_left
                     · show Act.put _ (some 121) _ = _
                       simp only [Act.put, zS, zZ, zC, i64_w, i32_w]
                       rfl
                     refine put_ HT_ 19 122 (dm_ 21 1048575) ?_
                     refine put_ HT_ 20 123 (dm_ 21 2097151) ?_
                     refine done_ (done_of HT_.out (by kernel_rfl)) ?_
                     try go_wp2
                     go_meet
                     case rel => exact ⟨_, ((t381 != t382)), (Xd), (by first | rfl | (simp; done) | (simp [*]; done) | (simp; grind)), H', ⟨by have := HJ9.out; have := HK2.out; have := HJ51.out; have := HK4.out; have := HJ198.out; first | omega | exact Nat.le_refl _⟩, ⟨by (try simp only [hl11_4]); exact Kd.R_mono HOa.out (fun _ h => h.2)⟩, ⟨by (try simp only [hl11_4]); exact Kd.V_mono HOb.out (fun _ h => h.2)⟩, ⟨by (try simp only [hl11_4]); exact BK338.out⟩, ⟨by (try simp only [hl11_4]); exact BK341.out⟩, ⟨by (try simp only [hl11_4]); exact BK342.out⟩, ⟨bel_⟩⟩
                  case rest =>
                   clear HC246
                   try clear c2
                   try clear c11
                   try clear c25
                   try clear c247
                   try clear c247b0
                   try clear c247b1
                   try clear c249
                   try clear c250
                   try clear c250b0
                   try clear c250b1
                   try clear c250b2
                   obtain ⟨kq, x123_245, Xe, rfl, HA, HJ245, HOa, HOb, BK338, BK341, BK342, HB⟩ := hcut
                   cases kq with
                   | zero => exact absurd HA.out (by simp [ropewaylaw15_SnapRuns_f.j5])
                   | succ kj245 =>
                    have H := HA.out
                    clear HA
                    simp only [ropewaylaw15_SnapRuns_f.j5] at H
                    by_cases c265 : x123_245 = true
                    · subst c265
                      have H1 : (some false) = some r := by rw [if_pos rfl] at H; exact H
                      clear H
                      have H := H1
                      clear H1
                      exact absurd (Option.some.inj H) (by rw [hr1_.out]; decide)
                    replace c265 := Bool.eq_false_iff.mpr c265
                    subst c265
                    have H1 : (ropewaylaw15_SnapRuns_f.l0 kj245 l2 (l2.length : Int) (wrap64 (x65_2 + 1)) Xe Xc t360 t361 t362 t363 t364) = some r := by rw [if_neg (show ¬ (false = true) by decide)] at H; exact H
                    clear H
                    have H := H1
                    clear H1
                    have H' := zM H
                    clear H
                    go_wp2
                    (try simp only [← hl11_4])
                    go_roundg kj245
                    case measure => have := HJ9.out; have := HK2.out; have := HJ51.out; have := HK4.out; have := HJ198.out; have := HJ245.out; omega
                    case rel => exact ⟨(wrap64 (x65_2 + 1)), (X9), (Xe), (Xc), (t360), (t361), (t362), (t363), (t364), (u342002), (.slice Ao188 t364.length co188), (by first | rfl | (simp; done) | (simp [*]; done) | (simp; grind)), H', ⟨by have := HJ9.out; have := HK2.out; have := HJ51.out; have := HK4.out; have := HJ198.out; have := HJ245.out; omega⟩, ⟨by (try simp only [hl11_4]); exact HOa.out⟩, ⟨by (try simp only [hl11_4]); exact HOb.out⟩, ⟨by (try simp only [hl11_4]); exact BK338.out⟩, ⟨by (try simp only [hl11_4]); exact BK341.out⟩, ⟨by (try simp only [hl11_4]); exact BK342.out⟩, ⟨bel_⟩⟩

end Go.Proofs.Ytoelfknhnmhlmaa.PSnapRuns
