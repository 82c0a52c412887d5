/- Written by a program of this session (wip/tool/px.py) over the kit's print: what the code that the law SnapRuns reaches computes, function by function, and the law's row. -/
import Derived.Test.YtoelfknhnmhlmaaSSnapRunsXWEnd
import Derived.Test.YtoelfknhnmhlmaaPSnapRunsx0
import Derived.Test.YtoelfknhnmhlmaaPSnapRunsx1
import Derived.Test.YtoelfknhnmhlmaaPSnapRunsx3
import Derived.Test.YtoelfknhnmhlmaaPSnapRunsx6
import Derived.Test.YtoelfknhnmhlmaaPSnapRunsx7
import Derived.Test.YtoelfknhnmhlmaaPSnapRunsx8
import Derived.Test.YtoelfknhnmhlmaaPSnapRunsx10
namespace Go.Proofs.Ytoelfknhnmhlmaa.PSnapRuns
open Go.RowKit Go.Proofs.YtoelfknhnmhlmaaX Go.Proofs.YtoelfknhnmhlmaaW.PrintWords Go.Proofs.YtoelfknhnmhlmaaW.PrintLast Go.Proofs.YtoelfknhnmhlmaaW.PrintMore
open List renaming setIfInBounds_toArray → zS, set_cons_zero → zZ, set_cons_succ → zC
open Go.Proofs.YtoelfknhnmhlmaaW.PrintWords renaming blk_drewN → zN, blk_drew → zD, blk_alloc → zA, blk_cell → zL, below_step → zB
open Go.Proofs.YtoelfknhnmhlmaaW.PrintWords.Aside0 renaming mk → zM
attribute [local go_sem] max2_int min2_int max_two min_two max_three min_three max_four min_four   -- for this text's walks alone
set_option linter.unusedVariables false
set_option linter.unusedSimpArgs false

attribute [local go_sem] px_nilq27
attribute [local go_sem high] eqA26
/-! ### ropewaylaw15_SnapRuns_t: function 4 -/
mutual
def ropewaylaw15_SnapRuns_t.j0 : Nat → List (List (S34)) → Bool → Int → Int → Int → Option (Bool)
  | 0, _, _, _, _, _ => none
  | k + 1, x2, x52, x259000, x259001, x259002 => if x52 = true then (some true) else (ropewaylaw15_SnapRuns_t.l0 k x2 (x2.length : Int) 0 (([(⟨x259000, (⟨x259001, x259002⟩ : S26)⟩ : S34)] : List (S34))) 0 ([] : List (S34)) true x259000 x259001 x259002 ([] : List (List (S34))))
def ropewaylaw15_SnapRuns_t.l0 : Nat → List (List (S34)) → Int → Int → List (S34) → Int → List (S34) → Bool → Int → Int → Int → List (List (S34)) → Option (Bool)
  | 0, _, _, _, _, _, _, _, _, _, _, _ => none
  | k + 1, x63, x64, x65, x267000, x267001, x267002, x268000, x268001, x268002, x268003, x268004 => if x65 < x64 then (if 0 ≤ x65 then (if x65 < (x63.length : Int) then ((ropewayref10_Check.f k (rd_L3 x63 x65)).bind fun t269 => (if t269 = 0 then ((some (([] : List (S34)) : List (S34))).bind fun y270 => (if y270.length + (rd_L3 x63 x65).length < 5864062014805 then ((some (y270 ++ (rd_L3 x63 x65) : List (S34))).bind fun y273 => (if x267001 = 0 then ((api_Cell.f y273).bind fun t276 => (if (y273.length : Int) = 0 then ((snap_Snap_update.f x267000 (wrap64 (x267001 + 1)) t276).bind fun t279 => (if t279 = true then (ropewaylaw15_SnapRuns_t.j2 k (rd_L3 x63 x65) y273 x63 x64 x65 x267000 (wrap64 (x267001 + 1)) t276 x268000 x268001 x268002 x268003 x268004) else (ropewaylaw15_SnapRuns_t.j2 k (rd_L3 x63 x65) y273 x63 x64 x65 x267000 4 t276 x268000 x268001 x268002 x268003 x268004))) else (ropewaylaw15_SnapRuns_t.j2 k (rd_L3 x63 x65) y273 x63 x64 x65 x267000 (wrap64 (x267001 + 1)) t276 x268000 x268001 x268002 x268003 x268004))) else (if x267001 = 2 then ((api_Cell.f y273).bind fun t280 => (if (y273.length : Int) = 0 then ((snap_Snap_update.f x267000 (wrap64 (x267001 + 1)) t280).bind fun t283 => (if t283 = true then (ropewaylaw15_SnapRuns_t.j2 k (rd_L3 x63 x65) y273 x63 x64 x65 x267000 (wrap64 (x267001 + 1)) t280 x268000 x268001 x268002 x268003 x268004) else (ropewaylaw15_SnapRuns_t.j2 k (rd_L3 x63 x65) y273 x63 x64 x65 x267000 4 t280 x268000 x268001 x268002 x268003 x268004))) else (ropewaylaw15_SnapRuns_t.j2 k (rd_L3 x63 x65) y273 x63 x64 x65 x267000 (wrap64 (x267001 + 1)) t280 x268000 x268001 x268002 x268003 x268004))) else (if x267001 = 1 then ((snap_Snap_update.f x267000 2 x267002).bind fun t284 => (if t284 = true then (ropewaylaw15_SnapRuns_t.j2 k (rd_L3 x63 x65) y273 x63 x64 x65 x267000 4 x267002 x268000 x268001 x268002 x268003 x268004) else (ropewaylaw15_SnapRuns_t.j2 k (rd_L3 x63 x65) y273 x63 x64 x65 x267000 2 x267002 x268000 x268001 x268002 x268003 x268004))) else (if x267001 = 3 then (ropewaylaw15_SnapRuns_t.j2 k (rd_L3 x63 x65) y273 x63 x64 x65 x267000 4 x267002 x268000 x268001 x268002 x268003 x268004) else (ropewaylaw15_SnapRuns_t.j2 k (rd_L3 x63 x65) y273 x63 x64 x65 x267000 x267001 x267002 x268000 x268001 x268002 x268003 x268004)))))) else (none))) else (some true))) else (none)) else (none)) else (if x267001 = 4 then (ropewaylaw15_SnapRuns_t.j6 k 0 ([] : List (S34)) false x267000 x267001 x267002 x268000 x268001 x268002 x268003 x268004) else (if x267001 = 0 then (ropewaylaw15_SnapRuns_t.j6 k 0 ([] : List (S34)) true x267000 x267001 x267002 x268000 x268001 x268002 x268003 x268004) else (if x267001 = 2 then (ropewaylaw15_SnapRuns_t.j6 k 0 ([] : List (S34)) true x267000 x267001 x267002 x268000 x268001 x268002 x268003 x268004) else ((snap_Snap_Own.f x267000 x267001 x267002).bind fun t308 => (if t308 = true then ((api_Cell.f x267000).bind fun t309 => (ropewaylaw15_SnapRuns_t.j6 k 1 t309 true x267000 x267001 x267002 x268000 x268001 x268002 x268003 x268004)) else ((api_Cell.f x267002).bind fun t312 => (ropewaylaw15_SnapRuns_t.j6 k 1 t312 true x267000 x267001 x267002 x268000 x268001 x268002 x268003 x268004)))))))
def ropewaylaw15_SnapRuns_t.j2 : Nat → List (S34) → List (S34) → List (List (S34)) → Int → Int → List (S34) → Int → List (S34) → Bool → Int → Int → Int → List (List (S34)) → Option (Bool)
  | 0, _, _, _, _, _, _, _, _, _, _, _, _, _ => none
  | k + 1, x10, x11, x63, x64, x65, x267000, x267001, x267002, x268000, x268001, x268002, x268003, x268004 => (ropewayref15_Got.f x268000 x268001 x268002 x268003 x268004 x10).bind fun bt285 => (ropewaylaw15_SnapRuns_t.l1 k x11 x63 x64 x65 (x11.length : Int) 0 x267000 x267001 x267002 bt285.1 bt285.2.1 bt285.2.2.1 bt285.2.2.2.1 bt285.2.2.2.2)
def ropewaylaw15_SnapRuns_t.l1 : Nat → List (S34) → List (List (S34)) → Int → Int → Int → Int → List (S34) → Int → List (S34) → Bool → Int → Int → Int → List (List (S34)) → Option (Bool)
  | 0, _, _, _, _, _, _, _, _, _, _, _, _, _, _ => none
  | k + 1, x11, x63, x64, x65, x82, x83, x267000, x267001, x267002, x268000, x268001, x268002, x268003, x268004 => if x83 < x82 then (if 0 ≤ x83 then (if x83 < (x11.length : Int) then (ropewaylaw15_SnapRuns_t.l1 k (x11.set (x83 : Int).toNat (⟨77, (⟨(rd_T34 x11 x83).f1.f0, (rd_T34 x11 x83).f1.f1⟩ : S26)⟩ : S34)) x63 x64 x65 x82 (wrap64 (x83 + 1)) x267000 x267001 x267002 x268000 x268001 x268002 x268003 x268004) else (none)) else (none)) else (if x267001 = 4 then (ropewaylaw15_SnapRuns_t.j4 k 0 ([] : List (S34)) false x63 x64 x65 x267000 x267001 x267002 x268000 x268001 x268002 x268003 x268004) else (if x267001 = 0 then (ropewaylaw15_SnapRuns_t.j4 k 0 ([] : List (S34)) true x63 x64 x65 x267000 x267001 x267002 x268000 x268001 x268002 x268003 x268004) else (if x267001 = 2 then (ropewaylaw15_SnapRuns_t.j4 k 0 ([] : List (S34)) true x63 x64 x65 x267000 x267001 x267002 x268000 x268001 x268002 x268003 x268004) else ((snap_Snap_Own.f x267000 x267001 x267002).bind fun t293 => (if t293 = true then ((api_Cell.f x267000).bind fun t294 => (ropewaylaw15_SnapRuns_t.j4 k 1 t294 true x63 x64 x65 x267000 x267001 x267002 x268000 x268001 x268002 x268003 x268004)) else ((api_Cell.f x267002).bind fun t297 => (ropewaylaw15_SnapRuns_t.j4 k 1 t297 true x63 x64 x65 x267000 x267001 x267002 x268000 x268001 x268002 x268003 x268004)))))))
def ropewaylaw15_SnapRuns_t.j4 : Nat → Int → List (S34) → Bool → List (List (S34)) → Int → Int → List (S34) → Int → List (S34) → Bool → Int → Int → Int → List (List (S34)) → Option (Bool)
  | 0, _, _, _, _, _, _, _, _, _, _, _, _, _, _ => none
  | k + 1, x13, x14, x15, x63, x64, x65, x267000, x267001, x267002, x268000, x268001, x268002, x268003, x268004 => (ropewayref15_Need.f x268000 x268001 x268002 x268003 x268004).bind fun bt300 => (if x13 = bt300.1 then ((ropewayref10_Same.f k x14 bt300.2.1).bind fun t305 => (if t305 = true then (if (x15 != bt300.2.2) = true then (ropewaylaw15_SnapRuns_t.j5 k x63 x64 x65 true x267000 x267001 x267002 x268000 x268001 x268002 x268003 x268004) else ((snap_Snap_Own.f x267000 x267001 x267002).bind fun t306 => ((ropewayref15_Own.f x268000 x268001 x268002 x268003 x268004).bind fun t307 => (ropewaylaw15_SnapRuns_t.j5 k x63 x64 x65 (t306 != t307) x267000 x267001 x267002 x268000 x268001 x268002 x268003 x268004)))) else (ropewaylaw15_SnapRuns_t.j5 k x63 x64 x65 true x267000 x267001 x267002 x268000 x268001 x268002 x268003 x268004))) else (ropewaylaw15_SnapRuns_t.j5 k x63 x64 x65 true x267000 x267001 x267002 x268000 x268001 x268002 x268003 x268004))
def ropewaylaw15_SnapRuns_t.j5 : Nat → List (List (S34)) → Int → Int → Bool → List (S34) → Int → List (S34) → Bool → Int → Int → Int → List (List (S34)) → Option (Bool)
  | 0, _, _, _, _, _, _, _, _, _, _, _, _ => none
  | k + 1, x63, x64, x65, x123, x267000, x267001, x267002, x268000, x268001, x268002, x268003, x268004 => if x123 = true then (some false) else (ropewaylaw15_SnapRuns_t.l0 k x63 x64 (wrap64 (x65 + 1)) x267000 x267001 x267002 x268000 x268001 x268002 x268003 x268004)
def ropewaylaw15_SnapRuns_t.j6 : Nat → Int → List (S34) → Bool → List (S34) → Int → List (S34) → Bool → Int → Int → Int → List (List (S34)) → Option (Bool)
  | 0, _, _, _, _, _, _, _, _, _, _, _ => none
  | k + 1, x19, x20, x21, x267000, x267001, x267002, x268000, x268001, x268002, x268003, x268004 => ropewaylaw15_SnapRuns_t.l2 k x19 x20 x21 (x20.length : Int) 0 x267000 x267001 x267002 x268000 x268001 x268002 x268003 x268004
def ropewaylaw15_SnapRuns_t.l2 : Nat → Int → List (S34) → Bool → Int → Int → List (S34) → Int → List (S34) → Bool → Int → Int → Int → List (List (S34)) → Option (Bool)
  | 0, _, _, _, _, _, _, _, _, _, _, _, _, _ => none
  | k + 1, x19, x20, x21, x132, x133, x267000, x267001, x267002, x268000, x268001, x268002, x268003, x268004 => if x133 < x132 then (if 0 ≤ x133 then (if x133 < (x20.length : Int) then (ropewaylaw15_SnapRuns_t.l2 k x19 (x20.set (x133 : Int).toNat (⟨77, (⟨(rd_T34 x20 x133).f1.f0, (rd_T34 x20 x133).f1.f1⟩ : S26)⟩ : S34)) x21 x132 (wrap64 (x133 + 1)) x267000 x267001 x267002 x268000 x268001 x268002 x268003 x268004) else (none)) else (none)) else (if x267001 = 4 then (ropewaylaw15_SnapRuns_t.j8 k x19 x21 0 ([] : List (S34)) false x267000 x267001 x267002 x268000 x268001 x268002 x268003 x268004) else (if x267001 = 0 then (ropewaylaw15_SnapRuns_t.j8 k x19 x21 0 ([] : List (S34)) true x267000 x267001 x267002 x268000 x268001 x268002 x268003 x268004) else (if x267001 = 2 then (ropewaylaw15_SnapRuns_t.j8 k x19 x21 0 ([] : List (S34)) true x267000 x267001 x267002 x268000 x268001 x268002 x268003 x268004) else ((snap_Snap_Own.f x267000 x267001 x267002).bind fun t316 => (if t316 = true then ((api_Cell.f x267000).bind fun t317 => (ropewaylaw15_SnapRuns_t.j8 k x19 x21 1 t317 true x267000 x267001 x267002 x268000 x268001 x268002 x268003 x268004)) else ((api_Cell.f x267002).bind fun t320 => (ropewaylaw15_SnapRuns_t.j8 k x19 x21 1 t320 true x267000 x267001 x267002 x268000 x268001 x268002 x268003 x268004)))))))
def ropewaylaw15_SnapRuns_t.j8 : Nat → Int → Bool → Int → List (S34) → Bool → List (S34) → Int → List (S34) → Bool → Int → Int → Int → List (List (S34)) → Option (Bool)
  | 0, _, _, _, _, _, _, _, _, _, _, _, _, _ => none
  | k + 1, x19, x21, x23, x24, x25, x267000, x267001, x267002, x268000, x268001, x268002, x268003, x268004 => if x19 = x23 then (if (x21 == x25) = true then (if (x24.length : Int) = 0 then (if x21 = true then (some true) else ((snap_Snap_Found.f k x267000 x267001 x267002).bind fun t323 => ((ropewayref15_Found.f k x268000 x268001 x268002 x268003 x268004).bind fun t326 => ((ropewayref05_Same.f k t323 t326).bind fun t329 => (some t329))))) else (if 0 < (x24.length : Int) then (if ((rd_T34 x24 0).f0) = 77 then (some false) else (if x21 = true then (some true) else ((snap_Snap_Found.f k x267000 x267001 x267002).bind fun t331 => ((ropewayref15_Found.f k x268000 x268001 x268002 x268003 x268004).bind fun t334 => ((ropewayref05_Same.f k t331 t334).bind fun t337 => (some t337)))))) else (none))) else (some false)) else (some false)
end
def ropewaylaw15_SnapRuns_t.f (k : Nat)  (a1_0 : Int) (a1_1 : Int) (a1_2 : Int) (l2 : List (List (S34))) : Option (Bool) := (ropewaylaw15_snapAlive.f k).bind fun t259 => (if t259 = true then (if (l2.length : Int) > 20 then (ropewaylaw15_SnapRuns_t.j0 k l2 true a1_0 a1_1 a1_2) else (if a1_0 < 0 then (ropewaylaw15_SnapRuns_t.j0 k l2 true a1_0 a1_1 a1_2) else (if a1_0 > 5 then (ropewaylaw15_SnapRuns_t.j0 k l2 true a1_0 a1_1 a1_2) else ((ropewayref04_Right.f a1_1 a1_2).bind fun t260 => (if t260 = true then (ropewaylaw15_SnapRuns_t.j0 k l2 (a1_1 == 0 && (a1_2 == 0)) a1_0 a1_1 a1_2) else (ropewaylaw15_SnapRuns_t.j0 k l2 true a1_0 a1_1 a1_2)))))) else (some false))
theorem ropewaylaw15_SnapRuns_t.mono_l : ∀ k, (∀ y0 y1 y2 y3 y4, LeO (ropewaylaw15_SnapRuns_t.j0 k y0 y1 y2 y3 y4) (ropewaylaw15_SnapRuns_t.j0 (k + 1) y0 y1 y2 y3 y4)) ∧ (∀ y0 y1 y2 y3 y4 y5 y6 y7 y8 y9 y10, LeO (ropewaylaw15_SnapRuns_t.l0 k y0 y1 y2 y3 y4 y5 y6 y7 y8 y9 y10) (ropewaylaw15_SnapRuns_t.l0 (k + 1) y0 y1 y2 y3 y4 y5 y6 y7 y8 y9 y10)) ∧ (∀ y0 y1 y2 y3 y4 y5 y6 y7 y8 y9 y10 y11 y12, LeO (ropewaylaw15_SnapRuns_t.j2 k y0 y1 y2 y3 y4 y5 y6 y7 y8 y9 y10 y11 y12) (ropewaylaw15_SnapRuns_t.j2 (k + 1) y0 y1 y2 y3 y4 y5 y6 y7 y8 y9 y10 y11 y12)) ∧ (∀ y0 y1 y2 y3 y4 y5 y6 y7 y8 y9 y10 y11 y12 y13, LeO (ropewaylaw15_SnapRuns_t.l1 k y0 y1 y2 y3 y4 y5 y6 y7 y8 y9 y10 y11 y12 y13) (ropewaylaw15_SnapRuns_t.l1 (k + 1) y0 y1 y2 y3 y4 y5 y6 y7 y8 y9 y10 y11 y12 y13)) ∧ (∀ y0 y1 y2 y3 y4 y5 y6 y7 y8 y9 y10 y11 y12 y13, LeO (ropewaylaw15_SnapRuns_t.j4 k y0 y1 y2 y3 y4 y5 y6 y7 y8 y9 y10 y11 y12 y13) (ropewaylaw15_SnapRuns_t.j4 (k + 1) y0 y1 y2 y3 y4 y5 y6 y7 y8 y9 y10 y11 y12 y13)) ∧ (∀ y0 y1 y2 y3 y4 y5 y6 y7 y8 y9 y10 y11, LeO (ropewaylaw15_SnapRuns_t.j5 k y0 y1 y2 y3 y4 y5 y6 y7 y8 y9 y10 y11) (ropewaylaw15_SnapRuns_t.j5 (k + 1) y0 y1 y2 y3 y4 y5 y6 y7 y8 y9 y10 y11)) ∧ (∀ y0 y1 y2 y3 y4 y5 y6 y7 y8 y9 y10, LeO (ropewaylaw15_SnapRuns_t.j6 k y0 y1 y2 y3 y4 y5 y6 y7 y8 y9 y10) (ropewaylaw15_SnapRuns_t.j6 (k + 1) y0 y1 y2 y3 y4 y5 y6 y7 y8 y9 y10)) ∧ (∀ y0 y1 y2 y3 y4 y5 y6 y7 y8 y9 y10 y11 y12, LeO (ropewaylaw15_SnapRuns_t.l2 k y0 y1 y2 y3 y4 y5 y6 y7 y8 y9 y10 y11 y12) (ropewaylaw15_SnapRuns_t.l2 (k + 1) y0 y1 y2 y3 y4 y5 y6 y7 y8 y9 y10 y11 y12)) ∧ (∀ y0 y1 y2 y3 y4 y5 y6 y7 y8 y9 y10 y11 y12, LeO (ropewaylaw15_SnapRuns_t.j8 k y0 y1 y2 y3 y4 y5 y6 y7 y8 y9 y10 y11 y12) (ropewaylaw15_SnapRuns_t.j8 (k + 1) y0 y1 y2 y3 y4 y5 y6 y7 y8 y9 y10 y11 y12))
  | 0 => ⟨fun _ _ _ _ _ r h => by simp [ropewaylaw15_SnapRuns_t.j0] at h, fun _ _ _ _ _ _ _ _ _ _ _ r h => by simp [ropewaylaw15_SnapRuns_t.l0] at h, fun _ _ _ _ _ _ _ _ _ _ _ _ _ r h => by simp [ropewaylaw15_SnapRuns_t.j2] at h, fun _ _ _ _ _ _ _ _ _ _ _ _ _ _ r h => by simp [ropewaylaw15_SnapRuns_t.l1] at h, fun _ _ _ _ _ _ _ _ _ _ _ _ _ _ r h => by simp [ropewaylaw15_SnapRuns_t.j4] at h, fun _ _ _ _ _ _ _ _ _ _ _ _ r h => by simp [ropewaylaw15_SnapRuns_t.j5] at h, fun _ _ _ _ _ _ _ _ _ _ _ r h => by simp [ropewaylaw15_SnapRuns_t.j6] at h, fun _ _ _ _ _ _ _ _ _ _ _ _ _ r h => by simp [ropewaylaw15_SnapRuns_t.l2] at h, fun _ _ _ _ _ _ _ _ _ _ _ _ _ r h => by simp [ropewaylaw15_SnapRuns_t.j8] at h⟩
  | k + 1 => by
    obtain ⟨ih0, ih1, ih2, ih3, ih4, ih5, ih6, ih7, ih8⟩ := ropewaylaw15_SnapRuns_t.mono_l k
    refine ⟨?_, ?_, ?_, ?_, ?_, ?_, ?_, ?_, ?_⟩
    · intro y0 y1 y2 y3 y4
      unfold ropewaylaw15_SnapRuns_t.j0
      repeat' first
      | (with_reducible exact ih0 _ _ _ _ _)
      | (with_reducible exact ih1 _ _ _ _ _ _ _ _ _ _ _)
      | (with_reducible exact ih2 _ _ _ _ _ _ _ _ _ _ _ _ _)
      | (with_reducible exact ih3 _ _ _ _ _ _ _ _ _ _ _ _ _ _)
      | (with_reducible exact ih4 _ _ _ _ _ _ _ _ _ _ _ _ _ _)
      | (with_reducible exact ih5 _ _ _ _ _ _ _ _ _ _ _ _)
      | (with_reducible exact ih6 _ _ _ _ _ _ _ _ _ _ _)
      | (with_reducible exact ih7 _ _ _ _ _ _ _ _ _ _ _ _ _)
      | (with_reducible exact ih8 _ _ _ _ _ _ _ _ _ _ _ _ _)
      | (with_reducible exact ropewaylaw15_snapAlive.mono _)
      | (with_reducible exact ropewayref05_Same.mono _ _ _)
      | (with_reducible exact ropewayref10_Check.mono _ _)
      | (with_reducible exact ropewayref10_Same.mono _ _ _)
      | (with_reducible exact ropewayref15_Found.mono _ _ _ _ _ _)
      | (with_reducible exact snap_Snap_Found.mono _ _ _ _)
      | (with_reducible exact LeO.refl _)
      | (with_reducible exact LeO.none _)
      | (with_reducible refine LeO.ite ?_ ?_)
      | (with_reducible refine LeO.bind ?_ (fun _ => ?_))
      | exact ih0 _ _ _ _ _
      | exact ih1 _ _ _ _ _ _ _ _ _ _ _
      | exact ih2 _ _ _ _ _ _ _ _ _ _ _ _ _
      | exact ih3 _ _ _ _ _ _ _ _ _ _ _ _ _ _
      | exact ih4 _ _ _ _ _ _ _ _ _ _ _ _ _ _
      | exact ih5 _ _ _ _ _ _ _ _ _ _ _ _
      | exact ih6 _ _ _ _ _ _ _ _ _ _ _
      | exact ih7 _ _ _ _ _ _ _ _ _ _ _ _ _
      | exact ih8 _ _ _ _ _ _ _ _ _ _ _ _ _
      | exact ropewaylaw15_snapAlive.mono _
      | exact ropewayref05_Same.mono _ _ _
      | exact ropewayref10_Check.mono _ _
      | exact ropewayref10_Same.mono _ _ _
      | exact ropewayref15_Found.mono _ _ _ _ _ _
      | exact snap_Snap_Found.mono _ _ _ _
      | exact LeO.none _
      | refine LeO.ite ?_ ?_
      | refine LeO.bind ?_ (fun _ => ?_)
    · intro y0 y1 y2 y3 y4 y5 y6 y7 y8 y9 y10
      unfold ropewaylaw15_SnapRuns_t.l0
      repeat' first
      | (with_reducible exact ih0 _ _ _ _ _)
      | (with_reducible exact ih1 _ _ _ _ _ _ _ _ _ _ _)
      | (with_reducible exact ih2 _ _ _ _ _ _ _ _ _ _ _ _ _)
      | (with_reducible exact ih3 _ _ _ _ _ _ _ _ _ _ _ _ _ _)
      | (with_reducible exact ih4 _ _ _ _ _ _ _ _ _ _ _ _ _ _)
      | (with_reducible exact ih5 _ _ _ _ _ _ _ _ _ _ _ _)
      | (with_reducible exact ih6 _ _ _ _ _ _ _ _ _ _ _)
      | (with_reducible exact ih7 _ _ _ _ _ _ _ _ _ _ _ _ _)
      | (with_reducible exact ih8 _ _ _ _ _ _ _ _ _ _ _ _ _)
      | (with_reducible exact ropewaylaw15_snapAlive.mono _)
      | (with_reducible exact ropewayref05_Same.mono _ _ _)
      | (with_reducible exact ropewayref10_Check.mono _ _)
      | (with_reducible exact ropewayref10_Same.mono _ _ _)
      | (with_reducible exact ropewayref15_Found.mono _ _ _ _ _ _)
      | (with_reducible exact snap_Snap_Found.mono _ _ _ _)
      | (with_reducible exact LeO.refl _)
      | (with_reducible exact LeO.none _)
      | (with_reducible refine LeO.ite ?_ ?_)
      | (with_reducible refine LeO.bind ?_ (fun _ => ?_))
      | exact ih0 _ _ _ _ _
      | exact ih1 _ _ _ _ _ _ _ _ _ _ _
      | exact ih2 _ _ _ _ _ _ _ _ _ _ _ _ _
      | exact ih3 _ _ _ _ _ _ _ _ _ _ _ _ _ _
      | exact ih4 _ _ _ _ _ _ _ _ _ _ _ _ _ _
      | exact ih5 _ _ _ _ _ _ _ _ _ _ _ _
      | exact ih6 _ _ _ _ _ _ _ _ _ _ _
      | exact ih7 _ _ _ _ _ _ _ _ _ _ _ _ _
      | exact ih8 _ _ _ _ _ _ _ _ _ _ _ _ _
      | exact ropewaylaw15_snapAlive.mono _
      | exact ropewayref05_Same.mono _ _ _
      | exact ropewayref10_Check.mono _ _
      | exact ropewayref10_Same.mono _ _ _
      | exact ropewayref15_Found.mono _ _ _ _ _ _
      | exact snap_Snap_Found.mono _ _ _ _
      | exact LeO.none _
      | refine LeO.ite ?_ ?_
      | refine LeO.bind ?_ (fun _ => ?_)
    · intro y0 y1 y2 y3 y4 y5 y6 y7 y8 y9 y10 y11 y12
      unfold ropewaylaw15_SnapRuns_t.j2
      repeat' first
      | (with_reducible exact ih0 _ _ _ _ _)
      | (with_reducible exact ih1 _ _ _ _ _ _ _ _ _ _ _)
      | (with_reducible exact ih2 _ _ _ _ _ _ _ _ _ _ _ _ _)
      | (with_reducible exact ih3 _ _ _ _ _ _ _ _ _ _ _ _ _ _)
      | (with_reducible exact ih4 _ _ _ _ _ _ _ _ _ _ _ _ _ _)
      | (with_reducible exact ih5 _ _ _ _ _ _ _ _ _ _ _ _)
      | (with_reducible exact ih6 _ _ _ _ _ _ _ _ _ _ _)
      | (with_reducible exact ih7 _ _ _ _ _ _ _ _ _ _ _ _ _)
      | (with_reducible exact ih8 _ _ _ _ _ _ _ _ _ _ _ _ _)
      | (with_reducible exact ropewaylaw15_snapAlive.mono _)
      | (with_reducible exact ropewayref05_Same.mono _ _ _)
      | (with_reducible exact ropewayref10_Check.mono _ _)
      | (with_reducible exact ropewayref10_Same.mono _ _ _)
      | (with_reducible exact ropewayref15_Found.mono _ _ _ _ _ _)
      | (with_reducible exact snap_Snap_Found.mono _ _ _ _)
      | (with_reducible exact LeO.refl _)
      | (with_reducible exact LeO.none _)
      | (with_reducible refine LeO.ite ?_ ?_)
      | (with_reducible refine LeO.bind ?_ (fun _ => ?_))
      | exact ih0 _ _ _ _ _
      | exact ih1 _ _ _ _ _ _ _ _ _ _ _
      | exact ih2 _ _ _ _ _ _ _ _ _ _ _ _ _
      | exact ih3 _ _ _ _ _ _ _ _ _ _ _ _ _ _
      | exact ih4 _ _ _ _ _ _ _ _ _ _ _ _ _ _
      | exact ih5 _ _ _ _ _ _ _ _ _ _ _ _
      | exact ih6 _ _ _ _ _ _ _ _ _ _ _
      | exact ih7 _ _ _ _ _ _ _ _ _ _ _ _ _
      | exact ih8 _ _ _ _ _ _ _ _ _ _ _ _ _
      | exact ropewaylaw15_snapAlive.mono _
      | exact ropewayref05_Same.mono _ _ _
      | exact ropewayref10_Check.mono _ _
      | exact ropewayref10_Same.mono _ _ _
      | exact ropewayref15_Found.mono _ _ _ _ _ _
      | exact snap_Snap_Found.mono _ _ _ _
      | exact LeO.none _
      | refine LeO.ite ?_ ?_
      | refine LeO.bind ?_ (fun _ => ?_)
    · intro y0 y1 y2 y3 y4 y5 y6 y7 y8 y9 y10 y11 y12 y13
      unfold ropewaylaw15_SnapRuns_t.l1
      repeat' first
      | (with_reducible exact ih0 _ _ _ _ _)
      | (with_reducible exact ih1 _ _ _ _ _ _ _ _ _ _ _)
      | (with_reducible exact ih2 _ _ _ _ _ _ _ _ _ _ _ _ _)
      | (with_reducible exact ih3 _ _ _ _ _ _ _ _ _ _ _ _ _ _)
      | (with_reducible exact ih4 _ _ _ _ _ _ _ _ _ _ _ _ _ _)
      | (with_reducible exact ih5 _ _ _ _ _ _ _ _ _ _ _ _)
      | (with_reducible exact ih6 _ _ _ _ _ _ _ _ _ _ _)
      | (with_reducible exact ih7 _ _ _ _ _ _ _ _ _ _ _ _ _)
      | (with_reducible exact ih8 _ _ _ _ _ _ _ _ _ _ _ _ _)
      | (with_reducible exact ropewaylaw15_snapAlive.mono _)
      | (with_reducible exact ropewayref05_Same.mono _ _ _)
      | (with_reducible exact ropewayref10_Check.mono _ _)
      | (with_reducible exact ropewayref10_Same.mono _ _ _)
      | (with_reducible exact ropewayref15_Found.mono _ _ _ _ _ _)
      | (with_reducible exact snap_Snap_Found.mono _ _ _ _)
      | (with_reducible exact LeO.refl _)
      | (with_reducible exact LeO.none _)
      | (with_reducible refine LeO.ite ?_ ?_)
      | (with_reducible refine LeO.bind ?_ (fun _ => ?_))
      | exact ih0 _ _ _ _ _
      | exact ih1 _ _ _ _ _ _ _ _ _ _ _
      | exact ih2 _ _ _ _ _ _ _ _ _ _ _ _ _
      | exact ih3 _ _ _ _ _ _ _ _ _ _ _ _ _ _
      | exact ih4 _ _ _ _ _ _ _ _ _ _ _ _ _ _
      | exact ih5 _ _ _ _ _ _ _ _ _ _ _ _
      | exact ih6 _ _ _ _ _ _ _ _ _ _ _
      | exact ih7 _ _ _ _ _ _ _ _ _ _ _ _ _
      | exact ih8 _ _ _ _ _ _ _ _ _ _ _ _ _
      | exact ropewaylaw15_snapAlive.mono _
      | exact ropewayref05_Same.mono _ _ _
      | exact ropewayref10_Check.mono _ _
      | exact ropewayref10_Same.mono _ _ _
      | exact ropewayref15_Found.mono _ _ _ _ _ _
      | exact snap_Snap_Found.mono _ _ _ _
      | exact LeO.none _
      | refine LeO.ite ?_ ?_
      | refine LeO.bind ?_ (fun _ => ?_)
    · intro y0 y1 y2 y3 y4 y5 y6 y7 y8 y9 y10 y11 y12 y13
      unfold ropewaylaw15_SnapRuns_t.j4
      repeat' first
      | (with_reducible exact ih0 _ _ _ _ _)
      | (with_reducible exact ih1 _ _ _ _ _ _ _ _ _ _ _)
      | (with_reducible exact ih2 _ _ _ _ _ _ _ _ _ _ _ _ _)
      | (with_reducible exact ih3 _ _ _ _ _ _ _ _ _ _ _ _ _ _)
      | (with_reducible exact ih4 _ _ _ _ _ _ _ _ _ _ _ _ _ _)
      | (with_reducible exact ih5 _ _ _ _ _ _ _ _ _ _ _ _)
      | (with_reducible exact ih6 _ _ _ _ _ _ _ _ _ _ _)
      | (with_reducible exact ih7 _ _ _ _ _ _ _ _ _ _ _ _ _)
      | (with_reducible exact ih8 _ _ _ _ _ _ _ _ _ _ _ _ _)
      | (with_reducible exact ropewaylaw15_snapAlive.mono _)
      | (with_reducible exact ropewayref05_Same.mono _ _ _)
      | (with_reducible exact ropewayref10_Check.mono _ _)
      | (with_reducible exact ropewayref10_Same.mono _ _ _)
      | (with_reducible exact ropewayref15_Found.mono _ _ _ _ _ _)
      | (with_reducible exact snap_Snap_Found.mono _ _ _ _)
      | (with_reducible exact LeO.refl _)
      | (with_reducible exact LeO.none _)
      | (with_reducible refine LeO.ite ?_ ?_)
      | (with_reducible refine LeO.bind ?_ (fun _ => ?_))
      | exact ih0 _ _ _ _ _
      | exact ih1 _ _ _ _ _ _ _ _ _ _ _
      | exact ih2 _ _ _ _ _ _ _ _ _ _ _ _ _
      | exact ih3 _ _ _ _ _ _ _ _ _ _ _ _ _ _
      | exact ih4 _ _ _ _ _ _ _ _ _ _ _ _ _ _
      | exact ih5 _ _ _ _ _ _ _ _ _ _ _ _
      | exact ih6 _ _ _ _ _ _ _ _ _ _ _
      | exact ih7 _ _ _ _ _ _ _ _ _ _ _ _ _
      | exact ih8 _ _ _ _ _ _ _ _ _ _ _ _ _
      | exact ropewaylaw15_snapAlive.mono _
      | exact ropewayref05_Same.mono _ _ _
      | exact ropewayref10_Check.mono _ _
      | exact ropewayref10_Same.mono _ _ _
      | exact ropewayref15_Found.mono _ _ _ _ _ _
      | exact snap_Snap_Found.mono _ _ _ _
      | exact LeO.none _
      | refine LeO.ite ?_ ?_
      | refine LeO.bind ?_ (fun _ => ?_)
    · intro y0 y1 y2 y3 y4 y5 y6 y7 y8 y9 y10 y11
      unfold ropewaylaw15_SnapRuns_t.j5
      repeat' first
      | (with_reducible exact ih0 _ _ _ _ _)
      | (with_reducible exact ih1 _ _ _ _ _ _ _ _ _ _ _)
      | (with_reducible exact ih2 _ _ _ _ _ _ _ _ _ _ _ _ _)
      | (with_reducible exact ih3 _ _ _ _ _ _ _ _ _ _ _ _ _ _)
      | (with_reducible exact ih4 _ _ _ _ _ _ _ _ _ _ _ _ _ _)
      | (with_reducible exact ih5 _ _ _ _ _ _ _ _ _ _ _ _)
      | (with_reducible exact ih6 _ _ _ _ _ _ _ _ _ _ _)
      | (with_reducible exact ih7 _ _ _ _ _ _ _ _ _ _ _ _ _)
      | (with_reducible exact ih8 _ _ _ _ _ _ _ _ _ _ _ _ _)
      | (with_reducible exact ropewaylaw15_snapAlive.mono _)
      | (with_reducible exact ropewayref05_Same.mono _ _ _)
      | (with_reducible exact ropewayref10_Check.mono _ _)
      | (with_reducible exact ropewayref10_Same.mono _ _ _)
      | (with_reducible exact ropewayref15_Found.mono _ _ _ _ _ _)
      | (with_reducible exact snap_Snap_Found.mono _ _ _ _)
      | (with_reducible exact LeO.refl _)
      | (with_reducible exact LeO.none _)
      | (with_reducible refine LeO.ite ?_ ?_)
      | (with_reducible refine LeO.bind ?_ (fun _ => ?_))
      | exact ih0 _ _ _ _ _
      | exact ih1 _ _ _ _ _ _ _ _ _ _ _
      | exact ih2 _ _ _ _ _ _ _ _ _ _ _ _ _
      | exact ih3 _ _ _ _ _ _ _ _ _ _ _ _ _ _
      | exact ih4 _ _ _ _ _ _ _ _ _ _ _ _ _ _
      | exact ih5 _ _ _ _ _ _ _ _ _ _ _ _
      | exact ih6 _ _ _ _ _ _ _ _ _ _ _
      | exact ih7 _ _ _ _ _ _ _ _ _ _ _ _ _
      | exact ih8 _ _ _ _ _ _ _ _ _ _ _ _ _
      | exact ropewaylaw15_snapAlive.mono _
      | exact ropewayref05_Same.mono _ _ _
      | exact ropewayref10_Check.mono _ _
      | exact ropewayref10_Same.mono _ _ _
      | exact ropewayref15_Found.mono _ _ _ _ _ _
      | exact snap_Snap_Found.mono _ _ _ _
      | exact LeO.none _
      | refine LeO.ite ?_ ?_
      | refine LeO.bind ?_ (fun _ => ?_)
    · intro y0 y1 y2 y3 y4 y5 y6 y7 y8 y9 y10
      unfold ropewaylaw15_SnapRuns_t.j6
      repeat' first
      | (with_reducible exact ih0 _ _ _ _ _)
      | (with_reducible exact ih1 _ _ _ _ _ _ _ _ _ _ _)
      | (with_reducible exact ih2 _ _ _ _ _ _ _ _ _ _ _ _ _)
      | (with_reducible exact ih3 _ _ _ _ _ _ _ _ _ _ _ _ _ _)
      | (with_reducible exact ih4 _ _ _ _ _ _ _ _ _ _ _ _ _ _)
      | (with_reducible exact ih5 _ _ _ _ _ _ _ _ _ _ _ _)
      | (with_reducible exact ih6 _ _ _ _ _ _ _ _ _ _ _)
      | (with_reducible exact ih7 _ _ _ _ _ _ _ _ _ _ _ _ _)
      | (with_reducible exact ih8 _ _ _ _ _ _ _ _ _ _ _ _ _)
      | (with_reducible exact ropewaylaw15_snapAlive.mono _)
      | (with_reducible exact ropewayref05_Same.mono _ _ _)
      | (with_reducible exact ropewayref10_Check.mono _ _)
      | (with_reducible exact ropewayref10_Same.mono _ _ _)
      | (with_reducible exact ropewayref15_Found.mono _ _ _ _ _ _)
      | (with_reducible exact snap_Snap_Found.mono _ _ _ _)
      | (with_reducible exact LeO.refl _)
      | (with_reducible exact LeO.none _)
      | (with_reducible refine LeO.ite ?_ ?_)
      | (with_reducible refine LeO.bind ?_ (fun _ => ?_))
      | exact ih0 _ _ _ _ _
      | exact ih1 _ _ _ _ _ _ _ _ _ _ _
      | exact ih2 _ _ _ _ _ _ _ _ _ _ _ _ _
      | exact ih3 _ _ _ _ _ _ _ _ _ _ _ _ _ _
      | exact ih4 _ _ _ _ _ _ _ _ _ _ _ _ _ _
      | exact ih5 _ _ _ _ _ _ _ _ _ _ _ _
      | exact ih6 _ _ _ _ _ _ _ _ _ _ _
      | exact ih7 _ _ _ _ _ _ _ _ _ _ _ _ _
      | exact ih8 _ _ _ _ _ _ _ _ _ _ _ _ _
      | exact ropewaylaw15_snapAlive.mono _
      | exact ropewayref05_Same.mono _ _ _
      | exact ropewayref10_Check.mono _ _
      | exact ropewayref10_Same.mono _ _ _
      | exact ropewayref15_Found.mono _ _ _ _ _ _
      | exact snap_Snap_Found.mono _ _ _ _
      | exact LeO.none _
      | refine LeO.ite ?_ ?_
      | refine LeO.bind ?_ (fun _ => ?_)
    · intro y0 y1 y2 y3 y4 y5 y6 y7 y8 y9 y10 y11 y12
      unfold ropewaylaw15_SnapRuns_t.l2
      repeat' first
      | (with_reducible exact ih0 _ _ _ _ _)
      | (with_reducible exact ih1 _ _ _ _ _ _ _ _ _ _ _)
      | (with_reducible exact ih2 _ _ _ _ _ _ _ _ _ _ _ _ _)
      | (with_reducible exact ih3 _ _ _ _ _ _ _ _ _ _ _ _ _ _)
      | (with_reducible exact ih4 _ _ _ _ _ _ _ _ _ _ _ _ _ _)
      | (with_reducible exact ih5 _ _ _ _ _ _ _ _ _ _ _ _)
      | (with_reducible exact ih6 _ _ _ _ _ _ _ _ _ _ _)
      | (with_reducible exact ih7 _ _ _ _ _ _ _ _ _ _ _ _ _)
      | (with_reducible exact ih8 _ _ _ _ _ _ _ _ _ _ _ _ _)
      | (with_reducible exact ropewaylaw15_snapAlive.mono _)
      | (with_reducible exact ropewayref05_Same.mono _ _ _)
      | (with_reducible exact ropewayref10_Check.mono _ _)
      | (with_reducible exact ropewayref10_Same.mono _ _ _)
      | (with_reducible exact ropewayref15_Found.mono _ _ _ _ _ _)
      | (with_reducible exact snap_Snap_Found.mono _ _ _ _)
      | (with_reducible exact LeO.refl _)
      | (with_reducible exact LeO.none _)
      | (with_reducible refine LeO.ite ?_ ?_)
      | (with_reducible refine LeO.bind ?_ (fun _ => ?_))
      | exact ih0 _ _ _ _ _
      | exact ih1 _ _ _ _ _ _ _ _ _ _ _
      | exact ih2 _ _ _ _ _ _ _ _ _ _ _ _ _
      | exact ih3 _ _ _ _ _ _ _ _ _ _ _ _ _ _
      | exact ih4 _ _ _ _ _ _ _ _ _ _ _ _ _ _
      | exact ih5 _ _ _ _ _ _ _ _ _ _ _ _
      | exact ih6 _ _ _ _ _ _ _ _ _ _ _
      | exact ih7 _ _ _ _ _ _ _ _ _ _ _ _ _
      | exact ih8 _ _ _ _ _ _ _ _ _ _ _ _ _
      | exact ropewaylaw15_snapAlive.mono _
      | exact ropewayref05_Same.mono _ _ _
      | exact ropewayref10_Check.mono _ _
      | exact ropewayref10_Same.mono _ _ _
      | exact ropewayref15_Found.mono _ _ _ _ _ _
      | exact snap_Snap_Found.mono _ _ _ _
      | exact LeO.none _
      | refine LeO.ite ?_ ?_
      | refine LeO.bind ?_ (fun _ => ?_)
    · intro y0 y1 y2 y3 y4 y5 y6 y7 y8 y9 y10 y11 y12
      unfold ropewaylaw15_SnapRuns_t.j8
      repeat' first
      | (with_reducible exact ih0 _ _ _ _ _)
      | (with_reducible exact ih1 _ _ _ _ _ _ _ _ _ _ _)
      | (with_reducible exact ih2 _ _ _ _ _ _ _ _ _ _ _ _ _)
      | (with_reducible exact ih3 _ _ _ _ _ _ _ _ _ _ _ _ _ _)
      | (with_reducible exact ih4 _ _ _ _ _ _ _ _ _ _ _ _ _ _)
      | (with_reducible exact ih5 _ _ _ _ _ _ _ _ _ _ _ _)
      | (with_reducible exact ih6 _ _ _ _ _ _ _ _ _ _ _)
      | (with_reducible exact ih7 _ _ _ _ _ _ _ _ _ _ _ _ _)
      | (with_reducible exact ih8 _ _ _ _ _ _ _ _ _ _ _ _ _)
      | (with_reducible exact ropewaylaw15_snapAlive.mono _)
      | (with_reducible exact ropewayref05_Same.mono _ _ _)
      | (with_reducible exact ropewayref10_Check.mono _ _)
      | (with_reducible exact ropewayref10_Same.mono _ _ _)
      | (with_reducible exact ropewayref15_Found.mono _ _ _ _ _ _)
      | (with_reducible exact snap_Snap_Found.mono _ _ _ _)
      | (with_reducible exact LeO.refl _)
      | (with_reducible exact LeO.none _)
      | (with_reducible refine LeO.ite ?_ ?_)
      | (with_reducible refine LeO.bind ?_ (fun _ => ?_))
      | exact ih0 _ _ _ _ _
      | exact ih1 _ _ _ _ _ _ _ _ _ _ _
      | exact ih2 _ _ _ _ _ _ _ _ _ _ _ _ _
      | exact ih3 _ _ _ _ _ _ _ _ _ _ _ _ _ _
      | exact ih4 _ _ _ _ _ _ _ _ _ _ _ _ _ _
      | exact ih5 _ _ _ _ _ _ _ _ _ _ _ _
      | exact ih6 _ _ _ _ _ _ _ _ _ _ _
      | exact ih7 _ _ _ _ _ _ _ _ _ _ _ _ _
      | exact ih8 _ _ _ _ _ _ _ _ _ _ _ _ _
      | exact ropewaylaw15_snapAlive.mono _
      | exact ropewayref05_Same.mono _ _ _
      | exact ropewayref10_Check.mono _ _
      | exact ropewayref10_Same.mono _ _ _
      | exact ropewayref15_Found.mono _ _ _ _ _ _
      | exact snap_Snap_Found.mono _ _ _ _
      | exact LeO.none _
      | refine LeO.ite ?_ ?_
      | refine LeO.bind ?_ (fun _ => ?_)
theorem ropewaylaw15_SnapRuns_t.mono : ∀ a0 a1 a2 a3 k, LeO (ropewaylaw15_SnapRuns_t.f k a0 a1 a2 a3) (ropewaylaw15_SnapRuns_t.f (k + 1) a0 a1 a2 a3) := by
  intro a0 a1 a2 a3 k
  obtain ⟨ih0, ih1, ih2, ih3, ih4, ih5, ih6, ih7, ih8⟩ := ropewaylaw15_SnapRuns_t.mono_l k
  unfold ropewaylaw15_SnapRuns_t.f
  repeat' first
      | (with_reducible exact ih0 _ _ _ _ _)
      | (with_reducible exact ih1 _ _ _ _ _ _ _ _ _ _ _)
      | (with_reducible exact ih2 _ _ _ _ _ _ _ _ _ _ _ _ _)
      | (with_reducible exact ih3 _ _ _ _ _ _ _ _ _ _ _ _ _ _)
      | (with_reducible exact ih4 _ _ _ _ _ _ _ _ _ _ _ _ _ _)
      | (with_reducible exact ih5 _ _ _ _ _ _ _ _ _ _ _ _)
      | (with_reducible exact ih6 _ _ _ _ _ _ _ _ _ _ _)
      | (with_reducible exact ih7 _ _ _ _ _ _ _ _ _ _ _ _ _)
      | (with_reducible exact ih8 _ _ _ _ _ _ _ _ _ _ _ _ _)
      | (with_reducible exact ropewaylaw15_snapAlive.mono _)
      | (with_reducible exact ropewayref05_Same.mono _ _ _)
      | (with_reducible exact ropewayref10_Check.mono _ _)
      | (with_reducible exact ropewayref10_Same.mono _ _ _)
      | (with_reducible exact ropewayref15_Found.mono _ _ _ _ _ _)
      | (with_reducible exact snap_Snap_Found.mono _ _ _ _)
      | (with_reducible exact LeO.refl _)
      | (with_reducible exact LeO.none _)
      | (with_reducible refine LeO.ite ?_ ?_)
      | (with_reducible refine LeO.bind ?_ (fun _ => ?_))
      | exact ih0 _ _ _ _ _
      | exact ih1 _ _ _ _ _ _ _ _ _ _ _
      | exact ih2 _ _ _ _ _ _ _ _ _ _ _ _ _
      | exact ih3 _ _ _ _ _ _ _ _ _ _ _ _ _ _
      | exact ih4 _ _ _ _ _ _ _ _ _ _ _ _ _ _
      | exact ih5 _ _ _ _ _ _ _ _ _ _ _ _
      | exact ih6 _ _ _ _ _ _ _ _ _ _ _
      | exact ih7 _ _ _ _ _ _ _ _ _ _ _ _ _
      | exact ih8 _ _ _ _ _ _ _ _ _ _ _ _ _
      | exact ropewaylaw15_snapAlive.mono _
      | exact ropewayref05_Same.mono _ _ _
      | exact ropewayref10_Check.mono _ _
      | exact ropewayref10_Same.mono _ _ _
      | exact ropewayref15_Found.mono _ _ _ _ _ _
      | exact snap_Snap_Found.mono _ _ _ _
      | exact LeO.none _
      | refine LeO.ite ?_ ?_
      | refine LeO.bind ?_ (fun _ => ?_)
def ropewaylaw15_SnapRuns_t.T24 : Bool × List (List Nat × List Nat) := (true, [([], []), ([], []), ([0, 1], [0, 1]), ([2], [2]), ([3], [3]), ([3], [3]), ([4, 5, 3, 3], [3, 4, 5]), ([6, 3], [3, 6]), ([3, 7], [3, 7]), ([8, 6], [8]), ([9], [9]), ([9], [9]), ([10, 11, 9], [9, 10, 11]), ([9, 12], [9, 12]), ([13, 9], [13]), ([14], [14]), ([15, 14, 14], [14, 15]), ([14], [14]), ([17, 16, 14], [14, 17]), ([16, 18, 14], [14, 16, 18]), ([14, 19], [14, 19])])
def ropewaylaw15_SnapRuns_t.B24 : List Nat := [0, 0, 3, 7, 15, 15, 63, 127, 255, 511, 1023, 1023, 4095, 8191, 16383, 32767, 65535, 32767, 262143, 524287, 1048575]
theorem ropewaylaw15_SnapRuns_t.tab24 : rtab .any (opsOf Try.f4 24) = ropewaylaw15_SnapRuns_t.T24 := by kernel_rfl
theorem ropewaylaw15_SnapRuns_t.bits24 : waitsOk ropewaylaw15_SnapRuns_t.T24.2 ropewaylaw15_SnapRuns_t.B24 = true := by kernel_rfl
def ropewaylaw15_SnapRuns_t.T34 : Bool × List (List Nat × List Nat) := (true, [([], []), ([], []), ([0, 1], [0, 1]), ([2], [2]), ([3], [3]), ([3], [3]), ([4, 5, 3], [3, 4, 5]), ([3, 6], [3, 6]), ([7, 3], [7]), ([8], [8]), ([9, 8], [8, 9]), ([10, 8], [8, 10]), ([11, 8, 8], [8, 11]), ([12], [12]), ([13, 12], [12, 13]), ([14, 12], [12, 14]), ([15, 12], [12, 15]), ([16, 12], [12, 16]), ([12, 17, 8], [8, 12, 17]), ([8, 18], [8, 18]), ([19, 12], [19]), ([20], [20]), ([21, 20, 20], [20, 21]), ([22], [22]), ([23, 22, 22], [22, 23]), ([22], [22]), ([25, 24, 22], [22, 25]), ([24, 26, 26, 22], [22, 24, 26]), ([22, 27, 20], [20, 22, 27]), ([20, 28], [20, 28]), ([29, 27, 0, 1, 2, 3, 4, 5, 6, 7, 8, 9, 10, 11, 12, 13, 14, 15, 16, 17, 18, 19, 20, 21, 22, 23, 24, 25, 26, 27, 28, 29], [29])])
def ropewaylaw15_SnapRuns_t.B34 : List Nat := [0, 0, 3, 7, 15, 15, 63, 127, 255, 511, 1023, 2047, 4095, 8191, 16383, 32767, 65535, 131071, 262143, 524287, 1048575, 2097151, 4194303, 8388607, 16777215, 8388607, 67108863, 134217727, 268435455, 536870911, 1073741823]
theorem ropewaylaw15_SnapRuns_t.tab34 : rtab .any (opsOf Try.f4 34) = ropewaylaw15_SnapRuns_t.T34 := by kernel_rfl
theorem ropewaylaw15_SnapRuns_t.bits34 : waitsOk ropewaylaw15_SnapRuns_t.T34.2 ropewaylaw15_SnapRuns_t.B34 = true := by kernel_rfl
end Go.Proofs.Ytoelfknhnmhlmaa.PSnapRuns
