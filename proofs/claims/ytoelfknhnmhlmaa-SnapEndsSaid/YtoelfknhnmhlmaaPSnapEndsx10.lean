/- Written by a program of this session (wip/tool/px.py) over the kit's print: what the code that the law SnapEnds reaches computes, function by function, and the law's row. -/
import Derived.Test.YtoelfknhnmhlmaaPSnapEndsx0
import Derived.Test.YtoelfknhnmhlmaaPSnapEndsx1
import Derived.Test.YtoelfknhnmhlmaaPSnapEndsx2
import Derived.Test.YtoelfknhnmhlmaaPSnapEndsx3
import Derived.Test.YtoelfknhnmhlmaaPSnapEndsx6
import Derived.Test.YtoelfknhnmhlmaaPSnapEndsx7
import Derived.Test.YtoelfknhnmhlmaaPSnapEndsx8
namespace Go.Proofs.Ytoelfknhnmhlmaa.PSnapEnds
open Go.RowKit Go.Proofs.YtoelfknhnmhlmaaX Go.Proofs.YtoelfknhnmhlmaaW.PrintWords Go.Proofs.YtoelfknhnmhlmaaW.PrintLast Go.Proofs.YtoelfknhnmhlmaaW.PrintMore
open Go.Proofs.YtoelfknhnmhlmaaW.PrintWords renaming blk_drewN → zN, blk_drew → zD, blk_alloc → zA, blk_cell → zL, blk_frozen → zF, below_step → zB
open Go.Proofs.YtoelfknhnmhlmaaW.PrintWords.Aside0 renaming mk → zM
attribute [local go_sem] max2_int min2_int max_two min_two max_three min_three max_four min_four   -- for this text's walks alone
set_option linter.unusedVariables false
set_option linter.unusedSimpArgs false

attribute [local go_sem] px_nilq27
attribute [local go_sem high] eqA26 eqA34
/-! ### ropewaylaw15_SnapEnds_f: function 5 -/
mutual
def ropewaylaw15_SnapEnds_f.j0 : Nat → List (List (S34)) → Bool → Option (Bool)
  | 0, _, _ => none
  | k + 1, x2, x44 => if x44 = true then (some true) else (ropewaylaw15_SnapEnds_f.l0 k x2 0 (([] : List (S34))) x2 (x2.length : Int) 0 0 ([] : List (S34)))
def ropewaylaw15_SnapEnds_f.j5 : Nat → List (List (S34)) → Int → Int → List (S34) → Option (Bool)
  | 0, _, _, _, _ => none
  | k + 1, x2, x8, x235001, x235002 => if x235001 = 4 then (ropewaylaw15_SnapEnds_f.j6 k x2 x8 false) else (if x235001 = 0 then (ropewaylaw15_SnapEnds_f.j6 k x2 x8 true) else (if x235001 = 2 then (ropewaylaw15_SnapEnds_f.j6 k x2 x8 true) else (if x235001 = 1 then ((api_Cell.f x235002).bind fun t259 => (ropewaylaw15_SnapEnds_f.j6 k x2 x8 true)) else ((api_Cell.f x235002).bind fun t262 => (ropewaylaw15_SnapEnds_f.j6 k x2 x8 true)))))
def ropewaylaw15_SnapEnds_f.j6 : Nat → List (List (S34)) → Int → Bool → Option (Bool)
  | 0, _, _, _ => none
  | k + 1, x2, x8, x17 => if x17 = true then (if (x2.length : Int) = x8 then (some (decide (x8 < 4))) else (some false)) else (if x8 = 1 then (some true) else (if x8 = 3 then (some true) else (some (x8 == 4))))
def ropewaylaw15_SnapEnds_f.l0 : Nat → List (List (S34)) → Int → List (S34) → List (List (S34)) → Int → Int → Int → List (S34) → Option (Bool)
  | 0, _, _, _, _, _, _, _, _ => none
  | k + 1, x2, x8, x9, x53, x54, x55, x235001, x235002 => if x55 < x54 then (if 0 ≤ x55 then (if x55 < (x53.length : Int) then ((ropewayref10_Check.f k (rd_L3 x53 x55)).bind fun t239 => (if t239 = 0 then (if x235001 = 4 then (ropewaylaw15_SnapEnds_f.j2 k x2 x8 x9 (rd_L3 x53 x55) 0 ([] : List (S34)) false x53 x54 x55 x235001 x235002) else (if x235001 = 0 then (ropewaylaw15_SnapEnds_f.j2 k x2 x8 x9 (rd_L3 x53 x55) 0 ([] : List (S34)) true x53 x54 x55 x235001 x235002) else (if x235001 = 2 then (ropewaylaw15_SnapEnds_f.j2 k x2 x8 x9 (rd_L3 x53 x55) 0 ([] : List (S34)) true x53 x54 x55 x235001 x235002) else (if x235001 = 1 then ((api_Cell.f x235002).bind fun t240 => (ropewaylaw15_SnapEnds_f.j2 k x2 x8 x9 (rd_L3 x53 x55) 1 t240 true x53 x54 x55 x235001 x235002)) else ((api_Cell.f x235002).bind fun t243 => (ropewaylaw15_SnapEnds_f.j2 k x2 x8 x9 (rd_L3 x53 x55) 1 t243 true x53 x54 x55 x235001 x235002)))))) else (some true))) else (none)) else (none)) else (ropewaylaw15_SnapEnds_f.j5 k x2 x8 x235001 x235002)
def ropewaylaw15_SnapEnds_f.j2 : Nat → List (List (S34)) → Int → List (S34) → List (S34) → Int → List (S34) → Bool → List (List (S34)) → Int → Int → Int → List (S34) → Option (Bool)
  | 0, _, _, _, _, _, _, _, _, _, _, _, _ => none
  | k + 1, x2, x8, x9, x11, x12, x13, x14, x53, x54, x55, x235001, x235002 => if x14 = true then (if x12 = 1 then (if (x9.length : Int) > 0 then ((ropewayref10_Same.f k x13 x9).bind fun t246 => (if t246 = true then (if (x9.length : Int) = 0 then (ropewaylaw15_SnapEnds_f.j3 k x2 x8 x9 x11 x12 x53 x54 x55 true x235001 x235002) else (ropewaylaw15_SnapEnds_f.j3 k x2 x8 x9 x11 x12 x53 x54 x55 false x235001 x235002)) else (ropewaylaw15_SnapEnds_f.j3 k x2 x8 x9 x11 x12 x53 x54 x55 true x235001 x235002))) else (if (x9.length : Int) = 0 then (ropewaylaw15_SnapEnds_f.j3 k x2 x8 x9 x11 x12 x53 x54 x55 true x235001 x235002) else (ropewaylaw15_SnapEnds_f.j3 k x2 x8 x9 x11 x12 x53 x54 x55 false x235001 x235002))) else (ropewaylaw15_SnapEnds_f.j3 k x2 x8 x9 x11 x12 x53 x54 x55 false x235001 x235002)) else (ropewaylaw15_SnapEnds_f.j5 k x2 x8 x235001 x235002)
def ropewaylaw15_SnapEnds_f.j3 : Nat → List (List (S34)) → Int → List (S34) → List (S34) → Int → List (List (S34)) → Int → Int → Bool → Int → List (S34) → Option (Bool)
  | 0, _, _, _, _, _, _, _, _, _, _, _ => none
  | k + 1, x2, x8, x9, x11, x12, x53, x54, x55, x107, x235001, x235002 => if x107 = true then (some false) else (if x12 = 0 then (ropewaylaw15_SnapEnds_f.j4 k x2 x8 x11 x11 x53 x54 x55 x235001 x235002) else (ropewaylaw15_SnapEnds_f.j4 k x2 x8 x9 x11 x53 x54 x55 x235001 x235002))
def ropewaylaw15_SnapEnds_f.j4 : Nat → List (List (S34)) → Int → List (S34) → List (S34) → List (List (S34)) → Int → Int → Int → List (S34) → Option (Bool)
  | 0, _, _, _, _, _, _, _, _, _ => none
  | k + 1, x2, x8, x9, x11, x53, x54, x55, x235001, x235002 => (some (([] : List (S34)) : List (S34))).bind fun y247 => (if y247.length + x11.length < 5864062014805 then ((some (y247 ++ x11 : List (S34))).bind fun y250 => (if x235001 = 0 then ((api_Cell.f y250).bind fun t253 => (if (y250.length : Int) = 0 then (ropewaylaw15_SnapEnds_f.l0 k x2 (wrap64 (x8 + 1)) x9 x53 x54 (wrap64 (x55 + 1)) 4 t253) else (ropewaylaw15_SnapEnds_f.l0 k x2 (wrap64 (x8 + 1)) x9 x53 x54 (wrap64 (x55 + 1)) (wrap64 (x235001 + 1)) t253))) else (if x235001 = 2 then ((api_Cell.f y250).bind fun t256 => (if (y250.length : Int) = 0 then (ropewaylaw15_SnapEnds_f.l0 k x2 (wrap64 (x8 + 1)) x9 x53 x54 (wrap64 (x55 + 1)) 4 t256) else (ropewaylaw15_SnapEnds_f.l0 k x2 (wrap64 (x8 + 1)) x9 x53 x54 (wrap64 (x55 + 1)) (wrap64 (x235001 + 1)) t256))) else (if x235001 = 1 then (ropewaylaw15_SnapEnds_f.l0 k x2 (wrap64 (x8 + 1)) x9 x53 x54 (wrap64 (x55 + 1)) 2 x235002) else (if x235001 = 3 then (ropewaylaw15_SnapEnds_f.l0 k x2 (wrap64 (x8 + 1)) x9 x53 x54 (wrap64 (x55 + 1)) 4 x235002) else (ropewaylaw15_SnapEnds_f.l0 k x2 (wrap64 (x8 + 1)) x9 x53 x54 (wrap64 (x55 + 1)) x235001 x235002)))))) else (none))
end
def ropewaylaw15_SnapEnds_f.f (k : Nat)  (a1_0 : Int) (a1_1 : Int) (a1_2 : Int) (l2 : List (List (S34))) : Option (Bool) := (ropewaylaw15_snapAlive.f k).bind fun t232 => (if t232 = true then (if (l2.length : Int) > 20 then (ropewaylaw15_SnapEnds_f.j0 k l2 true) else (if a1_0 < 0 then (ropewaylaw15_SnapEnds_f.j0 k l2 true) else (if a1_0 > 5 then (ropewaylaw15_SnapEnds_f.j0 k l2 true) else ((ropewayref04_Right.f a1_1 a1_2).bind fun t233 => (if t233 = true then (ropewaylaw15_SnapEnds_f.j0 k l2 (a1_1 == 0 && (a1_2 == 0))) else (ropewaylaw15_SnapEnds_f.j0 k l2 true)))))) else (some false))
theorem ropewaylaw15_SnapEnds_f.mono_l : ∀ k, (∀ y0 y1, LeO (ropewaylaw15_SnapEnds_f.j0 k y0 y1) (ropewaylaw15_SnapEnds_f.j0 (k + 1) y0 y1)) ∧ (∀ y0 y1 y2 y3, LeO (ropewaylaw15_SnapEnds_f.j5 k y0 y1 y2 y3) (ropewaylaw15_SnapEnds_f.j5 (k + 1) y0 y1 y2 y3)) ∧ (∀ y0 y1 y2, LeO (ropewaylaw15_SnapEnds_f.j6 k y0 y1 y2) (ropewaylaw15_SnapEnds_f.j6 (k + 1) y0 y1 y2)) ∧ (∀ y0 y1 y2 y3 y4 y5 y6 y7, LeO (ropewaylaw15_SnapEnds_f.l0 k y0 y1 y2 y3 y4 y5 y6 y7) (ropewaylaw15_SnapEnds_f.l0 (k + 1) y0 y1 y2 y3 y4 y5 y6 y7)) ∧ (∀ y0 y1 y2 y3 y4 y5 y6 y7 y8 y9 y10 y11, LeO (ropewaylaw15_SnapEnds_f.j2 k y0 y1 y2 y3 y4 y5 y6 y7 y8 y9 y10 y11) (ropewaylaw15_SnapEnds_f.j2 (k + 1) y0 y1 y2 y3 y4 y5 y6 y7 y8 y9 y10 y11)) ∧ (∀ y0 y1 y2 y3 y4 y5 y6 y7 y8 y9 y10, LeO (ropewaylaw15_SnapEnds_f.j3 k y0 y1 y2 y3 y4 y5 y6 y7 y8 y9 y10) (ropewaylaw15_SnapEnds_f.j3 (k + 1) y0 y1 y2 y3 y4 y5 y6 y7 y8 y9 y10)) ∧ (∀ y0 y1 y2 y3 y4 y5 y6 y7 y8, LeO (ropewaylaw15_SnapEnds_f.j4 k y0 y1 y2 y3 y4 y5 y6 y7 y8) (ropewaylaw15_SnapEnds_f.j4 (k + 1) y0 y1 y2 y3 y4 y5 y6 y7 y8))
  | 0 => ⟨fun _ _ r h => by simp [ropewaylaw15_SnapEnds_f.j0] at h, fun _ _ _ _ r h => by simp [ropewaylaw15_SnapEnds_f.j5] at h, fun _ _ _ r h => by simp [ropewaylaw15_SnapEnds_f.j6] at h, fun _ _ _ _ _ _ _ _ r h => by simp [ropewaylaw15_SnapEnds_f.l0] at h, fun _ _ _ _ _ _ _ _ _ _ _ _ r h => by simp [ropewaylaw15_SnapEnds_f.j2] at h, fun _ _ _ _ _ _ _ _ _ _ _ r h => by simp [ropewaylaw15_SnapEnds_f.j3] at h, fun _ _ _ _ _ _ _ _ _ r h => by simp [ropewaylaw15_SnapEnds_f.j4] at h⟩
  | k + 1 => by
    obtain ⟨ih0, ih1, ih2, ih3, ih4, ih5, ih6⟩ := ropewaylaw15_SnapEnds_f.mono_l k
    refine ⟨?_, ?_, ?_, ?_, ?_, ?_, ?_⟩
    · intro y0 y1
      unfold ropewaylaw15_SnapEnds_f.j0
      repeat' first
      | (with_reducible exact ih0 _ _)
      | (with_reducible exact ih1 _ _ _ _)
      | (with_reducible exact ih2 _ _ _)
      | (with_reducible exact ih3 _ _ _ _ _ _ _ _)
      | (with_reducible exact ih4 _ _ _ _ _ _ _ _ _ _ _ _)
      | (with_reducible exact ih5 _ _ _ _ _ _ _ _ _ _ _)
      | (with_reducible exact ih6 _ _ _ _ _ _ _ _ _)
      | (with_reducible exact ropewaylaw15_snapAlive.mono _)
      | (with_reducible exact ropewayref10_Check.mono _ _)
      | (with_reducible exact ropewayref10_Same.mono _ _ _)
      | (with_reducible exact LeO.refl _)
      | (with_reducible exact LeO.none _)
      | (with_reducible refine LeO.ite ?_ ?_)
      | (with_reducible refine LeO.bind ?_ (fun _ => ?_))
      | exact ih0 _ _
      | exact ih1 _ _ _ _
      | exact ih2 _ _ _
      | exact ih3 _ _ _ _ _ _ _ _
      | exact ih4 _ _ _ _ _ _ _ _ _ _ _ _
      | exact ih5 _ _ _ _ _ _ _ _ _ _ _
      | exact ih6 _ _ _ _ _ _ _ _ _
      | exact ropewaylaw15_snapAlive.mono _
      | exact ropewayref10_Check.mono _ _
      | exact ropewayref10_Same.mono _ _ _
      | exact LeO.none _
      | refine LeO.ite ?_ ?_
      | refine LeO.bind ?_ (fun _ => ?_)
    · intro y0 y1 y2 y3
      unfold ropewaylaw15_SnapEnds_f.j5
      repeat' first
      | (with_reducible exact ih0 _ _)
      | (with_reducible exact ih1 _ _ _ _)
      | (with_reducible exact ih2 _ _ _)
      | (with_reducible exact ih3 _ _ _ _ _ _ _ _)
      | (with_reducible exact ih4 _ _ _ _ _ _ _ _ _ _ _ _)
      | (with_reducible exact ih5 _ _ _ _ _ _ _ _ _ _ _)
      | (with_reducible exact ih6 _ _ _ _ _ _ _ _ _)
      | (with_reducible exact ropewaylaw15_snapAlive.mono _)
      | (with_reducible exact ropewayref10_Check.mono _ _)
      | (with_reducible exact ropewayref10_Same.mono _ _ _)
      | (with_reducible exact LeO.refl _)
      | (with_reducible exact LeO.none _)
      | (with_reducible refine LeO.ite ?_ ?_)
      | (with_reducible refine LeO.bind ?_ (fun _ => ?_))
      | exact ih0 _ _
      | exact ih1 _ _ _ _
      | exact ih2 _ _ _
      | exact ih3 _ _ _ _ _ _ _ _
      | exact ih4 _ _ _ _ _ _ _ _ _ _ _ _
      | exact ih5 _ _ _ _ _ _ _ _ _ _ _
      | exact ih6 _ _ _ _ _ _ _ _ _
      | exact ropewaylaw15_snapAlive.mono _
      | exact ropewayref10_Check.mono _ _
      | exact ropewayref10_Same.mono _ _ _
      | exact LeO.none _
      | refine LeO.ite ?_ ?_
      | refine LeO.bind ?_ (fun _ => ?_)
    · intro y0 y1 y2
      unfold ropewaylaw15_SnapEnds_f.j6
      repeat' first
      | (with_reducible exact ih0 _ _)
      | (with_reducible exact ih1 _ _ _ _)
      | (with_reducible exact ih2 _ _ _)
      | (with_reducible exact ih3 _ _ _ _ _ _ _ _)
      | (with_reducible exact ih4 _ _ _ _ _ _ _ _ _ _ _ _)
      | (with_reducible exact ih5 _ _ _ _ _ _ _ _ _ _ _)
      | (with_reducible exact ih6 _ _ _ _ _ _ _ _ _)
      | (with_reducible exact ropewaylaw15_snapAlive.mono _)
      | (with_reducible exact ropewayref10_Check.mono _ _)
      | (with_reducible exact ropewayref10_Same.mono _ _ _)
      | (with_reducible exact LeO.refl _)
      | (with_reducible exact LeO.none _)
      | (with_reducible refine LeO.ite ?_ ?_)
      | (with_reducible refine LeO.bind ?_ (fun _ => ?_))
      | exact ih0 _ _
      | exact ih1 _ _ _ _
      | exact ih2 _ _ _
      | exact ih3 _ _ _ _ _ _ _ _
      | exact ih4 _ _ _ _ _ _ _ _ _ _ _ _
      | exact ih5 _ _ _ _ _ _ _ _ _ _ _
      | exact ih6 _ _ _ _ _ _ _ _ _
      | exact ropewaylaw15_snapAlive.mono _
      | exact ropewayref10_Check.mono _ _
      | exact ropewayref10_Same.mono _ _ _
      | exact LeO.none _
      | refine LeO.ite ?_ ?_
      | refine LeO.bind ?_ (fun _ => ?_)
    · intro y0 y1 y2 y3 y4 y5 y6 y7
      unfold ropewaylaw15_SnapEnds_f.l0
      repeat' first
      | (with_reducible exact ih0 _ _)
      | (with_reducible exact ih1 _ _ _ _)
      | (with_reducible exact ih2 _ _ _)
      | (with_reducible exact ih3 _ _ _ _ _ _ _ _)
      | (with_reducible exact ih4 _ _ _ _ _ _ _ _ _ _ _ _)
      | (with_reducible exact ih5 _ _ _ _ _ _ _ _ _ _ _)
      | (with_reducible exact ih6 _ _ _ _ _ _ _ _ _)
      | (with_reducible exact ropewaylaw15_snapAlive.mono _)
      | (with_reducible exact ropewayref10_Check.mono _ _)
      | (with_reducible exact ropewayref10_Same.mono _ _ _)
      | (with_reducible exact LeO.refl _)
      | (with_reducible exact LeO.none _)
      | (with_reducible refine LeO.ite ?_ ?_)
      | (with_reducible refine LeO.bind ?_ (fun _ => ?_))
      | exact ih0 _ _
      | exact ih1 _ _ _ _
      | exact ih2 _ _ _
      | exact ih3 _ _ _ _ _ _ _ _
      | exact ih4 _ _ _ _ _ _ _ _ _ _ _ _
      | exact ih5 _ _ _ _ _ _ _ _ _ _ _
      | exact ih6 _ _ _ _ _ _ _ _ _
      | exact ropewaylaw15_snapAlive.mono _
      | exact ropewayref10_Check.mono _ _
      | exact ropewayref10_Same.mono _ _ _
      | exact LeO.none _
      | refine LeO.ite ?_ ?_
      | refine LeO.bind ?_ (fun _ => ?_)
    · intro y0 y1 y2 y3 y4 y5 y6 y7 y8 y9 y10 y11
      unfold ropewaylaw15_SnapEnds_f.j2
      repeat' first
      | (with_reducible exact ih0 _ _)
      | (with_reducible exact ih1 _ _ _ _)
      | (with_reducible exact ih2 _ _ _)
      | (with_reducible exact ih3 _ _ _ _ _ _ _ _)
      | (with_reducible exact ih4 _ _ _ _ _ _ _ _ _ _ _ _)
      | (with_reducible exact ih5 _ _ _ _ _ _ _ _ _ _ _)
      | (with_reducible exact ih6 _ _ _ _ _ _ _ _ _)
      | (with_reducible exact ropewaylaw15_snapAlive.mono _)
      | (with_reducible exact ropewayref10_Check.mono _ _)
      | (with_reducible exact ropewayref10_Same.mono _ _ _)
      | (with_reducible exact LeO.refl _)
      | (with_reducible exact LeO.none _)
      | (with_reducible refine LeO.ite ?_ ?_)
      | (with_reducible refine LeO.bind ?_ (fun _ => ?_))
      | exact ih0 _ _
      | exact ih1 _ _ _ _
      | exact ih2 _ _ _
      | exact ih3 _ _ _ _ _ _ _ _
      | exact ih4 _ _ _ _ _ _ _ _ _ _ _ _
      | exact ih5 _ _ _ _ _ _ _ _ _ _ _
      | exact ih6 _ _ _ _ _ _ _ _ _
      | exact ropewaylaw15_snapAlive.mono _
      | exact ropewayref10_Check.mono _ _
      | exact ropewayref10_Same.mono _ _ _
      | exact LeO.none _
      | refine LeO.ite ?_ ?_
      | refine LeO.bind ?_ (fun _ => ?_)
    · intro y0 y1 y2 y3 y4 y5 y6 y7 y8 y9 y10
      unfold ropewaylaw15_SnapEnds_f.j3
      repeat' first
      | (with_reducible exact ih0 _ _)
      | (with_reducible exact ih1 _ _ _ _)
      | (with_reducible exact ih2 _ _ _)
      | (with_reducible exact ih3 _ _ _ _ _ _ _ _)
      | (with_reducible exact ih4 _ _ _ _ _ _ _ _ _ _ _ _)
      | (with_reducible exact ih5 _ _ _ _ _ _ _ _ _ _ _)
      | (with_reducible exact ih6 _ _ _ _ _ _ _ _ _)
      | (with_reducible exact ropewaylaw15_snapAlive.mono _)
      | (with_reducible exact ropewayref10_Check.mono _ _)
      | (with_reducible exact ropewayref10_Same.mono _ _ _)
      | (with_reducible exact LeO.refl _)
      | (with_reducible exact LeO.none _)
      | (with_reducible refine LeO.ite ?_ ?_)
      | (with_reducible refine LeO.bind ?_ (fun _ => ?_))
      | exact ih0 _ _
      | exact ih1 _ _ _ _
      | exact ih2 _ _ _
      | exact ih3 _ _ _ _ _ _ _ _
      | exact ih4 _ _ _ _ _ _ _ _ _ _ _ _
      | exact ih5 _ _ _ _ _ _ _ _ _ _ _
      | exact ih6 _ _ _ _ _ _ _ _ _
      | exact ropewaylaw15_snapAlive.mono _
      | exact ropewayref10_Check.mono _ _
      | exact ropewayref10_Same.mono _ _ _
      | exact LeO.none _
      | refine LeO.ite ?_ ?_
      | refine LeO.bind ?_ (fun _ => ?_)
    · intro y0 y1 y2 y3 y4 y5 y6 y7 y8
      unfold ropewaylaw15_SnapEnds_f.j4
      repeat' first
      | (with_reducible exact ih0 _ _)
      | (with_reducible exact ih1 _ _ _ _)
      | (with_reducible exact ih2 _ _ _)
      | (with_reducible exact ih3 _ _ _ _ _ _ _ _)
      | (with_reducible exact ih4 _ _ _ _ _ _ _ _ _ _ _ _)
      | (with_reducible exact ih5 _ _ _ _ _ _ _ _ _ _ _)
      | (with_reducible exact ih6 _ _ _ _ _ _ _ _ _)
      | (with_reducible exact ropewaylaw15_snapAlive.mono _)
      | (with_reducible exact ropewayref10_Check.mono _ _)
      | (with_reducible exact ropewayref10_Same.mono _ _ _)
      | (with_reducible exact LeO.refl _)
      | (with_reducible exact LeO.none _)
      | (with_reducible refine LeO.ite ?_ ?_)
      | (with_reducible refine LeO.bind ?_ (fun _ => ?_))
      | exact ih0 _ _
      | exact ih1 _ _ _ _
      | exact ih2 _ _ _
      | exact ih3 _ _ _ _ _ _ _ _
      | exact ih4 _ _ _ _ _ _ _ _ _ _ _ _
      | exact ih5 _ _ _ _ _ _ _ _ _ _ _
      | exact ih6 _ _ _ _ _ _ _ _ _
      | exact ropewaylaw15_snapAlive.mono _
      | exact ropewayref10_Check.mono _ _
      | exact ropewayref10_Same.mono _ _ _
      | exact LeO.none _
      | refine LeO.ite ?_ ?_
      | refine LeO.bind ?_ (fun _ => ?_)
theorem ropewaylaw15_SnapEnds_f.mono : ∀ a0 a1 a2 a3 k, LeO (ropewaylaw15_SnapEnds_f.f k a0 a1 a2 a3) (ropewaylaw15_SnapEnds_f.f (k + 1) a0 a1 a2 a3) := by
  intro a0 a1 a2 a3 k
  obtain ⟨ih0, ih1, ih2, ih3, ih4, ih5, ih6⟩ := ropewaylaw15_SnapEnds_f.mono_l k
  unfold ropewaylaw15_SnapEnds_f.f
  repeat' first
      | (with_reducible exact ih0 _ _)
      | (with_reducible exact ih1 _ _ _ _)
      | (with_reducible exact ih2 _ _ _)
      | (with_reducible exact ih3 _ _ _ _ _ _ _ _)
      | (with_reducible exact ih4 _ _ _ _ _ _ _ _ _ _ _ _)
      | (with_reducible exact ih5 _ _ _ _ _ _ _ _ _ _ _)
      | (with_reducible exact ih6 _ _ _ _ _ _ _ _ _)
      | (with_reducible exact ropewaylaw15_snapAlive.mono _)
      | (with_reducible exact ropewayref10_Check.mono _ _)
      | (with_reducible exact ropewayref10_Same.mono _ _ _)
      | (with_reducible exact LeO.refl _)
      | (with_reducible exact LeO.none _)
      | (with_reducible refine LeO.ite ?_ ?_)
      | (with_reducible refine LeO.bind ?_ (fun _ => ?_))
      | exact ih0 _ _
      | exact ih1 _ _ _ _
      | exact ih2 _ _ _
      | exact ih3 _ _ _ _ _ _ _ _
      | exact ih4 _ _ _ _ _ _ _ _ _ _ _ _
      | exact ih5 _ _ _ _ _ _ _ _ _ _ _
      | exact ih6 _ _ _ _ _ _ _ _ _
      | exact ropewaylaw15_snapAlive.mono _
      | exact ropewayref10_Check.mono _ _
      | exact ropewayref10_Same.mono _ _ _
      | exact LeO.none _
      | refine LeO.ite ?_ ?_
      | refine LeO.bind ?_ (fun _ => ?_)
set_option maxHeartbeats 8000000 in
set_option maxRecDepth 100000 in
theorem ropewaylaw15_SnapEnds_f.calls (k : Nat)  (a1_0 : Int) (a1_1 : Int) (a1_2 : Int) (P2_ : Nat → Prop) (A2 : Option Addr) (c2 : Nat) (l2 : List (List (S34))) (r : Bool) (w : World) (hs2 : Kd.V (Kd.slice 34 k34) 27 w w.heap.size (fun k_ => P2_ k_) (.slice A2 l2.length c2) l2) (hr1_ : Aside0 (r = true)) (h : ropewaylaw15_SnapEnds_f.f k a1_0 a1_1 a1_2 l2 = some r) :
    Calls Try.prog 5 #[.bool false, .agg #[.int .i64 a1_0, .int .i64 a1_1, .int .i64 a1_2], .slice A2 l2.length c2] w fun e w' => e = .returned (.bool r) ∧ Below w.heap.size w w' := by
  have hu34 := Try.underlying34
  have hu26 := Try.underlying26
  have HO2 := zM (show Kd.V (Kd.slice 34 k34) 27 w w.heap.size (fun k_ => (P2_ k_ ∨ w.heap.size ≤ k_)) (.slice A2 l2.length c2) l2 from Kd.V_mono hs2 (fun k_ hk => .inl hk))
  have HB := zM (Below.refl w.heap.size w)
  have H : ((ropewaylaw15_snapAlive.f k).bind fun t232 => (if t232 = true then (if (l2.length : Int) > 20 then (ropewaylaw15_SnapEnds_f.j0 k l2 true) else (if a1_0 < 0 then (ropewaylaw15_SnapEnds_f.j0 k l2 true) else (if a1_0 > 5 then (ropewaylaw15_SnapEnds_f.j0 k l2 true) else ((ropewayref04_Right.f a1_1 a1_2).bind fun t233 => (if t233 = true then (ropewaylaw15_SnapEnds_f.j0 k l2 (a1_1 == 0 && (a1_2 == 0))) else (ropewaylaw15_SnapEnds_f.j0 k l2 true)))))) else (some false))) = some r := h
  clear h
  go_enter Try.func5, Try.ntmps5
  have tk5 : True := trivial
  go_upto_region 1 with (first | ((with_reducible refine gate_dst (N := 4) rfl ?_); clear tk5; (try (refine gate_guard (by rfl) ?_; dsimp only)); refine box_event ?hg (N := 4) ?hd (cs := #[.int .i64 a1_0, .int .i64 a1_1, .int .i64 a1_2]) (t := 34) ?hr ?_; (case hd => rfl); (case hg => rfl); (case hr => first | (go_simp; done) | (go_simp; rfl)); intro gb231 hg w4 hbox hb; replace HO2 := zM (Kd.V_below (Kd.V_elderB (rv_ HO2) gb231 (Nat.le_of_eq hg.symm)) hb); have BK231 := zM (hbox); have GW231 := zM (bs_ hg); have GE231 := zM (bs_ hg); replace HB := zM (zB bel_ hb); clear hb hbox hg))
  replace H := Option.bind_eq_some_iff.mp H
  obtain ⟨t232, A60, H⟩ := H
  replace H : (if t232 = true then (if (l2.length : Int) > 20 then (ropewaylaw15_SnapEnds_f.j0 k l2 true) else (if a1_0 < 0 then (ropewaylaw15_SnapEnds_f.j0 k l2 true) else (if a1_0 > 5 then (ropewaylaw15_SnapEnds_f.j0 k l2 true) else ((ropewayref04_Right.f a1_1 a1_2).bind fun t233 => (if t233 = true then (ropewaylaw15_SnapEnds_f.j0 k l2 (a1_1 == 0 && (a1_2 == 0))) else (ropewaylaw15_SnapEnds_f.j0 k l2 true)))))) else (some false)) = some r := H
  have A6 := zM A60
  clear A60
  by_cases c7 : t232 = true
  rotate_left
  · replace c7 := Bool.eq_false_iff.mpr c7
    subst c7
    have H1 : (some false) = some r := by rw [if_neg (show ¬ (false = true) by decide)] at H; exact H
    clear H
    have H := H1
    clear H1
    have tk251 : True := trivial
    go_upto_region 2 with (first | (go_at_call 10; (with_reducible refine (ropewaylaw15_snapAlive.calls k  false _ A6.out).mono ?_); clear tk251; rintro e w250 ⟨rfl, hb⟩; replace HO2 := zM (Kd.V_below (rv_ HO2) hb); replace BK231 := zM (bb_ BK231 hb); replace HB := zM (zB bel_ hb); (try clear hb); (try clear hi)))
    exact absurd (Option.some.inj H) (by rw [hr1_.out]; decide)
  subst c7
  have H1 : (if (l2.length : Int) > 20 then (ropewaylaw15_SnapEnds_f.j0 k l2 true) else (if a1_0 < 0 then (ropewaylaw15_SnapEnds_f.j0 k l2 true) else (if a1_0 > 5 then (ropewaylaw15_SnapEnds_f.j0 k l2 true) else ((ropewayref04_Right.f a1_1 a1_2).bind fun t233 => (if t233 = true then (ropewaylaw15_SnapEnds_f.j0 k l2 (a1_1 == 0 && (a1_2 == 0))) else (ropewaylaw15_SnapEnds_f.j0 k l2 true)))))) = some r := by rw [if_pos rfl] at H; exact H
  clear H
  have H := H1
  clear H1
  have tk9 : True := trivial
  go_upto_region 3 with (first | (go_at_call 10; (with_reducible refine (ropewaylaw15_snapAlive.calls k  true _ A6.out).mono ?_); clear tk9; rintro e w8 ⟨rfl, hb⟩; replace HO2 := zM (Kd.V_below (rv_ HO2) hb); replace BK231 := zM (bb_ BK231 hb); replace HB := zM (zB bel_ hb); (try clear hb); (try clear hi)))
  have HC10 := zM H
  clear H
  go_upto_region 3 with (fail)
  go_cut [44] (fun v44 wc => ∃ (kq : Nat) (x44_9 : Bool), v44 = .bool x44_9 ∧ Aside0 (ropewaylaw15_SnapEnds_f.j0 kq l2 x44_9 = some r) ∧ Aside0 (kq ≤ k) ∧ Aside0 (Kd.V (Kd.slice 34 k34) 27 wc w.heap.size (fun k_ => (P2_ k_ ∨ w.heap.size ≤ k_) ∧ k_ ≠ gb231) (.slice A2 l2.length c2) l2) ∧ Aside0 (wc.heap[gb231]? = some (.cells #[.int .i64 a1_0, .int .i64 a1_1, .int .i64 a1_2] 34 (0, 0))) ∧ Aside0 (Below w.heap.size w wc))
  case first =>
   have H := HC10.out
   clear HC10
   by_cases c11 : (l2.length : Int) > 20
   · rw [if_pos c11] at H
     have c11b0 : decide (20 < (l2.length : Int)) = true := decide_eq_true c11
     have c11b1 : decide (20 < l2.length) = true := decide_eq_true (by omega)
     clear c11
     (first | rw [c11b0] | (simp only [i64_w, i32_w]; rw [c11b0]) | skip)
     have H' := zM H
     clear H
     go_wp2
     go_meet
     case rel => exact ⟨_, (true), (by first | rfl | (simp; done) | (simp [*]; done) | (simp; grind)), H', ⟨by first | omega | exact Nat.le_refl _⟩, ⟨rv_ HO2⟩, ⟨blf_⟩, ⟨bel_⟩⟩
   rw [if_neg c11] at H
   have c11b0 : decide (20 < (l2.length : Int)) = false := decide_eq_false c11
   have c11b1 : decide (20 < l2.length) = false := decide_eq_false (by omega)
   clear c11
   (first | rw [c11b0] | (simp only [i64_w, i32_w]; rw [c11b0]) | skip)
   by_cases c12 : a1_0 < 0
   · rw [if_pos c12] at H
     have c12b0 : decide (a1_0 < 0) = true := decide_eq_true c12
     clear c12
     have H' := zM H
     clear H
     have hcz13_0 : w8.cell? ⟨gb231, 0, none⟩ = some (.int .i64 a1_0) := (zL BK231.out 0).trans rfl
     have hcz13_1 : w8.cell? ⟨gb231, 1, none⟩ = some (.int .i64 a1_1) := (zL BK231.out 1).trans rfl
     have hcz13_2 : w8.cell? ⟨gb231, 2, none⟩ = some (.int .i64 a1_2) := (zL BK231.out 2).trans rfl
     have hfz13_0 := zF BK231.out 0
     have hfz13_1 := zF BK231.out 1
     have hfz13_2 := zF BK231.out 2
     go_wp2
     go_meet
     case rel => exact ⟨_, (true), (by first | rfl | (simp; done) | (simp [*]; done) | (simp; grind)), H', ⟨by first | omega | exact Nat.le_refl _⟩, ⟨rv_ HO2⟩, ⟨blf_⟩, ⟨bel_⟩⟩
   rw [if_neg c12] at H
   have c12b0 : decide (a1_0 < 0) = false := decide_eq_false c12
   clear c12
   by_cases c14 : a1_0 > 5
   · rw [if_pos c14] at H
     have c14b0 : decide (5 < a1_0) = true := decide_eq_true c14
     clear c14
     have H' := zM H
     clear H
     have hcz15_0 : w8.cell? ⟨gb231, 0, none⟩ = some (.int .i64 a1_0) := (zL BK231.out 0).trans rfl
     have hcz15_1 : w8.cell? ⟨gb231, 1, none⟩ = some (.int .i64 a1_1) := (zL BK231.out 1).trans rfl
     have hcz15_2 : w8.cell? ⟨gb231, 2, none⟩ = some (.int .i64 a1_2) := (zL BK231.out 2).trans rfl
     have hfz15_0 := zF BK231.out 0
     have hfz15_1 := zF BK231.out 1
     have hfz15_2 := zF BK231.out 2
     go_wp2
     go_meet
     case rel => exact ⟨_, (true), (by first | rfl | (simp; done) | (simp [*]; done) | (simp; grind)), H', ⟨by first | omega | exact Nat.le_refl _⟩, ⟨rv_ HO2⟩, ⟨blf_⟩, ⟨bel_⟩⟩
   rw [if_neg c14] at H
   have c14b0 : decide (5 < a1_0) = false := decide_eq_false c14
   clear c14
   replace H := Option.bind_eq_some_iff.mp H
   obtain ⟨t233, A160, H⟩ := H
   replace H : (if t233 = true then (ropewaylaw15_SnapEnds_f.j0 k l2 (a1_1 == 0 && (a1_2 == 0))) else (ropewaylaw15_SnapEnds_f.j0 k l2 true)) = some r := H
   have A16 := zM A160
   clear A160
   by_cases c17 : t233 = true
   rotate_left
   · replace c17 := Bool.eq_false_iff.mpr c17
     subst c17
     have H1 : (ropewaylaw15_SnapEnds_f.j0 k l2 true) = some r := by rw [if_neg (show ¬ (false = true) by decide)] at H; exact H
     clear H
     have H := H1
     clear H1
     have H' := zM H
     clear H
     have hcz22_0 : w8.cell? ⟨gb231, 0, none⟩ = some (.int .i64 a1_0) := (zL BK231.out 0).trans rfl
     have hcz22_1 : w8.cell? ⟨gb231, 1, none⟩ = some (.int .i64 a1_1) := (zL BK231.out 1).trans rfl
     have hcz22_2 : w8.cell? ⟨gb231, 2, none⟩ = some (.int .i64 a1_2) := (zL BK231.out 2).trans rfl
     have hfz22_0 := zF BK231.out 0
     have hfz22_1 := zF BK231.out 1
     have hfz22_2 := zF BK231.out 2
     have tk24 : True := trivial
     go_wp2_with (first | (go_at_call 13; (with_reducible refine (ropewayref04_Right.calls a1_1 a1_2 false _ A16.out).mono ?_); clear tk24; rintro e w23 ⟨rfl, hb⟩; replace HO2 := zM (Kd.V_below (rv_ HO2) hb); replace BK231 := zM (bb_ BK231 hb); replace HB := zM (zB bel_ hb); (try clear hb); (try clear hi)))
     go_meet
     case rel => exact ⟨_, (true), (by first | rfl | (simp; done) | (simp [*]; done) | (simp; grind)), H', ⟨by first | omega | exact Nat.le_refl _⟩, ⟨rv_ HO2⟩, ⟨blf_⟩, ⟨bel_⟩⟩
   subst c17
   have H1 : (ropewaylaw15_SnapEnds_f.j0 k l2 (a1_1 == 0 && (a1_2 == 0))) = some r := by rw [if_pos rfl] at H; exact H
   clear H
   have H := H1
   clear H1
   have H' := zM H
   clear H
   have hcz18_0 : w8.cell? ⟨gb231, 0, none⟩ = some (.int .i64 a1_0) := (zL BK231.out 0).trans rfl
   have hcz18_1 : w8.cell? ⟨gb231, 1, none⟩ = some (.int .i64 a1_1) := (zL BK231.out 1).trans rfl
   have hcz18_2 : w8.cell? ⟨gb231, 2, none⟩ = some (.int .i64 a1_2) := (zL BK231.out 2).trans rfl
   have hfz18_0 := zF BK231.out 0
   have hfz18_1 := zF BK231.out 1
   have hfz18_2 := zF BK231.out 2
   have tk20 : True := trivial
   go_wp2_with (first | (go_at_call 13; (with_reducible refine (ropewayref04_Right.calls a1_1 a1_2 true _ A16.out).mono ?_); clear tk20; rintro e w19 ⟨rfl, hb⟩; replace HO2 := zM (Kd.V_below (rv_ HO2) hb); replace BK231 := zM (bb_ BK231 hb); replace HB := zM (zB bel_ hb); (try clear hb); have hcz21_0 : w19.cell? ⟨gb231, 0, none⟩ = some (.int .i64 a1_0) := (zL BK231.out 0).trans rfl; have hcz21_1 : w19.cell? ⟨gb231, 1, none⟩ = some (.int .i64 a1_1) := (zL BK231.out 1).trans rfl; have hcz21_2 : w19.cell? ⟨gb231, 2, none⟩ = some (.int .i64 a1_2) := (zL BK231.out 2).trans rfl; have hfz21_0 := zF BK231.out 0; have hfz21_1 := zF BK231.out 1; have hfz21_2 := zF BK231.out 2))
   go_meet
   case rel => exact ⟨_, ((a1_1 == 0 && (a1_2 == 0))), (by first | rfl | (simp; done) | (simp [*]; done) | (simp; grind)), H', ⟨by first | omega | exact Nat.le_refl _⟩, ⟨rv_ HO2⟩, ⟨blf_⟩, ⟨bel_⟩⟩
  case rest =>
   clear HC10
   try clear c2
   try clear c7
   try clear c11
   try clear c11b0
   try clear c11b1
   try clear c12
   try clear c12b0
   try clear c14
   try clear c14b0
   try clear c17
   try clear hcz13_0
   try clear hcz13_1
   try clear hcz13_2
   try clear hcz15_0
   try clear hcz15_1
   try clear hcz15_2
   try clear hcz18_0
   try clear hcz18_1
   try clear hcz18_2
   try clear hcz21_0
   try clear hcz21_1
   try clear hcz21_2
   try clear hcz22_0
   try clear hcz22_1
   try clear hcz22_2
   try clear hfz13_0
   try clear hfz13_1
   try clear hfz13_2
   try clear hfz15_0
   try clear hfz15_1
   try clear hfz15_2
   try clear hfz18_0
   try clear hfz18_1
   try clear hfz18_2
   try clear hfz21_0
   try clear hfz21_1
   try clear hfz21_2
   try clear hfz22_0
   try clear hfz22_1
   try clear hfz22_2
   obtain ⟨kq, x44_9, rfl, HA, HJ9, HO_2, BK231, HB⟩ := hcut
   cases kq with
   | zero => exact absurd HA.out (by simp [ropewaylaw15_SnapEnds_f.j0])
   | succ kj9 =>
    have H := HA.out
    clear HA
    simp only [ropewaylaw15_SnapEnds_f.j0] at H
    by_cases c25 : x44_9 = true
    · subst c25
      have H1 : (some true) = some r := by rw [if_pos rfl] at H; exact H
      clear H
      have H := H1
      clear H1
      obtain rfl := Option.some.inj H
      go_wp2
      go_ret
      exact ⟨by first | rfl | (simp [errW_none, errW_some] <;> rfl) | (simp [*, errW_none, errW_some] <;> rfl), bel_⟩
    replace c25 := Bool.eq_false_iff.mpr c25
    subst c25
    have H1 : (ropewaylaw15_SnapEnds_f.l0 kj9 l2 0 (([] : List (S34))) l2 (l2.length : Int) 0 0 ([] : List (S34))) = some r := by rw [if_neg (show ¬ (false = true) by decide)] at H; exact H
    clear H
    have H := H1
    clear H1
    have tk26 : True := trivial
    have tk28 : True := trivial
    have tk29 : True := trivial
    go_upto_region 6 with (first | ((with_reducible refine gate_callee (f := 7) rfl ?_); clear tk26; refine goL_ (some 45) Try.func7 #[] ?_; go_enter Try.func7, Try.ntmps7) | ((with_reducible refine gate_dst (N := 2) rfl ?_); clear tk28; (try (refine gate_guard (by rfl) ?_; dsimp only)); refine box_event ?hg (N := 2) ?hd (cs := #[.slice none 0 0, .int .i64 0, .slice none 0 0]) (t := 61) ?hr ?_; (case hd => rfl); (case hg => rfl); (case hr => first | (go_simp; done) | (go_simp; rfl)); intro gb234 hg w27 hbox hb; replace HO_2 := zM (Kd.V_below (Kd.V_elderB (rv_ HO_2) gb234 (Nat.le_of_eq hg.symm)) hb); have BK234 := zM (hbox); have GW234 := zM (bs_ hg); have GE234 := zM (bs_ hg); replace HB := zM (zB bel_ hb); have NB231_234 := zM (nl_ BK231 hg); have NB234_231 := zM (ng_ BK231 hg); replace BK231 := zM (bb_ BK231 hb); clear hb hbox hg) | (clear tk29; (first | go_ret | go_ret2 | go_ret3 | go_end0); with_reducible refine inl_back_ ?_))
    obtain ⟨y235, hy235⟩ : ∃ y_ : List (S34), y_ = (([] : List (S34))) := ⟨_, rfl⟩
    replace H : (ropewaylaw15_SnapEnds_f.l0 kj9 l2 0 y235 l2 (l2.length : Int) 0 0 ([] : List (S34))) = some r := by first | (rw [hy235]; with_reducible exact H) | (have H2_ := (Option.bind_some _ _).symm.trans H; rw [hy235]; with_reducible exact H2_) | (have H2_ := (Option.bind_some _ _).symm.trans H; with_reducible exact H2_) | with_reducible exact H | (rw [hy235]; exact H) | exact H
    have Ny235 := zM hy235
    clear hy235
    have tk32 : True := trivial
    go_upto_region 10 with (first | ((with_reducible refine gate_dst (N := 52) rfl ?_); clear tk32; (try (refine gate_guard (by rfl) ?_; dsimp only)); refine Kd.R_lit k34 _ 34 ?hg (N := 52) ?hd (xs := ([] : List (S34))) (inner := []) (ok := fun _ => True) (okp := fun _ => True) ?hr ?hp (fun _ hk => hk) trivial (Below.refl _ _) (Nat.le_refl _) (by simp) ?_; (case hd => rfl); (case hg => rfl); (case hr => first | (go_simp; done) | (go_simp; rfl)); (case hp => exact (Reps.none _ _)); intro v236 w30 ho31 hb hg_ hnew_; clear hg_ hnew_; (first | rw [← Ny235.out] at ho31 | (simp only [Int.reduceToNat] at ho31; rw [← Ny235.out] at ho31)); replace HO_2 := zM (Kd.V_elder' (rv_ HO_2) (Kd.R_base ho31) hb); have HO237 := zM (Kd.R_lower (Kd.R_newB (Kd.R_newM (M := fun k_ => (w.heap.size ≤ k_)) ho31 (below_size bel_) (fun k_ h_ => h_)) (g := gb231) (o := .cells #[.int .i64 a1_0, .int .i64 a1_1, .int .i64 a1_2] 34 (0, 0)) blk_) (below_size bel_)); replace BK231 := zM (bb_ BK231 hb); replace BK234 := zM (bb_ BK234 hb); replace HB := zM (zB bel_ hb); clear hb ho31))
    have HC33 := zM H
    clear H
    go_upto_block 0 with (fail)
    go_cut [8] (fun v8 wc => ∃ (kq : Nat) (x8_32 : Int) (x235001_32 : Int) (x235002_32 : List (S34)) (u235002 : Value), v8 = .int .i64 x8_32 ∧ Aside0 (ropewaylaw15_SnapEnds_f.j5 kq l2 x8_32 x235001_32 x235002_32 = some r) ∧ Aside0 (kq ≤ kj9) ∧ Aside0 (Kd.V (Kd.slice 34 k34) 27 wc w.heap.size (fun k_ => (P2_ k_ ∨ w.heap.size ≤ k_) ∧ some k_ ≠ (u235002 : Value).ownBlock ∧ k_ ≠ gb231 ∧ k_ ≠ gb234) (.slice A2 l2.length c2) l2) ∧ Aside0 (Kd.R k34 34 wc w.heap.size (fun k_ => (w.heap.size ≤ k_) ∧ k_ ≠ gb231) u235002 x235002_32) ∧ Aside0 (wc.heap[gb231]? = some (.cells #[.int .i64 a1_0, .int .i64 a1_1, .int .i64 a1_2] 34 (0, 0))) ∧ Aside0 (wc.heap[gb234]? = some (.cells #[(.slice none 0 0), .int .i64 x235001_32, u235002] 61 (0, 0))) ∧ Aside0 (Below w.heap.size w wc))
    case first =>
     have H := HC33.out
     clear HC33
     have H' := zM H
     clear H
     go_wp2
     go_loopg [8, 9, 55] kj9 (fun kq v8 v9 v55 w' => ∃ (x8_2 : Int) (x9_2 : List (S34)) (x55_2 : Int) (x235001_2 : Int) (x235002_2 : List (S34)) (u235002 : Value), v8 = .int .i64 x8_2 ∧ v55 = .int .i64 x55_2 ∧ Aside0 (ropewaylaw15_SnapEnds_f.l0 kq l2 x8_2 x9_2 l2 (l2.length : Int) x55_2 x235001_2 x235002_2 = some r) ∧ Aside0 (kq ≤ kj9) ∧ Aside0 (Kd.V (Kd.slice 34 k34) 27 w' w.heap.size (fun k_ => (P2_ k_ ∨ w.heap.size ≤ k_) ∧ some k_ ≠ (u235002 : Value).ownBlock ∧ k_ ≠ gb231 ∧ k_ ≠ gb234) (.slice A2 l2.length c2) l2) ∧ Aside0 (Kd.V k34 34 w' w.heap.size (fun k_ => (P2_ k_ ∨ w.heap.size ≤ k_) ∧ some k_ ≠ (u235002 : Value).ownBlock ∧ k_ ≠ gb231 ∧ k_ ≠ gb234) v9 x9_2) ∧ Aside0 (Kd.V (Kd.slice 34 k34) 27 w' w.heap.size (fun k_ => (P2_ k_ ∨ w.heap.size ≤ k_) ∧ some k_ ≠ (u235002 : Value).ownBlock ∧ k_ ≠ gb231 ∧ k_ ≠ gb234) (.slice A2 l2.length c2) l2) ∧ Aside0 (Kd.R k34 34 w' w.heap.size (fun k_ => (w.heap.size ≤ k_) ∧ k_ ≠ gb231) u235002 x235002_2) ∧ Aside0 (w'.heap[gb231]? = some (.cells #[.int .i64 a1_0, .int .i64 a1_1, .int .i64 a1_2] 34 (0, 0))) ∧ Aside0 (w'.heap[gb234]? = some (.cells #[(.slice none 0 0), .int .i64 x235001_2, u235002] 61 (0, 0))) ∧ Aside0 (Below w.heap.size w w'))
     case atStart => exact ⟨(0), (y235), (0), (0), (([] : List (S34))), (.slice none 0 0), (by first | rfl | (simp; done) | (simp [*]; done) | (simp; grind)), (by first | rfl | (simp; done) | (simp [*]; done) | (simp; grind)), H', ⟨Nat.le_refl _⟩, ⟨by (with_reducible repeat (first | apply Kd.V_alloc | apply Kd.V_drewN | apply Kd.V_drew)); exact Kd.V_mono HO_2.out (fun _ hk => ⟨hk.1.1.1, ⟨(by simp [Value.ownBlock]), ⟨hk.1.1.2, hk.1.2⟩⟩⟩)⟩, ⟨by first | exact vr_ (by (with_reducible repeat (first | apply Kd.R_alloc | apply Kd.R_drewN | apply Kd.R_drew)); exact Kd.R_mono (Kd.R_types HO237.out BK234.out (by decide)) (fun _ hk => ⟨hk.1.1.1, ⟨(by simp [Value.ownBlock]), ⟨hk.1.2, hk.2⟩⟩⟩)) | exact vr0_ (by (with_reducible repeat (first | apply Kd.R_alloc | apply Kd.R_drewN | apply Kd.R_drew)); exact Kd.R_mono (Kd.R_types HO237.out BK234.out (by decide)) (fun _ hk => ⟨hk.1.1.1, ⟨(by simp [Value.ownBlock]), ⟨hk.1.2, hk.2⟩⟩⟩))⟩, ⟨by (with_reducible repeat (first | apply Kd.V_alloc | apply Kd.V_drewN | apply Kd.V_drew)); exact Kd.V_mono HO_2.out (fun _ hk => ⟨hk.1.1.1, ⟨(by simp [Value.ownBlock]), ⟨hk.1.1.2, hk.1.2⟩⟩⟩)⟩, ⟨by first | exact Kd.R_nil _ _ _ _ _ | exact Kd.N_nil _ _ _ _ _ | exact Kd.V_nil _ _ _ _ _ | exact Kd.Q_nil _ _ _ _ _ | exact Kd.S_nil _ _ _ _ _⟩, ⟨blf_⟩, ⟨blf_⟩, ⟨bel_⟩⟩
     case round =>
      clear H'
      try clear c2
      try clear c7
      try clear c11
      try clear c11b0
      try clear c11b1
      try clear c12
      try clear c12b0
      try clear c14
      try clear c14b0
      try clear c17
      try clear c25
      try clear hcz13_0
      try clear hcz13_1
      try clear hcz13_2
      try clear hcz15_0
      try clear hcz15_1
      try clear hcz15_2
      try clear hcz18_0
      try clear hcz18_1
      try clear hcz18_2
      try clear hcz21_0
      try clear hcz21_1
      try clear hcz21_2
      try clear hcz22_0
      try clear hcz22_1
      try clear hcz22_2
      try clear hfz13_0
      try clear hfz13_1
      try clear hfz13_2
      try clear hfz15_0
      try clear hfz15_1
      try clear hfz15_2
      try clear hfz18_0
      try clear hfz18_1
      try clear hfz18_2
      try clear hfz21_0
      try clear hfz21_1
      try clear hfz21_2
      try clear hfz22_0
      try clear hfz22_1
      try clear hfz22_2
      obtain ⟨x8_2, x9_2, x55_2, x235001_2, x235002_2, u235002, rfl, rfl, HA, HK2, HO_2, HO_9, HO_53, HO_235002, BK231, BK234, HB⟩ := hrel
      cases gk with
      | zero => exact absurd HA.out (by simp [ropewaylaw15_SnapEnds_f.l0])
      | succ k2 =>
       have H := HA.out
       clear HA
       simp only [ropewaylaw15_SnapEnds_f.l0] at H
       by_cases c34 : x55_2 < (l2.length : Int)
       rotate_left
       · rw [if_neg c34] at H
         have c34b0 : decide (x55_2 < (l2.length : Int)) = false := decide_eq_false c34
         clear c34
         (first | rw [c34b0] | (simp only [i64_w, i32_w]; rw [c34b0]) | skip)
         have H' := zM H
         clear H
         go_wp2
         go_meet
         case rel => exact ⟨_, (x8_2), (x235001_2), (x235002_2), (u235002), (by first | rfl | (simp; done) | (simp [*]; done) | (simp; grind)), H', ⟨by have := HJ9.out; have := HK2.out; first | omega | exact Nat.le_refl _⟩, ⟨rv_ HO_2⟩, ⟨by (with_reducible repeat (first | apply Kd.R_alloc | apply Kd.R_drewN | apply Kd.R_drew)); exact HO_235002.out⟩, ⟨blf_⟩, ⟨blf_⟩, ⟨bel_⟩⟩
       rw [if_pos c34] at H
       have c34b0 : decide (x55_2 < (l2.length : Int)) = true := decide_eq_true c34
       clear c34
       (first | rw [c34b0] | (simp only [i64_w, i32_w]; rw [c34b0]) | skip)
       by_cases c35 : 0 ≤ x55_2
       rotate_left
       · rw [if_neg c35] at H
         exact absurd H (by simp)
       rw [if_pos c35] at H
       have c35b0 : decide (0 ≤ x55_2) = true := decide_eq_true c35
       clear c35
       by_cases c36 : x55_2 < (l2.length : Int)
       rotate_left
       · rw [if_neg c36] at H
         exact absurd H (by simp)
       rw [if_pos c36] at H
       have c36b0 : decide (x55_2 < (l2.length : Int)) = true := decide_eq_true c36
       clear c36
       replace H := Option.bind_eq_some_iff.mp H
       obtain ⟨t239, A370, H⟩ := H
       replace H : (if t239 = 0 then (if x235001_2 = 4 then (ropewaylaw15_SnapEnds_f.j2 k2 l2 x8_2 x9_2 (rd_L3 l2 x55_2) 0 ([] : List (S34)) false l2 (l2.length : Int) x55_2 x235001_2 x235002_2) else (if x235001_2 = 0 then (ropewaylaw15_SnapEnds_f.j2 k2 l2 x8_2 x9_2 (rd_L3 l2 x55_2) 0 ([] : List (S34)) true l2 (l2.length : Int) x55_2 x235001_2 x235002_2) else (if x235001_2 = 2 then (ropewaylaw15_SnapEnds_f.j2 k2 l2 x8_2 x9_2 (rd_L3 l2 x55_2) 0 ([] : List (S34)) true l2 (l2.length : Int) x55_2 x235001_2 x235002_2) else (if x235001_2 = 1 then ((api_Cell.f x235002_2).bind fun t240 => (ropewaylaw15_SnapEnds_f.j2 k2 l2 x8_2 x9_2 (rd_L3 l2 x55_2) 1 t240 true l2 (l2.length : Int) x55_2 x235001_2 x235002_2)) else ((api_Cell.f x235002_2).bind fun t243 => (ropewaylaw15_SnapEnds_f.j2 k2 l2 x8_2 x9_2 (rd_L3 l2 x55_2) 1 t243 true l2 (l2.length : Int) x55_2 x235001_2 x235002_2)))))) else (some true)) = some r := H
       have A37 := zM A370
       clear A370
       by_cases c38 : t239 = 0
       rotate_left
       · rw [if_neg c38] at H
         have c38b0 : (t239 == 0) = false := beq_eq_false_iff_ne.mpr c38
         have c38b1 : (t239 != 0) = true := bne_iff_ne.mpr c38
         have p238 : 0 ≤ (x55_2 : Int) := of_decide_eq_true (by first | (with_reducible assumption) | assumption)
         have q238 : x55_2 < (l2.length : Int) := of_decide_eq_true (by first | (with_reducible assumption) | assumption)
         obtain ⟨ad238, A238_0, c238_0, e238, hx238_0, hl238_0, hi238_0⟩ := at_L3 (Kd.V_reads' HO_53.out).2.2 x55_2 p238 q238
         cases e238
         obtain ⟨ce238, hce238, hMe238, hcc238⟩ := Kd.V_get HO_53.out [] x55_2 p238 (by first | exact q238 | exact of_decide_eq_true (by first | (with_reducible assumption) | assumption) | (have e_ := (Kd.V_reads' HO_53.out).1; omega))
         obtain ⟨ua238_0, uc238_0, rfl, ul238_0, ge238_0⟩ := Kd.FK_slice_open hMe238
         have hv238_0 := hcc238 0 _ rfl
         rw [Nat.add_zero, show ((Kd.slice 34 k34)).sz = 1 from rfl, Nat.mul_one] at hv238_0
         replace hv238_0 := Option.some.inj (hv238_0.symm.trans hx238_0)
         injection hv238_0 with hva_ hvn_ hvc_
         rw [hva_] at ge238_0
         rw [hvc_] at ul238_0
         have HL238_0 := zM (show Kd.V k34 34 _ w.heap.size _ _ (rd_L3 l2 x55_2) from Kd.V_mk ul238_0 ge238_0)
         clear hva_ hvn_ hvc_ ge238_0 ul238_0
         clear hcc238 hce238
         have HR238_0 := zM hi238_0
         have HC238_0 := zM hl238_0
         clear hi238_0 hl238_0
         replace p238 := eq_true p238
         replace q238 := eq_true q238
         have tk206 : True := trivial
         go_upto_region 14 with (first | (go_at_call 14; (with_reducible refine (ropewayref10_Check.calls k2 _ _ (rd_L3 l2 x55_2) t239 _ ?side1 ?side2 A37.out).mono ?_); (case side1 => repeat (first | exact (Kd.V_reads' HL238_0.out).2.2 | (with_reducible refine Kd.C_alloc ?_ _) | (with_reducible refine Kd.C_drewN ?_ _) | (with_reducible refine Kd.C_drew ?_))); (case side2 => exact (Kd.V_reads' HL238_0.out).2.1); clear tk206; rintro e w205 ⟨rfl, hb⟩; replace HO_2 := zM (Kd.V_below (rv_ HO_2) hb); replace HO_9 := zM (Kd.V_below (rv_ HO_9) hb); replace HO_53 := zM (Kd.V_below (rv_ HO_53) hb); replace HO_235002 := zM (Kd.R_below (rl_ HO_235002) hb); replace HL238_0 := zM (Kd.V_below (rv_ HL238_0) hb); replace BK231 := zM (bb_ BK231 hb); replace BK234 := zM (bb_ BK234 hb); replace HR238_0 := zM (Kd.C_below (cv_ HR238_0) hb); replace HB := zM (zB bel_ hb); (try clear hb); (try clear hi)))
         obtain rfl := Option.some.inj H
         go_wp2
         go_ret
         exact ⟨by first | rfl | (simp [errW_none, errW_some] <;> rfl) | (simp [*, errW_none, errW_some] <;> rfl), bel_⟩
       rw [if_pos c38] at H
       have c38b0 : (t239 == 0) = true := beq_iff_eq.mpr c38
       have c38b1 : (t239 != 0) = false := bne_eq_false_iff_eq.mpr c38
       clear c38
       have p238 : 0 ≤ (x55_2 : Int) := of_decide_eq_true (by first | (with_reducible assumption) | assumption)
       have q238 : x55_2 < (l2.length : Int) := of_decide_eq_true (by first | (with_reducible assumption) | assumption)
       obtain ⟨ad238, A238_0, c238_0, e238, hx238_0, hl238_0, hi238_0⟩ := at_L3 (Kd.V_reads' HO_53.out).2.2 x55_2 p238 q238
       cases e238
       obtain ⟨ce238, hce238, hMe238, hcc238⟩ := Kd.V_get HO_53.out [] x55_2 p238 (by first | exact q238 | exact of_decide_eq_true (by first | (with_reducible assumption) | assumption) | (have e_ := (Kd.V_reads' HO_53.out).1; omega))
       obtain ⟨ua238_0, uc238_0, rfl, ul238_0, ge238_0⟩ := Kd.FK_slice_open hMe238
       have hv238_0 := hcc238 0 _ rfl
       rw [Nat.add_zero, show ((Kd.slice 34 k34)).sz = 1 from rfl, Nat.mul_one] at hv238_0
       replace hv238_0 := Option.some.inj (hv238_0.symm.trans hx238_0)
       injection hv238_0 with hva_ hvn_ hvc_
       rw [hva_] at ge238_0
       rw [hvc_] at ul238_0
       have HL238_0 := zM (show Kd.V k34 34 _ w.heap.size _ _ (rd_L3 l2 x55_2) from Kd.V_mk ul238_0 ge238_0)
       clear hva_ hvn_ hvc_ ge238_0 ul238_0
       clear hcc238 hce238
       have HR238_0 := zM hi238_0
       have HC238_0 := zM hl238_0
       clear hi238_0 hl238_0
       replace p238 := eq_true p238
       replace q238 := eq_true q238
       have tk40 : True := trivial
       go_upto_region 15 with (first | (go_at_call 14; (with_reducible refine (ropewayref10_Check.calls k2 _ _ (rd_L3 l2 x55_2) t239 _ ?side1 ?side2 A37.out).mono ?_); (case side1 => repeat (first | exact (Kd.V_reads' HL238_0.out).2.2 | (with_reducible refine Kd.C_alloc ?_ _) | (with_reducible refine Kd.C_drewN ?_ _) | (with_reducible refine Kd.C_drew ?_))); (case side2 => exact (Kd.V_reads' HL238_0.out).2.1); clear tk40; rintro e w39 ⟨rfl, hb⟩; replace HO_2 := zM (Kd.V_below (rv_ HO_2) hb); replace HO_9 := zM (Kd.V_below (rv_ HO_9) hb); replace HO_53 := zM (Kd.V_below (rv_ HO_53) hb); replace HO_235002 := zM (Kd.R_below (rl_ HO_235002) hb); replace HL238_0 := zM (Kd.V_below (rv_ HL238_0) hb); replace BK231 := zM (bb_ BK231 hb); replace BK234 := zM (bb_ BK234 hb); replace HR238_0 := zM (Kd.C_below (cv_ HR238_0) hb); replace HB := zM (zB bel_ hb); (try clear hb); (try clear hi)))
       have HC41 := zM H
       clear H
       go_upto_region 15 with (fail)
       go_cut [12, 13, 14] (fun v12 v13 v14 wc => ∃ (kq : Nat) (x12_40 : Int) (x13_40 : List (S34)) (x14_40 : Bool) (x235001_40 : Int), v12 = .int .i64 x12_40 ∧ v14 = .bool x14_40 ∧ Aside0 (ropewaylaw15_SnapEnds_f.j2 kq l2 x8_2 x9_2 (rd_L3 l2 x55_2) x12_40 x13_40 x14_40 l2 (l2.length : Int) x55_2 x235001_40 x235002_2 = some r) ∧ Aside0 (kq ≤ k2) ∧ Aside0 (Kd.V (Kd.slice 34 k34) 27 wc w.heap.size (fun k_ => (P2_ k_ ∨ w.heap.size ≤ k_) ∧ some k_ ≠ (v13 : Value).ownBlock ∧ some k_ ≠ (u235002 : Value).ownBlock ∧ k_ ≠ gb231 ∧ k_ ≠ gb234) (.slice (some ad238) l2.length c2) l2) ∧ Aside0 (Kd.V k34 34 wc w.heap.size (fun k_ => (P2_ k_ ∨ w.heap.size ≤ k_) ∧ some k_ ≠ (v13 : Value).ownBlock ∧ some k_ ≠ (u235002 : Value).ownBlock ∧ k_ ≠ gb231 ∧ k_ ≠ gb234) u9 x9_2) ∧ Aside0 (Kd.V k34 34 wc w.heap.size (fun k_ => (P2_ k_ ∨ w.heap.size ≤ k_) ∧ some k_ ≠ (v13 : Value).ownBlock ∧ some k_ ≠ (u235002 : Value).ownBlock ∧ k_ ≠ gb231 ∧ k_ ≠ gb234) (.slice A238_0 (rd_L3 l2 x55_2).length c238_0) (rd_L3 l2 x55_2)) ∧ Aside0 (Kd.R k34 34 wc w.heap.size (fun k_ => (w.heap.size ≤ k_) ∧ some k_ ≠ (u235002 : Value).ownBlock ∧ k_ ≠ gb231) v13 x13_40) ∧ Aside0 (Kd.V (Kd.slice 34 k34) 27 wc w.heap.size (fun k_ => (P2_ k_ ∨ w.heap.size ≤ k_) ∧ some k_ ≠ (v13 : Value).ownBlock ∧ some k_ ≠ (u235002 : Value).ownBlock ∧ k_ ≠ gb231 ∧ k_ ≠ gb234) (.slice (some ad238) l2.length c2) l2) ∧ Aside0 (Kd.R k34 34 wc w.heap.size (fun k_ => (w.heap.size ≤ k_) ∧ some k_ ≠ (v13 : Value).ownBlock ∧ k_ ≠ gb231) u235002 x235002_2) ∧ Aside0 (wc.heap[gb231]? = some (.cells #[.int .i64 a1_0, .int .i64 a1_1, .int .i64 a1_2] 34 (0, 0))) ∧ Aside0 (wc.heap[gb234]? = some (.cells #[(.slice none 0 0), .int .i64 x235001_40, u235002] 61 (0, 0))) ∧ Aside0 (Kd.C k34 wc A238_0 (rd_L3 l2 x55_2).length (rd_L3 l2 x55_2)) ∧ Aside0 (Below w.heap.size w wc))
       case first =>
        have H := HC41.out
        clear HC41
        by_cases c42 : x235001_2 = 4
        · rw [if_pos c42] at H
          have c42b0 : (x235001_2 == 4) = true := beq_iff_eq.mpr c42
          have c42b1 : (x235001_2 != 4) = false := bne_eq_false_iff_eq.mpr c42
          clear c42
          (first | rw [c42b0] | (simp only [i64_w, i32_w]; rw [c42b0]) | skip)
          have H' := zM H
          clear H
          have tk43 : True := trivial
          have tk46 : True := trivial
          go_wp2_with (first | ((with_reducible refine gate_callee (f := 9) rfl ?_); clear tk43; refine goL_ (some 64) Try.func9 #[.pointer (some ⟨gb234, 0, none⟩)] ?_; go_enter Try.func9, Try.ntmps9; have hnb44 := NB234_231.out; have hnc44 := NB231_234.out; have hcz45_0 : w39.cell? ⟨gb234, 0, none⟩ = some (.slice none 0 0) := (zL BK234.out 0).trans rfl; have hcz45_1 : w39.cell? ⟨gb234, 1, none⟩ = some (.int .i64 x235001_2) := (zL BK234.out 1).trans rfl; have hcz45_2 : w39.cell? ⟨gb234, 2, none⟩ = some (u235002) := (zL BK234.out 2).trans rfl; have hfz45_0 := zF BK234.out 0; have hfz45_1 := zF BK234.out 1; have hfz45_2 := zF BK234.out 2) | (clear tk46; (first | go_ret | go_ret2 | go_ret3 | go_end0); with_reducible refine inl_back_ ?_))
          go_meet
          case rel => exact ⟨_, (0), (([] : List (S34))), (false), (x235001_2), (by first | rfl | (simp; done) | (simp [*]; done) | (simp; grind)), (by first | rfl | (simp; done) | (simp [*]; done) | (simp; grind)), H', ⟨by have := HJ9.out; have := HK2.out; first | omega | exact Nat.le_refl _⟩, ⟨by (with_reducible repeat (first | apply Kd.V_alloc | apply Kd.V_drewN | apply Kd.V_drew)); exact Kd.V_mono HO_2.out (fun _ hk => ⟨hk.1, ⟨(by simp [Value.ownBlock]), ⟨hk.2.1, ⟨hk.2.2.1, hk.2.2.2⟩⟩⟩⟩)⟩, ⟨by (with_reducible repeat (first | apply Kd.V_alloc | apply Kd.V_drewN | apply Kd.V_drew)); exact Kd.V_mono HO_9.out (fun _ hk => ⟨hk.1, ⟨(by simp [Value.ownBlock]), ⟨hk.2.1, ⟨hk.2.2.1, hk.2.2.2⟩⟩⟩⟩)⟩, ⟨by (with_reducible repeat (first | apply Kd.V_alloc | apply Kd.V_drewN | apply Kd.V_drew)); exact Kd.V_mono HL238_0.out (fun _ hk => ⟨hk.1, ⟨(by simp [Value.ownBlock]), ⟨hk.2.1, ⟨hk.2.2.1, hk.2.2.2⟩⟩⟩⟩)⟩, ⟨by first | exact Kd.R_nil _ _ _ _ _ | exact Kd.N_nil _ _ _ _ _ | exact Kd.V_nil _ _ _ _ _ | exact Kd.Q_nil _ _ _ _ _ | exact Kd.S_nil _ _ _ _ _⟩, ⟨by (with_reducible repeat (first | apply Kd.V_alloc | apply Kd.V_drewN | apply Kd.V_drew)); exact Kd.V_mono HO_53.out (fun _ hk => ⟨hk.1, ⟨(by simp [Value.ownBlock]), ⟨hk.2.1, ⟨hk.2.2.1, hk.2.2.2⟩⟩⟩⟩)⟩, ⟨by (with_reducible repeat (first | apply Kd.R_alloc | apply Kd.R_drewN | apply Kd.R_drew)); exact Kd.R_mono HO_235002.out (fun _ hk => ⟨hk.1, ⟨(by simp [Value.ownBlock]), hk.2⟩⟩)⟩, ⟨blf_⟩, ⟨blf_⟩, ⟨cv_ HR238_0⟩, ⟨bel_⟩⟩
        rw [if_neg c42] at H
        have c42b0 : (x235001_2 == 4) = false := beq_eq_false_iff_ne.mpr c42
        have c42b1 : (x235001_2 != 4) = true := bne_iff_ne.mpr c42
        (first | rw [c42b0] | (simp only [i64_w, i32_w]; rw [c42b0]) | skip)
        by_cases c47 : x235001_2 = 0
        · rw [if_pos c47] at H
          have c47b0 : (x235001_2 == 0) = true := beq_iff_eq.mpr c47
          have c47b1 : (x235001_2 != 0) = false := bne_eq_false_iff_eq.mpr c47
          clear c47
          have H' := zM H
          clear H
          have tk48 : True := trivial
          have tk51 : True := trivial
          go_wp2_with (first | ((with_reducible refine gate_callee (f := 9) rfl ?_); clear tk48; refine goL_ (some 64) Try.func9 #[.pointer (some ⟨gb234, 0, none⟩)] ?_; go_enter Try.func9, Try.ntmps9; have hnb49 := NB234_231.out; have hnc49 := NB231_234.out; have hcz50_0 : w39.cell? ⟨gb234, 0, none⟩ = some (.slice none 0 0) := (zL BK234.out 0).trans rfl; have hcz50_1 : w39.cell? ⟨gb234, 1, none⟩ = some (.int .i64 x235001_2) := (zL BK234.out 1).trans rfl; have hcz50_2 : w39.cell? ⟨gb234, 2, none⟩ = some (u235002) := (zL BK234.out 2).trans rfl; have hfz50_0 := zF BK234.out 0; have hfz50_1 := zF BK234.out 1; have hfz50_2 := zF BK234.out 2) | (clear tk51; (first | go_ret | go_ret2 | go_ret3 | go_end0); with_reducible refine inl_back_ ?_))
          go_meet
          case rel => exact ⟨_, (0), (([] : List (S34))), (true), (x235001_2), (by first | rfl | (simp; done) | (simp [*]; done) | (simp; grind)), (by first | rfl | (simp; done) | (simp [*]; done) | (simp; grind)), H', ⟨by have := HJ9.out; have := HK2.out; first | omega | exact Nat.le_refl _⟩, ⟨by (with_reducible repeat (first | apply Kd.V_alloc | apply Kd.V_drewN | apply Kd.V_drew)); exact Kd.V_mono HO_2.out (fun _ hk => ⟨hk.1, ⟨(by simp [Value.ownBlock]), ⟨hk.2.1, ⟨hk.2.2.1, hk.2.2.2⟩⟩⟩⟩)⟩, ⟨by (with_reducible repeat (first | apply Kd.V_alloc | apply Kd.V_drewN | apply Kd.V_drew)); exact Kd.V_mono HO_9.out (fun _ hk => ⟨hk.1, ⟨(by simp [Value.ownBlock]), ⟨hk.2.1, ⟨hk.2.2.1, hk.2.2.2⟩⟩⟩⟩)⟩, ⟨by (with_reducible repeat (first | apply Kd.V_alloc | apply Kd.V_drewN | apply Kd.V_drew)); exact Kd.V_mono HL238_0.out (fun _ hk => ⟨hk.1, ⟨(by simp [Value.ownBlock]), ⟨hk.2.1, ⟨hk.2.2.1, hk.2.2.2⟩⟩⟩⟩)⟩, ⟨by first | exact Kd.R_nil _ _ _ _ _ | exact Kd.N_nil _ _ _ _ _ | exact Kd.V_nil _ _ _ _ _ | exact Kd.Q_nil _ _ _ _ _ | exact Kd.S_nil _ _ _ _ _⟩, ⟨by (with_reducible repeat (first | apply Kd.V_alloc | apply Kd.V_drewN | apply Kd.V_drew)); exact Kd.V_mono HO_53.out (fun _ hk => ⟨hk.1, ⟨(by simp [Value.ownBlock]), ⟨hk.2.1, ⟨hk.2.2.1, hk.2.2.2⟩⟩⟩⟩)⟩, ⟨by (with_reducible repeat (first | apply Kd.R_alloc | apply Kd.R_drewN | apply Kd.R_drew)); exact Kd.R_mono HO_235002.out (fun _ hk => ⟨hk.1, ⟨(by simp [Value.ownBlock]), hk.2⟩⟩)⟩, ⟨blf_⟩, ⟨blf_⟩, ⟨cv_ HR238_0⟩, ⟨bel_⟩⟩
        rw [if_neg c47] at H
        have c47b0 : (x235001_2 == 0) = false := beq_eq_false_iff_ne.mpr c47
        have c47b1 : (x235001_2 != 0) = true := bne_iff_ne.mpr c47
        by_cases c52 : x235001_2 = 2
        · rw [if_pos c52] at H
          have c52b0 : (x235001_2 == 2) = true := beq_iff_eq.mpr c52
          have c52b1 : (x235001_2 != 2) = false := bne_eq_false_iff_eq.mpr c52
          clear c52
          have H' := zM H
          clear H
          have tk53 : True := trivial
          have tk56 : True := trivial
          go_wp2_with (first | ((with_reducible refine gate_callee (f := 9) rfl ?_); clear tk53; refine goL_ (some 64) Try.func9 #[.pointer (some ⟨gb234, 0, none⟩)] ?_; go_enter Try.func9, Try.ntmps9; have hnb54 := NB234_231.out; have hnc54 := NB231_234.out; have hcz55_0 : w39.cell? ⟨gb234, 0, none⟩ = some (.slice none 0 0) := (zL BK234.out 0).trans rfl; have hcz55_1 : w39.cell? ⟨gb234, 1, none⟩ = some (.int .i64 x235001_2) := (zL BK234.out 1).trans rfl; have hcz55_2 : w39.cell? ⟨gb234, 2, none⟩ = some (u235002) := (zL BK234.out 2).trans rfl; have hfz55_0 := zF BK234.out 0; have hfz55_1 := zF BK234.out 1; have hfz55_2 := zF BK234.out 2) | (clear tk56; (first | go_ret | go_ret2 | go_ret3 | go_end0); with_reducible refine inl_back_ ?_))
          go_meet
          case rel => exact ⟨_, (0), (([] : List (S34))), (true), (x235001_2), (by first | rfl | (simp; done) | (simp [*]; done) | (simp; grind)), (by first | rfl | (simp; done) | (simp [*]; done) | (simp; grind)), H', ⟨by have := HJ9.out; have := HK2.out; first | omega | exact Nat.le_refl _⟩, ⟨by (with_reducible repeat (first | apply Kd.V_alloc | apply Kd.V_drewN | apply Kd.V_drew)); exact Kd.V_mono HO_2.out (fun _ hk => ⟨hk.1, ⟨(by simp [Value.ownBlock]), ⟨hk.2.1, ⟨hk.2.2.1, hk.2.2.2⟩⟩⟩⟩)⟩, ⟨by (with_reducible repeat (first | apply Kd.V_alloc | apply Kd.V_drewN | apply Kd.V_drew)); exact Kd.V_mono HO_9.out (fun _ hk => ⟨hk.1, ⟨(by simp [Value.ownBlock]), ⟨hk.2.1, ⟨hk.2.2.1, hk.2.2.2⟩⟩⟩⟩)⟩, ⟨by (with_reducible repeat (first | apply Kd.V_alloc | apply Kd.V_drewN | apply Kd.V_drew)); exact Kd.V_mono HL238_0.out (fun _ hk => ⟨hk.1, ⟨(by simp [Value.ownBlock]), ⟨hk.2.1, ⟨hk.2.2.1, hk.2.2.2⟩⟩⟩⟩)⟩, ⟨by first | exact Kd.R_nil _ _ _ _ _ | exact Kd.N_nil _ _ _ _ _ | exact Kd.V_nil _ _ _ _ _ | exact Kd.Q_nil _ _ _ _ _ | exact Kd.S_nil _ _ _ _ _⟩, ⟨by (with_reducible repeat (first | apply Kd.V_alloc | apply Kd.V_drewN | apply Kd.V_drew)); exact Kd.V_mono HO_53.out (fun _ hk => ⟨hk.1, ⟨(by simp [Value.ownBlock]), ⟨hk.2.1, ⟨hk.2.2.1, hk.2.2.2⟩⟩⟩⟩)⟩, ⟨by (with_reducible repeat (first | apply Kd.R_alloc | apply Kd.R_drewN | apply Kd.R_drew)); exact Kd.R_mono HO_235002.out (fun _ hk => ⟨hk.1, ⟨(by simp [Value.ownBlock]), hk.2⟩⟩)⟩, ⟨blf_⟩, ⟨blf_⟩, ⟨cv_ HR238_0⟩, ⟨bel_⟩⟩
        rw [if_neg c52] at H
        have c52b0 : (x235001_2 == 2) = false := beq_eq_false_iff_ne.mpr c52
        have c52b1 : (x235001_2 != 2) = true := bne_iff_ne.mpr c52
        by_cases c57 : x235001_2 = 1
        rotate_left
        · rw [if_neg c57] at H
          have c57b0 : (x235001_2 == 1) = false := beq_eq_false_iff_ne.mpr c57
          have c57b1 : (x235001_2 != 1) = true := bne_iff_ne.mpr c57
          replace H := Option.bind_eq_some_iff.mp H
          obtain ⟨t243, A700, H⟩ := H
          replace H : (ropewaylaw15_SnapEnds_f.j2 k2 l2 x8_2 x9_2 (rd_L3 l2 x55_2) 1 t243 true l2 (l2.length : Int) x55_2 x235001_2 x235002_2) = some r := H
          have A70 := zM A700
          clear A700
          have H' := zM H
          clear H
          have tk71 : True := trivial
          have tk74 : True := trivial
          have tk75 : True := trivial
          have tk78 : True := trivial
          have tk79 : True := trivial
          go_wp2_with (first | ((with_reducible refine gate_callee (f := 9) rfl ?_); clear tk71; refine goL_ (some 64) Try.func9 #[.pointer (some ⟨gb234, 0, none⟩)] ?_; go_enter Try.func9, Try.ntmps9; have hnb72 := NB234_231.out; have hnc72 := NB231_234.out; have hcz73_0 : w39.cell? ⟨gb234, 0, none⟩ = some (.slice none 0 0) := (zL BK234.out 0).trans rfl; have hcz73_1 : w39.cell? ⟨gb234, 1, none⟩ = some (.int .i64 x235001_2) := (zL BK234.out 1).trans rfl; have hcz73_2 : w39.cell? ⟨gb234, 2, none⟩ = some (u235002) := (zL BK234.out 2).trans rfl; have hfz73_0 := zF BK234.out 0; have hfz73_1 := zF BK234.out 1; have hfz73_2 := zF BK234.out 2) | ((with_reducible refine gate_callee (f := 11) rfl ?_); clear tk74; refine goL_ (some 24) Try.func11 #[.pointer (some ⟨gb234, 0, none⟩)] ?_; go_enter Try.func11, Try.ntmps11) | (clear tk75; (first | go_ret | go_ret2 | go_ret3 | go_end0); with_reducible refine inl_back_ ?_; obtain ⟨Ao76, co76, eo76⟩ := Kd.R_slice HO_235002.out; subst eo76) | (go_at_call 25; (with_reducible refine (api_Cell.calls _ _ x235002_2 t243 _ ?side1 ?side2 A70.out).mono ?_); (case side1 => repeat (first | exact (Kd.R_reads' HO_235002.out).2.2 | (with_reducible refine Kd.C_alloc ?_ _) | (with_reducible refine Kd.C_drewN ?_ _) | (with_reducible refine Kd.C_drew ?_))); (case side2 => exact (Kd.R_reads' HO_235002.out).2.1); clear tk78; rintro e w77 ⟨v244, rfl, ho0, hb⟩; replace HO_2 := zM (Kd.V_elder' (rv_ HO_2) (Kd.R_base ho0) hb); replace HO_9 := zM (Kd.V_elder' (rv_ HO_9) (Kd.R_base ho0) hb); replace HO_53 := zM (Kd.V_elder' (rv_ HO_53) (Kd.R_base ho0) hb); replace HL238_0 := zM (Kd.V_elder' (rv_ HL238_0) (Kd.R_base ho0) hb); have HO245 := zM (Kd.R_lower (Kd.R_newB (Kd.R_new' (Kd.R_newM (M := fun k_ => (w.heap.size ≤ k_)) ho0 (below_size bel_) (fun k_ h_ => h_)) (Kd.R_lt (rl_ HO_235002))) (g := gb231) (o := .cells #[.int .i64 a1_0, .int .i64 a1_1, .int .i64 a1_2] 34 (0, 0)) blk_) (below_size bel_)); replace HO_235002 := zM (Kd.R_elder' (rl_ HO_235002) (Kd.R_base ho0) hb); replace BK231 := zM (bb_ BK231 hb); replace BK234 := zM (bb_ BK234 hb); replace HR238_0 := zM (Kd.C_below (cv_ HR238_0) hb); replace HB := zM (zB bel_ hb); (try clear hb); (try clear ho0)) | (clear tk79; (first | go_ret | go_ret2 | go_ret3 | go_end0); with_reducible refine inl_back_ ?_))
          go_meet
          case rel => exact ⟨_, (1), (t243), (true), (x235001_2), (by first | rfl | (simp; done) | (simp [*]; done) | (simp; grind)), (by first | rfl | (simp; done) | (simp [*]; done) | (simp; grind)), H', ⟨by have := HJ9.out; have := HK2.out; first | omega | exact Nat.le_refl _⟩, ⟨by (with_reducible repeat (first | apply Kd.V_alloc | apply Kd.V_drewN | apply Kd.V_drew)); exact Kd.V_mono HO_2.out (fun _ hk => ⟨hk.1.1, ⟨hk.2, ⟨hk.1.2.1, ⟨hk.1.2.2.1, hk.1.2.2.2⟩⟩⟩⟩)⟩, ⟨by (with_reducible repeat (first | apply Kd.V_alloc | apply Kd.V_drewN | apply Kd.V_drew)); exact Kd.V_mono HO_9.out (fun _ hk => ⟨hk.1.1, ⟨hk.2, ⟨hk.1.2.1, ⟨hk.1.2.2.1, hk.1.2.2.2⟩⟩⟩⟩)⟩, ⟨by (with_reducible repeat (first | apply Kd.V_alloc | apply Kd.V_drewN | apply Kd.V_drew)); exact Kd.V_mono HL238_0.out (fun _ hk => ⟨hk.1.1, ⟨hk.2, ⟨hk.1.2.1, ⟨hk.1.2.2.1, hk.1.2.2.2⟩⟩⟩⟩)⟩, ⟨by (with_reducible repeat (first | apply Kd.R_alloc | apply Kd.R_drewN | apply Kd.R_drew)); exact Kd.R_mono HO245.out (fun _ hk => ⟨hk.1.1.1, ⟨hk.1.2, hk.2⟩⟩)⟩, ⟨by (with_reducible repeat (first | apply Kd.V_alloc | apply Kd.V_drewN | apply Kd.V_drew)); exact Kd.V_mono HO_53.out (fun _ hk => ⟨hk.1.1, ⟨hk.2, ⟨hk.1.2.1, ⟨hk.1.2.2.1, hk.1.2.2.2⟩⟩⟩⟩)⟩, ⟨by (with_reducible repeat (first | apply Kd.R_alloc | apply Kd.R_drewN | apply Kd.R_drew)); exact Kd.R_mono HO_235002.out (fun _ hk => ⟨hk.1.1, ⟨hk.2, hk.1.2⟩⟩)⟩, ⟨blf_⟩, ⟨blf_⟩, ⟨cv_ HR238_0⟩, ⟨bel_⟩⟩
        rw [if_pos c57] at H
        have c57b0 : (x235001_2 == 1) = true := beq_iff_eq.mpr c57
        have c57b1 : (x235001_2 != 1) = false := bne_eq_false_iff_eq.mpr c57
        clear c57
        replace H := Option.bind_eq_some_iff.mp H
        obtain ⟨t240, A580, H⟩ := H
        replace H : (ropewaylaw15_SnapEnds_f.j2 k2 l2 x8_2 x9_2 (rd_L3 l2 x55_2) 1 t240 true l2 (l2.length : Int) x55_2 x235001_2 x235002_2) = some r := H
        have A58 := zM A580
        clear A580
        have H' := zM H
        clear H
        have tk59 : True := trivial
        have tk62 : True := trivial
        have tk63 : True := trivial
        have tk64 : True := trivial
        have tk65 : True := trivial
        have tk68 : True := trivial
        have tk69 : True := trivial
        go_wp2_with (first | ((with_reducible refine gate_callee (f := 9) rfl ?_); clear tk59; refine goL_ (some 64) Try.func9 #[.pointer (some ⟨gb234, 0, none⟩)] ?_; go_enter Try.func9, Try.ntmps9; have hnb60 := NB234_231.out; have hnc60 := NB231_234.out; have hcz61_0 : w39.cell? ⟨gb234, 0, none⟩ = some (.slice none 0 0) := (zL BK234.out 0).trans rfl; have hcz61_1 : w39.cell? ⟨gb234, 1, none⟩ = some (.int .i64 x235001_2) := (zL BK234.out 1).trans rfl; have hcz61_2 : w39.cell? ⟨gb234, 2, none⟩ = some (u235002) := (zL BK234.out 2).trans rfl; have hfz61_0 := zF BK234.out 0; have hfz61_1 := zF BK234.out 1; have hfz61_2 := zF BK234.out 2) | ((with_reducible refine gate_callee (f := 11) rfl ?_); clear tk62; refine goL_ (some 24) Try.func11 #[.pointer (some ⟨gb234, 0, none⟩)] ?_; go_enter Try.func11, Try.ntmps11) | (go_at_call 26; clear tk63; go_enter Try.func26, Try.ntmps26) | (clear tk64; (first | go_ret | go_ret2 | go_ret3 | go_end0); simp only []; go_at_K) | (clear tk65; (first | go_ret | go_ret2 | go_ret3 | go_end0); with_reducible refine inl_back_ ?_; obtain ⟨Ao66, co66, eo66⟩ := Kd.R_slice HO_235002.out; subst eo66) | (go_at_call 25; (with_reducible refine (api_Cell.calls _ _ x235002_2 t240 _ ?side1 ?side2 A58.out).mono ?_); (case side1 => repeat (first | exact (Kd.R_reads' HO_235002.out).2.2 | (with_reducible refine Kd.C_alloc ?_ _) | (with_reducible refine Kd.C_drewN ?_ _) | (with_reducible refine Kd.C_drew ?_))); (case side2 => exact (Kd.R_reads' HO_235002.out).2.1); clear tk68; rintro e w67 ⟨v241, rfl, ho0, hb⟩; replace HO_2 := zM (Kd.V_elder' (rv_ HO_2) (Kd.R_base ho0) hb); replace HO_9 := zM (Kd.V_elder' (rv_ HO_9) (Kd.R_base ho0) hb); replace HO_53 := zM (Kd.V_elder' (rv_ HO_53) (Kd.R_base ho0) hb); replace HL238_0 := zM (Kd.V_elder' (rv_ HL238_0) (Kd.R_base ho0) hb); have HO242 := zM (Kd.R_lower (Kd.R_newB (Kd.R_new' (Kd.R_newM (M := fun k_ => (w.heap.size ≤ k_)) ho0 (below_size bel_) (fun k_ h_ => h_)) (Kd.R_lt (rl_ HO_235002))) (g := gb231) (o := .cells #[.int .i64 a1_0, .int .i64 a1_1, .int .i64 a1_2] 34 (0, 0)) blk_) (below_size bel_)); replace HO_235002 := zM (Kd.R_elder' (rl_ HO_235002) (Kd.R_base ho0) hb); replace BK231 := zM (bb_ BK231 hb); replace BK234 := zM (bb_ BK234 hb); replace HR238_0 := zM (Kd.C_below (cv_ HR238_0) hb); replace HB := zM (zB bel_ hb); (try clear hb); (try clear ho0)) | (clear tk69; (first | go_ret | go_ret2 | go_ret3 | go_end0); with_reducible refine inl_back_ ?_))
        go_meet
        case rel => exact ⟨_, (1), (t240), (true), (x235001_2), (by first | rfl | (simp; done) | (simp [*]; done) | (simp; grind)), (by first | rfl | (simp; done) | (simp [*]; done) | (simp; grind)), H', ⟨by have := HJ9.out; have := HK2.out; first | omega | exact Nat.le_refl _⟩, ⟨by (with_reducible repeat (first | apply Kd.V_alloc | apply Kd.V_drewN | apply Kd.V_drew)); exact Kd.V_mono HO_2.out (fun _ hk => ⟨hk.1.1, ⟨hk.2, ⟨hk.1.2.1, ⟨hk.1.2.2.1, hk.1.2.2.2⟩⟩⟩⟩)⟩, ⟨by (with_reducible repeat (first | apply Kd.V_alloc | apply Kd.V_drewN | apply Kd.V_drew)); exact Kd.V_mono HO_9.out (fun _ hk => ⟨hk.1.1, ⟨hk.2, ⟨hk.1.2.1, ⟨hk.1.2.2.1, hk.1.2.2.2⟩⟩⟩⟩)⟩, ⟨by (with_reducible repeat (first | apply Kd.V_alloc | apply Kd.V_drewN | apply Kd.V_drew)); exact Kd.V_mono HL238_0.out (fun _ hk => ⟨hk.1.1, ⟨hk.2, ⟨hk.1.2.1, ⟨hk.1.2.2.1, hk.1.2.2.2⟩⟩⟩⟩)⟩, ⟨by (with_reducible repeat (first | apply Kd.R_alloc | apply Kd.R_drewN | apply Kd.R_drew)); exact Kd.R_mono HO242.out (fun _ hk => ⟨hk.1.1.1, ⟨hk.1.2, hk.2⟩⟩)⟩, ⟨by (with_reducible repeat (first | apply Kd.V_alloc | apply Kd.V_drewN | apply Kd.V_drew)); exact Kd.V_mono HO_53.out (fun _ hk => ⟨hk.1.1, ⟨hk.2, ⟨hk.1.2.1, ⟨hk.1.2.2.1, hk.1.2.2.2⟩⟩⟩⟩)⟩, ⟨by (with_reducible repeat (first | apply Kd.R_alloc | apply Kd.R_drewN | apply Kd.R_drew)); exact Kd.R_mono HO_235002.out (fun _ hk => ⟨hk.1.1, ⟨hk.2, hk.1.2⟩⟩)⟩, ⟨blf_⟩, ⟨blf_⟩, ⟨cv_ HR238_0⟩, ⟨bel_⟩⟩
       case rest =>
        clear HC41
        try clear c2
        try clear c7
        try clear c11
        try clear c11b0
        try clear c11b1
        try clear c12
        try clear c12b0
        try clear c14
        try clear c14b0
        try clear c17
        try clear c25
        try clear c34
        try clear c34b0
        try clear c35
        try clear c35b0
        try clear c36
        try clear c36b0
        try clear c38
        try clear c38b0
        try clear c38b1
        try clear c42
        try clear c42b0
        try clear c42b1
        try clear c47
        try clear c47b0
        try clear c47b1
        try clear c52
        try clear c52b0
        try clear c52b1
        try clear c57
        try clear c57b0
        try clear c57b1
        try clear hcz13_0
        try clear hcz13_1
        try clear hcz13_2
        try clear hcz15_0
        try clear hcz15_1
        try clear hcz15_2
        try clear hcz18_0
        try clear hcz18_1
        try clear hcz18_2
        try clear hcz21_0
        try clear hcz21_1
        try clear hcz21_2
        try clear hcz22_0
        try clear hcz22_1
        try clear hcz22_2
        try clear hcz45_0
        try clear hcz45_1
        try clear hcz45_2
        try clear hcz50_0
        try clear hcz50_1
        try clear hcz50_2
        try clear hcz55_0
        try clear hcz55_1
        try clear hcz55_2
        try clear hcz61_0
        try clear hcz61_1
        try clear hcz61_2
        try clear hcz73_0
        try clear hcz73_1
        try clear hcz73_2
        try clear hfz13_0
        try clear hfz13_1
        try clear hfz13_2
        try clear hfz15_0
        try clear hfz15_1
        try clear hfz15_2
        try clear hfz18_0
        try clear hfz18_1
        try clear hfz18_2
        try clear hfz21_0
        try clear hfz21_1
        try clear hfz21_2
        try clear hfz22_0
        try clear hfz22_1
        try clear hfz22_2
        try clear hfz45_0
        try clear hfz45_1
        try clear hfz45_2
        try clear hfz50_0
        try clear hfz50_1
        try clear hfz50_2
        try clear hfz55_0
        try clear hfz55_1
        try clear hfz55_2
        try clear hfz61_0
        try clear hfz61_1
        try clear hfz61_2
        try clear hfz73_0
        try clear hfz73_1
        try clear hfz73_2
        try clear hx238_0
        try clear p238
        try clear q238
        obtain ⟨kq, x12_40, x13_40, x14_40, x235001_40, rfl, rfl, HA, HJ40, HO_2, HO_9, HO_11, HO_13, HO_53, HO_235002, BK231, BK234, HR238_0, HB⟩ := hcut
        cases kq with
        | zero => exact absurd HA.out (by simp [ropewaylaw15_SnapEnds_f.j2])
        | succ kj40 =>
         have H := HA.out
         clear HA
         simp only [ropewaylaw15_SnapEnds_f.j2] at H
         by_cases c80 : x14_40 = true
         rotate_left
         · replace c80 := Bool.eq_false_iff.mpr c80
           subst c80
           have H1 : (ropewaylaw15_SnapEnds_f.j5 kj40 l2 x8_2 x235001_40 x235002_2) = some r := by rw [if_neg (show ¬ (false = true) by decide)] at H; exact H
           clear H
           have H := H1
           clear H1
           have H' := zM H
           clear H
           go_wp2
           go_meet
           case rel => exact ⟨_, (x8_2), (x235001_40), (x235002_2), (u235002), (by first | rfl | (simp; done) | (simp [*]; done) | (simp; grind)), H', ⟨by have := HJ9.out; have := HK2.out; have := HJ40.out; first | omega | exact Nat.le_refl _⟩, ⟨by (with_reducible repeat (first | apply Kd.V_alloc | apply Kd.V_drewN | apply Kd.V_drew)); exact Kd.V_mono HO_2.out (fun _ hk => ⟨hk.1, ⟨hk.2.2.1, ⟨hk.2.2.2.1, hk.2.2.2.2⟩⟩⟩)⟩, ⟨by (with_reducible repeat (first | apply Kd.R_alloc | apply Kd.R_drewN | apply Kd.R_drew)); exact Kd.R_mono HO_235002.out (fun _ hk => ⟨hk.1, hk.2.2⟩)⟩, ⟨blf_⟩, ⟨blf_⟩, ⟨bel_⟩⟩
         subst c80
         have H1 : (if x12_40 = 1 then (if (x9_2.length : Int) > 0 then ((ropewayref10_Same.f kj40 x13_40 x9_2).bind fun t246 => (if t246 = true then (if (x9_2.length : Int) = 0 then (ropewaylaw15_SnapEnds_f.j3 kj40 l2 x8_2 x9_2 (rd_L3 l2 x55_2) x12_40 l2 (l2.length : Int) x55_2 true x235001_40 x235002_2) else (ropewaylaw15_SnapEnds_f.j3 kj40 l2 x8_2 x9_2 (rd_L3 l2 x55_2) x12_40 l2 (l2.length : Int) x55_2 false x235001_40 x235002_2)) else (ropewaylaw15_SnapEnds_f.j3 kj40 l2 x8_2 x9_2 (rd_L3 l2 x55_2) x12_40 l2 (l2.length : Int) x55_2 true x235001_40 x235002_2))) else (if (x9_2.length : Int) = 0 then (ropewaylaw15_SnapEnds_f.j3 kj40 l2 x8_2 x9_2 (rd_L3 l2 x55_2) x12_40 l2 (l2.length : Int) x55_2 true x235001_40 x235002_2) else (ropewaylaw15_SnapEnds_f.j3 kj40 l2 x8_2 x9_2 (rd_L3 l2 x55_2) x12_40 l2 (l2.length : Int) x55_2 false x235001_40 x235002_2))) else (ropewaylaw15_SnapEnds_f.j3 kj40 l2 x8_2 x9_2 (rd_L3 l2 x55_2) x12_40 l2 (l2.length : Int) x55_2 false x235001_40 x235002_2)) = some r := by rw [if_pos rfl] at H; exact H
         clear H
         have H := H1
         clear H1
         have HC81 := zM H
         clear H
         go_upto_region 17 with (fail)
         go_cut [107] (fun v107 wc => ∃ (kq : Nat) (x107_80 : Bool), v107 = .bool x107_80 ∧ Aside0 (ropewaylaw15_SnapEnds_f.j3 kq l2 x8_2 x9_2 (rd_L3 l2 x55_2) x12_40 l2 (l2.length : Int) x55_2 x107_80 x235001_40 x235002_2 = some r) ∧ Aside0 (kq ≤ kj40) ∧ Aside0 (Kd.V (Kd.slice 34 k34) 27 wc w.heap.size (fun k_ => (P2_ k_ ∨ w.heap.size ≤ k_) ∧ some k_ ≠ (u235002 : Value).ownBlock ∧ k_ ≠ gb231 ∧ k_ ≠ gb234) (.slice (some ad238) l2.length c2) l2) ∧ Aside0 (Kd.V k34 34 wc w.heap.size (fun k_ => (P2_ k_ ∨ w.heap.size ≤ k_) ∧ some k_ ≠ (u235002 : Value).ownBlock ∧ k_ ≠ gb231 ∧ k_ ≠ gb234) u9 x9_2) ∧ Aside0 (Kd.V k34 34 wc w.heap.size (fun k_ => (P2_ k_ ∨ w.heap.size ≤ k_) ∧ some k_ ≠ (u235002 : Value).ownBlock ∧ k_ ≠ gb231 ∧ k_ ≠ gb234) (.slice A238_0 (rd_L3 l2 x55_2).length c238_0) (rd_L3 l2 x55_2)) ∧ Aside0 (Kd.V (Kd.slice 34 k34) 27 wc w.heap.size (fun k_ => (P2_ k_ ∨ w.heap.size ≤ k_) ∧ some k_ ≠ (u235002 : Value).ownBlock ∧ k_ ≠ gb231 ∧ k_ ≠ gb234) (.slice (some ad238) l2.length c2) l2) ∧ Aside0 (Kd.R k34 34 wc w.heap.size (fun k_ => (w.heap.size ≤ k_) ∧ k_ ≠ gb231) u235002 x235002_2) ∧ Aside0 (wc.heap[gb231]? = some (.cells #[.int .i64 a1_0, .int .i64 a1_1, .int .i64 a1_2] 34 (0, 0))) ∧ Aside0 (wc.heap[gb234]? = some (.cells #[(.slice none 0 0), .int .i64 x235001_40, u235002] 61 (0, 0))) ∧ Aside0 (Kd.C k34 wc A238_0 (rd_L3 l2 x55_2).length (rd_L3 l2 x55_2)) ∧ Aside0 (Below w.heap.size w wc))
         case first =>
          have H := HC81.out
          clear HC81
          by_cases c82 : x12_40 = 1
          rotate_left
          · rw [if_neg c82] at H
            have c82b0 : (x12_40 == 1) = false := beq_eq_false_iff_ne.mpr c82
            have c82b1 : (x12_40 != 1) = true := bne_iff_ne.mpr c82
            (first | rw [c82b0] | (simp only [i64_w, i32_w]; rw [c82b0]) | skip)
            have H' := zM H
            clear H
            go_quiet (fail)
            try go_wp2
            go_meet
            case rel => exact ⟨_, (false), (by first | rfl | (simp; done) | (simp [*]; done) | (simp; grind)), H', ⟨by have := HJ9.out; have := HK2.out; have := HJ40.out; first | omega | exact Nat.le_refl _⟩, ⟨by (with_reducible repeat (first | apply Kd.V_alloc | apply Kd.V_drewN | apply Kd.V_drew)); exact Kd.V_mono HO_2.out (fun _ hk => ⟨hk.1, ⟨hk.2.2.1, ⟨hk.2.2.2.1, hk.2.2.2.2⟩⟩⟩)⟩, ⟨by (with_reducible repeat (first | apply Kd.V_alloc | apply Kd.V_drewN | apply Kd.V_drew)); exact Kd.V_mono HO_9.out (fun _ hk => ⟨hk.1, ⟨hk.2.2.1, ⟨hk.2.2.2.1, hk.2.2.2.2⟩⟩⟩)⟩, ⟨by (with_reducible repeat (first | apply Kd.V_alloc | apply Kd.V_drewN | apply Kd.V_drew)); exact Kd.V_mono HO_11.out (fun _ hk => ⟨hk.1, ⟨hk.2.2.1, ⟨hk.2.2.2.1, hk.2.2.2.2⟩⟩⟩)⟩, ⟨by (with_reducible repeat (first | apply Kd.V_alloc | apply Kd.V_drewN | apply Kd.V_drew)); exact Kd.V_mono HO_53.out (fun _ hk => ⟨hk.1, ⟨hk.2.2.1, ⟨hk.2.2.2.1, hk.2.2.2.2⟩⟩⟩)⟩, ⟨by (with_reducible repeat (first | apply Kd.R_alloc | apply Kd.R_drewN | apply Kd.R_drew)); exact Kd.R_mono HO_235002.out (fun _ hk => ⟨hk.1, hk.2.2⟩)⟩, ⟨blf_⟩, ⟨blf_⟩, ⟨cv_ HR238_0⟩, ⟨bel_⟩⟩
          rw [if_pos c82] at H
          have c82b0 : (x12_40 == 1) = true := beq_iff_eq.mpr c82
          have c82b1 : (x12_40 != 1) = false := bne_eq_false_iff_eq.mpr c82
          clear c82
          (first | rw [c82b0] | (simp only [i64_w, i32_w]; rw [c82b0]) | skip)
          by_cases c83 : (x9_2.length : Int) > 0
          rotate_left
          · rw [if_neg c83] at H
            have c83b0 : decide (0 < (x9_2.length : Int)) = false := decide_eq_false c83
            have c83b1 : decide (0 < x9_2.length) = false := decide_eq_false (by omega)
            clear c83
            by_cases c96 : (x9_2.length : Int) = 0
            · rw [if_pos c96] at H
              have c96b0 : ((x9_2.length : Int) == 0) = true := beq_iff_eq.mpr c96
              have c96b1 : ((x9_2.length : Int) != 0) = false := bne_eq_false_iff_eq.mpr c96
              clear c96
              have H' := zM H
              clear H
              obtain ⟨Ao97, co97, eo97⟩ := Kd.V_slice HO_9.out
              subst eo97
              go_quiet (fail)
              try go_wp2
              go_meet
              case rel => exact ⟨_, (true), (by first | rfl | (simp; done) | (simp [*]; done) | (simp; grind)), H', ⟨by have := HJ9.out; have := HK2.out; have := HJ40.out; first | omega | exact Nat.le_refl _⟩, ⟨by (with_reducible repeat (first | apply Kd.V_alloc | apply Kd.V_drewN | apply Kd.V_drew)); exact Kd.V_mono HO_2.out (fun _ hk => ⟨hk.1, ⟨hk.2.2.1, ⟨hk.2.2.2.1, hk.2.2.2.2⟩⟩⟩)⟩, ⟨by (with_reducible repeat (first | apply Kd.V_alloc | apply Kd.V_drewN | apply Kd.V_drew)); exact Kd.V_mono HO_9.out (fun _ hk => ⟨hk.1, ⟨hk.2.2.1, ⟨hk.2.2.2.1, hk.2.2.2.2⟩⟩⟩)⟩, ⟨by (with_reducible repeat (first | apply Kd.V_alloc | apply Kd.V_drewN | apply Kd.V_drew)); exact Kd.V_mono HO_11.out (fun _ hk => ⟨hk.1, ⟨hk.2.2.1, ⟨hk.2.2.2.1, hk.2.2.2.2⟩⟩⟩)⟩, ⟨by (with_reducible repeat (first | apply Kd.V_alloc | apply Kd.V_drewN | apply Kd.V_drew)); exact Kd.V_mono HO_53.out (fun _ hk => ⟨hk.1, ⟨hk.2.2.1, ⟨hk.2.2.2.1, hk.2.2.2.2⟩⟩⟩)⟩, ⟨by (with_reducible repeat (first | apply Kd.R_alloc | apply Kd.R_drewN | apply Kd.R_drew)); exact Kd.R_mono HO_235002.out (fun _ hk => ⟨hk.1, hk.2.2⟩)⟩, ⟨blf_⟩, ⟨blf_⟩, ⟨cv_ HR238_0⟩, ⟨bel_⟩⟩
            rw [if_neg c96] at H
            have c96b0 : ((x9_2.length : Int) == 0) = false := beq_eq_false_iff_ne.mpr c96
            have c96b1 : ((x9_2.length : Int) != 0) = true := bne_iff_ne.mpr c96
            have c96b2 : ¬ (x9_2 = []) := fun h_ => c96 (by rw [h_]; rfl)
            have H' := zM H
            clear H
            obtain ⟨Ao98, co98, eo98⟩ := Kd.V_slice HO_9.out
            subst eo98
            go_quiet (fail)
            try go_wp2
            go_meet
            case rel => exact ⟨_, (false), (by first | rfl | (simp; done) | (simp [*]; done) | (simp; grind)), H', ⟨by have := HJ9.out; have := HK2.out; have := HJ40.out; first | omega | exact Nat.le_refl _⟩, ⟨by (with_reducible repeat (first | apply Kd.V_alloc | apply Kd.V_drewN | apply Kd.V_drew)); exact Kd.V_mono HO_2.out (fun _ hk => ⟨hk.1, ⟨hk.2.2.1, ⟨hk.2.2.2.1, hk.2.2.2.2⟩⟩⟩)⟩, ⟨by (with_reducible repeat (first | apply Kd.V_alloc | apply Kd.V_drewN | apply Kd.V_drew)); exact Kd.V_mono HO_9.out (fun _ hk => ⟨hk.1, ⟨hk.2.2.1, ⟨hk.2.2.2.1, hk.2.2.2.2⟩⟩⟩)⟩, ⟨by (with_reducible repeat (first | apply Kd.V_alloc | apply Kd.V_drewN | apply Kd.V_drew)); exact Kd.V_mono HO_11.out (fun _ hk => ⟨hk.1, ⟨hk.2.2.1, ⟨hk.2.2.2.1, hk.2.2.2.2⟩⟩⟩)⟩, ⟨by (with_reducible repeat (first | apply Kd.V_alloc | apply Kd.V_drewN | apply Kd.V_drew)); exact Kd.V_mono HO_53.out (fun _ hk => ⟨hk.1, ⟨hk.2.2.1, ⟨hk.2.2.2.1, hk.2.2.2.2⟩⟩⟩)⟩, ⟨by (with_reducible repeat (first | apply Kd.R_alloc | apply Kd.R_drewN | apply Kd.R_drew)); exact Kd.R_mono HO_235002.out (fun _ hk => ⟨hk.1, hk.2.2⟩)⟩, ⟨blf_⟩, ⟨blf_⟩, ⟨cv_ HR238_0⟩, ⟨bel_⟩⟩
          rw [if_pos c83] at H
          have c83b0 : decide (0 < (x9_2.length : Int)) = true := decide_eq_true c83
          have c83b1 : decide (0 < x9_2.length) = true := decide_eq_true (by omega)
          clear c83
          replace H := Option.bind_eq_some_iff.mp H
          obtain ⟨t246, A840, H⟩ := H
          replace H : (if t246 = true then (if (x9_2.length : Int) = 0 then (ropewaylaw15_SnapEnds_f.j3 kj40 l2 x8_2 x9_2 (rd_L3 l2 x55_2) x12_40 l2 (l2.length : Int) x55_2 true x235001_40 x235002_2) else (ropewaylaw15_SnapEnds_f.j3 kj40 l2 x8_2 x9_2 (rd_L3 l2 x55_2) x12_40 l2 (l2.length : Int) x55_2 false x235001_40 x235002_2)) else (ropewaylaw15_SnapEnds_f.j3 kj40 l2 x8_2 x9_2 (rd_L3 l2 x55_2) x12_40 l2 (l2.length : Int) x55_2 true x235001_40 x235002_2)) = some r := H
          have A84 := zM A840
          clear A840
          by_cases c85 : t246 = true
          rotate_left
          · replace c85 := Bool.eq_false_iff.mpr c85
            subst c85
            have H1 : (ropewaylaw15_SnapEnds_f.j3 kj40 l2 x8_2 x9_2 (rd_L3 l2 x55_2) x12_40 l2 (l2.length : Int) x55_2 true x235001_40 x235002_2) = some r := by rw [if_neg (show ¬ (false = true) by decide)] at H; exact H
            clear H
            have H := H1
            clear H1
            have H' := zM H
            clear H
            obtain ⟨Ao93, co93, eo93⟩ := Kd.V_slice HO_9.out
            subst eo93
            obtain ⟨Ao94, co94, eo94⟩ := Kd.R_slice HO_13.out
            subst eo94
            have tk95 : True := trivial
            go_quiet (first | (go_at_call 18; (with_reducible refine (ropewayref10_Same.calls kj40 _ _ x13_40 _ _ x9_2 false _ ?side1 ?side2 ?side3 ?side4 A84.out).mono ?_); (case side1 => repeat (first | exact (Kd.R_reads' HO_13.out).2.2 | (with_reducible refine Kd.C_alloc ?_ _) | (with_reducible refine Kd.C_drewN ?_ _) | (with_reducible refine Kd.C_drew ?_))); (case side2 => exact (Kd.R_reads' HO_13.out).2.1); (case side3 => repeat (first | exact (Kd.V_reads' HO_9.out).2.2 | (with_reducible refine Kd.C_alloc ?_ _) | (with_reducible refine Kd.C_drewN ?_ _) | (with_reducible refine Kd.C_drew ?_))); (case side4 => exact (Kd.V_reads' HO_9.out).2.1); rintro e w' ⟨rfl, ⟨nd, rfl⟩⟩; (try first | exact ⟨rfl, _, World.drewN_drewN _ _ _⟩ | exact ⟨rfl, _, Eq.trans (World.drewN_drewN _ _ _) (congrArg (World.drewN _) (Nat.add_assoc _ _ _))⟩)))
            try go_wp2
            go_meet
            case rel => exact ⟨_, (true), (by first | rfl | (simp; done) | (simp [*]; done) | (simp; grind)), H', ⟨by have := HJ9.out; have := HK2.out; have := HJ40.out; first | omega | exact Nat.le_refl _⟩, ⟨by (with_reducible repeat (first | apply Kd.V_alloc | apply Kd.V_drewN | apply Kd.V_drew)); exact Kd.V_mono HO_2.out (fun _ hk => ⟨hk.1, ⟨hk.2.2.1, ⟨hk.2.2.2.1, hk.2.2.2.2⟩⟩⟩)⟩, ⟨by (with_reducible repeat (first | apply Kd.V_alloc | apply Kd.V_drewN | apply Kd.V_drew)); exact Kd.V_mono HO_9.out (fun _ hk => ⟨hk.1, ⟨hk.2.2.1, ⟨hk.2.2.2.1, hk.2.2.2.2⟩⟩⟩)⟩, ⟨by (with_reducible repeat (first | apply Kd.V_alloc | apply Kd.V_drewN | apply Kd.V_drew)); exact Kd.V_mono HO_11.out (fun _ hk => ⟨hk.1, ⟨hk.2.2.1, ⟨hk.2.2.2.1, hk.2.2.2.2⟩⟩⟩)⟩, ⟨by (with_reducible repeat (first | apply Kd.V_alloc | apply Kd.V_drewN | apply Kd.V_drew)); exact Kd.V_mono HO_53.out (fun _ hk => ⟨hk.1, ⟨hk.2.2.1, ⟨hk.2.2.2.1, hk.2.2.2.2⟩⟩⟩)⟩, ⟨by (with_reducible repeat (first | apply Kd.R_alloc | apply Kd.R_drewN | apply Kd.R_drew)); exact Kd.R_mono HO_235002.out (fun _ hk => ⟨hk.1, hk.2.2⟩)⟩, ⟨blf_⟩, ⟨blf_⟩, ⟨cv_ HR238_0⟩, ⟨bel_⟩⟩
          subst c85
          have H1 : (if (x9_2.length : Int) = 0 then (ropewaylaw15_SnapEnds_f.j3 kj40 l2 x8_2 x9_2 (rd_L3 l2 x55_2) x12_40 l2 (l2.length : Int) x55_2 true x235001_40 x235002_2) else (ropewaylaw15_SnapEnds_f.j3 kj40 l2 x8_2 x9_2 (rd_L3 l2 x55_2) x12_40 l2 (l2.length : Int) x55_2 false x235001_40 x235002_2)) = some r := by rw [if_pos rfl] at H; exact H
          clear H
          have H := H1
          clear H1
          by_cases c86 : (x9_2.length : Int) = 0
          · rw [if_pos c86] at H
            have c86b0 : ((x9_2.length : Int) == 0) = true := beq_iff_eq.mpr c86
            have c86b1 : ((x9_2.length : Int) != 0) = false := bne_eq_false_iff_eq.mpr c86
            clear c86
            have H' := zM H
            clear H
            obtain ⟨Ao87, co87, eo87⟩ := Kd.V_slice HO_9.out
            subst eo87
            obtain ⟨Ao88, co88, eo88⟩ := Kd.R_slice HO_13.out
            subst eo88
            have tk89 : True := trivial
            go_quiet (first | (go_at_call 18; (with_reducible refine (ropewayref10_Same.calls kj40 _ _ x13_40 _ _ x9_2 true _ ?side1 ?side2 ?side3 ?side4 A84.out).mono ?_); (case side1 => repeat (first | exact (Kd.R_reads' HO_13.out).2.2 | (with_reducible refine Kd.C_alloc ?_ _) | (with_reducible refine Kd.C_drewN ?_ _) | (with_reducible refine Kd.C_drew ?_))); (case side2 => exact (Kd.R_reads' HO_13.out).2.1); (case side3 => repeat (first | exact (Kd.V_reads' HO_9.out).2.2 | (with_reducible refine Kd.C_alloc ?_ _) | (with_reducible refine Kd.C_drewN ?_ _) | (with_reducible refine Kd.C_drew ?_))); (case side4 => exact (Kd.V_reads' HO_9.out).2.1); rintro e w' ⟨rfl, ⟨nd, rfl⟩⟩; (try first | exact ⟨rfl, _, World.drewN_drewN _ _ _⟩ | exact ⟨rfl, _, Eq.trans (World.drewN_drewN _ _ _) (congrArg (World.drewN _) (Nat.add_assoc _ _ _))⟩)))
            try go_wp2
            go_meet
            case rel => exact ⟨_, (true), (by first | rfl | (simp; done) | (simp [*]; done) | (simp; grind)), H', ⟨by have := HJ9.out; have := HK2.out; have := HJ40.out; first | omega | exact Nat.le_refl _⟩, ⟨by (with_reducible repeat (first | apply Kd.V_alloc | apply Kd.V_drewN | apply Kd.V_drew)); exact Kd.V_mono HO_2.out (fun _ hk => ⟨hk.1, ⟨hk.2.2.1, ⟨hk.2.2.2.1, hk.2.2.2.2⟩⟩⟩)⟩, ⟨by (with_reducible repeat (first | apply Kd.V_alloc | apply Kd.V_drewN | apply Kd.V_drew)); exact Kd.V_mono HO_9.out (fun _ hk => ⟨hk.1, ⟨hk.2.2.1, ⟨hk.2.2.2.1, hk.2.2.2.2⟩⟩⟩)⟩, ⟨by (with_reducible repeat (first | apply Kd.V_alloc | apply Kd.V_drewN | apply Kd.V_drew)); exact Kd.V_mono HO_11.out (fun _ hk => ⟨hk.1, ⟨hk.2.2.1, ⟨hk.2.2.2.1, hk.2.2.2.2⟩⟩⟩)⟩, ⟨by (with_reducible repeat (first | apply Kd.V_alloc | apply Kd.V_drewN | apply Kd.V_drew)); exact Kd.V_mono HO_53.out (fun _ hk => ⟨hk.1, ⟨hk.2.2.1, ⟨hk.2.2.2.1, hk.2.2.2.2⟩⟩⟩)⟩, ⟨by (with_reducible repeat (first | apply Kd.R_alloc | apply Kd.R_drewN | apply Kd.R_drew)); exact Kd.R_mono HO_235002.out (fun _ hk => ⟨hk.1, hk.2.2⟩)⟩, ⟨blf_⟩, ⟨blf_⟩, ⟨cv_ HR238_0⟩, ⟨bel_⟩⟩
          rw [if_neg c86] at H
          have c86b0 : ((x9_2.length : Int) == 0) = false := beq_eq_false_iff_ne.mpr c86
          have c86b1 : ((x9_2.length : Int) != 0) = true := bne_iff_ne.mpr c86
          have c86b2 : ¬ (x9_2 = []) := fun h_ => c86 (by rw [h_]; rfl)
          have H' := zM H
          clear H
          obtain ⟨Ao90, co90, eo90⟩ := Kd.V_slice HO_9.out
          subst eo90
          obtain ⟨Ao91, co91, eo91⟩ := Kd.R_slice HO_13.out
          subst eo91
          have tk92 : True := trivial
          go_quiet (first | (go_at_call 18; (with_reducible refine (ropewayref10_Same.calls kj40 _ _ x13_40 _ _ x9_2 true _ ?side1 ?side2 ?side3 ?side4 A84.out).mono ?_); (case side1 => repeat (first | exact (Kd.R_reads' HO_13.out).2.2 | (with_reducible refine Kd.C_alloc ?_ _) | (with_reducible refine Kd.C_drewN ?_ _) | (with_reducible refine Kd.C_drew ?_))); (case side2 => exact (Kd.R_reads' HO_13.out).2.1); (case side3 => repeat (first | exact (Kd.V_reads' HO_9.out).2.2 | (with_reducible refine Kd.C_alloc ?_ _) | (with_reducible refine Kd.C_drewN ?_ _) | (with_reducible refine Kd.C_drew ?_))); (case side4 => exact (Kd.V_reads' HO_9.out).2.1); rintro e w' ⟨rfl, ⟨nd, rfl⟩⟩; (try first | exact ⟨rfl, _, World.drewN_drewN _ _ _⟩ | exact ⟨rfl, _, Eq.trans (World.drewN_drewN _ _ _) (congrArg (World.drewN _) (Nat.add_assoc _ _ _))⟩)))
          try go_wp2
          go_meet
          case rel => exact ⟨_, (false), (by first | rfl | (simp; done) | (simp [*]; done) | (simp; grind)), H', ⟨by have := HJ9.out; have := HK2.out; have := HJ40.out; first | omega | exact Nat.le_refl _⟩, ⟨by (with_reducible repeat (first | apply Kd.V_alloc | apply Kd.V_drewN | apply Kd.V_drew)); exact Kd.V_mono HO_2.out (fun _ hk => ⟨hk.1, ⟨hk.2.2.1, ⟨hk.2.2.2.1, hk.2.2.2.2⟩⟩⟩)⟩, ⟨by (with_reducible repeat (first | apply Kd.V_alloc | apply Kd.V_drewN | apply Kd.V_drew)); exact Kd.V_mono HO_9.out (fun _ hk => ⟨hk.1, ⟨hk.2.2.1, ⟨hk.2.2.2.1, hk.2.2.2.2⟩⟩⟩)⟩, ⟨by (with_reducible repeat (first | apply Kd.V_alloc | apply Kd.V_drewN | apply Kd.V_drew)); exact Kd.V_mono HO_11.out (fun _ hk => ⟨hk.1, ⟨hk.2.2.1, ⟨hk.2.2.2.1, hk.2.2.2.2⟩⟩⟩)⟩, ⟨by (with_reducible repeat (first | apply Kd.V_alloc | apply Kd.V_drewN | apply Kd.V_drew)); exact Kd.V_mono HO_53.out (fun _ hk => ⟨hk.1, ⟨hk.2.2.1, ⟨hk.2.2.2.1, hk.2.2.2.2⟩⟩⟩)⟩, ⟨by (with_reducible repeat (first | apply Kd.R_alloc | apply Kd.R_drewN | apply Kd.R_drew)); exact Kd.R_mono HO_235002.out (fun _ hk => ⟨hk.1, hk.2.2⟩)⟩, ⟨blf_⟩, ⟨blf_⟩, ⟨cv_ HR238_0⟩, ⟨bel_⟩⟩
         case rest =>
          clear HC81
          try clear c2
          try clear c7
          try clear c11
          try clear c11b0
          try clear c11b1
          try clear c12
          try clear c12b0
          try clear c14
          try clear c14b0
          try clear c17
          try clear c25
          try clear c34
          try clear c34b0
          try clear c35
          try clear c35b0
          try clear c36
          try clear c36b0
          try clear c38
          try clear c38b0
          try clear c38b1
          try clear c42
          try clear c42b0
          try clear c42b1
          try clear c47
          try clear c47b0
          try clear c47b1
          try clear c52
          try clear c52b0
          try clear c52b1
          try clear c57
          try clear c57b0
          try clear c57b1
          try clear c80
          try clear c82
          try clear c82b0
          try clear c82b1
          try clear c83
          try clear c83b0
          try clear c83b1
          try clear c85
          try clear c86
          try clear c86b0
          try clear c86b1
          try clear c86b2
          try clear c96
          try clear c96b0
          try clear c96b1
          try clear c96b2
          try clear hcz13_0
          try clear hcz13_1
          try clear hcz13_2
          try clear hcz15_0
          try clear hcz15_1
          try clear hcz15_2
          try clear hcz18_0
          try clear hcz18_1
          try clear hcz18_2
          try clear hcz21_0
          try clear hcz21_1
          try clear hcz21_2
          try clear hcz22_0
          try clear hcz22_1
          try clear hcz22_2
          try clear hcz45_0
          try clear hcz45_1
          try clear hcz45_2
          try clear hcz50_0
          try clear hcz50_1
          try clear hcz50_2
          try clear hcz55_0
          try clear hcz55_1
          try clear hcz55_2
          try clear hcz61_0
          try clear hcz61_1
          try clear hcz61_2
          try clear hcz73_0
          try clear hcz73_1
          try clear hcz73_2
          try clear hfz13_0
          try clear hfz13_1
          try clear hfz13_2
          try clear hfz15_0
          try clear hfz15_1
          try clear hfz15_2
          try clear hfz18_0
          try clear hfz18_1
          try clear hfz18_2
          try clear hfz21_0
          try clear hfz21_1
          try clear hfz21_2
          try clear hfz22_0
          try clear hfz22_1
          try clear hfz22_2
          try clear hfz45_0
          try clear hfz45_1
          try clear hfz45_2
          try clear hfz50_0
          try clear hfz50_1
          try clear hfz50_2
          try clear hfz55_0
          try clear hfz55_1
          try clear hfz55_2
          try clear hfz61_0
          try clear hfz61_1
          try clear hfz61_2
          try clear hfz73_0
          try clear hfz73_1
          try clear hfz73_2
          try clear hx238_0
          try clear p238
          try clear q238
          obtain ⟨kq, x107_80, rfl, HA, HJ80, HO_2, HO_9, HO_11, HO_53, HO_235002, BK231, BK234, HR238_0, HB⟩ := hcut
          cases kq with
          | zero => exact absurd HA.out (by simp [ropewaylaw15_SnapEnds_f.j3])
          | succ kj80 =>
           have H := HA.out
           clear HA
           simp only [ropewaylaw15_SnapEnds_f.j3] at H
           by_cases c99 : x107_80 = true
           · subst c99
             have H1 : (some false) = some r := by rw [if_pos rfl] at H; exact H
             clear H
             have H := H1
             clear H1
             exact absurd (Option.some.inj H) (by rw [hr1_.out]; decide)
           replace c99 := Bool.eq_false_iff.mpr c99
           subst c99
           have H1 : (if x12_40 = 0 then (ropewaylaw15_SnapEnds_f.j4 kj80 l2 x8_2 (rd_L3 l2 x55_2) (rd_L3 l2 x55_2) l2 (l2.length : Int) x55_2 x235001_40 x235002_2) else (ropewaylaw15_SnapEnds_f.j4 kj80 l2 x8_2 x9_2 (rd_L3 l2 x55_2) l2 (l2.length : Int) x55_2 x235001_40 x235002_2)) = some r := by rw [if_neg (show ¬ (false = true) by decide)] at H; exact H
           clear H
           have H := H1
           clear H1
           have HC100 := zM H
           clear H
           go_upto_if 109 with (fail)
           go_cut [9] (fun v9 wc => ∃ (kq : Nat) (x9_99 : List (S34)), Aside0 (ropewaylaw15_SnapEnds_f.j4 kq l2 x8_2 x9_99 (rd_L3 l2 x55_2) l2 (l2.length : Int) x55_2 x235001_40 x235002_2 = some r) ∧ Aside0 (kq ≤ kj80) ∧ Aside0 (Kd.V (Kd.slice 34 k34) 27 wc w.heap.size (fun k_ => (P2_ k_ ∨ w.heap.size ≤ k_) ∧ some k_ ≠ (u235002 : Value).ownBlock ∧ k_ ≠ gb231 ∧ k_ ≠ gb234) (.slice (some ad238) l2.length c2) l2) ∧ Aside0 (Kd.V k34 34 wc w.heap.size (fun k_ => (P2_ k_ ∨ w.heap.size ≤ k_) ∧ some k_ ≠ (u235002 : Value).ownBlock ∧ k_ ≠ gb231 ∧ k_ ≠ gb234) v9 x9_99) ∧ Aside0 (Kd.V k34 34 wc w.heap.size (fun k_ => (P2_ k_ ∨ w.heap.size ≤ k_) ∧ some k_ ≠ (u235002 : Value).ownBlock ∧ k_ ≠ gb231 ∧ k_ ≠ gb234) (.slice A238_0 (rd_L3 l2 x55_2).length c238_0) (rd_L3 l2 x55_2)) ∧ Aside0 (Kd.V (Kd.slice 34 k34) 27 wc w.heap.size (fun k_ => (P2_ k_ ∨ w.heap.size ≤ k_) ∧ some k_ ≠ (u235002 : Value).ownBlock ∧ k_ ≠ gb231 ∧ k_ ≠ gb234) (.slice (some ad238) l2.length c2) l2) ∧ Aside0 (Kd.R k34 34 wc w.heap.size (fun k_ => (w.heap.size ≤ k_) ∧ k_ ≠ gb231) u235002 x235002_2) ∧ Aside0 (wc.heap[gb231]? = some (.cells #[.int .i64 a1_0, .int .i64 a1_1, .int .i64 a1_2] 34 (0, 0))) ∧ Aside0 (wc.heap[gb234]? = some (.cells #[(.slice none 0 0), .int .i64 x235001_40, u235002] 61 (0, 0))) ∧ Aside0 (Kd.C k34 wc A238_0 (rd_L3 l2 x55_2).length (rd_L3 l2 x55_2)) ∧ Aside0 (Below w.heap.size w wc))
           case first =>
            have H := HC100.out
            clear HC100
            by_cases c101 : x12_40 = 0
            rotate_left
            · rw [if_neg c101] at H
              have c101b0 : (x12_40 == 0) = false := beq_eq_false_iff_ne.mpr c101
              have c101b1 : (x12_40 != 0) = true := bne_iff_ne.mpr c101
              (first | rw [c101b0] | (simp only [i64_w, i32_w]; rw [c101b0]) | skip)
              have H' := zM H
              clear H
              go_wp2
              go_meet
              case rel => exact ⟨_, (x9_2), H', ⟨by have := HJ9.out; have := HK2.out; have := HJ40.out; have := HJ80.out; first | omega | exact Nat.le_refl _⟩, ⟨rv_ HO_2⟩, ⟨rv_ HO_9⟩, ⟨rv_ HO_11⟩, ⟨rv_ HO_53⟩, ⟨by (with_reducible repeat (first | apply Kd.R_alloc | apply Kd.R_drewN | apply Kd.R_drew)); exact HO_235002.out⟩, ⟨blf_⟩, ⟨blf_⟩, ⟨cv_ HR238_0⟩, ⟨bel_⟩⟩
            rw [if_pos c101] at H
            have c101b0 : (x12_40 == 0) = true := beq_iff_eq.mpr c101
            have c101b1 : (x12_40 != 0) = false := bne_eq_false_iff_eq.mpr c101
            clear c101
            (first | rw [c101b0] | (simp only [i64_w, i32_w]; rw [c101b0]) | skip)
            have H' := zM H
            clear H
            go_wp2
            go_meet
            case rel => exact ⟨_, ((rd_L3 l2 x55_2)), H', ⟨by have := HJ9.out; have := HK2.out; have := HJ40.out; have := HJ80.out; first | omega | exact Nat.le_refl _⟩, ⟨rv_ HO_2⟩, ⟨rv_ HO_11⟩, ⟨rv_ HO_11⟩, ⟨rv_ HO_53⟩, ⟨by (with_reducible repeat (first | apply Kd.R_alloc | apply Kd.R_drewN | apply Kd.R_drew)); exact HO_235002.out⟩, ⟨blf_⟩, ⟨blf_⟩, ⟨cv_ HR238_0⟩, ⟨bel_⟩⟩
           case rest =>
            clear HC100
            try clear c2
            try clear c7
            try clear c11
            try clear c11b0
            try clear c11b1
            try clear c12
            try clear c12b0
            try clear c14
            try clear c14b0
            try clear c17
            try clear c25
            try clear c34
            try clear c34b0
            try clear c35
            try clear c35b0
            try clear c36
            try clear c36b0
            try clear c38
            try clear c38b0
            try clear c38b1
            try clear c42
            try clear c42b0
            try clear c42b1
            try clear c47
            try clear c47b0
            try clear c47b1
            try clear c52
            try clear c52b0
            try clear c52b1
            try clear c57
            try clear c57b0
            try clear c57b1
            try clear c80
            try clear c82
            try clear c82b0
            try clear c82b1
            try clear c83
            try clear c83b0
            try clear c83b1
            try clear c85
            try clear c86
            try clear c86b0
            try clear c86b1
            try clear c86b2
            try clear c96
            try clear c96b0
            try clear c96b1
            try clear c96b2
            try clear c99
            try clear c101
            try clear c101b0
            try clear c101b1
            try clear hcz13_0
            try clear hcz13_1
            try clear hcz13_2
            try clear hcz15_0
            try clear hcz15_1
            try clear hcz15_2
            try clear hcz18_0
            try clear hcz18_1
            try clear hcz18_2
            try clear hcz21_0
            try clear hcz21_1
            try clear hcz21_2
            try clear hcz22_0
            try clear hcz22_1
            try clear hcz22_2
            try clear hcz45_0
            try clear hcz45_1
            try clear hcz45_2
            try clear hcz50_0
            try clear hcz50_1
            try clear hcz50_2
            try clear hcz55_0
            try clear hcz55_1
            try clear hcz55_2
            try clear hcz61_0
            try clear hcz61_1
            try clear hcz61_2
            try clear hcz73_0
            try clear hcz73_1
            try clear hcz73_2
            try clear hfz13_0
            try clear hfz13_1
            try clear hfz13_2
            try clear hfz15_0
            try clear hfz15_1
            try clear hfz15_2
            try clear hfz18_0
            try clear hfz18_1
            try clear hfz18_2
            try clear hfz21_0
            try clear hfz21_1
            try clear hfz21_2
            try clear hfz22_0
            try clear hfz22_1
            try clear hfz22_2
            try clear hfz45_0
            try clear hfz45_1
            try clear hfz45_2
            try clear hfz50_0
            try clear hfz50_1
            try clear hfz50_2
            try clear hfz55_0
            try clear hfz55_1
            try clear hfz55_2
            try clear hfz61_0
            try clear hfz61_1
            try clear hfz61_2
            try clear hfz73_0
            try clear hfz73_1
            try clear hfz73_2
            try clear hx238_0
            try clear p238
            try clear q238
            obtain ⟨kq, x9_99, HA, HJ99, HO_2, HO_9, HO_11, HO_53, HO_235002, BK231, BK234, HR238_0, HB⟩ := hcut
            cases kq with
            | zero => exact absurd HA.out (by simp [ropewaylaw15_SnapEnds_f.j4])
            | succ kj99 =>
             have H := HA.out
             clear HA
             simp only [ropewaylaw15_SnapEnds_f.j4] at H
             obtain ⟨y247, hy247⟩ : ∃ y_ : List (S34), y_ = (([] : List (S34))) := ⟨_, rfl⟩
             replace H : (if y247.length + (rd_L3 l2 x55_2).length < 5864062014805 then ((some (y247 ++ (rd_L3 l2 x55_2) : List (S34))).bind fun y250 => (if x235001_40 = 0 then ((api_Cell.f y250).bind fun t253 => (if (y250.length : Int) = 0 then (ropewaylaw15_SnapEnds_f.l0 kj99 l2 (wrap64 (x8_2 + 1)) x9_99 l2 (l2.length : Int) (wrap64 (x55_2 + 1)) 4 t253) else (ropewaylaw15_SnapEnds_f.l0 kj99 l2 (wrap64 (x8_2 + 1)) x9_99 l2 (l2.length : Int) (wrap64 (x55_2 + 1)) (wrap64 (x235001_40 + 1)) t253))) else (if x235001_40 = 2 then ((api_Cell.f y250).bind fun t256 => (if (y250.length : Int) = 0 then (ropewaylaw15_SnapEnds_f.l0 kj99 l2 (wrap64 (x8_2 + 1)) x9_99 l2 (l2.length : Int) (wrap64 (x55_2 + 1)) 4 t256) else (ropewaylaw15_SnapEnds_f.l0 kj99 l2 (wrap64 (x8_2 + 1)) x9_99 l2 (l2.length : Int) (wrap64 (x55_2 + 1)) (wrap64 (x235001_40 + 1)) t256))) else (if x235001_40 = 1 then (ropewaylaw15_SnapEnds_f.l0 kj99 l2 (wrap64 (x8_2 + 1)) x9_99 l2 (l2.length : Int) (wrap64 (x55_2 + 1)) 2 x235002_2) else (if x235001_40 = 3 then (ropewaylaw15_SnapEnds_f.l0 kj99 l2 (wrap64 (x8_2 + 1)) x9_99 l2 (l2.length : Int) (wrap64 (x55_2 + 1)) 4 x235002_2) else (ropewaylaw15_SnapEnds_f.l0 kj99 l2 (wrap64 (x8_2 + 1)) x9_99 l2 (l2.length : Int) (wrap64 (x55_2 + 1)) x235001_40 x235002_2)))))) else (none)) = some r := by first | (rw [hy247]; with_reducible exact H) | (have H2_ := (Option.bind_some _ _).symm.trans H; rw [hy247]; with_reducible exact H2_) | (have H2_ := (Option.bind_some _ _).symm.trans H; with_reducible exact H2_) | with_reducible exact H | (rw [hy247]; exact H) | exact H
             have Ny247 := zM hy247
             clear hy247
             by_cases c102 : y247.length + (rd_L3 l2 x55_2).length < 5864062014805
             rotate_left
             · rw [if_neg c102] at H
               exact absurd H (by simp)
             rw [if_pos c102] at H
             have LMc102 := zM c102
             clear c102
             obtain ⟨y250, hy250⟩ : ∃ y_ : List (S34), y_ = (y247 ++ (rd_L3 l2 x55_2)) := ⟨_, rfl⟩
             replace H : (if x235001_40 = 0 then ((api_Cell.f y250).bind fun t253 => (if (y250.length : Int) = 0 then (ropewaylaw15_SnapEnds_f.l0 kj99 l2 (wrap64 (x8_2 + 1)) x9_99 l2 (l2.length : Int) (wrap64 (x55_2 + 1)) 4 t253) else (ropewaylaw15_SnapEnds_f.l0 kj99 l2 (wrap64 (x8_2 + 1)) x9_99 l2 (l2.length : Int) (wrap64 (x55_2 + 1)) (wrap64 (x235001_40 + 1)) t253))) else (if x235001_40 = 2 then ((api_Cell.f y250).bind fun t256 => (if (y250.length : Int) = 0 then (ropewaylaw15_SnapEnds_f.l0 kj99 l2 (wrap64 (x8_2 + 1)) x9_99 l2 (l2.length : Int) (wrap64 (x55_2 + 1)) 4 t256) else (ropewaylaw15_SnapEnds_f.l0 kj99 l2 (wrap64 (x8_2 + 1)) x9_99 l2 (l2.length : Int) (wrap64 (x55_2 + 1)) (wrap64 (x235001_40 + 1)) t256))) else (if x235001_40 = 1 then (ropewaylaw15_SnapEnds_f.l0 kj99 l2 (wrap64 (x8_2 + 1)) x9_99 l2 (l2.length : Int) (wrap64 (x55_2 + 1)) 2 x235002_2) else (if x235001_40 = 3 then (ropewaylaw15_SnapEnds_f.l0 kj99 l2 (wrap64 (x8_2 + 1)) x9_99 l2 (l2.length : Int) (wrap64 (x55_2 + 1)) 4 x235002_2) else (ropewaylaw15_SnapEnds_f.l0 kj99 l2 (wrap64 (x8_2 + 1)) x9_99 l2 (l2.length : Int) (wrap64 (x55_2 + 1)) x235001_40 x235002_2))))) = some r := by first | (rw [hy250]; with_reducible exact H) | (have H2_ := (Option.bind_some _ _).symm.trans H; rw [hy250]; with_reducible exact H2_) | (have H2_ := (Option.bind_some _ _).symm.trans H; with_reducible exact H2_) | with_reducible exact H | (rw [hy250]; exact H) | exact H
             have Ny250 := zM hy250
             clear hy250
             by_cases c103 : x235001_40 = 0
             · rw [if_pos c103] at H
               have c103b0 : (x235001_40 == 0) = true := beq_iff_eq.mpr c103
               have c103b1 : (x235001_40 != 0) = false := bne_eq_false_iff_eq.mpr c103
               clear c103
               replace H := Option.bind_eq_some_iff.mp H
               obtain ⟨t253, A1040, H⟩ := H
               replace H : (if (y250.length : Int) = 0 then (ropewaylaw15_SnapEnds_f.l0 kj99 l2 (wrap64 (x8_2 + 1)) x9_99 l2 (l2.length : Int) (wrap64 (x55_2 + 1)) 4 t253) else (ropewaylaw15_SnapEnds_f.l0 kj99 l2 (wrap64 (x8_2 + 1)) x9_99 l2 (l2.length : Int) (wrap64 (x55_2 + 1)) (wrap64 (x235001_40 + 1)) t253)) = some r := H
               have A104 := zM A1040
               clear A1040
               by_cases c105 : (y250.length : Int) = 0
               rotate_left
               · rw [if_neg c105] at H
                 have c105b0 : ((y250.length : Int) == 0) = false := beq_eq_false_iff_ne.mpr c105
                 have c105b1 : ((y250.length : Int) != 0) = true := bne_iff_ne.mpr c105
                 have c105b2 : ¬ (y250 = []) := fun h_ => c105 (by rw [h_]; rfl)
                 have tk125 : True := trivial
                 have tk127 : True := trivial
                 have tk129 : True := trivial
                 have tk133 : True := trivial
                 have tk136 : True := trivial
                 go_upto_region 22 with (first | ((with_reducible refine gate_dst (N := 112) rfl ?_); clear tk125; (try (refine gate_guard (by rfl) ?_; dsimp only)); refine Kd.R_lit k34 _ 34 ?hg (N := 112) ?hd (xs := ([] : List (S34))) (inner := []) (ok := fun _ => True) (okp := fun _ => True) ?hr ?hp (fun _ hk => hk) trivial (Below.refl _ _) (Nat.le_refl _) (by simp) ?_; (case hd => rfl); (case hg => rfl); (case hr => first | (go_simp; done) | (go_simp; rfl)); (case hp => exact (Reps.none _ _)); intro v248 w123 ho124 hb hg_ hnew_; clear hg_ hnew_; (first | rw [← Ny247.out] at ho124 | (simp only [Int.reduceToNat] at ho124; rw [← Ny247.out] at ho124)); replace HO_2 := zM (Kd.V_elder' (rv_ HO_2) (Kd.R_base ho124) hb); replace HO_9 := zM (Kd.V_elder' (rv_ HO_9) (Kd.R_base ho124) hb); replace HO_11 := zM (Kd.V_elder' (rv_ HO_11) (Kd.R_base ho124) hb); replace HO_53 := zM (Kd.V_elder' (rv_ HO_53) (Kd.R_base ho124) hb); have HO249 := zM (Kd.R_lower (Kd.R_newB (Kd.R_new' (Kd.R_newM (M := fun k_ => (w.heap.size ≤ k_)) ho124 (below_size bel_) (fun k_ h_ => h_)) (Kd.R_lt (rl_ HO_235002))) (g := gb231) (o := .cells #[.int .i64 a1_0, .int .i64 a1_1, .int .i64 a1_2] 34 (0, 0)) blk_) (below_size bel_)); replace HO_235002 := zM (Kd.R_elder' (rl_ HO_235002) (Kd.R_base ho124) hb); replace BK231 := zM (bb_ BK231 hb); replace BK234 := zM (bb_ BK234 hb); replace HR238_0 := zM (Kd.C_below (cv_ HR238_0) hb); replace HB := zM (zB bel_ hb); clear hb ho124) | ((with_reducible refine gate_builtin (b := .append) (xs := #[.tmp 112, .tmp 113]) rfl ?_); clear tk127; (try (refine gate_guard (by rfl) ?_; dsimp only)); at_builtin; refine Kd.R_append_rows k34 (w0 := w) w.heap.size rfl (.tmp 112) (.tmp 113) 27 34 (.agg #[(.int .i64 0), (.int .i64 0), (.int .i64 0)]) 24 rfl Try.underlying27 info34 rfl (by decide) (by omega) v248 y247 (rd_L3 l2 x55_2) _ _ _ (fun k_ => (w.heap.size ≤ k_) ∧ some k_ ≠ (u235002 : Value).ownBlock ∧ k_ ≠ gb231) (fun _ => False) rfl rfl ?aO ?aR (fun _ _ h => h) (fun _ h => h.elim) ?aF ?aB ?aS ?aL ?_; (case aR => repeat (first | exact (Kd.V_reads' HO_11.out).2.2 | (with_reducible refine Kd.C_alloc ?_ _) | (with_reducible refine Kd.C_drewN ?_ _) | (with_reducible refine Kd.C_drew ?_))); (case aB => exact bel_); (case aF => exact (fun k_ hk => ⟨(Nat.le_trans (below_size bel_) hk), Kd.fresh' (Kd.R_lt (rl_ HO_235002)) k_ hk, Kd.freshB (g := gb231) (o := .cells #[.int .i64 a1_0, .int .i64 a1_1, .int .i64 a1_2] 34 (0, 0)) blk_ k_ hk⟩)); (case aO => exact (by (with_reducible repeat (first | apply Kd.R_alloc | apply Kd.R_drewN | apply Kd.R_drew)); exact Kd.R_mono HO249.out (fun _ hk => ⟨hk.1.1.1, ⟨hk.1.2, hk.2⟩⟩))); (case aS => exact (below_size bel_)); (case aL => have := LMc102.out; omega); intro v251 w126 ho hb hg hat; rw [← Ny250.out] at ho; have n0_ := zM (Kd.V_afterv (ok := (fun k_ => (P2_ k_ ∨ w.heap.size ≤ k_) ∧ some k_ ≠ (u235002 : Value).ownBlock ∧ k_ ≠ gb231 ∧ k_ ≠ gb234)) (rv_ HO_2) hg hat); have n1_ := zM (Kd.V_afterv (ok := (fun k_ => (P2_ k_ ∨ w.heap.size ≤ k_) ∧ some k_ ≠ (u235002 : Value).ownBlock ∧ k_ ≠ gb231 ∧ k_ ≠ gb234)) (rv_ HO_9) hg hat); have n2_ := zM (Kd.V_afterv (ok := (fun k_ => (P2_ k_ ∨ w.heap.size ≤ k_) ∧ some k_ ≠ (u235002 : Value).ownBlock ∧ k_ ≠ gb231 ∧ k_ ≠ gb234)) (rv_ HO_11) hg hat); have n3_ := zM (Kd.V_afterv (ok := (fun k_ => (P2_ k_ ∨ w.heap.size ≤ k_) ∧ some k_ ≠ (u235002 : Value).ownBlock ∧ k_ ≠ gb231 ∧ k_ ≠ gb234)) (rv_ HO_53) hg hat); have n4_ := zM (Kd.R_after (ok := (fun k_ => (w.heap.size ≤ k_) ∧ k_ ≠ gb231)) (rl_ HO_235002) hg hat); have n5_ := zM (blk_grown (g := gb231) (o := .cells #[.int .i64 a1_0, .int .i64 a1_1, .int .i64 a1_2] 34 (0, 0)) blk_ hg (Kd.R_away HO249.out (fun _ hk => hk.2))); have n6_ := zM (blk_grown (g := gb234) (o := .cells #[.slice none 0 0, .int .i64 x235001_40, u235002] 61 (0, 0)) blk_ hg (Kd.R_ne HO249.out BK234.out (by decide))); have n7_ := zM (hb); have n8_ := zM (ho); clear HO_2; clear HO_9; clear HO_11; clear HO_53; clear HO_235002; clear BK231; clear BK234; clear HB; clear HO249; have HO_2 := n0_; have HO_9 := n1_; have HO_11 := n2_; have HO_53 := n3_; have HO_235002 := n4_; have BK231 := n5_; have BK234 := n6_; have HB := n7_; have HO252 := n8_; clear n0_ n1_ n2_ n3_ n4_ n5_ n6_ n7_ n8_; clear ho hb hg hat; obtain ⟨Ao128, co128, eo128⟩ := Kd.R_slice HO252.out; subst eo128) | ((with_reducible refine gate_callee (f := 15) rfl ?_); clear tk129; refine goL_ (some 115) Try.func15 #[.pointer (some ⟨gb234, 0, none⟩), .slice Ao128 y250.length co128] ?_; go_enter Try.func15, Try.ntmps15; have hnb130 := NB234_231.out; have hnc130 := NB231_234.out; have hcz131_0 : w126.cell? ⟨gb234, 0, none⟩ = some (.slice none 0 0) := (zL BK234.out 0).trans rfl; have hcz131_1 : w126.cell? ⟨gb234, 1, none⟩ = some (.int .i64 x235001_40) := (zL BK234.out 1).trans rfl; have hcz131_2 : w126.cell? ⟨gb234, 2, none⟩ = some (u235002) := (zL BK234.out 2).trans rfl; have hfz131_0 := zF BK234.out 0; have hfz131_1 := zF BK234.out 1; have hfz131_2 := zF BK234.out 2) | (go_at_call 25; (with_reducible refine (api_Cell.calls _ _ y250 t253 _ ?side1 ?side2 A104.out).mono ?_); (case side1 => repeat (first | exact (Kd.R_reads' HO252.out).2.2 | (with_reducible refine Kd.C_alloc ?_ _) | (with_reducible refine Kd.C_drewN ?_ _) | (with_reducible refine Kd.C_drew ?_))); (case side2 => exact (Kd.R_reads' HO252.out).2.1); clear tk133; rintro e w132 ⟨v254, rfl, ho0, hb⟩; replace HO_2 := zM (Kd.V_elder' (rv_ HO_2) (Kd.R_base ho0) hb); replace HO_9 := zM (Kd.V_elder' (rv_ HO_9) (Kd.R_base ho0) hb); replace HO_11 := zM (Kd.V_elder' (rv_ HO_11) (Kd.R_base ho0) hb); replace HO_53 := zM (Kd.V_elder' (rv_ HO_53) (Kd.R_base ho0) hb); have HO255 := zM (Kd.R_lower (Kd.R_newB (Kd.R_new' (Kd.R_new' (Kd.R_newM (M := fun k_ => (w.heap.size ≤ k_)) ho0 (below_size bel_) (fun k_ h_ => h_)) (Kd.R_lt (rl_ HO_235002))) (Kd.R_lt (rl_ HO252))) (g := gb231) (o := .cells #[.int .i64 a1_0, .int .i64 a1_1, .int .i64 a1_2] 34 (0, 0)) blk_) (below_size bel_)); replace HO_235002 := zM (Kd.R_elder' (rl_ HO_235002) (Kd.R_base ho0) hb); replace HO252 := zM (Kd.R_elder' (rl_ HO252) (Kd.R_base ho0) hb); replace BK231 := zM (bb_ BK231 hb); replace BK234 := zM (bb_ BK234 hb); replace HB := zM (zB bel_ hb); (try clear hb); (try clear ho0); obtain ⟨Ao134, co134, eo134⟩ := Kd.R_slice HO255.out; subst eo134; have hcz135_0 : w132.cell? ⟨gb234, 0, none⟩ = some (.slice none 0 0) := (zL BK234.out 0).trans rfl; have hcz135_1 : w132.cell? ⟨gb234, 1, none⟩ = some (.int .i64 x235001_40) := (zL BK234.out 1).trans rfl; have hcz135_2 : w132.cell? ⟨gb234, 2, none⟩ = some (u235002) := (zL BK234.out 2).trans rfl; have hfz135_0 := zF BK234.out 0; have hfz135_1 := zF BK234.out 1; have hfz135_2 := zF BK234.out 2) | (clear tk136; (first | go_ret | go_ret2 | go_ret3 | go_end0); with_reducible refine inl_back_ ?_))
                 try clear hcz131_0
                 try clear hcz131_1
                 try clear hcz131_2
                 try clear hcz135_0
                 try clear hcz135_1
                 try clear hcz135_2
                 try clear hfz131_0
                 try clear hfz131_1
                 try clear hfz131_2
                 try clear hfz135_0
                 try clear hfz135_1
                 try clear hfz135_2
                 try clear hnb130
                 try clear hnc130
                 have H' := zM H
                 clear H
                 go_wp2
                 go_roundg kj99
                 case measure => have := HJ9.out; have := HK2.out; have := HJ40.out; have := HJ80.out; have := HJ99.out; omega
                 case rel => exact ⟨(wrap64 (x8_2 + 1)), (x9_99), (wrap64 (x55_2 + 1)), (wrap64 (x235001_40 + 1)), (t253), (.slice Ao134 t253.length co134), (by first | rfl | (simp; done) | (simp [*]; done) | (simp; grind)), (by first | rfl | (simp; done) | (simp [*]; done) | (simp; grind)), H', ⟨by have := HJ9.out; have := HK2.out; have := HJ40.out; have := HJ80.out; have := HJ99.out; omega⟩, ⟨by (with_reducible repeat (first | apply Kd.V_alloc | apply Kd.V_drewN | apply Kd.V_drew)); exact Kd.V_mono (Kd.V_far (p := ⟨gb234, 1, none⟩) (Kd.V_far (p := ⟨gb234, 2, none⟩) (Kd.V_mono HO_2.out (fun k_ hk => (⟨hk, hk.1.1.2.2.2⟩ : _ ∧ k_ ≠ gb234))) (fun _ hk => hk.2) (.slice Ao134 t253.length co134)) (fun _ hk => hk.2) (.int .i64 (wrap64 (x235001_40 + 1)))) (fun _ hk => ⟨hk.1.1.1.1, ⟨hk.1.2, ⟨hk.1.1.1.2.2.1, hk.1.1.1.2.2.2⟩⟩⟩)⟩, ⟨by (with_reducible repeat (first | apply Kd.V_alloc | apply Kd.V_drewN | apply Kd.V_drew)); exact Kd.V_mono (Kd.V_far (p := ⟨gb234, 1, none⟩) (Kd.V_far (p := ⟨gb234, 2, none⟩) (Kd.V_mono HO_9.out (fun k_ hk => (⟨hk, hk.1.1.2.2.2⟩ : _ ∧ k_ ≠ gb234))) (fun _ hk => hk.2) (.slice Ao134 t253.length co134)) (fun _ hk => hk.2) (.int .i64 (wrap64 (x235001_40 + 1)))) (fun _ hk => ⟨hk.1.1.1.1, ⟨hk.1.2, ⟨hk.1.1.1.2.2.1, hk.1.1.1.2.2.2⟩⟩⟩)⟩, ⟨by (with_reducible repeat (first | apply Kd.V_alloc | apply Kd.V_drewN | apply Kd.V_drew)); exact Kd.V_mono (Kd.V_far (p := ⟨gb234, 1, none⟩) (Kd.V_far (p := ⟨gb234, 2, none⟩) (Kd.V_mono HO_53.out (fun k_ hk => (⟨hk, hk.1.1.2.2.2⟩ : _ ∧ k_ ≠ gb234))) (fun _ hk => hk.2) (.slice Ao134 t253.length co134)) (fun _ hk => hk.2) (.int .i64 (wrap64 (x235001_40 + 1)))) (fun _ hk => ⟨hk.1.1.1.1, ⟨hk.1.2, ⟨hk.1.1.1.2.2.1, hk.1.1.1.2.2.2⟩⟩⟩)⟩, ⟨by (with_reducible repeat (first | apply Kd.R_alloc | apply Kd.R_drewN | apply Kd.R_drew)); exact Kd.R_mono (Kd.R_far (p := ⟨gb234, 1, none⟩) (Kd.R_far (p := ⟨gb234, 2, none⟩) (Kd.R_types HO255.out BK234.out (by decide)) (fun _ hk => hk.2) (.slice Ao134 t253.length co134)) (fun _ hk => hk.2) (.int .i64 (wrap64 (x235001_40 + 1)))) (fun _ hk => ⟨hk.1.1.1.1.1, hk.1.2⟩)⟩, ⟨blf_⟩, ⟨by (with_reducible repeat (first | refine zN ?_ _ | refine zD ?_ | refine zA ?_ _)); refine blk_put (cs := #[.slice none 0 0, .int .i64 x235001_40, .slice Ao134 t253.length co134]) ?_ 1 _ rfl; (with_reducible repeat (first | refine zN ?_ _ | refine zD ?_ | refine zA ?_ _)); refine blk_put (cs := #[.slice none 0 0, .int .i64 x235001_40, u235002]) ?_ 2 _ rfl; (with_reducible repeat (first | refine zN ?_ _ | refine zD ?_ | refine zA ?_ _)); exact BK234.out⟩, ⟨bel_⟩⟩
               rw [if_pos c105] at H
               have c105b0 : ((y250.length : Int) == 0) = true := beq_iff_eq.mpr c105
               have c105b1 : ((y250.length : Int) != 0) = false := bne_eq_false_iff_eq.mpr c105
               clear c105
               have tk108 : True := trivial
               have tk110 : True := trivial
               have tk112 : True := trivial
               have tk116 : True := trivial
               have tk119 : True := trivial
               have tk120 : True := trivial
               have tk122 : True := trivial
               go_upto_region 22 with (first | ((with_reducible refine gate_dst (N := 112) rfl ?_); clear tk108; (try (refine gate_guard (by rfl) ?_; dsimp only)); refine Kd.R_lit k34 _ 34 ?hg (N := 112) ?hd (xs := ([] : List (S34))) (inner := []) (ok := fun _ => True) (okp := fun _ => True) ?hr ?hp (fun _ hk => hk) trivial (Below.refl _ _) (Nat.le_refl _) (by simp) ?_; (case hd => rfl); (case hg => rfl); (case hr => first | (go_simp; done) | (go_simp; rfl)); (case hp => exact (Reps.none _ _)); intro v248 w106 ho107 hb hg_ hnew_; clear hg_ hnew_; (first | rw [← Ny247.out] at ho107 | (simp only [Int.reduceToNat] at ho107; rw [← Ny247.out] at ho107)); replace HO_2 := zM (Kd.V_elder' (rv_ HO_2) (Kd.R_base ho107) hb); replace HO_9 := zM (Kd.V_elder' (rv_ HO_9) (Kd.R_base ho107) hb); replace HO_11 := zM (Kd.V_elder' (rv_ HO_11) (Kd.R_base ho107) hb); replace HO_53 := zM (Kd.V_elder' (rv_ HO_53) (Kd.R_base ho107) hb); have HO249 := zM (Kd.R_lower (Kd.R_newB (Kd.R_new' (Kd.R_newM (M := fun k_ => (w.heap.size ≤ k_)) ho107 (below_size bel_) (fun k_ h_ => h_)) (Kd.R_lt (rl_ HO_235002))) (g := gb231) (o := .cells #[.int .i64 a1_0, .int .i64 a1_1, .int .i64 a1_2] 34 (0, 0)) blk_) (below_size bel_)); replace HO_235002 := zM (Kd.R_elder' (rl_ HO_235002) (Kd.R_base ho107) hb); replace BK231 := zM (bb_ BK231 hb); replace BK234 := zM (bb_ BK234 hb); replace HR238_0 := zM (Kd.C_below (cv_ HR238_0) hb); replace HB := zM (zB bel_ hb); clear hb ho107) | ((with_reducible refine gate_builtin (b := .append) (xs := #[.tmp 112, .tmp 113]) rfl ?_); clear tk110; (try (refine gate_guard (by rfl) ?_; dsimp only)); at_builtin; refine Kd.R_append_rows k34 (w0 := w) w.heap.size rfl (.tmp 112) (.tmp 113) 27 34 (.agg #[(.int .i64 0), (.int .i64 0), (.int .i64 0)]) 24 rfl Try.underlying27 info34 rfl (by decide) (by omega) v248 y247 (rd_L3 l2 x55_2) _ _ _ (fun k_ => (w.heap.size ≤ k_) ∧ some k_ ≠ (u235002 : Value).ownBlock ∧ k_ ≠ gb231) (fun _ => False) rfl rfl ?aO ?aR (fun _ _ h => h) (fun _ h => h.elim) ?aF ?aB ?aS ?aL ?_; (case aR => repeat (first | exact (Kd.V_reads' HO_11.out).2.2 | (with_reducible refine Kd.C_alloc ?_ _) | (with_reducible refine Kd.C_drewN ?_ _) | (with_reducible refine Kd.C_drew ?_))); (case aB => exact bel_); (case aF => exact (fun k_ hk => ⟨(Nat.le_trans (below_size bel_) hk), Kd.fresh' (Kd.R_lt (rl_ HO_235002)) k_ hk, Kd.freshB (g := gb231) (o := .cells #[.int .i64 a1_0, .int .i64 a1_1, .int .i64 a1_2] 34 (0, 0)) blk_ k_ hk⟩)); (case aO => exact (by (with_reducible repeat (first | apply Kd.R_alloc | apply Kd.R_drewN | apply Kd.R_drew)); exact Kd.R_mono HO249.out (fun _ hk => ⟨hk.1.1.1, ⟨hk.1.2, hk.2⟩⟩))); (case aS => exact (below_size bel_)); (case aL => have := LMc102.out; omega); intro v251 w109 ho hb hg hat; rw [← Ny250.out] at ho; have n0_ := zM (Kd.V_afterv (ok := (fun k_ => (P2_ k_ ∨ w.heap.size ≤ k_) ∧ some k_ ≠ (u235002 : Value).ownBlock ∧ k_ ≠ gb231 ∧ k_ ≠ gb234)) (rv_ HO_2) hg hat); have n1_ := zM (Kd.V_afterv (ok := (fun k_ => (P2_ k_ ∨ w.heap.size ≤ k_) ∧ some k_ ≠ (u235002 : Value).ownBlock ∧ k_ ≠ gb231 ∧ k_ ≠ gb234)) (rv_ HO_9) hg hat); have n2_ := zM (Kd.V_afterv (ok := (fun k_ => (P2_ k_ ∨ w.heap.size ≤ k_) ∧ some k_ ≠ (u235002 : Value).ownBlock ∧ k_ ≠ gb231 ∧ k_ ≠ gb234)) (rv_ HO_11) hg hat); have n3_ := zM (Kd.V_afterv (ok := (fun k_ => (P2_ k_ ∨ w.heap.size ≤ k_) ∧ some k_ ≠ (u235002 : Value).ownBlock ∧ k_ ≠ gb231 ∧ k_ ≠ gb234)) (rv_ HO_53) hg hat); have n4_ := zM (Kd.R_after (ok := (fun k_ => (w.heap.size ≤ k_) ∧ k_ ≠ gb231)) (rl_ HO_235002) hg hat); have n5_ := zM (blk_grown (g := gb231) (o := .cells #[.int .i64 a1_0, .int .i64 a1_1, .int .i64 a1_2] 34 (0, 0)) blk_ hg (Kd.R_away HO249.out (fun _ hk => hk.2))); have n6_ := zM (blk_grown (g := gb234) (o := .cells #[.slice none 0 0, .int .i64 x235001_40, u235002] 61 (0, 0)) blk_ hg (Kd.R_ne HO249.out BK234.out (by decide))); have n7_ := zM (hb); have n8_ := zM (ho); clear HO_2; clear HO_9; clear HO_11; clear HO_53; clear HO_235002; clear BK231; clear BK234; clear HB; clear HO249; have HO_2 := n0_; have HO_9 := n1_; have HO_11 := n2_; have HO_53 := n3_; have HO_235002 := n4_; have BK231 := n5_; have BK234 := n6_; have HB := n7_; have HO252 := n8_; clear n0_ n1_ n2_ n3_ n4_ n5_ n6_ n7_ n8_; clear ho hb hg hat; obtain ⟨Ao111, co111, eo111⟩ := Kd.R_slice HO252.out; subst eo111) | ((with_reducible refine gate_callee (f := 15) rfl ?_); clear tk112; refine goL_ (some 115) Try.func15 #[.pointer (some ⟨gb234, 0, none⟩), .slice Ao111 y250.length co111] ?_; go_enter Try.func15, Try.ntmps15; have hnb113 := NB234_231.out; have hnc113 := NB231_234.out; have hcz114_0 : w109.cell? ⟨gb234, 0, none⟩ = some (.slice none 0 0) := (zL BK234.out 0).trans rfl; have hcz114_1 : w109.cell? ⟨gb234, 1, none⟩ = some (.int .i64 x235001_40) := (zL BK234.out 1).trans rfl; have hcz114_2 : w109.cell? ⟨gb234, 2, none⟩ = some (u235002) := (zL BK234.out 2).trans rfl; have hfz114_0 := zF BK234.out 0; have hfz114_1 := zF BK234.out 1; have hfz114_2 := zF BK234.out 2) | (go_at_call 25; (with_reducible refine (api_Cell.calls _ _ y250 t253 _ ?side1 ?side2 A104.out).mono ?_); (case side1 => repeat (first | exact (Kd.R_reads' HO252.out).2.2 | (with_reducible refine Kd.C_alloc ?_ _) | (with_reducible refine Kd.C_drewN ?_ _) | (with_reducible refine Kd.C_drew ?_))); (case side2 => exact (Kd.R_reads' HO252.out).2.1); clear tk116; rintro e w115 ⟨v254, rfl, ho0, hb⟩; replace HO_2 := zM (Kd.V_elder' (rv_ HO_2) (Kd.R_base ho0) hb); replace HO_9 := zM (Kd.V_elder' (rv_ HO_9) (Kd.R_base ho0) hb); replace HO_11 := zM (Kd.V_elder' (rv_ HO_11) (Kd.R_base ho0) hb); replace HO_53 := zM (Kd.V_elder' (rv_ HO_53) (Kd.R_base ho0) hb); have HO255 := zM (Kd.R_lower (Kd.R_newB (Kd.R_new' (Kd.R_new' (Kd.R_newM (M := fun k_ => (w.heap.size ≤ k_)) ho0 (below_size bel_) (fun k_ h_ => h_)) (Kd.R_lt (rl_ HO_235002))) (Kd.R_lt (rl_ HO252))) (g := gb231) (o := .cells #[.int .i64 a1_0, .int .i64 a1_1, .int .i64 a1_2] 34 (0, 0)) blk_) (below_size bel_)); replace HO_235002 := zM (Kd.R_elder' (rl_ HO_235002) (Kd.R_base ho0) hb); replace HO252 := zM (Kd.R_elder' (rl_ HO252) (Kd.R_base ho0) hb); replace BK231 := zM (bb_ BK231 hb); replace BK234 := zM (bb_ BK234 hb); replace HB := zM (zB bel_ hb); (try clear hb); (try clear ho0); obtain ⟨Ao117, co117, eo117⟩ := Kd.R_slice HO255.out; subst eo117; have hcz118_0 : w115.cell? ⟨gb234, 0, none⟩ = some (.slice none 0 0) := (zL BK234.out 0).trans rfl; have hcz118_1 : w115.cell? ⟨gb234, 1, none⟩ = some (.int .i64 x235001_40) := (zL BK234.out 1).trans rfl; have hcz118_2 : w115.cell? ⟨gb234, 2, none⟩ = some (u235002) := (zL BK234.out 2).trans rfl; have hfz118_0 := zF BK234.out 0; have hfz118_1 := zF BK234.out 1; have hfz118_2 := zF BK234.out 2) | (go_at_call 26; clear tk119; go_enter Try.func26, Try.ntmps26) | (clear tk120; (first | go_ret | go_ret2 | go_ret3 | go_end0); simp only []; go_at_K; have hcy121 : (((w115.setCell ⟨gb234, 2, none⟩ (.slice Ao117 t253.length co117)).setCell ⟨gb234, 1, none⟩ (.int .i64 (wrap64 (x235001_40 + 1)))).setCell ⟨gb234, 1, none⟩ (.int .i64 4)).cell? ⟨gb234, 1, none⟩ = some (.int .i64 4) := (zL (show (((w115.setCell ⟨gb234, 2, none⟩ (.slice Ao117 t253.length co117)).setCell ⟨gb234, 1, none⟩ (.int .i64 (wrap64 (x235001_40 + 1)))).setCell ⟨gb234, 1, none⟩ (.int .i64 4)).heap[gb234]? = some (.cells #[.slice none 0 0, .int .i64 4, .slice Ao117 t253.length co117] 61 (0, 0)) from by (with_reducible repeat (first | refine zN ?_ _ | refine zD ?_ | refine zA ?_ _)); refine blk_put (cs := #[.slice none 0 0, .int .i64 (wrap64 (x235001_40 + 1)), .slice Ao117 t253.length co117]) ?_ 1 _ rfl; (with_reducible repeat (first | refine zN ?_ _ | refine zD ?_ | refine zA ?_ _)); refine blk_put (cs := #[.slice none 0 0, .int .i64 x235001_40, .slice Ao117 t253.length co117]) ?_ 1 _ rfl; (with_reducible repeat (first | refine zN ?_ _ | refine zD ?_ | refine zA ?_ _)); refine blk_put (cs := #[.slice none 0 0, .int .i64 x235001_40, u235002]) ?_ 2 _ rfl; (with_reducible repeat (first | refine zN ?_ _ | refine zD ?_ | refine zA ?_ _)); exact BK234.out) 1).trans rfl) | (clear tk122; (first | go_ret | go_ret2 | go_ret3 | go_end0); with_reducible refine inl_back_ ?_))
               try clear hcz114_0
               try clear hcz114_1
               try clear hcz114_2
               try clear hcz118_0
               try clear hcz118_1
               try clear hcz118_2
               try clear hfz114_0
               try clear hfz114_1
               try clear hfz114_2
               try clear hfz118_0
               try clear hfz118_1
               try clear hfz118_2
               try clear hnb113
               try clear hnc113
               have H' := zM H
               clear H
               go_wp2
               go_roundg kj99
               case measure => have := HJ9.out; have := HK2.out; have := HJ40.out; have := HJ80.out; have := HJ99.out; omega
               case rel => exact ⟨(wrap64 (x8_2 + 1)), (x9_99), (wrap64 (x55_2 + 1)), (4), (t253), (.slice Ao117 t253.length co117), (by first | rfl | (simp; done) | (simp [*]; done) | (simp; grind)), (by first | rfl | (simp; done) | (simp [*]; done) | (simp; grind)), H', ⟨by have := HJ9.out; have := HK2.out; have := HJ40.out; have := HJ80.out; have := HJ99.out; omega⟩, ⟨by (with_reducible repeat (first | apply Kd.V_alloc | apply Kd.V_drewN | apply Kd.V_drew)); exact Kd.V_mono (Kd.V_far (p := ⟨gb234, 1, none⟩) (Kd.V_far (p := ⟨gb234, 1, none⟩) (Kd.V_far (p := ⟨gb234, 2, none⟩) (Kd.V_mono HO_2.out (fun k_ hk => (⟨hk, hk.1.1.2.2.2⟩ : _ ∧ k_ ≠ gb234))) (fun _ hk => hk.2) (.slice Ao117 t253.length co117)) (fun _ hk => hk.2) (.int .i64 (wrap64 (x235001_40 + 1)))) (fun _ hk => hk.2) (.int .i64 4)) (fun _ hk => ⟨hk.1.1.1.1, ⟨hk.1.2, ⟨hk.1.1.1.2.2.1, hk.1.1.1.2.2.2⟩⟩⟩)⟩, ⟨by (with_reducible repeat (first | apply Kd.V_alloc | apply Kd.V_drewN | apply Kd.V_drew)); exact Kd.V_mono (Kd.V_far (p := ⟨gb234, 1, none⟩) (Kd.V_far (p := ⟨gb234, 1, none⟩) (Kd.V_far (p := ⟨gb234, 2, none⟩) (Kd.V_mono HO_9.out (fun k_ hk => (⟨hk, hk.1.1.2.2.2⟩ : _ ∧ k_ ≠ gb234))) (fun _ hk => hk.2) (.slice Ao117 t253.length co117)) (fun _ hk => hk.2) (.int .i64 (wrap64 (x235001_40 + 1)))) (fun _ hk => hk.2) (.int .i64 4)) (fun _ hk => ⟨hk.1.1.1.1, ⟨hk.1.2, ⟨hk.1.1.1.2.2.1, hk.1.1.1.2.2.2⟩⟩⟩)⟩, ⟨by (with_reducible repeat (first | apply Kd.V_alloc | apply Kd.V_drewN | apply Kd.V_drew)); exact Kd.V_mono (Kd.V_far (p := ⟨gb234, 1, none⟩) (Kd.V_far (p := ⟨gb234, 1, none⟩) (Kd.V_far (p := ⟨gb234, 2, none⟩) (Kd.V_mono HO_53.out (fun k_ hk => (⟨hk, hk.1.1.2.2.2⟩ : _ ∧ k_ ≠ gb234))) (fun _ hk => hk.2) (.slice Ao117 t253.length co117)) (fun _ hk => hk.2) (.int .i64 (wrap64 (x235001_40 + 1)))) (fun _ hk => hk.2) (.int .i64 4)) (fun _ hk => ⟨hk.1.1.1.1, ⟨hk.1.2, ⟨hk.1.1.1.2.2.1, hk.1.1.1.2.2.2⟩⟩⟩)⟩, ⟨by (with_reducible repeat (first | apply Kd.R_alloc | apply Kd.R_drewN | apply Kd.R_drew)); exact Kd.R_mono (Kd.R_far (p := ⟨gb234, 1, none⟩) (Kd.R_far (p := ⟨gb234, 1, none⟩) (Kd.R_far (p := ⟨gb234, 2, none⟩) (Kd.R_types HO255.out BK234.out (by decide)) (fun _ hk => hk.2) (.slice Ao117 t253.length co117)) (fun _ hk => hk.2) (.int .i64 (wrap64 (x235001_40 + 1)))) (fun _ hk => hk.2) (.int .i64 4)) (fun _ hk => ⟨hk.1.1.1.1.1, hk.1.2⟩)⟩, ⟨blf_⟩, ⟨by (with_reducible repeat (first | refine zN ?_ _ | refine zD ?_ | refine zA ?_ _)); refine blk_put (cs := #[.slice none 0 0, .int .i64 (wrap64 (x235001_40 + 1)), .slice Ao117 t253.length co117]) ?_ 1 _ rfl; (with_reducible repeat (first | refine zN ?_ _ | refine zD ?_ | refine zA ?_ _)); refine blk_put (cs := #[.slice none 0 0, .int .i64 x235001_40, .slice Ao117 t253.length co117]) ?_ 1 _ rfl; (with_reducible repeat (first | refine zN ?_ _ | refine zD ?_ | refine zA ?_ _)); refine blk_put (cs := #[.slice none 0 0, .int .i64 x235001_40, u235002]) ?_ 2 _ rfl; (with_reducible repeat (first | refine zN ?_ _ | refine zD ?_ | refine zA ?_ _)); exact BK234.out⟩, ⟨bel_⟩⟩
             rw [if_neg c103] at H
             have c103b0 : (x235001_40 == 0) = false := beq_eq_false_iff_ne.mpr c103
             have c103b1 : (x235001_40 != 0) = true := bne_iff_ne.mpr c103
             by_cases c137 : x235001_40 = 2
             rotate_left
             · rw [if_neg c137] at H
               have c137b0 : (x235001_40 == 2) = false := beq_eq_false_iff_ne.mpr c137
               have c137b1 : (x235001_40 != 2) = true := bne_iff_ne.mpr c137
               by_cases c171 : x235001_40 = 1
               · rw [if_pos c171] at H
                 have c171b0 : (x235001_40 == 1) = true := beq_iff_eq.mpr c171
                 have c171b1 : (x235001_40 != 1) = false := bne_eq_false_iff_eq.mpr c171
                 clear c171
                 have tk174 : True := trivial
                 have tk176 : True := trivial
                 have tk178 : True := trivial
                 have tk181 : True := trivial
                 have tk182 : True := trivial
                 have tk183 : True := trivial
                 go_upto_region 22 with (first | ((with_reducible refine gate_dst (N := 112) rfl ?_); clear tk174; (try (refine gate_guard (by rfl) ?_; dsimp only)); refine Kd.R_lit k34 _ 34 ?hg (N := 112) ?hd (xs := ([] : List (S34))) (inner := []) (ok := fun _ => True) (okp := fun _ => True) ?hr ?hp (fun _ hk => hk) trivial (Below.refl _ _) (Nat.le_refl _) (by simp) ?_; (case hd => rfl); (case hg => rfl); (case hr => first | (go_simp; done) | (go_simp; rfl)); (case hp => exact (Reps.none _ _)); intro v248 w172 ho173 hb hg_ hnew_; clear hg_ hnew_; (first | rw [← Ny247.out] at ho173 | (simp only [Int.reduceToNat] at ho173; rw [← Ny247.out] at ho173)); replace HO_2 := zM (Kd.V_elder' (rv_ HO_2) (Kd.R_base ho173) hb); replace HO_9 := zM (Kd.V_elder' (rv_ HO_9) (Kd.R_base ho173) hb); replace HO_11 := zM (Kd.V_elder' (rv_ HO_11) (Kd.R_base ho173) hb); replace HO_53 := zM (Kd.V_elder' (rv_ HO_53) (Kd.R_base ho173) hb); have HO249 := zM (Kd.R_lower (Kd.R_newB (Kd.R_new' (Kd.R_newM (M := fun k_ => (w.heap.size ≤ k_)) ho173 (below_size bel_) (fun k_ h_ => h_)) (Kd.R_lt (rl_ HO_235002))) (g := gb231) (o := .cells #[.int .i64 a1_0, .int .i64 a1_1, .int .i64 a1_2] 34 (0, 0)) blk_) (below_size bel_)); replace HO_235002 := zM (Kd.R_elder' (rl_ HO_235002) (Kd.R_base ho173) hb); replace BK231 := zM (bb_ BK231 hb); replace BK234 := zM (bb_ BK234 hb); replace HR238_0 := zM (Kd.C_below (cv_ HR238_0) hb); replace HB := zM (zB bel_ hb); clear hb ho173) | ((with_reducible refine gate_builtin (b := .append) (xs := #[.tmp 112, .tmp 113]) rfl ?_); clear tk176; (try (refine gate_guard (by rfl) ?_; dsimp only)); at_builtin; refine Kd.R_append_rows k34 (w0 := w) w.heap.size rfl (.tmp 112) (.tmp 113) 27 34 (.agg #[(.int .i64 0), (.int .i64 0), (.int .i64 0)]) 24 rfl Try.underlying27 info34 rfl (by decide) (by omega) v248 y247 (rd_L3 l2 x55_2) _ _ _ (fun k_ => (w.heap.size ≤ k_) ∧ some k_ ≠ (u235002 : Value).ownBlock ∧ k_ ≠ gb231) (fun _ => False) rfl rfl ?aO ?aR (fun _ _ h => h) (fun _ h => h.elim) ?aF ?aB ?aS ?aL ?_; (case aR => repeat (first | exact (Kd.V_reads' HO_11.out).2.2 | (with_reducible refine Kd.C_alloc ?_ _) | (with_reducible refine Kd.C_drewN ?_ _) | (with_reducible refine Kd.C_drew ?_))); (case aB => exact bel_); (case aF => exact (fun k_ hk => ⟨(Nat.le_trans (below_size bel_) hk), Kd.fresh' (Kd.R_lt (rl_ HO_235002)) k_ hk, Kd.freshB (g := gb231) (o := .cells #[.int .i64 a1_0, .int .i64 a1_1, .int .i64 a1_2] 34 (0, 0)) blk_ k_ hk⟩)); (case aO => exact (by (with_reducible repeat (first | apply Kd.R_alloc | apply Kd.R_drewN | apply Kd.R_drew)); exact Kd.R_mono HO249.out (fun _ hk => ⟨hk.1.1.1, ⟨hk.1.2, hk.2⟩⟩))); (case aS => exact (below_size bel_)); (case aL => have := LMc102.out; omega); intro v251 w175 ho hb hg hat; rw [← Ny250.out] at ho; have n0_ := zM (Kd.V_afterv (ok := (fun k_ => (P2_ k_ ∨ w.heap.size ≤ k_) ∧ some k_ ≠ (u235002 : Value).ownBlock ∧ k_ ≠ gb231 ∧ k_ ≠ gb234)) (rv_ HO_2) hg hat); have n1_ := zM (Kd.V_afterv (ok := (fun k_ => (P2_ k_ ∨ w.heap.size ≤ k_) ∧ some k_ ≠ (u235002 : Value).ownBlock ∧ k_ ≠ gb231 ∧ k_ ≠ gb234)) (rv_ HO_9) hg hat); have n2_ := zM (Kd.V_afterv (ok := (fun k_ => (P2_ k_ ∨ w.heap.size ≤ k_) ∧ some k_ ≠ (u235002 : Value).ownBlock ∧ k_ ≠ gb231 ∧ k_ ≠ gb234)) (rv_ HO_11) hg hat); have n3_ := zM (Kd.V_afterv (ok := (fun k_ => (P2_ k_ ∨ w.heap.size ≤ k_) ∧ some k_ ≠ (u235002 : Value).ownBlock ∧ k_ ≠ gb231 ∧ k_ ≠ gb234)) (rv_ HO_53) hg hat); have n4_ := zM (Kd.R_after (ok := (fun k_ => (w.heap.size ≤ k_) ∧ k_ ≠ gb231)) (rl_ HO_235002) hg hat); have n5_ := zM (blk_grown (g := gb231) (o := .cells #[.int .i64 a1_0, .int .i64 a1_1, .int .i64 a1_2] 34 (0, 0)) blk_ hg (Kd.R_away HO249.out (fun _ hk => hk.2))); have n6_ := zM (blk_grown (g := gb234) (o := .cells #[.slice none 0 0, .int .i64 x235001_40, u235002] 61 (0, 0)) blk_ hg (Kd.R_ne HO249.out BK234.out (by decide))); have n7_ := zM (hb); have n8_ := zM (ho); clear HO_2; clear HO_9; clear HO_11; clear HO_53; clear HO_235002; clear BK231; clear BK234; clear HB; clear HO249; have HO_2 := n0_; have HO_9 := n1_; have HO_11 := n2_; have HO_53 := n3_; have HO_235002 := n4_; have BK231 := n5_; have BK234 := n6_; have HB := n7_; have HO252 := n8_; clear n0_ n1_ n2_ n3_ n4_ n5_ n6_ n7_ n8_; clear ho hb hg hat; obtain ⟨Ao177, co177, eo177⟩ := Kd.R_slice HO252.out; subst eo177) | ((with_reducible refine gate_callee (f := 15) rfl ?_); clear tk178; refine goL_ (some 115) Try.func15 #[.pointer (some ⟨gb234, 0, none⟩), .slice Ao177 y250.length co177] ?_; go_enter Try.func15, Try.ntmps15; have hnb179 := NB234_231.out; have hnc179 := NB231_234.out; have hcz180_0 : w175.cell? ⟨gb234, 0, none⟩ = some (.slice none 0 0) := (zL BK234.out 0).trans rfl; have hcz180_1 : w175.cell? ⟨gb234, 1, none⟩ = some (.int .i64 x235001_40) := (zL BK234.out 1).trans rfl; have hcz180_2 : w175.cell? ⟨gb234, 2, none⟩ = some (u235002) := (zL BK234.out 2).trans rfl; have hfz180_0 := zF BK234.out 0; have hfz180_1 := zF BK234.out 1; have hfz180_2 := zF BK234.out 2) | ((with_reducible refine gate_callee (f := 26) rfl ?_); clear tk181; refine goL_ (some 40) Try.func26 #[.pointer (some ⟨gb234, 0, none⟩)] ?_; go_enter Try.func26, Try.ntmps26) | (clear tk182; (first | go_ret | go_ret2 | go_ret3 | go_end0); with_reducible refine inl_back_ ?_) | (clear tk183; (first | go_ret | go_ret2 | go_ret3 | go_end0); with_reducible refine inl_back_ ?_))
                 try clear hcz180_0
                 try clear hcz180_1
                 try clear hcz180_2
                 try clear hfz180_0
                 try clear hfz180_1
                 try clear hfz180_2
                 try clear hnb179
                 try clear hnc179
                 have H' := zM H
                 clear H
                 go_wp2
                 go_roundg kj99
                 case measure => have := HJ9.out; have := HK2.out; have := HJ40.out; have := HJ80.out; have := HJ99.out; omega
                 case rel => exact ⟨(wrap64 (x8_2 + 1)), (x9_99), (wrap64 (x55_2 + 1)), (2), (x235002_2), (u235002), (by first | rfl | (simp; done) | (simp [*]; done) | (simp; grind)), (by first | rfl | (simp; done) | (simp [*]; done) | (simp; grind)), H', ⟨by have := HJ9.out; have := HK2.out; have := HJ40.out; have := HJ80.out; have := HJ99.out; omega⟩, ⟨by (with_reducible repeat (first | apply Kd.V_alloc | apply Kd.V_drewN | apply Kd.V_drew)); exact Kd.V_mono (Kd.V_far (p := ⟨gb234, 1, none⟩) (Kd.V_mono HO_2.out (fun k_ hk => (⟨hk, hk.1.2.2.2⟩ : _ ∧ k_ ≠ gb234))) (fun _ hk => hk.2) (.int .i64 2)) (fun _ hk => ⟨hk.1.1.1, ⟨hk.1.1.2.1, ⟨hk.1.1.2.2.1, hk.1.1.2.2.2⟩⟩⟩)⟩, ⟨by (with_reducible repeat (first | apply Kd.V_alloc | apply Kd.V_drewN | apply Kd.V_drew)); exact Kd.V_mono (Kd.V_far (p := ⟨gb234, 1, none⟩) (Kd.V_mono HO_9.out (fun k_ hk => (⟨hk, hk.1.2.2.2⟩ : _ ∧ k_ ≠ gb234))) (fun _ hk => hk.2) (.int .i64 2)) (fun _ hk => ⟨hk.1.1.1, ⟨hk.1.1.2.1, ⟨hk.1.1.2.2.1, hk.1.1.2.2.2⟩⟩⟩)⟩, ⟨by (with_reducible repeat (first | apply Kd.V_alloc | apply Kd.V_drewN | apply Kd.V_drew)); exact Kd.V_mono (Kd.V_far (p := ⟨gb234, 1, none⟩) (Kd.V_mono HO_53.out (fun k_ hk => (⟨hk, hk.1.2.2.2⟩ : _ ∧ k_ ≠ gb234))) (fun _ hk => hk.2) (.int .i64 2)) (fun _ hk => ⟨hk.1.1.1, ⟨hk.1.1.2.1, ⟨hk.1.1.2.2.1, hk.1.1.2.2.2⟩⟩⟩)⟩, ⟨by (with_reducible repeat (first | apply Kd.R_alloc | apply Kd.R_drewN | apply Kd.R_drew)); exact Kd.R_mono (Kd.R_far (p := ⟨gb234, 1, none⟩) (Kd.R_types HO_235002.out BK234.out (by decide)) (fun _ hk => hk.2) (.int .i64 2)) (fun _ hk => ⟨hk.1.1.1, hk.1.1.2⟩)⟩, ⟨blf_⟩, ⟨by (with_reducible repeat (first | refine zN ?_ _ | refine zD ?_ | refine zA ?_ _)); refine blk_put (cs := #[.slice none 0 0, .int .i64 x235001_40, u235002]) ?_ 1 _ rfl; (with_reducible repeat (first | refine zN ?_ _ | refine zD ?_ | refine zA ?_ _)); exact BK234.out⟩, ⟨bel_⟩⟩
               rw [if_neg c171] at H
               have c171b0 : (x235001_40 == 1) = false := beq_eq_false_iff_ne.mpr c171
               have c171b1 : (x235001_40 != 1) = true := bne_iff_ne.mpr c171
               by_cases c184 : x235001_40 = 3
               rotate_left
               · rw [if_neg c184] at H
                 have c184b0 : (x235001_40 == 3) = false := beq_eq_false_iff_ne.mpr c184
                 have c184b1 : (x235001_40 != 3) = true := bne_iff_ne.mpr c184
                 have tk197 : True := trivial
                 have tk199 : True := trivial
                 have tk201 : True := trivial
                 have tk204 : True := trivial
                 go_upto_region 22 with (first | ((with_reducible refine gate_dst (N := 112) rfl ?_); clear tk197; (try (refine gate_guard (by rfl) ?_; dsimp only)); refine Kd.R_lit k34 _ 34 ?hg (N := 112) ?hd (xs := ([] : List (S34))) (inner := []) (ok := fun _ => True) (okp := fun _ => True) ?hr ?hp (fun _ hk => hk) trivial (Below.refl _ _) (Nat.le_refl _) (by simp) ?_; (case hd => rfl); (case hg => rfl); (case hr => first | (go_simp; done) | (go_simp; rfl)); (case hp => exact (Reps.none _ _)); intro v248 w195 ho196 hb hg_ hnew_; clear hg_ hnew_; (first | rw [← Ny247.out] at ho196 | (simp only [Int.reduceToNat] at ho196; rw [← Ny247.out] at ho196)); replace HO_2 := zM (Kd.V_elder' (rv_ HO_2) (Kd.R_base ho196) hb); replace HO_9 := zM (Kd.V_elder' (rv_ HO_9) (Kd.R_base ho196) hb); replace HO_11 := zM (Kd.V_elder' (rv_ HO_11) (Kd.R_base ho196) hb); replace HO_53 := zM (Kd.V_elder' (rv_ HO_53) (Kd.R_base ho196) hb); have HO249 := zM (Kd.R_lower (Kd.R_newB (Kd.R_new' (Kd.R_newM (M := fun k_ => (w.heap.size ≤ k_)) ho196 (below_size bel_) (fun k_ h_ => h_)) (Kd.R_lt (rl_ HO_235002))) (g := gb231) (o := .cells #[.int .i64 a1_0, .int .i64 a1_1, .int .i64 a1_2] 34 (0, 0)) blk_) (below_size bel_)); replace HO_235002 := zM (Kd.R_elder' (rl_ HO_235002) (Kd.R_base ho196) hb); replace BK231 := zM (bb_ BK231 hb); replace BK234 := zM (bb_ BK234 hb); replace HR238_0 := zM (Kd.C_below (cv_ HR238_0) hb); replace HB := zM (zB bel_ hb); clear hb ho196) | ((with_reducible refine gate_builtin (b := .append) (xs := #[.tmp 112, .tmp 113]) rfl ?_); clear tk199; (try (refine gate_guard (by rfl) ?_; dsimp only)); at_builtin; refine Kd.R_append_rows k34 (w0 := w) w.heap.size rfl (.tmp 112) (.tmp 113) 27 34 (.agg #[(.int .i64 0), (.int .i64 0), (.int .i64 0)]) 24 rfl Try.underlying27 info34 rfl (by decide) (by omega) v248 y247 (rd_L3 l2 x55_2) _ _ _ (fun k_ => (w.heap.size ≤ k_) ∧ some k_ ≠ (u235002 : Value).ownBlock ∧ k_ ≠ gb231) (fun _ => False) rfl rfl ?aO ?aR (fun _ _ h => h) (fun _ h => h.elim) ?aF ?aB ?aS ?aL ?_; (case aR => repeat (first | exact (Kd.V_reads' HO_11.out).2.2 | (with_reducible refine Kd.C_alloc ?_ _) | (with_reducible refine Kd.C_drewN ?_ _) | (with_reducible refine Kd.C_drew ?_))); (case aB => exact bel_); (case aF => exact (fun k_ hk => ⟨(Nat.le_trans (below_size bel_) hk), Kd.fresh' (Kd.R_lt (rl_ HO_235002)) k_ hk, Kd.freshB (g := gb231) (o := .cells #[.int .i64 a1_0, .int .i64 a1_1, .int .i64 a1_2] 34 (0, 0)) blk_ k_ hk⟩)); (case aO => exact (by (with_reducible repeat (first | apply Kd.R_alloc | apply Kd.R_drewN | apply Kd.R_drew)); exact Kd.R_mono HO249.out (fun _ hk => ⟨hk.1.1.1, ⟨hk.1.2, hk.2⟩⟩))); (case aS => exact (below_size bel_)); (case aL => have := LMc102.out; omega); intro v251 w198 ho hb hg hat; rw [← Ny250.out] at ho; have n0_ := zM (Kd.V_afterv (ok := (fun k_ => (P2_ k_ ∨ w.heap.size ≤ k_) ∧ some k_ ≠ (u235002 : Value).ownBlock ∧ k_ ≠ gb231 ∧ k_ ≠ gb234)) (rv_ HO_2) hg hat); have n1_ := zM (Kd.V_afterv (ok := (fun k_ => (P2_ k_ ∨ w.heap.size ≤ k_) ∧ some k_ ≠ (u235002 : Value).ownBlock ∧ k_ ≠ gb231 ∧ k_ ≠ gb234)) (rv_ HO_9) hg hat); have n2_ := zM (Kd.V_afterv (ok := (fun k_ => (P2_ k_ ∨ w.heap.size ≤ k_) ∧ some k_ ≠ (u235002 : Value).ownBlock ∧ k_ ≠ gb231 ∧ k_ ≠ gb234)) (rv_ HO_11) hg hat); have n3_ := zM (Kd.V_afterv (ok := (fun k_ => (P2_ k_ ∨ w.heap.size ≤ k_) ∧ some k_ ≠ (u235002 : Value).ownBlock ∧ k_ ≠ gb231 ∧ k_ ≠ gb234)) (rv_ HO_53) hg hat); have n4_ := zM (Kd.R_after (ok := (fun k_ => (w.heap.size ≤ k_) ∧ k_ ≠ gb231)) (rl_ HO_235002) hg hat); have n5_ := zM (blk_grown (g := gb231) (o := .cells #[.int .i64 a1_0, .int .i64 a1_1, .int .i64 a1_2] 34 (0, 0)) blk_ hg (Kd.R_away HO249.out (fun _ hk => hk.2))); have n6_ := zM (blk_grown (g := gb234) (o := .cells #[.slice none 0 0, .int .i64 x235001_40, u235002] 61 (0, 0)) blk_ hg (Kd.R_ne HO249.out BK234.out (by decide))); have n7_ := zM (hb); have n8_ := zM (ho); clear HO_2; clear HO_9; clear HO_11; clear HO_53; clear HO_235002; clear BK231; clear BK234; clear HB; clear HO249; have HO_2 := n0_; have HO_9 := n1_; have HO_11 := n2_; have HO_53 := n3_; have HO_235002 := n4_; have BK231 := n5_; have BK234 := n6_; have HB := n7_; have HO252 := n8_; clear n0_ n1_ n2_ n3_ n4_ n5_ n6_ n7_ n8_; clear ho hb hg hat; obtain ⟨Ao200, co200, eo200⟩ := Kd.R_slice HO252.out; subst eo200) | ((with_reducible refine gate_callee (f := 15) rfl ?_); clear tk201; refine goL_ (some 115) Try.func15 #[.pointer (some ⟨gb234, 0, none⟩), .slice Ao200 y250.length co200] ?_; go_enter Try.func15, Try.ntmps15; have hnb202 := NB234_231.out; have hnc202 := NB231_234.out; have hcz203_0 : w198.cell? ⟨gb234, 0, none⟩ = some (.slice none 0 0) := (zL BK234.out 0).trans rfl; have hcz203_1 : w198.cell? ⟨gb234, 1, none⟩ = some (.int .i64 x235001_40) := (zL BK234.out 1).trans rfl; have hcz203_2 : w198.cell? ⟨gb234, 2, none⟩ = some (u235002) := (zL BK234.out 2).trans rfl; have hfz203_0 := zF BK234.out 0; have hfz203_1 := zF BK234.out 1; have hfz203_2 := zF BK234.out 2) | (clear tk204; (first | go_ret | go_ret2 | go_ret3 | go_end0); with_reducible refine inl_back_ ?_))
                 try clear hcz203_0
                 try clear hcz203_1
                 try clear hcz203_2
                 try clear hfz203_0
                 try clear hfz203_1
                 try clear hfz203_2
                 try clear hnb202
                 try clear hnc202
                 have H' := zM H
                 clear H
                 go_wp2
                 go_roundg kj99
                 case measure => have := HJ9.out; have := HK2.out; have := HJ40.out; have := HJ80.out; have := HJ99.out; omega
                 case rel => exact ⟨(wrap64 (x8_2 + 1)), (x9_99), (wrap64 (x55_2 + 1)), (x235001_40), (x235002_2), (u235002), (by first | rfl | (simp; done) | (simp [*]; done) | (simp; grind)), (by first | rfl | (simp; done) | (simp [*]; done) | (simp; grind)), H', ⟨by have := HJ9.out; have := HK2.out; have := HJ40.out; have := HJ80.out; have := HJ99.out; omega⟩, ⟨by (with_reducible repeat (first | apply Kd.V_alloc | apply Kd.V_drewN | apply Kd.V_drew)); exact Kd.V_mono HO_2.out (fun _ hk => ⟨hk.1.1, ⟨hk.1.2.1, ⟨hk.1.2.2.1, hk.1.2.2.2⟩⟩⟩)⟩, ⟨by (with_reducible repeat (first | apply Kd.V_alloc | apply Kd.V_drewN | apply Kd.V_drew)); exact Kd.V_mono HO_9.out (fun _ hk => ⟨hk.1.1, ⟨hk.1.2.1, ⟨hk.1.2.2.1, hk.1.2.2.2⟩⟩⟩)⟩, ⟨by (with_reducible repeat (first | apply Kd.V_alloc | apply Kd.V_drewN | apply Kd.V_drew)); exact Kd.V_mono HO_53.out (fun _ hk => ⟨hk.1.1, ⟨hk.1.2.1, ⟨hk.1.2.2.1, hk.1.2.2.2⟩⟩⟩)⟩, ⟨by (with_reducible repeat (first | apply Kd.R_alloc | apply Kd.R_drewN | apply Kd.R_drew)); exact Kd.R_mono HO_235002.out (fun _ hk => ⟨hk.1.1, hk.1.2⟩)⟩, ⟨blf_⟩, ⟨blf_⟩, ⟨bel_⟩⟩
               rw [if_pos c184] at H
               have c184b0 : (x235001_40 == 3) = true := beq_iff_eq.mpr c184
               have c184b1 : (x235001_40 != 3) = false := bne_eq_false_iff_eq.mpr c184
               clear c184
               have tk187 : True := trivial
               have tk189 : True := trivial
               have tk191 : True := trivial
               have tk194 : True := trivial
               go_upto_region 22 with (first | ((with_reducible refine gate_dst (N := 112) rfl ?_); clear tk187; (try (refine gate_guard (by rfl) ?_; dsimp only)); refine Kd.R_lit k34 _ 34 ?hg (N := 112) ?hd (xs := ([] : List (S34))) (inner := []) (ok := fun _ => True) (okp := fun _ => True) ?hr ?hp (fun _ hk => hk) trivial (Below.refl _ _) (Nat.le_refl _) (by simp) ?_; (case hd => rfl); (case hg => rfl); (case hr => first | (go_simp; done) | (go_simp; rfl)); (case hp => exact (Reps.none _ _)); intro v248 w185 ho186 hb hg_ hnew_; clear hg_ hnew_; (first | rw [← Ny247.out] at ho186 | (simp only [Int.reduceToNat] at ho186; rw [← Ny247.out] at ho186)); replace HO_2 := zM (Kd.V_elder' (rv_ HO_2) (Kd.R_base ho186) hb); replace HO_9 := zM (Kd.V_elder' (rv_ HO_9) (Kd.R_base ho186) hb); replace HO_11 := zM (Kd.V_elder' (rv_ HO_11) (Kd.R_base ho186) hb); replace HO_53 := zM (Kd.V_elder' (rv_ HO_53) (Kd.R_base ho186) hb); have HO249 := zM (Kd.R_lower (Kd.R_newB (Kd.R_new' (Kd.R_newM (M := fun k_ => (w.heap.size ≤ k_)) ho186 (below_size bel_) (fun k_ h_ => h_)) (Kd.R_lt (rl_ HO_235002))) (g := gb231) (o := .cells #[.int .i64 a1_0, .int .i64 a1_1, .int .i64 a1_2] 34 (0, 0)) blk_) (below_size bel_)); replace HO_235002 := zM (Kd.R_elder' (rl_ HO_235002) (Kd.R_base ho186) hb); replace BK231 := zM (bb_ BK231 hb); replace BK234 := zM (bb_ BK234 hb); replace HR238_0 := zM (Kd.C_below (cv_ HR238_0) hb); replace HB := zM (zB bel_ hb); clear hb ho186) | ((with_reducible refine gate_builtin (b := .append) (xs := #[.tmp 112, .tmp 113]) rfl ?_); clear tk189; (try (refine gate_guard (by rfl) ?_; dsimp only)); at_builtin; refine Kd.R_append_rows k34 (w0 := w) w.heap.size rfl (.tmp 112) (.tmp 113) 27 34 (.agg #[(.int .i64 0), (.int .i64 0), (.int .i64 0)]) 24 rfl Try.underlying27 info34 rfl (by decide) (by omega) v248 y247 (rd_L3 l2 x55_2) _ _ _ (fun k_ => (w.heap.size ≤ k_) ∧ some k_ ≠ (u235002 : Value).ownBlock ∧ k_ ≠ gb231) (fun _ => False) rfl rfl ?aO ?aR (fun _ _ h => h) (fun _ h => h.elim) ?aF ?aB ?aS ?aL ?_; (case aR => repeat (first | exact (Kd.V_reads' HO_11.out).2.2 | (with_reducible refine Kd.C_alloc ?_ _) | (with_reducible refine Kd.C_drewN ?_ _) | (with_reducible refine Kd.C_drew ?_))); (case aB => exact bel_); (case aF => exact (fun k_ hk => ⟨(Nat.le_trans (below_size bel_) hk), Kd.fresh' (Kd.R_lt (rl_ HO_235002)) k_ hk, Kd.freshB (g := gb231) (o := .cells #[.int .i64 a1_0, .int .i64 a1_1, .int .i64 a1_2] 34 (0, 0)) blk_ k_ hk⟩)); (case aO => exact (by (with_reducible repeat (first | apply Kd.R_alloc | apply Kd.R_drewN | apply Kd.R_drew)); exact Kd.R_mono HO249.out (fun _ hk => ⟨hk.1.1.1, ⟨hk.1.2, hk.2⟩⟩))); (case aS => exact (below_size bel_)); (case aL => have := LMc102.out; omega); intro v251 w188 ho hb hg hat; rw [← Ny250.out] at ho; have n0_ := zM (Kd.V_afterv (ok := (fun k_ => (P2_ k_ ∨ w.heap.size ≤ k_) ∧ some k_ ≠ (u235002 : Value).ownBlock ∧ k_ ≠ gb231 ∧ k_ ≠ gb234)) (rv_ HO_2) hg hat); have n1_ := zM (Kd.V_afterv (ok := (fun k_ => (P2_ k_ ∨ w.heap.size ≤ k_) ∧ some k_ ≠ (u235002 : Value).ownBlock ∧ k_ ≠ gb231 ∧ k_ ≠ gb234)) (rv_ HO_9) hg hat); have n2_ := zM (Kd.V_afterv (ok := (fun k_ => (P2_ k_ ∨ w.heap.size ≤ k_) ∧ some k_ ≠ (u235002 : Value).ownBlock ∧ k_ ≠ gb231 ∧ k_ ≠ gb234)) (rv_ HO_11) hg hat); have n3_ := zM (Kd.V_afterv (ok := (fun k_ => (P2_ k_ ∨ w.heap.size ≤ k_) ∧ some k_ ≠ (u235002 : Value).ownBlock ∧ k_ ≠ gb231 ∧ k_ ≠ gb234)) (rv_ HO_53) hg hat); have n4_ := zM (Kd.R_after (ok := (fun k_ => (w.heap.size ≤ k_) ∧ k_ ≠ gb231)) (rl_ HO_235002) hg hat); have n5_ := zM (blk_grown (g := gb231) (o := .cells #[.int .i64 a1_0, .int .i64 a1_1, .int .i64 a1_2] 34 (0, 0)) blk_ hg (Kd.R_away HO249.out (fun _ hk => hk.2))); have n6_ := zM (blk_grown (g := gb234) (o := .cells #[.slice none 0 0, .int .i64 x235001_40, u235002] 61 (0, 0)) blk_ hg (Kd.R_ne HO249.out BK234.out (by decide))); have n7_ := zM (hb); have n8_ := zM (ho); clear HO_2; clear HO_9; clear HO_11; clear HO_53; clear HO_235002; clear BK231; clear BK234; clear HB; clear HO249; have HO_2 := n0_; have HO_9 := n1_; have HO_11 := n2_; have HO_53 := n3_; have HO_235002 := n4_; have BK231 := n5_; have BK234 := n6_; have HB := n7_; have HO252 := n8_; clear n0_ n1_ n2_ n3_ n4_ n5_ n6_ n7_ n8_; clear ho hb hg hat; obtain ⟨Ao190, co190, eo190⟩ := Kd.R_slice HO252.out; subst eo190) | ((with_reducible refine gate_callee (f := 15) rfl ?_); clear tk191; refine goL_ (some 115) Try.func15 #[.pointer (some ⟨gb234, 0, none⟩), .slice Ao190 y250.length co190] ?_; go_enter Try.func15, Try.ntmps15; have hnb192 := NB234_231.out; have hnc192 := NB231_234.out; have hcz193_0 : w188.cell? ⟨gb234, 0, none⟩ = some (.slice none 0 0) := (zL BK234.out 0).trans rfl; have hcz193_1 : w188.cell? ⟨gb234, 1, none⟩ = some (.int .i64 x235001_40) := (zL BK234.out 1).trans rfl; have hcz193_2 : w188.cell? ⟨gb234, 2, none⟩ = some (u235002) := (zL BK234.out 2).trans rfl; have hfz193_0 := zF BK234.out 0; have hfz193_1 := zF BK234.out 1; have hfz193_2 := zF BK234.out 2) | (clear tk194; (first | go_ret | go_ret2 | go_ret3 | go_end0); with_reducible refine inl_back_ ?_))
               try clear hcz193_0
               try clear hcz193_1
               try clear hcz193_2
               try clear hfz193_0
               try clear hfz193_1
               try clear hfz193_2
               try clear hnb192
               try clear hnc192
               have H' := zM H
               clear H
               go_wp2
               go_roundg kj99
               case measure => have := HJ9.out; have := HK2.out; have := HJ40.out; have := HJ80.out; have := HJ99.out; omega
               case rel => exact ⟨(wrap64 (x8_2 + 1)), (x9_99), (wrap64 (x55_2 + 1)), (4), (x235002_2), (u235002), (by first | rfl | (simp; done) | (simp [*]; done) | (simp; grind)), (by first | rfl | (simp; done) | (simp [*]; done) | (simp; grind)), H', ⟨by have := HJ9.out; have := HK2.out; have := HJ40.out; have := HJ80.out; have := HJ99.out; omega⟩, ⟨by (with_reducible repeat (first | apply Kd.V_alloc | apply Kd.V_drewN | apply Kd.V_drew)); exact Kd.V_mono (Kd.V_far (p := ⟨gb234, 1, none⟩) (Kd.V_mono HO_2.out (fun k_ hk => (⟨hk, hk.1.2.2.2⟩ : _ ∧ k_ ≠ gb234))) (fun _ hk => hk.2) (.int .i64 4)) (fun _ hk => ⟨hk.1.1.1, ⟨hk.1.1.2.1, ⟨hk.1.1.2.2.1, hk.1.1.2.2.2⟩⟩⟩)⟩, ⟨by (with_reducible repeat (first | apply Kd.V_alloc | apply Kd.V_drewN | apply Kd.V_drew)); exact Kd.V_mono (Kd.V_far (p := ⟨gb234, 1, none⟩) (Kd.V_mono HO_9.out (fun k_ hk => (⟨hk, hk.1.2.2.2⟩ : _ ∧ k_ ≠ gb234))) (fun _ hk => hk.2) (.int .i64 4)) (fun _ hk => ⟨hk.1.1.1, ⟨hk.1.1.2.1, ⟨hk.1.1.2.2.1, hk.1.1.2.2.2⟩⟩⟩)⟩, ⟨by (with_reducible repeat (first | apply Kd.V_alloc | apply Kd.V_drewN | apply Kd.V_drew)); exact Kd.V_mono (Kd.V_far (p := ⟨gb234, 1, none⟩) (Kd.V_mono HO_53.out (fun k_ hk => (⟨hk, hk.1.2.2.2⟩ : _ ∧ k_ ≠ gb234))) (fun _ hk => hk.2) (.int .i64 4)) (fun _ hk => ⟨hk.1.1.1, ⟨hk.1.1.2.1, ⟨hk.1.1.2.2.1, hk.1.1.2.2.2⟩⟩⟩)⟩, ⟨by (with_reducible repeat (first | apply Kd.R_alloc | apply Kd.R_drewN | apply Kd.R_drew)); exact Kd.R_mono (Kd.R_far (p := ⟨gb234, 1, none⟩) (Kd.R_types HO_235002.out BK234.out (by decide)) (fun _ hk => hk.2) (.int .i64 4)) (fun _ hk => ⟨hk.1.1.1, hk.1.1.2⟩)⟩, ⟨blf_⟩, ⟨by (with_reducible repeat (first | refine zN ?_ _ | refine zD ?_ | refine zA ?_ _)); refine blk_put (cs := #[.slice none 0 0, .int .i64 x235001_40, u235002]) ?_ 1 _ rfl; (with_reducible repeat (first | refine zN ?_ _ | refine zD ?_ | refine zA ?_ _)); exact BK234.out⟩, ⟨bel_⟩⟩
             rw [if_pos c137] at H
             have c137b0 : (x235001_40 == 2) = true := beq_iff_eq.mpr c137
             have c137b1 : (x235001_40 != 2) = false := bne_eq_false_iff_eq.mpr c137
             clear c137
             replace H := Option.bind_eq_some_iff.mp H
             obtain ⟨t256, A1380, H⟩ := H
             replace H : (if (y250.length : Int) = 0 then (ropewaylaw15_SnapEnds_f.l0 kj99 l2 (wrap64 (x8_2 + 1)) x9_99 l2 (l2.length : Int) (wrap64 (x55_2 + 1)) 4 t256) else (ropewaylaw15_SnapEnds_f.l0 kj99 l2 (wrap64 (x8_2 + 1)) x9_99 l2 (l2.length : Int) (wrap64 (x55_2 + 1)) (wrap64 (x235001_40 + 1)) t256)) = some r := H
             have A138 := zM A1380
             clear A1380
             by_cases c139 : (y250.length : Int) = 0
             rotate_left
             · rw [if_neg c139] at H
               have c139b0 : ((y250.length : Int) == 0) = false := beq_eq_false_iff_ne.mpr c139
               have c139b1 : ((y250.length : Int) != 0) = true := bne_iff_ne.mpr c139
               have c139b2 : ¬ (y250 = []) := fun h_ => c139 (by rw [h_]; rfl)
               have tk159 : True := trivial
               have tk161 : True := trivial
               have tk163 : True := trivial
               have tk167 : True := trivial
               have tk170 : True := trivial
               go_upto_region 22 with (first | ((with_reducible refine gate_dst (N := 112) rfl ?_); clear tk159; (try (refine gate_guard (by rfl) ?_; dsimp only)); refine Kd.R_lit k34 _ 34 ?hg (N := 112) ?hd (xs := ([] : List (S34))) (inner := []) (ok := fun _ => True) (okp := fun _ => True) ?hr ?hp (fun _ hk => hk) trivial (Below.refl _ _) (Nat.le_refl _) (by simp) ?_; (case hd => rfl); (case hg => rfl); (case hr => first | (go_simp; done) | (go_simp; rfl)); (case hp => exact (Reps.none _ _)); intro v248 w157 ho158 hb hg_ hnew_; clear hg_ hnew_; (first | rw [← Ny247.out] at ho158 | (simp only [Int.reduceToNat] at ho158; rw [← Ny247.out] at ho158)); replace HO_2 := zM (Kd.V_elder' (rv_ HO_2) (Kd.R_base ho158) hb); replace HO_9 := zM (Kd.V_elder' (rv_ HO_9) (Kd.R_base ho158) hb); replace HO_11 := zM (Kd.V_elder' (rv_ HO_11) (Kd.R_base ho158) hb); replace HO_53 := zM (Kd.V_elder' (rv_ HO_53) (Kd.R_base ho158) hb); have HO249 := zM (Kd.R_lower (Kd.R_newB (Kd.R_new' (Kd.R_newM (M := fun k_ => (w.heap.size ≤ k_)) ho158 (below_size bel_) (fun k_ h_ => h_)) (Kd.R_lt (rl_ HO_235002))) (g := gb231) (o := .cells #[.int .i64 a1_0, .int .i64 a1_1, .int .i64 a1_2] 34 (0, 0)) blk_) (below_size bel_)); replace HO_235002 := zM (Kd.R_elder' (rl_ HO_235002) (Kd.R_base ho158) hb); replace BK231 := zM (bb_ BK231 hb); replace BK234 := zM (bb_ BK234 hb); replace HR238_0 := zM (Kd.C_below (cv_ HR238_0) hb); replace HB := zM (zB bel_ hb); clear hb ho158) | ((with_reducible refine gate_builtin (b := .append) (xs := #[.tmp 112, .tmp 113]) rfl ?_); clear tk161; (try (refine gate_guard (by rfl) ?_; dsimp only)); at_builtin; refine Kd.R_append_rows k34 (w0 := w) w.heap.size rfl (.tmp 112) (.tmp 113) 27 34 (.agg #[(.int .i64 0), (.int .i64 0), (.int .i64 0)]) 24 rfl Try.underlying27 info34 rfl (by decide) (by omega) v248 y247 (rd_L3 l2 x55_2) _ _ _ (fun k_ => (w.heap.size ≤ k_) ∧ some k_ ≠ (u235002 : Value).ownBlock ∧ k_ ≠ gb231) (fun _ => False) rfl rfl ?aO ?aR (fun _ _ h => h) (fun _ h => h.elim) ?aF ?aB ?aS ?aL ?_; (case aR => repeat (first | exact (Kd.V_reads' HO_11.out).2.2 | (with_reducible refine Kd.C_alloc ?_ _) | (with_reducible refine Kd.C_drewN ?_ _) | (with_reducible refine Kd.C_drew ?_))); (case aB => exact bel_); (case aF => exact (fun k_ hk => ⟨(Nat.le_trans (below_size bel_) hk), Kd.fresh' (Kd.R_lt (rl_ HO_235002)) k_ hk, Kd.freshB (g := gb231) (o := .cells #[.int .i64 a1_0, .int .i64 a1_1, .int .i64 a1_2] 34 (0, 0)) blk_ k_ hk⟩)); (case aO => exact (by (with_reducible repeat (first | apply Kd.R_alloc | apply Kd.R_drewN | apply Kd.R_drew)); exact Kd.R_mono HO249.out (fun _ hk => ⟨hk.1.1.1, ⟨hk.1.2, hk.2⟩⟩))); (case aS => exact (below_size bel_)); (case aL => have := LMc102.out; omega); intro v251 w160 ho hb hg hat; rw [← Ny250.out] at ho; have n0_ := zM (Kd.V_afterv (ok := (fun k_ => (P2_ k_ ∨ w.heap.size ≤ k_) ∧ some k_ ≠ (u235002 : Value).ownBlock ∧ k_ ≠ gb231 ∧ k_ ≠ gb234)) (rv_ HO_2) hg hat); have n1_ := zM (Kd.V_afterv (ok := (fun k_ => (P2_ k_ ∨ w.heap.size ≤ k_) ∧ some k_ ≠ (u235002 : Value).ownBlock ∧ k_ ≠ gb231 ∧ k_ ≠ gb234)) (rv_ HO_9) hg hat); have n2_ := zM (Kd.V_afterv (ok := (fun k_ => (P2_ k_ ∨ w.heap.size ≤ k_) ∧ some k_ ≠ (u235002 : Value).ownBlock ∧ k_ ≠ gb231 ∧ k_ ≠ gb234)) (rv_ HO_11) hg hat); have n3_ := zM (Kd.V_afterv (ok := (fun k_ => (P2_ k_ ∨ w.heap.size ≤ k_) ∧ some k_ ≠ (u235002 : Value).ownBlock ∧ k_ ≠ gb231 ∧ k_ ≠ gb234)) (rv_ HO_53) hg hat); have n4_ := zM (Kd.R_after (ok := (fun k_ => (w.heap.size ≤ k_) ∧ k_ ≠ gb231)) (rl_ HO_235002) hg hat); have n5_ := zM (blk_grown (g := gb231) (o := .cells #[.int .i64 a1_0, .int .i64 a1_1, .int .i64 a1_2] 34 (0, 0)) blk_ hg (Kd.R_away HO249.out (fun _ hk => hk.2))); have n6_ := zM (blk_grown (g := gb234) (o := .cells #[.slice none 0 0, .int .i64 x235001_40, u235002] 61 (0, 0)) blk_ hg (Kd.R_ne HO249.out BK234.out (by decide))); have n7_ := zM (hb); have n8_ := zM (ho); clear HO_2; clear HO_9; clear HO_11; clear HO_53; clear HO_235002; clear BK231; clear BK234; clear HB; clear HO249; have HO_2 := n0_; have HO_9 := n1_; have HO_11 := n2_; have HO_53 := n3_; have HO_235002 := n4_; have BK231 := n5_; have BK234 := n6_; have HB := n7_; have HO252 := n8_; clear n0_ n1_ n2_ n3_ n4_ n5_ n6_ n7_ n8_; clear ho hb hg hat; obtain ⟨Ao162, co162, eo162⟩ := Kd.R_slice HO252.out; subst eo162) | ((with_reducible refine gate_callee (f := 15) rfl ?_); clear tk163; refine goL_ (some 115) Try.func15 #[.pointer (some ⟨gb234, 0, none⟩), .slice Ao162 y250.length co162] ?_; go_enter Try.func15, Try.ntmps15; have hnb164 := NB234_231.out; have hnc164 := NB231_234.out; have hcz165_0 : w160.cell? ⟨gb234, 0, none⟩ = some (.slice none 0 0) := (zL BK234.out 0).trans rfl; have hcz165_1 : w160.cell? ⟨gb234, 1, none⟩ = some (.int .i64 x235001_40) := (zL BK234.out 1).trans rfl; have hcz165_2 : w160.cell? ⟨gb234, 2, none⟩ = some (u235002) := (zL BK234.out 2).trans rfl; have hfz165_0 := zF BK234.out 0; have hfz165_1 := zF BK234.out 1; have hfz165_2 := zF BK234.out 2) | (go_at_call 25; (with_reducible refine (api_Cell.calls _ _ y250 t256 _ ?side1 ?side2 A138.out).mono ?_); (case side1 => repeat (first | exact (Kd.R_reads' HO252.out).2.2 | (with_reducible refine Kd.C_alloc ?_ _) | (with_reducible refine Kd.C_drewN ?_ _) | (with_reducible refine Kd.C_drew ?_))); (case side2 => exact (Kd.R_reads' HO252.out).2.1); clear tk167; rintro e w166 ⟨v257, rfl, ho0, hb⟩; replace HO_2 := zM (Kd.V_elder' (rv_ HO_2) (Kd.R_base ho0) hb); replace HO_9 := zM (Kd.V_elder' (rv_ HO_9) (Kd.R_base ho0) hb); replace HO_11 := zM (Kd.V_elder' (rv_ HO_11) (Kd.R_base ho0) hb); replace HO_53 := zM (Kd.V_elder' (rv_ HO_53) (Kd.R_base ho0) hb); have HO258 := zM (Kd.R_lower (Kd.R_newB (Kd.R_new' (Kd.R_new' (Kd.R_newM (M := fun k_ => (w.heap.size ≤ k_)) ho0 (below_size bel_) (fun k_ h_ => h_)) (Kd.R_lt (rl_ HO_235002))) (Kd.R_lt (rl_ HO252))) (g := gb231) (o := .cells #[.int .i64 a1_0, .int .i64 a1_1, .int .i64 a1_2] 34 (0, 0)) blk_) (below_size bel_)); replace HO_235002 := zM (Kd.R_elder' (rl_ HO_235002) (Kd.R_base ho0) hb); replace HO252 := zM (Kd.R_elder' (rl_ HO252) (Kd.R_base ho0) hb); replace BK231 := zM (bb_ BK231 hb); replace BK234 := zM (bb_ BK234 hb); replace HB := zM (zB bel_ hb); (try clear hb); (try clear ho0); obtain ⟨Ao168, co168, eo168⟩ := Kd.R_slice HO258.out; subst eo168; have hcz169_0 : w166.cell? ⟨gb234, 0, none⟩ = some (.slice none 0 0) := (zL BK234.out 0).trans rfl; have hcz169_1 : w166.cell? ⟨gb234, 1, none⟩ = some (.int .i64 x235001_40) := (zL BK234.out 1).trans rfl; have hcz169_2 : w166.cell? ⟨gb234, 2, none⟩ = some (u235002) := (zL BK234.out 2).trans rfl; have hfz169_0 := zF BK234.out 0; have hfz169_1 := zF BK234.out 1; have hfz169_2 := zF BK234.out 2) | (clear tk170; (first | go_ret | go_ret2 | go_ret3 | go_end0); with_reducible refine inl_back_ ?_))
               try clear hcz165_0
               try clear hcz165_1
               try clear hcz165_2
               try clear hcz169_0
               try clear hcz169_1
               try clear hcz169_2
               try clear hfz165_0
               try clear hfz165_1
               try clear hfz165_2
               try clear hfz169_0
               try clear hfz169_1
               try clear hfz169_2
               try clear hnb164
               try clear hnc164
               have H' := zM H
               clear H
               go_wp2
               go_roundg kj99
               case measure => have := HJ9.out; have := HK2.out; have := HJ40.out; have := HJ80.out; have := HJ99.out; omega
               case rel => exact ⟨(wrap64 (x8_2 + 1)), (x9_99), (wrap64 (x55_2 + 1)), (wrap64 (x235001_40 + 1)), (t256), (.slice Ao168 t256.length co168), (by first | rfl | (simp; done) | (simp [*]; done) | (simp; grind)), (by first | rfl | (simp; done) | (simp [*]; done) | (simp; grind)), H', ⟨by have := HJ9.out; have := HK2.out; have := HJ40.out; have := HJ80.out; have := HJ99.out; omega⟩, ⟨by (with_reducible repeat (first | apply Kd.V_alloc | apply Kd.V_drewN | apply Kd.V_drew)); exact Kd.V_mono (Kd.V_far (p := ⟨gb234, 1, none⟩) (Kd.V_far (p := ⟨gb234, 2, none⟩) (Kd.V_mono HO_2.out (fun k_ hk => (⟨hk, hk.1.1.2.2.2⟩ : _ ∧ k_ ≠ gb234))) (fun _ hk => hk.2) (.slice Ao168 t256.length co168)) (fun _ hk => hk.2) (.int .i64 (wrap64 (x235001_40 + 1)))) (fun _ hk => ⟨hk.1.1.1.1, ⟨hk.1.2, ⟨hk.1.1.1.2.2.1, hk.1.1.1.2.2.2⟩⟩⟩)⟩, ⟨by (with_reducible repeat (first | apply Kd.V_alloc | apply Kd.V_drewN | apply Kd.V_drew)); exact Kd.V_mono (Kd.V_far (p := ⟨gb234, 1, none⟩) (Kd.V_far (p := ⟨gb234, 2, none⟩) (Kd.V_mono HO_9.out (fun k_ hk => (⟨hk, hk.1.1.2.2.2⟩ : _ ∧ k_ ≠ gb234))) (fun _ hk => hk.2) (.slice Ao168 t256.length co168)) (fun _ hk => hk.2) (.int .i64 (wrap64 (x235001_40 + 1)))) (fun _ hk => ⟨hk.1.1.1.1, ⟨hk.1.2, ⟨hk.1.1.1.2.2.1, hk.1.1.1.2.2.2⟩⟩⟩)⟩, ⟨by (with_reducible repeat (first | apply Kd.V_alloc | apply Kd.V_drewN | apply Kd.V_drew)); exact Kd.V_mono (Kd.V_far (p := ⟨gb234, 1, none⟩) (Kd.V_far (p := ⟨gb234, 2, none⟩) (Kd.V_mono HO_53.out (fun k_ hk => (⟨hk, hk.1.1.2.2.2⟩ : _ ∧ k_ ≠ gb234))) (fun _ hk => hk.2) (.slice Ao168 t256.length co168)) (fun _ hk => hk.2) (.int .i64 (wrap64 (x235001_40 + 1)))) (fun _ hk => ⟨hk.1.1.1.1, ⟨hk.1.2, ⟨hk.1.1.1.2.2.1, hk.1.1.1.2.2.2⟩⟩⟩)⟩, ⟨by (with_reducible repeat (first | apply Kd.R_alloc | apply Kd.R_drewN | apply Kd.R_drew)); exact Kd.R_mono (Kd.R_far (p := ⟨gb234, 1, none⟩) (Kd.R_far (p := ⟨gb234, 2, none⟩) (Kd.R_types HO258.out BK234.out (by decide)) (fun _ hk => hk.2) (.slice Ao168 t256.length co168)) (fun _ hk => hk.2) (.int .i64 (wrap64 (x235001_40 + 1)))) (fun _ hk => ⟨hk.1.1.1.1.1, hk.1.2⟩)⟩, ⟨blf_⟩, ⟨by (with_reducible repeat (first | refine zN ?_ _ | refine zD ?_ | refine zA ?_ _)); refine blk_put (cs := #[.slice none 0 0, .int .i64 x235001_40, .slice Ao168 t256.length co168]) ?_ 1 _ rfl; (with_reducible repeat (first | refine zN ?_ _ | refine zD ?_ | refine zA ?_ _)); refine blk_put (cs := #[.slice none 0 0, .int .i64 x235001_40, u235002]) ?_ 2 _ rfl; (with_reducible repeat (first | refine zN ?_ _ | refine zD ?_ | refine zA ?_ _)); exact BK234.out⟩, ⟨bel_⟩⟩
             rw [if_pos c139] at H
             have c139b0 : ((y250.length : Int) == 0) = true := beq_iff_eq.mpr c139
             have c139b1 : ((y250.length : Int) != 0) = false := bne_eq_false_iff_eq.mpr c139
             clear c139
             have tk142 : True := trivial
             have tk144 : True := trivial
             have tk146 : True := trivial
             have tk150 : True := trivial
             have tk153 : True := trivial
             have tk154 : True := trivial
             have tk156 : True := trivial
             go_upto_region 22 with (first | ((with_reducible refine gate_dst (N := 112) rfl ?_); clear tk142; (try (refine gate_guard (by rfl) ?_; dsimp only)); refine Kd.R_lit k34 _ 34 ?hg (N := 112) ?hd (xs := ([] : List (S34))) (inner := []) (ok := fun _ => True) (okp := fun _ => True) ?hr ?hp (fun _ hk => hk) trivial (Below.refl _ _) (Nat.le_refl _) (by simp) ?_; (case hd => rfl); (case hg => rfl); (case hr => first | (go_simp; done) | (go_simp; rfl)); (case hp => exact (Reps.none _ _)); intro v248 w140 ho141 hb hg_ hnew_; clear hg_ hnew_; (first | rw [← Ny247.out] at ho141 | (simp only [Int.reduceToNat] at ho141; rw [← Ny247.out] at ho141)); replace HO_2 := zM (Kd.V_elder' (rv_ HO_2) (Kd.R_base ho141) hb); replace HO_9 := zM (Kd.V_elder' (rv_ HO_9) (Kd.R_base ho141) hb); replace HO_11 := zM (Kd.V_elder' (rv_ HO_11) (Kd.R_base ho141) hb); replace HO_53 := zM (Kd.V_elder' (rv_ HO_53) (Kd.R_base ho141) hb); have HO249 := zM (Kd.R_lower (Kd.R_newB (Kd.R_new' (Kd.R_newM (M := fun k_ => (w.heap.size ≤ k_)) ho141 (below_size bel_) (fun k_ h_ => h_)) (Kd.R_lt (rl_ HO_235002))) (g := gb231) (o := .cells #[.int .i64 a1_0, .int .i64 a1_1, .int .i64 a1_2] 34 (0, 0)) blk_) (below_size bel_)); replace HO_235002 := zM (Kd.R_elder' (rl_ HO_235002) (Kd.R_base ho141) hb); replace BK231 := zM (bb_ BK231 hb); replace BK234 := zM (bb_ BK234 hb); replace HR238_0 := zM (Kd.C_below (cv_ HR238_0) hb); replace HB := zM (zB bel_ hb); clear hb ho141) | ((with_reducible refine gate_builtin (b := .append) (xs := #[.tmp 112, .tmp 113]) rfl ?_); clear tk144; (try (refine gate_guard (by rfl) ?_; dsimp only)); at_builtin; refine Kd.R_append_rows k34 (w0 := w) w.heap.size rfl (.tmp 112) (.tmp 113) 27 34 (.agg #[(.int .i64 0), (.int .i64 0), (.int .i64 0)]) 24 rfl Try.underlying27 info34 rfl (by decide) (by omega) v248 y247 (rd_L3 l2 x55_2) _ _ _ (fun k_ => (w.heap.size ≤ k_) ∧ some k_ ≠ (u235002 : Value).ownBlock ∧ k_ ≠ gb231) (fun _ => False) rfl rfl ?aO ?aR (fun _ _ h => h) (fun _ h => h.elim) ?aF ?aB ?aS ?aL ?_; (case aR => repeat (first | exact (Kd.V_reads' HO_11.out).2.2 | (with_reducible refine Kd.C_alloc ?_ _) | (with_reducible refine Kd.C_drewN ?_ _) | (with_reducible refine Kd.C_drew ?_))); (case aB => exact bel_); (case aF => exact (fun k_ hk => ⟨(Nat.le_trans (below_size bel_) hk), Kd.fresh' (Kd.R_lt (rl_ HO_235002)) k_ hk, Kd.freshB (g := gb231) (o := .cells #[.int .i64 a1_0, .int .i64 a1_1, .int .i64 a1_2] 34 (0, 0)) blk_ k_ hk⟩)); (case aO => exact (by (with_reducible repeat (first | apply Kd.R_alloc | apply Kd.R_drewN | apply Kd.R_drew)); exact Kd.R_mono HO249.out (fun _ hk => ⟨hk.1.1.1, ⟨hk.1.2, hk.2⟩⟩))); (case aS => exact (below_size bel_)); (case aL => have := LMc102.out; omega); intro v251 w143 ho hb hg hat; rw [← Ny250.out] at ho; have n0_ := zM (Kd.V_afterv (ok := (fun k_ => (P2_ k_ ∨ w.heap.size ≤ k_) ∧ some k_ ≠ (u235002 : Value).ownBlock ∧ k_ ≠ gb231 ∧ k_ ≠ gb234)) (rv_ HO_2) hg hat); have n1_ := zM (Kd.V_afterv (ok := (fun k_ => (P2_ k_ ∨ w.heap.size ≤ k_) ∧ some k_ ≠ (u235002 : Value).ownBlock ∧ k_ ≠ gb231 ∧ k_ ≠ gb234)) (rv_ HO_9) hg hat); have n2_ := zM (Kd.V_afterv (ok := (fun k_ => (P2_ k_ ∨ w.heap.size ≤ k_) ∧ some k_ ≠ (u235002 : Value).ownBlock ∧ k_ ≠ gb231 ∧ k_ ≠ gb234)) (rv_ HO_11) hg hat); have n3_ := zM (Kd.V_afterv (ok := (fun k_ => (P2_ k_ ∨ w.heap.size ≤ k_) ∧ some k_ ≠ (u235002 : Value).ownBlock ∧ k_ ≠ gb231 ∧ k_ ≠ gb234)) (rv_ HO_53) hg hat); have n4_ := zM (Kd.R_after (ok := (fun k_ => (w.heap.size ≤ k_) ∧ k_ ≠ gb231)) (rl_ HO_235002) hg hat); have n5_ := zM (blk_grown (g := gb231) (o := .cells #[.int .i64 a1_0, .int .i64 a1_1, .int .i64 a1_2] 34 (0, 0)) blk_ hg (Kd.R_away HO249.out (fun _ hk => hk.2))); have n6_ := zM (blk_grown (g := gb234) (o := .cells #[.slice none 0 0, .int .i64 x235001_40, u235002] 61 (0, 0)) blk_ hg (Kd.R_ne HO249.out BK234.out (by decide))); have n7_ := zM (hb); have n8_ := zM (ho); clear HO_2; clear HO_9; clear HO_11; clear HO_53; clear HO_235002; clear BK231; clear BK234; clear HB; clear HO249; have HO_2 := n0_; have HO_9 := n1_; have HO_11 := n2_; have HO_53 := n3_; have HO_235002 := n4_; have BK231 := n5_; have BK234 := n6_; have HB := n7_; have HO252 := n8_; clear n0_ n1_ n2_ n3_ n4_ n5_ n6_ n7_ n8_; clear ho hb hg hat; obtain ⟨Ao145, co145, eo145⟩ := Kd.R_slice HO252.out; subst eo145) | ((with_reducible refine gate_callee (f := 15) rfl ?_); clear tk146; refine goL_ (some 115) Try.func15 #[.pointer (some ⟨gb234, 0, none⟩), .slice Ao145 y250.length co145] ?_; go_enter Try.func15, Try.ntmps15; have hnb147 := NB234_231.out; have hnc147 := NB231_234.out; have hcz148_0 : w143.cell? ⟨gb234, 0, none⟩ = some (.slice none 0 0) := (zL BK234.out 0).trans rfl; have hcz148_1 : w143.cell? ⟨gb234, 1, none⟩ = some (.int .i64 x235001_40) := (zL BK234.out 1).trans rfl; have hcz148_2 : w143.cell? ⟨gb234, 2, none⟩ = some (u235002) := (zL BK234.out 2).trans rfl; have hfz148_0 := zF BK234.out 0; have hfz148_1 := zF BK234.out 1; have hfz148_2 := zF BK234.out 2) | (go_at_call 25; (with_reducible refine (api_Cell.calls _ _ y250 t256 _ ?side1 ?side2 A138.out).mono ?_); (case side1 => repeat (first | exact (Kd.R_reads' HO252.out).2.2 | (with_reducible refine Kd.C_alloc ?_ _) | (with_reducible refine Kd.C_drewN ?_ _) | (with_reducible refine Kd.C_drew ?_))); (case side2 => exact (Kd.R_reads' HO252.out).2.1); clear tk150; rintro e w149 ⟨v257, rfl, ho0, hb⟩; replace HO_2 := zM (Kd.V_elder' (rv_ HO_2) (Kd.R_base ho0) hb); replace HO_9 := zM (Kd.V_elder' (rv_ HO_9) (Kd.R_base ho0) hb); replace HO_11 := zM (Kd.V_elder' (rv_ HO_11) (Kd.R_base ho0) hb); replace HO_53 := zM (Kd.V_elder' (rv_ HO_53) (Kd.R_base ho0) hb); have HO258 := zM (Kd.R_lower (Kd.R_newB (Kd.R_new' (Kd.R_new' (Kd.R_newM (M := fun k_ => (w.heap.size ≤ k_)) ho0 (below_size bel_) (fun k_ h_ => h_)) (Kd.R_lt (rl_ HO_235002))) (Kd.R_lt (rl_ HO252))) (g := gb231) (o := .cells #[.int .i64 a1_0, .int .i64 a1_1, .int .i64 a1_2] 34 (0, 0)) blk_) (below_size bel_)); replace HO_235002 := zM (Kd.R_elder' (rl_ HO_235002) (Kd.R_base ho0) hb); replace HO252 := zM (Kd.R_elder' (rl_ HO252) (Kd.R_base ho0) hb); replace BK231 := zM (bb_ BK231 hb); replace BK234 := zM (bb_ BK234 hb); replace HB := zM (zB bel_ hb); (try clear hb); (try clear ho0); obtain ⟨Ao151, co151, eo151⟩ := Kd.R_slice HO258.out; subst eo151; have hcz152_0 : w149.cell? ⟨gb234, 0, none⟩ = some (.slice none 0 0) := (zL BK234.out 0).trans rfl; have hcz152_1 : w149.cell? ⟨gb234, 1, none⟩ = some (.int .i64 x235001_40) := (zL BK234.out 1).trans rfl; have hcz152_2 : w149.cell? ⟨gb234, 2, none⟩ = some (u235002) := (zL BK234.out 2).trans rfl; have hfz152_0 := zF BK234.out 0; have hfz152_1 := zF BK234.out 1; have hfz152_2 := zF BK234.out 2) | (go_at_call 26; clear tk153; go_enter Try.func26, Try.ntmps26) | (clear tk154; (first | go_ret | go_ret2 | go_ret3 | go_end0); simp only []; go_at_K; have hcy155 : (((w149.setCell ⟨gb234, 2, none⟩ (.slice Ao151 t256.length co151)).setCell ⟨gb234, 1, none⟩ (.int .i64 (wrap64 (x235001_40 + 1)))).setCell ⟨gb234, 1, none⟩ (.int .i64 4)).cell? ⟨gb234, 1, none⟩ = some (.int .i64 4) := (zL (show (((w149.setCell ⟨gb234, 2, none⟩ (.slice Ao151 t256.length co151)).setCell ⟨gb234, 1, none⟩ (.int .i64 (wrap64 (x235001_40 + 1)))).setCell ⟨gb234, 1, none⟩ (.int .i64 4)).heap[gb234]? = some (.cells #[.slice none 0 0, .int .i64 4, .slice Ao151 t256.length co151] 61 (0, 0)) from by (with_reducible repeat (first | refine zN ?_ _ | refine zD ?_ | refine zA ?_ _)); refine blk_put (cs := #[.slice none 0 0, .int .i64 (wrap64 (x235001_40 + 1)), .slice Ao151 t256.length co151]) ?_ 1 _ rfl; (with_reducible repeat (first | refine zN ?_ _ | refine zD ?_ | refine zA ?_ _)); refine blk_put (cs := #[.slice none 0 0, .int .i64 x235001_40, .slice Ao151 t256.length co151]) ?_ 1 _ rfl; (with_reducible repeat (first | refine zN ?_ _ | refine zD ?_ | refine zA ?_ _)); refine blk_put (cs := #[.slice none 0 0, .int .i64 x235001_40, u235002]) ?_ 2 _ rfl; (with_reducible repeat (first | refine zN ?_ _ | refine zD ?_ | refine zA ?_ _)); exact BK234.out) 1).trans rfl) | (clear tk156; (first | go_ret | go_ret2 | go_ret3 | go_end0); with_reducible refine inl_back_ ?_))
             try clear hcz148_0
             try clear hcz148_1
             try clear hcz148_2
             try clear hcz152_0
             try clear hcz152_1
             try clear hcz152_2
             try clear hfz148_0
             try clear hfz148_1
             try clear hfz148_2
             try clear hfz152_0
             try clear hfz152_1
             try clear hfz152_2
             try clear hnb147
             try clear hnc147
             have H' := zM H
             clear H
             go_wp2
             go_roundg kj99
             case measure => have := HJ9.out; have := HK2.out; have := HJ40.out; have := HJ80.out; have := HJ99.out; omega
             case rel => exact ⟨(wrap64 (x8_2 + 1)), (x9_99), (wrap64 (x55_2 + 1)), (4), (t256), (.slice Ao151 t256.length co151), (by first | rfl | (simp; done) | (simp [*]; done) | (simp; grind)), (by first | rfl | (simp; done) | (simp [*]; done) | (simp; grind)), H', ⟨by have := HJ9.out; have := HK2.out; have := HJ40.out; have := HJ80.out; have := HJ99.out; omega⟩, ⟨by (with_reducible repeat (first | apply Kd.V_alloc | apply Kd.V_drewN | apply Kd.V_drew)); exact Kd.V_mono (Kd.V_far (p := ⟨gb234, 1, none⟩) (Kd.V_far (p := ⟨gb234, 1, none⟩) (Kd.V_far (p := ⟨gb234, 2, none⟩) (Kd.V_mono HO_2.out (fun k_ hk => (⟨hk, hk.1.1.2.2.2⟩ : _ ∧ k_ ≠ gb234))) (fun _ hk => hk.2) (.slice Ao151 t256.length co151)) (fun _ hk => hk.2) (.int .i64 (wrap64 (x235001_40 + 1)))) (fun _ hk => hk.2) (.int .i64 4)) (fun _ hk => ⟨hk.1.1.1.1, ⟨hk.1.2, ⟨hk.1.1.1.2.2.1, hk.1.1.1.2.2.2⟩⟩⟩)⟩, ⟨by (with_reducible repeat (first | apply Kd.V_alloc | apply Kd.V_drewN | apply Kd.V_drew)); exact Kd.V_mono (Kd.V_far (p := ⟨gb234, 1, none⟩) (Kd.V_far (p := ⟨gb234, 1, none⟩) (Kd.V_far (p := ⟨gb234, 2, none⟩) (Kd.V_mono HO_9.out (fun k_ hk => (⟨hk, hk.1.1.2.2.2⟩ : _ ∧ k_ ≠ gb234))) (fun _ hk => hk.2) (.slice Ao151 t256.length co151)) (fun _ hk => hk.2) (.int .i64 (wrap64 (x235001_40 + 1)))) (fun _ hk => hk.2) (.int .i64 4)) (fun _ hk => ⟨hk.1.1.1.1, ⟨hk.1.2, ⟨hk.1.1.1.2.2.1, hk.1.1.1.2.2.2⟩⟩⟩)⟩, ⟨by (with_reducible repeat (first | apply Kd.V_alloc | apply Kd.V_drewN | apply Kd.V_drew)); exact Kd.V_mono (Kd.V_far (p := ⟨gb234, 1, none⟩) (Kd.V_far (p := ⟨gb234, 1, none⟩) (Kd.V_far (p := ⟨gb234, 2, none⟩) (Kd.V_mono HO_53.out (fun k_ hk => (⟨hk, hk.1.1.2.2.2⟩ : _ ∧ k_ ≠ gb234))) (fun _ hk => hk.2) (.slice Ao151 t256.length co151)) (fun _ hk => hk.2) (.int .i64 (wrap64 (x235001_40 + 1)))) (fun _ hk => hk.2) (.int .i64 4)) (fun _ hk => ⟨hk.1.1.1.1, ⟨hk.1.2, ⟨hk.1.1.1.2.2.1, hk.1.1.1.2.2.2⟩⟩⟩)⟩, ⟨by (with_reducible repeat (first | apply Kd.R_alloc | apply Kd.R_drewN | apply Kd.R_drew)); exact Kd.R_mono (Kd.R_far (p := ⟨gb234, 1, none⟩) (Kd.R_far (p := ⟨gb234, 1, none⟩) (Kd.R_far (p := ⟨gb234, 2, none⟩) (Kd.R_types HO258.out BK234.out (by decide)) (fun _ hk => hk.2) (.slice Ao151 t256.length co151)) (fun _ hk => hk.2) (.int .i64 (wrap64 (x235001_40 + 1)))) (fun _ hk => hk.2) (.int .i64 4)) (fun _ hk => ⟨hk.1.1.1.1.1, hk.1.2⟩)⟩, ⟨blf_⟩, ⟨by (with_reducible repeat (first | refine zN ?_ _ | refine zD ?_ | refine zA ?_ _)); refine blk_put (cs := #[.slice none 0 0, .int .i64 (wrap64 (x235001_40 + 1)), .slice Ao151 t256.length co151]) ?_ 1 _ rfl; (with_reducible repeat (first | refine zN ?_ _ | refine zD ?_ | refine zA ?_ _)); refine blk_put (cs := #[.slice none 0 0, .int .i64 x235001_40, .slice Ao151 t256.length co151]) ?_ 1 _ rfl; (with_reducible repeat (first | refine zN ?_ _ | refine zD ?_ | refine zA ?_ _)); refine blk_put (cs := #[.slice none 0 0, .int .i64 x235001_40, u235002]) ?_ 2 _ rfl; (with_reducible repeat (first | refine zN ?_ _ | refine zD ?_ | refine zA ?_ _)); exact BK234.out⟩, ⟨bel_⟩⟩
    case rest =>
     clear HC33
     try clear c2
     try clear c7
     try clear c11
     try clear c11b0
     try clear c11b1
     try clear c12
     try clear c12b0
     try clear c14
     try clear c14b0
     try clear c17
     try clear c25
     try clear c34
     try clear c34b0
     try clear c35
     try clear c35b0
     try clear c36
     try clear c36b0
     try clear c38
     try clear c38b0
     try clear c38b1
     try clear c42
     try clear c42b0
     try clear c42b1
     try clear c47
     try clear c47b0
     try clear c47b1
     try clear c52
     try clear c52b0
     try clear c52b1
     try clear c57
     try clear c57b0
     try clear c57b1
     try clear c80
     try clear c82
     try clear c82b0
     try clear c82b1
     try clear c83
     try clear c83b0
     try clear c83b1
     try clear c85
     try clear c86
     try clear c86b0
     try clear c86b1
     try clear c86b2
     try clear c96
     try clear c96b0
     try clear c96b1
     try clear c96b2
     try clear c99
     try clear c101
     try clear c101b0
     try clear c101b1
     try clear c102
     try clear c103
     try clear c103b0
     try clear c103b1
     try clear c105
     try clear c105b0
     try clear c105b1
     try clear c105b2
     try clear c137
     try clear c137b0
     try clear c137b1
     try clear c139
     try clear c139b0
     try clear c139b1
     try clear c139b2
     try clear c171
     try clear c171b0
     try clear c171b1
     try clear c184
     try clear c184b0
     try clear c184b1
     try clear hcz114_0
     try clear hcz114_1
     try clear hcz114_2
     try clear hcz118_0
     try clear hcz118_1
     try clear hcz118_2
     try clear hcz131_0
     try clear hcz131_1
     try clear hcz131_2
     try clear hcz135_0
     try clear hcz135_1
     try clear hcz135_2
     try clear hcz13_0
     try clear hcz13_1
     try clear hcz13_2
     try clear hcz148_0
     try clear hcz148_1
     try clear hcz148_2
     try clear hcz152_0
     try clear hcz152_1
     try clear hcz152_2
     try clear hcz15_0
     try clear hcz15_1
     try clear hcz15_2
     try clear hcz165_0
     try clear hcz165_1
     try clear hcz165_2
     try clear hcz169_0
     try clear hcz169_1
     try clear hcz169_2
     try clear hcz180_0
     try clear hcz180_1
     try clear hcz180_2
     try clear hcz18_0
     try clear hcz18_1
     try clear hcz18_2
     try clear hcz193_0
     try clear hcz193_1
     try clear hcz193_2
     try clear hcz203_0
     try clear hcz203_1
     try clear hcz203_2
     try clear hcz21_0
     try clear hcz21_1
     try clear hcz21_2
     try clear hcz22_0
     try clear hcz22_1
     try clear hcz22_2
     try clear hcz45_0
     try clear hcz45_1
     try clear hcz45_2
     try clear hcz50_0
     try clear hcz50_1
     try clear hcz50_2
     try clear hcz55_0
     try clear hcz55_1
     try clear hcz55_2
     try clear hcz61_0
     try clear hcz61_1
     try clear hcz61_2
     try clear hcz73_0
     try clear hcz73_1
     try clear hcz73_2
     try clear hfz114_0
     try clear hfz114_1
     try clear hfz114_2
     try clear hfz118_0
     try clear hfz118_1
     try clear hfz118_2
     try clear hfz131_0
     try clear hfz131_1
     try clear hfz131_2
     try clear hfz135_0
     try clear hfz135_1
     try clear hfz135_2
     try clear hfz13_0
     try clear hfz13_1
     try clear hfz13_2
     try clear hfz148_0
     try clear hfz148_1
     try clear hfz148_2
     try clear hfz152_0
     try clear hfz152_1
     try clear hfz152_2
     try clear hfz15_0
     try clear hfz15_1
     try clear hfz15_2
     try clear hfz165_0
     try clear hfz165_1
     try clear hfz165_2
     try clear hfz169_0
     try clear hfz169_1
     try clear hfz169_2
     try clear hfz180_0
     try clear hfz180_1
     try clear hfz180_2
     try clear hfz18_0
     try clear hfz18_1
     try clear hfz18_2
     try clear hfz193_0
     try clear hfz193_1
     try clear hfz193_2
     try clear hfz203_0
     try clear hfz203_1
     try clear hfz203_2
     try clear hfz21_0
     try clear hfz21_1
     try clear hfz21_2
     try clear hfz22_0
     try clear hfz22_1
     try clear hfz22_2
     try clear hfz45_0
     try clear hfz45_1
     try clear hfz45_2
     try clear hfz50_0
     try clear hfz50_1
     try clear hfz50_2
     try clear hfz55_0
     try clear hfz55_1
     try clear hfz55_2
     try clear hfz61_0
     try clear hfz61_1
     try clear hfz61_2
     try clear hfz73_0
     try clear hfz73_1
     try clear hfz73_2
     try clear hx238_0
     try clear p238
     try clear q238
     obtain ⟨kq, x8_32, x235001_32, x235002_32, u235002, rfl, HA, HJ32, HO_2, HO_235002, BK231, BK234, HB⟩ := hcut
     cases kq with
     | zero => exact absurd HA.out (by simp [ropewaylaw15_SnapEnds_f.j5])
     | succ kj32 =>
      have H := HA.out
      clear HA
      simp only [ropewaylaw15_SnapEnds_f.j5] at H
      have HC207 := zM H
      clear H
      go_upto_region 24 with (fail)
      go_cut [17] (fun v17 wc => ∃ (kq : Nat) (x17_206 : Bool) (x235001_206 : Int), v17 = .bool x17_206 ∧ Aside0 (ropewaylaw15_SnapEnds_f.j6 kq l2 x8_32 x17_206 = some r) ∧ Aside0 (kq ≤ kj32) ∧ Aside0 (Kd.V (Kd.slice 34 k34) 27 wc w.heap.size (fun k_ => (P2_ k_ ∨ w.heap.size ≤ k_) ∧ some k_ ≠ (u235002 : Value).ownBlock ∧ k_ ≠ gb231 ∧ k_ ≠ gb234) (.slice A2 l2.length c2) l2) ∧ Aside0 (Kd.R k34 34 wc w.heap.size (fun k_ => (w.heap.size ≤ k_) ∧ k_ ≠ gb231) u235002 x235002_32) ∧ Aside0 (wc.heap[gb231]? = some (.cells #[.int .i64 a1_0, .int .i64 a1_1, .int .i64 a1_2] 34 (0, 0))) ∧ Aside0 (wc.heap[gb234]? = some (.cells #[(.slice none 0 0), .int .i64 x235001_206, u235002] 61 (0, 0))) ∧ Aside0 (Below w.heap.size w wc))
      case first =>
       have H := HC207.out
       clear HC207
       by_cases c208 : x235001_32 = 4
       · rw [if_pos c208] at H
         have c208b0 : (x235001_32 == 4) = true := beq_iff_eq.mpr c208
         have c208b1 : (x235001_32 != 4) = false := bne_eq_false_iff_eq.mpr c208
         clear c208
         (first | rw [c208b0] | (simp only [i64_w, i32_w]; rw [c208b0]) | skip)
         have H' := zM H
         clear H
         have tk209 : True := trivial
         have tk212 : True := trivial
         go_wp2_with (first | ((with_reducible refine gate_callee (f := 9) rfl ?_); clear tk209; refine goL_ (some 121) Try.func9 #[.pointer (some ⟨gb234, 0, none⟩)] ?_; go_enter Try.func9, Try.ntmps9; have hnb210 := NB234_231.out; have hnc210 := NB231_234.out; have hcz211_0 : wc.cell? ⟨gb234, 0, none⟩ = some (.slice none 0 0) := (zL BK234.out 0).trans rfl; have hcz211_1 : wc.cell? ⟨gb234, 1, none⟩ = some (.int .i64 x235001_32) := (zL BK234.out 1).trans rfl; have hcz211_2 : wc.cell? ⟨gb234, 2, none⟩ = some (u235002) := (zL BK234.out 2).trans rfl; have hfz211_0 := zF BK234.out 0; have hfz211_1 := zF BK234.out 1; have hfz211_2 := zF BK234.out 2) | (clear tk212; (first | go_ret | go_ret2 | go_ret3 | go_end0); with_reducible refine inl_back_ ?_))
         go_meet
         case rel => exact ⟨_, (false), (x235001_32), (by first | rfl | (simp; done) | (simp [*]; done) | (simp; grind)), H', ⟨by have := HJ9.out; have := HJ32.out; first | omega | exact Nat.le_refl _⟩, ⟨rv_ HO_2⟩, ⟨by (with_reducible repeat (first | apply Kd.R_alloc | apply Kd.R_drewN | apply Kd.R_drew)); exact HO_235002.out⟩, ⟨blf_⟩, ⟨blf_⟩, ⟨bel_⟩⟩
       rw [if_neg c208] at H
       have c208b0 : (x235001_32 == 4) = false := beq_eq_false_iff_ne.mpr c208
       have c208b1 : (x235001_32 != 4) = true := bne_iff_ne.mpr c208
       (first | rw [c208b0] | (simp only [i64_w, i32_w]; rw [c208b0]) | skip)
       by_cases c213 : x235001_32 = 0
       · rw [if_pos c213] at H
         have c213b0 : (x235001_32 == 0) = true := beq_iff_eq.mpr c213
         have c213b1 : (x235001_32 != 0) = false := bne_eq_false_iff_eq.mpr c213
         clear c213
         have H' := zM H
         clear H
         have tk214 : True := trivial
         have tk217 : True := trivial
         go_wp2_with (first | ((with_reducible refine gate_callee (f := 9) rfl ?_); clear tk214; refine goL_ (some 121) Try.func9 #[.pointer (some ⟨gb234, 0, none⟩)] ?_; go_enter Try.func9, Try.ntmps9; have hnb215 := NB234_231.out; have hnc215 := NB231_234.out; have hcz216_0 : wc.cell? ⟨gb234, 0, none⟩ = some (.slice none 0 0) := (zL BK234.out 0).trans rfl; have hcz216_1 : wc.cell? ⟨gb234, 1, none⟩ = some (.int .i64 x235001_32) := (zL BK234.out 1).trans rfl; have hcz216_2 : wc.cell? ⟨gb234, 2, none⟩ = some (u235002) := (zL BK234.out 2).trans rfl; have hfz216_0 := zF BK234.out 0; have hfz216_1 := zF BK234.out 1; have hfz216_2 := zF BK234.out 2) | (clear tk217; (first | go_ret | go_ret2 | go_ret3 | go_end0); with_reducible refine inl_back_ ?_))
         go_meet
         case rel => exact ⟨_, (true), (x235001_32), (by first | rfl | (simp; done) | (simp [*]; done) | (simp; grind)), H', ⟨by have := HJ9.out; have := HJ32.out; first | omega | exact Nat.le_refl _⟩, ⟨rv_ HO_2⟩, ⟨by (with_reducible repeat (first | apply Kd.R_alloc | apply Kd.R_drewN | apply Kd.R_drew)); exact HO_235002.out⟩, ⟨blf_⟩, ⟨blf_⟩, ⟨bel_⟩⟩
       rw [if_neg c213] at H
       have c213b0 : (x235001_32 == 0) = false := beq_eq_false_iff_ne.mpr c213
       have c213b1 : (x235001_32 != 0) = true := bne_iff_ne.mpr c213
       by_cases c218 : x235001_32 = 2
       · rw [if_pos c218] at H
         have c218b0 : (x235001_32 == 2) = true := beq_iff_eq.mpr c218
         have c218b1 : (x235001_32 != 2) = false := bne_eq_false_iff_eq.mpr c218
         clear c218
         have H' := zM H
         clear H
         have tk219 : True := trivial
         have tk222 : True := trivial
         go_wp2_with (first | ((with_reducible refine gate_callee (f := 9) rfl ?_); clear tk219; refine goL_ (some 121) Try.func9 #[.pointer (some ⟨gb234, 0, none⟩)] ?_; go_enter Try.func9, Try.ntmps9; have hnb220 := NB234_231.out; have hnc220 := NB231_234.out; have hcz221_0 : wc.cell? ⟨gb234, 0, none⟩ = some (.slice none 0 0) := (zL BK234.out 0).trans rfl; have hcz221_1 : wc.cell? ⟨gb234, 1, none⟩ = some (.int .i64 x235001_32) := (zL BK234.out 1).trans rfl; have hcz221_2 : wc.cell? ⟨gb234, 2, none⟩ = some (u235002) := (zL BK234.out 2).trans rfl; have hfz221_0 := zF BK234.out 0; have hfz221_1 := zF BK234.out 1; have hfz221_2 := zF BK234.out 2) | (clear tk222; (first | go_ret | go_ret2 | go_ret3 | go_end0); with_reducible refine inl_back_ ?_))
         go_meet
         case rel => exact ⟨_, (true), (x235001_32), (by first | rfl | (simp; done) | (simp [*]; done) | (simp; grind)), H', ⟨by have := HJ9.out; have := HJ32.out; first | omega | exact Nat.le_refl _⟩, ⟨rv_ HO_2⟩, ⟨by (with_reducible repeat (first | apply Kd.R_alloc | apply Kd.R_drewN | apply Kd.R_drew)); exact HO_235002.out⟩, ⟨blf_⟩, ⟨blf_⟩, ⟨bel_⟩⟩
       rw [if_neg c218] at H
       have c218b0 : (x235001_32 == 2) = false := beq_eq_false_iff_ne.mpr c218
       have c218b1 : (x235001_32 != 2) = true := bne_iff_ne.mpr c218
       by_cases c223 : x235001_32 = 1
       rotate_left
       · rw [if_neg c223] at H
         have c223b0 : (x235001_32 == 1) = false := beq_eq_false_iff_ne.mpr c223
         have c223b1 : (x235001_32 != 1) = true := bne_iff_ne.mpr c223
         replace H := Option.bind_eq_some_iff.mp H
         obtain ⟨t262, A2360, H⟩ := H
         replace H : (ropewaylaw15_SnapEnds_f.j6 kj32 l2 x8_32 true) = some r := H
         have A236 := zM A2360
         clear A2360
         have H' := zM H
         clear H
         have tk237 : True := trivial
         have tk240 : True := trivial
         have tk241 : True := trivial
         have tk244 : True := trivial
         have tk245 : True := trivial
         go_wp2_with (first | ((with_reducible refine gate_callee (f := 9) rfl ?_); clear tk237; refine goL_ (some 121) Try.func9 #[.pointer (some ⟨gb234, 0, none⟩)] ?_; go_enter Try.func9, Try.ntmps9; have hnb238 := NB234_231.out; have hnc238 := NB231_234.out; have hcz239_0 : wc.cell? ⟨gb234, 0, none⟩ = some (.slice none 0 0) := (zL BK234.out 0).trans rfl; have hcz239_1 : wc.cell? ⟨gb234, 1, none⟩ = some (.int .i64 x235001_32) := (zL BK234.out 1).trans rfl; have hcz239_2 : wc.cell? ⟨gb234, 2, none⟩ = some (u235002) := (zL BK234.out 2).trans rfl; have hfz239_0 := zF BK234.out 0; have hfz239_1 := zF BK234.out 1; have hfz239_2 := zF BK234.out 2) | ((with_reducible refine gate_callee (f := 11) rfl ?_); clear tk240; refine goL_ (some 24) Try.func11 #[.pointer (some ⟨gb234, 0, none⟩)] ?_; go_enter Try.func11, Try.ntmps11) | (clear tk241; (first | go_ret | go_ret2 | go_ret3 | go_end0); with_reducible refine inl_back_ ?_; obtain ⟨Ao242, co242, eo242⟩ := Kd.R_slice HO_235002.out; subst eo242) | (go_at_call 25; (with_reducible refine (api_Cell.calls _ _ x235002_32 t262 _ ?side1 ?side2 A236.out).mono ?_); (case side1 => repeat (first | exact (Kd.R_reads' HO_235002.out).2.2 | (with_reducible refine Kd.C_alloc ?_ _) | (with_reducible refine Kd.C_drewN ?_ _) | (with_reducible refine Kd.C_drew ?_))); (case side2 => exact (Kd.R_reads' HO_235002.out).2.1); clear tk244; rintro e w243 ⟨v263, rfl, ho0, hb⟩; replace HO_2 := zM (Kd.V_elder' (rv_ HO_2) (Kd.R_base ho0) hb); have HO264 := zM (Kd.R_lower (Kd.R_newB (Kd.R_new' (Kd.R_newM (M := fun k_ => (w.heap.size ≤ k_)) ho0 (below_size bel_) (fun k_ h_ => h_)) (Kd.R_lt (rl_ HO_235002))) (g := gb231) (o := .cells #[.int .i64 a1_0, .int .i64 a1_1, .int .i64 a1_2] 34 (0, 0)) blk_) (below_size bel_)); replace HO_235002 := zM (Kd.R_elder' (rl_ HO_235002) (Kd.R_base ho0) hb); replace BK231 := zM (bb_ BK231 hb); replace BK234 := zM (bb_ BK234 hb); replace HB := zM (zB bel_ hb); (try clear hb); (try clear ho0)) | (clear tk245; (first | go_ret | go_ret2 | go_ret3 | go_end0); with_reducible refine inl_back_ ?_))
         go_meet
         case rel => exact ⟨_, (true), (x235001_32), (by first | rfl | (simp; done) | (simp [*]; done) | (simp; grind)), H', ⟨by have := HJ9.out; have := HJ32.out; first | omega | exact Nat.le_refl _⟩, ⟨by (with_reducible repeat (first | apply Kd.V_alloc | apply Kd.V_drewN | apply Kd.V_drew)); exact Kd.V_mono HO_2.out (fun _ hk => ⟨hk.1.1, ⟨hk.1.2.1, ⟨hk.1.2.2.1, hk.1.2.2.2⟩⟩⟩)⟩, ⟨by (with_reducible repeat (first | apply Kd.R_alloc | apply Kd.R_drewN | apply Kd.R_drew)); exact Kd.R_mono HO_235002.out (fun _ hk => ⟨hk.1.1, hk.1.2⟩)⟩, ⟨blf_⟩, ⟨blf_⟩, ⟨bel_⟩⟩
       rw [if_pos c223] at H
       have c223b0 : (x235001_32 == 1) = true := beq_iff_eq.mpr c223
       have c223b1 : (x235001_32 != 1) = false := bne_eq_false_iff_eq.mpr c223
       clear c223
       replace H := Option.bind_eq_some_iff.mp H
       obtain ⟨t259, A2240, H⟩ := H
       replace H : (ropewaylaw15_SnapEnds_f.j6 kj32 l2 x8_32 true) = some r := H
       have A224 := zM A2240
       clear A2240
       have H' := zM H
       clear H
       have tk225 : True := trivial
       have tk228 : True := trivial
       have tk229 : True := trivial
       have tk230 : True := trivial
       have tk231 : True := trivial
       have tk234 : True := trivial
       have tk235 : True := trivial
       go_wp2_with (first | ((with_reducible refine gate_callee (f := 9) rfl ?_); clear tk225; refine goL_ (some 121) Try.func9 #[.pointer (some ⟨gb234, 0, none⟩)] ?_; go_enter Try.func9, Try.ntmps9; have hnb226 := NB234_231.out; have hnc226 := NB231_234.out; have hcz227_0 : wc.cell? ⟨gb234, 0, none⟩ = some (.slice none 0 0) := (zL BK234.out 0).trans rfl; have hcz227_1 : wc.cell? ⟨gb234, 1, none⟩ = some (.int .i64 x235001_32) := (zL BK234.out 1).trans rfl; have hcz227_2 : wc.cell? ⟨gb234, 2, none⟩ = some (u235002) := (zL BK234.out 2).trans rfl; have hfz227_0 := zF BK234.out 0; have hfz227_1 := zF BK234.out 1; have hfz227_2 := zF BK234.out 2) | ((with_reducible refine gate_callee (f := 11) rfl ?_); clear tk228; refine goL_ (some 24) Try.func11 #[.pointer (some ⟨gb234, 0, none⟩)] ?_; go_enter Try.func11, Try.ntmps11) | (go_at_call 26; clear tk229; go_enter Try.func26, Try.ntmps26) | (clear tk230; (first | go_ret | go_ret2 | go_ret3 | go_end0); simp only []; go_at_K) | (clear tk231; (first | go_ret | go_ret2 | go_ret3 | go_end0); with_reducible refine inl_back_ ?_; obtain ⟨Ao232, co232, eo232⟩ := Kd.R_slice HO_235002.out; subst eo232) | (go_at_call 25; (with_reducible refine (api_Cell.calls _ _ x235002_32 t259 _ ?side1 ?side2 A224.out).mono ?_); (case side1 => repeat (first | exact (Kd.R_reads' HO_235002.out).2.2 | (with_reducible refine Kd.C_alloc ?_ _) | (with_reducible refine Kd.C_drewN ?_ _) | (with_reducible refine Kd.C_drew ?_))); (case side2 => exact (Kd.R_reads' HO_235002.out).2.1); clear tk234; rintro e w233 ⟨v260, rfl, ho0, hb⟩; replace HO_2 := zM (Kd.V_elder' (rv_ HO_2) (Kd.R_base ho0) hb); have HO261 := zM (Kd.R_lower (Kd.R_newB (Kd.R_new' (Kd.R_newM (M := fun k_ => (w.heap.size ≤ k_)) ho0 (below_size bel_) (fun k_ h_ => h_)) (Kd.R_lt (rl_ HO_235002))) (g := gb231) (o := .cells #[.int .i64 a1_0, .int .i64 a1_1, .int .i64 a1_2] 34 (0, 0)) blk_) (below_size bel_)); replace HO_235002 := zM (Kd.R_elder' (rl_ HO_235002) (Kd.R_base ho0) hb); replace BK231 := zM (bb_ BK231 hb); replace BK234 := zM (bb_ BK234 hb); replace HB := zM (zB bel_ hb); (try clear hb); (try clear ho0)) | (clear tk235; (first | go_ret | go_ret2 | go_ret3 | go_end0); with_reducible refine inl_back_ ?_))
       go_meet
       case rel => exact ⟨_, (true), (x235001_32), (by first | rfl | (simp; done) | (simp [*]; done) | (simp; grind)), H', ⟨by have := HJ9.out; have := HJ32.out; first | omega | exact Nat.le_refl _⟩, ⟨by (with_reducible repeat (first | apply Kd.V_alloc | apply Kd.V_drewN | apply Kd.V_drew)); exact Kd.V_mono HO_2.out (fun _ hk => ⟨hk.1.1, ⟨hk.1.2.1, ⟨hk.1.2.2.1, hk.1.2.2.2⟩⟩⟩)⟩, ⟨by (with_reducible repeat (first | apply Kd.R_alloc | apply Kd.R_drewN | apply Kd.R_drew)); exact Kd.R_mono HO_235002.out (fun _ hk => ⟨hk.1.1, hk.1.2⟩)⟩, ⟨blf_⟩, ⟨blf_⟩, ⟨bel_⟩⟩
      case rest =>
       clear HC207
       try clear c2
       try clear c7
       try clear c11
       try clear c11b0
       try clear c11b1
       try clear c12
       try clear c12b0
       try clear c14
       try clear c14b0
       try clear c17
       try clear c25
       try clear c34
       try clear c34b0
       try clear c35
       try clear c35b0
       try clear c36
       try clear c36b0
       try clear c38
       try clear c38b0
       try clear c38b1
       try clear c42
       try clear c42b0
       try clear c42b1
       try clear c47
       try clear c47b0
       try clear c47b1
       try clear c52
       try clear c52b0
       try clear c52b1
       try clear c57
       try clear c57b0
       try clear c57b1
       try clear c80
       try clear c82
       try clear c82b0
       try clear c82b1
       try clear c83
       try clear c83b0
       try clear c83b1
       try clear c85
       try clear c86
       try clear c86b0
       try clear c86b1
       try clear c86b2
       try clear c96
       try clear c96b0
       try clear c96b1
       try clear c96b2
       try clear c99
       try clear c101
       try clear c101b0
       try clear c101b1
       try clear c102
       try clear c103
       try clear c103b0
       try clear c103b1
       try clear c105
       try clear c105b0
       try clear c105b1
       try clear c105b2
       try clear c137
       try clear c137b0
       try clear c137b1
       try clear c139
       try clear c139b0
       try clear c139b1
       try clear c139b2
       try clear c171
       try clear c171b0
       try clear c171b1
       try clear c184
       try clear c184b0
       try clear c184b1
       try clear c208
       try clear c208b0
       try clear c208b1
       try clear c213
       try clear c213b0
       try clear c213b1
       try clear c218
       try clear c218b0
       try clear c218b1
       try clear c223
       try clear c223b0
       try clear c223b1
       try clear p238
       try clear q238
       try clear hcz114_0
       try clear hcz114_1
       try clear hcz114_2
       try clear hcz118_0
       try clear hcz118_1
       try clear hcz118_2
       try clear hcz131_0
       try clear hcz131_1
       try clear hcz131_2
       try clear hcz135_0
       try clear hcz135_1
       try clear hcz135_2
       try clear hcz13_0
       try clear hcz13_1
       try clear hcz13_2
       try clear hcz148_0
       try clear hcz148_1
       try clear hcz148_2
       try clear hcz152_0
       try clear hcz152_1
       try clear hcz152_2
       try clear hcz15_0
       try clear hcz15_1
       try clear hcz15_2
       try clear hcz165_0
       try clear hcz165_1
       try clear hcz165_2
       try clear hcz169_0
       try clear hcz169_1
       try clear hcz169_2
       try clear hcz180_0
       try clear hcz180_1
       try clear hcz180_2
       try clear hcz18_0
       try clear hcz18_1
       try clear hcz18_2
       try clear hcz193_0
       try clear hcz193_1
       try clear hcz193_2
       try clear hcz203_0
       try clear hcz203_1
       try clear hcz203_2
       try clear hcz211_0
       try clear hcz211_1
       try clear hcz211_2
       try clear hcz216_0
       try clear hcz216_1
       try clear hcz216_2
       try clear hcz21_0
       try clear hcz21_1
       try clear hcz21_2
       try clear hcz221_0
       try clear hcz221_1
       try clear hcz221_2
       try clear hcz227_0
       try clear hcz227_1
       try clear hcz227_2
       try clear hcz22_0
       try clear hcz22_1
       try clear hcz22_2
       try clear hcz239_0
       try clear hcz239_1
       try clear hcz239_2
       try clear hcz45_0
       try clear hcz45_1
       try clear hcz45_2
       try clear hcz50_0
       try clear hcz50_1
       try clear hcz50_2
       try clear hcz55_0
       try clear hcz55_1
       try clear hcz55_2
       try clear hcz61_0
       try clear hcz61_1
       try clear hcz61_2
       try clear hcz73_0
       try clear hcz73_1
       try clear hcz73_2
       try clear hfz114_0
       try clear hfz114_1
       try clear hfz114_2
       try clear hfz118_0
       try clear hfz118_1
       try clear hfz118_2
       try clear hfz131_0
       try clear hfz131_1
       try clear hfz131_2
       try clear hfz135_0
       try clear hfz135_1
       try clear hfz135_2
       try clear hfz13_0
       try clear hfz13_1
       try clear hfz13_2
       try clear hfz148_0
       try clear hfz148_1
       try clear hfz148_2
       try clear hfz152_0
       try clear hfz152_1
       try clear hfz152_2
       try clear hfz15_0
       try clear hfz15_1
       try clear hfz15_2
       try clear hfz165_0
       try clear hfz165_1
       try clear hfz165_2
       try clear hfz169_0
       try clear hfz169_1
       try clear hfz169_2
       try clear hfz180_0
       try clear hfz180_1
       try clear hfz180_2
       try clear hfz18_0
       try clear hfz18_1
       try clear hfz18_2
       try clear hfz193_0
       try clear hfz193_1
       try clear hfz193_2
       try clear hfz203_0
       try clear hfz203_1
       try clear hfz203_2
       try clear hfz211_0
       try clear hfz211_1
       try clear hfz211_2
       try clear hfz216_0
       try clear hfz216_1
       try clear hfz216_2
       try clear hfz21_0
       try clear hfz21_1
       try clear hfz21_2
       try clear hfz221_0
       try clear hfz221_1
       try clear hfz221_2
       try clear hfz227_0
       try clear hfz227_1
       try clear hfz227_2
       try clear hfz22_0
       try clear hfz22_1
       try clear hfz22_2
       try clear hfz239_0
       try clear hfz239_1
       try clear hfz239_2
       try clear hfz45_0
       try clear hfz45_1
       try clear hfz45_2
       try clear hfz50_0
       try clear hfz50_1
       try clear hfz50_2
       try clear hfz55_0
       try clear hfz55_1
       try clear hfz55_2
       try clear hfz61_0
       try clear hfz61_1
       try clear hfz61_2
       try clear hfz73_0
       try clear hfz73_1
       try clear hfz73_2
       try clear hx238_0
       try clear p238
       try clear q238
       obtain ⟨kq, x17_206, x235001_206, rfl, HA, HJ206, HO_2, HO_235002, BK231, BK234, HB⟩ := hcut
       cases kq with
       | zero => exact absurd HA.out (by simp [ropewaylaw15_SnapEnds_f.j6])
       | succ kj206 =>
        have H := HA.out
        clear HA
        simp only [ropewaylaw15_SnapEnds_f.j6] at H
        by_cases c246 : x17_206 = true
        · subst c246
          have H1 : (if (l2.length : Int) = x8_32 then (some (decide (x8_32 < 4))) else (some false)) = some r := by rw [if_pos rfl] at H; exact H
          clear H
          have H := H1
          clear H1
          by_cases c247 : (l2.length : Int) = x8_32
          rotate_left
          · rw [if_neg c247] at H
            have c247b0 : ((l2.length : Int) == x8_32) = false := beq_eq_false_iff_ne.mpr c247
            have c247b1 : ((l2.length : Int) != x8_32) = true := bne_iff_ne.mpr c247
            exact absurd (Option.some.inj H) (by rw [hr1_.out]; decide)
          rw [if_pos c247] at H
          have c247b0 : ((l2.length : Int) == x8_32) = true := beq_iff_eq.mpr c247
          have c247b1 : ((l2.length : Int) != x8_32) = false := bne_eq_false_iff_eq.mpr c247
          clear c247
          obtain rfl := Option.some.inj H
          go_wp2
          go_ret
          exact ⟨by first | rfl | (simp [errW_none, errW_some] <;> rfl) | (simp [*, errW_none, errW_some] <;> rfl), bel_⟩
        replace c246 := Bool.eq_false_iff.mpr c246
        subst c246
        have H1 : (if x8_32 = 1 then (some true) else (if x8_32 = 3 then (some true) else (some (x8_32 == 4)))) = some r := by rw [if_neg (show ¬ (false = true) by decide)] at H; exact H
        clear H
        have H := H1
        clear H1
        by_cases c248 : x8_32 = 1
        · rw [if_pos c248] at H
          have c248b0 : (x8_32 == 1) = true := beq_iff_eq.mpr c248
          have c248b1 : (x8_32 != 1) = false := bne_eq_false_iff_eq.mpr c248
          clear c248
          obtain rfl := Option.some.inj H
          go_wp2
          go_ret
          exact ⟨by first | rfl | (simp [errW_none, errW_some] <;> rfl) | (simp [*, errW_none, errW_some] <;> rfl), bel_⟩
        rw [if_neg c248] at H
        have c248b0 : (x8_32 == 1) = false := beq_eq_false_iff_ne.mpr c248
        have c248b1 : (x8_32 != 1) = true := bne_iff_ne.mpr c248
        by_cases c249 : x8_32 = 3
        rotate_left
        · rw [if_neg c249] at H
          have c249b0 : (x8_32 == 3) = false := beq_eq_false_iff_ne.mpr c249
          have c249b1 : (x8_32 != 3) = true := bne_iff_ne.mpr c249
          obtain rfl := Option.some.inj H
          go_wp2
          go_ret
          exact ⟨by first | rfl | (simp [errW_none, errW_some] <;> rfl) | (simp [*, errW_none, errW_some] <;> rfl), bel_⟩
        rw [if_pos c249] at H
        have c249b0 : (x8_32 == 3) = true := beq_iff_eq.mpr c249
        have c249b1 : (x8_32 != 3) = false := bne_eq_false_iff_eq.mpr c249
        clear c249
        obtain rfl := Option.some.inj H
        go_wp2
        go_ret
        exact ⟨by first | rfl | (simp [errW_none, errW_some] <;> rfl) | (simp [*, errW_none, errW_some] <;> rfl), bel_⟩
end Go.Proofs.Ytoelfknhnmhlmaa.PSnapEnds
