/- Written by a program of this session (wip/tool/px.py) over the kit's print: what the code that the law SnapEnds reaches computes, function by function, and the law's row. -/
import Derived.Test.YtoelfknhnmhlmaaPSnapEndsx0
import Derived.Test.YtoelfknhnmhlmaaPSnapEndsx1
import Derived.Test.YtoelfknhnmhlmaaPSnapEndsx2
import Derived.Test.YtoelfknhnmhlmaaPSnapEndsx3
import Derived.Test.YtoelfknhnmhlmaaPSnapEndsx6
import Derived.Test.YtoelfknhnmhlmaaPSnapEndsx7
import Derived.Test.YtoelfknhnmhlmaaPSnapEndsx8
namespace Go.Proofs.Ytoelfknhnmhlmaa.PSnapEnds
open Go.RowKit Go.Proofs.YtoelfknhnmhlmaaX Go.Proofs.YtoelfknhnmhlmaaW.PrintWords Go.Proofs.YtoelfknhnmhlmaaW.PrintLast Go.Proofs.YtoelfknhnmhlmaaW.PrintMore
open Go.Proofs.YtoelfknhnmhlmaaW.PrintWords renaming blk_drewN → zN, blk_drew → zD, blk_alloc → zA, blk_cell → zL, blk_frozen → zF, below_step → zB
open Go.Proofs.YtoelfknhnmhlmaaW.PrintWords.Aside0 renaming mk → zM
attribute [local go_sem] max2_int min2_int max_two min_two max_three min_three max_four min_four   -- for this text's walks alone
set_option linter.unusedVariables false
set_option linter.unusedSimpArgs false

attribute [local go_sem] px_nilq27
attribute [local go_sem high] eqA26 eqA34
/-! ### ropewaylaw15_SnapEnds_t: function 5 -/
mutual
def ropewaylaw15_SnapEnds_t.j0 : Nat → List (List (S34)) → Bool → Int → Int → Int → Option (Bool)
  | 0, _, _, _, _, _ => none
  | k + 1, x2, x44, x185000, x185001, x185002 => if x44 = true then (some true) else (ropewaylaw15_SnapEnds_t.l0 k x2 0 (([] : List (S34))) x2 (x2.length : Int) 0 x185000 x185001 x185002 (([(⟨x185000, (⟨x185001, x185002⟩ : S26)⟩ : S34)] : List (S34))) 0 ([] : List (S34)))
def ropewaylaw15_SnapEnds_t.j5 : Nat → List (List (S34)) → Int → List (S34) → Int → List (S34) → Option (Bool)
  | 0, _, _, _, _, _ => none
  | k + 1, x2, x8, x193000, x193001, x193002 => if x193001 = 4 then (ropewaylaw15_SnapEnds_t.j6 k x2 x8 false) else (if x193001 = 0 then (ropewaylaw15_SnapEnds_t.j6 k x2 x8 true) else (if x193001 = 2 then (ropewaylaw15_SnapEnds_t.j6 k x2 x8 true) else (if x193001 = 1 then (if (x193000.length : Int) > 0 then (if (x193002.length : Int) = 0 then ((api_Cell.f x193000).bind fun t222 => (ropewaylaw15_SnapEnds_t.j6 k x2 x8 true)) else ((api_Cell.f x193002).bind fun t225 => (ropewaylaw15_SnapEnds_t.j6 k x2 x8 true))) else (none)) else ((api_Cell.f x193002).bind fun t228 => (ropewaylaw15_SnapEnds_t.j6 k x2 x8 true)))))
def ropewaylaw15_SnapEnds_t.j6 : Nat → List (List (S34)) → Int → Bool → Option (Bool)
  | 0, _, _, _ => none
  | k + 1, x2, x8, x17 => if x17 = true then (if (x2.length : Int) = x8 then (some (decide (x8 < 4))) else (some false)) else (some (x8 == 2))
def ropewaylaw15_SnapEnds_t.l0 : Nat → List (List (S34)) → Int → List (S34) → List (List (S34)) → Int → Int → Int → Int → Int → List (S34) → Int → List (S34) → Option (Bool)
  | 0, _, _, _, _, _, _, _, _, _, _, _, _ => none
  | k + 1, x2, x8, x9, x53, x54, x55, x185000, x185001, x185002, x193000, x193001, x193002 => if x55 < x54 then (if 0 ≤ x55 then (if x55 < (x53.length : Int) then ((ropewayref10_Check.f k (rd_L3 x53 x55)).bind fun t197 => (if t197 = 0 then (if x193001 = 4 then (ropewaylaw15_SnapEnds_t.j2 k x2 x8 x9 (rd_L3 x53 x55) 0 ([] : List (S34)) false x53 x54 x55 x185000 x185001 x185002 x193000 x193001 x193002) else (if x193001 = 0 then (ropewaylaw15_SnapEnds_t.j2 k x2 x8 x9 (rd_L3 x53 x55) 0 ([] : List (S34)) true x53 x54 x55 x185000 x185001 x185002 x193000 x193001 x193002) else (if x193001 = 2 then (ropewaylaw15_SnapEnds_t.j2 k x2 x8 x9 (rd_L3 x53 x55) 0 ([] : List (S34)) true x53 x54 x55 x185000 x185001 x185002 x193000 x193001 x193002) else (if x193001 = 1 then (if (x193000.length : Int) > 0 then (if (x193002.length : Int) = 0 then ((api_Cell.f x193000).bind fun t198 => (ropewaylaw15_SnapEnds_t.j2 k x2 x8 x9 (rd_L3 x53 x55) 1 t198 true x53 x54 x55 x185000 x185001 x185002 x193000 x193001 x193002)) else ((api_Cell.f x193002).bind fun t201 => (ropewaylaw15_SnapEnds_t.j2 k x2 x8 x9 (rd_L3 x53 x55) 1 t201 true x53 x54 x55 x185000 x185001 x185002 x193000 x193001 x193002))) else (none)) else ((api_Cell.f x193002).bind fun t204 => (ropewaylaw15_SnapEnds_t.j2 k x2 x8 x9 (rd_L3 x53 x55) 1 t204 true x53 x54 x55 x185000 x185001 x185002 x193000 x193001 x193002)))))) else (some true))) else (none)) else (none)) else (ropewaylaw15_SnapEnds_t.j5 k x2 x8 x193000 x193001 x193002)
def ropewaylaw15_SnapEnds_t.j2 : Nat → List (List (S34)) → Int → List (S34) → List (S34) → Int → List (S34) → Bool → List (List (S34)) → Int → Int → Int → Int → Int → List (S34) → Int → List (S34) → Option (Bool)
  | 0, _, _, _, _, _, _, _, _, _, _, _, _, _, _, _, _ => none
  | k + 1, x2, x8, x9, x11, x12, x13, x14, x53, x54, x55, x185000, x185001, x185002, x193000, x193001, x193002 => if x14 = true then (if x12 = 1 then (if (x9.length : Int) > 0 then ((ropewayref10_Same.f k x13 x9).bind fun t207 => (if t207 = true then (if (x9.length : Int) = 0 then (if (x13.length : Int) = 1 then (if 0 < (x13.length : Int) then (ropewaylaw15_SnapEnds_t.j3 k x2 x8 x9 x11 x12 x53 x54 x55 (!(((rd_T34 x13 0).f0) == x185000) || ((!(((rd_T34 x13 0).f1.f0) == x185001) || (!(((rd_T34 x13 0).f1.f1) == x185002))))) x185000 x185001 x185002 x193000 x193001 x193002) else (none)) else (ropewaylaw15_SnapEnds_t.j3 k x2 x8 x9 x11 x12 x53 x54 x55 true x185000 x185001 x185002 x193000 x193001 x193002)) else (ropewaylaw15_SnapEnds_t.j3 k x2 x8 x9 x11 x12 x53 x54 x55 false x185000 x185001 x185002 x193000 x193001 x193002)) else (ropewaylaw15_SnapEnds_t.j3 k x2 x8 x9 x11 x12 x53 x54 x55 true x185000 x185001 x185002 x193000 x193001 x193002))) else (if (x9.length : Int) = 0 then (if (x13.length : Int) = 1 then (if 0 < (x13.length : Int) then (ropewaylaw15_SnapEnds_t.j3 k x2 x8 x9 x11 x12 x53 x54 x55 (!(((rd_T34 x13 0).f0) == x185000) || ((!(((rd_T34 x13 0).f1.f0) == x185001) || (!(((rd_T34 x13 0).f1.f1) == x185002))))) x185000 x185001 x185002 x193000 x193001 x193002) else (none)) else (ropewaylaw15_SnapEnds_t.j3 k x2 x8 x9 x11 x12 x53 x54 x55 true x185000 x185001 x185002 x193000 x193001 x193002)) else (ropewaylaw15_SnapEnds_t.j3 k x2 x8 x9 x11 x12 x53 x54 x55 false x185000 x185001 x185002 x193000 x193001 x193002))) else (ropewaylaw15_SnapEnds_t.j3 k x2 x8 x9 x11 x12 x53 x54 x55 false x185000 x185001 x185002 x193000 x193001 x193002)) else (ropewaylaw15_SnapEnds_t.j5 k x2 x8 x193000 x193001 x193002)
def ropewaylaw15_SnapEnds_t.j3 : Nat → List (List (S34)) → Int → List (S34) → List (S34) → Int → List (List (S34)) → Int → Int → Bool → Int → Int → Int → List (S34) → Int → List (S34) → Option (Bool)
  | 0, _, _, _, _, _, _, _, _, _, _, _, _, _, _, _ => none
  | k + 1, x2, x8, x9, x11, x12, x53, x54, x55, x107, x185000, x185001, x185002, x193000, x193001, x193002 => if x107 = true then (some false) else (if x12 = 0 then (ropewaylaw15_SnapEnds_t.j4 k x2 x8 x11 x11 x53 x54 x55 x185000 x185001 x185002 x193000 x193001 x193002) else (ropewaylaw15_SnapEnds_t.j4 k x2 x8 x9 x11 x53 x54 x55 x185000 x185001 x185002 x193000 x193001 x193002))
def ropewaylaw15_SnapEnds_t.j4 : Nat → List (List (S34)) → Int → List (S34) → List (S34) → List (List (S34)) → Int → Int → Int → Int → Int → List (S34) → Int → List (S34) → Option (Bool)
  | 0, _, _, _, _, _, _, _, _, _, _, _, _, _ => none
  | k + 1, x2, x8, x9, x11, x53, x54, x55, x185000, x185001, x185002, x193000, x193001, x193002 => (some (([] : List (S34)) : List (S34))).bind fun y210 => (if y210.length + x11.length < 5864062014805 then ((some (y210 ++ x11 : List (S34))).bind fun y213 => (if x193001 = 0 then ((api_Cell.f y213).bind fun t216 => (if (y213.length : Int) = 0 then (if ((x193000.length : Int) > 0) then (ropewaylaw15_SnapEnds_t.l0 k x2 (wrap64 (x8 + 1)) x9 x53 x54 (wrap64 (x55 + 1)) x185000 x185001 x185002 x193000 (wrap64 (x193001 + 1)) t216) else (none)) else (ropewaylaw15_SnapEnds_t.l0 k x2 (wrap64 (x8 + 1)) x9 x53 x54 (wrap64 (x55 + 1)) x185000 x185001 x185002 x193000 (wrap64 (x193001 + 1)) t216))) else (if x193001 = 2 then ((api_Cell.f y213).bind fun t219 => (if (y213.length : Int) = 0 then (if ((x193000.length : Int) > 0) then (ropewaylaw15_SnapEnds_t.l0 k x2 (wrap64 (x8 + 1)) x9 x53 x54 (wrap64 (x55 + 1)) x185000 x185001 x185002 x193000 (wrap64 (x193001 + 1)) t219) else (none)) else (ropewaylaw15_SnapEnds_t.l0 k x2 (wrap64 (x8 + 1)) x9 x53 x54 (wrap64 (x55 + 1)) x185000 x185001 x185002 x193000 (wrap64 (x193001 + 1)) t219))) else (if x193001 = 1 then (if (x193000.length : Int) > 0 then (ropewaylaw15_SnapEnds_t.l0 k x2 (wrap64 (x8 + 1)) x9 x53 x54 (wrap64 (x55 + 1)) x185000 x185001 x185002 x193000 4 x193002) else (none)) else (if x193001 = 3 then (ropewaylaw15_SnapEnds_t.l0 k x2 (wrap64 (x8 + 1)) x9 x53 x54 (wrap64 (x55 + 1)) x185000 x185001 x185002 x193000 4 x193002) else (ropewaylaw15_SnapEnds_t.l0 k x2 (wrap64 (x8 + 1)) x9 x53 x54 (wrap64 (x55 + 1)) x185000 x185001 x185002 x193000 x193001 x193002)))))) else (none))
end
def ropewaylaw15_SnapEnds_t.f (k : Nat)  (a1_0 : Int) (a1_1 : Int) (a1_2 : Int) (l2 : List (List (S34))) : Option (Bool) := (ropewaylaw15_snapAlive.f k).bind fun t185 => (if t185 = true then (if (l2.length : Int) > 20 then (ropewaylaw15_SnapEnds_t.j0 k l2 true a1_0 a1_1 a1_2) else (if a1_0 < 0 then (ropewaylaw15_SnapEnds_t.j0 k l2 true a1_0 a1_1 a1_2) else (if a1_0 > 5 then (ropewaylaw15_SnapEnds_t.j0 k l2 true a1_0 a1_1 a1_2) else ((ropewayref04_Right.f a1_1 a1_2).bind fun t186 => (if t186 = true then (ropewaylaw15_SnapEnds_t.j0 k l2 (a1_1 == 0 && (a1_2 == 0)) a1_0 a1_1 a1_2) else (ropewaylaw15_SnapEnds_t.j0 k l2 true a1_0 a1_1 a1_2)))))) else (some false))
theorem ropewaylaw15_SnapEnds_t.mono_l : ∀ k, (∀ y0 y1 y2 y3 y4, LeO (ropewaylaw15_SnapEnds_t.j0 k y0 y1 y2 y3 y4) (ropewaylaw15_SnapEnds_t.j0 (k + 1) y0 y1 y2 y3 y4)) ∧ (∀ y0 y1 y2 y3 y4, LeO (ropewaylaw15_SnapEnds_t.j5 k y0 y1 y2 y3 y4) (ropewaylaw15_SnapEnds_t.j5 (k + 1) y0 y1 y2 y3 y4)) ∧ (∀ y0 y1 y2, LeO (ropewaylaw15_SnapEnds_t.j6 k y0 y1 y2) (ropewaylaw15_SnapEnds_t.j6 (k + 1) y0 y1 y2)) ∧ (∀ y0 y1 y2 y3 y4 y5 y6 y7 y8 y9 y10 y11, LeO (ropewaylaw15_SnapEnds_t.l0 k y0 y1 y2 y3 y4 y5 y6 y7 y8 y9 y10 y11) (ropewaylaw15_SnapEnds_t.l0 (k + 1) y0 y1 y2 y3 y4 y5 y6 y7 y8 y9 y10 y11)) ∧ (∀ y0 y1 y2 y3 y4 y5 y6 y7 y8 y9 y10 y11 y12 y13 y14 y15, LeO (ropewaylaw15_SnapEnds_t.j2 k y0 y1 y2 y3 y4 y5 y6 y7 y8 y9 y10 y11 y12 y13 y14 y15) (ropewaylaw15_SnapEnds_t.j2 (k + 1) y0 y1 y2 y3 y4 y5 y6 y7 y8 y9 y10 y11 y12 y13 y14 y15)) ∧ (∀ y0 y1 y2 y3 y4 y5 y6 y7 y8 y9 y10 y11 y12 y13 y14, LeO (ropewaylaw15_SnapEnds_t.j3 k y0 y1 y2 y3 y4 y5 y6 y7 y8 y9 y10 y11 y12 y13 y14) (ropewaylaw15_SnapEnds_t.j3 (k + 1) y0 y1 y2 y3 y4 y5 y6 y7 y8 y9 y10 y11 y12 y13 y14)) ∧ (∀ y0 y1 y2 y3 y4 y5 y6 y7 y8 y9 y10 y11 y12, LeO (ropewaylaw15_SnapEnds_t.j4 k y0 y1 y2 y3 y4 y5 y6 y7 y8 y9 y10 y11 y12) (ropewaylaw15_SnapEnds_t.j4 (k + 1) y0 y1 y2 y3 y4 y5 y6 y7 y8 y9 y10 y11 y12))
  | 0 => ⟨fun _ _ _ _ _ r h => by simp [ropewaylaw15_SnapEnds_t.j0] at h, fun _ _ _ _ _ r h => by simp [ropewaylaw15_SnapEnds_t.j5] at h, fun _ _ _ r h => by simp [ropewaylaw15_SnapEnds_t.j6] at h, fun _ _ _ _ _ _ _ _ _ _ _ _ r h => by simp [ropewaylaw15_SnapEnds_t.l0] at h, fun _ _ _ _ _ _ _ _ _ _ _ _ _ _ _ _ r h => by simp [ropewaylaw15_SnapEnds_t.j2] at h, fun _ _ _ _ _ _ _ _ _ _ _ _ _ _ _ r h => by simp [ropewaylaw15_SnapEnds_t.j3] at h, fun _ _ _ _ _ _ _ _ _ _ _ _ _ r h => by simp [ropewaylaw15_SnapEnds_t.j4] at h⟩
  | k + 1 => by
    obtain ⟨ih0, ih1, ih2, ih3, ih4, ih5, ih6⟩ := ropewaylaw15_SnapEnds_t.mono_l k
    refine ⟨?_, ?_, ?_, ?_, ?_, ?_, ?_⟩
    · intro y0 y1 y2 y3 y4
      unfold ropewaylaw15_SnapEnds_t.j0
      repeat' first
      | (with_reducible exact ih0 _ _ _ _ _)
      | (with_reducible exact ih1 _ _ _ _ _)
      | (with_reducible exact ih2 _ _ _)
      | (with_reducible exact ih3 _ _ _ _ _ _ _ _ _ _ _ _)
      | (with_reducible exact ih4 _ _ _ _ _ _ _ _ _ _ _ _ _ _ _ _)
      | (with_reducible exact ih5 _ _ _ _ _ _ _ _ _ _ _ _ _ _ _)
      | (with_reducible exact ih6 _ _ _ _ _ _ _ _ _ _ _ _ _)
      | (with_reducible exact ropewaylaw15_snapAlive.mono _)
      | (with_reducible exact ropewayref10_Check.mono _ _)
      | (with_reducible exact ropewayref10_Same.mono _ _ _)
      | (with_reducible exact LeO.refl _)
      | (with_reducible exact LeO.none _)
      | (with_reducible refine LeO.ite ?_ ?_)
      | (with_reducible refine LeO.bind ?_ (fun _ => ?_))
      | exact ih0 _ _ _ _ _
      | exact ih1 _ _ _ _ _
      | exact ih2 _ _ _
      | exact ih3 _ _ _ _ _ _ _ _ _ _ _ _
      | exact ih4 _ _ _ _ _ _ _ _ _ _ _ _ _ _ _ _
      | exact ih5 _ _ _ _ _ _ _ _ _ _ _ _ _ _ _
      | exact ih6 _ _ _ _ _ _ _ _ _ _ _ _ _
      | exact ropewaylaw15_snapAlive.mono _
      | exact ropewayref10_Check.mono _ _
      | exact ropewayref10_Same.mono _ _ _
      | exact LeO.none _
      | refine LeO.ite ?_ ?_
      | refine LeO.bind ?_ (fun _ => ?_)
    · intro y0 y1 y2 y3 y4
      unfold ropewaylaw15_SnapEnds_t.j5
      repeat' first
      | (with_reducible exact ih0 _ _ _ _ _)
      | (with_reducible exact ih1 _ _ _ _ _)
      | (with_reducible exact ih2 _ _ _)
      | (with_reducible exact ih3 _ _ _ _ _ _ _ _ _ _ _ _)
      | (with_reducible exact ih4 _ _ _ _ _ _ _ _ _ _ _ _ _ _ _ _)
      | (with_reducible exact ih5 _ _ _ _ _ _ _ _ _ _ _ _ _ _ _)
      | (with_reducible exact ih6 _ _ _ _ _ _ _ _ _ _ _ _ _)
      | (with_reducible exact ropewaylaw15_snapAlive.mono _)
      | (with_reducible exact ropewayref10_Check.mono _ _)
      | (with_reducible exact ropewayref10_Same.mono _ _ _)
      | (with_reducible exact LeO.refl _)
      | (with_reducible exact LeO.none _)
      | (with_reducible refine LeO.ite ?_ ?_)
      | (with_reducible refine LeO.bind ?_ (fun _ => ?_))
      | exact ih0 _ _ _ _ _
      | exact ih1 _ _ _ _ _
      | exact ih2 _ _ _
      | exact ih3 _ _ _ _ _ _ _ _ _ _ _ _
      | exact ih4 _ _ _ _ _ _ _ _ _ _ _ _ _ _ _ _
      | exact ih5 _ _ _ _ _ _ _ _ _ _ _ _ _ _ _
      | exact ih6 _ _ _ _ _ _ _ _ _ _ _ _ _
      | exact ropewaylaw15_snapAlive.mono _
      | exact ropewayref10_Check.mono _ _
      | exact ropewayref10_Same.mono _ _ _
      | exact LeO.none _
      | refine LeO.ite ?_ ?_
      | refine LeO.bind ?_ (fun _ => ?_)
    · intro y0 y1 y2
      unfold ropewaylaw15_SnapEnds_t.j6
      repeat' first
      | (with_reducible exact ih0 _ _ _ _ _)
      | (with_reducible exact ih1 _ _ _ _ _)
      | (with_reducible exact ih2 _ _ _)
      | (with_reducible exact ih3 _ _ _ _ _ _ _ _ _ _ _ _)
      | (with_reducible exact ih4 _ _ _ _ _ _ _ _ _ _ _ _ _ _ _ _)
      | (with_reducible exact ih5 _ _ _ _ _ _ _ _ _ _ _ _ _ _ _)
      | (with_reducible exact ih6 _ _ _ _ _ _ _ _ _ _ _ _ _)
      | (with_reducible exact ropewaylaw15_snapAlive.mono _)
      | (with_reducible exact ropewayref10_Check.mono _ _)
      | (with_reducible exact ropewayref10_Same.mono _ _ _)
      | (with_reducible exact LeO.refl _)
      | (with_reducible exact LeO.none _)
      | (with_reducible refine LeO.ite ?_ ?_)
      | (with_reducible refine LeO.bind ?_ (fun _ => ?_))
      | exact ih0 _ _ _ _ _
      | exact ih1 _ _ _ _ _
      | exact ih2 _ _ _
      | exact ih3 _ _ _ _ _ _ _ _ _ _ _ _
      | exact ih4 _ _ _ _ _ _ _ _ _ _ _ _ _ _ _ _
      | exact ih5 _ _ _ _ _ _ _ _ _ _ _ _ _ _ _
      | exact ih6 _ _ _ _ _ _ _ _ _ _ _ _ _
      | exact ropewaylaw15_snapAlive.mono _
      | exact ropewayref10_Check.mono _ _
      | exact ropewayref10_Same.mono _ _ _
      | exact LeO.none _
      | refine LeO.ite ?_ ?_
      | refine LeO.bind ?_ (fun _ => ?_)
    · intro y0 y1 y2 y3 y4 y5 y6 y7 y8 y9 y10 y11
      unfold ropewaylaw15_SnapEnds_t.l0
      repeat' first
      | (with_reducible exact ih0 _ _ _ _ _)
      | (with_reducible exact ih1 _ _ _ _ _)
      | (with_reducible exact ih2 _ _ _)
      | (with_reducible exact ih3 _ _ _ _ _ _ _ _ _ _ _ _)
      | (with_reducible exact ih4 _ _ _ _ _ _ _ _ _ _ _ _ _ _ _ _)
      | (with_reducible exact ih5 _ _ _ _ _ _ _ _ _ _ _ _ _ _ _)
      | (with_reducible exact ih6 _ _ _ _ _ _ _ _ _ _ _ _ _)
      | (with_reducible exact ropewaylaw15_snapAlive.mono _)
      | (with_reducible exact ropewayref10_Check.mono _ _)
      | (with_reducible exact ropewayref10_Same.mono _ _ _)
      | (with_reducible exact LeO.refl _)
      | (with_reducible exact LeO.none _)
      | (with_reducible refine LeO.ite ?_ ?_)
      | (with_reducible refine LeO.bind ?_ (fun _ => ?_))
      | exact ih0 _ _ _ _ _
      | exact ih1 _ _ _ _ _
      | exact ih2 _ _ _
      | exact ih3 _ _ _ _ _ _ _ _ _ _ _ _
      | exact ih4 _ _ _ _ _ _ _ _ _ _ _ _ _ _ _ _
      | exact ih5 _ _ _ _ _ _ _ _ _ _ _ _ _ _ _
      | exact ih6 _ _ _ _ _ _ _ _ _ _ _ _ _
      | exact ropewaylaw15_snapAlive.mono _
      | exact ropewayref10_Check.mono _ _
      | exact ropewayref10_Same.mono _ _ _
      | exact LeO.none _
      | refine LeO.ite ?_ ?_
      | refine LeO.bind ?_ (fun _ => ?_)
    · intro y0 y1 y2 y3 y4 y5 y6 y7 y8 y9 y10 y11 y12 y13 y14 y15
      unfold ropewaylaw15_SnapEnds_t.j2
      repeat' first
      | (with_reducible exact ih0 _ _ _ _ _)
      | (with_reducible exact ih1 _ _ _ _ _)
      | (with_reducible exact ih2 _ _ _)
      | (with_reducible exact ih3 _ _ _ _ _ _ _ _ _ _ _ _)
      | (with_reducible exact ih4 _ _ _ _ _ _ _ _ _ _ _ _ _ _ _ _)
      | (with_reducible exact ih5 _ _ _ _ _ _ _ _ _ _ _ _ _ _ _)
      | (with_reducible exact ih6 _ _ _ _ _ _ _ _ _ _ _ _ _)
      | (with_reducible exact ropewaylaw15_snapAlive.mono _)
      | (with_reducible exact ropewayref10_Check.mono _ _)
      | (with_reducible exact ropewayref10_Same.mono _ _ _)
      | (with_reducible exact LeO.refl _)
      | (with_reducible exact LeO.none _)
      | (with_reducible refine LeO.ite ?_ ?_)
      | (with_reducible refine LeO.bind ?_ (fun _ => ?_))
      | exact ih0 _ _ _ _ _
      | exact ih1 _ _ _ _ _
      | exact ih2 _ _ _
      | exact ih3 _ _ _ _ _ _ _ _ _ _ _ _
      | exact ih4 _ _ _ _ _ _ _ _ _ _ _ _ _ _ _ _
      | exact ih5 _ _ _ _ _ _ _ _ _ _ _ _ _ _ _
      | exact ih6 _ _ _ _ _ _ _ _ _ _ _ _ _
      | exact ropewaylaw15_snapAlive.mono _
      | exact ropewayref10_Check.mono _ _
      | exact ropewayref10_Same.mono _ _ _
      | exact LeO.none _
      | refine LeO.ite ?_ ?_
      | refine LeO.bind ?_ (fun _ => ?_)
    · intro y0 y1 y2 y3 y4 y5 y6 y7 y8 y9 y10 y11 y12 y13 y14
      unfold ropewaylaw15_SnapEnds_t.j3
      repeat' first
      | (with_reducible exact ih0 _ _ _ _ _)
      | (with_reducible exact ih1 _ _ _ _ _)
      | (with_reducible exact ih2 _ _ _)
      | (with_reducible exact ih3 _ _ _ _ _ _ _ _ _ _ _ _)
      | (with_reducible exact ih4 _ _ _ _ _ _ _ _ _ _ _ _ _ _ _ _)
      | (with_reducible exact ih5 _ _ _ _ _ _ _ _ _ _ _ _ _ _ _)
      | (with_reducible exact ih6 _ _ _ _ _ _ _ _ _ _ _ _ _)
      | (with_reducible exact ropewaylaw15_snapAlive.mono _)
      | (with_reducible exact ropewayref10_Check.mono _ _)
      | (with_reducible exact ropewayref10_Same.mono _ _ _)
      | (with_reducible exact LeO.refl _)
      | (with_reducible exact LeO.none _)
      | (with_reducible refine LeO.ite ?_ ?_)
      | (with_reducible refine LeO.bind ?_ (fun _ => ?_))
      | exact ih0 _ _ _ _ _
      | exact ih1 _ _ _ _ _
      | exact ih2 _ _ _
      | exact ih3 _ _ _ _ _ _ _ _ _ _ _ _
      | exact ih4 _ _ _ _ _ _ _ _ _ _ _ _ _ _ _ _
      | exact ih5 _ _ _ _ _ _ _ _ _ _ _ _ _ _ _
      | exact ih6 _ _ _ _ _ _ _ _ _ _ _ _ _
      | exact ropewaylaw15_snapAlive.mono _
      | exact ropewayref10_Check.mono _ _
      | exact ropewayref10_Same.mono _ _ _
      | exact LeO.none _
      | refine LeO.ite ?_ ?_
      | refine LeO.bind ?_ (fun _ => ?_)
    · intro y0 y1 y2 y3 y4 y5 y6 y7 y8 y9 y10 y11 y12
      unfold ropewaylaw15_SnapEnds_t.j4
      repeat' first
      | (with_reducible exact ih0 _ _ _ _ _)
      | (with_reducible exact ih1 _ _ _ _ _)
      | (with_reducible exact ih2 _ _ _)
      | (with_reducible exact ih3 _ _ _ _ _ _ _ _ _ _ _ _)
      | (with_reducible exact ih4 _ _ _ _ _ _ _ _ _ _ _ _ _ _ _ _)
      | (with_reducible exact ih5 _ _ _ _ _ _ _ _ _ _ _ _ _ _ _)
      | (with_reducible exact ih6 _ _ _ _ _ _ _ _ _ _ _ _ _)
      | (with_reducible exact ropewaylaw15_snapAlive.mono _)
      | (with_reducible exact ropewayref10_Check.mono _ _)
      | (with_reducible exact ropewayref10_Same.mono _ _ _)
      | (with_reducible exact LeO.refl _)
      | (with_reducible exact LeO.none _)
      | (with_reducible refine LeO.ite ?_ ?_)
      | (with_reducible refine LeO.bind ?_ (fun _ => ?_))
      | exact ih0 _ _ _ _ _
      | exact ih1 _ _ _ _ _
      | exact ih2 _ _ _
      | exact ih3 _ _ _ _ _ _ _ _ _ _ _ _
      | exact ih4 _ _ _ _ _ _ _ _ _ _ _ _ _ _ _ _
      | exact ih5 _ _ _ _ _ _ _ _ _ _ _ _ _ _ _
      | exact ih6 _ _ _ _ _ _ _ _ _ _ _ _ _
      | exact ropewaylaw15_snapAlive.mono _
      | exact ropewayref10_Check.mono _ _
      | exact ropewayref10_Same.mono _ _ _
      | exact LeO.none _
      | refine LeO.ite ?_ ?_
      | refine LeO.bind ?_ (fun _ => ?_)
theorem ropewaylaw15_SnapEnds_t.mono : ∀ a0 a1 a2 a3 k, LeO (ropewaylaw15_SnapEnds_t.f k a0 a1 a2 a3) (ropewaylaw15_SnapEnds_t.f (k + 1) a0 a1 a2 a3) := by
  intro a0 a1 a2 a3 k
  obtain ⟨ih0, ih1, ih2, ih3, ih4, ih5, ih6⟩ := ropewaylaw15_SnapEnds_t.mono_l k
  unfold ropewaylaw15_SnapEnds_t.f
  repeat' first
      | (with_reducible exact ih0 _ _ _ _ _)
      | (with_reducible exact ih1 _ _ _ _ _)
      | (with_reducible exact ih2 _ _ _)
      | (with_reducible exact ih3 _ _ _ _ _ _ _ _ _ _ _ _)
      | (with_reducible exact ih4 _ _ _ _ _ _ _ _ _ _ _ _ _ _ _ _)
      | (with_reducible exact ih5 _ _ _ _ _ _ _ _ _ _ _ _ _ _ _)
      | (with_reducible exact ih6 _ _ _ _ _ _ _ _ _ _ _ _ _)
      | (with_reducible exact ropewaylaw15_snapAlive.mono _)
      | (with_reducible exact ropewayref10_Check.mono _ _)
      | (with_reducible exact ropewayref10_Same.mono _ _ _)
      | (with_reducible exact LeO.refl _)
      | (with_reducible exact LeO.none _)
      | (with_reducible refine LeO.ite ?_ ?_)
      | (with_reducible refine LeO.bind ?_ (fun _ => ?_))
      | exact ih0 _ _ _ _ _
      | exact ih1 _ _ _ _ _
      | exact ih2 _ _ _
      | exact ih3 _ _ _ _ _ _ _ _ _ _ _ _
      | exact ih4 _ _ _ _ _ _ _ _ _ _ _ _ _ _ _ _
      | exact ih5 _ _ _ _ _ _ _ _ _ _ _ _ _ _ _
      | exact ih6 _ _ _ _ _ _ _ _ _ _ _ _ _
      | exact ropewaylaw15_snapAlive.mono _
      | exact ropewayref10_Check.mono _ _
      | exact ropewayref10_Same.mono _ _ _
      | exact LeO.none _
      | refine LeO.ite ?_ ?_
      | refine LeO.bind ?_ (fun _ => ?_)
set_option maxHeartbeats 8000000 in
set_option maxRecDepth 100000 in
theorem ropewaylaw15_SnapEnds_t.calls (k : Nat)  (a1_0 : Int) (a1_1 : Int) (a1_2 : Int) (P2_ : Nat → Prop) (A2 : Option Addr) (c2 : Nat) (l2 : List (List (S34))) (r : Bool) (w : World) (hs2 : Kd.V (Kd.slice 34 k34) 27 w w.heap.size (fun k_ => P2_ k_) (.slice A2 l2.length c2) l2) (hr1_ : Aside0 (r = true)) (h : ropewaylaw15_SnapEnds_t.f k a1_0 a1_1 a1_2 l2 = some r) :
    Calls Try.prog 5 #[.bool true, .agg #[.int .i64 a1_0, .int .i64 a1_1, .int .i64 a1_2], .slice A2 l2.length c2] w fun e w' => e = .returned (.bool r) ∧ Below w.heap.size w w' := by
  have hu34 := Try.underlying34
  have hu26 := Try.underlying26
  have HO2 := zM (show Kd.V (Kd.slice 34 k34) 27 w w.heap.size (fun k_ => (P2_ k_ ∨ w.heap.size ≤ k_)) (.slice A2 l2.length c2) l2 from Kd.V_mono hs2 (fun k_ hk => .inl hk))
  have HB := zM (Below.refl w.heap.size w)
  have H : ((ropewaylaw15_snapAlive.f k).bind fun t185 => (if t185 = true then (if (l2.length : Int) > 20 then (ropewaylaw15_SnapEnds_t.j0 k l2 true a1_0 a1_1 a1_2) else (if a1_0 < 0 then (ropewaylaw15_SnapEnds_t.j0 k l2 true a1_0 a1_1 a1_2) else (if a1_0 > 5 then (ropewaylaw15_SnapEnds_t.j0 k l2 true a1_0 a1_1 a1_2) else ((ropewayref04_Right.f a1_1 a1_2).bind fun t186 => (if t186 = true then (ropewaylaw15_SnapEnds_t.j0 k l2 (a1_1 == 0 && (a1_2 == 0)) a1_0 a1_1 a1_2) else (ropewaylaw15_SnapEnds_t.j0 k l2 true a1_0 a1_1 a1_2)))))) else (some false))) = some r := h
  clear h
  go_enter Try.func5, Try.ntmps5
  have tk5 : True := trivial
  go_upto_region 1 with (first | ((with_reducible refine gate_dst (N := 4) rfl ?_); clear tk5; (try (refine gate_guard (by rfl) ?_; dsimp only)); refine box_event ?hg (N := 4) ?hd (cs := #[.int .i64 a1_0, .int .i64 a1_1, .int .i64 a1_2]) (t := 34) ?hr ?_; (case hd => rfl); (case hg => rfl); (case hr => first | (go_simp; done) | (go_simp; rfl)); intro gb184 hg w4 hbox hb; replace HO2 := zM (Kd.V_below (Kd.V_elderB (rv_ HO2) gb184 (Nat.le_of_eq hg.symm)) hb); have BK184 := zM (hbox); have GW184 := zM (bs_ hg); have GE184 := zM (bs_ hg); replace HB := zM (zB bel_ hb); clear hb hbox hg))
  replace H := Option.bind_eq_some_iff.mp H
  obtain ⟨t185, A60, H⟩ := H
  replace H : (if t185 = true then (if (l2.length : Int) > 20 then (ropewaylaw15_SnapEnds_t.j0 k l2 true a1_0 a1_1 a1_2) else (if a1_0 < 0 then (ropewaylaw15_SnapEnds_t.j0 k l2 true a1_0 a1_1 a1_2) else (if a1_0 > 5 then (ropewaylaw15_SnapEnds_t.j0 k l2 true a1_0 a1_1 a1_2) else ((ropewayref04_Right.f a1_1 a1_2).bind fun t186 => (if t186 = true then (ropewaylaw15_SnapEnds_t.j0 k l2 (a1_1 == 0 && (a1_2 == 0)) a1_0 a1_1 a1_2) else (ropewaylaw15_SnapEnds_t.j0 k l2 true a1_0 a1_1 a1_2)))))) else (some false)) = some r := H
  have A6 := zM A60
  clear A60
  by_cases c7 : t185 = true
  rotate_left
  · replace c7 := Bool.eq_false_iff.mpr c7
    subst c7
    have H1 : (some false) = some r := by rw [if_neg (show ¬ (false = true) by decide)] at H; exact H
    clear H
    have H := H1
    clear H1
    have tk350 : True := trivial
    go_upto_region 2 with (first | (go_at_call 10; (with_reducible refine (ropewaylaw15_snapAlive.calls k  false _ A6.out).mono ?_); clear tk350; rintro e w349 ⟨rfl, hb⟩; replace HO2 := zM (Kd.V_below (rv_ HO2) hb); replace BK184 := zM (bb_ BK184 hb); replace HB := zM (zB bel_ hb); (try clear hb); (try clear hi)))
    exact absurd (Option.some.inj H) (by rw [hr1_.out]; decide)
  as_aux_lemma =>
   subst c7
   have H1 : (if (l2.length : Int) > 20 then (ropewaylaw15_SnapEnds_t.j0 k l2 true a1_0 a1_1 a1_2) else (if a1_0 < 0 then (ropewaylaw15_SnapEnds_t.j0 k l2 true a1_0 a1_1 a1_2) else (if a1_0 > 5 then (ropewaylaw15_SnapEnds_t.j0 k l2 true a1_0 a1_1 a1_2) else ((ropewayref04_Right.f a1_1 a1_2).bind fun t186 => (if t186 = true then (ropewaylaw15_SnapEnds_t.j0 k l2 (a1_1 == 0 && (a1_2 == 0)) a1_0 a1_1 a1_2) else (ropewaylaw15_SnapEnds_t.j0 k l2 true a1_0 a1_1 a1_2)))))) = some r := by rw [if_pos rfl] at H; exact H
   clear H
   have H := H1
   clear H1
   have tk9 : True := trivial
   go_upto_region 3 with (first | (go_at_call 10; (with_reducible refine (ropewaylaw15_snapAlive.calls k  true _ A6.out).mono ?_); clear tk9; rintro e w8 ⟨rfl, hb⟩; replace HO2 := zM (Kd.V_below (rv_ HO2) hb); replace BK184 := zM (bb_ BK184 hb); replace HB := zM (zB bel_ hb); (try clear hb); (try clear hi)))
   have HC10 := zM H
   clear H
   go_upto_region 3 with (fail)
   go_cut [44] (fun v44 wc => ∃ (kq : Nat) (x44_9 : Bool), v44 = .bool x44_9 ∧ Aside0 (ropewaylaw15_SnapEnds_t.j0 kq l2 x44_9 a1_0 a1_1 a1_2 = some r) ∧ Aside0 (kq ≤ k) ∧ Aside0 (Kd.V (Kd.slice 34 k34) 27 wc w.heap.size (fun k_ => (P2_ k_ ∨ w.heap.size ≤ k_) ∧ k_ ≠ gb184) (.slice A2 l2.length c2) l2) ∧ Aside0 (wc.heap[gb184]? = some (.cells #[.int .i64 a1_0, .int .i64 a1_1, .int .i64 a1_2] 34 (0, 0))) ∧ Aside0 (Below w.heap.size w wc))
   case first => as_aux_lemma =>
    have H := HC10.out
    clear HC10
    by_cases c11 : (l2.length : Int) > 20
    · rw [if_pos c11] at H
      have c11b0 : decide (20 < (l2.length : Int)) = true := decide_eq_true c11
      have c11b1 : decide (20 < l2.length) = true := decide_eq_true (by omega)
      clear c11
      (first | rw [c11b0] | (simp only [i64_w, i32_w]; rw [c11b0]) | skip)
      have H' := zM H
      clear H
      go_wp2
      go_meet
      case rel => exact ⟨_, (true), (by first | rfl | (simp; done) | (simp [*]; done) | (simp; grind)), H', ⟨by first | omega | exact Nat.le_refl _⟩, ⟨rv_ HO2⟩, ⟨blf_⟩, ⟨bel_⟩⟩
    rw [if_neg c11] at H
    have c11b0 : decide (20 < (l2.length : Int)) = false := decide_eq_false c11
    have c11b1 : decide (20 < l2.length) = false := decide_eq_false (by omega)
    clear c11
    (first | rw [c11b0] | (simp only [i64_w, i32_w]; rw [c11b0]) | skip)
    by_cases c12 : a1_0 < 0
    · rw [if_pos c12] at H
      have c12b0 : decide (a1_0 < 0) = true := decide_eq_true c12
      clear c12
      have H' := zM H
      clear H
      have hcz13_0 : w8.cell? ⟨gb184, 0, none⟩ = some (.int .i64 a1_0) := (zL BK184.out 0).trans rfl
      have hcz13_1 : w8.cell? ⟨gb184, 1, none⟩ = some (.int .i64 a1_1) := (zL BK184.out 1).trans rfl
      have hcz13_2 : w8.cell? ⟨gb184, 2, none⟩ = some (.int .i64 a1_2) := (zL BK184.out 2).trans rfl
      have hfz13_0 := zF BK184.out 0
      have hfz13_1 := zF BK184.out 1
      have hfz13_2 := zF BK184.out 2
      go_wp2
      go_meet
      case rel => exact ⟨_, (true), (by first | rfl | (simp; done) | (simp [*]; done) | (simp; grind)), H', ⟨by first | omega | exact Nat.le_refl _⟩, ⟨rv_ HO2⟩, ⟨blf_⟩, ⟨bel_⟩⟩
    rw [if_neg c12] at H
    have c12b0 : decide (a1_0 < 0) = false := decide_eq_false c12
    clear c12
    by_cases c14 : a1_0 > 5
    · rw [if_pos c14] at H
      have c14b0 : decide (5 < a1_0) = true := decide_eq_true c14
      clear c14
      have H' := zM H
      clear H
      have hcz15_0 : w8.cell? ⟨gb184, 0, none⟩ = some (.int .i64 a1_0) := (zL BK184.out 0).trans rfl
      have hcz15_1 : w8.cell? ⟨gb184, 1, none⟩ = some (.int .i64 a1_1) := (zL BK184.out 1).trans rfl
      have hcz15_2 : w8.cell? ⟨gb184, 2, none⟩ = some (.int .i64 a1_2) := (zL BK184.out 2).trans rfl
      have hfz15_0 := zF BK184.out 0
      have hfz15_1 := zF BK184.out 1
      have hfz15_2 := zF BK184.out 2
      go_wp2
      go_meet
      case rel => exact ⟨_, (true), (by first | rfl | (simp; done) | (simp [*]; done) | (simp; grind)), H', ⟨by first | omega | exact Nat.le_refl _⟩, ⟨rv_ HO2⟩, ⟨blf_⟩, ⟨bel_⟩⟩
    rw [if_neg c14] at H
    have c14b0 : decide (5 < a1_0) = false := decide_eq_false c14
    clear c14
    replace H := Option.bind_eq_some_iff.mp H
    obtain ⟨t186, A160, H⟩ := H
    replace H : (if t186 = true then (ropewaylaw15_SnapEnds_t.j0 k l2 (a1_1 == 0 && (a1_2 == 0)) a1_0 a1_1 a1_2) else (ropewaylaw15_SnapEnds_t.j0 k l2 true a1_0 a1_1 a1_2)) = some r := H
    have A16 := zM A160
    clear A160
    by_cases c17 : t186 = true
    rotate_left
    · replace c17 := Bool.eq_false_iff.mpr c17
      subst c17
      have H1 : (ropewaylaw15_SnapEnds_t.j0 k l2 true a1_0 a1_1 a1_2) = some r := by rw [if_neg (show ¬ (false = true) by decide)] at H; exact H
      clear H
      have H := H1
      clear H1
      have H' := zM H
      clear H
      have hcz22_0 : w8.cell? ⟨gb184, 0, none⟩ = some (.int .i64 a1_0) := (zL BK184.out 0).trans rfl
      have hcz22_1 : w8.cell? ⟨gb184, 1, none⟩ = some (.int .i64 a1_1) := (zL BK184.out 1).trans rfl
      have hcz22_2 : w8.cell? ⟨gb184, 2, none⟩ = some (.int .i64 a1_2) := (zL BK184.out 2).trans rfl
      have hfz22_0 := zF BK184.out 0
      have hfz22_1 := zF BK184.out 1
      have hfz22_2 := zF BK184.out 2
      have tk24 : True := trivial
      go_wp2_with (first | (go_at_call 13; (with_reducible refine (ropewayref04_Right.calls a1_1 a1_2 false _ A16.out).mono ?_); clear tk24; rintro e w23 ⟨rfl, hb⟩; replace HO2 := zM (Kd.V_below (rv_ HO2) hb); replace BK184 := zM (bb_ BK184 hb); replace HB := zM (zB bel_ hb); (try clear hb); (try clear hi)))
      go_meet
      case rel => exact ⟨_, (true), (by first | rfl | (simp; done) | (simp [*]; done) | (simp; grind)), H', ⟨by first | omega | exact Nat.le_refl _⟩, ⟨rv_ HO2⟩, ⟨blf_⟩, ⟨bel_⟩⟩
    subst c17
    have H1 : (ropewaylaw15_SnapEnds_t.j0 k l2 (a1_1 == 0 && (a1_2 == 0)) a1_0 a1_1 a1_2) = some r := by rw [if_pos rfl] at H; exact H
    clear H
    have H := H1
    clear H1
    have H' := zM H
    clear H
    have hcz18_0 : w8.cell? ⟨gb184, 0, none⟩ = some (.int .i64 a1_0) := (zL BK184.out 0).trans rfl
    have hcz18_1 : w8.cell? ⟨gb184, 1, none⟩ = some (.int .i64 a1_1) := (zL BK184.out 1).trans rfl
    have hcz18_2 : w8.cell? ⟨gb184, 2, none⟩ = some (.int .i64 a1_2) := (zL BK184.out 2).trans rfl
    have hfz18_0 := zF BK184.out 0
    have hfz18_1 := zF BK184.out 1
    have hfz18_2 := zF BK184.out 2
    have tk20 : True := trivial
    go_wp2_with (first | (go_at_call 13; (with_reducible refine (ropewayref04_Right.calls a1_1 a1_2 true _ A16.out).mono ?_); clear tk20; rintro e w19 ⟨rfl, hb⟩; replace HO2 := zM (Kd.V_below (rv_ HO2) hb); replace BK184 := zM (bb_ BK184 hb); replace HB := zM (zB bel_ hb); (try clear hb); have hcz21_0 : w19.cell? ⟨gb184, 0, none⟩ = some (.int .i64 a1_0) := (zL BK184.out 0).trans rfl; have hcz21_1 : w19.cell? ⟨gb184, 1, none⟩ = some (.int .i64 a1_1) := (zL BK184.out 1).trans rfl; have hcz21_2 : w19.cell? ⟨gb184, 2, none⟩ = some (.int .i64 a1_2) := (zL BK184.out 2).trans rfl; have hfz21_0 := zF BK184.out 0; have hfz21_1 := zF BK184.out 1; have hfz21_2 := zF BK184.out 2))
    go_meet
    case rel => exact ⟨_, ((a1_1 == 0 && (a1_2 == 0))), (by first | rfl | (simp; done) | (simp [*]; done) | (simp; grind)), H', ⟨by first | omega | exact Nat.le_refl _⟩, ⟨rv_ HO2⟩, ⟨blf_⟩, ⟨bel_⟩⟩
   case rest => as_aux_lemma =>
    clear HC10
    try clear c2
    try clear c7
    try clear c11
    try clear c11b0
    try clear c11b1
    try clear c12
    try clear c12b0
    try clear c14
    try clear c14b0
    try clear c17
    try clear hcz13_0
    try clear hcz13_1
    try clear hcz13_2
    try clear hcz15_0
    try clear hcz15_1
    try clear hcz15_2
    try clear hcz18_0
    try clear hcz18_1
    try clear hcz18_2
    try clear hcz21_0
    try clear hcz21_1
    try clear hcz21_2
    try clear hcz22_0
    try clear hcz22_1
    try clear hcz22_2
    try clear hfz13_0
    try clear hfz13_1
    try clear hfz13_2
    try clear hfz15_0
    try clear hfz15_1
    try clear hfz15_2
    try clear hfz18_0
    try clear hfz18_1
    try clear hfz18_2
    try clear hfz21_0
    try clear hfz21_1
    try clear hfz21_2
    try clear hfz22_0
    try clear hfz22_1
    try clear hfz22_2
    obtain ⟨kq, x44_9, rfl, HA, HJ9, HO_2, BK184, HB⟩ := hcut
    cases kq with
    | zero => exact absurd HA.out (by simp [ropewaylaw15_SnapEnds_t.j0])
    | succ kj9 =>
     have H := HA.out
     clear HA
     simp only [ropewaylaw15_SnapEnds_t.j0] at H
     by_cases c25 : x44_9 = true
     · subst c25
       have H1 : (some true) = some r := by rw [if_pos rfl] at H; exact H
       clear H
       have H := H1
       clear H1
       obtain rfl := Option.some.inj H
       go_wp2
       go_ret
       exact ⟨by first | rfl | (simp [errW_none, errW_some] <;> rfl) | (simp [*, errW_none, errW_some] <;> rfl), bel_⟩
     replace c25 := Bool.eq_false_iff.mpr c25
     subst c25
     have H1 : (ropewaylaw15_SnapEnds_t.l0 kj9 l2 0 (([] : List (S34))) l2 (l2.length : Int) 0 a1_0 a1_1 a1_2 (([(⟨a1_0, (⟨a1_1, a1_2⟩ : S26)⟩ : S34)] : List (S34))) 0 ([] : List (S34))) = some r := by rw [if_neg (show ¬ (false = true) by decide)] at H; exact H
     clear H
     have H := H1
     clear H1
     have tk26 : True := trivial
     have tk28 : True := trivial
     have tk29 : True := trivial
     go_upto_region 6 with (first | ((with_reducible refine gate_callee (f := 7) rfl ?_); clear tk26; refine goL_ (some 45) Try.func7 #[] ?_; go_enter Try.func7, Try.ntmps7) | ((with_reducible refine gate_dst (N := 2) rfl ?_); clear tk28; (try (refine gate_guard (by rfl) ?_; dsimp only)); refine box_event ?hg (N := 2) ?hd (cs := #[.slice none 0 0, .int .i64 0, .slice none 0 0]) (t := 61) ?hr ?_; (case hd => rfl); (case hg => rfl); (case hr => first | (go_simp; done) | (go_simp; rfl)); intro gb187 hg w27 hbox hb; replace HO_2 := zM (Kd.V_below (Kd.V_elderB (rv_ HO_2) gb187 (Nat.le_of_eq hg.symm)) hb); have BK187 := zM (hbox); have GW187 := zM (bs_ hg); have GE187 := zM (bs_ hg); replace HB := zM (zB bel_ hb); have NB184_187 := zM (nl_ BK184 hg); have NB187_184 := zM (ng_ BK184 hg); replace BK184 := zM (bb_ BK184 hb); clear hb hbox hg) | (clear tk29; (first | go_ret | go_ret2 | go_ret3 | go_end0); with_reducible refine inl_back_ ?_))
     obtain ⟨y189, hy189⟩ : ∃ y_ : List (S34), y_ = (([(⟨a1_0, (⟨a1_1, a1_2⟩ : S26)⟩ : S34)] : List (S34))) := ⟨_, rfl⟩
     replace H : (ropewaylaw15_SnapEnds_t.l0 kj9 l2 0 (([] : List (S34))) l2 (l2.length : Int) 0 a1_0 a1_1 a1_2 y189 0 ([] : List (S34))) = some r := by first | (rw [hy189]; with_reducible exact H) | (have H2_ := (Option.bind_some _ _).symm.trans H; rw [hy189]; with_reducible exact H2_) | (have H2_ := (Option.bind_some _ _).symm.trans H; with_reducible exact H2_) | with_reducible exact H | (rw [hy189]; exact H) | exact H
     have Ny189 := zM hy189
     clear hy189
     have hnb30 := NB184_187.out
     have hnc30 := NB187_184.out
     have hcz31_0 : w27.cell? ⟨gb184, 0, none⟩ = some (.int .i64 a1_0) := (zL BK184.out 0).trans rfl
     have hcz31_1 : w27.cell? ⟨gb184, 1, none⟩ = some (.int .i64 a1_1) := (zL BK184.out 1).trans rfl
     have hcz31_2 : w27.cell? ⟨gb184, 2, none⟩ = some (.int .i64 a1_2) := (zL BK184.out 2).trans rfl
     have hfz31_0 := zF BK184.out 0
     have hfz31_1 := zF BK184.out 1
     have hfz31_2 := zF BK184.out 2
     have tk32 : True := trivial
     have tk34 : True := trivial
     have tk40 : True := trivial
     have tk43 : True := trivial
     have tk44 : True := trivial
     go_upto_region 8 with (first | ((with_reducible refine gate_callee (f := 8) rfl ?_); clear tk32; refine goL_ (some 51) Try.func8 #[.int .i64 a1_0, .agg #[.int .i64 a1_1, .int .i64 a1_2]] ?_; go_enter Try.func8, Try.ntmps8) | ((with_reducible refine gate_dst (N := 3) rfl ?_); clear tk34; (try (refine gate_guard (by rfl) ?_; dsimp only)); refine box_event ?hg (N := 3) ?hd (cs := #[.int .i64 a1_1, .int .i64 a1_2]) (t := 26) ?hr ?_; (case hd => rfl); (case hg => rfl); (case hr => first | (go_simp; done) | (go_simp; rfl)); intro gb188 hg w33 hbox hb; replace HO_2 := zM (Kd.V_below (Kd.V_elderB (rv_ HO_2) gb188 (Nat.le_of_eq hg.symm)) hb); have BK188 := zM (hbox); have GW188 := zM (bs_ hg); have GE188 := zM (bs_ hg); replace HB := zM (zB bel_ hb); have NB184_188 := zM (nl_ BK184 hg); have NB188_184 := zM (ng_ BK184 hg); replace BK184 := zM (bb_ BK184 hb); have NB187_188 := zM (nl_ BK187 hg); have NB188_187 := zM (ng_ BK187 hg); replace BK187 := zM (bb_ BK187 hb); clear hb hbox hg; have hnb35 := NB188_184.out; have hnc35 := NB184_188.out; have hnb36 := NB188_187.out; have hnc36 := NB187_188.out; have hcz37_0 : w33.cell? ⟨gb188, 0, none⟩ = some (.int .i64 a1_1) := (zL BK188.out 0).trans rfl; have hcz37_1 : w33.cell? ⟨gb188, 1, none⟩ = some (.int .i64 a1_2) := (zL BK188.out 1).trans rfl; have hfz37_0 := zF BK188.out 0; have hfz37_1 := zF BK188.out 1) | ((with_reducible refine gate_dst (N := 8) rfl ?_); clear tk40; (try (refine gate_guard (by rfl) ?_; dsimp only)); refine Kd.R_lit k34 _ 34 ?hg (N := 8) ?hd (xs := ([(⟨a1_0, (⟨a1_1, a1_2⟩ : S26)⟩ : S34)] : List (S34))) (inner := [.int .i64 a1_0, .int .i64 a1_1, .int .i64 a1_2]) (ok := fun _ => True) (okp := fun _ => True) ?hr ?hp (fun _ hk => hk) trivial (Below.refl _ _) (Nat.le_refl _) (by simp) ?_; (case hd => rfl); (case hg => rfl); (case hr => first | (go_simp; done) | (go_simp; rfl)); (case hp => exact (Reps.c3 (show Kd.M k34 _ _ _ (⟨a1_0, (⟨a1_1, a1_2⟩ : S26)⟩ : S34) [.int .i64 a1_0, .int .i64 a1_1, .int .i64 a1_2] from (k34_mkM _ _ _ (⟨a1_0, (⟨a1_1, a1_2⟩ : S26)⟩ : S34) )) (Reps.none _ _))); intro v190 w38 ho39 hb hg_ hnew_; clear hg_ hnew_; (first | rw [← Ny189.out] at ho39 | (simp only [Int.reduceToNat] at ho39; rw [← Ny189.out] at ho39)); replace HO_2 := zM (Kd.V_elder' (rv_ HO_2) (Kd.R_base ho39) hb); have HO191 := zM (Kd.R_lower (Kd.R_newB (Kd.R_newM (M := fun k_ => (w.heap.size ≤ k_)) ho39 (below_size bel_) (fun k_ h_ => h_)) (g := gb184) (o := .cells #[.int .i64 a1_0, .int .i64 a1_1, .int .i64 a1_2] 34 (0, 0)) blk_) (below_size bel_)); replace BK184 := zM (bb_ BK184 hb); replace BK187 := zM (bb_ BK187 hb); replace BK188 := zM (bb_ BK188 hb); replace HB := zM (zB bel_ hb); clear hb ho39; obtain ⟨Ao41, co41, eo41⟩ := Kd.R_slice HO191.out; subst eo41) | ((with_reducible refine gate_dst (N := 10) rfl ?_); clear tk43; (try (refine gate_guard (by rfl) ?_; dsimp only)); refine box_event ?hg (N := 10) ?hd (cs := #[.slice Ao41 y189.length co41, .int .i64 0, .slice none 0 0]) (t := 61) ?hr ?_; (case hd => rfl); (case hg => rfl); (case hr => first | (go_simp; done) | (go_simp; rfl)); intro gb192 hg w42 hbox hb; replace HO_2 := zM (Kd.V_below (Kd.V_elderB (rv_ HO_2) gb192 (Nat.le_of_eq hg.symm)) hb); replace HO191 := zM (Kd.R_below (rl_ HO191) hb); have BK192 := zM (hbox); have GW192 := zM (bs_ hg); have GE192 := zM (bs_ hg); replace HB := zM (zB bel_ hb); have NB184_192 := zM (nl_ BK184 hg); have NB192_184 := zM (ng_ BK184 hg); replace BK184 := zM (bb_ BK184 hb); have NB187_192 := zM (nl_ BK187 hg); have NB192_187 := zM (ng_ BK187 hg); replace BK187 := zM (bb_ BK187 hb); have NB188_192 := zM (nl_ BK188 hg); have NB192_188 := zM (ng_ BK188 hg); replace BK188 := zM (bb_ BK188 hb); clear hb hbox hg) | (clear tk44; (first | go_ret | go_ret2 | go_ret3 | go_end0); with_reducible refine inl_back_ ?_))
     try clear hcz37_0
     try clear hcz37_1
     try clear hfz37_0
     try clear hfz37_1
     try clear hnb35
     try clear hnb36
     try clear hnc35
     try clear hnc36
     obtain ⟨y193, hy193⟩ : ∃ y_ : List (S34), y_ = (([] : List (S34))) := ⟨_, rfl⟩
     replace H : (ropewaylaw15_SnapEnds_t.l0 kj9 l2 0 y193 l2 (l2.length : Int) 0 a1_0 a1_1 a1_2 y189 0 ([] : List (S34))) = some r := by first | (rw [hy193]; with_reducible exact H) | (have H2_ := (Option.bind_some _ _).symm.trans H; rw [hy193]; with_reducible exact H2_) | (have H2_ := (Option.bind_some _ _).symm.trans H; with_reducible exact H2_) | with_reducible exact H | (rw [hy193]; exact H) | exact H
     have Ny193 := zM hy193
     clear hy193
     have tk47 : True := trivial
     go_upto_region 10 with (first | ((with_reducible refine gate_dst (N := 52) rfl ?_); clear tk47; (try (refine gate_guard (by rfl) ?_; dsimp only)); refine Kd.R_lit k34 _ 34 ?hg (N := 52) ?hd (xs := ([] : List (S34))) (inner := []) (ok := fun _ => True) (okp := fun _ => True) ?hr ?hp (fun _ hk => hk) trivial (Below.refl _ _) (Nat.le_refl _) (by simp) ?_; (case hd => rfl); (case hg => rfl); (case hr => first | (go_simp; done) | (go_simp; rfl)); (case hp => exact (Reps.none _ _)); intro v194 w45 ho46 hb hg_ hnew_; clear hg_ hnew_; (first | rw [← Ny193.out] at ho46 | (simp only [Int.reduceToNat] at ho46; rw [← Ny193.out] at ho46)); replace HO_2 := zM (Kd.V_elder' (rv_ HO_2) (Kd.R_base ho46) hb); have HO195 := zM (Kd.R_lower (Kd.R_newB (Kd.R_new' (Kd.R_newM (M := fun k_ => (w.heap.size ≤ k_)) ho46 (below_size bel_) (fun k_ h_ => h_)) (Kd.R_lt (rl_ HO191))) (g := gb184) (o := .cells #[.int .i64 a1_0, .int .i64 a1_1, .int .i64 a1_2] 34 (0, 0)) blk_) (below_size bel_)); replace HO191 := zM (Kd.R_elder' (rl_ HO191) (Kd.R_base ho46) hb); replace BK184 := zM (bb_ BK184 hb); replace BK187 := zM (bb_ BK187 hb); replace BK188 := zM (bb_ BK188 hb); replace BK192 := zM (bb_ BK192 hb); replace HB := zM (zB bel_ hb); clear hb ho46))
     have HC48 := zM H
     clear H
     go_upto_block 0 with (fail)
     go_cut [8] (fun v8 wc => ∃ (kq : Nat) (x8_47 : Int) (x188001_47 : Int) (x193001_47 : Int) (x193002_47 : List (S34)) (u193002 : Value), v8 = .int .i64 x8_47 ∧ Aside0 (ropewaylaw15_SnapEnds_t.j5 kq l2 x8_47 y189 x193001_47 x193002_47 = some r) ∧ Aside0 (kq ≤ kj9) ∧ Aside0 (Kd.V (Kd.slice 34 k34) 27 wc w.heap.size (fun k_ => (P2_ k_ ∨ w.heap.size ≤ k_) ∧ some k_ ≠ ((.slice Ao41 y189.length co41) : Value).ownBlock ∧ some k_ ≠ (u193002 : Value).ownBlock ∧ k_ ≠ gb184 ∧ k_ ≠ gb187 ∧ k_ ≠ gb188 ∧ k_ ≠ gb192) (.slice A2 l2.length c2) l2) ∧ Aside0 (Kd.R k34 34 wc w.heap.size (fun k_ => (w.heap.size ≤ k_) ∧ some k_ ≠ (u193002 : Value).ownBlock ∧ k_ ≠ gb184) (.slice Ao41 y189.length co41) y189) ∧ Aside0 (Kd.R k34 34 wc w.heap.size (fun k_ => (w.heap.size ≤ k_) ∧ some k_ ≠ ((.slice Ao41 y189.length co41) : Value).ownBlock ∧ k_ ≠ gb184) u193002 x193002_47) ∧ Aside0 (wc.heap[gb184]? = some (.cells #[.int .i64 a1_0, .int .i64 a1_1, .int .i64 a1_2] 34 (0, 0))) ∧ Aside0 (wc.heap[gb187]? = some (.cells #[(.slice none 0 0), .int .i64 x188001_47, (.slice none 0 0)] 61 (0, 0))) ∧ Aside0 (wc.heap[gb188]? = some (.cells #[.int .i64 a1_1, .int .i64 a1_2] 26 (0, 0))) ∧ Aside0 (wc.heap[gb192]? = some (.cells #[(.slice Ao41 y189.length co41), .int .i64 x193001_47, u193002] 61 (0, 0))) ∧ Aside0 (Below w.heap.size w wc))
     case first => as_aux_lemma =>
      have H := HC48.out
      clear HC48
      have H' := zM H
      clear H
      go_wp2
      go_loopg [8, 9, 55] kj9 (fun kq v8 v9 v55 w' => ∃ (x8_2 : Int) (x9_2 : List (S34)) (x55_2 : Int) (x188001_2 : Int) (x193001_2 : Int) (x193002_2 : List (S34)) (u193002 : Value), v8 = .int .i64 x8_2 ∧ v55 = .int .i64 x55_2 ∧ Aside0 (ropewaylaw15_SnapEnds_t.l0 kq l2 x8_2 x9_2 l2 (l2.length : Int) x55_2 a1_0 a1_1 a1_2 y189 x193001_2 x193002_2 = some r) ∧ Aside0 (kq ≤ kj9) ∧ Aside0 (Kd.V (Kd.slice 34 k34) 27 w' w.heap.size (fun k_ => (P2_ k_ ∨ w.heap.size ≤ k_) ∧ some k_ ≠ ((.slice Ao41 y189.length co41) : Value).ownBlock ∧ some k_ ≠ (u193002 : Value).ownBlock ∧ k_ ≠ gb184 ∧ k_ ≠ gb187 ∧ k_ ≠ gb188 ∧ k_ ≠ gb192) (.slice A2 l2.length c2) l2) ∧ Aside0 (Kd.V k34 34 w' w.heap.size (fun k_ => (P2_ k_ ∨ w.heap.size ≤ k_) ∧ some k_ ≠ ((.slice Ao41 y189.length co41) : Value).ownBlock ∧ some k_ ≠ (u193002 : Value).ownBlock ∧ k_ ≠ gb184 ∧ k_ ≠ gb187 ∧ k_ ≠ gb188 ∧ k_ ≠ gb192) v9 x9_2) ∧ Aside0 (Kd.V (Kd.slice 34 k34) 27 w' w.heap.size (fun k_ => (P2_ k_ ∨ w.heap.size ≤ k_) ∧ some k_ ≠ ((.slice Ao41 y189.length co41) : Value).ownBlock ∧ some k_ ≠ (u193002 : Value).ownBlock ∧ k_ ≠ gb184 ∧ k_ ≠ gb187 ∧ k_ ≠ gb188 ∧ k_ ≠ gb192) (.slice A2 l2.length c2) l2) ∧ Aside0 (Kd.R k34 34 w' w.heap.size (fun k_ => (w.heap.size ≤ k_) ∧ some k_ ≠ (u193002 : Value).ownBlock ∧ k_ ≠ gb184) (.slice Ao41 y189.length co41) y189) ∧ Aside0 (Kd.R k34 34 w' w.heap.size (fun k_ => (w.heap.size ≤ k_) ∧ some k_ ≠ ((.slice Ao41 y189.length co41) : Value).ownBlock ∧ k_ ≠ gb184) u193002 x193002_2) ∧ Aside0 (w'.heap[gb184]? = some (.cells #[.int .i64 a1_0, .int .i64 a1_1, .int .i64 a1_2] 34 (0, 0))) ∧ Aside0 (w'.heap[gb187]? = some (.cells #[(.slice none 0 0), .int .i64 x188001_2, (.slice none 0 0)] 61 (0, 0))) ∧ Aside0 (w'.heap[gb188]? = some (.cells #[.int .i64 a1_1, .int .i64 a1_2] 26 (0, 0))) ∧ Aside0 (w'.heap[gb192]? = some (.cells #[(.slice Ao41 y189.length co41), .int .i64 x193001_2, u193002] 61 (0, 0))) ∧ Aside0 (Below w.heap.size w w'))
      case atStart => exact ⟨(0), (y193), (0), (0), (0), (([] : List (S34))), (.slice none 0 0), (by first | rfl | (simp; done) | (simp [*]; done) | (simp; grind)), (by first | rfl | (simp; done) | (simp [*]; done) | (simp; grind)), H', ⟨Nat.le_refl _⟩, ⟨by (with_reducible repeat (first | apply Kd.V_alloc | apply Kd.V_drewN | apply Kd.V_drew)); exact Kd.V_mono HO_2.out (fun _ hk => ⟨hk.1.1.1.1.1.1, ⟨hk.1.1.2, ⟨(by simp [Value.ownBlock]), ⟨hk.1.1.1.1.1.2, ⟨hk.1.1.1.1.2, ⟨hk.1.1.1.2, hk.1.2⟩⟩⟩⟩⟩⟩)⟩, ⟨by first | exact vr_ (by (with_reducible repeat (first | apply Kd.R_alloc | apply Kd.R_drewN | apply Kd.R_drew)); exact Kd.R_mono (Kd.R_types (Kd.R_types (Kd.R_types HO195.out BK187.out (by decide)) BK188.out (by decide)) BK192.out (by decide)) (fun _ hk => ⟨hk.1.1.1.1.1.1, ⟨hk.1.1.1.1.2, ⟨(by simp [Value.ownBlock]), ⟨hk.1.1.1.2, ⟨hk.1.1.2, ⟨hk.1.2, hk.2⟩⟩⟩⟩⟩⟩)) | exact vr0_ (by (with_reducible repeat (first | apply Kd.R_alloc | apply Kd.R_drewN | apply Kd.R_drew)); exact Kd.R_mono (Kd.R_types (Kd.R_types (Kd.R_types HO195.out BK187.out (by decide)) BK188.out (by decide)) BK192.out (by decide)) (fun _ hk => ⟨hk.1.1.1.1.1.1, ⟨hk.1.1.1.1.2, ⟨(by simp [Value.ownBlock]), ⟨hk.1.1.1.2, ⟨hk.1.1.2, ⟨hk.1.2, hk.2⟩⟩⟩⟩⟩⟩))⟩, ⟨by (with_reducible repeat (first | apply Kd.V_alloc | apply Kd.V_drewN | apply Kd.V_drew)); exact Kd.V_mono HO_2.out (fun _ hk => ⟨hk.1.1.1.1.1.1, ⟨hk.1.1.2, ⟨(by simp [Value.ownBlock]), ⟨hk.1.1.1.1.1.2, ⟨hk.1.1.1.1.2, ⟨hk.1.1.1.2, hk.1.2⟩⟩⟩⟩⟩⟩)⟩, ⟨by (with_reducible repeat (first | apply Kd.R_alloc | apply Kd.R_drewN | apply Kd.R_drew)); exact Kd.R_mono HO191.out (fun _ hk => ⟨hk.1.1.1, ⟨(by simp [Value.ownBlock]), hk.1.2⟩⟩)⟩, ⟨by first | exact Kd.R_nil _ _ _ _ _ | exact Kd.N_nil _ _ _ _ _ | exact Kd.V_nil _ _ _ _ _ | exact Kd.Q_nil _ _ _ _ _ | exact Kd.S_nil _ _ _ _ _⟩, ⟨blf_⟩, ⟨blf_⟩, ⟨blf_⟩, ⟨blf_⟩, ⟨bel_⟩⟩
      case round => as_aux_lemma =>
       clear H'
       try clear c2
       try clear c7
       try clear c11
       try clear c11b0
       try clear c11b1
       try clear c12
       try clear c12b0
       try clear c14
       try clear c14b0
       try clear c17
       try clear c25
       try clear hcz13_0
       try clear hcz13_1
       try clear hcz13_2
       try clear hcz15_0
       try clear hcz15_1
       try clear hcz15_2
       try clear hcz18_0
       try clear hcz18_1
       try clear hcz18_2
       try clear hcz21_0
       try clear hcz21_1
       try clear hcz21_2
       try clear hcz22_0
       try clear hcz22_1
       try clear hcz22_2
       try clear hcz31_0
       try clear hcz31_1
       try clear hcz31_2
       try clear hcz37_0
       try clear hcz37_1
       try clear hfz13_0
       try clear hfz13_1
       try clear hfz13_2
       try clear hfz15_0
       try clear hfz15_1
       try clear hfz15_2
       try clear hfz18_0
       try clear hfz18_1
       try clear hfz18_2
       try clear hfz21_0
       try clear hfz21_1
       try clear hfz21_2
       try clear hfz22_0
       try clear hfz22_1
       try clear hfz22_2
       try clear hfz31_0
       try clear hfz31_1
       try clear hfz31_2
       try clear hfz37_0
       try clear hfz37_1
       obtain ⟨x8_2, x9_2, x55_2, x188001_2, x193001_2, x193002_2, u193002, rfl, rfl, HA, HK2, HO_2, HO_9, HO_53, HO_193000, HO_193002, BK184, BK187, BK188, BK192, HB⟩ := hrel
       cases gk with
       | zero => exact absurd HA.out (by simp [ropewaylaw15_SnapEnds_t.l0])
       | succ k2 =>
        have H := HA.out
        clear HA
        simp only [ropewaylaw15_SnapEnds_t.l0] at H
        by_cases c49 : x55_2 < (l2.length : Int)
        rotate_left
        · rw [if_neg c49] at H
          have c49b0 : decide (x55_2 < (l2.length : Int)) = false := decide_eq_false c49
          clear c49
          (first | rw [c49b0] | (simp only [i64_w, i32_w]; rw [c49b0]) | skip)
          have H' := zM H
          clear H
          go_wp2
          go_meet
          case rel => exact ⟨_, (x8_2), (x188001_2), (x193001_2), (x193002_2), (u193002), (by first | rfl | (simp; done) | (simp [*]; done) | (simp; grind)), H', ⟨by have := HJ9.out; have := HK2.out; first | omega | exact Nat.le_refl _⟩, ⟨rv_ HO_2⟩, ⟨by (with_reducible repeat (first | apply Kd.R_alloc | apply Kd.R_drewN | apply Kd.R_drew)); exact HO_193000.out⟩, ⟨by (with_reducible repeat (first | apply Kd.R_alloc | apply Kd.R_drewN | apply Kd.R_drew)); exact HO_193002.out⟩, ⟨blf_⟩, ⟨blf_⟩, ⟨blf_⟩, ⟨blf_⟩, ⟨bel_⟩⟩
        as_aux_lemma =>
         rw [if_pos c49] at H
         have c49b0 : decide (x55_2 < (l2.length : Int)) = true := decide_eq_true c49
         clear c49
         (first | rw [c49b0] | (simp only [i64_w, i32_w]; rw [c49b0]) | skip)
         by_cases c50 : 0 ≤ x55_2
         rotate_left
         · rw [if_neg c50] at H
           exact absurd H (by simp)
         as_aux_lemma =>
          rw [if_pos c50] at H
          have c50b0 : decide (0 ≤ x55_2) = true := decide_eq_true c50
          clear c50
          by_cases c51 : x55_2 < (l2.length : Int)
          rotate_left
          · rw [if_neg c51] at H
            exact absurd H (by simp)
          as_aux_lemma =>
           rw [if_pos c51] at H
           have c51b0 : decide (x55_2 < (l2.length : Int)) = true := decide_eq_true c51
           clear c51
           replace H := Option.bind_eq_some_iff.mp H
           obtain ⟨t197, A520, H⟩ := H
           replace H : (if t197 = 0 then (if x193001_2 = 4 then (ropewaylaw15_SnapEnds_t.j2 k2 l2 x8_2 x9_2 (rd_L3 l2 x55_2) 0 ([] : List (S34)) false l2 (l2.length : Int) x55_2 a1_0 a1_1 a1_2 y189 x193001_2 x193002_2) else (if x193001_2 = 0 then (ropewaylaw15_SnapEnds_t.j2 k2 l2 x8_2 x9_2 (rd_L3 l2 x55_2) 0 ([] : List (S34)) true l2 (l2.length : Int) x55_2 a1_0 a1_1 a1_2 y189 x193001_2 x193002_2) else (if x193001_2 = 2 then (ropewaylaw15_SnapEnds_t.j2 k2 l2 x8_2 x9_2 (rd_L3 l2 x55_2) 0 ([] : List (S34)) true l2 (l2.length : Int) x55_2 a1_0 a1_1 a1_2 y189 x193001_2 x193002_2) else (if x193001_2 = 1 then (if (y189.length : Int) > 0 then (if (x193002_2.length : Int) = 0 then ((api_Cell.f y189).bind fun t198 => (ropewaylaw15_SnapEnds_t.j2 k2 l2 x8_2 x9_2 (rd_L3 l2 x55_2) 1 t198 true l2 (l2.length : Int) x55_2 a1_0 a1_1 a1_2 y189 x193001_2 x193002_2)) else ((api_Cell.f x193002_2).bind fun t201 => (ropewaylaw15_SnapEnds_t.j2 k2 l2 x8_2 x9_2 (rd_L3 l2 x55_2) 1 t201 true l2 (l2.length : Int) x55_2 a1_0 a1_1 a1_2 y189 x193001_2 x193002_2))) else (none)) else ((api_Cell.f x193002_2).bind fun t204 => (ropewaylaw15_SnapEnds_t.j2 k2 l2 x8_2 x9_2 (rd_L3 l2 x55_2) 1 t204 true l2 (l2.length : Int) x55_2 a1_0 a1_1 a1_2 y189 x193001_2 x193002_2)))))) else (some true)) = some r := H
           have A52 := zM A520
           clear A520
           by_cases c53 : t197 = 0
           rotate_left
           · rw [if_neg c53] at H
             have c53b0 : (t197 == 0) = false := beq_eq_false_iff_ne.mpr c53
             have c53b1 : (t197 != 0) = true := bne_iff_ne.mpr c53
             have p196 : 0 ≤ (x55_2 : Int) := of_decide_eq_true (by first | (with_reducible assumption) | assumption)
             have q196 : x55_2 < (l2.length : Int) := of_decide_eq_true (by first | (with_reducible assumption) | assumption)
             obtain ⟨ad196, A196_0, c196_0, e196, hx196_0, hl196_0, hi196_0⟩ := at_L3 (Kd.V_reads' HO_53.out).2.2 x55_2 p196 q196
             cases e196
             obtain ⟨ce196, hce196, hMe196, hcc196⟩ := Kd.V_get HO_53.out [] x55_2 p196 (by first | exact q196 | exact of_decide_eq_true (by first | (with_reducible assumption) | assumption) | (have e_ := (Kd.V_reads' HO_53.out).1; omega))
             obtain ⟨ua196_0, uc196_0, rfl, ul196_0, ge196_0⟩ := Kd.FK_slice_open hMe196
             have hv196_0 := hcc196 0 _ rfl
             rw [Nat.add_zero, show ((Kd.slice 34 k34)).sz = 1 from rfl, Nat.mul_one] at hv196_0
             replace hv196_0 := Option.some.inj (hv196_0.symm.trans hx196_0)
             injection hv196_0 with hva_ hvn_ hvc_
             rw [hva_] at ge196_0
             rw [hvc_] at ul196_0
             have HL196_0 := zM (show Kd.V k34 34 _ w.heap.size _ _ (rd_L3 l2 x55_2) from Kd.V_mk ul196_0 ge196_0)
             clear hva_ hvn_ hvc_ ge196_0 ul196_0
             clear hcc196 hce196
             have HR196_0 := zM hi196_0
             have HC196_0 := zM hl196_0
             clear hi196_0 hl196_0
             replace p196 := eq_true p196
             replace q196 := eq_true q196
             have tk281 : True := trivial
             go_upto_region 14 with (first | (go_at_call 14; (with_reducible refine (ropewayref10_Check.calls k2 _ _ (rd_L3 l2 x55_2) t197 _ ?side1 ?side2 A52.out).mono ?_); (case side1 => repeat (first | exact (Kd.V_reads' HL196_0.out).2.2 | (with_reducible refine Kd.C_alloc ?_ _) | (with_reducible refine Kd.C_drewN ?_ _) | (with_reducible refine Kd.C_drew ?_))); (case side2 => exact (Kd.V_reads' HL196_0.out).2.1); clear tk281; rintro e w280 ⟨rfl, hb⟩; replace HO_2 := zM (Kd.V_below (rv_ HO_2) hb); replace HO_9 := zM (Kd.V_below (rv_ HO_9) hb); replace HO_53 := zM (Kd.V_below (rv_ HO_53) hb); replace HO_193000 := zM (Kd.R_below (rl_ HO_193000) hb); replace HO_193002 := zM (Kd.R_below (rl_ HO_193002) hb); replace HL196_0 := zM (Kd.V_below (rv_ HL196_0) hb); replace BK184 := zM (bb_ BK184 hb); replace BK187 := zM (bb_ BK187 hb); replace BK188 := zM (bb_ BK188 hb); replace BK192 := zM (bb_ BK192 hb); replace HR196_0 := zM (Kd.C_below (cv_ HR196_0) hb); replace HB := zM (zB bel_ hb); (try clear hb); (try clear hi)))
             obtain rfl := Option.some.inj H
             go_wp2
             go_ret
             exact ⟨by first | rfl | (simp [errW_none, errW_some] <;> rfl) | (simp [*, errW_none, errW_some] <;> rfl), bel_⟩
           as_aux_lemma =>
            rw [if_pos c53] at H
            have c53b0 : (t197 == 0) = true := beq_iff_eq.mpr c53
            have c53b1 : (t197 != 0) = false := bne_eq_false_iff_eq.mpr c53
            clear c53
            have p196 : 0 ≤ (x55_2 : Int) := of_decide_eq_true (by first | (with_reducible assumption) | assumption)
            have q196 : x55_2 < (l2.length : Int) := of_decide_eq_true (by first | (with_reducible assumption) | assumption)
            obtain ⟨ad196, A196_0, c196_0, e196, hx196_0, hl196_0, hi196_0⟩ := at_L3 (Kd.V_reads' HO_53.out).2.2 x55_2 p196 q196
            cases e196
            obtain ⟨ce196, hce196, hMe196, hcc196⟩ := Kd.V_get HO_53.out [] x55_2 p196 (by first | exact q196 | exact of_decide_eq_true (by first | (with_reducible assumption) | assumption) | (have e_ := (Kd.V_reads' HO_53.out).1; omega))
            obtain ⟨ua196_0, uc196_0, rfl, ul196_0, ge196_0⟩ := Kd.FK_slice_open hMe196
            have hv196_0 := hcc196 0 _ rfl
            rw [Nat.add_zero, show ((Kd.slice 34 k34)).sz = 1 from rfl, Nat.mul_one] at hv196_0
            replace hv196_0 := Option.some.inj (hv196_0.symm.trans hx196_0)
            injection hv196_0 with hva_ hvn_ hvc_
            rw [hva_] at ge196_0
            rw [hvc_] at ul196_0
            have HL196_0 := zM (show Kd.V k34 34 _ w.heap.size _ _ (rd_L3 l2 x55_2) from Kd.V_mk ul196_0 ge196_0)
            clear hva_ hvn_ hvc_ ge196_0 ul196_0
            clear hcc196 hce196
            have HR196_0 := zM hi196_0
            have HC196_0 := zM hl196_0
            clear hi196_0 hl196_0
            replace p196 := eq_true p196
            replace q196 := eq_true q196
            have tk55 : True := trivial
            go_upto_region 15 with (first | (go_at_call 14; (with_reducible refine (ropewayref10_Check.calls k2 _ _ (rd_L3 l2 x55_2) t197 _ ?side1 ?side2 A52.out).mono ?_); (case side1 => repeat (first | exact (Kd.V_reads' HL196_0.out).2.2 | (with_reducible refine Kd.C_alloc ?_ _) | (with_reducible refine Kd.C_drewN ?_ _) | (with_reducible refine Kd.C_drew ?_))); (case side2 => exact (Kd.V_reads' HL196_0.out).2.1); clear tk55; rintro e w54 ⟨rfl, hb⟩; replace HO_2 := zM (Kd.V_below (rv_ HO_2) hb); replace HO_9 := zM (Kd.V_below (rv_ HO_9) hb); replace HO_53 := zM (Kd.V_below (rv_ HO_53) hb); replace HO_193000 := zM (Kd.R_below (rl_ HO_193000) hb); replace HO_193002 := zM (Kd.R_below (rl_ HO_193002) hb); replace HL196_0 := zM (Kd.V_below (rv_ HL196_0) hb); replace BK184 := zM (bb_ BK184 hb); replace BK187 := zM (bb_ BK187 hb); replace BK188 := zM (bb_ BK188 hb); replace BK192 := zM (bb_ BK192 hb); replace HR196_0 := zM (Kd.C_below (cv_ HR196_0) hb); replace HB := zM (zB bel_ hb); (try clear hb); (try clear hi)))
            have HC56 := zM H
            clear H
            go_upto_region 15 with (fail)
            go_cut [12, 13, 14] (fun v12 v13 v14 wc => ∃ (kq : Nat) (x12_55 : Int) (x13_55 : List (S34)) (x14_55 : Bool) (x188001_55 : Int) (x193001_55 : Int), v12 = .int .i64 x12_55 ∧ v14 = .bool x14_55 ∧ Aside0 (ropewaylaw15_SnapEnds_t.j2 kq l2 x8_2 x9_2 (rd_L3 l2 x55_2) x12_55 x13_55 x14_55 l2 (l2.length : Int) x55_2 a1_0 a1_1 a1_2 y189 x193001_55 x193002_2 = some r) ∧ Aside0 (kq ≤ k2) ∧ Aside0 (Kd.V (Kd.slice 34 k34) 27 wc w.heap.size (fun k_ => (P2_ k_ ∨ w.heap.size ≤ k_) ∧ some k_ ≠ (v13 : Value).ownBlock ∧ some k_ ≠ ((.slice Ao41 y189.length co41) : Value).ownBlock ∧ some k_ ≠ (u193002 : Value).ownBlock ∧ k_ ≠ gb184 ∧ k_ ≠ gb187 ∧ k_ ≠ gb188 ∧ k_ ≠ gb192) (.slice (some ad196) l2.length c2) l2) ∧ Aside0 (Kd.V k34 34 wc w.heap.size (fun k_ => (P2_ k_ ∨ w.heap.size ≤ k_) ∧ some k_ ≠ (v13 : Value).ownBlock ∧ some k_ ≠ ((.slice Ao41 y189.length co41) : Value).ownBlock ∧ some k_ ≠ (u193002 : Value).ownBlock ∧ k_ ≠ gb184 ∧ k_ ≠ gb187 ∧ k_ ≠ gb188 ∧ k_ ≠ gb192) u9 x9_2) ∧ Aside0 (Kd.V k34 34 wc w.heap.size (fun k_ => (P2_ k_ ∨ w.heap.size ≤ k_) ∧ some k_ ≠ (v13 : Value).ownBlock ∧ some k_ ≠ ((.slice Ao41 y189.length co41) : Value).ownBlock ∧ some k_ ≠ (u193002 : Value).ownBlock ∧ k_ ≠ gb184 ∧ k_ ≠ gb187 ∧ k_ ≠ gb188 ∧ k_ ≠ gb192) (.slice A196_0 (rd_L3 l2 x55_2).length c196_0) (rd_L3 l2 x55_2)) ∧ Aside0 (Kd.R k34 34 wc w.heap.size (fun k_ => (w.heap.size ≤ k_) ∧ some k_ ≠ ((.slice Ao41 y189.length co41) : Value).ownBlock ∧ some k_ ≠ (u193002 : Value).ownBlock ∧ k_ ≠ gb184) v13 x13_55) ∧ Aside0 (Kd.V (Kd.slice 34 k34) 27 wc w.heap.size (fun k_ => (P2_ k_ ∨ w.heap.size ≤ k_) ∧ some k_ ≠ (v13 : Value).ownBlock ∧ some k_ ≠ ((.slice Ao41 y189.length co41) : Value).ownBlock ∧ some k_ ≠ (u193002 : Value).ownBlock ∧ k_ ≠ gb184 ∧ k_ ≠ gb187 ∧ k_ ≠ gb188 ∧ k_ ≠ gb192) (.slice (some ad196) l2.length c2) l2) ∧ Aside0 (Kd.R k34 34 wc w.heap.size (fun k_ => (w.heap.size ≤ k_) ∧ some k_ ≠ (v13 : Value).ownBlock ∧ some k_ ≠ (u193002 : Value).ownBlock ∧ k_ ≠ gb184) (.slice Ao41 y189.length co41) y189) ∧ Aside0 (Kd.R k34 34 wc w.heap.size (fun k_ => (w.heap.size ≤ k_) ∧ some k_ ≠ (v13 : Value).ownBlock ∧ some k_ ≠ ((.slice Ao41 y189.length co41) : Value).ownBlock ∧ k_ ≠ gb184) u193002 x193002_2) ∧ Aside0 (wc.heap[gb184]? = some (.cells #[.int .i64 a1_0, .int .i64 a1_1, .int .i64 a1_2] 34 (0, 0))) ∧ Aside0 (wc.heap[gb187]? = some (.cells #[(.slice none 0 0), .int .i64 x188001_55, (.slice none 0 0)] 61 (0, 0))) ∧ Aside0 (wc.heap[gb188]? = some (.cells #[.int .i64 a1_1, .int .i64 a1_2] 26 (0, 0))) ∧ Aside0 (wc.heap[gb192]? = some (.cells #[(.slice Ao41 y189.length co41), .int .i64 x193001_55, u193002] 61 (0, 0))) ∧ Aside0 (Kd.C k34 wc A196_0 (rd_L3 l2 x55_2).length (rd_L3 l2 x55_2)) ∧ Aside0 (Below w.heap.size w wc))
            case first => as_aux_lemma =>
             have H := HC56.out
             clear HC56
             by_cases c57 : x193001_2 = 4
             · rw [if_pos c57] at H
               have c57b0 : (x193001_2 == 4) = true := beq_iff_eq.mpr c57
               have c57b1 : (x193001_2 != 4) = false := bne_eq_false_iff_eq.mpr c57
               clear c57
               (first | rw [c57b0] | (simp only [i64_w, i32_w]; rw [c57b0]) | skip)
               have H' := zM H
               clear H
               have tk58 : True := trivial
               have tk63 : True := trivial
               go_wp2_with (first | ((with_reducible refine gate_callee (f := 9) rfl ?_); clear tk58; refine goL_ (some 64) Try.func9 #[.pointer (some ⟨gb192, 0, none⟩)] ?_; go_enter Try.func9, Try.ntmps9; have hnb59 := NB192_184.out; have hnc59 := NB184_192.out; have hnb60 := NB192_187.out; have hnc60 := NB187_192.out; have hnb61 := NB192_188.out; have hnc61 := NB188_192.out; have hcz62_0 : w54.cell? ⟨gb192, 0, none⟩ = some (.slice Ao41 y189.length co41) := (zL BK192.out 0).trans rfl; have hcz62_1 : w54.cell? ⟨gb192, 1, none⟩ = some (.int .i64 x193001_2) := (zL BK192.out 1).trans rfl; have hcz62_2 : w54.cell? ⟨gb192, 2, none⟩ = some (u193002) := (zL BK192.out 2).trans rfl; have hfz62_0 := zF BK192.out 0; have hfz62_1 := zF BK192.out 1; have hfz62_2 := zF BK192.out 2) | (clear tk63; (first | go_ret | go_ret2 | go_ret3 | go_end0); with_reducible refine inl_back_ ?_))
               go_meet
               case rel => exact ⟨_, (0), (([] : List (S34))), (false), (x188001_2), (x193001_2), (by first | rfl | (simp; done) | (simp [*]; done) | (simp; grind)), (by first | rfl | (simp; done) | (simp [*]; done) | (simp; grind)), H', ⟨by have := HJ9.out; have := HK2.out; first | omega | exact Nat.le_refl _⟩, ⟨by (with_reducible repeat (first | apply Kd.V_alloc | apply Kd.V_drewN | apply Kd.V_drew)); exact Kd.V_mono HO_2.out (fun _ hk => ⟨hk.1, ⟨(by simp [Value.ownBlock]), ⟨hk.2.1, ⟨hk.2.2.1, ⟨hk.2.2.2.1, ⟨hk.2.2.2.2.1, ⟨hk.2.2.2.2.2.1, hk.2.2.2.2.2.2⟩⟩⟩⟩⟩⟩⟩)⟩, ⟨by (with_reducible repeat (first | apply Kd.V_alloc | apply Kd.V_drewN | apply Kd.V_drew)); exact Kd.V_mono HO_9.out (fun _ hk => ⟨hk.1, ⟨(by simp [Value.ownBlock]), ⟨hk.2.1, ⟨hk.2.2.1, ⟨hk.2.2.2.1, ⟨hk.2.2.2.2.1, ⟨hk.2.2.2.2.2.1, hk.2.2.2.2.2.2⟩⟩⟩⟩⟩⟩⟩)⟩, ⟨by (with_reducible repeat (first | apply Kd.V_alloc | apply Kd.V_drewN | apply Kd.V_drew)); exact Kd.V_mono HL196_0.out (fun _ hk => ⟨hk.1, ⟨(by simp [Value.ownBlock]), ⟨hk.2.1, ⟨hk.2.2.1, ⟨hk.2.2.2.1, ⟨hk.2.2.2.2.1, ⟨hk.2.2.2.2.2.1, hk.2.2.2.2.2.2⟩⟩⟩⟩⟩⟩⟩)⟩, ⟨by first | exact Kd.R_nil _ _ _ _ _ | exact Kd.N_nil _ _ _ _ _ | exact Kd.V_nil _ _ _ _ _ | exact Kd.Q_nil _ _ _ _ _ | exact Kd.S_nil _ _ _ _ _⟩, ⟨by (with_reducible repeat (first | apply Kd.V_alloc | apply Kd.V_drewN | apply Kd.V_drew)); exact Kd.V_mono HO_53.out (fun _ hk => ⟨hk.1, ⟨(by simp [Value.ownBlock]), ⟨hk.2.1, ⟨hk.2.2.1, ⟨hk.2.2.2.1, ⟨hk.2.2.2.2.1, ⟨hk.2.2.2.2.2.1, hk.2.2.2.2.2.2⟩⟩⟩⟩⟩⟩⟩)⟩, ⟨by (with_reducible repeat (first | apply Kd.R_alloc | apply Kd.R_drewN | apply Kd.R_drew)); exact Kd.R_mono HO_193000.out (fun _ hk => ⟨hk.1, ⟨(by simp [Value.ownBlock]), ⟨hk.2.1, hk.2.2⟩⟩⟩)⟩, ⟨by (with_reducible repeat (first | apply Kd.R_alloc | apply Kd.R_drewN | apply Kd.R_drew)); exact Kd.R_mono HO_193002.out (fun _ hk => ⟨hk.1, ⟨(by simp [Value.ownBlock]), ⟨hk.2.1, hk.2.2⟩⟩⟩)⟩, ⟨blf_⟩, ⟨blf_⟩, ⟨blf_⟩, ⟨blf_⟩, ⟨cv_ HR196_0⟩, ⟨bel_⟩⟩
             rw [if_neg c57] at H
             have c57b0 : (x193001_2 == 4) = false := beq_eq_false_iff_ne.mpr c57
             have c57b1 : (x193001_2 != 4) = true := bne_iff_ne.mpr c57
             (first | rw [c57b0] | (simp only [i64_w, i32_w]; rw [c57b0]) | skip)
             by_cases c64 : x193001_2 = 0
             · rw [if_pos c64] at H
               have c64b0 : (x193001_2 == 0) = true := beq_iff_eq.mpr c64
               have c64b1 : (x193001_2 != 0) = false := bne_eq_false_iff_eq.mpr c64
               clear c64
               have H' := zM H
               clear H
               have tk65 : True := trivial
               have tk70 : True := trivial
               go_wp2_with (first | ((with_reducible refine gate_callee (f := 9) rfl ?_); clear tk65; refine goL_ (some 64) Try.func9 #[.pointer (some ⟨gb192, 0, none⟩)] ?_; go_enter Try.func9, Try.ntmps9; have hnb66 := NB192_184.out; have hnc66 := NB184_192.out; have hnb67 := NB192_187.out; have hnc67 := NB187_192.out; have hnb68 := NB192_188.out; have hnc68 := NB188_192.out; have hcz69_0 : w54.cell? ⟨gb192, 0, none⟩ = some (.slice Ao41 y189.length co41) := (zL BK192.out 0).trans rfl; have hcz69_1 : w54.cell? ⟨gb192, 1, none⟩ = some (.int .i64 x193001_2) := (zL BK192.out 1).trans rfl; have hcz69_2 : w54.cell? ⟨gb192, 2, none⟩ = some (u193002) := (zL BK192.out 2).trans rfl; have hfz69_0 := zF BK192.out 0; have hfz69_1 := zF BK192.out 1; have hfz69_2 := zF BK192.out 2) | (clear tk70; (first | go_ret | go_ret2 | go_ret3 | go_end0); with_reducible refine inl_back_ ?_))
               go_meet
               case rel => exact ⟨_, (0), (([] : List (S34))), (true), (x188001_2), (x193001_2), (by first | rfl | (simp; done) | (simp [*]; done) | (simp; grind)), (by first | rfl | (simp; done) | (simp [*]; done) | (simp; grind)), H', ⟨by have := HJ9.out; have := HK2.out; first | omega | exact Nat.le_refl _⟩, ⟨by (with_reducible repeat (first | apply Kd.V_alloc | apply Kd.V_drewN | apply Kd.V_drew)); exact Kd.V_mono HO_2.out (fun _ hk => ⟨hk.1, ⟨(by simp [Value.ownBlock]), ⟨hk.2.1, ⟨hk.2.2.1, ⟨hk.2.2.2.1, ⟨hk.2.2.2.2.1, ⟨hk.2.2.2.2.2.1, hk.2.2.2.2.2.2⟩⟩⟩⟩⟩⟩⟩)⟩, ⟨by (with_reducible repeat (first | apply Kd.V_alloc | apply Kd.V_drewN | apply Kd.V_drew)); exact Kd.V_mono HO_9.out (fun _ hk => ⟨hk.1, ⟨(by simp [Value.ownBlock]), ⟨hk.2.1, ⟨hk.2.2.1, ⟨hk.2.2.2.1, ⟨hk.2.2.2.2.1, ⟨hk.2.2.2.2.2.1, hk.2.2.2.2.2.2⟩⟩⟩⟩⟩⟩⟩)⟩, ⟨by (with_reducible repeat (first | apply Kd.V_alloc | apply Kd.V_drewN | apply Kd.V_drew)); exact Kd.V_mono HL196_0.out (fun _ hk => ⟨hk.1, ⟨(by simp [Value.ownBlock]), ⟨hk.2.1, ⟨hk.2.2.1, ⟨hk.2.2.2.1, ⟨hk.2.2.2.2.1, ⟨hk.2.2.2.2.2.1, hk.2.2.2.2.2.2⟩⟩⟩⟩⟩⟩⟩)⟩, ⟨by first | exact Kd.R_nil _ _ _ _ _ | exact Kd.N_nil _ _ _ _ _ | exact Kd.V_nil _ _ _ _ _ | exact Kd.Q_nil _ _ _ _ _ | exact Kd.S_nil _ _ _ _ _⟩, ⟨by (with_reducible repeat (first | apply Kd.V_alloc | apply Kd.V_drewN | apply Kd.V_drew)); exact Kd.V_mono HO_53.out (fun _ hk => ⟨hk.1, ⟨(by simp [Value.ownBlock]), ⟨hk.2.1, ⟨hk.2.2.1, ⟨hk.2.2.2.1, ⟨hk.2.2.2.2.1, ⟨hk.2.2.2.2.2.1, hk.2.2.2.2.2.2⟩⟩⟩⟩⟩⟩⟩)⟩, ⟨by (with_reducible repeat (first | apply Kd.R_alloc | apply Kd.R_drewN | apply Kd.R_drew)); exact Kd.R_mono HO_193000.out (fun _ hk => ⟨hk.1, ⟨(by simp [Value.ownBlock]), ⟨hk.2.1, hk.2.2⟩⟩⟩)⟩, ⟨by (with_reducible repeat (first | apply Kd.R_alloc | apply Kd.R_drewN | apply Kd.R_drew)); exact Kd.R_mono HO_193002.out (fun _ hk => ⟨hk.1, ⟨(by simp [Value.ownBlock]), ⟨hk.2.1, hk.2.2⟩⟩⟩)⟩, ⟨blf_⟩, ⟨blf_⟩, ⟨blf_⟩, ⟨blf_⟩, ⟨cv_ HR196_0⟩, ⟨bel_⟩⟩
             rw [if_neg c64] at H
             have c64b0 : (x193001_2 == 0) = false := beq_eq_false_iff_ne.mpr c64
             have c64b1 : (x193001_2 != 0) = true := bne_iff_ne.mpr c64
             by_cases c71 : x193001_2 = 2
             · rw [if_pos c71] at H
               have c71b0 : (x193001_2 == 2) = true := beq_iff_eq.mpr c71
               have c71b1 : (x193001_2 != 2) = false := bne_eq_false_iff_eq.mpr c71
               clear c71
               have H' := zM H
               clear H
               have tk72 : True := trivial
               have tk77 : True := trivial
               go_wp2_with (first | ((with_reducible refine gate_callee (f := 9) rfl ?_); clear tk72; refine goL_ (some 64) Try.func9 #[.pointer (some ⟨gb192, 0, none⟩)] ?_; go_enter Try.func9, Try.ntmps9; have hnb73 := NB192_184.out; have hnc73 := NB184_192.out; have hnb74 := NB192_187.out; have hnc74 := NB187_192.out; have hnb75 := NB192_188.out; have hnc75 := NB188_192.out; have hcz76_0 : w54.cell? ⟨gb192, 0, none⟩ = some (.slice Ao41 y189.length co41) := (zL BK192.out 0).trans rfl; have hcz76_1 : w54.cell? ⟨gb192, 1, none⟩ = some (.int .i64 x193001_2) := (zL BK192.out 1).trans rfl; have hcz76_2 : w54.cell? ⟨gb192, 2, none⟩ = some (u193002) := (zL BK192.out 2).trans rfl; have hfz76_0 := zF BK192.out 0; have hfz76_1 := zF BK192.out 1; have hfz76_2 := zF BK192.out 2) | (clear tk77; (first | go_ret | go_ret2 | go_ret3 | go_end0); with_reducible refine inl_back_ ?_))
               go_meet
               case rel => exact ⟨_, (0), (([] : List (S34))), (true), (x188001_2), (x193001_2), (by first | rfl | (simp; done) | (simp [*]; done) | (simp; grind)), (by first | rfl | (simp; done) | (simp [*]; done) | (simp; grind)), H', ⟨by have := HJ9.out; have := HK2.out; first | omega | exact Nat.le_refl _⟩, ⟨by (with_reducible repeat (first | apply Kd.V_alloc | apply Kd.V_drewN | apply Kd.V_drew)); exact Kd.V_mono HO_2.out (fun _ hk => ⟨hk.1, ⟨(by simp [Value.ownBlock]), ⟨hk.2.1, ⟨hk.2.2.1, ⟨hk.2.2.2.1, ⟨hk.2.2.2.2.1, ⟨hk.2.2.2.2.2.1, hk.2.2.2.2.2.2⟩⟩⟩⟩⟩⟩⟩)⟩, ⟨by (with_reducible repeat (first | apply Kd.V_alloc | apply Kd.V_drewN | apply Kd.V_drew)); exact Kd.V_mono HO_9.out (fun _ hk => ⟨hk.1, ⟨(by simp [Value.ownBlock]), ⟨hk.2.1, ⟨hk.2.2.1, ⟨hk.2.2.2.1, ⟨hk.2.2.2.2.1, ⟨hk.2.2.2.2.2.1, hk.2.2.2.2.2.2⟩⟩⟩⟩⟩⟩⟩)⟩, ⟨by (with_reducible repeat (first | apply Kd.V_alloc | apply Kd.V_drewN | apply Kd.V_drew)); exact Kd.V_mono HL196_0.out (fun _ hk => ⟨hk.1, ⟨(by simp [Value.ownBlock]), ⟨hk.2.1, ⟨hk.2.2.1, ⟨hk.2.2.2.1, ⟨hk.2.2.2.2.1, ⟨hk.2.2.2.2.2.1, hk.2.2.2.2.2.2⟩⟩⟩⟩⟩⟩⟩)⟩, ⟨by first | exact Kd.R_nil _ _ _ _ _ | exact Kd.N_nil _ _ _ _ _ | exact Kd.V_nil _ _ _ _ _ | exact Kd.Q_nil _ _ _ _ _ | exact Kd.S_nil _ _ _ _ _⟩, ⟨by (with_reducible repeat (first | apply Kd.V_alloc | apply Kd.V_drewN | apply Kd.V_drew)); exact Kd.V_mono HO_53.out (fun _ hk => ⟨hk.1, ⟨(by simp [Value.ownBlock]), ⟨hk.2.1, ⟨hk.2.2.1, ⟨hk.2.2.2.1, ⟨hk.2.2.2.2.1, ⟨hk.2.2.2.2.2.1, hk.2.2.2.2.2.2⟩⟩⟩⟩⟩⟩⟩)⟩, ⟨by (with_reducible repeat (first | apply Kd.R_alloc | apply Kd.R_drewN | apply Kd.R_drew)); exact Kd.R_mono HO_193000.out (fun _ hk => ⟨hk.1, ⟨(by simp [Value.ownBlock]), ⟨hk.2.1, hk.2.2⟩⟩⟩)⟩, ⟨by (with_reducible repeat (first | apply Kd.R_alloc | apply Kd.R_drewN | apply Kd.R_drew)); exact Kd.R_mono HO_193002.out (fun _ hk => ⟨hk.1, ⟨(by simp [Value.ownBlock]), ⟨hk.2.1, hk.2.2⟩⟩⟩)⟩, ⟨blf_⟩, ⟨blf_⟩, ⟨blf_⟩, ⟨blf_⟩, ⟨cv_ HR196_0⟩, ⟨bel_⟩⟩
             rw [if_neg c71] at H
             have c71b0 : (x193001_2 == 2) = false := beq_eq_false_iff_ne.mpr c71
             have c71b1 : (x193001_2 != 2) = true := bne_iff_ne.mpr c71
             by_cases c78 : x193001_2 = 1
             rotate_left
             · as_aux_lemma =>
                rw [if_neg c78] at H
                have c78b0 : (x193001_2 == 1) = false := beq_eq_false_iff_ne.mpr c78
                have c78b1 : (x193001_2 != 1) = true := bne_iff_ne.mpr c78
                replace H := Option.bind_eq_some_iff.mp H
                obtain ⟨t204, A1090, H⟩ := H
                replace H : (ropewaylaw15_SnapEnds_t.j2 k2 l2 x8_2 x9_2 (rd_L3 l2 x55_2) 1 t204 true l2 (l2.length : Int) x55_2 a1_0 a1_1 a1_2 y189 x193001_2 x193002_2) = some r := H
                have A109 := zM A1090
                clear A1090
                have H' := zM H
                clear H
                have tk110 : True := trivial
                have tk115 : True := trivial
                have tk116 : True := trivial
                have tk119 : True := trivial
                have tk120 : True := trivial
                go_wp2_with (first | ((with_reducible refine gate_callee (f := 9) rfl ?_); clear tk110; refine goL_ (some 64) Try.func9 #[.pointer (some ⟨gb192, 0, none⟩)] ?_; go_enter Try.func9, Try.ntmps9; have hnb111 := NB192_184.out; have hnc111 := NB184_192.out; have hnb112 := NB192_187.out; have hnc112 := NB187_192.out; have hnb113 := NB192_188.out; have hnc113 := NB188_192.out; have hcz114_0 : w54.cell? ⟨gb192, 0, none⟩ = some (.slice Ao41 y189.length co41) := (zL BK192.out 0).trans rfl; have hcz114_1 : w54.cell? ⟨gb192, 1, none⟩ = some (.int .i64 x193001_2) := (zL BK192.out 1).trans rfl; have hcz114_2 : w54.cell? ⟨gb192, 2, none⟩ = some (u193002) := (zL BK192.out 2).trans rfl; have hfz114_0 := zF BK192.out 0; have hfz114_1 := zF BK192.out 1; have hfz114_2 := zF BK192.out 2) | ((with_reducible refine gate_callee (f := 11) rfl ?_); clear tk115; refine goL_ (some 24) Try.func11 #[.pointer (some ⟨gb192, 0, none⟩)] ?_; go_enter Try.func11, Try.ntmps11) | (clear tk116; (first | go_ret | go_ret2 | go_ret3 | go_end0); with_reducible refine inl_back_ ?_; obtain ⟨Ao117, co117, eo117⟩ := Kd.R_slice HO_193002.out; subst eo117) | (go_at_call 25; (with_reducible refine (api_Cell.calls _ _ x193002_2 t204 _ ?side1 ?side2 A109.out).mono ?_); (case side1 => repeat (first | exact (Kd.R_reads' HO_193002.out).2.2 | (with_reducible refine Kd.C_alloc ?_ _) | (with_reducible refine Kd.C_drewN ?_ _) | (with_reducible refine Kd.C_drew ?_))); (case side2 => exact (Kd.R_reads' HO_193002.out).2.1); clear tk119; rintro e w118 ⟨v205, rfl, ho0, hb⟩; replace HO_2 := zM (Kd.V_elder' (rv_ HO_2) (Kd.R_base ho0) hb); replace HO_9 := zM (Kd.V_elder' (rv_ HO_9) (Kd.R_base ho0) hb); replace HO_53 := zM (Kd.V_elder' (rv_ HO_53) (Kd.R_base ho0) hb); replace HL196_0 := zM (Kd.V_elder' (rv_ HL196_0) (Kd.R_base ho0) hb); have HO206 := zM (Kd.R_lower (Kd.R_newB (Kd.R_new' (Kd.R_new' (Kd.R_newM (M := fun k_ => (w.heap.size ≤ k_)) ho0 (below_size bel_) (fun k_ h_ => h_)) (Kd.R_lt (rl_ HO_193000))) (Kd.R_lt (rl_ HO_193002))) (g := gb184) (o := .cells #[.int .i64 a1_0, .int .i64 a1_1, .int .i64 a1_2] 34 (0, 0)) blk_) (below_size bel_)); replace HO_193000 := zM (Kd.R_elder' (rl_ HO_193000) (Kd.R_base ho0) hb); replace HO_193002 := zM (Kd.R_elder' (rl_ HO_193002) (Kd.R_base ho0) hb); replace BK184 := zM (bb_ BK184 hb); replace BK187 := zM (bb_ BK187 hb); replace BK188 := zM (bb_ BK188 hb); replace BK192 := zM (bb_ BK192 hb); replace HR196_0 := zM (Kd.C_below (cv_ HR196_0) hb); replace HB := zM (zB bel_ hb); (try clear hb); (try clear ho0)) | (clear tk120; (first | go_ret | go_ret2 | go_ret3 | go_end0); with_reducible refine inl_back_ ?_))
                go_meet
                case rel => exact ⟨_, (1), (t204), (true), (x188001_2), (x193001_2), (by first | rfl | (simp; done) | (simp [*]; done) | (simp; grind)), (by first | rfl | (simp; done) | (simp [*]; done) | (simp; grind)), H', ⟨by have := HJ9.out; have := HK2.out; first | omega | exact Nat.le_refl _⟩, ⟨by (with_reducible repeat (first | apply Kd.V_alloc | apply Kd.V_drewN | apply Kd.V_drew)); exact Kd.V_mono HO_2.out (fun _ hk => ⟨hk.1.1, ⟨hk.2, ⟨hk.1.2.1, ⟨hk.1.2.2.1, ⟨hk.1.2.2.2.1, ⟨hk.1.2.2.2.2.1, ⟨hk.1.2.2.2.2.2.1, hk.1.2.2.2.2.2.2⟩⟩⟩⟩⟩⟩⟩)⟩, ⟨by (with_reducible repeat (first | apply Kd.V_alloc | apply Kd.V_drewN | apply Kd.V_drew)); exact Kd.V_mono HO_9.out (fun _ hk => ⟨hk.1.1, ⟨hk.2, ⟨hk.1.2.1, ⟨hk.1.2.2.1, ⟨hk.1.2.2.2.1, ⟨hk.1.2.2.2.2.1, ⟨hk.1.2.2.2.2.2.1, hk.1.2.2.2.2.2.2⟩⟩⟩⟩⟩⟩⟩)⟩, ⟨by (with_reducible repeat (first | apply Kd.V_alloc | apply Kd.V_drewN | apply Kd.V_drew)); exact Kd.V_mono HL196_0.out (fun _ hk => ⟨hk.1.1, ⟨hk.2, ⟨hk.1.2.1, ⟨hk.1.2.2.1, ⟨hk.1.2.2.2.1, ⟨hk.1.2.2.2.2.1, ⟨hk.1.2.2.2.2.2.1, hk.1.2.2.2.2.2.2⟩⟩⟩⟩⟩⟩⟩)⟩, ⟨by (with_reducible repeat (first | apply Kd.R_alloc | apply Kd.R_drewN | apply Kd.R_drew)); exact Kd.R_mono HO206.out (fun _ hk => ⟨hk.1.1.1.1, ⟨hk.1.1.2, ⟨hk.1.2, hk.2⟩⟩⟩)⟩, ⟨by (with_reducible repeat (first | apply Kd.V_alloc | apply Kd.V_drewN | apply Kd.V_drew)); exact Kd.V_mono HO_53.out (fun _ hk => ⟨hk.1.1, ⟨hk.2, ⟨hk.1.2.1, ⟨hk.1.2.2.1, ⟨hk.1.2.2.2.1, ⟨hk.1.2.2.2.2.1, ⟨hk.1.2.2.2.2.2.1, hk.1.2.2.2.2.2.2⟩⟩⟩⟩⟩⟩⟩)⟩, ⟨by (with_reducible repeat (first | apply Kd.R_alloc | apply Kd.R_drewN | apply Kd.R_drew)); exact Kd.R_mono HO_193000.out (fun _ hk => ⟨hk.1.1, ⟨hk.2, ⟨hk.1.2.1, hk.1.2.2⟩⟩⟩)⟩, ⟨by (with_reducible repeat (first | apply Kd.R_alloc | apply Kd.R_drewN | apply Kd.R_drew)); exact Kd.R_mono HO_193002.out (fun _ hk => ⟨hk.1.1, ⟨hk.2, ⟨hk.1.2.1, hk.1.2.2⟩⟩⟩)⟩, ⟨blf_⟩, ⟨blf_⟩, ⟨blf_⟩, ⟨blf_⟩, ⟨cv_ HR196_0⟩, ⟨bel_⟩⟩
             as_aux_lemma =>
              rw [if_pos c78] at H
              have c78b0 : (x193001_2 == 1) = true := beq_iff_eq.mpr c78
              have c78b1 : (x193001_2 != 1) = false := bne_eq_false_iff_eq.mpr c78
              clear c78
              by_cases c79 : (y189.length : Int) > 0
              rotate_left
              · rw [if_neg c79] at H
                exact absurd H (by simp)
              as_aux_lemma =>
               rw [if_pos c79] at H
               have c79b0 : decide (0 < (y189.length : Int)) = true := decide_eq_true c79
               have c79b1 : decide (0 < y189.length) = true := decide_eq_true (by omega)
               clear c79
               by_cases c80 : (x193002_2.length : Int) = 0
               · rw [if_pos c80] at H
                 have c80b0 : ((x193002_2.length : Int) == 0) = true := beq_iff_eq.mpr c80
                 have c80b1 : ((x193002_2.length : Int) != 0) = false := bne_eq_false_iff_eq.mpr c80
                 clear c80
                 replace H := Option.bind_eq_some_iff.mp H
                 obtain ⟨t198, A810, H⟩ := H
                 replace H : (ropewaylaw15_SnapEnds_t.j2 k2 l2 x8_2 x9_2 (rd_L3 l2 x55_2) 1 t198 true l2 (l2.length : Int) x55_2 a1_0 a1_1 a1_2 y189 x193001_2 x193002_2) = some r := H
                 have A81 := zM A810
                 clear A810
                 have H' := zM H
                 clear H
                 have tk82 : True := trivial
                 have tk87 : True := trivial
                 have tk88 : True := trivial
                 have tk89 : True := trivial
                 have tk91 : True := trivial
                 have tk93 : True := trivial
                 have tk94 : True := trivial
                 go_wp2_with (first | ((with_reducible refine gate_callee (f := 9) rfl ?_); clear tk82; refine goL_ (some 64) Try.func9 #[.pointer (some ⟨gb192, 0, none⟩)] ?_; go_enter Try.func9, Try.ntmps9; have hnb83 := NB192_184.out; have hnc83 := NB184_192.out; have hnb84 := NB192_187.out; have hnc84 := NB187_192.out; have hnb85 := NB192_188.out; have hnc85 := NB188_192.out; have hcz86_0 : w54.cell? ⟨gb192, 0, none⟩ = some (.slice Ao41 y189.length co41) := (zL BK192.out 0).trans rfl; have hcz86_1 : w54.cell? ⟨gb192, 1, none⟩ = some (.int .i64 x193001_2) := (zL BK192.out 1).trans rfl; have hcz86_2 : w54.cell? ⟨gb192, 2, none⟩ = some (u193002) := (zL BK192.out 2).trans rfl; have hfz86_0 := zF BK192.out 0; have hfz86_1 := zF BK192.out 1; have hfz86_2 := zF BK192.out 2) | ((with_reducible refine gate_callee (f := 11) rfl ?_); clear tk87; refine goL_ (some 24) Try.func11 #[.pointer (some ⟨gb192, 0, none⟩)] ?_; go_enter Try.func11, Try.ntmps11) | (go_at_call 26; clear tk88; go_enter Try.func26, Try.ntmps26) | (clear tk89; (first | go_ret | go_ret2 | go_ret3 | go_end0); simp only []; go_at_K; obtain ⟨Ao90, co90, eo90⟩ := Kd.R_slice HO_193002.out; subst eo90) | (clear tk91; (first | go_ret | go_ret2 | go_ret3 | go_end0); with_reducible refine inl_back_ ?_) | (go_at_call 25; (with_reducible refine (api_Cell.calls _ _ y189 t198 _ ?side1 ?side2 A81.out).mono ?_); (case side1 => repeat (first | exact (Kd.R_reads' HO_193000.out).2.2 | (with_reducible refine Kd.C_alloc ?_ _) | (with_reducible refine Kd.C_drewN ?_ _) | (with_reducible refine Kd.C_drew ?_))); (case side2 => exact (Kd.R_reads' HO_193000.out).2.1); clear tk93; rintro e w92 ⟨v199, rfl, ho0, hb⟩; replace HO_2 := zM (Kd.V_elder' (rv_ HO_2) (Kd.R_base ho0) hb); replace HO_9 := zM (Kd.V_elder' (rv_ HO_9) (Kd.R_base ho0) hb); replace HO_53 := zM (Kd.V_elder' (rv_ HO_53) (Kd.R_base ho0) hb); replace HL196_0 := zM (Kd.V_elder' (rv_ HL196_0) (Kd.R_base ho0) hb); have HO200 := zM (Kd.R_lower (Kd.R_newB (Kd.R_new' (Kd.R_new' (Kd.R_newM (M := fun k_ => (w.heap.size ≤ k_)) ho0 (below_size bel_) (fun k_ h_ => h_)) (Kd.R_lt (rl_ HO_193000))) (Kd.R_lt (rl_ HO_193002))) (g := gb184) (o := .cells #[.int .i64 a1_0, .int .i64 a1_1, .int .i64 a1_2] 34 (0, 0)) blk_) (below_size bel_)); replace HO_193000 := zM (Kd.R_elder' (rl_ HO_193000) (Kd.R_base ho0) hb); replace HO_193002 := zM (Kd.R_elder' (rl_ HO_193002) (Kd.R_base ho0) hb); replace BK184 := zM (bb_ BK184 hb); replace BK187 := zM (bb_ BK187 hb); replace BK188 := zM (bb_ BK188 hb); replace BK192 := zM (bb_ BK192 hb); replace HR196_0 := zM (Kd.C_below (cv_ HR196_0) hb); replace HB := zM (zB bel_ hb); (try clear hb); (try clear ho0)) | (clear tk94; (first | go_ret | go_ret2 | go_ret3 | go_end0); with_reducible refine inl_back_ ?_))
                 go_meet
                 case rel => exact ⟨_, (1), (t198), (true), (x188001_2), (x193001_2), (by first | rfl | (simp; done) | (simp [*]; done) | (simp; grind)), (by first | rfl | (simp; done) | (simp [*]; done) | (simp; grind)), H', ⟨by have := HJ9.out; have := HK2.out; first | omega | exact Nat.le_refl _⟩, ⟨by (with_reducible repeat (first | apply Kd.V_alloc | apply Kd.V_drewN | apply Kd.V_drew)); exact Kd.V_mono HO_2.out (fun _ hk => ⟨hk.1.1, ⟨hk.2, ⟨hk.1.2.1, ⟨hk.1.2.2.1, ⟨hk.1.2.2.2.1, ⟨hk.1.2.2.2.2.1, ⟨hk.1.2.2.2.2.2.1, hk.1.2.2.2.2.2.2⟩⟩⟩⟩⟩⟩⟩)⟩, ⟨by (with_reducible repeat (first | apply Kd.V_alloc | apply Kd.V_drewN | apply Kd.V_drew)); exact Kd.V_mono HO_9.out (fun _ hk => ⟨hk.1.1, ⟨hk.2, ⟨hk.1.2.1, ⟨hk.1.2.2.1, ⟨hk.1.2.2.2.1, ⟨hk.1.2.2.2.2.1, ⟨hk.1.2.2.2.2.2.1, hk.1.2.2.2.2.2.2⟩⟩⟩⟩⟩⟩⟩)⟩, ⟨by (with_reducible repeat (first | apply Kd.V_alloc | apply Kd.V_drewN | apply Kd.V_drew)); exact Kd.V_mono HL196_0.out (fun _ hk => ⟨hk.1.1, ⟨hk.2, ⟨hk.1.2.1, ⟨hk.1.2.2.1, ⟨hk.1.2.2.2.1, ⟨hk.1.2.2.2.2.1, ⟨hk.1.2.2.2.2.2.1, hk.1.2.2.2.2.2.2⟩⟩⟩⟩⟩⟩⟩)⟩, ⟨by (with_reducible repeat (first | apply Kd.R_alloc | apply Kd.R_drewN | apply Kd.R_drew)); exact Kd.R_mono HO200.out (fun _ hk => ⟨hk.1.1.1.1, ⟨hk.1.1.2, ⟨hk.1.2, hk.2⟩⟩⟩)⟩, ⟨by (with_reducible repeat (first | apply Kd.V_alloc | apply Kd.V_drewN | apply Kd.V_drew)); exact Kd.V_mono HO_53.out (fun _ hk => ⟨hk.1.1, ⟨hk.2, ⟨hk.1.2.1, ⟨hk.1.2.2.1, ⟨hk.1.2.2.2.1, ⟨hk.1.2.2.2.2.1, ⟨hk.1.2.2.2.2.2.1, hk.1.2.2.2.2.2.2⟩⟩⟩⟩⟩⟩⟩)⟩, ⟨by (with_reducible repeat (first | apply Kd.R_alloc | apply Kd.R_drewN | apply Kd.R_drew)); exact Kd.R_mono HO_193000.out (fun _ hk => ⟨hk.1.1, ⟨hk.2, ⟨hk.1.2.1, hk.1.2.2⟩⟩⟩)⟩, ⟨by (with_reducible repeat (first | apply Kd.R_alloc | apply Kd.R_drewN | apply Kd.R_drew)); exact Kd.R_mono HO_193002.out (fun _ hk => ⟨hk.1.1, ⟨hk.2, ⟨hk.1.2.1, hk.1.2.2⟩⟩⟩)⟩, ⟨blf_⟩, ⟨blf_⟩, ⟨blf_⟩, ⟨blf_⟩, ⟨cv_ HR196_0⟩, ⟨bel_⟩⟩
               rw [if_neg c80] at H
               have c80b0 : ((x193002_2.length : Int) == 0) = false := beq_eq_false_iff_ne.mpr c80
               have c80b1 : ((x193002_2.length : Int) != 0) = true := bne_iff_ne.mpr c80
               have c80b2 : ¬ (x193002_2 = []) := fun h_ => c80 (by rw [h_]; rfl)
               replace H := Option.bind_eq_some_iff.mp H
               obtain ⟨t201, A950, H⟩ := H
               replace H : (ropewaylaw15_SnapEnds_t.j2 k2 l2 x8_2 x9_2 (rd_L3 l2 x55_2) 1 t201 true l2 (l2.length : Int) x55_2 a1_0 a1_1 a1_2 y189 x193001_2 x193002_2) = some r := H
               have A95 := zM A950
               clear A950
               have H' := zM H
               clear H
               have tk96 : True := trivial
               have tk101 : True := trivial
               have tk102 : True := trivial
               have tk103 : True := trivial
               have tk105 : True := trivial
               have tk107 : True := trivial
               have tk108 : True := trivial
               go_wp2_with (first | ((with_reducible refine gate_callee (f := 9) rfl ?_); clear tk96; refine goL_ (some 64) Try.func9 #[.pointer (some ⟨gb192, 0, none⟩)] ?_; go_enter Try.func9, Try.ntmps9; have hnb97 := NB192_184.out; have hnc97 := NB184_192.out; have hnb98 := NB192_187.out; have hnc98 := NB187_192.out; have hnb99 := NB192_188.out; have hnc99 := NB188_192.out; have hcz100_0 : w54.cell? ⟨gb192, 0, none⟩ = some (.slice Ao41 y189.length co41) := (zL BK192.out 0).trans rfl; have hcz100_1 : w54.cell? ⟨gb192, 1, none⟩ = some (.int .i64 x193001_2) := (zL BK192.out 1).trans rfl; have hcz100_2 : w54.cell? ⟨gb192, 2, none⟩ = some (u193002) := (zL BK192.out 2).trans rfl; have hfz100_0 := zF BK192.out 0; have hfz100_1 := zF BK192.out 1; have hfz100_2 := zF BK192.out 2) | ((with_reducible refine gate_callee (f := 11) rfl ?_); clear tk101; refine goL_ (some 24) Try.func11 #[.pointer (some ⟨gb192, 0, none⟩)] ?_; go_enter Try.func11, Try.ntmps11) | (go_at_call 26; clear tk102; go_enter Try.func26, Try.ntmps26) | (clear tk103; (first | go_ret | go_ret2 | go_ret3 | go_end0); simp only []; go_at_K; obtain ⟨Ao104, co104, eo104⟩ := Kd.R_slice HO_193002.out; subst eo104) | (clear tk105; (first | go_ret | go_ret2 | go_ret3 | go_end0); with_reducible refine inl_back_ ?_) | (go_at_call 25; (with_reducible refine (api_Cell.calls _ _ x193002_2 t201 _ ?side1 ?side2 A95.out).mono ?_); (case side1 => repeat (first | exact (Kd.R_reads' HO_193002.out).2.2 | (with_reducible refine Kd.C_alloc ?_ _) | (with_reducible refine Kd.C_drewN ?_ _) | (with_reducible refine Kd.C_drew ?_))); (case side2 => exact (Kd.R_reads' HO_193002.out).2.1); clear tk107; rintro e w106 ⟨v202, rfl, ho0, hb⟩; replace HO_2 := zM (Kd.V_elder' (rv_ HO_2) (Kd.R_base ho0) hb); replace HO_9 := zM (Kd.V_elder' (rv_ HO_9) (Kd.R_base ho0) hb); replace HO_53 := zM (Kd.V_elder' (rv_ HO_53) (Kd.R_base ho0) hb); replace HL196_0 := zM (Kd.V_elder' (rv_ HL196_0) (Kd.R_base ho0) hb); have HO203 := zM (Kd.R_lower (Kd.R_newB (Kd.R_new' (Kd.R_new' (Kd.R_newM (M := fun k_ => (w.heap.size ≤ k_)) ho0 (below_size bel_) (fun k_ h_ => h_)) (Kd.R_lt (rl_ HO_193000))) (Kd.R_lt (rl_ HO_193002))) (g := gb184) (o := .cells #[.int .i64 a1_0, .int .i64 a1_1, .int .i64 a1_2] 34 (0, 0)) blk_) (below_size bel_)); replace HO_193000 := zM (Kd.R_elder' (rl_ HO_193000) (Kd.R_base ho0) hb); replace HO_193002 := zM (Kd.R_elder' (rl_ HO_193002) (Kd.R_base ho0) hb); replace BK184 := zM (bb_ BK184 hb); replace BK187 := zM (bb_ BK187 hb); replace BK188 := zM (bb_ BK188 hb); replace BK192 := zM (bb_ BK192 hb); replace HR196_0 := zM (Kd.C_below (cv_ HR196_0) hb); replace HB := zM (zB bel_ hb); (try clear hb); (try clear ho0)) | (clear tk108; (first | go_ret | go_ret2 | go_ret3 | go_end0); with_reducible refine inl_back_ ?_))
               go_meet
               case rel => exact ⟨_, (1), (t201), (true), (x188001_2), (x193001_2), (by first | rfl | (simp; done) | (simp [*]; done) | (simp; grind)), (by first | rfl | (simp; done) | (simp [*]; done) | (simp; grind)), H', ⟨by have := HJ9.out; have := HK2.out; first | omega | exact Nat.le_refl _⟩, ⟨by (with_reducible repeat (first | apply Kd.V_alloc | apply Kd.V_drewN | apply Kd.V_drew)); exact Kd.V_mono HO_2.out (fun _ hk => ⟨hk.1.1, ⟨hk.2, ⟨hk.1.2.1, ⟨hk.1.2.2.1, ⟨hk.1.2.2.2.1, ⟨hk.1.2.2.2.2.1, ⟨hk.1.2.2.2.2.2.1, hk.1.2.2.2.2.2.2⟩⟩⟩⟩⟩⟩⟩)⟩, ⟨by (with_reducible repeat (first | apply Kd.V_alloc | apply Kd.V_drewN | apply Kd.V_drew)); exact Kd.V_mono HO_9.out (fun _ hk => ⟨hk.1.1, ⟨hk.2, ⟨hk.1.2.1, ⟨hk.1.2.2.1, ⟨hk.1.2.2.2.1, ⟨hk.1.2.2.2.2.1, ⟨hk.1.2.2.2.2.2.1, hk.1.2.2.2.2.2.2⟩⟩⟩⟩⟩⟩⟩)⟩, ⟨by (with_reducible repeat (first | apply Kd.V_alloc | apply Kd.V_drewN | apply Kd.V_drew)); exact Kd.V_mono HL196_0.out (fun _ hk => ⟨hk.1.1, ⟨hk.2, ⟨hk.1.2.1, ⟨hk.1.2.2.1, ⟨hk.1.2.2.2.1, ⟨hk.1.2.2.2.2.1, ⟨hk.1.2.2.2.2.2.1, hk.1.2.2.2.2.2.2⟩⟩⟩⟩⟩⟩⟩)⟩, ⟨by (with_reducible repeat (first | apply Kd.R_alloc | apply Kd.R_drewN | apply Kd.R_drew)); exact Kd.R_mono HO203.out (fun _ hk => ⟨hk.1.1.1.1, ⟨hk.1.1.2, ⟨hk.1.2, hk.2⟩⟩⟩)⟩, ⟨by (with_reducible repeat (first | apply Kd.V_alloc | apply Kd.V_drewN | apply Kd.V_drew)); exact Kd.V_mono HO_53.out (fun _ hk => ⟨hk.1.1, ⟨hk.2, ⟨hk.1.2.1, ⟨hk.1.2.2.1, ⟨hk.1.2.2.2.1, ⟨hk.1.2.2.2.2.1, ⟨hk.1.2.2.2.2.2.1, hk.1.2.2.2.2.2.2⟩⟩⟩⟩⟩⟩⟩)⟩, ⟨by (with_reducible repeat (first | apply Kd.R_alloc | apply Kd.R_drewN | apply Kd.R_drew)); exact Kd.R_mono HO_193000.out (fun _ hk => ⟨hk.1.1, ⟨hk.2, ⟨hk.1.2.1, hk.1.2.2⟩⟩⟩)⟩, ⟨by (with_reducible repeat (first | apply Kd.R_alloc | apply Kd.R_drewN | apply Kd.R_drew)); exact Kd.R_mono HO_193002.out (fun _ hk => ⟨hk.1.1, ⟨hk.2, ⟨hk.1.2.1, hk.1.2.2⟩⟩⟩)⟩, ⟨blf_⟩, ⟨blf_⟩, ⟨blf_⟩, ⟨blf_⟩, ⟨cv_ HR196_0⟩, ⟨bel_⟩⟩
            case rest => as_aux_lemma =>
             clear HC56
             try clear c2
             try clear c7
             try clear c11
             try clear c11b0
             try clear c11b1
             try clear c12
             try clear c12b0
             try clear c14
             try clear c14b0
             try clear c17
             try clear c25
             try clear c49
             try clear c49b0
             try clear c50
             try clear c50b0
             try clear c51
             try clear c51b0
             try clear c53
             try clear c53b0
             try clear c53b1
             try clear c57
             try clear c57b0
             try clear c57b1
             try clear c64
             try clear c64b0
             try clear c64b1
             try clear c71
             try clear c71b0
             try clear c71b1
             try clear c78
             try clear c78b0
             try clear c78b1
             try clear c79
             try clear c79b0
             try clear c79b1
             try clear c80
             try clear c80b0
             try clear c80b1
             try clear c80b2
             try clear hcz100_0
             try clear hcz100_1
             try clear hcz100_2
             try clear hcz114_0
             try clear hcz114_1
             try clear hcz114_2
             try clear hcz13_0
             try clear hcz13_1
             try clear hcz13_2
             try clear hcz15_0
             try clear hcz15_1
             try clear hcz15_2
             try clear hcz18_0
             try clear hcz18_1
             try clear hcz18_2
             try clear hcz21_0
             try clear hcz21_1
             try clear hcz21_2
             try clear hcz22_0
             try clear hcz22_1
             try clear hcz22_2
             try clear hcz31_0
             try clear hcz31_1
             try clear hcz31_2
             try clear hcz37_0
             try clear hcz37_1
             try clear hcz62_0
             try clear hcz62_1
             try clear hcz62_2
             try clear hcz69_0
             try clear hcz69_1
             try clear hcz69_2
             try clear hcz76_0
             try clear hcz76_1
             try clear hcz76_2
             try clear hcz86_0
             try clear hcz86_1
             try clear hcz86_2
             try clear hfz100_0
             try clear hfz100_1
             try clear hfz100_2
             try clear hfz114_0
             try clear hfz114_1
             try clear hfz114_2
             try clear hfz13_0
             try clear hfz13_1
             try clear hfz13_2
             try clear hfz15_0
             try clear hfz15_1
             try clear hfz15_2
             try clear hfz18_0
             try clear hfz18_1
             try clear hfz18_2
             try clear hfz21_0
             try clear hfz21_1
             try clear hfz21_2
             try clear hfz22_0
             try clear hfz22_1
             try clear hfz22_2
             try clear hfz31_0
             try clear hfz31_1
             try clear hfz31_2
             try clear hfz37_0
             try clear hfz37_1
             try clear hfz62_0
             try clear hfz62_1
             try clear hfz62_2
             try clear hfz69_0
             try clear hfz69_1
             try clear hfz69_2
             try clear hfz76_0
             try clear hfz76_1
             try clear hfz76_2
             try clear hfz86_0
             try clear hfz86_1
             try clear hfz86_2
             try clear hx196_0
             try clear p196
             try clear q196
             obtain ⟨kq, x12_55, x13_55, x14_55, x188001_55, x193001_55, rfl, rfl, HA, HJ55, HO_2, HO_9, HO_11, HO_13, HO_53, HO_193000, HO_193002, BK184, BK187, BK188, BK192, HR196_0, HB⟩ := hcut
             cases kq with
             | zero => exact absurd HA.out (by simp [ropewaylaw15_SnapEnds_t.j2])
             | succ kj55 =>
              have H := HA.out
              clear HA
              simp only [ropewaylaw15_SnapEnds_t.j2] at H
              by_cases c121 : x14_55 = true
              rotate_left
              · replace c121 := Bool.eq_false_iff.mpr c121
                subst c121
                have H1 : (ropewaylaw15_SnapEnds_t.j5 kj55 l2 x8_2 y189 x193001_55 x193002_2) = some r := by rw [if_neg (show ¬ (false = true) by decide)] at H; exact H
                clear H
                have H := H1
                clear H1
                have H' := zM H
                clear H
                go_wp2
                go_meet
                case rel => exact ⟨_, (x8_2), (x188001_55), (x193001_55), (x193002_2), (u193002), (by first | rfl | (simp; done) | (simp [*]; done) | (simp; grind)), H', ⟨by have := HJ9.out; have := HK2.out; have := HJ55.out; first | omega | exact Nat.le_refl _⟩, ⟨by (with_reducible repeat (first | apply Kd.V_alloc | apply Kd.V_drewN | apply Kd.V_drew)); exact Kd.V_mono HO_2.out (fun _ hk => ⟨hk.1, ⟨hk.2.2.1, ⟨hk.2.2.2.1, ⟨hk.2.2.2.2.1, ⟨hk.2.2.2.2.2.1, ⟨hk.2.2.2.2.2.2.1, hk.2.2.2.2.2.2.2⟩⟩⟩⟩⟩⟩)⟩, ⟨by (with_reducible repeat (first | apply Kd.R_alloc | apply Kd.R_drewN | apply Kd.R_drew)); exact Kd.R_mono HO_193000.out (fun _ hk => ⟨hk.1, ⟨hk.2.2.1, hk.2.2.2⟩⟩)⟩, ⟨by (with_reducible repeat (first | apply Kd.R_alloc | apply Kd.R_drewN | apply Kd.R_drew)); exact Kd.R_mono HO_193002.out (fun _ hk => ⟨hk.1, ⟨hk.2.2.1, hk.2.2.2⟩⟩)⟩, ⟨blf_⟩, ⟨blf_⟩, ⟨blf_⟩, ⟨blf_⟩, ⟨bel_⟩⟩
              as_aux_lemma =>
               subst c121
               have H1 : (if x12_55 = 1 then (if (x9_2.length : Int) > 0 then ((ropewayref10_Same.f kj55 x13_55 x9_2).bind fun t207 => (if t207 = true then (if (x9_2.length : Int) = 0 then (if (x13_55.length : Int) = 1 then (if 0 < (x13_55.length : Int) then (ropewaylaw15_SnapEnds_t.j3 kj55 l2 x8_2 x9_2 (rd_L3 l2 x55_2) x12_55 l2 (l2.length : Int) x55_2 (!(((rd_T34 x13_55 0).f0) == a1_0) || ((!(((rd_T34 x13_55 0).f1.f0) == a1_1) || (!(((rd_T34 x13_55 0).f1.f1) == a1_2))))) a1_0 a1_1 a1_2 y189 x193001_55 x193002_2) else (none)) else (ropewaylaw15_SnapEnds_t.j3 kj55 l2 x8_2 x9_2 (rd_L3 l2 x55_2) x12_55 l2 (l2.length : Int) x55_2 true a1_0 a1_1 a1_2 y189 x193001_55 x193002_2)) else (ropewaylaw15_SnapEnds_t.j3 kj55 l2 x8_2 x9_2 (rd_L3 l2 x55_2) x12_55 l2 (l2.length : Int) x55_2 false a1_0 a1_1 a1_2 y189 x193001_55 x193002_2)) else (ropewaylaw15_SnapEnds_t.j3 kj55 l2 x8_2 x9_2 (rd_L3 l2 x55_2) x12_55 l2 (l2.length : Int) x55_2 true a1_0 a1_1 a1_2 y189 x193001_55 x193002_2))) else (if (x9_2.length : Int) = 0 then (if (x13_55.length : Int) = 1 then (if 0 < (x13_55.length : Int) then (ropewaylaw15_SnapEnds_t.j3 kj55 l2 x8_2 x9_2 (rd_L3 l2 x55_2) x12_55 l2 (l2.length : Int) x55_2 (!(((rd_T34 x13_55 0).f0) == a1_0) || ((!(((rd_T34 x13_55 0).f1.f0) == a1_1) || (!(((rd_T34 x13_55 0).f1.f1) == a1_2))))) a1_0 a1_1 a1_2 y189 x193001_55 x193002_2) else (none)) else (ropewaylaw15_SnapEnds_t.j3 kj55 l2 x8_2 x9_2 (rd_L3 l2 x55_2) x12_55 l2 (l2.length : Int) x55_2 true a1_0 a1_1 a1_2 y189 x193001_55 x193002_2)) else (ropewaylaw15_SnapEnds_t.j3 kj55 l2 x8_2 x9_2 (rd_L3 l2 x55_2) x12_55 l2 (l2.length : Int) x55_2 false a1_0 a1_1 a1_2 y189 x193001_55 x193002_2))) else (ropewaylaw15_SnapEnds_t.j3 kj55 l2 x8_2 x9_2 (rd_L3 l2 x55_2) x12_55 l2 (l2.length : Int) x55_2 false a1_0 a1_1 a1_2 y189 x193001_55 x193002_2)) = some r := by rw [if_pos rfl] at H; exact H
               clear H
               have H := H1
               clear H1
               have HC122 := zM H
               clear H
               go_upto_region 17 with (fail)
               go_cut [107] (fun v107 wc => ∃ (kq : Nat) (x107_121 : Bool), v107 = .bool x107_121 ∧ Aside0 (ropewaylaw15_SnapEnds_t.j3 kq l2 x8_2 x9_2 (rd_L3 l2 x55_2) x12_55 l2 (l2.length : Int) x55_2 x107_121 a1_0 a1_1 a1_2 y189 x193001_55 x193002_2 = some r) ∧ Aside0 (kq ≤ kj55) ∧ Aside0 (Kd.V (Kd.slice 34 k34) 27 wc w.heap.size (fun k_ => (P2_ k_ ∨ w.heap.size ≤ k_) ∧ some k_ ≠ ((.slice Ao41 y189.length co41) : Value).ownBlock ∧ some k_ ≠ (u193002 : Value).ownBlock ∧ k_ ≠ gb184 ∧ k_ ≠ gb187 ∧ k_ ≠ gb188 ∧ k_ ≠ gb192) (.slice (some ad196) l2.length c2) l2) ∧ Aside0 (Kd.V k34 34 wc w.heap.size (fun k_ => (P2_ k_ ∨ w.heap.size ≤ k_) ∧ some k_ ≠ ((.slice Ao41 y189.length co41) : Value).ownBlock ∧ some k_ ≠ (u193002 : Value).ownBlock ∧ k_ ≠ gb184 ∧ k_ ≠ gb187 ∧ k_ ≠ gb188 ∧ k_ ≠ gb192) u9 x9_2) ∧ Aside0 (Kd.V k34 34 wc w.heap.size (fun k_ => (P2_ k_ ∨ w.heap.size ≤ k_) ∧ some k_ ≠ ((.slice Ao41 y189.length co41) : Value).ownBlock ∧ some k_ ≠ (u193002 : Value).ownBlock ∧ k_ ≠ gb184 ∧ k_ ≠ gb187 ∧ k_ ≠ gb188 ∧ k_ ≠ gb192) (.slice A196_0 (rd_L3 l2 x55_2).length c196_0) (rd_L3 l2 x55_2)) ∧ Aside0 (Kd.V (Kd.slice 34 k34) 27 wc w.heap.size (fun k_ => (P2_ k_ ∨ w.heap.size ≤ k_) ∧ some k_ ≠ ((.slice Ao41 y189.length co41) : Value).ownBlock ∧ some k_ ≠ (u193002 : Value).ownBlock ∧ k_ ≠ gb184 ∧ k_ ≠ gb187 ∧ k_ ≠ gb188 ∧ k_ ≠ gb192) (.slice (some ad196) l2.length c2) l2) ∧ Aside0 (Kd.R k34 34 wc w.heap.size (fun k_ => (w.heap.size ≤ k_) ∧ some k_ ≠ (u193002 : Value).ownBlock ∧ k_ ≠ gb184) (.slice Ao41 y189.length co41) y189) ∧ Aside0 (Kd.R k34 34 wc w.heap.size (fun k_ => (w.heap.size ≤ k_) ∧ some k_ ≠ ((.slice Ao41 y189.length co41) : Value).ownBlock ∧ k_ ≠ gb184) u193002 x193002_2) ∧ Aside0 (wc.heap[gb184]? = some (.cells #[.int .i64 a1_0, .int .i64 a1_1, .int .i64 a1_2] 34 (0, 0))) ∧ Aside0 (wc.heap[gb187]? = some (.cells #[(.slice none 0 0), .int .i64 x188001_55, (.slice none 0 0)] 61 (0, 0))) ∧ Aside0 (wc.heap[gb188]? = some (.cells #[.int .i64 a1_1, .int .i64 a1_2] 26 (0, 0))) ∧ Aside0 (wc.heap[gb192]? = some (.cells #[(.slice Ao41 y189.length co41), .int .i64 x193001_55, u193002] 61 (0, 0))) ∧ Aside0 (Kd.C k34 wc A196_0 (rd_L3 l2 x55_2).length (rd_L3 l2 x55_2)) ∧ Aside0 (Below w.heap.size w wc))
               case first => as_aux_lemma =>
                have H := HC122.out
                clear HC122
                by_cases c123 : x12_55 = 1
                rotate_left
                · rw [if_neg c123] at H
                  have c123b0 : (x12_55 == 1) = false := beq_eq_false_iff_ne.mpr c123
                  have c123b1 : (x12_55 != 1) = true := bne_iff_ne.mpr c123
                  (first | rw [c123b0] | (simp only [i64_w, i32_w]; rw [c123b0]) | skip)
                  have H' := zM H
                  clear H
                  go_quiet (fail)
                  try go_wp2
                  go_meet
                  case rel => exact ⟨_, (false), (by first | rfl | (simp; done) | (simp [*]; done) | (simp; grind)), H', ⟨by have := HJ9.out; have := HK2.out; have := HJ55.out; first | omega | exact Nat.le_refl _⟩, ⟨by (with_reducible repeat (first | apply Kd.V_alloc | apply Kd.V_drewN | apply Kd.V_drew)); exact Kd.V_mono HO_2.out (fun _ hk => ⟨hk.1, ⟨hk.2.2.1, ⟨hk.2.2.2.1, ⟨hk.2.2.2.2.1, ⟨hk.2.2.2.2.2.1, ⟨hk.2.2.2.2.2.2.1, hk.2.2.2.2.2.2.2⟩⟩⟩⟩⟩⟩)⟩, ⟨by (with_reducible repeat (first | apply Kd.V_alloc | apply Kd.V_drewN | apply Kd.V_drew)); exact Kd.V_mono HO_9.out (fun _ hk => ⟨hk.1, ⟨hk.2.2.1, ⟨hk.2.2.2.1, ⟨hk.2.2.2.2.1, ⟨hk.2.2.2.2.2.1, ⟨hk.2.2.2.2.2.2.1, hk.2.2.2.2.2.2.2⟩⟩⟩⟩⟩⟩)⟩, ⟨by (with_reducible repeat (first | apply Kd.V_alloc | apply Kd.V_drewN | apply Kd.V_drew)); exact Kd.V_mono HO_11.out (fun _ hk => ⟨hk.1, ⟨hk.2.2.1, ⟨hk.2.2.2.1, ⟨hk.2.2.2.2.1, ⟨hk.2.2.2.2.2.1, ⟨hk.2.2.2.2.2.2.1, hk.2.2.2.2.2.2.2⟩⟩⟩⟩⟩⟩)⟩, ⟨by (with_reducible repeat (first | apply Kd.V_alloc | apply Kd.V_drewN | apply Kd.V_drew)); exact Kd.V_mono HO_53.out (fun _ hk => ⟨hk.1, ⟨hk.2.2.1, ⟨hk.2.2.2.1, ⟨hk.2.2.2.2.1, ⟨hk.2.2.2.2.2.1, ⟨hk.2.2.2.2.2.2.1, hk.2.2.2.2.2.2.2⟩⟩⟩⟩⟩⟩)⟩, ⟨by (with_reducible repeat (first | apply Kd.R_alloc | apply Kd.R_drewN | apply Kd.R_drew)); exact Kd.R_mono HO_193000.out (fun _ hk => ⟨hk.1, ⟨hk.2.2.1, hk.2.2.2⟩⟩)⟩, ⟨by (with_reducible repeat (first | apply Kd.R_alloc | apply Kd.R_drewN | apply Kd.R_drew)); exact Kd.R_mono HO_193002.out (fun _ hk => ⟨hk.1, ⟨hk.2.2.1, hk.2.2.2⟩⟩)⟩, ⟨blf_⟩, ⟨blf_⟩, ⟨blf_⟩, ⟨blf_⟩, ⟨cv_ HR196_0⟩, ⟨bel_⟩⟩
                as_aux_lemma =>
                 rw [if_pos c123] at H
                 have c123b0 : (x12_55 == 1) = true := beq_iff_eq.mpr c123
                 have c123b1 : (x12_55 != 1) = false := bne_eq_false_iff_eq.mpr c123
                 clear c123
                 (first | rw [c123b0] | (simp only [i64_w, i32_w]; rw [c123b0]) | skip)
                 by_cases c124 : (x9_2.length : Int) > 0
                 rotate_left
                 · as_aux_lemma =>
                    rw [if_neg c124] at H
                    have c124b0 : decide (0 < (x9_2.length : Int)) = false := decide_eq_false c124
                    have c124b1 : decide (0 < x9_2.length) = false := decide_eq_false (by omega)
                    clear c124
                    by_cases c146 : (x9_2.length : Int) = 0
                    rotate_left
                    · rw [if_neg c146] at H
                      have c146b0 : ((x9_2.length : Int) == 0) = false := beq_eq_false_iff_ne.mpr c146
                      have c146b1 : ((x9_2.length : Int) != 0) = true := bne_iff_ne.mpr c146
                      have c146b2 : ¬ (x9_2 = []) := fun h_ => c146 (by rw [h_]; rfl)
                      have H' := zM H
                      clear H
                      obtain ⟨Ao157, co157, eo157⟩ := Kd.V_slice HO_9.out
                      subst eo157
                      go_quiet (fail)
                      try go_wp2
                      go_meet
                      case rel => exact ⟨_, (false), (by first | rfl | (simp; done) | (simp [*]; done) | (simp; grind)), H', ⟨by have := HJ9.out; have := HK2.out; have := HJ55.out; first | omega | exact Nat.le_refl _⟩, ⟨by (with_reducible repeat (first | apply Kd.V_alloc | apply Kd.V_drewN | apply Kd.V_drew)); exact Kd.V_mono HO_2.out (fun _ hk => ⟨hk.1, ⟨hk.2.2.1, ⟨hk.2.2.2.1, ⟨hk.2.2.2.2.1, ⟨hk.2.2.2.2.2.1, ⟨hk.2.2.2.2.2.2.1, hk.2.2.2.2.2.2.2⟩⟩⟩⟩⟩⟩)⟩, ⟨by (with_reducible repeat (first | apply Kd.V_alloc | apply Kd.V_drewN | apply Kd.V_drew)); exact Kd.V_mono HO_9.out (fun _ hk => ⟨hk.1, ⟨hk.2.2.1, ⟨hk.2.2.2.1, ⟨hk.2.2.2.2.1, ⟨hk.2.2.2.2.2.1, ⟨hk.2.2.2.2.2.2.1, hk.2.2.2.2.2.2.2⟩⟩⟩⟩⟩⟩)⟩, ⟨by (with_reducible repeat (first | apply Kd.V_alloc | apply Kd.V_drewN | apply Kd.V_drew)); exact Kd.V_mono HO_11.out (fun _ hk => ⟨hk.1, ⟨hk.2.2.1, ⟨hk.2.2.2.1, ⟨hk.2.2.2.2.1, ⟨hk.2.2.2.2.2.1, ⟨hk.2.2.2.2.2.2.1, hk.2.2.2.2.2.2.2⟩⟩⟩⟩⟩⟩)⟩, ⟨by (with_reducible repeat (first | apply Kd.V_alloc | apply Kd.V_drewN | apply Kd.V_drew)); exact Kd.V_mono HO_53.out (fun _ hk => ⟨hk.1, ⟨hk.2.2.1, ⟨hk.2.2.2.1, ⟨hk.2.2.2.2.1, ⟨hk.2.2.2.2.2.1, ⟨hk.2.2.2.2.2.2.1, hk.2.2.2.2.2.2.2⟩⟩⟩⟩⟩⟩)⟩, ⟨by (with_reducible repeat (first | apply Kd.R_alloc | apply Kd.R_drewN | apply Kd.R_drew)); exact Kd.R_mono HO_193000.out (fun _ hk => ⟨hk.1, ⟨hk.2.2.1, hk.2.2.2⟩⟩)⟩, ⟨by (with_reducible repeat (first | apply Kd.R_alloc | apply Kd.R_drewN | apply Kd.R_drew)); exact Kd.R_mono HO_193002.out (fun _ hk => ⟨hk.1, ⟨hk.2.2.1, hk.2.2.2⟩⟩)⟩, ⟨blf_⟩, ⟨blf_⟩, ⟨blf_⟩, ⟨blf_⟩, ⟨cv_ HR196_0⟩, ⟨bel_⟩⟩
                    as_aux_lemma =>
                     rw [if_pos c146] at H
                     have c146b0 : ((x9_2.length : Int) == 0) = true := beq_iff_eq.mpr c146
                     have c146b1 : ((x9_2.length : Int) != 0) = false := bne_eq_false_iff_eq.mpr c146
                     clear c146
                     by_cases c147 : (x13_55.length : Int) = 1
                     rotate_left
                     · rw [if_neg c147] at H
                       have c147b0 : ((x13_55.length : Int) == 1) = false := beq_eq_false_iff_ne.mpr c147
                       have c147b1 : ((x13_55.length : Int) != 1) = true := bne_iff_ne.mpr c147
                       have H' := zM H
                       clear H
                       obtain ⟨Ao155, co155, eo155⟩ := Kd.V_slice HO_9.out
                       subst eo155
                       obtain ⟨Ao156, co156, eo156⟩ := Kd.R_slice HO_13.out
                       subst eo156
                       go_quiet (fail)
                       try go_wp2
                       go_meet
                       case rel => exact ⟨_, (true), (by first | rfl | (simp; done) | (simp [*]; done) | (simp; grind)), H', ⟨by have := HJ9.out; have := HK2.out; have := HJ55.out; first | omega | exact Nat.le_refl _⟩, ⟨by (with_reducible repeat (first | apply Kd.V_alloc | apply Kd.V_drewN | apply Kd.V_drew)); exact Kd.V_mono HO_2.out (fun _ hk => ⟨hk.1, ⟨hk.2.2.1, ⟨hk.2.2.2.1, ⟨hk.2.2.2.2.1, ⟨hk.2.2.2.2.2.1, ⟨hk.2.2.2.2.2.2.1, hk.2.2.2.2.2.2.2⟩⟩⟩⟩⟩⟩)⟩, ⟨by (with_reducible repeat (first | apply Kd.V_alloc | apply Kd.V_drewN | apply Kd.V_drew)); exact Kd.V_mono HO_9.out (fun _ hk => ⟨hk.1, ⟨hk.2.2.1, ⟨hk.2.2.2.1, ⟨hk.2.2.2.2.1, ⟨hk.2.2.2.2.2.1, ⟨hk.2.2.2.2.2.2.1, hk.2.2.2.2.2.2.2⟩⟩⟩⟩⟩⟩)⟩, ⟨by (with_reducible repeat (first | apply Kd.V_alloc | apply Kd.V_drewN | apply Kd.V_drew)); exact Kd.V_mono HO_11.out (fun _ hk => ⟨hk.1, ⟨hk.2.2.1, ⟨hk.2.2.2.1, ⟨hk.2.2.2.2.1, ⟨hk.2.2.2.2.2.1, ⟨hk.2.2.2.2.2.2.1, hk.2.2.2.2.2.2.2⟩⟩⟩⟩⟩⟩)⟩, ⟨by (with_reducible repeat (first | apply Kd.V_alloc | apply Kd.V_drewN | apply Kd.V_drew)); exact Kd.V_mono HO_53.out (fun _ hk => ⟨hk.1, ⟨hk.2.2.1, ⟨hk.2.2.2.1, ⟨hk.2.2.2.2.1, ⟨hk.2.2.2.2.2.1, ⟨hk.2.2.2.2.2.2.1, hk.2.2.2.2.2.2.2⟩⟩⟩⟩⟩⟩)⟩, ⟨by (with_reducible repeat (first | apply Kd.R_alloc | apply Kd.R_drewN | apply Kd.R_drew)); exact Kd.R_mono HO_193000.out (fun _ hk => ⟨hk.1, ⟨hk.2.2.1, hk.2.2.2⟩⟩)⟩, ⟨by (with_reducible repeat (first | apply Kd.R_alloc | apply Kd.R_drewN | apply Kd.R_drew)); exact Kd.R_mono HO_193002.out (fun _ hk => ⟨hk.1, ⟨hk.2.2.1, hk.2.2.2⟩⟩)⟩, ⟨blf_⟩, ⟨blf_⟩, ⟨blf_⟩, ⟨blf_⟩, ⟨cv_ HR196_0⟩, ⟨bel_⟩⟩
                     as_aux_lemma =>
                      rw [if_pos c147] at H
                      have c147b0 : ((x13_55.length : Int) == 1) = true := beq_iff_eq.mpr c147
                      have c147b1 : ((x13_55.length : Int) != 1) = false := bne_eq_false_iff_eq.mpr c147
                      clear c147
                      by_cases c148 : 0 < (x13_55.length : Int)
                      rotate_left
                      · rw [if_neg c148] at H
                        exact absurd H (by simp)
                      rw [if_pos c148] at H
                      have c148b0 : decide (0 < (x13_55.length : Int)) = true := decide_eq_true c148
                      have c148b1 : decide (0 < x13_55.length) = true := decide_eq_true (by omega)
                      clear c148
                      have H' := zM H
                      clear H
                      obtain ⟨Ao149, co149, eo149⟩ := Kd.V_slice HO_9.out
                      subst eo149
                      obtain ⟨Ao150, co150, eo150⟩ := Kd.R_slice HO_13.out
                      subst eo150
                      have p209 : 0 ≤ (0 : Int) := (by omega)
                      have q209 : 0 < (x13_55.length : Int) := of_decide_eq_true (by first | (with_reducible assumption) | assumption)
                      obtain ⟨ad209, e209, hx209_0, hx209_1, hx209_2⟩ := at_T34 (Kd.R_reads' HO_13.out).2.2 0 p209 q209
                      cases e209
                      have qi209 : (0 < x13_55.length) = True := eq_true (by omega)
                      (try rw [show ((0 : Int)).toNat = 0 from rfl] at hx209_0)
                      (try rw [show 0 * 3 = 0 from rfl] at hx209_0)
                      (try rw [Addr.add_zero'] at hx209_0)
                      (try rw [show ((0 : Int)).toNat = 0 from rfl] at hx209_1)
                      (try rw [show 0 * 3 = 0 from rfl] at hx209_1)
                      (try rw [Addr.add_zero'] at hx209_1)
                      (try rw [show ((0 : Int)).toNat = 0 from rfl] at hx209_2)
                      (try rw [show 0 * 3 = 0 from rfl] at hx209_2)
                      (try rw [Addr.add_zero'] at hx209_2)
                      replace p209 := eq_true p209
                      replace q209 := eq_true q209
                      have hnb151 := NB184_187.out
                      have hnc151 := NB187_184.out
                      have hnb152 := NB184_188.out
                      have hnc152 := NB188_184.out
                      have hnb153 := NB184_192.out
                      have hnc153 := NB192_184.out
                      have hcz154_0 : wc.cell? ⟨gb184, 0, none⟩ = some (.int .i64 a1_0) := (zL BK184.out 0).trans rfl
                      have hcz154_1 : wc.cell? ⟨gb184, 1, none⟩ = some (.int .i64 a1_1) := (zL BK184.out 1).trans rfl
                      have hcz154_2 : wc.cell? ⟨gb184, 2, none⟩ = some (.int .i64 a1_2) := (zL BK184.out 2).trans rfl
                      have hfz154_0 := zF BK184.out 0
                      have hfz154_1 := zF BK184.out 1
                      have hfz154_2 := zF BK184.out 2
                      go_quiet (fail)
                      try go_wp2
                      go_meet
                      case rel => exact ⟨_, ((!(((rd_T34 x13_55 0).f0) == a1_0) || ((!(((rd_T34 x13_55 0).f1.f0) == a1_1) || (!(((rd_T34 x13_55 0).f1.f1) == a1_2)))))), (by first | rfl | (simp; done) | (simp [*]; done) | (simp; grind)), H', ⟨by have := HJ9.out; have := HK2.out; have := HJ55.out; first | omega | exact Nat.le_refl _⟩, ⟨by (with_reducible repeat (first | apply Kd.V_alloc | apply Kd.V_drewN | apply Kd.V_drew)); exact Kd.V_mono HO_2.out (fun _ hk => ⟨hk.1, ⟨hk.2.2.1, ⟨hk.2.2.2.1, ⟨hk.2.2.2.2.1, ⟨hk.2.2.2.2.2.1, ⟨hk.2.2.2.2.2.2.1, hk.2.2.2.2.2.2.2⟩⟩⟩⟩⟩⟩)⟩, ⟨by (with_reducible repeat (first | apply Kd.V_alloc | apply Kd.V_drewN | apply Kd.V_drew)); exact Kd.V_mono HO_9.out (fun _ hk => ⟨hk.1, ⟨hk.2.2.1, ⟨hk.2.2.2.1, ⟨hk.2.2.2.2.1, ⟨hk.2.2.2.2.2.1, ⟨hk.2.2.2.2.2.2.1, hk.2.2.2.2.2.2.2⟩⟩⟩⟩⟩⟩)⟩, ⟨by (with_reducible repeat (first | apply Kd.V_alloc | apply Kd.V_drewN | apply Kd.V_drew)); exact Kd.V_mono HO_11.out (fun _ hk => ⟨hk.1, ⟨hk.2.2.1, ⟨hk.2.2.2.1, ⟨hk.2.2.2.2.1, ⟨hk.2.2.2.2.2.1, ⟨hk.2.2.2.2.2.2.1, hk.2.2.2.2.2.2.2⟩⟩⟩⟩⟩⟩)⟩, ⟨by (with_reducible repeat (first | apply Kd.V_alloc | apply Kd.V_drewN | apply Kd.V_drew)); exact Kd.V_mono HO_53.out (fun _ hk => ⟨hk.1, ⟨hk.2.2.1, ⟨hk.2.2.2.1, ⟨hk.2.2.2.2.1, ⟨hk.2.2.2.2.2.1, ⟨hk.2.2.2.2.2.2.1, hk.2.2.2.2.2.2.2⟩⟩⟩⟩⟩⟩)⟩, ⟨by (with_reducible repeat (first | apply Kd.R_alloc | apply Kd.R_drewN | apply Kd.R_drew)); exact Kd.R_mono HO_193000.out (fun _ hk => ⟨hk.1, ⟨hk.2.2.1, hk.2.2.2⟩⟩)⟩, ⟨by (with_reducible repeat (first | apply Kd.R_alloc | apply Kd.R_drewN | apply Kd.R_drew)); exact Kd.R_mono HO_193002.out (fun _ hk => ⟨hk.1, ⟨hk.2.2.1, hk.2.2.2⟩⟩)⟩, ⟨blf_⟩, ⟨blf_⟩, ⟨blf_⟩, ⟨blf_⟩, ⟨cv_ HR196_0⟩, ⟨bel_⟩⟩
                 as_aux_lemma =>
                  rw [if_pos c124] at H
                  have c124b0 : decide (0 < (x9_2.length : Int)) = true := decide_eq_true c124
                  have c124b1 : decide (0 < x9_2.length) = true := decide_eq_true (by omega)
                  clear c124
                  replace H := Option.bind_eq_some_iff.mp H
                  obtain ⟨t207, A1250, H⟩ := H
                  replace H : (if t207 = true then (if (x9_2.length : Int) = 0 then (if (x13_55.length : Int) = 1 then (if 0 < (x13_55.length : Int) then (ropewaylaw15_SnapEnds_t.j3 kj55 l2 x8_2 x9_2 (rd_L3 l2 x55_2) x12_55 l2 (l2.length : Int) x55_2 (!(((rd_T34 x13_55 0).f0) == a1_0) || ((!(((rd_T34 x13_55 0).f1.f0) == a1_1) || (!(((rd_T34 x13_55 0).f1.f1) == a1_2))))) a1_0 a1_1 a1_2 y189 x193001_55 x193002_2) else (none)) else (ropewaylaw15_SnapEnds_t.j3 kj55 l2 x8_2 x9_2 (rd_L3 l2 x55_2) x12_55 l2 (l2.length : Int) x55_2 true a1_0 a1_1 a1_2 y189 x193001_55 x193002_2)) else (ropewaylaw15_SnapEnds_t.j3 kj55 l2 x8_2 x9_2 (rd_L3 l2 x55_2) x12_55 l2 (l2.length : Int) x55_2 false a1_0 a1_1 a1_2 y189 x193001_55 x193002_2)) else (ropewaylaw15_SnapEnds_t.j3 kj55 l2 x8_2 x9_2 (rd_L3 l2 x55_2) x12_55 l2 (l2.length : Int) x55_2 true a1_0 a1_1 a1_2 y189 x193001_55 x193002_2)) = some r := H
                  have A125 := zM A1250
                  clear A1250
                  by_cases c126 : t207 = true
                  rotate_left
                  · replace c126 := Bool.eq_false_iff.mpr c126
                    subst c126
                    have H1 : (ropewaylaw15_SnapEnds_t.j3 kj55 l2 x8_2 x9_2 (rd_L3 l2 x55_2) x12_55 l2 (l2.length : Int) x55_2 true a1_0 a1_1 a1_2 y189 x193001_55 x193002_2) = some r := by rw [if_neg (show ¬ (false = true) by decide)] at H; exact H
                    clear H
                    have H := H1
                    clear H1
                    have H' := zM H
                    clear H
                    obtain ⟨Ao143, co143, eo143⟩ := Kd.V_slice HO_9.out
                    subst eo143
                    obtain ⟨Ao144, co144, eo144⟩ := Kd.R_slice HO_13.out
                    subst eo144
                    have tk145 : True := trivial
                    go_quiet (first | (go_at_call 18; (with_reducible refine (ropewayref10_Same.calls kj55 _ _ x13_55 _ _ x9_2 false _ ?side1 ?side2 ?side3 ?side4 A125.out).mono ?_); (case side1 => repeat (first | exact (Kd.R_reads' HO_13.out).2.2 | (with_reducible refine Kd.C_alloc ?_ _) | (with_reducible refine Kd.C_drewN ?_ _) | (with_reducible refine Kd.C_drew ?_))); (case side2 => exact (Kd.R_reads' HO_13.out).2.1); (case side3 => repeat (first | exact (Kd.V_reads' HO_9.out).2.2 | (with_reducible refine Kd.C_alloc ?_ _) | (with_reducible refine Kd.C_drewN ?_ _) | (with_reducible refine Kd.C_drew ?_))); (case side4 => exact (Kd.V_reads' HO_9.out).2.1); rintro e w' ⟨rfl, ⟨nd, rfl⟩⟩; (try first | exact ⟨rfl, _, World.drewN_drewN _ _ _⟩ | exact ⟨rfl, _, Eq.trans (World.drewN_drewN _ _ _) (congrArg (World.drewN _) (Nat.add_assoc _ _ _))⟩)))
                    try go_wp2
                    go_meet
                    case rel => exact ⟨_, (true), (by first | rfl | (simp; done) | (simp [*]; done) | (simp; grind)), H', ⟨by have := HJ9.out; have := HK2.out; have := HJ55.out; first | omega | exact Nat.le_refl _⟩, ⟨by (with_reducible repeat (first | apply Kd.V_alloc | apply Kd.V_drewN | apply Kd.V_drew)); exact Kd.V_mono HO_2.out (fun _ hk => ⟨hk.1, ⟨hk.2.2.1, ⟨hk.2.2.2.1, ⟨hk.2.2.2.2.1, ⟨hk.2.2.2.2.2.1, ⟨hk.2.2.2.2.2.2.1, hk.2.2.2.2.2.2.2⟩⟩⟩⟩⟩⟩)⟩, ⟨by (with_reducible repeat (first | apply Kd.V_alloc | apply Kd.V_drewN | apply Kd.V_drew)); exact Kd.V_mono HO_9.out (fun _ hk => ⟨hk.1, ⟨hk.2.2.1, ⟨hk.2.2.2.1, ⟨hk.2.2.2.2.1, ⟨hk.2.2.2.2.2.1, ⟨hk.2.2.2.2.2.2.1, hk.2.2.2.2.2.2.2⟩⟩⟩⟩⟩⟩)⟩, ⟨by (with_reducible repeat (first | apply Kd.V_alloc | apply Kd.V_drewN | apply Kd.V_drew)); exact Kd.V_mono HO_11.out (fun _ hk => ⟨hk.1, ⟨hk.2.2.1, ⟨hk.2.2.2.1, ⟨hk.2.2.2.2.1, ⟨hk.2.2.2.2.2.1, ⟨hk.2.2.2.2.2.2.1, hk.2.2.2.2.2.2.2⟩⟩⟩⟩⟩⟩)⟩, ⟨by (with_reducible repeat (first | apply Kd.V_alloc | apply Kd.V_drewN | apply Kd.V_drew)); exact Kd.V_mono HO_53.out (fun _ hk => ⟨hk.1, ⟨hk.2.2.1, ⟨hk.2.2.2.1, ⟨hk.2.2.2.2.1, ⟨hk.2.2.2.2.2.1, ⟨hk.2.2.2.2.2.2.1, hk.2.2.2.2.2.2.2⟩⟩⟩⟩⟩⟩)⟩, ⟨by (with_reducible repeat (first | apply Kd.R_alloc | apply Kd.R_drewN | apply Kd.R_drew)); exact Kd.R_mono HO_193000.out (fun _ hk => ⟨hk.1, ⟨hk.2.2.1, hk.2.2.2⟩⟩)⟩, ⟨by (with_reducible repeat (first | apply Kd.R_alloc | apply Kd.R_drewN | apply Kd.R_drew)); exact Kd.R_mono HO_193002.out (fun _ hk => ⟨hk.1, ⟨hk.2.2.1, hk.2.2.2⟩⟩)⟩, ⟨blf_⟩, ⟨blf_⟩, ⟨blf_⟩, ⟨blf_⟩, ⟨cv_ HR196_0⟩, ⟨bel_⟩⟩
                  as_aux_lemma =>
                   subst c126
                   have H1 : (if (x9_2.length : Int) = 0 then (if (x13_55.length : Int) = 1 then (if 0 < (x13_55.length : Int) then (ropewaylaw15_SnapEnds_t.j3 kj55 l2 x8_2 x9_2 (rd_L3 l2 x55_2) x12_55 l2 (l2.length : Int) x55_2 (!(((rd_T34 x13_55 0).f0) == a1_0) || ((!(((rd_T34 x13_55 0).f1.f0) == a1_1) || (!(((rd_T34 x13_55 0).f1.f1) == a1_2))))) a1_0 a1_1 a1_2 y189 x193001_55 x193002_2) else (none)) else (ropewaylaw15_SnapEnds_t.j3 kj55 l2 x8_2 x9_2 (rd_L3 l2 x55_2) x12_55 l2 (l2.length : Int) x55_2 true a1_0 a1_1 a1_2 y189 x193001_55 x193002_2)) else (ropewaylaw15_SnapEnds_t.j3 kj55 l2 x8_2 x9_2 (rd_L3 l2 x55_2) x12_55 l2 (l2.length : Int) x55_2 false a1_0 a1_1 a1_2 y189 x193001_55 x193002_2)) = some r := by rw [if_pos rfl] at H; exact H
                   clear H
                   have H := H1
                   clear H1
                   by_cases c127 : (x9_2.length : Int) = 0
                   rotate_left
                   · rw [if_neg c127] at H
                     have c127b0 : ((x9_2.length : Int) == 0) = false := beq_eq_false_iff_ne.mpr c127
                     have c127b1 : ((x9_2.length : Int) != 0) = true := bne_iff_ne.mpr c127
                     have c127b2 : ¬ (x9_2 = []) := fun h_ => c127 (by rw [h_]; rfl)
                     have H' := zM H
                     clear H
                     obtain ⟨Ao140, co140, eo140⟩ := Kd.V_slice HO_9.out
                     subst eo140
                     obtain ⟨Ao141, co141, eo141⟩ := Kd.R_slice HO_13.out
                     subst eo141
                     have tk142 : True := trivial
                     go_quiet (first | (go_at_call 18; (with_reducible refine (ropewayref10_Same.calls kj55 _ _ x13_55 _ _ x9_2 true _ ?side1 ?side2 ?side3 ?side4 A125.out).mono ?_); (case side1 => repeat (first | exact (Kd.R_reads' HO_13.out).2.2 | (with_reducible refine Kd.C_alloc ?_ _) | (with_reducible refine Kd.C_drewN ?_ _) | (with_reducible refine Kd.C_drew ?_))); (case side2 => exact (Kd.R_reads' HO_13.out).2.1); (case side3 => repeat (first | exact (Kd.V_reads' HO_9.out).2.2 | (with_reducible refine Kd.C_alloc ?_ _) | (with_reducible refine Kd.C_drewN ?_ _) | (with_reducible refine Kd.C_drew ?_))); (case side4 => exact (Kd.V_reads' HO_9.out).2.1); rintro e w' ⟨rfl, ⟨nd, rfl⟩⟩; (try first | exact ⟨rfl, _, World.drewN_drewN _ _ _⟩ | exact ⟨rfl, _, Eq.trans (World.drewN_drewN _ _ _) (congrArg (World.drewN _) (Nat.add_assoc _ _ _))⟩)))
                     try go_wp2
                     go_meet
                     case rel => exact ⟨_, (false), (by first | rfl | (simp; done) | (simp [*]; done) | (simp; grind)), H', ⟨by have := HJ9.out; have := HK2.out; have := HJ55.out; first | omega | exact Nat.le_refl _⟩, ⟨by (with_reducible repeat (first | apply Kd.V_alloc | apply Kd.V_drewN | apply Kd.V_drew)); exact Kd.V_mono HO_2.out (fun _ hk => ⟨hk.1, ⟨hk.2.2.1, ⟨hk.2.2.2.1, ⟨hk.2.2.2.2.1, ⟨hk.2.2.2.2.2.1, ⟨hk.2.2.2.2.2.2.1, hk.2.2.2.2.2.2.2⟩⟩⟩⟩⟩⟩)⟩, ⟨by (with_reducible repeat (first | apply Kd.V_alloc | apply Kd.V_drewN | apply Kd.V_drew)); exact Kd.V_mono HO_9.out (fun _ hk => ⟨hk.1, ⟨hk.2.2.1, ⟨hk.2.2.2.1, ⟨hk.2.2.2.2.1, ⟨hk.2.2.2.2.2.1, ⟨hk.2.2.2.2.2.2.1, hk.2.2.2.2.2.2.2⟩⟩⟩⟩⟩⟩)⟩, ⟨by (with_reducible repeat (first | apply Kd.V_alloc | apply Kd.V_drewN | apply Kd.V_drew)); exact Kd.V_mono HO_11.out (fun _ hk => ⟨hk.1, ⟨hk.2.2.1, ⟨hk.2.2.2.1, ⟨hk.2.2.2.2.1, ⟨hk.2.2.2.2.2.1, ⟨hk.2.2.2.2.2.2.1, hk.2.2.2.2.2.2.2⟩⟩⟩⟩⟩⟩)⟩, ⟨by (with_reducible repeat (first | apply Kd.V_alloc | apply Kd.V_drewN | apply Kd.V_drew)); exact Kd.V_mono HO_53.out (fun _ hk => ⟨hk.1, ⟨hk.2.2.1, ⟨hk.2.2.2.1, ⟨hk.2.2.2.2.1, ⟨hk.2.2.2.2.2.1, ⟨hk.2.2.2.2.2.2.1, hk.2.2.2.2.2.2.2⟩⟩⟩⟩⟩⟩)⟩, ⟨by (with_reducible repeat (first | apply Kd.R_alloc | apply Kd.R_drewN | apply Kd.R_drew)); exact Kd.R_mono HO_193000.out (fun _ hk => ⟨hk.1, ⟨hk.2.2.1, hk.2.2.2⟩⟩)⟩, ⟨by (with_reducible repeat (first | apply Kd.R_alloc | apply Kd.R_drewN | apply Kd.R_drew)); exact Kd.R_mono HO_193002.out (fun _ hk => ⟨hk.1, ⟨hk.2.2.1, hk.2.2.2⟩⟩)⟩, ⟨blf_⟩, ⟨blf_⟩, ⟨blf_⟩, ⟨blf_⟩, ⟨cv_ HR196_0⟩, ⟨bel_⟩⟩
                   as_aux_lemma =>
                    rw [if_pos c127] at H
                    have c127b0 : ((x9_2.length : Int) == 0) = true := beq_iff_eq.mpr c127
                    have c127b1 : ((x9_2.length : Int) != 0) = false := bne_eq_false_iff_eq.mpr c127
                    clear c127
                    by_cases c128 : (x13_55.length : Int) = 1
                    rotate_left
                    · rw [if_neg c128] at H
                      have c128b0 : ((x13_55.length : Int) == 1) = false := beq_eq_false_iff_ne.mpr c128
                      have c128b1 : ((x13_55.length : Int) != 1) = true := bne_iff_ne.mpr c128
                      have H' := zM H
                      clear H
                      obtain ⟨Ao137, co137, eo137⟩ := Kd.V_slice HO_9.out
                      subst eo137
                      obtain ⟨Ao138, co138, eo138⟩ := Kd.R_slice HO_13.out
                      subst eo138
                      have tk139 : True := trivial
                      go_quiet (first | (go_at_call 18; (with_reducible refine (ropewayref10_Same.calls kj55 _ _ x13_55 _ _ x9_2 true _ ?side1 ?side2 ?side3 ?side4 A125.out).mono ?_); (case side1 => repeat (first | exact (Kd.R_reads' HO_13.out).2.2 | (with_reducible refine Kd.C_alloc ?_ _) | (with_reducible refine Kd.C_drewN ?_ _) | (with_reducible refine Kd.C_drew ?_))); (case side2 => exact (Kd.R_reads' HO_13.out).2.1); (case side3 => repeat (first | exact (Kd.V_reads' HO_9.out).2.2 | (with_reducible refine Kd.C_alloc ?_ _) | (with_reducible refine Kd.C_drewN ?_ _) | (with_reducible refine Kd.C_drew ?_))); (case side4 => exact (Kd.V_reads' HO_9.out).2.1); rintro e w' ⟨rfl, ⟨nd, rfl⟩⟩; (try first | exact ⟨rfl, _, World.drewN_drewN _ _ _⟩ | exact ⟨rfl, _, Eq.trans (World.drewN_drewN _ _ _) (congrArg (World.drewN _) (Nat.add_assoc _ _ _))⟩)))
                      try go_wp2
                      go_meet
                      case rel => exact ⟨_, (true), (by first | rfl | (simp; done) | (simp [*]; done) | (simp; grind)), H', ⟨by have := HJ9.out; have := HK2.out; have := HJ55.out; first | omega | exact Nat.le_refl _⟩, ⟨by (with_reducible repeat (first | apply Kd.V_alloc | apply Kd.V_drewN | apply Kd.V_drew)); exact Kd.V_mono HO_2.out (fun _ hk => ⟨hk.1, ⟨hk.2.2.1, ⟨hk.2.2.2.1, ⟨hk.2.2.2.2.1, ⟨hk.2.2.2.2.2.1, ⟨hk.2.2.2.2.2.2.1, hk.2.2.2.2.2.2.2⟩⟩⟩⟩⟩⟩)⟩, ⟨by (with_reducible repeat (first | apply Kd.V_alloc | apply Kd.V_drewN | apply Kd.V_drew)); exact Kd.V_mono HO_9.out (fun _ hk => ⟨hk.1, ⟨hk.2.2.1, ⟨hk.2.2.2.1, ⟨hk.2.2.2.2.1, ⟨hk.2.2.2.2.2.1, ⟨hk.2.2.2.2.2.2.1, hk.2.2.2.2.2.2.2⟩⟩⟩⟩⟩⟩)⟩, ⟨by (with_reducible repeat (first | apply Kd.V_alloc | apply Kd.V_drewN | apply Kd.V_drew)); exact Kd.V_mono HO_11.out (fun _ hk => ⟨hk.1, ⟨hk.2.2.1, ⟨hk.2.2.2.1, ⟨hk.2.2.2.2.1, ⟨hk.2.2.2.2.2.1, ⟨hk.2.2.2.2.2.2.1, hk.2.2.2.2.2.2.2⟩⟩⟩⟩⟩⟩)⟩, ⟨by (with_reducible repeat (first | apply Kd.V_alloc | apply Kd.V_drewN | apply Kd.V_drew)); exact Kd.V_mono HO_53.out (fun _ hk => ⟨hk.1, ⟨hk.2.2.1, ⟨hk.2.2.2.1, ⟨hk.2.2.2.2.1, ⟨hk.2.2.2.2.2.1, ⟨hk.2.2.2.2.2.2.1, hk.2.2.2.2.2.2.2⟩⟩⟩⟩⟩⟩)⟩, ⟨by (with_reducible repeat (first | apply Kd.R_alloc | apply Kd.R_drewN | apply Kd.R_drew)); exact Kd.R_mono HO_193000.out (fun _ hk => ⟨hk.1, ⟨hk.2.2.1, hk.2.2.2⟩⟩)⟩, ⟨by (with_reducible repeat (first | apply Kd.R_alloc | apply Kd.R_drewN | apply Kd.R_drew)); exact Kd.R_mono HO_193002.out (fun _ hk => ⟨hk.1, ⟨hk.2.2.1, hk.2.2.2⟩⟩)⟩, ⟨blf_⟩, ⟨blf_⟩, ⟨blf_⟩, ⟨blf_⟩, ⟨cv_ HR196_0⟩, ⟨bel_⟩⟩
                    as_aux_lemma =>
                     rw [if_pos c128] at H
                     have c128b0 : ((x13_55.length : Int) == 1) = true := beq_iff_eq.mpr c128
                     have c128b1 : ((x13_55.length : Int) != 1) = false := bne_eq_false_iff_eq.mpr c128
                     clear c128
                     by_cases c129 : 0 < (x13_55.length : Int)
                     rotate_left
                     · rw [if_neg c129] at H
                       exact absurd H (by simp)
                     as_aux_lemma =>
                      rw [if_pos c129] at H
                      have c129b0 : decide (0 < (x13_55.length : Int)) = true := decide_eq_true c129
                      have c129b1 : decide (0 < x13_55.length) = true := decide_eq_true (by omega)
                      clear c129
                      have H' := zM H
                      clear H
                      obtain ⟨Ao130, co130, eo130⟩ := Kd.V_slice HO_9.out
                      subst eo130
                      obtain ⟨Ao131, co131, eo131⟩ := Kd.R_slice HO_13.out
                      subst eo131
                      have tk132 : True := trivial
                      go_quiet (first | (go_at_call 18; (with_reducible refine (ropewayref10_Same.calls kj55 _ _ x13_55 _ _ x9_2 true _ ?side1 ?side2 ?side3 ?side4 A125.out).mono ?_); (case side1 => repeat (first | exact (Kd.R_reads' HO_13.out).2.2 | (with_reducible refine Kd.C_alloc ?_ _) | (with_reducible refine Kd.C_drewN ?_ _) | (with_reducible refine Kd.C_drew ?_))); (case side2 => exact (Kd.R_reads' HO_13.out).2.1); (case side3 => repeat (first | exact (Kd.V_reads' HO_9.out).2.2 | (with_reducible refine Kd.C_alloc ?_ _) | (with_reducible refine Kd.C_drewN ?_ _) | (with_reducible refine Kd.C_drew ?_))); (case side4 => exact (Kd.V_reads' HO_9.out).2.1); rintro e w' ⟨rfl, ⟨nd, rfl⟩⟩; (try first | exact ⟨rfl, _, World.drewN_drewN _ _ _⟩ | exact ⟨rfl, _, Eq.trans (World.drewN_drewN _ _ _) (congrArg (World.drewN _) (Nat.add_assoc _ _ _))⟩); have p208 : 0 ≤ (0 : Int) := (by omega); have q208 : 0 < (x13_55.length : Int) := of_decide_eq_true (by first | (with_reducible assumption) | assumption); obtain ⟨ad208, e208, hx208_0, hx208_1, hx208_2⟩ := at_T34 (Kd.R_reads' HO_13.out).2.2 0 p208 q208; cases e208; have qi208 : (0 < x13_55.length) = True := eq_true (by omega); (try rw [show ((0 : Int)).toNat = 0 from rfl] at hx208_0); (try rw [show 0 * 3 = 0 from rfl] at hx208_0); (try rw [Addr.add_zero'] at hx208_0); (try rw [show ((0 : Int)).toNat = 0 from rfl] at hx208_1); (try rw [show 0 * 3 = 0 from rfl] at hx208_1); (try rw [Addr.add_zero'] at hx208_1); (try rw [show ((0 : Int)).toNat = 0 from rfl] at hx208_2); (try rw [show 0 * 3 = 0 from rfl] at hx208_2); (try rw [Addr.add_zero'] at hx208_2); replace p208 := eq_true p208; replace q208 := eq_true q208; have hnb133 := NB184_187.out; have hnc133 := NB187_184.out; have hnb134 := NB184_188.out; have hnc134 := NB188_184.out; have hnb135 := NB184_192.out; have hnc135 := NB192_184.out; have hcz136_0 : wc.cell? ⟨gb184, 0, none⟩ = some (.int .i64 a1_0) := (zL BK184.out 0).trans rfl; have hcz136_1 : wc.cell? ⟨gb184, 1, none⟩ = some (.int .i64 a1_1) := (zL BK184.out 1).trans rfl; have hcz136_2 : wc.cell? ⟨gb184, 2, none⟩ = some (.int .i64 a1_2) := (zL BK184.out 2).trans rfl; have hfz136_0 := zF BK184.out 0; have hfz136_1 := zF BK184.out 1; have hfz136_2 := zF BK184.out 2))
                      try go_wp2
                      go_meet
                      case rel => exact ⟨_, ((!(((rd_T34 x13_55 0).f0) == a1_0) || ((!(((rd_T34 x13_55 0).f1.f0) == a1_1) || (!(((rd_T34 x13_55 0).f1.f1) == a1_2)))))), (by first | rfl | (simp; done) | (simp [*]; done) | (simp; grind)), H', ⟨by have := HJ9.out; have := HK2.out; have := HJ55.out; first | omega | exact Nat.le_refl _⟩, ⟨by (with_reducible repeat (first | apply Kd.V_alloc | apply Kd.V_drewN | apply Kd.V_drew)); exact Kd.V_mono HO_2.out (fun _ hk => ⟨hk.1, ⟨hk.2.2.1, ⟨hk.2.2.2.1, ⟨hk.2.2.2.2.1, ⟨hk.2.2.2.2.2.1, ⟨hk.2.2.2.2.2.2.1, hk.2.2.2.2.2.2.2⟩⟩⟩⟩⟩⟩)⟩, ⟨by (with_reducible repeat (first | apply Kd.V_alloc | apply Kd.V_drewN | apply Kd.V_drew)); exact Kd.V_mono HO_9.out (fun _ hk => ⟨hk.1, ⟨hk.2.2.1, ⟨hk.2.2.2.1, ⟨hk.2.2.2.2.1, ⟨hk.2.2.2.2.2.1, ⟨hk.2.2.2.2.2.2.1, hk.2.2.2.2.2.2.2⟩⟩⟩⟩⟩⟩)⟩, ⟨by (with_reducible repeat (first | apply Kd.V_alloc | apply Kd.V_drewN | apply Kd.V_drew)); exact Kd.V_mono HO_11.out (fun _ hk => ⟨hk.1, ⟨hk.2.2.1, ⟨hk.2.2.2.1, ⟨hk.2.2.2.2.1, ⟨hk.2.2.2.2.2.1, ⟨hk.2.2.2.2.2.2.1, hk.2.2.2.2.2.2.2⟩⟩⟩⟩⟩⟩)⟩, ⟨by (with_reducible repeat (first | apply Kd.V_alloc | apply Kd.V_drewN | apply Kd.V_drew)); exact Kd.V_mono HO_53.out (fun _ hk => ⟨hk.1, ⟨hk.2.2.1, ⟨hk.2.2.2.1, ⟨hk.2.2.2.2.1, ⟨hk.2.2.2.2.2.1, ⟨hk.2.2.2.2.2.2.1, hk.2.2.2.2.2.2.2⟩⟩⟩⟩⟩⟩)⟩, ⟨by (with_reducible repeat (first | apply Kd.R_alloc | apply Kd.R_drewN | apply Kd.R_drew)); exact Kd.R_mono HO_193000.out (fun _ hk => ⟨hk.1, ⟨hk.2.2.1, hk.2.2.2⟩⟩)⟩, ⟨by (with_reducible repeat (first | apply Kd.R_alloc | apply Kd.R_drewN | apply Kd.R_drew)); exact Kd.R_mono HO_193002.out (fun _ hk => ⟨hk.1, ⟨hk.2.2.1, hk.2.2.2⟩⟩)⟩, ⟨blf_⟩, ⟨blf_⟩, ⟨blf_⟩, ⟨blf_⟩, ⟨cv_ HR196_0⟩, ⟨bel_⟩⟩
               case rest => as_aux_lemma =>
                clear HC122
                try clear c2
                try clear c7
                try clear c11
                try clear c11b0
                try clear c11b1
                try clear c12
                try clear c12b0
                try clear c14
                try clear c14b0
                try clear c17
                try clear c25
                try clear c49
                try clear c49b0
                try clear c50
                try clear c50b0
                try clear c51
                try clear c51b0
                try clear c53
                try clear c53b0
                try clear c53b1
                try clear c57
                try clear c57b0
                try clear c57b1
                try clear c64
                try clear c64b0
                try clear c64b1
                try clear c71
                try clear c71b0
                try clear c71b1
                try clear c78
                try clear c78b0
                try clear c78b1
                try clear c79
                try clear c79b0
                try clear c79b1
                try clear c80
                try clear c80b0
                try clear c80b1
                try clear c80b2
                try clear c121
                try clear c123
                try clear c123b0
                try clear c123b1
                try clear c124
                try clear c124b0
                try clear c124b1
                try clear c126
                try clear c127
                try clear c127b0
                try clear c127b1
                try clear c127b2
                try clear c128
                try clear c128b0
                try clear c128b1
                try clear c129
                try clear c129b0
                try clear c129b1
                try clear c146
                try clear c146b0
                try clear c146b1
                try clear c146b2
                try clear c147
                try clear c147b0
                try clear c147b1
                try clear c148
                try clear c148b0
                try clear c148b1
                try clear hcz100_0
                try clear hcz100_1
                try clear hcz100_2
                try clear hcz114_0
                try clear hcz114_1
                try clear hcz114_2
                try clear hcz136_0
                try clear hcz136_1
                try clear hcz136_2
                try clear hcz13_0
                try clear hcz13_1
                try clear hcz13_2
                try clear hcz154_0
                try clear hcz154_1
                try clear hcz154_2
                try clear hcz15_0
                try clear hcz15_1
                try clear hcz15_2
                try clear hcz18_0
                try clear hcz18_1
                try clear hcz18_2
                try clear hcz21_0
                try clear hcz21_1
                try clear hcz21_2
                try clear hcz22_0
                try clear hcz22_1
                try clear hcz22_2
                try clear hcz31_0
                try clear hcz31_1
                try clear hcz31_2
                try clear hcz37_0
                try clear hcz37_1
                try clear hcz62_0
                try clear hcz62_1
                try clear hcz62_2
                try clear hcz69_0
                try clear hcz69_1
                try clear hcz69_2
                try clear hcz76_0
                try clear hcz76_1
                try clear hcz76_2
                try clear hcz86_0
                try clear hcz86_1
                try clear hcz86_2
                try clear hfz100_0
                try clear hfz100_1
                try clear hfz100_2
                try clear hfz114_0
                try clear hfz114_1
                try clear hfz114_2
                try clear hfz136_0
                try clear hfz136_1
                try clear hfz136_2
                try clear hfz13_0
                try clear hfz13_1
                try clear hfz13_2
                try clear hfz154_0
                try clear hfz154_1
                try clear hfz154_2
                try clear hfz15_0
                try clear hfz15_1
                try clear hfz15_2
                try clear hfz18_0
                try clear hfz18_1
                try clear hfz18_2
                try clear hfz21_0
                try clear hfz21_1
                try clear hfz21_2
                try clear hfz22_0
                try clear hfz22_1
                try clear hfz22_2
                try clear hfz31_0
                try clear hfz31_1
                try clear hfz31_2
                try clear hfz37_0
                try clear hfz37_1
                try clear hfz62_0
                try clear hfz62_1
                try clear hfz62_2
                try clear hfz69_0
                try clear hfz69_1
                try clear hfz69_2
                try clear hfz76_0
                try clear hfz76_1
                try clear hfz76_2
                try clear hfz86_0
                try clear hfz86_1
                try clear hfz86_2
                try clear hx196_0
                try clear hx208_0
                try clear hx208_1
                try clear hx208_2
                try clear hx209_0
                try clear hx209_1
                try clear hx209_2
                try clear p196
                try clear p208
                try clear p209
                try clear q196
                try clear q208
                try clear q209
                obtain ⟨kq, x107_121, rfl, HA, HJ121, HO_2, HO_9, HO_11, HO_53, HO_193000, HO_193002, BK184, BK187, BK188, BK192, HR196_0, HB⟩ := hcut
                cases kq with
                | zero => exact absurd HA.out (by simp [ropewaylaw15_SnapEnds_t.j3])
                | succ kj121 =>
                 have H := HA.out
                 clear HA
                 simp only [ropewaylaw15_SnapEnds_t.j3] at H
                 by_cases c158 : x107_121 = true
                 · subst c158
                   have H1 : (some false) = some r := by rw [if_pos rfl] at H; exact H
                   clear H
                   have H := H1
                   clear H1
                   exact absurd (Option.some.inj H) (by rw [hr1_.out]; decide)
                 replace c158 := Bool.eq_false_iff.mpr c158
                 subst c158
                 have H1 : (if x12_55 = 0 then (ropewaylaw15_SnapEnds_t.j4 kj121 l2 x8_2 (rd_L3 l2 x55_2) (rd_L3 l2 x55_2) l2 (l2.length : Int) x55_2 a1_0 a1_1 a1_2 y189 x193001_55 x193002_2) else (ropewaylaw15_SnapEnds_t.j4 kj121 l2 x8_2 x9_2 (rd_L3 l2 x55_2) l2 (l2.length : Int) x55_2 a1_0 a1_1 a1_2 y189 x193001_55 x193002_2)) = some r := by rw [if_neg (show ¬ (false = true) by decide)] at H; exact H
                 clear H
                 have H := H1
                 clear H1
                 have HC159 := zM H
                 clear H
                 go_upto_if 109 with (fail)
                 go_cut [9] (fun v9 wc => ∃ (kq : Nat) (x9_158 : List (S34)), Aside0 (ropewaylaw15_SnapEnds_t.j4 kq l2 x8_2 x9_158 (rd_L3 l2 x55_2) l2 (l2.length : Int) x55_2 a1_0 a1_1 a1_2 y189 x193001_55 x193002_2 = some r) ∧ Aside0 (kq ≤ kj121) ∧ Aside0 (Kd.V (Kd.slice 34 k34) 27 wc w.heap.size (fun k_ => (P2_ k_ ∨ w.heap.size ≤ k_) ∧ some k_ ≠ ((.slice Ao41 y189.length co41) : Value).ownBlock ∧ some k_ ≠ (u193002 : Value).ownBlock ∧ k_ ≠ gb184 ∧ k_ ≠ gb187 ∧ k_ ≠ gb188 ∧ k_ ≠ gb192) (.slice (some ad196) l2.length c2) l2) ∧ Aside0 (Kd.V k34 34 wc w.heap.size (fun k_ => (P2_ k_ ∨ w.heap.size ≤ k_) ∧ some k_ ≠ ((.slice Ao41 y189.length co41) : Value).ownBlock ∧ some k_ ≠ (u193002 : Value).ownBlock ∧ k_ ≠ gb184 ∧ k_ ≠ gb187 ∧ k_ ≠ gb188 ∧ k_ ≠ gb192) v9 x9_158) ∧ Aside0 (Kd.V k34 34 wc w.heap.size (fun k_ => (P2_ k_ ∨ w.heap.size ≤ k_) ∧ some k_ ≠ ((.slice Ao41 y189.length co41) : Value).ownBlock ∧ some k_ ≠ (u193002 : Value).ownBlock ∧ k_ ≠ gb184 ∧ k_ ≠ gb187 ∧ k_ ≠ gb188 ∧ k_ ≠ gb192) (.slice A196_0 (rd_L3 l2 x55_2).length c196_0) (rd_L3 l2 x55_2)) ∧ Aside0 (Kd.V (Kd.slice 34 k34) 27 wc w.heap.size (fun k_ => (P2_ k_ ∨ w.heap.size ≤ k_) ∧ some k_ ≠ ((.slice Ao41 y189.length co41) : Value).ownBlock ∧ some k_ ≠ (u193002 : Value).ownBlock ∧ k_ ≠ gb184 ∧ k_ ≠ gb187 ∧ k_ ≠ gb188 ∧ k_ ≠ gb192) (.slice (some ad196) l2.length c2) l2) ∧ Aside0 (Kd.R k34 34 wc w.heap.size (fun k_ => (w.heap.size ≤ k_) ∧ some k_ ≠ (u193002 : Value).ownBlock ∧ k_ ≠ gb184) (.slice Ao41 y189.length co41) y189) ∧ Aside0 (Kd.R k34 34 wc w.heap.size (fun k_ => (w.heap.size ≤ k_) ∧ some k_ ≠ ((.slice Ao41 y189.length co41) : Value).ownBlock ∧ k_ ≠ gb184) u193002 x193002_2) ∧ Aside0 (wc.heap[gb184]? = some (.cells #[.int .i64 a1_0, .int .i64 a1_1, .int .i64 a1_2] 34 (0, 0))) ∧ Aside0 (wc.heap[gb187]? = some (.cells #[(.slice none 0 0), .int .i64 x188001_55, (.slice none 0 0)] 61 (0, 0))) ∧ Aside0 (wc.heap[gb188]? = some (.cells #[.int .i64 a1_1, .int .i64 a1_2] 26 (0, 0))) ∧ Aside0 (wc.heap[gb192]? = some (.cells #[(.slice Ao41 y189.length co41), .int .i64 x193001_55, u193002] 61 (0, 0))) ∧ Aside0 (Kd.C k34 wc A196_0 (rd_L3 l2 x55_2).length (rd_L3 l2 x55_2)) ∧ Aside0 (Below w.heap.size w wc))
                 case first =>
                  have H := HC159.out
                  clear HC159
                  by_cases c160 : x12_55 = 0
                  rotate_left
                  · rw [if_neg c160] at H
                    have c160b0 : (x12_55 == 0) = false := beq_eq_false_iff_ne.mpr c160
                    have c160b1 : (x12_55 != 0) = true := bne_iff_ne.mpr c160
                    (first | rw [c160b0] | (simp only [i64_w, i32_w]; rw [c160b0]) | skip)
                    have H' := zM H
                    clear H
                    go_wp2
                    go_meet
                    case rel => exact ⟨_, (x9_2), H', ⟨by have := HJ9.out; have := HK2.out; have := HJ55.out; have := HJ121.out; first | omega | exact Nat.le_refl _⟩, ⟨rv_ HO_2⟩, ⟨rv_ HO_9⟩, ⟨rv_ HO_11⟩, ⟨rv_ HO_53⟩, ⟨by (with_reducible repeat (first | apply Kd.R_alloc | apply Kd.R_drewN | apply Kd.R_drew)); exact HO_193000.out⟩, ⟨by (with_reducible repeat (first | apply Kd.R_alloc | apply Kd.R_drewN | apply Kd.R_drew)); exact HO_193002.out⟩, ⟨blf_⟩, ⟨blf_⟩, ⟨blf_⟩, ⟨blf_⟩, ⟨cv_ HR196_0⟩, ⟨bel_⟩⟩
                  rw [if_pos c160] at H
                  have c160b0 : (x12_55 == 0) = true := beq_iff_eq.mpr c160
                  have c160b1 : (x12_55 != 0) = false := bne_eq_false_iff_eq.mpr c160
                  clear c160
                  (first | rw [c160b0] | (simp only [i64_w, i32_w]; rw [c160b0]) | skip)
                  have H' := zM H
                  clear H
                  go_wp2
                  go_meet
                  case rel => exact ⟨_, ((rd_L3 l2 x55_2)), H', ⟨by have := HJ9.out; have := HK2.out; have := HJ55.out; have := HJ121.out; first | omega | exact Nat.le_refl _⟩, ⟨rv_ HO_2⟩, ⟨rv_ HO_11⟩, ⟨rv_ HO_11⟩, ⟨rv_ HO_53⟩, ⟨by (with_reducible repeat (first | apply Kd.R_alloc | apply Kd.R_drewN | apply Kd.R_drew)); exact HO_193000.out⟩, ⟨by (with_reducible repeat (first | apply Kd.R_alloc | apply Kd.R_drewN | apply Kd.R_drew)); exact HO_193002.out⟩, ⟨blf_⟩, ⟨blf_⟩, ⟨blf_⟩, ⟨blf_⟩, ⟨cv_ HR196_0⟩, ⟨bel_⟩⟩
                 case rest => as_aux_lemma =>
                  clear HC159
                  try clear c2
                  try clear c7
                  try clear c11
                  try clear c11b0
                  try clear c11b1
                  try clear c12
                  try clear c12b0
                  try clear c14
                  try clear c14b0
                  try clear c17
                  try clear c25
                  try clear c49
                  try clear c49b0
                  try clear c50
                  try clear c50b0
                  try clear c51
                  try clear c51b0
                  try clear c53
                  try clear c53b0
                  try clear c53b1
                  try clear c57
                  try clear c57b0
                  try clear c57b1
                  try clear c64
                  try clear c64b0
                  try clear c64b1
                  try clear c71
                  try clear c71b0
                  try clear c71b1
                  try clear c78
                  try clear c78b0
                  try clear c78b1
                  try clear c79
                  try clear c79b0
                  try clear c79b1
                  try clear c80
                  try clear c80b0
                  try clear c80b1
                  try clear c80b2
                  try clear c121
                  try clear c123
                  try clear c123b0
                  try clear c123b1
                  try clear c124
                  try clear c124b0
                  try clear c124b1
                  try clear c126
                  try clear c127
                  try clear c127b0
                  try clear c127b1
                  try clear c127b2
                  try clear c128
                  try clear c128b0
                  try clear c128b1
                  try clear c129
                  try clear c129b0
                  try clear c129b1
                  try clear c146
                  try clear c146b0
                  try clear c146b1
                  try clear c146b2
                  try clear c147
                  try clear c147b0
                  try clear c147b1
                  try clear c148
                  try clear c148b0
                  try clear c148b1
                  try clear c158
                  try clear c160
                  try clear c160b0
                  try clear c160b1
                  try clear hcz100_0
                  try clear hcz100_1
                  try clear hcz100_2
                  try clear hcz114_0
                  try clear hcz114_1
                  try clear hcz114_2
                  try clear hcz136_0
                  try clear hcz136_1
                  try clear hcz136_2
                  try clear hcz13_0
                  try clear hcz13_1
                  try clear hcz13_2
                  try clear hcz154_0
                  try clear hcz154_1
                  try clear hcz154_2
                  try clear hcz15_0
                  try clear hcz15_1
                  try clear hcz15_2
                  try clear hcz18_0
                  try clear hcz18_1
                  try clear hcz18_2
                  try clear hcz21_0
                  try clear hcz21_1
                  try clear hcz21_2
                  try clear hcz22_0
                  try clear hcz22_1
                  try clear hcz22_2
                  try clear hcz31_0
                  try clear hcz31_1
                  try clear hcz31_2
                  try clear hcz37_0
                  try clear hcz37_1
                  try clear hcz62_0
                  try clear hcz62_1
                  try clear hcz62_2
                  try clear hcz69_0
                  try clear hcz69_1
                  try clear hcz69_2
                  try clear hcz76_0
                  try clear hcz76_1
                  try clear hcz76_2
                  try clear hcz86_0
                  try clear hcz86_1
                  try clear hcz86_2
                  try clear hfz100_0
                  try clear hfz100_1
                  try clear hfz100_2
                  try clear hfz114_0
                  try clear hfz114_1
                  try clear hfz114_2
                  try clear hfz136_0
                  try clear hfz136_1
                  try clear hfz136_2
                  try clear hfz13_0
                  try clear hfz13_1
                  try clear hfz13_2
                  try clear hfz154_0
                  try clear hfz154_1
                  try clear hfz154_2
                  try clear hfz15_0
                  try clear hfz15_1
                  try clear hfz15_2
                  try clear hfz18_0
                  try clear hfz18_1
                  try clear hfz18_2
                  try clear hfz21_0
                  try clear hfz21_1
                  try clear hfz21_2
                  try clear hfz22_0
                  try clear hfz22_1
                  try clear hfz22_2
                  try clear hfz31_0
                  try clear hfz31_1
                  try clear hfz31_2
                  try clear hfz37_0
                  try clear hfz37_1
                  try clear hfz62_0
                  try clear hfz62_1
                  try clear hfz62_2
                  try clear hfz69_0
                  try clear hfz69_1
                  try clear hfz69_2
                  try clear hfz76_0
                  try clear hfz76_1
                  try clear hfz76_2
                  try clear hfz86_0
                  try clear hfz86_1
                  try clear hfz86_2
                  try clear hx196_0
                  try clear hx208_0
                  try clear hx208_1
                  try clear hx208_2
                  try clear hx209_0
                  try clear hx209_1
                  try clear hx209_2
                  try clear p196
                  try clear p208
                  try clear p209
                  try clear q196
                  try clear q208
                  try clear q209
                  obtain ⟨kq, x9_158, HA, HJ158, HO_2, HO_9, HO_11, HO_53, HO_193000, HO_193002, BK184, BK187, BK188, BK192, HR196_0, HB⟩ := hcut
                  cases kq with
                  | zero => exact absurd HA.out (by simp [ropewaylaw15_SnapEnds_t.j4])
                  | succ kj158 =>
                   have H := HA.out
                   clear HA
                   simp only [ropewaylaw15_SnapEnds_t.j4] at H
                   obtain ⟨y210, hy210⟩ : ∃ y_ : List (S34), y_ = (([] : List (S34))) := ⟨_, rfl⟩
                   replace H : (if y210.length + (rd_L3 l2 x55_2).length < 5864062014805 then ((some (y210 ++ (rd_L3 l2 x55_2) : List (S34))).bind fun y213 => (if x193001_55 = 0 then ((api_Cell.f y213).bind fun t216 => (if (y213.length : Int) = 0 then (if ((y189.length : Int) > 0) then (ropewaylaw15_SnapEnds_t.l0 kj158 l2 (wrap64 (x8_2 + 1)) x9_158 l2 (l2.length : Int) (wrap64 (x55_2 + 1)) a1_0 a1_1 a1_2 y189 (wrap64 (x193001_55 + 1)) t216) else (none)) else (ropewaylaw15_SnapEnds_t.l0 kj158 l2 (wrap64 (x8_2 + 1)) x9_158 l2 (l2.length : Int) (wrap64 (x55_2 + 1)) a1_0 a1_1 a1_2 y189 (wrap64 (x193001_55 + 1)) t216))) else (if x193001_55 = 2 then ((api_Cell.f y213).bind fun t219 => (if (y213.length : Int) = 0 then (if ((y189.length : Int) > 0) then (ropewaylaw15_SnapEnds_t.l0 kj158 l2 (wrap64 (x8_2 + 1)) x9_158 l2 (l2.length : Int) (wrap64 (x55_2 + 1)) a1_0 a1_1 a1_2 y189 (wrap64 (x193001_55 + 1)) t219) else (none)) else (ropewaylaw15_SnapEnds_t.l0 kj158 l2 (wrap64 (x8_2 + 1)) x9_158 l2 (l2.length : Int) (wrap64 (x55_2 + 1)) a1_0 a1_1 a1_2 y189 (wrap64 (x193001_55 + 1)) t219))) else (if x193001_55 = 1 then (if (y189.length : Int) > 0 then (ropewaylaw15_SnapEnds_t.l0 kj158 l2 (wrap64 (x8_2 + 1)) x9_158 l2 (l2.length : Int) (wrap64 (x55_2 + 1)) a1_0 a1_1 a1_2 y189 4 x193002_2) else (none)) else (if x193001_55 = 3 then (ropewaylaw15_SnapEnds_t.l0 kj158 l2 (wrap64 (x8_2 + 1)) x9_158 l2 (l2.length : Int) (wrap64 (x55_2 + 1)) a1_0 a1_1 a1_2 y189 4 x193002_2) else (ropewaylaw15_SnapEnds_t.l0 kj158 l2 (wrap64 (x8_2 + 1)) x9_158 l2 (l2.length : Int) (wrap64 (x55_2 + 1)) a1_0 a1_1 a1_2 y189 x193001_55 x193002_2)))))) else (none)) = some r := by first | (rw [hy210]; with_reducible exact H) | (have H2_ := (Option.bind_some _ _).symm.trans H; rw [hy210]; with_reducible exact H2_) | (have H2_ := (Option.bind_some _ _).symm.trans H; with_reducible exact H2_) | with_reducible exact H | (rw [hy210]; exact H) | exact H
                   have Ny210 := zM hy210
                   clear hy210
                   by_cases c161 : y210.length + (rd_L3 l2 x55_2).length < 5864062014805
                   rotate_left
                   · rw [if_neg c161] at H
                     exact absurd H (by simp)
                   as_aux_lemma =>
                    rw [if_pos c161] at H
                    have LMc161 := zM c161
                    clear c161
                    obtain ⟨y213, hy213⟩ : ∃ y_ : List (S34), y_ = (y210 ++ (rd_L3 l2 x55_2)) := ⟨_, rfl⟩
                    replace H : (if x193001_55 = 0 then ((api_Cell.f y213).bind fun t216 => (if (y213.length : Int) = 0 then (if ((y189.length : Int) > 0) then (ropewaylaw15_SnapEnds_t.l0 kj158 l2 (wrap64 (x8_2 + 1)) x9_158 l2 (l2.length : Int) (wrap64 (x55_2 + 1)) a1_0 a1_1 a1_2 y189 (wrap64 (x193001_55 + 1)) t216) else (none)) else (ropewaylaw15_SnapEnds_t.l0 kj158 l2 (wrap64 (x8_2 + 1)) x9_158 l2 (l2.length : Int) (wrap64 (x55_2 + 1)) a1_0 a1_1 a1_2 y189 (wrap64 (x193001_55 + 1)) t216))) else (if x193001_55 = 2 then ((api_Cell.f y213).bind fun t219 => (if (y213.length : Int) = 0 then (if ((y189.length : Int) > 0) then (ropewaylaw15_SnapEnds_t.l0 kj158 l2 (wrap64 (x8_2 + 1)) x9_158 l2 (l2.length : Int) (wrap64 (x55_2 + 1)) a1_0 a1_1 a1_2 y189 (wrap64 (x193001_55 + 1)) t219) else (none)) else (ropewaylaw15_SnapEnds_t.l0 kj158 l2 (wrap64 (x8_2 + 1)) x9_158 l2 (l2.length : Int) (wrap64 (x55_2 + 1)) a1_0 a1_1 a1_2 y189 (wrap64 (x193001_55 + 1)) t219))) else (if x193001_55 = 1 then (if (y189.length : Int) > 0 then (ropewaylaw15_SnapEnds_t.l0 kj158 l2 (wrap64 (x8_2 + 1)) x9_158 l2 (l2.length : Int) (wrap64 (x55_2 + 1)) a1_0 a1_1 a1_2 y189 4 x193002_2) else (none)) else (if x193001_55 = 3 then (ropewaylaw15_SnapEnds_t.l0 kj158 l2 (wrap64 (x8_2 + 1)) x9_158 l2 (l2.length : Int) (wrap64 (x55_2 + 1)) a1_0 a1_1 a1_2 y189 4 x193002_2) else (ropewaylaw15_SnapEnds_t.l0 kj158 l2 (wrap64 (x8_2 + 1)) x9_158 l2 (l2.length : Int) (wrap64 (x55_2 + 1)) a1_0 a1_1 a1_2 y189 x193001_55 x193002_2))))) = some r := by first | (rw [hy213]; with_reducible exact H) | (have H2_ := (Option.bind_some _ _).symm.trans H; rw [hy213]; with_reducible exact H2_) | (have H2_ := (Option.bind_some _ _).symm.trans H; with_reducible exact H2_) | with_reducible exact H | (rw [hy213]; exact H) | exact H
                    have Ny213 := zM hy213
                    clear hy213
                    by_cases c162 : x193001_55 = 0
                    · rw [if_pos c162] at H
                      have c162b0 : (x193001_55 == 0) = true := beq_iff_eq.mpr c162
                      have c162b1 : (x193001_55 != 0) = false := bne_eq_false_iff_eq.mpr c162
                      clear c162
                      replace H := Option.bind_eq_some_iff.mp H
                      obtain ⟨t216, A1630, H⟩ := H
                      replace H : (if (y213.length : Int) = 0 then (if ((y189.length : Int) > 0) then (ropewaylaw15_SnapEnds_t.l0 kj158 l2 (wrap64 (x8_2 + 1)) x9_158 l2 (l2.length : Int) (wrap64 (x55_2 + 1)) a1_0 a1_1 a1_2 y189 (wrap64 (x193001_55 + 1)) t216) else (none)) else (ropewaylaw15_SnapEnds_t.l0 kj158 l2 (wrap64 (x8_2 + 1)) x9_158 l2 (l2.length : Int) (wrap64 (x55_2 + 1)) a1_0 a1_1 a1_2 y189 (wrap64 (x193001_55 + 1)) t216)) = some r := H
                      have A163 := zM A1630
                      clear A1630
                      by_cases c164 : (y213.length : Int) = 0
                      rotate_left
                      · as_aux_lemma =>
                         rw [if_neg c164] at H
                         have c164b0 : ((y213.length : Int) == 0) = false := beq_eq_false_iff_ne.mpr c164
                         have c164b1 : ((y213.length : Int) != 0) = true := bne_iff_ne.mpr c164
                         have c164b2 : ¬ (y213 = []) := fun h_ => c164 (by rw [h_]; rfl)
                         have tk186 : True := trivial
                         have tk188 : True := trivial
                         have tk190 : True := trivial
                         have tk196 : True := trivial
                         have tk199 : True := trivial
                         go_upto_region 22 with (first | ((with_reducible refine gate_dst (N := 112) rfl ?_); clear tk186; (try (refine gate_guard (by rfl) ?_; dsimp only)); refine Kd.R_lit k34 _ 34 ?hg (N := 112) ?hd (xs := ([] : List (S34))) (inner := []) (ok := fun _ => True) (okp := fun _ => True) ?hr ?hp (fun _ hk => hk) trivial (Below.refl _ _) (Nat.le_refl _) (by simp) ?_; (case hd => rfl); (case hg => rfl); (case hr => first | (go_simp; done) | (go_simp; rfl)); (case hp => exact (Reps.none _ _)); intro v211 w184 ho185 hb hg_ hnew_; clear hg_ hnew_; (first | rw [← Ny210.out] at ho185 | (simp only [Int.reduceToNat] at ho185; rw [← Ny210.out] at ho185)); replace HO_2 := zM (Kd.V_elder' (rv_ HO_2) (Kd.R_base ho185) hb); replace HO_9 := zM (Kd.V_elder' (rv_ HO_9) (Kd.R_base ho185) hb); replace HO_11 := zM (Kd.V_elder' (rv_ HO_11) (Kd.R_base ho185) hb); replace HO_53 := zM (Kd.V_elder' (rv_ HO_53) (Kd.R_base ho185) hb); have HO212 := zM (Kd.R_lower (Kd.R_newB (Kd.R_new' (Kd.R_new' (Kd.R_newM (M := fun k_ => (w.heap.size ≤ k_)) ho185 (below_size bel_) (fun k_ h_ => h_)) (Kd.R_lt (rl_ HO_193000))) (Kd.R_lt (rl_ HO_193002))) (g := gb184) (o := .cells #[.int .i64 a1_0, .int .i64 a1_1, .int .i64 a1_2] 34 (0, 0)) blk_) (below_size bel_)); replace HO_193000 := zM (Kd.R_elder' (rl_ HO_193000) (Kd.R_base ho185) hb); replace HO_193002 := zM (Kd.R_elder' (rl_ HO_193002) (Kd.R_base ho185) hb); replace BK184 := zM (bb_ BK184 hb); replace BK187 := zM (bb_ BK187 hb); replace BK188 := zM (bb_ BK188 hb); replace BK192 := zM (bb_ BK192 hb); replace HR196_0 := zM (Kd.C_below (cv_ HR196_0) hb); replace HB := zM (zB bel_ hb); clear hb ho185) | ((with_reducible refine gate_builtin (b := .append) (xs := #[.tmp 112, .tmp 113]) rfl ?_); clear tk188; (try (refine gate_guard (by rfl) ?_; dsimp only)); at_builtin; refine Kd.R_append_rows k34 (w0 := w) w.heap.size rfl (.tmp 112) (.tmp 113) 27 34 (.agg #[(.int .i64 0), (.int .i64 0), (.int .i64 0)]) 24 rfl Try.underlying27 info34 rfl (by decide) (by omega) v211 y210 (rd_L3 l2 x55_2) _ _ _ (fun k_ => (w.heap.size ≤ k_) ∧ some k_ ≠ (.slice Ao41 y189.length co41 : Value).ownBlock ∧ some k_ ≠ (u193002 : Value).ownBlock ∧ k_ ≠ gb184) (fun _ => False) rfl rfl ?aO ?aR (fun _ _ h => h) (fun _ h => h.elim) ?aF ?aB ?aS ?aL ?_; (case aR => repeat (first | exact (Kd.V_reads' HO_11.out).2.2 | (with_reducible refine Kd.C_alloc ?_ _) | (with_reducible refine Kd.C_drewN ?_ _) | (with_reducible refine Kd.C_drew ?_))); (case aB => exact bel_); (case aF => exact (fun k_ hk => ⟨(Nat.le_trans (below_size bel_) hk), Kd.fresh' (Kd.R_lt (rl_ HO_193000)) k_ hk, Kd.fresh' (Kd.R_lt (rl_ HO_193002)) k_ hk, Kd.freshB (g := gb184) (o := .cells #[.int .i64 a1_0, .int .i64 a1_1, .int .i64 a1_2] 34 (0, 0)) blk_ k_ hk⟩)); (case aO => exact (by (with_reducible repeat (first | apply Kd.R_alloc | apply Kd.R_drewN | apply Kd.R_drew)); exact Kd.R_mono HO212.out (fun _ hk => ⟨hk.1.1.1.1, ⟨hk.1.1.2, ⟨hk.1.2, hk.2⟩⟩⟩))); (case aS => exact (below_size bel_)); (case aL => have := LMc161.out; omega); intro v214 w187 ho hb hg hat; rw [← Ny213.out] at ho; have n0_ := zM (Kd.V_afterv (ok := (fun k_ => (P2_ k_ ∨ w.heap.size ≤ k_) ∧ some k_ ≠ (.slice Ao41 y189.length co41 : Value).ownBlock ∧ some k_ ≠ (u193002 : Value).ownBlock ∧ k_ ≠ gb184 ∧ k_ ≠ gb187 ∧ k_ ≠ gb188 ∧ k_ ≠ gb192)) (rv_ HO_2) hg hat); have n1_ := zM (Kd.V_afterv (ok := (fun k_ => (P2_ k_ ∨ w.heap.size ≤ k_) ∧ some k_ ≠ (.slice Ao41 y189.length co41 : Value).ownBlock ∧ some k_ ≠ (u193002 : Value).ownBlock ∧ k_ ≠ gb184 ∧ k_ ≠ gb187 ∧ k_ ≠ gb188 ∧ k_ ≠ gb192)) (rv_ HO_9) hg hat); have n2_ := zM (Kd.V_afterv (ok := (fun k_ => (P2_ k_ ∨ w.heap.size ≤ k_) ∧ some k_ ≠ (.slice Ao41 y189.length co41 : Value).ownBlock ∧ some k_ ≠ (u193002 : Value).ownBlock ∧ k_ ≠ gb184 ∧ k_ ≠ gb187 ∧ k_ ≠ gb188 ∧ k_ ≠ gb192)) (rv_ HO_11) hg hat); have n3_ := zM (Kd.V_afterv (ok := (fun k_ => (P2_ k_ ∨ w.heap.size ≤ k_) ∧ some k_ ≠ (.slice Ao41 y189.length co41 : Value).ownBlock ∧ some k_ ≠ (u193002 : Value).ownBlock ∧ k_ ≠ gb184 ∧ k_ ≠ gb187 ∧ k_ ≠ gb188 ∧ k_ ≠ gb192)) (rv_ HO_53) hg hat); have n4_ := zM (Kd.R_after (ok := (fun k_ => (w.heap.size ≤ k_) ∧ some k_ ≠ (u193002 : Value).ownBlock ∧ k_ ≠ gb184)) (rl_ HO_193000) hg hat); have n5_ := zM (Kd.R_after (ok := (fun k_ => (w.heap.size ≤ k_) ∧ some k_ ≠ (.slice Ao41 y189.length co41 : Value).ownBlock ∧ k_ ≠ gb184)) (rl_ HO_193002) hg hat); have n6_ := zM (blk_grown (g := gb184) (o := .cells #[.int .i64 a1_0, .int .i64 a1_1, .int .i64 a1_2] 34 (0, 0)) blk_ hg (Kd.R_away HO212.out (fun _ hk => hk.2))); have n7_ := zM (blk_grown (g := gb187) (o := .cells #[.slice none 0 0, .int .i64 x188001_55, .slice none 0 0] 61 (0, 0)) blk_ hg (Kd.R_ne HO212.out BK187.out (by decide))); have n8_ := zM (blk_grown (g := gb188) (o := .cells #[.int .i64 a1_1, .int .i64 a1_2] 26 (0, 0)) blk_ hg (Kd.R_ne HO212.out BK188.out (by decide))); have n9_ := zM (blk_grown (g := gb192) (o := .cells #[.slice Ao41 y189.length co41, .int .i64 x193001_55, u193002] 61 (0, 0)) blk_ hg (Kd.R_ne HO212.out BK192.out (by decide))); have n10_ := zM (hb); have n11_ := zM (ho); clear HO_2; clear HO_9; clear HO_11; clear HO_53; clear HO_193000; clear HO_193002; clear BK184; clear BK187; clear BK188; clear BK192; clear HB; clear HO212; have HO_2 := n0_; have HO_9 := n1_; have HO_11 := n2_; have HO_53 := n3_; have HO_193000 := n4_; have HO_193002 := n5_; have BK184 := n6_; have BK187 := n7_; have BK188 := n8_; have BK192 := n9_; have HB := n10_; have HO215 := n11_; clear n0_ n1_ n2_ n3_ n4_ n5_ n6_ n7_ n8_ n9_ n10_ n11_; clear ho hb hg hat; obtain ⟨Ao189, co189, eo189⟩ := Kd.R_slice HO215.out; subst eo189) | ((with_reducible refine gate_callee (f := 15) rfl ?_); clear tk190; refine goL_ (some 115) Try.func15 #[.pointer (some ⟨gb192, 0, none⟩), .slice Ao189 y213.length co189] ?_; go_enter Try.func15, Try.ntmps15; have hnb191 := NB192_184.out; have hnc191 := NB184_192.out; have hnb192 := NB192_187.out; have hnc192 := NB187_192.out; have hnb193 := NB192_188.out; have hnc193 := NB188_192.out; have hcz194_0 : w187.cell? ⟨gb192, 0, none⟩ = some (.slice Ao41 y189.length co41) := (zL BK192.out 0).trans rfl; have hcz194_1 : w187.cell? ⟨gb192, 1, none⟩ = some (.int .i64 x193001_55) := (zL BK192.out 1).trans rfl; have hcz194_2 : w187.cell? ⟨gb192, 2, none⟩ = some (u193002) := (zL BK192.out 2).trans rfl; have hfz194_0 := zF BK192.out 0; have hfz194_1 := zF BK192.out 1; have hfz194_2 := zF BK192.out 2) | (go_at_call 25; (with_reducible refine (api_Cell.calls _ _ y213 t216 _ ?side1 ?side2 A163.out).mono ?_); (case side1 => repeat (first | exact (Kd.R_reads' HO215.out).2.2 | (with_reducible refine Kd.C_alloc ?_ _) | (with_reducible refine Kd.C_drewN ?_ _) | (with_reducible refine Kd.C_drew ?_))); (case side2 => exact (Kd.R_reads' HO215.out).2.1); clear tk196; rintro e w195 ⟨v217, rfl, ho0, hb⟩; replace HO_2 := zM (Kd.V_elder' (rv_ HO_2) (Kd.R_base ho0) hb); replace HO_9 := zM (Kd.V_elder' (rv_ HO_9) (Kd.R_base ho0) hb); replace HO_11 := zM (Kd.V_elder' (rv_ HO_11) (Kd.R_base ho0) hb); replace HO_53 := zM (Kd.V_elder' (rv_ HO_53) (Kd.R_base ho0) hb); have HO218 := zM (Kd.R_lower (Kd.R_newB (Kd.R_new' (Kd.R_new' (Kd.R_new' (Kd.R_newM (M := fun k_ => (w.heap.size ≤ k_)) ho0 (below_size bel_) (fun k_ h_ => h_)) (Kd.R_lt (rl_ HO_193000))) (Kd.R_lt (rl_ HO_193002))) (Kd.R_lt (rl_ HO215))) (g := gb184) (o := .cells #[.int .i64 a1_0, .int .i64 a1_1, .int .i64 a1_2] 34 (0, 0)) blk_) (below_size bel_)); replace HO_193000 := zM (Kd.R_elder' (rl_ HO_193000) (Kd.R_base ho0) hb); replace HO_193002 := zM (Kd.R_elder' (rl_ HO_193002) (Kd.R_base ho0) hb); replace HO215 := zM (Kd.R_elder' (rl_ HO215) (Kd.R_base ho0) hb); replace BK184 := zM (bb_ BK184 hb); replace BK187 := zM (bb_ BK187 hb); replace BK188 := zM (bb_ BK188 hb); replace BK192 := zM (bb_ BK192 hb); replace HB := zM (zB bel_ hb); (try clear hb); (try clear ho0); obtain ⟨Ao197, co197, eo197⟩ := Kd.R_slice HO218.out; subst eo197; have hcz198_0 : w195.cell? ⟨gb192, 0, none⟩ = some (.slice Ao41 y189.length co41) := (zL BK192.out 0).trans rfl; have hcz198_1 : w195.cell? ⟨gb192, 1, none⟩ = some (.int .i64 x193001_55) := (zL BK192.out 1).trans rfl; have hcz198_2 : w195.cell? ⟨gb192, 2, none⟩ = some (u193002) := (zL BK192.out 2).trans rfl; have hfz198_0 := zF BK192.out 0; have hfz198_1 := zF BK192.out 1; have hfz198_2 := zF BK192.out 2) | (clear tk199; (first | go_ret | go_ret2 | go_ret3 | go_end0); with_reducible refine inl_back_ ?_))
                         try clear hcz194_0
                         try clear hcz194_1
                         try clear hcz194_2
                         try clear hcz198_0
                         try clear hcz198_1
                         try clear hcz198_2
                         try clear hfz194_0
                         try clear hfz194_1
                         try clear hfz194_2
                         try clear hfz198_0
                         try clear hfz198_1
                         try clear hfz198_2
                         try clear hnb191
                         try clear hnb192
                         try clear hnb193
                         try clear hnc191
                         try clear hnc192
                         try clear hnc193
                         have H' := zM H
                         clear H
                         go_wp2
                         go_roundg kj158
                         case measure => have := HJ9.out; have := HK2.out; have := HJ55.out; have := HJ121.out; have := HJ158.out; omega
                         case rel => exact ⟨(wrap64 (x8_2 + 1)), (x9_158), (wrap64 (x55_2 + 1)), (x188001_55), (wrap64 (x193001_55 + 1)), (t216), (.slice Ao197 t216.length co197), (by first | rfl | (simp; done) | (simp [*]; done) | (simp; grind)), (by first | rfl | (simp; done) | (simp [*]; done) | (simp; grind)), H', ⟨by have := HJ9.out; have := HK2.out; have := HJ55.out; have := HJ121.out; have := HJ158.out; omega⟩, ⟨by (with_reducible repeat (first | apply Kd.V_alloc | apply Kd.V_drewN | apply Kd.V_drew)); exact Kd.V_mono (Kd.V_far (p := ⟨gb192, 1, none⟩) (Kd.V_far (p := ⟨gb192, 2, none⟩) (Kd.V_mono HO_2.out (fun k_ hk => (⟨hk, hk.1.1.2.2.2.2.2.2⟩ : _ ∧ k_ ≠ gb192))) (fun _ hk => hk.2) (.slice Ao197 t216.length co197)) (fun _ hk => hk.2) (.int .i64 (wrap64 (x193001_55 + 1)))) (fun _ hk => ⟨hk.1.1.1.1, ⟨hk.1.1.1.2.1, ⟨hk.1.2, ⟨hk.1.1.1.2.2.2.1, ⟨hk.1.1.1.2.2.2.2.1, ⟨hk.1.1.1.2.2.2.2.2.1, hk.1.1.1.2.2.2.2.2.2⟩⟩⟩⟩⟩⟩)⟩, ⟨by (with_reducible repeat (first | apply Kd.V_alloc | apply Kd.V_drewN | apply Kd.V_drew)); exact Kd.V_mono (Kd.V_far (p := ⟨gb192, 1, none⟩) (Kd.V_far (p := ⟨gb192, 2, none⟩) (Kd.V_mono HO_9.out (fun k_ hk => (⟨hk, hk.1.1.2.2.2.2.2.2⟩ : _ ∧ k_ ≠ gb192))) (fun _ hk => hk.2) (.slice Ao197 t216.length co197)) (fun _ hk => hk.2) (.int .i64 (wrap64 (x193001_55 + 1)))) (fun _ hk => ⟨hk.1.1.1.1, ⟨hk.1.1.1.2.1, ⟨hk.1.2, ⟨hk.1.1.1.2.2.2.1, ⟨hk.1.1.1.2.2.2.2.1, ⟨hk.1.1.1.2.2.2.2.2.1, hk.1.1.1.2.2.2.2.2.2⟩⟩⟩⟩⟩⟩)⟩, ⟨by (with_reducible repeat (first | apply Kd.V_alloc | apply Kd.V_drewN | apply Kd.V_drew)); exact Kd.V_mono (Kd.V_far (p := ⟨gb192, 1, none⟩) (Kd.V_far (p := ⟨gb192, 2, none⟩) (Kd.V_mono HO_53.out (fun k_ hk => (⟨hk, hk.1.1.2.2.2.2.2.2⟩ : _ ∧ k_ ≠ gb192))) (fun _ hk => hk.2) (.slice Ao197 t216.length co197)) (fun _ hk => hk.2) (.int .i64 (wrap64 (x193001_55 + 1)))) (fun _ hk => ⟨hk.1.1.1.1, ⟨hk.1.1.1.2.1, ⟨hk.1.2, ⟨hk.1.1.1.2.2.2.1, ⟨hk.1.1.1.2.2.2.2.1, ⟨hk.1.1.1.2.2.2.2.2.1, hk.1.1.1.2.2.2.2.2.2⟩⟩⟩⟩⟩⟩)⟩, ⟨by (with_reducible repeat (first | apply Kd.R_alloc | apply Kd.R_drewN | apply Kd.R_drew)); exact Kd.R_mono (Kd.R_far (p := ⟨gb192, 1, none⟩) (Kd.R_far (p := ⟨gb192, 2, none⟩) (Kd.R_types HO_193000.out BK192.out (by decide)) (fun _ hk => hk.2) (.slice Ao197 t216.length co197)) (fun _ hk => hk.2) (.int .i64 (wrap64 (x193001_55 + 1)))) (fun _ hk => ⟨hk.1.1.1.1, ⟨hk.1.2, hk.1.1.1.2.2⟩⟩)⟩, ⟨by (with_reducible repeat (first | apply Kd.R_alloc | apply Kd.R_drewN | apply Kd.R_drew)); exact Kd.R_mono (Kd.R_far (p := ⟨gb192, 1, none⟩) (Kd.R_far (p := ⟨gb192, 2, none⟩) (Kd.R_types HO218.out BK192.out (by decide)) (fun _ hk => hk.2) (.slice Ao197 t216.length co197)) (fun _ hk => hk.2) (.int .i64 (wrap64 (x193001_55 + 1)))) (fun _ hk => ⟨hk.1.1.1.1.1.1, ⟨hk.1.1.1.1.2, hk.1.2⟩⟩)⟩, ⟨blf_⟩, ⟨blf_⟩, ⟨blf_⟩, ⟨by (with_reducible repeat (first | refine zN ?_ _ | refine zD ?_ | refine zA ?_ _)); refine blk_put (cs := #[.slice Ao41 y189.length co41, .int .i64 x193001_55, .slice Ao197 t216.length co197]) ?_ 1 _ rfl; (with_reducible repeat (first | refine zN ?_ _ | refine zD ?_ | refine zA ?_ _)); refine blk_put (cs := #[.slice Ao41 y189.length co41, .int .i64 x193001_55, u193002]) ?_ 2 _ rfl; (with_reducible repeat (first | refine zN ?_ _ | refine zD ?_ | refine zA ?_ _)); exact BK192.out⟩, ⟨bel_⟩⟩
                      as_aux_lemma =>
                       rw [if_pos c164] at H
                       have c164b0 : ((y213.length : Int) == 0) = true := beq_iff_eq.mpr c164
                       have c164b1 : ((y213.length : Int) != 0) = false := bne_eq_false_iff_eq.mpr c164
                       clear c164
                       by_cases c165 : ((y189.length : Int) > 0)
                       rotate_left
                       · rw [if_neg c165] at H
                         exact absurd H (by simp)
                       as_aux_lemma =>
                        rw [if_pos c165] at H
                        have c165b0 : decide (0 < (y189.length : Int)) = true := decide_eq_true c165
                        have c165b1 : decide (0 < y189.length) = true := decide_eq_true (by omega)
                        clear c165
                        have tk168 : True := trivial
                        have tk170 : True := trivial
                        have tk172 : True := trivial
                        have tk178 : True := trivial
                        have tk181 : True := trivial
                        have tk182 : True := trivial
                        have tk183 : True := trivial
                        go_upto_region 22 with (first | ((with_reducible refine gate_dst (N := 112) rfl ?_); clear tk168; (try (refine gate_guard (by rfl) ?_; dsimp only)); refine Kd.R_lit k34 _ 34 ?hg (N := 112) ?hd (xs := ([] : List (S34))) (inner := []) (ok := fun _ => True) (okp := fun _ => True) ?hr ?hp (fun _ hk => hk) trivial (Below.refl _ _) (Nat.le_refl _) (by simp) ?_; (case hd => rfl); (case hg => rfl); (case hr => first | (go_simp; done) | (go_simp; rfl)); (case hp => exact (Reps.none _ _)); intro v211 w166 ho167 hb hg_ hnew_; clear hg_ hnew_; (first | rw [← Ny210.out] at ho167 | (simp only [Int.reduceToNat] at ho167; rw [← Ny210.out] at ho167)); replace HO_2 := zM (Kd.V_elder' (rv_ HO_2) (Kd.R_base ho167) hb); replace HO_9 := zM (Kd.V_elder' (rv_ HO_9) (Kd.R_base ho167) hb); replace HO_11 := zM (Kd.V_elder' (rv_ HO_11) (Kd.R_base ho167) hb); replace HO_53 := zM (Kd.V_elder' (rv_ HO_53) (Kd.R_base ho167) hb); have HO212 := zM (Kd.R_lower (Kd.R_newB (Kd.R_new' (Kd.R_new' (Kd.R_newM (M := fun k_ => (w.heap.size ≤ k_)) ho167 (below_size bel_) (fun k_ h_ => h_)) (Kd.R_lt (rl_ HO_193000))) (Kd.R_lt (rl_ HO_193002))) (g := gb184) (o := .cells #[.int .i64 a1_0, .int .i64 a1_1, .int .i64 a1_2] 34 (0, 0)) blk_) (below_size bel_)); replace HO_193000 := zM (Kd.R_elder' (rl_ HO_193000) (Kd.R_base ho167) hb); replace HO_193002 := zM (Kd.R_elder' (rl_ HO_193002) (Kd.R_base ho167) hb); replace BK184 := zM (bb_ BK184 hb); replace BK187 := zM (bb_ BK187 hb); replace BK188 := zM (bb_ BK188 hb); replace BK192 := zM (bb_ BK192 hb); replace HR196_0 := zM (Kd.C_below (cv_ HR196_0) hb); replace HB := zM (zB bel_ hb); clear hb ho167) | ((with_reducible refine gate_builtin (b := .append) (xs := #[.tmp 112, .tmp 113]) rfl ?_); clear tk170; (try (refine gate_guard (by rfl) ?_; dsimp only)); at_builtin; refine Kd.R_append_rows k34 (w0 := w) w.heap.size rfl (.tmp 112) (.tmp 113) 27 34 (.agg #[(.int .i64 0), (.int .i64 0), (.int .i64 0)]) 24 rfl Try.underlying27 info34 rfl (by decide) (by omega) v211 y210 (rd_L3 l2 x55_2) _ _ _ (fun k_ => (w.heap.size ≤ k_) ∧ some k_ ≠ (.slice Ao41 y189.length co41 : Value).ownBlock ∧ some k_ ≠ (u193002 : Value).ownBlock ∧ k_ ≠ gb184) (fun _ => False) rfl rfl ?aO ?aR (fun _ _ h => h) (fun _ h => h.elim) ?aF ?aB ?aS ?aL ?_; (case aR => repeat (first | exact (Kd.V_reads' HO_11.out).2.2 | (with_reducible refine Kd.C_alloc ?_ _) | (with_reducible refine Kd.C_drewN ?_ _) | (with_reducible refine Kd.C_drew ?_))); (case aB => exact bel_); (case aF => exact (fun k_ hk => ⟨(Nat.le_trans (below_size bel_) hk), Kd.fresh' (Kd.R_lt (rl_ HO_193000)) k_ hk, Kd.fresh' (Kd.R_lt (rl_ HO_193002)) k_ hk, Kd.freshB (g := gb184) (o := .cells #[.int .i64 a1_0, .int .i64 a1_1, .int .i64 a1_2] 34 (0, 0)) blk_ k_ hk⟩)); (case aO => exact (by (with_reducible repeat (first | apply Kd.R_alloc | apply Kd.R_drewN | apply Kd.R_drew)); exact Kd.R_mono HO212.out (fun _ hk => ⟨hk.1.1.1.1, ⟨hk.1.1.2, ⟨hk.1.2, hk.2⟩⟩⟩))); (case aS => exact (below_size bel_)); (case aL => have := LMc161.out; omega); intro v214 w169 ho hb hg hat; rw [← Ny213.out] at ho; have n0_ := zM (Kd.V_afterv (ok := (fun k_ => (P2_ k_ ∨ w.heap.size ≤ k_) ∧ some k_ ≠ (.slice Ao41 y189.length co41 : Value).ownBlock ∧ some k_ ≠ (u193002 : Value).ownBlock ∧ k_ ≠ gb184 ∧ k_ ≠ gb187 ∧ k_ ≠ gb188 ∧ k_ ≠ gb192)) (rv_ HO_2) hg hat); have n1_ := zM (Kd.V_afterv (ok := (fun k_ => (P2_ k_ ∨ w.heap.size ≤ k_) ∧ some k_ ≠ (.slice Ao41 y189.length co41 : Value).ownBlock ∧ some k_ ≠ (u193002 : Value).ownBlock ∧ k_ ≠ gb184 ∧ k_ ≠ gb187 ∧ k_ ≠ gb188 ∧ k_ ≠ gb192)) (rv_ HO_9) hg hat); have n2_ := zM (Kd.V_afterv (ok := (fun k_ => (P2_ k_ ∨ w.heap.size ≤ k_) ∧ some k_ ≠ (.slice Ao41 y189.length co41 : Value).ownBlock ∧ some k_ ≠ (u193002 : Value).ownBlock ∧ k_ ≠ gb184 ∧ k_ ≠ gb187 ∧ k_ ≠ gb188 ∧ k_ ≠ gb192)) (rv_ HO_11) hg hat); have n3_ := zM (Kd.V_afterv (ok := (fun k_ => (P2_ k_ ∨ w.heap.size ≤ k_) ∧ some k_ ≠ (.slice Ao41 y189.length co41 : Value).ownBlock ∧ some k_ ≠ (u193002 : Value).ownBlock ∧ k_ ≠ gb184 ∧ k_ ≠ gb187 ∧ k_ ≠ gb188 ∧ k_ ≠ gb192)) (rv_ HO_53) hg hat); have n4_ := zM (Kd.R_after (ok := (fun k_ => (w.heap.size ≤ k_) ∧ some k_ ≠ (u193002 : Value).ownBlock ∧ k_ ≠ gb184)) (rl_ HO_193000) hg hat); have n5_ := zM (Kd.R_after (ok := (fun k_ => (w.heap.size ≤ k_) ∧ some k_ ≠ (.slice Ao41 y189.length co41 : Value).ownBlock ∧ k_ ≠ gb184)) (rl_ HO_193002) hg hat); have n6_ := zM (blk_grown (g := gb184) (o := .cells #[.int .i64 a1_0, .int .i64 a1_1, .int .i64 a1_2] 34 (0, 0)) blk_ hg (Kd.R_away HO212.out (fun _ hk => hk.2))); have n7_ := zM (blk_grown (g := gb187) (o := .cells #[.slice none 0 0, .int .i64 x188001_55, .slice none 0 0] 61 (0, 0)) blk_ hg (Kd.R_ne HO212.out BK187.out (by decide))); have n8_ := zM (blk_grown (g := gb188) (o := .cells #[.int .i64 a1_1, .int .i64 a1_2] 26 (0, 0)) blk_ hg (Kd.R_ne HO212.out BK188.out (by decide))); have n9_ := zM (blk_grown (g := gb192) (o := .cells #[.slice Ao41 y189.length co41, .int .i64 x193001_55, u193002] 61 (0, 0)) blk_ hg (Kd.R_ne HO212.out BK192.out (by decide))); have n10_ := zM (hb); have n11_ := zM (ho); clear HO_2; clear HO_9; clear HO_11; clear HO_53; clear HO_193000; clear HO_193002; clear BK184; clear BK187; clear BK188; clear BK192; clear HB; clear HO212; have HO_2 := n0_; have HO_9 := n1_; have HO_11 := n2_; have HO_53 := n3_; have HO_193000 := n4_; have HO_193002 := n5_; have BK184 := n6_; have BK187 := n7_; have BK188 := n8_; have BK192 := n9_; have HB := n10_; have HO215 := n11_; clear n0_ n1_ n2_ n3_ n4_ n5_ n6_ n7_ n8_ n9_ n10_ n11_; clear ho hb hg hat; obtain ⟨Ao171, co171, eo171⟩ := Kd.R_slice HO215.out; subst eo171) | ((with_reducible refine gate_callee (f := 15) rfl ?_); clear tk172; refine goL_ (some 115) Try.func15 #[.pointer (some ⟨gb192, 0, none⟩), .slice Ao171 y213.length co171] ?_; go_enter Try.func15, Try.ntmps15; have hnb173 := NB192_184.out; have hnc173 := NB184_192.out; have hnb174 := NB192_187.out; have hnc174 := NB187_192.out; have hnb175 := NB192_188.out; have hnc175 := NB188_192.out; have hcz176_0 : w169.cell? ⟨gb192, 0, none⟩ = some (.slice Ao41 y189.length co41) := (zL BK192.out 0).trans rfl; have hcz176_1 : w169.cell? ⟨gb192, 1, none⟩ = some (.int .i64 x193001_55) := (zL BK192.out 1).trans rfl; have hcz176_2 : w169.cell? ⟨gb192, 2, none⟩ = some (u193002) := (zL BK192.out 2).trans rfl; have hfz176_0 := zF BK192.out 0; have hfz176_1 := zF BK192.out 1; have hfz176_2 := zF BK192.out 2) | (go_at_call 25; (with_reducible refine (api_Cell.calls _ _ y213 t216 _ ?side1 ?side2 A163.out).mono ?_); (case side1 => repeat (first | exact (Kd.R_reads' HO215.out).2.2 | (with_reducible refine Kd.C_alloc ?_ _) | (with_reducible refine Kd.C_drewN ?_ _) | (with_reducible refine Kd.C_drew ?_))); (case side2 => exact (Kd.R_reads' HO215.out).2.1); clear tk178; rintro e w177 ⟨v217, rfl, ho0, hb⟩; replace HO_2 := zM (Kd.V_elder' (rv_ HO_2) (Kd.R_base ho0) hb); replace HO_9 := zM (Kd.V_elder' (rv_ HO_9) (Kd.R_base ho0) hb); replace HO_11 := zM (Kd.V_elder' (rv_ HO_11) (Kd.R_base ho0) hb); replace HO_53 := zM (Kd.V_elder' (rv_ HO_53) (Kd.R_base ho0) hb); have HO218 := zM (Kd.R_lower (Kd.R_newB (Kd.R_new' (Kd.R_new' (Kd.R_new' (Kd.R_newM (M := fun k_ => (w.heap.size ≤ k_)) ho0 (below_size bel_) (fun k_ h_ => h_)) (Kd.R_lt (rl_ HO_193000))) (Kd.R_lt (rl_ HO_193002))) (Kd.R_lt (rl_ HO215))) (g := gb184) (o := .cells #[.int .i64 a1_0, .int .i64 a1_1, .int .i64 a1_2] 34 (0, 0)) blk_) (below_size bel_)); replace HO_193000 := zM (Kd.R_elder' (rl_ HO_193000) (Kd.R_base ho0) hb); replace HO_193002 := zM (Kd.R_elder' (rl_ HO_193002) (Kd.R_base ho0) hb); replace HO215 := zM (Kd.R_elder' (rl_ HO215) (Kd.R_base ho0) hb); replace BK184 := zM (bb_ BK184 hb); replace BK187 := zM (bb_ BK187 hb); replace BK188 := zM (bb_ BK188 hb); replace BK192 := zM (bb_ BK192 hb); replace HB := zM (zB bel_ hb); (try clear hb); (try clear ho0); obtain ⟨Ao179, co179, eo179⟩ := Kd.R_slice HO218.out; subst eo179; have hcz180_0 : w177.cell? ⟨gb192, 0, none⟩ = some (.slice Ao41 y189.length co41) := (zL BK192.out 0).trans rfl; have hcz180_1 : w177.cell? ⟨gb192, 1, none⟩ = some (.int .i64 x193001_55) := (zL BK192.out 1).trans rfl; have hcz180_2 : w177.cell? ⟨gb192, 2, none⟩ = some (u193002) := (zL BK192.out 2).trans rfl; have hfz180_0 := zF BK192.out 0; have hfz180_1 := zF BK192.out 1; have hfz180_2 := zF BK192.out 2) | (go_at_call 26; clear tk181; go_enter Try.func26, Try.ntmps26) | (clear tk182; (first | go_ret | go_ret2 | go_ret3 | go_end0); simp only []; go_at_K) | (clear tk183; (first | go_ret | go_ret2 | go_ret3 | go_end0); with_reducible refine inl_back_ ?_))
                        try clear hcz176_0
                        try clear hcz176_1
                        try clear hcz176_2
                        try clear hcz180_0
                        try clear hcz180_1
                        try clear hcz180_2
                        try clear hfz176_0
                        try clear hfz176_1
                        try clear hfz176_2
                        try clear hfz180_0
                        try clear hfz180_1
                        try clear hfz180_2
                        try clear hnb173
                        try clear hnb174
                        try clear hnb175
                        try clear hnc173
                        try clear hnc174
                        try clear hnc175
                        have H' := zM H
                        clear H
                        go_wp2
                        go_roundg kj158
                        case measure => have := HJ9.out; have := HK2.out; have := HJ55.out; have := HJ121.out; have := HJ158.out; omega
                        case rel => exact ⟨(wrap64 (x8_2 + 1)), (x9_158), (wrap64 (x55_2 + 1)), (x188001_55), (wrap64 (x193001_55 + 1)), (t216), (.slice Ao179 t216.length co179), (by first | rfl | (simp; done) | (simp [*]; done) | (simp; grind)), (by first | rfl | (simp; done) | (simp [*]; done) | (simp; grind)), H', ⟨by have := HJ9.out; have := HK2.out; have := HJ55.out; have := HJ121.out; have := HJ158.out; omega⟩, ⟨by (with_reducible repeat (first | apply Kd.V_alloc | apply Kd.V_drewN | apply Kd.V_drew)); exact Kd.V_mono (Kd.V_far (p := ⟨gb192, 1, none⟩) (Kd.V_far (p := ⟨gb192, 2, none⟩) (Kd.V_mono HO_2.out (fun k_ hk => (⟨hk, hk.1.1.2.2.2.2.2.2⟩ : _ ∧ k_ ≠ gb192))) (fun _ hk => hk.2) (.slice Ao179 t216.length co179)) (fun _ hk => hk.2) (.int .i64 (wrap64 (x193001_55 + 1)))) (fun _ hk => ⟨hk.1.1.1.1, ⟨hk.1.1.1.2.1, ⟨hk.1.2, ⟨hk.1.1.1.2.2.2.1, ⟨hk.1.1.1.2.2.2.2.1, ⟨hk.1.1.1.2.2.2.2.2.1, hk.1.1.1.2.2.2.2.2.2⟩⟩⟩⟩⟩⟩)⟩, ⟨by (with_reducible repeat (first | apply Kd.V_alloc | apply Kd.V_drewN | apply Kd.V_drew)); exact Kd.V_mono (Kd.V_far (p := ⟨gb192, 1, none⟩) (Kd.V_far (p := ⟨gb192, 2, none⟩) (Kd.V_mono HO_9.out (fun k_ hk => (⟨hk, hk.1.1.2.2.2.2.2.2⟩ : _ ∧ k_ ≠ gb192))) (fun _ hk => hk.2) (.slice Ao179 t216.length co179)) (fun _ hk => hk.2) (.int .i64 (wrap64 (x193001_55 + 1)))) (fun _ hk => ⟨hk.1.1.1.1, ⟨hk.1.1.1.2.1, ⟨hk.1.2, ⟨hk.1.1.1.2.2.2.1, ⟨hk.1.1.1.2.2.2.2.1, ⟨hk.1.1.1.2.2.2.2.2.1, hk.1.1.1.2.2.2.2.2.2⟩⟩⟩⟩⟩⟩)⟩, ⟨by (with_reducible repeat (first | apply Kd.V_alloc | apply Kd.V_drewN | apply Kd.V_drew)); exact Kd.V_mono (Kd.V_far (p := ⟨gb192, 1, none⟩) (Kd.V_far (p := ⟨gb192, 2, none⟩) (Kd.V_mono HO_53.out (fun k_ hk => (⟨hk, hk.1.1.2.2.2.2.2.2⟩ : _ ∧ k_ ≠ gb192))) (fun _ hk => hk.2) (.slice Ao179 t216.length co179)) (fun _ hk => hk.2) (.int .i64 (wrap64 (x193001_55 + 1)))) (fun _ hk => ⟨hk.1.1.1.1, ⟨hk.1.1.1.2.1, ⟨hk.1.2, ⟨hk.1.1.1.2.2.2.1, ⟨hk.1.1.1.2.2.2.2.1, ⟨hk.1.1.1.2.2.2.2.2.1, hk.1.1.1.2.2.2.2.2.2⟩⟩⟩⟩⟩⟩)⟩, ⟨by (with_reducible repeat (first | apply Kd.R_alloc | apply Kd.R_drewN | apply Kd.R_drew)); exact Kd.R_mono (Kd.R_far (p := ⟨gb192, 1, none⟩) (Kd.R_far (p := ⟨gb192, 2, none⟩) (Kd.R_types HO_193000.out BK192.out (by decide)) (fun _ hk => hk.2) (.slice Ao179 t216.length co179)) (fun _ hk => hk.2) (.int .i64 (wrap64 (x193001_55 + 1)))) (fun _ hk => ⟨hk.1.1.1.1, ⟨hk.1.2, hk.1.1.1.2.2⟩⟩)⟩, ⟨by (with_reducible repeat (first | apply Kd.R_alloc | apply Kd.R_drewN | apply Kd.R_drew)); exact Kd.R_mono (Kd.R_far (p := ⟨gb192, 1, none⟩) (Kd.R_far (p := ⟨gb192, 2, none⟩) (Kd.R_types HO218.out BK192.out (by decide)) (fun _ hk => hk.2) (.slice Ao179 t216.length co179)) (fun _ hk => hk.2) (.int .i64 (wrap64 (x193001_55 + 1)))) (fun _ hk => ⟨hk.1.1.1.1.1.1, ⟨hk.1.1.1.1.2, hk.1.2⟩⟩)⟩, ⟨blf_⟩, ⟨blf_⟩, ⟨blf_⟩, ⟨by (with_reducible repeat (first | refine zN ?_ _ | refine zD ?_ | refine zA ?_ _)); refine blk_put (cs := #[.slice Ao41 y189.length co41, .int .i64 x193001_55, .slice Ao179 t216.length co179]) ?_ 1 _ rfl; (with_reducible repeat (first | refine zN ?_ _ | refine zD ?_ | refine zA ?_ _)); refine blk_put (cs := #[.slice Ao41 y189.length co41, .int .i64 x193001_55, u193002]) ?_ 2 _ rfl; (with_reducible repeat (first | refine zN ?_ _ | refine zD ?_ | refine zA ?_ _)); exact BK192.out⟩, ⟨bel_⟩⟩
                    rw [if_neg c162] at H
                    have c162b0 : (x193001_55 == 0) = false := beq_eq_false_iff_ne.mpr c162
                    have c162b1 : (x193001_55 != 0) = true := bne_iff_ne.mpr c162
                    by_cases c200 : x193001_55 = 2
                    · rw [if_pos c200] at H
                      have c200b0 : (x193001_55 == 2) = true := beq_iff_eq.mpr c200
                      have c200b1 : (x193001_55 != 2) = false := bne_eq_false_iff_eq.mpr c200
                      clear c200
                      replace H := Option.bind_eq_some_iff.mp H
                      obtain ⟨t219, A2010, H⟩ := H
                      replace H : (if (y213.length : Int) = 0 then (if ((y189.length : Int) > 0) then (ropewaylaw15_SnapEnds_t.l0 kj158 l2 (wrap64 (x8_2 + 1)) x9_158 l2 (l2.length : Int) (wrap64 (x55_2 + 1)) a1_0 a1_1 a1_2 y189 (wrap64 (x193001_55 + 1)) t219) else (none)) else (ropewaylaw15_SnapEnds_t.l0 kj158 l2 (wrap64 (x8_2 + 1)) x9_158 l2 (l2.length : Int) (wrap64 (x55_2 + 1)) a1_0 a1_1 a1_2 y189 (wrap64 (x193001_55 + 1)) t219)) = some r := H
                      have A201 := zM A2010
                      clear A2010
                      by_cases c202 : (y213.length : Int) = 0
                      rotate_left
                      · as_aux_lemma =>
                         rw [if_neg c202] at H
                         have c202b0 : ((y213.length : Int) == 0) = false := beq_eq_false_iff_ne.mpr c202
                         have c202b1 : ((y213.length : Int) != 0) = true := bne_iff_ne.mpr c202
                         have c202b2 : ¬ (y213 = []) := fun h_ => c202 (by rw [h_]; rfl)
                         have tk224 : True := trivial
                         have tk226 : True := trivial
                         have tk228 : True := trivial
                         have tk234 : True := trivial
                         have tk237 : True := trivial
                         go_upto_region 22 with (first | ((with_reducible refine gate_dst (N := 112) rfl ?_); clear tk224; (try (refine gate_guard (by rfl) ?_; dsimp only)); refine Kd.R_lit k34 _ 34 ?hg (N := 112) ?hd (xs := ([] : List (S34))) (inner := []) (ok := fun _ => True) (okp := fun _ => True) ?hr ?hp (fun _ hk => hk) trivial (Below.refl _ _) (Nat.le_refl _) (by simp) ?_; (case hd => rfl); (case hg => rfl); (case hr => first | (go_simp; done) | (go_simp; rfl)); (case hp => exact (Reps.none _ _)); intro v211 w222 ho223 hb hg_ hnew_; clear hg_ hnew_; (first | rw [← Ny210.out] at ho223 | (simp only [Int.reduceToNat] at ho223; rw [← Ny210.out] at ho223)); replace HO_2 := zM (Kd.V_elder' (rv_ HO_2) (Kd.R_base ho223) hb); replace HO_9 := zM (Kd.V_elder' (rv_ HO_9) (Kd.R_base ho223) hb); replace HO_11 := zM (Kd.V_elder' (rv_ HO_11) (Kd.R_base ho223) hb); replace HO_53 := zM (Kd.V_elder' (rv_ HO_53) (Kd.R_base ho223) hb); have HO212 := zM (Kd.R_lower (Kd.R_newB (Kd.R_new' (Kd.R_new' (Kd.R_newM (M := fun k_ => (w.heap.size ≤ k_)) ho223 (below_size bel_) (fun k_ h_ => h_)) (Kd.R_lt (rl_ HO_193000))) (Kd.R_lt (rl_ HO_193002))) (g := gb184) (o := .cells #[.int .i64 a1_0, .int .i64 a1_1, .int .i64 a1_2] 34 (0, 0)) blk_) (below_size bel_)); replace HO_193000 := zM (Kd.R_elder' (rl_ HO_193000) (Kd.R_base ho223) hb); replace HO_193002 := zM (Kd.R_elder' (rl_ HO_193002) (Kd.R_base ho223) hb); replace BK184 := zM (bb_ BK184 hb); replace BK187 := zM (bb_ BK187 hb); replace BK188 := zM (bb_ BK188 hb); replace BK192 := zM (bb_ BK192 hb); replace HR196_0 := zM (Kd.C_below (cv_ HR196_0) hb); replace HB := zM (zB bel_ hb); clear hb ho223) | ((with_reducible refine gate_builtin (b := .append) (xs := #[.tmp 112, .tmp 113]) rfl ?_); clear tk226; (try (refine gate_guard (by rfl) ?_; dsimp only)); at_builtin; refine Kd.R_append_rows k34 (w0 := w) w.heap.size rfl (.tmp 112) (.tmp 113) 27 34 (.agg #[(.int .i64 0), (.int .i64 0), (.int .i64 0)]) 24 rfl Try.underlying27 info34 rfl (by decide) (by omega) v211 y210 (rd_L3 l2 x55_2) _ _ _ (fun k_ => (w.heap.size ≤ k_) ∧ some k_ ≠ (.slice Ao41 y189.length co41 : Value).ownBlock ∧ some k_ ≠ (u193002 : Value).ownBlock ∧ k_ ≠ gb184) (fun _ => False) rfl rfl ?aO ?aR (fun _ _ h => h) (fun _ h => h.elim) ?aF ?aB ?aS ?aL ?_; (case aR => repeat (first | exact (Kd.V_reads' HO_11.out).2.2 | (with_reducible refine Kd.C_alloc ?_ _) | (with_reducible refine Kd.C_drewN ?_ _) | (with_reducible refine Kd.C_drew ?_))); (case aB => exact bel_); (case aF => exact (fun k_ hk => ⟨(Nat.le_trans (below_size bel_) hk), Kd.fresh' (Kd.R_lt (rl_ HO_193000)) k_ hk, Kd.fresh' (Kd.R_lt (rl_ HO_193002)) k_ hk, Kd.freshB (g := gb184) (o := .cells #[.int .i64 a1_0, .int .i64 a1_1, .int .i64 a1_2] 34 (0, 0)) blk_ k_ hk⟩)); (case aO => exact (by (with_reducible repeat (first | apply Kd.R_alloc | apply Kd.R_drewN | apply Kd.R_drew)); exact Kd.R_mono HO212.out (fun _ hk => ⟨hk.1.1.1.1, ⟨hk.1.1.2, ⟨hk.1.2, hk.2⟩⟩⟩))); (case aS => exact (below_size bel_)); (case aL => have := LMc161.out; omega); intro v214 w225 ho hb hg hat; rw [← Ny213.out] at ho; have n0_ := zM (Kd.V_afterv (ok := (fun k_ => (P2_ k_ ∨ w.heap.size ≤ k_) ∧ some k_ ≠ (.slice Ao41 y189.length co41 : Value).ownBlock ∧ some k_ ≠ (u193002 : Value).ownBlock ∧ k_ ≠ gb184 ∧ k_ ≠ gb187 ∧ k_ ≠ gb188 ∧ k_ ≠ gb192)) (rv_ HO_2) hg hat); have n1_ := zM (Kd.V_afterv (ok := (fun k_ => (P2_ k_ ∨ w.heap.size ≤ k_) ∧ some k_ ≠ (.slice Ao41 y189.length co41 : Value).ownBlock ∧ some k_ ≠ (u193002 : Value).ownBlock ∧ k_ ≠ gb184 ∧ k_ ≠ gb187 ∧ k_ ≠ gb188 ∧ k_ ≠ gb192)) (rv_ HO_9) hg hat); have n2_ := zM (Kd.V_afterv (ok := (fun k_ => (P2_ k_ ∨ w.heap.size ≤ k_) ∧ some k_ ≠ (.slice Ao41 y189.length co41 : Value).ownBlock ∧ some k_ ≠ (u193002 : Value).ownBlock ∧ k_ ≠ gb184 ∧ k_ ≠ gb187 ∧ k_ ≠ gb188 ∧ k_ ≠ gb192)) (rv_ HO_11) hg hat); have n3_ := zM (Kd.V_afterv (ok := (fun k_ => (P2_ k_ ∨ w.heap.size ≤ k_) ∧ some k_ ≠ (.slice Ao41 y189.length co41 : Value).ownBlock ∧ some k_ ≠ (u193002 : Value).ownBlock ∧ k_ ≠ gb184 ∧ k_ ≠ gb187 ∧ k_ ≠ gb188 ∧ k_ ≠ gb192)) (rv_ HO_53) hg hat); have n4_ := zM (Kd.R_after (ok := (fun k_ => (w.heap.size ≤ k_) ∧ some k_ ≠ (u193002 : Value).ownBlock ∧ k_ ≠ gb184)) (rl_ HO_193000) hg hat); have n5_ := zM (Kd.R_after (ok := (fun k_ => (w.heap.size ≤ k_) ∧ some k_ ≠ (.slice Ao41 y189.length co41 : Value).ownBlock ∧ k_ ≠ gb184)) (rl_ HO_193002) hg hat); have n6_ := zM (blk_grown (g := gb184) (o := .cells #[.int .i64 a1_0, .int .i64 a1_1, .int .i64 a1_2] 34 (0, 0)) blk_ hg (Kd.R_away HO212.out (fun _ hk => hk.2))); have n7_ := zM (blk_grown (g := gb187) (o := .cells #[.slice none 0 0, .int .i64 x188001_55, .slice none 0 0] 61 (0, 0)) blk_ hg (Kd.R_ne HO212.out BK187.out (by decide))); have n8_ := zM (blk_grown (g := gb188) (o := .cells #[.int .i64 a1_1, .int .i64 a1_2] 26 (0, 0)) blk_ hg (Kd.R_ne HO212.out BK188.out (by decide))); have n9_ := zM (blk_grown (g := gb192) (o := .cells #[.slice Ao41 y189.length co41, .int .i64 x193001_55, u193002] 61 (0, 0)) blk_ hg (Kd.R_ne HO212.out BK192.out (by decide))); have n10_ := zM (hb); have n11_ := zM (ho); clear HO_2; clear HO_9; clear HO_11; clear HO_53; clear HO_193000; clear HO_193002; clear BK184; clear BK187; clear BK188; clear BK192; clear HB; clear HO212; have HO_2 := n0_; have HO_9 := n1_; have HO_11 := n2_; have HO_53 := n3_; have HO_193000 := n4_; have HO_193002 := n5_; have BK184 := n6_; have BK187 := n7_; have BK188 := n8_; have BK192 := n9_; have HB := n10_; have HO215 := n11_; clear n0_ n1_ n2_ n3_ n4_ n5_ n6_ n7_ n8_ n9_ n10_ n11_; clear ho hb hg hat; obtain ⟨Ao227, co227, eo227⟩ := Kd.R_slice HO215.out; subst eo227) | ((with_reducible refine gate_callee (f := 15) rfl ?_); clear tk228; refine goL_ (some 115) Try.func15 #[.pointer (some ⟨gb192, 0, none⟩), .slice Ao227 y213.length co227] ?_; go_enter Try.func15, Try.ntmps15; have hnb229 := NB192_184.out; have hnc229 := NB184_192.out; have hnb230 := NB192_187.out; have hnc230 := NB187_192.out; have hnb231 := NB192_188.out; have hnc231 := NB188_192.out; have hcz232_0 : w225.cell? ⟨gb192, 0, none⟩ = some (.slice Ao41 y189.length co41) := (zL BK192.out 0).trans rfl; have hcz232_1 : w225.cell? ⟨gb192, 1, none⟩ = some (.int .i64 x193001_55) := (zL BK192.out 1).trans rfl; have hcz232_2 : w225.cell? ⟨gb192, 2, none⟩ = some (u193002) := (zL BK192.out 2).trans rfl; have hfz232_0 := zF BK192.out 0; have hfz232_1 := zF BK192.out 1; have hfz232_2 := zF BK192.out 2) | (go_at_call 25; (with_reducible refine (api_Cell.calls _ _ y213 t219 _ ?side1 ?side2 A201.out).mono ?_); (case side1 => repeat (first | exact (Kd.R_reads' HO215.out).2.2 | (with_reducible refine Kd.C_alloc ?_ _) | (with_reducible refine Kd.C_drewN ?_ _) | (with_reducible refine Kd.C_drew ?_))); (case side2 => exact (Kd.R_reads' HO215.out).2.1); clear tk234; rintro e w233 ⟨v220, rfl, ho0, hb⟩; replace HO_2 := zM (Kd.V_elder' (rv_ HO_2) (Kd.R_base ho0) hb); replace HO_9 := zM (Kd.V_elder' (rv_ HO_9) (Kd.R_base ho0) hb); replace HO_11 := zM (Kd.V_elder' (rv_ HO_11) (Kd.R_base ho0) hb); replace HO_53 := zM (Kd.V_elder' (rv_ HO_53) (Kd.R_base ho0) hb); have HO221 := zM (Kd.R_lower (Kd.R_newB (Kd.R_new' (Kd.R_new' (Kd.R_new' (Kd.R_newM (M := fun k_ => (w.heap.size ≤ k_)) ho0 (below_size bel_) (fun k_ h_ => h_)) (Kd.R_lt (rl_ HO_193000))) (Kd.R_lt (rl_ HO_193002))) (Kd.R_lt (rl_ HO215))) (g := gb184) (o := .cells #[.int .i64 a1_0, .int .i64 a1_1, .int .i64 a1_2] 34 (0, 0)) blk_) (below_size bel_)); replace HO_193000 := zM (Kd.R_elder' (rl_ HO_193000) (Kd.R_base ho0) hb); replace HO_193002 := zM (Kd.R_elder' (rl_ HO_193002) (Kd.R_base ho0) hb); replace HO215 := zM (Kd.R_elder' (rl_ HO215) (Kd.R_base ho0) hb); replace BK184 := zM (bb_ BK184 hb); replace BK187 := zM (bb_ BK187 hb); replace BK188 := zM (bb_ BK188 hb); replace BK192 := zM (bb_ BK192 hb); replace HB := zM (zB bel_ hb); (try clear hb); (try clear ho0); obtain ⟨Ao235, co235, eo235⟩ := Kd.R_slice HO221.out; subst eo235; have hcz236_0 : w233.cell? ⟨gb192, 0, none⟩ = some (.slice Ao41 y189.length co41) := (zL BK192.out 0).trans rfl; have hcz236_1 : w233.cell? ⟨gb192, 1, none⟩ = some (.int .i64 x193001_55) := (zL BK192.out 1).trans rfl; have hcz236_2 : w233.cell? ⟨gb192, 2, none⟩ = some (u193002) := (zL BK192.out 2).trans rfl; have hfz236_0 := zF BK192.out 0; have hfz236_1 := zF BK192.out 1; have hfz236_2 := zF BK192.out 2) | (clear tk237; (first | go_ret | go_ret2 | go_ret3 | go_end0); with_reducible refine inl_back_ ?_))
                         try clear hcz232_0
                         try clear hcz232_1
                         try clear hcz232_2
                         try clear hcz236_0
                         try clear hcz236_1
                         try clear hcz236_2
                         try clear hfz232_0
                         try clear hfz232_1
                         try clear hfz232_2
                         try clear hfz236_0
                         try clear hfz236_1
                         try clear hfz236_2
                         try clear hnb229
                         try clear hnb230
                         try clear hnb231
                         try clear hnc229
                         try clear hnc230
                         try clear hnc231
                         have H' := zM H
                         clear H
                         go_wp2
                         go_roundg kj158
                         case measure => have := HJ9.out; have := HK2.out; have := HJ55.out; have := HJ121.out; have := HJ158.out; omega
                         case rel => exact ⟨(wrap64 (x8_2 + 1)), (x9_158), (wrap64 (x55_2 + 1)), (x188001_55), (wrap64 (x193001_55 + 1)), (t219), (.slice Ao235 t219.length co235), (by first | rfl | (simp; done) | (simp [*]; done) | (simp; grind)), (by first | rfl | (simp; done) | (simp [*]; done) | (simp; grind)), H', ⟨by have := HJ9.out; have := HK2.out; have := HJ55.out; have := HJ121.out; have := HJ158.out; omega⟩, ⟨by (with_reducible repeat (first | apply Kd.V_alloc | apply Kd.V_drewN | apply Kd.V_drew)); exact Kd.V_mono (Kd.V_far (p := ⟨gb192, 1, none⟩) (Kd.V_far (p := ⟨gb192, 2, none⟩) (Kd.V_mono HO_2.out (fun k_ hk => (⟨hk, hk.1.1.2.2.2.2.2.2⟩ : _ ∧ k_ ≠ gb192))) (fun _ hk => hk.2) (.slice Ao235 t219.length co235)) (fun _ hk => hk.2) (.int .i64 (wrap64 (x193001_55 + 1)))) (fun _ hk => ⟨hk.1.1.1.1, ⟨hk.1.1.1.2.1, ⟨hk.1.2, ⟨hk.1.1.1.2.2.2.1, ⟨hk.1.1.1.2.2.2.2.1, ⟨hk.1.1.1.2.2.2.2.2.1, hk.1.1.1.2.2.2.2.2.2⟩⟩⟩⟩⟩⟩)⟩, ⟨by (with_reducible repeat (first | apply Kd.V_alloc | apply Kd.V_drewN | apply Kd.V_drew)); exact Kd.V_mono (Kd.V_far (p := ⟨gb192, 1, none⟩) (Kd.V_far (p := ⟨gb192, 2, none⟩) (Kd.V_mono HO_9.out (fun k_ hk => (⟨hk, hk.1.1.2.2.2.2.2.2⟩ : _ ∧ k_ ≠ gb192))) (fun _ hk => hk.2) (.slice Ao235 t219.length co235)) (fun _ hk => hk.2) (.int .i64 (wrap64 (x193001_55 + 1)))) (fun _ hk => ⟨hk.1.1.1.1, ⟨hk.1.1.1.2.1, ⟨hk.1.2, ⟨hk.1.1.1.2.2.2.1, ⟨hk.1.1.1.2.2.2.2.1, ⟨hk.1.1.1.2.2.2.2.2.1, hk.1.1.1.2.2.2.2.2.2⟩⟩⟩⟩⟩⟩)⟩, ⟨by (with_reducible repeat (first | apply Kd.V_alloc | apply Kd.V_drewN | apply Kd.V_drew)); exact Kd.V_mono (Kd.V_far (p := ⟨gb192, 1, none⟩) (Kd.V_far (p := ⟨gb192, 2, none⟩) (Kd.V_mono HO_53.out (fun k_ hk => (⟨hk, hk.1.1.2.2.2.2.2.2⟩ : _ ∧ k_ ≠ gb192))) (fun _ hk => hk.2) (.slice Ao235 t219.length co235)) (fun _ hk => hk.2) (.int .i64 (wrap64 (x193001_55 + 1)))) (fun _ hk => ⟨hk.1.1.1.1, ⟨hk.1.1.1.2.1, ⟨hk.1.2, ⟨hk.1.1.1.2.2.2.1, ⟨hk.1.1.1.2.2.2.2.1, ⟨hk.1.1.1.2.2.2.2.2.1, hk.1.1.1.2.2.2.2.2.2⟩⟩⟩⟩⟩⟩)⟩, ⟨by (with_reducible repeat (first | apply Kd.R_alloc | apply Kd.R_drewN | apply Kd.R_drew)); exact Kd.R_mono (Kd.R_far (p := ⟨gb192, 1, none⟩) (Kd.R_far (p := ⟨gb192, 2, none⟩) (Kd.R_types HO_193000.out BK192.out (by decide)) (fun _ hk => hk.2) (.slice Ao235 t219.length co235)) (fun _ hk => hk.2) (.int .i64 (wrap64 (x193001_55 + 1)))) (fun _ hk => ⟨hk.1.1.1.1, ⟨hk.1.2, hk.1.1.1.2.2⟩⟩)⟩, ⟨by (with_reducible repeat (first | apply Kd.R_alloc | apply Kd.R_drewN | apply Kd.R_drew)); exact Kd.R_mono (Kd.R_far (p := ⟨gb192, 1, none⟩) (Kd.R_far (p := ⟨gb192, 2, none⟩) (Kd.R_types HO221.out BK192.out (by decide)) (fun _ hk => hk.2) (.slice Ao235 t219.length co235)) (fun _ hk => hk.2) (.int .i64 (wrap64 (x193001_55 + 1)))) (fun _ hk => ⟨hk.1.1.1.1.1.1, ⟨hk.1.1.1.1.2, hk.1.2⟩⟩)⟩, ⟨blf_⟩, ⟨blf_⟩, ⟨blf_⟩, ⟨by (with_reducible repeat (first | refine zN ?_ _ | refine zD ?_ | refine zA ?_ _)); refine blk_put (cs := #[.slice Ao41 y189.length co41, .int .i64 x193001_55, .slice Ao235 t219.length co235]) ?_ 1 _ rfl; (with_reducible repeat (first | refine zN ?_ _ | refine zD ?_ | refine zA ?_ _)); refine blk_put (cs := #[.slice Ao41 y189.length co41, .int .i64 x193001_55, u193002]) ?_ 2 _ rfl; (with_reducible repeat (first | refine zN ?_ _ | refine zD ?_ | refine zA ?_ _)); exact BK192.out⟩, ⟨bel_⟩⟩
                      as_aux_lemma =>
                       rw [if_pos c202] at H
                       have c202b0 : ((y213.length : Int) == 0) = true := beq_iff_eq.mpr c202
                       have c202b1 : ((y213.length : Int) != 0) = false := bne_eq_false_iff_eq.mpr c202
                       clear c202
                       by_cases c203 : ((y189.length : Int) > 0)
                       rotate_left
                       · rw [if_neg c203] at H
                         exact absurd H (by simp)
                       as_aux_lemma =>
                        rw [if_pos c203] at H
                        have c203b0 : decide (0 < (y189.length : Int)) = true := decide_eq_true c203
                        have c203b1 : decide (0 < y189.length) = true := decide_eq_true (by omega)
                        clear c203
                        have tk206 : True := trivial
                        have tk208 : True := trivial
                        have tk210 : True := trivial
                        have tk216 : True := trivial
                        have tk219 : True := trivial
                        have tk220 : True := trivial
                        have tk221 : True := trivial
                        go_upto_region 22 with (first | ((with_reducible refine gate_dst (N := 112) rfl ?_); clear tk206; (try (refine gate_guard (by rfl) ?_; dsimp only)); refine Kd.R_lit k34 _ 34 ?hg (N := 112) ?hd (xs := ([] : List (S34))) (inner := []) (ok := fun _ => True) (okp := fun _ => True) ?hr ?hp (fun _ hk => hk) trivial (Below.refl _ _) (Nat.le_refl _) (by simp) ?_; (case hd => rfl); (case hg => rfl); (case hr => first | (go_simp; done) | (go_simp; rfl)); (case hp => exact (Reps.none _ _)); intro v211 w204 ho205 hb hg_ hnew_; clear hg_ hnew_; (first | rw [← Ny210.out] at ho205 | (simp only [Int.reduceToNat] at ho205; rw [← Ny210.out] at ho205)); replace HO_2 := zM (Kd.V_elder' (rv_ HO_2) (Kd.R_base ho205) hb); replace HO_9 := zM (Kd.V_elder' (rv_ HO_9) (Kd.R_base ho205) hb); replace HO_11 := zM (Kd.V_elder' (rv_ HO_11) (Kd.R_base ho205) hb); replace HO_53 := zM (Kd.V_elder' (rv_ HO_53) (Kd.R_base ho205) hb); have HO212 := zM (Kd.R_lower (Kd.R_newB (Kd.R_new' (Kd.R_new' (Kd.R_newM (M := fun k_ => (w.heap.size ≤ k_)) ho205 (below_size bel_) (fun k_ h_ => h_)) (Kd.R_lt (rl_ HO_193000))) (Kd.R_lt (rl_ HO_193002))) (g := gb184) (o := .cells #[.int .i64 a1_0, .int .i64 a1_1, .int .i64 a1_2] 34 (0, 0)) blk_) (below_size bel_)); replace HO_193000 := zM (Kd.R_elder' (rl_ HO_193000) (Kd.R_base ho205) hb); replace HO_193002 := zM (Kd.R_elder' (rl_ HO_193002) (Kd.R_base ho205) hb); replace BK184 := zM (bb_ BK184 hb); replace BK187 := zM (bb_ BK187 hb); replace BK188 := zM (bb_ BK188 hb); replace BK192 := zM (bb_ BK192 hb); replace HR196_0 := zM (Kd.C_below (cv_ HR196_0) hb); replace HB := zM (zB bel_ hb); clear hb ho205) | ((with_reducible refine gate_builtin (b := .append) (xs := #[.tmp 112, .tmp 113]) rfl ?_); clear tk208; (try (refine gate_guard (by rfl) ?_; dsimp only)); at_builtin; refine Kd.R_append_rows k34 (w0 := w) w.heap.size rfl (.tmp 112) (.tmp 113) 27 34 (.agg #[(.int .i64 0), (.int .i64 0), (.int .i64 0)]) 24 rfl Try.underlying27 info34 rfl (by decide) (by omega) v211 y210 (rd_L3 l2 x55_2) _ _ _ (fun k_ => (w.heap.size ≤ k_) ∧ some k_ ≠ (.slice Ao41 y189.length co41 : Value).ownBlock ∧ some k_ ≠ (u193002 : Value).ownBlock ∧ k_ ≠ gb184) (fun _ => False) rfl rfl ?aO ?aR (fun _ _ h => h) (fun _ h => h.elim) ?aF ?aB ?aS ?aL ?_; (case aR => repeat (first | exact (Kd.V_reads' HO_11.out).2.2 | (with_reducible refine Kd.C_alloc ?_ _) | (with_reducible refine Kd.C_drewN ?_ _) | (with_reducible refine Kd.C_drew ?_))); (case aB => exact bel_); (case aF => exact (fun k_ hk => ⟨(Nat.le_trans (below_size bel_) hk), Kd.fresh' (Kd.R_lt (rl_ HO_193000)) k_ hk, Kd.fresh' (Kd.R_lt (rl_ HO_193002)) k_ hk, Kd.freshB (g := gb184) (o := .cells #[.int .i64 a1_0, .int .i64 a1_1, .int .i64 a1_2] 34 (0, 0)) blk_ k_ hk⟩)); (case aO => exact (by (with_reducible repeat (first | apply Kd.R_alloc | apply Kd.R_drewN | apply Kd.R_drew)); exact Kd.R_mono HO212.out (fun _ hk => ⟨hk.1.1.1.1, ⟨hk.1.1.2, ⟨hk.1.2, hk.2⟩⟩⟩))); (case aS => exact (below_size bel_)); (case aL => have := LMc161.out; omega); intro v214 w207 ho hb hg hat; rw [← Ny213.out] at ho; have n0_ := zM (Kd.V_afterv (ok := (fun k_ => (P2_ k_ ∨ w.heap.size ≤ k_) ∧ some k_ ≠ (.slice Ao41 y189.length co41 : Value).ownBlock ∧ some k_ ≠ (u193002 : Value).ownBlock ∧ k_ ≠ gb184 ∧ k_ ≠ gb187 ∧ k_ ≠ gb188 ∧ k_ ≠ gb192)) (rv_ HO_2) hg hat); have n1_ := zM (Kd.V_afterv (ok := (fun k_ => (P2_ k_ ∨ w.heap.size ≤ k_) ∧ some k_ ≠ (.slice Ao41 y189.length co41 : Value).ownBlock ∧ some k_ ≠ (u193002 : Value).ownBlock ∧ k_ ≠ gb184 ∧ k_ ≠ gb187 ∧ k_ ≠ gb188 ∧ k_ ≠ gb192)) (rv_ HO_9) hg hat); have n2_ := zM (Kd.V_afterv (ok := (fun k_ => (P2_ k_ ∨ w.heap.size ≤ k_) ∧ some k_ ≠ (.slice Ao41 y189.length co41 : Value).ownBlock ∧ some k_ ≠ (u193002 : Value).ownBlock ∧ k_ ≠ gb184 ∧ k_ ≠ gb187 ∧ k_ ≠ gb188 ∧ k_ ≠ gb192)) (rv_ HO_11) hg hat); have n3_ := zM (Kd.V_afterv (ok := (fun k_ => (P2_ k_ ∨ w.heap.size ≤ k_) ∧ some k_ ≠ (.slice Ao41 y189.length co41 : Value).ownBlock ∧ some k_ ≠ (u193002 : Value).ownBlock ∧ k_ ≠ gb184 ∧ k_ ≠ gb187 ∧ k_ ≠ gb188 ∧ k_ ≠ gb192)) (rv_ HO_53) hg hat); have n4_ := zM (Kd.R_after (ok := (fun k_ => (w.heap.size ≤ k_) ∧ some k_ ≠ (u193002 : Value).ownBlock ∧ k_ ≠ gb184)) (rl_ HO_193000) hg hat); have n5_ := zM (Kd.R_after (ok := (fun k_ => (w.heap.size ≤ k_) ∧ some k_ ≠ (.slice Ao41 y189.length co41 : Value).ownBlock ∧ k_ ≠ gb184)) (rl_ HO_193002) hg hat); have n6_ := zM (blk_grown (g := gb184) (o := .cells #[.int .i64 a1_0, .int .i64 a1_1, .int .i64 a1_2] 34 (0, 0)) blk_ hg (Kd.R_away HO212.out (fun _ hk => hk.2))); have n7_ := zM (blk_grown (g := gb187) (o := .cells #[.slice none 0 0, .int .i64 x188001_55, .slice none 0 0] 61 (0, 0)) blk_ hg (Kd.R_ne HO212.out BK187.out (by decide))); have n8_ := zM (blk_grown (g := gb188) (o := .cells #[.int .i64 a1_1, .int .i64 a1_2] 26 (0, 0)) blk_ hg (Kd.R_ne HO212.out BK188.out (by decide))); have n9_ := zM (blk_grown (g := gb192) (o := .cells #[.slice Ao41 y189.length co41, .int .i64 x193001_55, u193002] 61 (0, 0)) blk_ hg (Kd.R_ne HO212.out BK192.out (by decide))); have n10_ := zM (hb); have n11_ := zM (ho); clear HO_2; clear HO_9; clear HO_11; clear HO_53; clear HO_193000; clear HO_193002; clear BK184; clear BK187; clear BK188; clear BK192; clear HB; clear HO212; have HO_2 := n0_; have HO_9 := n1_; have HO_11 := n2_; have HO_53 := n3_; have HO_193000 := n4_; have HO_193002 := n5_; have BK184 := n6_; have BK187 := n7_; have BK188 := n8_; have BK192 := n9_; have HB := n10_; have HO215 := n11_; clear n0_ n1_ n2_ n3_ n4_ n5_ n6_ n7_ n8_ n9_ n10_ n11_; clear ho hb hg hat; obtain ⟨Ao209, co209, eo209⟩ := Kd.R_slice HO215.out; subst eo209) | ((with_reducible refine gate_callee (f := 15) rfl ?_); clear tk210; refine goL_ (some 115) Try.func15 #[.pointer (some ⟨gb192, 0, none⟩), .slice Ao209 y213.length co209] ?_; go_enter Try.func15, Try.ntmps15; have hnb211 := NB192_184.out; have hnc211 := NB184_192.out; have hnb212 := NB192_187.out; have hnc212 := NB187_192.out; have hnb213 := NB192_188.out; have hnc213 := NB188_192.out; have hcz214_0 : w207.cell? ⟨gb192, 0, none⟩ = some (.slice Ao41 y189.length co41) := (zL BK192.out 0).trans rfl; have hcz214_1 : w207.cell? ⟨gb192, 1, none⟩ = some (.int .i64 x193001_55) := (zL BK192.out 1).trans rfl; have hcz214_2 : w207.cell? ⟨gb192, 2, none⟩ = some (u193002) := (zL BK192.out 2).trans rfl; have hfz214_0 := zF BK192.out 0; have hfz214_1 := zF BK192.out 1; have hfz214_2 := zF BK192.out 2) | (go_at_call 25; (with_reducible refine (api_Cell.calls _ _ y213 t219 _ ?side1 ?side2 A201.out).mono ?_); (case side1 => repeat (first | exact (Kd.R_reads' HO215.out).2.2 | (with_reducible refine Kd.C_alloc ?_ _) | (with_reducible refine Kd.C_drewN ?_ _) | (with_reducible refine Kd.C_drew ?_))); (case side2 => exact (Kd.R_reads' HO215.out).2.1); clear tk216; rintro e w215 ⟨v220, rfl, ho0, hb⟩; replace HO_2 := zM (Kd.V_elder' (rv_ HO_2) (Kd.R_base ho0) hb); replace HO_9 := zM (Kd.V_elder' (rv_ HO_9) (Kd.R_base ho0) hb); replace HO_11 := zM (Kd.V_elder' (rv_ HO_11) (Kd.R_base ho0) hb); replace HO_53 := zM (Kd.V_elder' (rv_ HO_53) (Kd.R_base ho0) hb); have HO221 := zM (Kd.R_lower (Kd.R_newB (Kd.R_new' (Kd.R_new' (Kd.R_new' (Kd.R_newM (M := fun k_ => (w.heap.size ≤ k_)) ho0 (below_size bel_) (fun k_ h_ => h_)) (Kd.R_lt (rl_ HO_193000))) (Kd.R_lt (rl_ HO_193002))) (Kd.R_lt (rl_ HO215))) (g := gb184) (o := .cells #[.int .i64 a1_0, .int .i64 a1_1, .int .i64 a1_2] 34 (0, 0)) blk_) (below_size bel_)); replace HO_193000 := zM (Kd.R_elder' (rl_ HO_193000) (Kd.R_base ho0) hb); replace HO_193002 := zM (Kd.R_elder' (rl_ HO_193002) (Kd.R_base ho0) hb); replace HO215 := zM (Kd.R_elder' (rl_ HO215) (Kd.R_base ho0) hb); replace BK184 := zM (bb_ BK184 hb); replace BK187 := zM (bb_ BK187 hb); replace BK188 := zM (bb_ BK188 hb); replace BK192 := zM (bb_ BK192 hb); replace HB := zM (zB bel_ hb); (try clear hb); (try clear ho0); obtain ⟨Ao217, co217, eo217⟩ := Kd.R_slice HO221.out; subst eo217; have hcz218_0 : w215.cell? ⟨gb192, 0, none⟩ = some (.slice Ao41 y189.length co41) := (zL BK192.out 0).trans rfl; have hcz218_1 : w215.cell? ⟨gb192, 1, none⟩ = some (.int .i64 x193001_55) := (zL BK192.out 1).trans rfl; have hcz218_2 : w215.cell? ⟨gb192, 2, none⟩ = some (u193002) := (zL BK192.out 2).trans rfl; have hfz218_0 := zF BK192.out 0; have hfz218_1 := zF BK192.out 1; have hfz218_2 := zF BK192.out 2) | (go_at_call 26; clear tk219; go_enter Try.func26, Try.ntmps26) | (clear tk220; (first | go_ret | go_ret2 | go_ret3 | go_end0); simp only []; go_at_K) | (clear tk221; (first | go_ret | go_ret2 | go_ret3 | go_end0); with_reducible refine inl_back_ ?_))
                        try clear hcz214_0
                        try clear hcz214_1
                        try clear hcz214_2
                        try clear hcz218_0
                        try clear hcz218_1
                        try clear hcz218_2
                        try clear hfz214_0
                        try clear hfz214_1
                        try clear hfz214_2
                        try clear hfz218_0
                        try clear hfz218_1
                        try clear hfz218_2
                        try clear hnb211
                        try clear hnb212
                        try clear hnb213
                        try clear hnc211
                        try clear hnc212
                        try clear hnc213
                        have H' := zM H
                        clear H
                        go_wp2
                        go_roundg kj158
                        case measure => have := HJ9.out; have := HK2.out; have := HJ55.out; have := HJ121.out; have := HJ158.out; omega
                        case rel => exact ⟨(wrap64 (x8_2 + 1)), (x9_158), (wrap64 (x55_2 + 1)), (x188001_55), (wrap64 (x193001_55 + 1)), (t219), (.slice Ao217 t219.length co217), (by first | rfl | (simp; done) | (simp [*]; done) | (simp; grind)), (by first | rfl | (simp; done) | (simp [*]; done) | (simp; grind)), H', ⟨by have := HJ9.out; have := HK2.out; have := HJ55.out; have := HJ121.out; have := HJ158.out; omega⟩, ⟨by (with_reducible repeat (first | apply Kd.V_alloc | apply Kd.V_drewN | apply Kd.V_drew)); exact Kd.V_mono (Kd.V_far (p := ⟨gb192, 1, none⟩) (Kd.V_far (p := ⟨gb192, 2, none⟩) (Kd.V_mono HO_2.out (fun k_ hk => (⟨hk, hk.1.1.2.2.2.2.2.2⟩ : _ ∧ k_ ≠ gb192))) (fun _ hk => hk.2) (.slice Ao217 t219.length co217)) (fun _ hk => hk.2) (.int .i64 (wrap64 (x193001_55 + 1)))) (fun _ hk => ⟨hk.1.1.1.1, ⟨hk.1.1.1.2.1, ⟨hk.1.2, ⟨hk.1.1.1.2.2.2.1, ⟨hk.1.1.1.2.2.2.2.1, ⟨hk.1.1.1.2.2.2.2.2.1, hk.1.1.1.2.2.2.2.2.2⟩⟩⟩⟩⟩⟩)⟩, ⟨by (with_reducible repeat (first | apply Kd.V_alloc | apply Kd.V_drewN | apply Kd.V_drew)); exact Kd.V_mono (Kd.V_far (p := ⟨gb192, 1, none⟩) (Kd.V_far (p := ⟨gb192, 2, none⟩) (Kd.V_mono HO_9.out (fun k_ hk => (⟨hk, hk.1.1.2.2.2.2.2.2⟩ : _ ∧ k_ ≠ gb192))) (fun _ hk => hk.2) (.slice Ao217 t219.length co217)) (fun _ hk => hk.2) (.int .i64 (wrap64 (x193001_55 + 1)))) (fun _ hk => ⟨hk.1.1.1.1, ⟨hk.1.1.1.2.1, ⟨hk.1.2, ⟨hk.1.1.1.2.2.2.1, ⟨hk.1.1.1.2.2.2.2.1, ⟨hk.1.1.1.2.2.2.2.2.1, hk.1.1.1.2.2.2.2.2.2⟩⟩⟩⟩⟩⟩)⟩, ⟨by (with_reducible repeat (first | apply Kd.V_alloc | apply Kd.V_drewN | apply Kd.V_drew)); exact Kd.V_mono (Kd.V_far (p := ⟨gb192, 1, none⟩) (Kd.V_far (p := ⟨gb192, 2, none⟩) (Kd.V_mono HO_53.out (fun k_ hk => (⟨hk, hk.1.1.2.2.2.2.2.2⟩ : _ ∧ k_ ≠ gb192))) (fun _ hk => hk.2) (.slice Ao217 t219.length co217)) (fun _ hk => hk.2) (.int .i64 (wrap64 (x193001_55 + 1)))) (fun _ hk => ⟨hk.1.1.1.1, ⟨hk.1.1.1.2.1, ⟨hk.1.2, ⟨hk.1.1.1.2.2.2.1, ⟨hk.1.1.1.2.2.2.2.1, ⟨hk.1.1.1.2.2.2.2.2.1, hk.1.1.1.2.2.2.2.2.2⟩⟩⟩⟩⟩⟩)⟩, ⟨by (with_reducible repeat (first | apply Kd.R_alloc | apply Kd.R_drewN | apply Kd.R_drew)); exact Kd.R_mono (Kd.R_far (p := ⟨gb192, 1, none⟩) (Kd.R_far (p := ⟨gb192, 2, none⟩) (Kd.R_types HO_193000.out BK192.out (by decide)) (fun _ hk => hk.2) (.slice Ao217 t219.length co217)) (fun _ hk => hk.2) (.int .i64 (wrap64 (x193001_55 + 1)))) (fun _ hk => ⟨hk.1.1.1.1, ⟨hk.1.2, hk.1.1.1.2.2⟩⟩)⟩, ⟨by (with_reducible repeat (first | apply Kd.R_alloc | apply Kd.R_drewN | apply Kd.R_drew)); exact Kd.R_mono (Kd.R_far (p := ⟨gb192, 1, none⟩) (Kd.R_far (p := ⟨gb192, 2, none⟩) (Kd.R_types HO221.out BK192.out (by decide)) (fun _ hk => hk.2) (.slice Ao217 t219.length co217)) (fun _ hk => hk.2) (.int .i64 (wrap64 (x193001_55 + 1)))) (fun _ hk => ⟨hk.1.1.1.1.1.1, ⟨hk.1.1.1.1.2, hk.1.2⟩⟩)⟩, ⟨blf_⟩, ⟨blf_⟩, ⟨blf_⟩, ⟨by (with_reducible repeat (first | refine zN ?_ _ | refine zD ?_ | refine zA ?_ _)); refine blk_put (cs := #[.slice Ao41 y189.length co41, .int .i64 x193001_55, .slice Ao217 t219.length co217]) ?_ 1 _ rfl; (with_reducible repeat (first | refine zN ?_ _ | refine zD ?_ | refine zA ?_ _)); refine blk_put (cs := #[.slice Ao41 y189.length co41, .int .i64 x193001_55, u193002]) ?_ 2 _ rfl; (with_reducible repeat (first | refine zN ?_ _ | refine zD ?_ | refine zA ?_ _)); exact BK192.out⟩, ⟨bel_⟩⟩
                    rw [if_neg c200] at H
                    have c200b0 : (x193001_55 == 2) = false := beq_eq_false_iff_ne.mpr c200
                    have c200b1 : (x193001_55 != 2) = true := bne_iff_ne.mpr c200
                    by_cases c238 : x193001_55 = 1
                    · rw [if_pos c238] at H
                      have c238b0 : (x193001_55 == 1) = true := beq_iff_eq.mpr c238
                      have c238b1 : (x193001_55 != 1) = false := bne_eq_false_iff_eq.mpr c238
                      clear c238
                      by_cases c239 : (y189.length : Int) > 0
                      rotate_left
                      · rw [if_neg c239] at H
                        exact absurd H (by simp)
                      as_aux_lemma =>
                       rw [if_pos c239] at H
                       have c239b0 : decide (0 < (y189.length : Int)) = true := decide_eq_true c239
                       have c239b1 : decide (0 < y189.length) = true := decide_eq_true (by omega)
                       clear c239
                       have tk242 : True := trivial
                       have tk244 : True := trivial
                       have tk246 : True := trivial
                       have tk251 : True := trivial
                       have tk252 : True := trivial
                       have tk254 : True := trivial
                       go_upto_region 22 with (first | ((with_reducible refine gate_dst (N := 112) rfl ?_); clear tk242; (try (refine gate_guard (by rfl) ?_; dsimp only)); refine Kd.R_lit k34 _ 34 ?hg (N := 112) ?hd (xs := ([] : List (S34))) (inner := []) (ok := fun _ => True) (okp := fun _ => True) ?hr ?hp (fun _ hk => hk) trivial (Below.refl _ _) (Nat.le_refl _) (by simp) ?_; (case hd => rfl); (case hg => rfl); (case hr => first | (go_simp; done) | (go_simp; rfl)); (case hp => exact (Reps.none _ _)); intro v211 w240 ho241 hb hg_ hnew_; clear hg_ hnew_; (first | rw [← Ny210.out] at ho241 | (simp only [Int.reduceToNat] at ho241; rw [← Ny210.out] at ho241)); replace HO_2 := zM (Kd.V_elder' (rv_ HO_2) (Kd.R_base ho241) hb); replace HO_9 := zM (Kd.V_elder' (rv_ HO_9) (Kd.R_base ho241) hb); replace HO_11 := zM (Kd.V_elder' (rv_ HO_11) (Kd.R_base ho241) hb); replace HO_53 := zM (Kd.V_elder' (rv_ HO_53) (Kd.R_base ho241) hb); have HO212 := zM (Kd.R_lower (Kd.R_newB (Kd.R_new' (Kd.R_new' (Kd.R_newM (M := fun k_ => (w.heap.size ≤ k_)) ho241 (below_size bel_) (fun k_ h_ => h_)) (Kd.R_lt (rl_ HO_193000))) (Kd.R_lt (rl_ HO_193002))) (g := gb184) (o := .cells #[.int .i64 a1_0, .int .i64 a1_1, .int .i64 a1_2] 34 (0, 0)) blk_) (below_size bel_)); replace HO_193000 := zM (Kd.R_elder' (rl_ HO_193000) (Kd.R_base ho241) hb); replace HO_193002 := zM (Kd.R_elder' (rl_ HO_193002) (Kd.R_base ho241) hb); replace BK184 := zM (bb_ BK184 hb); replace BK187 := zM (bb_ BK187 hb); replace BK188 := zM (bb_ BK188 hb); replace BK192 := zM (bb_ BK192 hb); replace HR196_0 := zM (Kd.C_below (cv_ HR196_0) hb); replace HB := zM (zB bel_ hb); clear hb ho241) | ((with_reducible refine gate_builtin (b := .append) (xs := #[.tmp 112, .tmp 113]) rfl ?_); clear tk244; (try (refine gate_guard (by rfl) ?_; dsimp only)); at_builtin; refine Kd.R_append_rows k34 (w0 := w) w.heap.size rfl (.tmp 112) (.tmp 113) 27 34 (.agg #[(.int .i64 0), (.int .i64 0), (.int .i64 0)]) 24 rfl Try.underlying27 info34 rfl (by decide) (by omega) v211 y210 (rd_L3 l2 x55_2) _ _ _ (fun k_ => (w.heap.size ≤ k_) ∧ some k_ ≠ (.slice Ao41 y189.length co41 : Value).ownBlock ∧ some k_ ≠ (u193002 : Value).ownBlock ∧ k_ ≠ gb184) (fun _ => False) rfl rfl ?aO ?aR (fun _ _ h => h) (fun _ h => h.elim) ?aF ?aB ?aS ?aL ?_; (case aR => repeat (first | exact (Kd.V_reads' HO_11.out).2.2 | (with_reducible refine Kd.C_alloc ?_ _) | (with_reducible refine Kd.C_drewN ?_ _) | (with_reducible refine Kd.C_drew ?_))); (case aB => exact bel_); (case aF => exact (fun k_ hk => ⟨(Nat.le_trans (below_size bel_) hk), Kd.fresh' (Kd.R_lt (rl_ HO_193000)) k_ hk, Kd.fresh' (Kd.R_lt (rl_ HO_193002)) k_ hk, Kd.freshB (g := gb184) (o := .cells #[.int .i64 a1_0, .int .i64 a1_1, .int .i64 a1_2] 34 (0, 0)) blk_ k_ hk⟩)); (case aO => exact (by (with_reducible repeat (first | apply Kd.R_alloc | apply Kd.R_drewN | apply Kd.R_drew)); exact Kd.R_mono HO212.out (fun _ hk => ⟨hk.1.1.1.1, ⟨hk.1.1.2, ⟨hk.1.2, hk.2⟩⟩⟩))); (case aS => exact (below_size bel_)); (case aL => have := LMc161.out; omega); intro v214 w243 ho hb hg hat; rw [← Ny213.out] at ho; have n0_ := zM (Kd.V_afterv (ok := (fun k_ => (P2_ k_ ∨ w.heap.size ≤ k_) ∧ some k_ ≠ (.slice Ao41 y189.length co41 : Value).ownBlock ∧ some k_ ≠ (u193002 : Value).ownBlock ∧ k_ ≠ gb184 ∧ k_ ≠ gb187 ∧ k_ ≠ gb188 ∧ k_ ≠ gb192)) (rv_ HO_2) hg hat); have n1_ := zM (Kd.V_afterv (ok := (fun k_ => (P2_ k_ ∨ w.heap.size ≤ k_) ∧ some k_ ≠ (.slice Ao41 y189.length co41 : Value).ownBlock ∧ some k_ ≠ (u193002 : Value).ownBlock ∧ k_ ≠ gb184 ∧ k_ ≠ gb187 ∧ k_ ≠ gb188 ∧ k_ ≠ gb192)) (rv_ HO_9) hg hat); have n2_ := zM (Kd.V_afterv (ok := (fun k_ => (P2_ k_ ∨ w.heap.size ≤ k_) ∧ some k_ ≠ (.slice Ao41 y189.length co41 : Value).ownBlock ∧ some k_ ≠ (u193002 : Value).ownBlock ∧ k_ ≠ gb184 ∧ k_ ≠ gb187 ∧ k_ ≠ gb188 ∧ k_ ≠ gb192)) (rv_ HO_11) hg hat); have n3_ := zM (Kd.V_afterv (ok := (fun k_ => (P2_ k_ ∨ w.heap.size ≤ k_) ∧ some k_ ≠ (.slice Ao41 y189.length co41 : Value).ownBlock ∧ some k_ ≠ (u193002 : Value).ownBlock ∧ k_ ≠ gb184 ∧ k_ ≠ gb187 ∧ k_ ≠ gb188 ∧ k_ ≠ gb192)) (rv_ HO_53) hg hat); have n4_ := zM (Kd.R_after (ok := (fun k_ => (w.heap.size ≤ k_) ∧ some k_ ≠ (u193002 : Value).ownBlock ∧ k_ ≠ gb184)) (rl_ HO_193000) hg hat); have n5_ := zM (Kd.R_after (ok := (fun k_ => (w.heap.size ≤ k_) ∧ some k_ ≠ (.slice Ao41 y189.length co41 : Value).ownBlock ∧ k_ ≠ gb184)) (rl_ HO_193002) hg hat); have n6_ := zM (blk_grown (g := gb184) (o := .cells #[.int .i64 a1_0, .int .i64 a1_1, .int .i64 a1_2] 34 (0, 0)) blk_ hg (Kd.R_away HO212.out (fun _ hk => hk.2))); have n7_ := zM (blk_grown (g := gb187) (o := .cells #[.slice none 0 0, .int .i64 x188001_55, .slice none 0 0] 61 (0, 0)) blk_ hg (Kd.R_ne HO212.out BK187.out (by decide))); have n8_ := zM (blk_grown (g := gb188) (o := .cells #[.int .i64 a1_1, .int .i64 a1_2] 26 (0, 0)) blk_ hg (Kd.R_ne HO212.out BK188.out (by decide))); have n9_ := zM (blk_grown (g := gb192) (o := .cells #[.slice Ao41 y189.length co41, .int .i64 x193001_55, u193002] 61 (0, 0)) blk_ hg (Kd.R_ne HO212.out BK192.out (by decide))); have n10_ := zM (hb); have n11_ := zM (ho); clear HO_2; clear HO_9; clear HO_11; clear HO_53; clear HO_193000; clear HO_193002; clear BK184; clear BK187; clear BK188; clear BK192; clear HB; clear HO212; have HO_2 := n0_; have HO_9 := n1_; have HO_11 := n2_; have HO_53 := n3_; have HO_193000 := n4_; have HO_193002 := n5_; have BK184 := n6_; have BK187 := n7_; have BK188 := n8_; have BK192 := n9_; have HB := n10_; have HO215 := n11_; clear n0_ n1_ n2_ n3_ n4_ n5_ n6_ n7_ n8_ n9_ n10_ n11_; clear ho hb hg hat; obtain ⟨Ao245, co245, eo245⟩ := Kd.R_slice HO215.out; subst eo245) | ((with_reducible refine gate_callee (f := 15) rfl ?_); clear tk246; refine goL_ (some 115) Try.func15 #[.pointer (some ⟨gb192, 0, none⟩), .slice Ao245 y213.length co245] ?_; go_enter Try.func15, Try.ntmps15; have hnb247 := NB192_184.out; have hnc247 := NB184_192.out; have hnb248 := NB192_187.out; have hnc248 := NB187_192.out; have hnb249 := NB192_188.out; have hnc249 := NB188_192.out; have hcz250_0 : w243.cell? ⟨gb192, 0, none⟩ = some (.slice Ao41 y189.length co41) := (zL BK192.out 0).trans rfl; have hcz250_1 : w243.cell? ⟨gb192, 1, none⟩ = some (.int .i64 x193001_55) := (zL BK192.out 1).trans rfl; have hcz250_2 : w243.cell? ⟨gb192, 2, none⟩ = some (u193002) := (zL BK192.out 2).trans rfl; have hfz250_0 := zF BK192.out 0; have hfz250_1 := zF BK192.out 1; have hfz250_2 := zF BK192.out 2) | ((with_reducible refine gate_callee (f := 26) rfl ?_); clear tk251; refine goL_ (some 40) Try.func26 #[.pointer (some ⟨gb192, 0, none⟩)] ?_; go_enter Try.func26, Try.ntmps26) | (clear tk252; (first | go_ret | go_ret2 | go_ret3 | go_end0); with_reducible refine inl_back_ ?_; have hcy253 : ((w243.setCell ⟨gb192, 1, none⟩ (.int .i64 2)).setCell ⟨gb192, 1, none⟩ (.int .i64 4)).cell? ⟨gb192, 1, none⟩ = some (.int .i64 4) := (zL (show ((w243.setCell ⟨gb192, 1, none⟩ (.int .i64 2)).setCell ⟨gb192, 1, none⟩ (.int .i64 4)).heap[gb192]? = some (.cells #[.slice Ao41 y189.length co41, .int .i64 4, u193002] 61 (0, 0)) from by (with_reducible repeat (first | refine zN ?_ _ | refine zD ?_ | refine zA ?_ _)); refine blk_put (cs := #[.slice Ao41 y189.length co41, .int .i64 2, u193002]) ?_ 1 _ rfl; (with_reducible repeat (first | refine zN ?_ _ | refine zD ?_ | refine zA ?_ _)); refine blk_put (cs := #[.slice Ao41 y189.length co41, .int .i64 x193001_55, u193002]) ?_ 1 _ rfl; (with_reducible repeat (first | refine zN ?_ _ | refine zD ?_ | refine zA ?_ _)); exact BK192.out) 1).trans rfl) | (clear tk254; (first | go_ret | go_ret2 | go_ret3 | go_end0); with_reducible refine inl_back_ ?_))
                       try clear hcz250_0
                       try clear hcz250_1
                       try clear hcz250_2
                       try clear hfz250_0
                       try clear hfz250_1
                       try clear hfz250_2
                       try clear hnb247
                       try clear hnb248
                       try clear hnb249
                       try clear hnc247
                       try clear hnc248
                       try clear hnc249
                       have H' := zM H
                       clear H
                       go_wp2
                       go_roundg kj158
                       case measure => have := HJ9.out; have := HK2.out; have := HJ55.out; have := HJ121.out; have := HJ158.out; omega
                       case rel => exact ⟨(wrap64 (x8_2 + 1)), (x9_158), (wrap64 (x55_2 + 1)), (x188001_55), (4), (x193002_2), (u193002), (by first | rfl | (simp; done) | (simp [*]; done) | (simp; grind)), (by first | rfl | (simp; done) | (simp [*]; done) | (simp; grind)), H', ⟨by have := HJ9.out; have := HK2.out; have := HJ55.out; have := HJ121.out; have := HJ158.out; omega⟩, ⟨by (with_reducible repeat (first | apply Kd.V_alloc | apply Kd.V_drewN | apply Kd.V_drew)); exact Kd.V_mono (Kd.V_far (p := ⟨gb192, 1, none⟩) (Kd.V_far (p := ⟨gb192, 1, none⟩) (Kd.V_mono HO_2.out (fun k_ hk => (⟨hk, hk.1.2.2.2.2.2.2⟩ : _ ∧ k_ ≠ gb192))) (fun _ hk => hk.2) (.int .i64 2)) (fun _ hk => hk.2) (.int .i64 4)) (fun _ hk => ⟨hk.1.1.1, ⟨hk.1.1.2.1, ⟨hk.1.1.2.2.1, ⟨hk.1.1.2.2.2.1, ⟨hk.1.1.2.2.2.2.1, ⟨hk.1.1.2.2.2.2.2.1, hk.1.1.2.2.2.2.2.2⟩⟩⟩⟩⟩⟩)⟩, ⟨by (with_reducible repeat (first | apply Kd.V_alloc | apply Kd.V_drewN | apply Kd.V_drew)); exact Kd.V_mono (Kd.V_far (p := ⟨gb192, 1, none⟩) (Kd.V_far (p := ⟨gb192, 1, none⟩) (Kd.V_mono HO_9.out (fun k_ hk => (⟨hk, hk.1.2.2.2.2.2.2⟩ : _ ∧ k_ ≠ gb192))) (fun _ hk => hk.2) (.int .i64 2)) (fun _ hk => hk.2) (.int .i64 4)) (fun _ hk => ⟨hk.1.1.1, ⟨hk.1.1.2.1, ⟨hk.1.1.2.2.1, ⟨hk.1.1.2.2.2.1, ⟨hk.1.1.2.2.2.2.1, ⟨hk.1.1.2.2.2.2.2.1, hk.1.1.2.2.2.2.2.2⟩⟩⟩⟩⟩⟩)⟩, ⟨by (with_reducible repeat (first | apply Kd.V_alloc | apply Kd.V_drewN | apply Kd.V_drew)); exact Kd.V_mono (Kd.V_far (p := ⟨gb192, 1, none⟩) (Kd.V_far (p := ⟨gb192, 1, none⟩) (Kd.V_mono HO_53.out (fun k_ hk => (⟨hk, hk.1.2.2.2.2.2.2⟩ : _ ∧ k_ ≠ gb192))) (fun _ hk => hk.2) (.int .i64 2)) (fun _ hk => hk.2) (.int .i64 4)) (fun _ hk => ⟨hk.1.1.1, ⟨hk.1.1.2.1, ⟨hk.1.1.2.2.1, ⟨hk.1.1.2.2.2.1, ⟨hk.1.1.2.2.2.2.1, ⟨hk.1.1.2.2.2.2.2.1, hk.1.1.2.2.2.2.2.2⟩⟩⟩⟩⟩⟩)⟩, ⟨by (with_reducible repeat (first | apply Kd.R_alloc | apply Kd.R_drewN | apply Kd.R_drew)); exact Kd.R_mono (Kd.R_far (p := ⟨gb192, 1, none⟩) (Kd.R_far (p := ⟨gb192, 1, none⟩) (Kd.R_types HO_193000.out BK192.out (by decide)) (fun _ hk => hk.2) (.int .i64 2)) (fun _ hk => hk.2) (.int .i64 4)) (fun _ hk => ⟨hk.1.1.1, ⟨hk.1.1.2.1, hk.1.1.2.2⟩⟩)⟩, ⟨by (with_reducible repeat (first | apply Kd.R_alloc | apply Kd.R_drewN | apply Kd.R_drew)); exact Kd.R_mono (Kd.R_far (p := ⟨gb192, 1, none⟩) (Kd.R_far (p := ⟨gb192, 1, none⟩) (Kd.R_types HO_193002.out BK192.out (by decide)) (fun _ hk => hk.2) (.int .i64 2)) (fun _ hk => hk.2) (.int .i64 4)) (fun _ hk => ⟨hk.1.1.1, ⟨hk.1.1.2.1, hk.1.1.2.2⟩⟩)⟩, ⟨blf_⟩, ⟨blf_⟩, ⟨blf_⟩, ⟨by (with_reducible repeat (first | refine zN ?_ _ | refine zD ?_ | refine zA ?_ _)); refine blk_put (cs := #[.slice Ao41 y189.length co41, .int .i64 2, u193002]) ?_ 1 _ rfl; (with_reducible repeat (first | refine zN ?_ _ | refine zD ?_ | refine zA ?_ _)); refine blk_put (cs := #[.slice Ao41 y189.length co41, .int .i64 x193001_55, u193002]) ?_ 1 _ rfl; (with_reducible repeat (first | refine zN ?_ _ | refine zD ?_ | refine zA ?_ _)); exact BK192.out⟩, ⟨bel_⟩⟩
                    rw [if_neg c238] at H
                    have c238b0 : (x193001_55 == 1) = false := beq_eq_false_iff_ne.mpr c238
                    have c238b1 : (x193001_55 != 1) = true := bne_iff_ne.mpr c238
                    by_cases c255 : x193001_55 = 3
                    rotate_left
                    · as_aux_lemma =>
                       rw [if_neg c255] at H
                       have c255b0 : (x193001_55 == 3) = false := beq_eq_false_iff_ne.mpr c255
                       have c255b1 : (x193001_55 != 3) = true := bne_iff_ne.mpr c255
                       have tk270 : True := trivial
                       have tk272 : True := trivial
                       have tk274 : True := trivial
                       have tk279 : True := trivial
                       go_upto_region 22 with (first | ((with_reducible refine gate_dst (N := 112) rfl ?_); clear tk270; (try (refine gate_guard (by rfl) ?_; dsimp only)); refine Kd.R_lit k34 _ 34 ?hg (N := 112) ?hd (xs := ([] : List (S34))) (inner := []) (ok := fun _ => True) (okp := fun _ => True) ?hr ?hp (fun _ hk => hk) trivial (Below.refl _ _) (Nat.le_refl _) (by simp) ?_; (case hd => rfl); (case hg => rfl); (case hr => first | (go_simp; done) | (go_simp; rfl)); (case hp => exact (Reps.none _ _)); intro v211 w268 ho269 hb hg_ hnew_; clear hg_ hnew_; (first | rw [← Ny210.out] at ho269 | (simp only [Int.reduceToNat] at ho269; rw [← Ny210.out] at ho269)); replace HO_2 := zM (Kd.V_elder' (rv_ HO_2) (Kd.R_base ho269) hb); replace HO_9 := zM (Kd.V_elder' (rv_ HO_9) (Kd.R_base ho269) hb); replace HO_11 := zM (Kd.V_elder' (rv_ HO_11) (Kd.R_base ho269) hb); replace HO_53 := zM (Kd.V_elder' (rv_ HO_53) (Kd.R_base ho269) hb); have HO212 := zM (Kd.R_lower (Kd.R_newB (Kd.R_new' (Kd.R_new' (Kd.R_newM (M := fun k_ => (w.heap.size ≤ k_)) ho269 (below_size bel_) (fun k_ h_ => h_)) (Kd.R_lt (rl_ HO_193000))) (Kd.R_lt (rl_ HO_193002))) (g := gb184) (o := .cells #[.int .i64 a1_0, .int .i64 a1_1, .int .i64 a1_2] 34 (0, 0)) blk_) (below_size bel_)); replace HO_193000 := zM (Kd.R_elder' (rl_ HO_193000) (Kd.R_base ho269) hb); replace HO_193002 := zM (Kd.R_elder' (rl_ HO_193002) (Kd.R_base ho269) hb); replace BK184 := zM (bb_ BK184 hb); replace BK187 := zM (bb_ BK187 hb); replace BK188 := zM (bb_ BK188 hb); replace BK192 := zM (bb_ BK192 hb); replace HR196_0 := zM (Kd.C_below (cv_ HR196_0) hb); replace HB := zM (zB bel_ hb); clear hb ho269) | ((with_reducible refine gate_builtin (b := .append) (xs := #[.tmp 112, .tmp 113]) rfl ?_); clear tk272; (try (refine gate_guard (by rfl) ?_; dsimp only)); at_builtin; refine Kd.R_append_rows k34 (w0 := w) w.heap.size rfl (.tmp 112) (.tmp 113) 27 34 (.agg #[(.int .i64 0), (.int .i64 0), (.int .i64 0)]) 24 rfl Try.underlying27 info34 rfl (by decide) (by omega) v211 y210 (rd_L3 l2 x55_2) _ _ _ (fun k_ => (w.heap.size ≤ k_) ∧ some k_ ≠ (.slice Ao41 y189.length co41 : Value).ownBlock ∧ some k_ ≠ (u193002 : Value).ownBlock ∧ k_ ≠ gb184) (fun _ => False) rfl rfl ?aO ?aR (fun _ _ h => h) (fun _ h => h.elim) ?aF ?aB ?aS ?aL ?_; (case aR => repeat (first | exact (Kd.V_reads' HO_11.out).2.2 | (with_reducible refine Kd.C_alloc ?_ _) | (with_reducible refine Kd.C_drewN ?_ _) | (with_reducible refine Kd.C_drew ?_))); (case aB => exact bel_); (case aF => exact (fun k_ hk => ⟨(Nat.le_trans (below_size bel_) hk), Kd.fresh' (Kd.R_lt (rl_ HO_193000)) k_ hk, Kd.fresh' (Kd.R_lt (rl_ HO_193002)) k_ hk, Kd.freshB (g := gb184) (o := .cells #[.int .i64 a1_0, .int .i64 a1_1, .int .i64 a1_2] 34 (0, 0)) blk_ k_ hk⟩)); (case aO => exact (by (with_reducible repeat (first | apply Kd.R_alloc | apply Kd.R_drewN | apply Kd.R_drew)); exact Kd.R_mono HO212.out (fun _ hk => ⟨hk.1.1.1.1, ⟨hk.1.1.2, ⟨hk.1.2, hk.2⟩⟩⟩))); (case aS => exact (below_size bel_)); (case aL => have := LMc161.out; omega); intro v214 w271 ho hb hg hat; rw [← Ny213.out] at ho; have n0_ := zM (Kd.V_afterv (ok := (fun k_ => (P2_ k_ ∨ w.heap.size ≤ k_) ∧ some k_ ≠ (.slice Ao41 y189.length co41 : Value).ownBlock ∧ some k_ ≠ (u193002 : Value).ownBlock ∧ k_ ≠ gb184 ∧ k_ ≠ gb187 ∧ k_ ≠ gb188 ∧ k_ ≠ gb192)) (rv_ HO_2) hg hat); have n1_ := zM (Kd.V_afterv (ok := (fun k_ => (P2_ k_ ∨ w.heap.size ≤ k_) ∧ some k_ ≠ (.slice Ao41 y189.length co41 : Value).ownBlock ∧ some k_ ≠ (u193002 : Value).ownBlock ∧ k_ ≠ gb184 ∧ k_ ≠ gb187 ∧ k_ ≠ gb188 ∧ k_ ≠ gb192)) (rv_ HO_9) hg hat); have n2_ := zM (Kd.V_afterv (ok := (fun k_ => (P2_ k_ ∨ w.heap.size ≤ k_) ∧ some k_ ≠ (.slice Ao41 y189.length co41 : Value).ownBlock ∧ some k_ ≠ (u193002 : Value).ownBlock ∧ k_ ≠ gb184 ∧ k_ ≠ gb187 ∧ k_ ≠ gb188 ∧ k_ ≠ gb192)) (rv_ HO_11) hg hat); have n3_ := zM (Kd.V_afterv (ok := (fun k_ => (P2_ k_ ∨ w.heap.size ≤ k_) ∧ some k_ ≠ (.slice Ao41 y189.length co41 : Value).ownBlock ∧ some k_ ≠ (u193002 : Value).ownBlock ∧ k_ ≠ gb184 ∧ k_ ≠ gb187 ∧ k_ ≠ gb188 ∧ k_ ≠ gb192)) (rv_ HO_53) hg hat); have n4_ := zM (Kd.R_after (ok := (fun k_ => (w.heap.size ≤ k_) ∧ some k_ ≠ (u193002 : Value).ownBlock ∧ k_ ≠ gb184)) (rl_ HO_193000) hg hat); have n5_ := zM (Kd.R_after (ok := (fun k_ => (w.heap.size ≤ k_) ∧ some k_ ≠ (.slice Ao41 y189.length co41 : Value).ownBlock ∧ k_ ≠ gb184)) (rl_ HO_193002) hg hat); have n6_ := zM (blk_grown (g := gb184) (o := .cells #[.int .i64 a1_0, .int .i64 a1_1, .int .i64 a1_2] 34 (0, 0)) blk_ hg (Kd.R_away HO212.out (fun _ hk => hk.2))); have n7_ := zM (blk_grown (g := gb187) (o := .cells #[.slice none 0 0, .int .i64 x188001_55, .slice none 0 0] 61 (0, 0)) blk_ hg (Kd.R_ne HO212.out BK187.out (by decide))); have n8_ := zM (blk_grown (g := gb188) (o := .cells #[.int .i64 a1_1, .int .i64 a1_2] 26 (0, 0)) blk_ hg (Kd.R_ne HO212.out BK188.out (by decide))); have n9_ := zM (blk_grown (g := gb192) (o := .cells #[.slice Ao41 y189.length co41, .int .i64 x193001_55, u193002] 61 (0, 0)) blk_ hg (Kd.R_ne HO212.out BK192.out (by decide))); have n10_ := zM (hb); have n11_ := zM (ho); clear HO_2; clear HO_9; clear HO_11; clear HO_53; clear HO_193000; clear HO_193002; clear BK184; clear BK187; clear BK188; clear BK192; clear HB; clear HO212; have HO_2 := n0_; have HO_9 := n1_; have HO_11 := n2_; have HO_53 := n3_; have HO_193000 := n4_; have HO_193002 := n5_; have BK184 := n6_; have BK187 := n7_; have BK188 := n8_; have BK192 := n9_; have HB := n10_; have HO215 := n11_; clear n0_ n1_ n2_ n3_ n4_ n5_ n6_ n7_ n8_ n9_ n10_ n11_; clear ho hb hg hat; obtain ⟨Ao273, co273, eo273⟩ := Kd.R_slice HO215.out; subst eo273) | ((with_reducible refine gate_callee (f := 15) rfl ?_); clear tk274; refine goL_ (some 115) Try.func15 #[.pointer (some ⟨gb192, 0, none⟩), .slice Ao273 y213.length co273] ?_; go_enter Try.func15, Try.ntmps15; have hnb275 := NB192_184.out; have hnc275 := NB184_192.out; have hnb276 := NB192_187.out; have hnc276 := NB187_192.out; have hnb277 := NB192_188.out; have hnc277 := NB188_192.out; have hcz278_0 : w271.cell? ⟨gb192, 0, none⟩ = some (.slice Ao41 y189.length co41) := (zL BK192.out 0).trans rfl; have hcz278_1 : w271.cell? ⟨gb192, 1, none⟩ = some (.int .i64 x193001_55) := (zL BK192.out 1).trans rfl; have hcz278_2 : w271.cell? ⟨gb192, 2, none⟩ = some (u193002) := (zL BK192.out 2).trans rfl; have hfz278_0 := zF BK192.out 0; have hfz278_1 := zF BK192.out 1; have hfz278_2 := zF BK192.out 2) | (clear tk279; (first | go_ret | go_ret2 | go_ret3 | go_end0); with_reducible refine inl_back_ ?_))
                       try clear hcz278_0
                       try clear hcz278_1
                       try clear hcz278_2
                       try clear hfz278_0
                       try clear hfz278_1
                       try clear hfz278_2
                       try clear hnb275
                       try clear hnb276
                       try clear hnb277
                       try clear hnc275
                       try clear hnc276
                       try clear hnc277
                       have H' := zM H
                       clear H
                       go_wp2
                       go_roundg kj158
                       case measure => have := HJ9.out; have := HK2.out; have := HJ55.out; have := HJ121.out; have := HJ158.out; omega
                       case rel => exact ⟨(wrap64 (x8_2 + 1)), (x9_158), (wrap64 (x55_2 + 1)), (x188001_55), (x193001_55), (x193002_2), (u193002), (by first | rfl | (simp; done) | (simp [*]; done) | (simp; grind)), (by first | rfl | (simp; done) | (simp [*]; done) | (simp; grind)), H', ⟨by have := HJ9.out; have := HK2.out; have := HJ55.out; have := HJ121.out; have := HJ158.out; omega⟩, ⟨by (with_reducible repeat (first | apply Kd.V_alloc | apply Kd.V_drewN | apply Kd.V_drew)); exact Kd.V_mono HO_2.out (fun _ hk => ⟨hk.1.1, ⟨hk.1.2.1, ⟨hk.1.2.2.1, ⟨hk.1.2.2.2.1, ⟨hk.1.2.2.2.2.1, ⟨hk.1.2.2.2.2.2.1, hk.1.2.2.2.2.2.2⟩⟩⟩⟩⟩⟩)⟩, ⟨by (with_reducible repeat (first | apply Kd.V_alloc | apply Kd.V_drewN | apply Kd.V_drew)); exact Kd.V_mono HO_9.out (fun _ hk => ⟨hk.1.1, ⟨hk.1.2.1, ⟨hk.1.2.2.1, ⟨hk.1.2.2.2.1, ⟨hk.1.2.2.2.2.1, ⟨hk.1.2.2.2.2.2.1, hk.1.2.2.2.2.2.2⟩⟩⟩⟩⟩⟩)⟩, ⟨by (with_reducible repeat (first | apply Kd.V_alloc | apply Kd.V_drewN | apply Kd.V_drew)); exact Kd.V_mono HO_53.out (fun _ hk => ⟨hk.1.1, ⟨hk.1.2.1, ⟨hk.1.2.2.1, ⟨hk.1.2.2.2.1, ⟨hk.1.2.2.2.2.1, ⟨hk.1.2.2.2.2.2.1, hk.1.2.2.2.2.2.2⟩⟩⟩⟩⟩⟩)⟩, ⟨by (with_reducible repeat (first | apply Kd.R_alloc | apply Kd.R_drewN | apply Kd.R_drew)); exact Kd.R_mono HO_193000.out (fun _ hk => ⟨hk.1.1, ⟨hk.1.2.1, hk.1.2.2⟩⟩)⟩, ⟨by (with_reducible repeat (first | apply Kd.R_alloc | apply Kd.R_drewN | apply Kd.R_drew)); exact Kd.R_mono HO_193002.out (fun _ hk => ⟨hk.1.1, ⟨hk.1.2.1, hk.1.2.2⟩⟩)⟩, ⟨blf_⟩, ⟨blf_⟩, ⟨blf_⟩, ⟨blf_⟩, ⟨bel_⟩⟩
                    as_aux_lemma =>
                     rw [if_pos c255] at H
                     have c255b0 : (x193001_55 == 3) = true := beq_iff_eq.mpr c255
                     have c255b1 : (x193001_55 != 3) = false := bne_eq_false_iff_eq.mpr c255
                     clear c255
                     have tk258 : True := trivial
                     have tk260 : True := trivial
                     have tk262 : True := trivial
                     have tk267 : True := trivial
                     go_upto_region 22 with (first | ((with_reducible refine gate_dst (N := 112) rfl ?_); clear tk258; (try (refine gate_guard (by rfl) ?_; dsimp only)); refine Kd.R_lit k34 _ 34 ?hg (N := 112) ?hd (xs := ([] : List (S34))) (inner := []) (ok := fun _ => True) (okp := fun _ => True) ?hr ?hp (fun _ hk => hk) trivial (Below.refl _ _) (Nat.le_refl _) (by simp) ?_; (case hd => rfl); (case hg => rfl); (case hr => first | (go_simp; done) | (go_simp; rfl)); (case hp => exact (Reps.none _ _)); intro v211 w256 ho257 hb hg_ hnew_; clear hg_ hnew_; (first | rw [← Ny210.out] at ho257 | (simp only [Int.reduceToNat] at ho257; rw [← Ny210.out] at ho257)); replace HO_2 := zM (Kd.V_elder' (rv_ HO_2) (Kd.R_base ho257) hb); replace HO_9 := zM (Kd.V_elder' (rv_ HO_9) (Kd.R_base ho257) hb); replace HO_11 := zM (Kd.V_elder' (rv_ HO_11) (Kd.R_base ho257) hb); replace HO_53 := zM (Kd.V_elder' (rv_ HO_53) (Kd.R_base ho257) hb); have HO212 := zM (Kd.R_lower (Kd.R_newB (Kd.R_new' (Kd.R_new' (Kd.R_newM (M := fun k_ => (w.heap.size ≤ k_)) ho257 (below_size bel_) (fun k_ h_ => h_)) (Kd.R_lt (rl_ HO_193000))) (Kd.R_lt (rl_ HO_193002))) (g := gb184) (o := .cells #[.int .i64 a1_0, .int .i64 a1_1, .int .i64 a1_2] 34 (0, 0)) blk_) (below_size bel_)); replace HO_193000 := zM (Kd.R_elder' (rl_ HO_193000) (Kd.R_base ho257) hb); replace HO_193002 := zM (Kd.R_elder' (rl_ HO_193002) (Kd.R_base ho257) hb); replace BK184 := zM (bb_ BK184 hb); replace BK187 := zM (bb_ BK187 hb); replace BK188 := zM (bb_ BK188 hb); replace BK192 := zM (bb_ BK192 hb); replace HR196_0 := zM (Kd.C_below (cv_ HR196_0) hb); replace HB := zM (zB bel_ hb); clear hb ho257) | ((with_reducible refine gate_builtin (b := .append) (xs := #[.tmp 112, .tmp 113]) rfl ?_); clear tk260; (try (refine gate_guard (by rfl) ?_; dsimp only)); at_builtin; refine Kd.R_append_rows k34 (w0 := w) w.heap.size rfl (.tmp 112) (.tmp 113) 27 34 (.agg #[(.int .i64 0), (.int .i64 0), (.int .i64 0)]) 24 rfl Try.underlying27 info34 rfl (by decide) (by omega) v211 y210 (rd_L3 l2 x55_2) _ _ _ (fun k_ => (w.heap.size ≤ k_) ∧ some k_ ≠ (.slice Ao41 y189.length co41 : Value).ownBlock ∧ some k_ ≠ (u193002 : Value).ownBlock ∧ k_ ≠ gb184) (fun _ => False) rfl rfl ?aO ?aR (fun _ _ h => h) (fun _ h => h.elim) ?aF ?aB ?aS ?aL ?_; (case aR => repeat (first | exact (Kd.V_reads' HO_11.out).2.2 | (with_reducible refine Kd.C_alloc ?_ _) | (with_reducible refine Kd.C_drewN ?_ _) | (with_reducible refine Kd.C_drew ?_))); (case aB => exact bel_); (case aF => exact (fun k_ hk => ⟨(Nat.le_trans (below_size bel_) hk), Kd.fresh' (Kd.R_lt (rl_ HO_193000)) k_ hk, Kd.fresh' (Kd.R_lt (rl_ HO_193002)) k_ hk, Kd.freshB (g := gb184) (o := .cells #[.int .i64 a1_0, .int .i64 a1_1, .int .i64 a1_2] 34 (0, 0)) blk_ k_ hk⟩)); (case aO => exact (by (with_reducible repeat (first | apply Kd.R_alloc | apply Kd.R_drewN | apply Kd.R_drew)); exact Kd.R_mono HO212.out (fun _ hk => ⟨hk.1.1.1.1, ⟨hk.1.1.2, ⟨hk.1.2, hk.2⟩⟩⟩))); (case aS => exact (below_size bel_)); (case aL => have := LMc161.out; omega); intro v214 w259 ho hb hg hat; rw [← Ny213.out] at ho; have n0_ := zM (Kd.V_afterv (ok := (fun k_ => (P2_ k_ ∨ w.heap.size ≤ k_) ∧ some k_ ≠ (.slice Ao41 y189.length co41 : Value).ownBlock ∧ some k_ ≠ (u193002 : Value).ownBlock ∧ k_ ≠ gb184 ∧ k_ ≠ gb187 ∧ k_ ≠ gb188 ∧ k_ ≠ gb192)) (rv_ HO_2) hg hat); have n1_ := zM (Kd.V_afterv (ok := (fun k_ => (P2_ k_ ∨ w.heap.size ≤ k_) ∧ some k_ ≠ (.slice Ao41 y189.length co41 : Value).ownBlock ∧ some k_ ≠ (u193002 : Value).ownBlock ∧ k_ ≠ gb184 ∧ k_ ≠ gb187 ∧ k_ ≠ gb188 ∧ k_ ≠ gb192)) (rv_ HO_9) hg hat); have n2_ := zM (Kd.V_afterv (ok := (fun k_ => (P2_ k_ ∨ w.heap.size ≤ k_) ∧ some k_ ≠ (.slice Ao41 y189.length co41 : Value).ownBlock ∧ some k_ ≠ (u193002 : Value).ownBlock ∧ k_ ≠ gb184 ∧ k_ ≠ gb187 ∧ k_ ≠ gb188 ∧ k_ ≠ gb192)) (rv_ HO_11) hg hat); have n3_ := zM (Kd.V_afterv (ok := (fun k_ => (P2_ k_ ∨ w.heap.size ≤ k_) ∧ some k_ ≠ (.slice Ao41 y189.length co41 : Value).ownBlock ∧ some k_ ≠ (u193002 : Value).ownBlock ∧ k_ ≠ gb184 ∧ k_ ≠ gb187 ∧ k_ ≠ gb188 ∧ k_ ≠ gb192)) (rv_ HO_53) hg hat); have n4_ := zM (Kd.R_after (ok := (fun k_ => (w.heap.size ≤ k_) ∧ some k_ ≠ (u193002 : Value).ownBlock ∧ k_ ≠ gb184)) (rl_ HO_193000) hg hat); have n5_ := zM (Kd.R_after (ok := (fun k_ => (w.heap.size ≤ k_) ∧ some k_ ≠ (.slice Ao41 y189.length co41 : Value).ownBlock ∧ k_ ≠ gb184)) (rl_ HO_193002) hg hat); have n6_ := zM (blk_grown (g := gb184) (o := .cells #[.int .i64 a1_0, .int .i64 a1_1, .int .i64 a1_2] 34 (0, 0)) blk_ hg (Kd.R_away HO212.out (fun _ hk => hk.2))); have n7_ := zM (blk_grown (g := gb187) (o := .cells #[.slice none 0 0, .int .i64 x188001_55, .slice none 0 0] 61 (0, 0)) blk_ hg (Kd.R_ne HO212.out BK187.out (by decide))); have n8_ := zM (blk_grown (g := gb188) (o := .cells #[.int .i64 a1_1, .int .i64 a1_2] 26 (0, 0)) blk_ hg (Kd.R_ne HO212.out BK188.out (by decide))); have n9_ := zM (blk_grown (g := gb192) (o := .cells #[.slice Ao41 y189.length co41, .int .i64 x193001_55, u193002] 61 (0, 0)) blk_ hg (Kd.R_ne HO212.out BK192.out (by decide))); have n10_ := zM (hb); have n11_ := zM (ho); clear HO_2; clear HO_9; clear HO_11; clear HO_53; clear HO_193000; clear HO_193002; clear BK184; clear BK187; clear BK188; clear BK192; clear HB; clear HO212; have HO_2 := n0_; have HO_9 := n1_; have HO_11 := n2_; have HO_53 := n3_; have HO_193000 := n4_; have HO_193002 := n5_; have BK184 := n6_; have BK187 := n7_; have BK188 := n8_; have BK192 := n9_; have HB := n10_; have HO215 := n11_; clear n0_ n1_ n2_ n3_ n4_ n5_ n6_ n7_ n8_ n9_ n10_ n11_; clear ho hb hg hat; obtain ⟨Ao261, co261, eo261⟩ := Kd.R_slice HO215.out; subst eo261) | ((with_reducible refine gate_callee (f := 15) rfl ?_); clear tk262; refine goL_ (some 115) Try.func15 #[.pointer (some ⟨gb192, 0, none⟩), .slice Ao261 y213.length co261] ?_; go_enter Try.func15, Try.ntmps15; have hnb263 := NB192_184.out; have hnc263 := NB184_192.out; have hnb264 := NB192_187.out; have hnc264 := NB187_192.out; have hnb265 := NB192_188.out; have hnc265 := NB188_192.out; have hcz266_0 : w259.cell? ⟨gb192, 0, none⟩ = some (.slice Ao41 y189.length co41) := (zL BK192.out 0).trans rfl; have hcz266_1 : w259.cell? ⟨gb192, 1, none⟩ = some (.int .i64 x193001_55) := (zL BK192.out 1).trans rfl; have hcz266_2 : w259.cell? ⟨gb192, 2, none⟩ = some (u193002) := (zL BK192.out 2).trans rfl; have hfz266_0 := zF BK192.out 0; have hfz266_1 := zF BK192.out 1; have hfz266_2 := zF BK192.out 2) | (clear tk267; (first | go_ret | go_ret2 | go_ret3 | go_end0); with_reducible refine inl_back_ ?_))
                     try clear hcz266_0
                     try clear hcz266_1
                     try clear hcz266_2
                     try clear hfz266_0
                     try clear hfz266_1
                     try clear hfz266_2
                     try clear hnb263
                     try clear hnb264
                     try clear hnb265
                     try clear hnc263
                     try clear hnc264
                     try clear hnc265
                     have H' := zM H
                     clear H
                     go_wp2
                     go_roundg kj158
                     case measure => have := HJ9.out; have := HK2.out; have := HJ55.out; have := HJ121.out; have := HJ158.out; omega
                     case rel => exact ⟨(wrap64 (x8_2 + 1)), (x9_158), (wrap64 (x55_2 + 1)), (x188001_55), (4), (x193002_2), (u193002), (by first | rfl | (simp; done) | (simp [*]; done) | (simp; grind)), (by first | rfl | (simp; done) | (simp [*]; done) | (simp; grind)), H', ⟨by have := HJ9.out; have := HK2.out; have := HJ55.out; have := HJ121.out; have := HJ158.out; omega⟩, ⟨by (with_reducible repeat (first | apply Kd.V_alloc | apply Kd.V_drewN | apply Kd.V_drew)); exact Kd.V_mono (Kd.V_far (p := ⟨gb192, 1, none⟩) (Kd.V_mono HO_2.out (fun k_ hk => (⟨hk, hk.1.2.2.2.2.2.2⟩ : _ ∧ k_ ≠ gb192))) (fun _ hk => hk.2) (.int .i64 4)) (fun _ hk => ⟨hk.1.1.1, ⟨hk.1.1.2.1, ⟨hk.1.1.2.2.1, ⟨hk.1.1.2.2.2.1, ⟨hk.1.1.2.2.2.2.1, ⟨hk.1.1.2.2.2.2.2.1, hk.1.1.2.2.2.2.2.2⟩⟩⟩⟩⟩⟩)⟩, ⟨by (with_reducible repeat (first | apply Kd.V_alloc | apply Kd.V_drewN | apply Kd.V_drew)); exact Kd.V_mono (Kd.V_far (p := ⟨gb192, 1, none⟩) (Kd.V_mono HO_9.out (fun k_ hk => (⟨hk, hk.1.2.2.2.2.2.2⟩ : _ ∧ k_ ≠ gb192))) (fun _ hk => hk.2) (.int .i64 4)) (fun _ hk => ⟨hk.1.1.1, ⟨hk.1.1.2.1, ⟨hk.1.1.2.2.1, ⟨hk.1.1.2.2.2.1, ⟨hk.1.1.2.2.2.2.1, ⟨hk.1.1.2.2.2.2.2.1, hk.1.1.2.2.2.2.2.2⟩⟩⟩⟩⟩⟩)⟩, ⟨by (with_reducible repeat (first | apply Kd.V_alloc | apply Kd.V_drewN | apply Kd.V_drew)); exact Kd.V_mono (Kd.V_far (p := ⟨gb192, 1, none⟩) (Kd.V_mono HO_53.out (fun k_ hk => (⟨hk, hk.1.2.2.2.2.2.2⟩ : _ ∧ k_ ≠ gb192))) (fun _ hk => hk.2) (.int .i64 4)) (fun _ hk => ⟨hk.1.1.1, ⟨hk.1.1.2.1, ⟨hk.1.1.2.2.1, ⟨hk.1.1.2.2.2.1, ⟨hk.1.1.2.2.2.2.1, ⟨hk.1.1.2.2.2.2.2.1, hk.1.1.2.2.2.2.2.2⟩⟩⟩⟩⟩⟩)⟩, ⟨by (with_reducible repeat (first | apply Kd.R_alloc | apply Kd.R_drewN | apply Kd.R_drew)); exact Kd.R_mono (Kd.R_far (p := ⟨gb192, 1, none⟩) (Kd.R_types HO_193000.out BK192.out (by decide)) (fun _ hk => hk.2) (.int .i64 4)) (fun _ hk => ⟨hk.1.1.1, ⟨hk.1.1.2.1, hk.1.1.2.2⟩⟩)⟩, ⟨by (with_reducible repeat (first | apply Kd.R_alloc | apply Kd.R_drewN | apply Kd.R_drew)); exact Kd.R_mono (Kd.R_far (p := ⟨gb192, 1, none⟩) (Kd.R_types HO_193002.out BK192.out (by decide)) (fun _ hk => hk.2) (.int .i64 4)) (fun _ hk => ⟨hk.1.1.1, ⟨hk.1.1.2.1, hk.1.1.2.2⟩⟩)⟩, ⟨blf_⟩, ⟨blf_⟩, ⟨blf_⟩, ⟨by (with_reducible repeat (first | refine zN ?_ _ | refine zD ?_ | refine zA ?_ _)); refine blk_put (cs := #[.slice Ao41 y189.length co41, .int .i64 x193001_55, u193002]) ?_ 1 _ rfl; (with_reducible repeat (first | refine zN ?_ _ | refine zD ?_ | refine zA ?_ _)); exact BK192.out⟩, ⟨bel_⟩⟩
     case rest => as_aux_lemma =>
      clear HC48
      try clear c2
      try clear c7
      try clear c11
      try clear c11b0
      try clear c11b1
      try clear c12
      try clear c12b0
      try clear c14
      try clear c14b0
      try clear c17
      try clear c25
      try clear c49
      try clear c49b0
      try clear c50
      try clear c50b0
      try clear c51
      try clear c51b0
      try clear c53
      try clear c53b0
      try clear c53b1
      try clear c57
      try clear c57b0
      try clear c57b1
      try clear c64
      try clear c64b0
      try clear c64b1
      try clear c71
      try clear c71b0
      try clear c71b1
      try clear c78
      try clear c78b0
      try clear c78b1
      try clear c79
      try clear c79b0
      try clear c79b1
      try clear c80
      try clear c80b0
      try clear c80b1
      try clear c80b2
      try clear c121
      try clear c123
      try clear c123b0
      try clear c123b1
      try clear c124
      try clear c124b0
      try clear c124b1
      try clear c126
      try clear c127
      try clear c127b0
      try clear c127b1
      try clear c127b2
      try clear c128
      try clear c128b0
      try clear c128b1
      try clear c129
      try clear c129b0
      try clear c129b1
      try clear c146
      try clear c146b0
      try clear c146b1
      try clear c146b2
      try clear c147
      try clear c147b0
      try clear c147b1
      try clear c148
      try clear c148b0
      try clear c148b1
      try clear c158
      try clear c160
      try clear c160b0
      try clear c160b1
      try clear c161
      try clear c162
      try clear c162b0
      try clear c162b1
      try clear c164
      try clear c164b0
      try clear c164b1
      try clear c164b2
      try clear c165
      try clear c165b0
      try clear c165b1
      try clear p196
      try clear q196
      try clear c200
      try clear c200b0
      try clear c200b1
      try clear c202
      try clear c202b0
      try clear c202b1
      try clear c202b2
      try clear c203
      try clear c203b0
      try clear c203b1
      try clear p208
      try clear q208
      try clear p209
      try clear q209
      try clear c238
      try clear c238b0
      try clear c238b1
      try clear c239
      try clear c239b0
      try clear c239b1
      try clear c255
      try clear c255b0
      try clear c255b1
      try clear hcz100_0
      try clear hcz100_1
      try clear hcz100_2
      try clear hcz114_0
      try clear hcz114_1
      try clear hcz114_2
      try clear hcz136_0
      try clear hcz136_1
      try clear hcz136_2
      try clear hcz13_0
      try clear hcz13_1
      try clear hcz13_2
      try clear hcz154_0
      try clear hcz154_1
      try clear hcz154_2
      try clear hcz15_0
      try clear hcz15_1
      try clear hcz15_2
      try clear hcz176_0
      try clear hcz176_1
      try clear hcz176_2
      try clear hcz180_0
      try clear hcz180_1
      try clear hcz180_2
      try clear hcz18_0
      try clear hcz18_1
      try clear hcz18_2
      try clear hcz194_0
      try clear hcz194_1
      try clear hcz194_2
      try clear hcz198_0
      try clear hcz198_1
      try clear hcz198_2
      try clear hcz214_0
      try clear hcz214_1
      try clear hcz214_2
      try clear hcz218_0
      try clear hcz218_1
      try clear hcz218_2
      try clear hcz21_0
      try clear hcz21_1
      try clear hcz21_2
      try clear hcz22_0
      try clear hcz22_1
      try clear hcz22_2
      try clear hcz232_0
      try clear hcz232_1
      try clear hcz232_2
      try clear hcz236_0
      try clear hcz236_1
      try clear hcz236_2
      try clear hcz250_0
      try clear hcz250_1
      try clear hcz250_2
      try clear hcz266_0
      try clear hcz266_1
      try clear hcz266_2
      try clear hcz278_0
      try clear hcz278_1
      try clear hcz278_2
      try clear hcz31_0
      try clear hcz31_1
      try clear hcz31_2
      try clear hcz37_0
      try clear hcz37_1
      try clear hcz62_0
      try clear hcz62_1
      try clear hcz62_2
      try clear hcz69_0
      try clear hcz69_1
      try clear hcz69_2
      try clear hcz76_0
      try clear hcz76_1
      try clear hcz76_2
      try clear hcz86_0
      try clear hcz86_1
      try clear hcz86_2
      try clear hfz100_0
      try clear hfz100_1
      try clear hfz100_2
      try clear hfz114_0
      try clear hfz114_1
      try clear hfz114_2
      try clear hfz136_0
      try clear hfz136_1
      try clear hfz136_2
      try clear hfz13_0
      try clear hfz13_1
      try clear hfz13_2
      try clear hfz154_0
      try clear hfz154_1
      try clear hfz154_2
      try clear hfz15_0
      try clear hfz15_1
      try clear hfz15_2
      try clear hfz176_0
      try clear hfz176_1
      try clear hfz176_2
      try clear hfz180_0
      try clear hfz180_1
      try clear hfz180_2
      try clear hfz18_0
      try clear hfz18_1
      try clear hfz18_2
      try clear hfz194_0
      try clear hfz194_1
      try clear hfz194_2
      try clear hfz198_0
      try clear hfz198_1
      try clear hfz198_2
      try clear hfz214_0
      try clear hfz214_1
      try clear hfz214_2
      try clear hfz218_0
      try clear hfz218_1
      try clear hfz218_2
      try clear hfz21_0
      try clear hfz21_1
      try clear hfz21_2
      try clear hfz22_0
      try clear hfz22_1
      try clear hfz22_2
      try clear hfz232_0
      try clear hfz232_1
      try clear hfz232_2
      try clear hfz236_0
      try clear hfz236_1
      try clear hfz236_2
      try clear hfz250_0
      try clear hfz250_1
      try clear hfz250_2
      try clear hfz266_0
      try clear hfz266_1
      try clear hfz266_2
      try clear hfz278_0
      try clear hfz278_1
      try clear hfz278_2
      try clear hfz31_0
      try clear hfz31_1
      try clear hfz31_2
      try clear hfz37_0
      try clear hfz37_1
      try clear hfz62_0
      try clear hfz62_1
      try clear hfz62_2
      try clear hfz69_0
      try clear hfz69_1
      try clear hfz69_2
      try clear hfz76_0
      try clear hfz76_1
      try clear hfz76_2
      try clear hfz86_0
      try clear hfz86_1
      try clear hfz86_2
      try clear hx196_0
      try clear hx208_0
      try clear hx208_1
      try clear hx208_2
      try clear hx209_0
      try clear hx209_1
      try clear hx209_2
      try clear p196
      try clear p208
      try clear p209
      try clear q196
      try clear q208
      try clear q209
      obtain ⟨kq, x8_47, x188001_47, x193001_47, x193002_47, u193002, rfl, HA, HJ47, HO_2, HO_193000, HO_193002, BK184, BK187, BK188, BK192, HB⟩ := hcut
      cases kq with
      | zero => exact absurd HA.out (by simp [ropewaylaw15_SnapEnds_t.j5])
      | succ kj47 =>
       have H := HA.out
       clear HA
       simp only [ropewaylaw15_SnapEnds_t.j5] at H
       have HC282 := zM H
       clear H
       go_upto_region 24 with (fail)
       go_cut [17] (fun v17 wc => ∃ (kq : Nat) (x17_281 : Bool) (x188001_281 : Int) (x193001_281 : Int), v17 = .bool x17_281 ∧ Aside0 (ropewaylaw15_SnapEnds_t.j6 kq l2 x8_47 x17_281 = some r) ∧ Aside0 (kq ≤ kj47) ∧ Aside0 (Kd.V (Kd.slice 34 k34) 27 wc w.heap.size (fun k_ => (P2_ k_ ∨ w.heap.size ≤ k_) ∧ some k_ ≠ ((.slice Ao41 y189.length co41) : Value).ownBlock ∧ some k_ ≠ (u193002 : Value).ownBlock ∧ k_ ≠ gb184 ∧ k_ ≠ gb187 ∧ k_ ≠ gb188 ∧ k_ ≠ gb192) (.slice A2 l2.length c2) l2) ∧ Aside0 (Kd.R k34 34 wc w.heap.size (fun k_ => (w.heap.size ≤ k_) ∧ some k_ ≠ (u193002 : Value).ownBlock ∧ k_ ≠ gb184) (.slice Ao41 y189.length co41) y189) ∧ Aside0 (Kd.R k34 34 wc w.heap.size (fun k_ => (w.heap.size ≤ k_) ∧ some k_ ≠ ((.slice Ao41 y189.length co41) : Value).ownBlock ∧ k_ ≠ gb184) u193002 x193002_47) ∧ Aside0 (wc.heap[gb184]? = some (.cells #[.int .i64 a1_0, .int .i64 a1_1, .int .i64 a1_2] 34 (0, 0))) ∧ Aside0 (wc.heap[gb187]? = some (.cells #[(.slice none 0 0), .int .i64 x188001_281, (.slice none 0 0)] 61 (0, 0))) ∧ Aside0 (wc.heap[gb188]? = some (.cells #[.int .i64 a1_1, .int .i64 a1_2] 26 (0, 0))) ∧ Aside0 (wc.heap[gb192]? = some (.cells #[(.slice Ao41 y189.length co41), .int .i64 x193001_281, u193002] 61 (0, 0))) ∧ Aside0 (Below w.heap.size w wc))
       case first => as_aux_lemma =>
        have H := HC282.out
        clear HC282
        by_cases c283 : x193001_47 = 4
        · rw [if_pos c283] at H
          have c283b0 : (x193001_47 == 4) = true := beq_iff_eq.mpr c283
          have c283b1 : (x193001_47 != 4) = false := bne_eq_false_iff_eq.mpr c283
          clear c283
          (first | rw [c283b0] | (simp only [i64_w, i32_w]; rw [c283b0]) | skip)
          have H' := zM H
          clear H
          have tk284 : True := trivial
          have tk289 : True := trivial
          go_wp2_with (first | ((with_reducible refine gate_callee (f := 9) rfl ?_); clear tk284; refine goL_ (some 121) Try.func9 #[.pointer (some ⟨gb192, 0, none⟩)] ?_; go_enter Try.func9, Try.ntmps9; have hnb285 := NB192_184.out; have hnc285 := NB184_192.out; have hnb286 := NB192_187.out; have hnc286 := NB187_192.out; have hnb287 := NB192_188.out; have hnc287 := NB188_192.out; have hcz288_0 : wc.cell? ⟨gb192, 0, none⟩ = some (.slice Ao41 y189.length co41) := (zL BK192.out 0).trans rfl; have hcz288_1 : wc.cell? ⟨gb192, 1, none⟩ = some (.int .i64 x193001_47) := (zL BK192.out 1).trans rfl; have hcz288_2 : wc.cell? ⟨gb192, 2, none⟩ = some (u193002) := (zL BK192.out 2).trans rfl; have hfz288_0 := zF BK192.out 0; have hfz288_1 := zF BK192.out 1; have hfz288_2 := zF BK192.out 2) | (clear tk289; (first | go_ret | go_ret2 | go_ret3 | go_end0); with_reducible refine inl_back_ ?_))
          go_meet
          case rel => exact ⟨_, (false), (x188001_47), (x193001_47), (by first | rfl | (simp; done) | (simp [*]; done) | (simp; grind)), H', ⟨by have := HJ9.out; have := HJ47.out; first | omega | exact Nat.le_refl _⟩, ⟨rv_ HO_2⟩, ⟨by (with_reducible repeat (first | apply Kd.R_alloc | apply Kd.R_drewN | apply Kd.R_drew)); exact HO_193000.out⟩, ⟨by (with_reducible repeat (first | apply Kd.R_alloc | apply Kd.R_drewN | apply Kd.R_drew)); exact HO_193002.out⟩, ⟨blf_⟩, ⟨blf_⟩, ⟨blf_⟩, ⟨blf_⟩, ⟨bel_⟩⟩
        rw [if_neg c283] at H
        have c283b0 : (x193001_47 == 4) = false := beq_eq_false_iff_ne.mpr c283
        have c283b1 : (x193001_47 != 4) = true := bne_iff_ne.mpr c283
        (first | rw [c283b0] | (simp only [i64_w, i32_w]; rw [c283b0]) | skip)
        by_cases c290 : x193001_47 = 0
        · rw [if_pos c290] at H
          have c290b0 : (x193001_47 == 0) = true := beq_iff_eq.mpr c290
          have c290b1 : (x193001_47 != 0) = false := bne_eq_false_iff_eq.mpr c290
          clear c290
          have H' := zM H
          clear H
          have tk291 : True := trivial
          have tk296 : True := trivial
          go_wp2_with (first | ((with_reducible refine gate_callee (f := 9) rfl ?_); clear tk291; refine goL_ (some 121) Try.func9 #[.pointer (some ⟨gb192, 0, none⟩)] ?_; go_enter Try.func9, Try.ntmps9; have hnb292 := NB192_184.out; have hnc292 := NB184_192.out; have hnb293 := NB192_187.out; have hnc293 := NB187_192.out; have hnb294 := NB192_188.out; have hnc294 := NB188_192.out; have hcz295_0 : wc.cell? ⟨gb192, 0, none⟩ = some (.slice Ao41 y189.length co41) := (zL BK192.out 0).trans rfl; have hcz295_1 : wc.cell? ⟨gb192, 1, none⟩ = some (.int .i64 x193001_47) := (zL BK192.out 1).trans rfl; have hcz295_2 : wc.cell? ⟨gb192, 2, none⟩ = some (u193002) := (zL BK192.out 2).trans rfl; have hfz295_0 := zF BK192.out 0; have hfz295_1 := zF BK192.out 1; have hfz295_2 := zF BK192.out 2) | (clear tk296; (first | go_ret | go_ret2 | go_ret3 | go_end0); with_reducible refine inl_back_ ?_))
          go_meet
          case rel => exact ⟨_, (true), (x188001_47), (x193001_47), (by first | rfl | (simp; done) | (simp [*]; done) | (simp; grind)), H', ⟨by have := HJ9.out; have := HJ47.out; first | omega | exact Nat.le_refl _⟩, ⟨rv_ HO_2⟩, ⟨by (with_reducible repeat (first | apply Kd.R_alloc | apply Kd.R_drewN | apply Kd.R_drew)); exact HO_193000.out⟩, ⟨by (with_reducible repeat (first | apply Kd.R_alloc | apply Kd.R_drewN | apply Kd.R_drew)); exact HO_193002.out⟩, ⟨blf_⟩, ⟨blf_⟩, ⟨blf_⟩, ⟨blf_⟩, ⟨bel_⟩⟩
        rw [if_neg c290] at H
        have c290b0 : (x193001_47 == 0) = false := beq_eq_false_iff_ne.mpr c290
        have c290b1 : (x193001_47 != 0) = true := bne_iff_ne.mpr c290
        by_cases c297 : x193001_47 = 2
        · rw [if_pos c297] at H
          have c297b0 : (x193001_47 == 2) = true := beq_iff_eq.mpr c297
          have c297b1 : (x193001_47 != 2) = false := bne_eq_false_iff_eq.mpr c297
          clear c297
          have H' := zM H
          clear H
          have tk298 : True := trivial
          have tk303 : True := trivial
          go_wp2_with (first | ((with_reducible refine gate_callee (f := 9) rfl ?_); clear tk298; refine goL_ (some 121) Try.func9 #[.pointer (some ⟨gb192, 0, none⟩)] ?_; go_enter Try.func9, Try.ntmps9; have hnb299 := NB192_184.out; have hnc299 := NB184_192.out; have hnb300 := NB192_187.out; have hnc300 := NB187_192.out; have hnb301 := NB192_188.out; have hnc301 := NB188_192.out; have hcz302_0 : wc.cell? ⟨gb192, 0, none⟩ = some (.slice Ao41 y189.length co41) := (zL BK192.out 0).trans rfl; have hcz302_1 : wc.cell? ⟨gb192, 1, none⟩ = some (.int .i64 x193001_47) := (zL BK192.out 1).trans rfl; have hcz302_2 : wc.cell? ⟨gb192, 2, none⟩ = some (u193002) := (zL BK192.out 2).trans rfl; have hfz302_0 := zF BK192.out 0; have hfz302_1 := zF BK192.out 1; have hfz302_2 := zF BK192.out 2) | (clear tk303; (first | go_ret | go_ret2 | go_ret3 | go_end0); with_reducible refine inl_back_ ?_))
          go_meet
          case rel => exact ⟨_, (true), (x188001_47), (x193001_47), (by first | rfl | (simp; done) | (simp [*]; done) | (simp; grind)), H', ⟨by have := HJ9.out; have := HJ47.out; first | omega | exact Nat.le_refl _⟩, ⟨rv_ HO_2⟩, ⟨by (with_reducible repeat (first | apply Kd.R_alloc | apply Kd.R_drewN | apply Kd.R_drew)); exact HO_193000.out⟩, ⟨by (with_reducible repeat (first | apply Kd.R_alloc | apply Kd.R_drewN | apply Kd.R_drew)); exact HO_193002.out⟩, ⟨blf_⟩, ⟨blf_⟩, ⟨blf_⟩, ⟨blf_⟩, ⟨bel_⟩⟩
        rw [if_neg c297] at H
        have c297b0 : (x193001_47 == 2) = false := beq_eq_false_iff_ne.mpr c297
        have c297b1 : (x193001_47 != 2) = true := bne_iff_ne.mpr c297
        by_cases c304 : x193001_47 = 1
        rotate_left
        · rw [if_neg c304] at H
          have c304b0 : (x193001_47 == 1) = false := beq_eq_false_iff_ne.mpr c304
          have c304b1 : (x193001_47 != 1) = true := bne_iff_ne.mpr c304
          replace H := Option.bind_eq_some_iff.mp H
          obtain ⟨t228, A3350, H⟩ := H
          replace H : (ropewaylaw15_SnapEnds_t.j6 kj47 l2 x8_47 true) = some r := H
          have A335 := zM A3350
          clear A3350
          have H' := zM H
          clear H
          have tk336 : True := trivial
          have tk341 : True := trivial
          have tk342 : True := trivial
          have tk345 : True := trivial
          have tk346 : True := trivial
          go_wp2_with (first | ((with_reducible refine gate_callee (f := 9) rfl ?_); clear tk336; refine goL_ (some 121) Try.func9 #[.pointer (some ⟨gb192, 0, none⟩)] ?_; go_enter Try.func9, Try.ntmps9; have hnb337 := NB192_184.out; have hnc337 := NB184_192.out; have hnb338 := NB192_187.out; have hnc338 := NB187_192.out; have hnb339 := NB192_188.out; have hnc339 := NB188_192.out; have hcz340_0 : wc.cell? ⟨gb192, 0, none⟩ = some (.slice Ao41 y189.length co41) := (zL BK192.out 0).trans rfl; have hcz340_1 : wc.cell? ⟨gb192, 1, none⟩ = some (.int .i64 x193001_47) := (zL BK192.out 1).trans rfl; have hcz340_2 : wc.cell? ⟨gb192, 2, none⟩ = some (u193002) := (zL BK192.out 2).trans rfl; have hfz340_0 := zF BK192.out 0; have hfz340_1 := zF BK192.out 1; have hfz340_2 := zF BK192.out 2) | ((with_reducible refine gate_callee (f := 11) rfl ?_); clear tk341; refine goL_ (some 24) Try.func11 #[.pointer (some ⟨gb192, 0, none⟩)] ?_; go_enter Try.func11, Try.ntmps11) | (clear tk342; (first | go_ret | go_ret2 | go_ret3 | go_end0); with_reducible refine inl_back_ ?_; obtain ⟨Ao343, co343, eo343⟩ := Kd.R_slice HO_193002.out; subst eo343) | (go_at_call 25; (with_reducible refine (api_Cell.calls _ _ x193002_47 t228 _ ?side1 ?side2 A335.out).mono ?_); (case side1 => repeat (first | exact (Kd.R_reads' HO_193002.out).2.2 | (with_reducible refine Kd.C_alloc ?_ _) | (with_reducible refine Kd.C_drewN ?_ _) | (with_reducible refine Kd.C_drew ?_))); (case side2 => exact (Kd.R_reads' HO_193002.out).2.1); clear tk345; rintro e w344 ⟨v229, rfl, ho0, hb⟩; replace HO_2 := zM (Kd.V_elder' (rv_ HO_2) (Kd.R_base ho0) hb); have HO230 := zM (Kd.R_lower (Kd.R_newB (Kd.R_new' (Kd.R_new' (Kd.R_newM (M := fun k_ => (w.heap.size ≤ k_)) ho0 (below_size bel_) (fun k_ h_ => h_)) (Kd.R_lt (rl_ HO_193000))) (Kd.R_lt (rl_ HO_193002))) (g := gb184) (o := .cells #[.int .i64 a1_0, .int .i64 a1_1, .int .i64 a1_2] 34 (0, 0)) blk_) (below_size bel_)); replace HO_193000 := zM (Kd.R_elder' (rl_ HO_193000) (Kd.R_base ho0) hb); replace HO_193002 := zM (Kd.R_elder' (rl_ HO_193002) (Kd.R_base ho0) hb); replace BK184 := zM (bb_ BK184 hb); replace BK187 := zM (bb_ BK187 hb); replace BK188 := zM (bb_ BK188 hb); replace BK192 := zM (bb_ BK192 hb); replace HB := zM (zB bel_ hb); (try clear hb); (try clear ho0)) | (clear tk346; (first | go_ret | go_ret2 | go_ret3 | go_end0); with_reducible refine inl_back_ ?_))
          go_meet
          case rel => exact ⟨_, (true), (x188001_47), (x193001_47), (by first | rfl | (simp; done) | (simp [*]; done) | (simp; grind)), H', ⟨by have := HJ9.out; have := HJ47.out; first | omega | exact Nat.le_refl _⟩, ⟨by (with_reducible repeat (first | apply Kd.V_alloc | apply Kd.V_drewN | apply Kd.V_drew)); exact Kd.V_mono HO_2.out (fun _ hk => ⟨hk.1.1, ⟨hk.1.2.1, ⟨hk.1.2.2.1, ⟨hk.1.2.2.2.1, ⟨hk.1.2.2.2.2.1, ⟨hk.1.2.2.2.2.2.1, hk.1.2.2.2.2.2.2⟩⟩⟩⟩⟩⟩)⟩, ⟨by (with_reducible repeat (first | apply Kd.R_alloc | apply Kd.R_drewN | apply Kd.R_drew)); exact Kd.R_mono HO_193000.out (fun _ hk => ⟨hk.1.1, ⟨hk.1.2.1, hk.1.2.2⟩⟩)⟩, ⟨by (with_reducible repeat (first | apply Kd.R_alloc | apply Kd.R_drewN | apply Kd.R_drew)); exact Kd.R_mono HO_193002.out (fun _ hk => ⟨hk.1.1, ⟨hk.1.2.1, hk.1.2.2⟩⟩)⟩, ⟨blf_⟩, ⟨blf_⟩, ⟨blf_⟩, ⟨blf_⟩, ⟨bel_⟩⟩
        as_aux_lemma =>
         rw [if_pos c304] at H
         have c304b0 : (x193001_47 == 1) = true := beq_iff_eq.mpr c304
         have c304b1 : (x193001_47 != 1) = false := bne_eq_false_iff_eq.mpr c304
         clear c304
         by_cases c305 : (y189.length : Int) > 0
         rotate_left
         · rw [if_neg c305] at H
           exact absurd H (by simp)
         as_aux_lemma =>
          rw [if_pos c305] at H
          have c305b0 : decide (0 < (y189.length : Int)) = true := decide_eq_true c305
          have c305b1 : decide (0 < y189.length) = true := decide_eq_true (by omega)
          clear c305
          by_cases c306 : (x193002_47.length : Int) = 0
          · rw [if_pos c306] at H
            have c306b0 : ((x193002_47.length : Int) == 0) = true := beq_iff_eq.mpr c306
            have c306b1 : ((x193002_47.length : Int) != 0) = false := bne_eq_false_iff_eq.mpr c306
            clear c306
            replace H := Option.bind_eq_some_iff.mp H
            obtain ⟨t222, A3070, H⟩ := H
            replace H : (ropewaylaw15_SnapEnds_t.j6 kj47 l2 x8_47 true) = some r := H
            have A307 := zM A3070
            clear A3070
            have H' := zM H
            clear H
            have tk308 : True := trivial
            have tk313 : True := trivial
            have tk314 : True := trivial
            have tk315 : True := trivial
            have tk317 : True := trivial
            have tk319 : True := trivial
            have tk320 : True := trivial
            go_wp2_with (first | ((with_reducible refine gate_callee (f := 9) rfl ?_); clear tk308; refine goL_ (some 121) Try.func9 #[.pointer (some ⟨gb192, 0, none⟩)] ?_; go_enter Try.func9, Try.ntmps9; have hnb309 := NB192_184.out; have hnc309 := NB184_192.out; have hnb310 := NB192_187.out; have hnc310 := NB187_192.out; have hnb311 := NB192_188.out; have hnc311 := NB188_192.out; have hcz312_0 : wc.cell? ⟨gb192, 0, none⟩ = some (.slice Ao41 y189.length co41) := (zL BK192.out 0).trans rfl; have hcz312_1 : wc.cell? ⟨gb192, 1, none⟩ = some (.int .i64 x193001_47) := (zL BK192.out 1).trans rfl; have hcz312_2 : wc.cell? ⟨gb192, 2, none⟩ = some (u193002) := (zL BK192.out 2).trans rfl; have hfz312_0 := zF BK192.out 0; have hfz312_1 := zF BK192.out 1; have hfz312_2 := zF BK192.out 2) | ((with_reducible refine gate_callee (f := 11) rfl ?_); clear tk313; refine goL_ (some 24) Try.func11 #[.pointer (some ⟨gb192, 0, none⟩)] ?_; go_enter Try.func11, Try.ntmps11) | (go_at_call 26; clear tk314; go_enter Try.func26, Try.ntmps26) | (clear tk315; (first | go_ret | go_ret2 | go_ret3 | go_end0); simp only []; go_at_K; obtain ⟨Ao316, co316, eo316⟩ := Kd.R_slice HO_193002.out; subst eo316) | (clear tk317; (first | go_ret | go_ret2 | go_ret3 | go_end0); with_reducible refine inl_back_ ?_) | (go_at_call 25; (with_reducible refine (api_Cell.calls _ _ y189 t222 _ ?side1 ?side2 A307.out).mono ?_); (case side1 => repeat (first | exact (Kd.R_reads' HO_193000.out).2.2 | (with_reducible refine Kd.C_alloc ?_ _) | (with_reducible refine Kd.C_drewN ?_ _) | (with_reducible refine Kd.C_drew ?_))); (case side2 => exact (Kd.R_reads' HO_193000.out).2.1); clear tk319; rintro e w318 ⟨v223, rfl, ho0, hb⟩; replace HO_2 := zM (Kd.V_elder' (rv_ HO_2) (Kd.R_base ho0) hb); have HO224 := zM (Kd.R_lower (Kd.R_newB (Kd.R_new' (Kd.R_new' (Kd.R_newM (M := fun k_ => (w.heap.size ≤ k_)) ho0 (below_size bel_) (fun k_ h_ => h_)) (Kd.R_lt (rl_ HO_193000))) (Kd.R_lt (rl_ HO_193002))) (g := gb184) (o := .cells #[.int .i64 a1_0, .int .i64 a1_1, .int .i64 a1_2] 34 (0, 0)) blk_) (below_size bel_)); replace HO_193000 := zM (Kd.R_elder' (rl_ HO_193000) (Kd.R_base ho0) hb); replace HO_193002 := zM (Kd.R_elder' (rl_ HO_193002) (Kd.R_base ho0) hb); replace BK184 := zM (bb_ BK184 hb); replace BK187 := zM (bb_ BK187 hb); replace BK188 := zM (bb_ BK188 hb); replace BK192 := zM (bb_ BK192 hb); replace HB := zM (zB bel_ hb); (try clear hb); (try clear ho0)) | (clear tk320; (first | go_ret | go_ret2 | go_ret3 | go_end0); with_reducible refine inl_back_ ?_))
            go_meet
            case rel => exact ⟨_, (true), (x188001_47), (x193001_47), (by first | rfl | (simp; done) | (simp [*]; done) | (simp; grind)), H', ⟨by have := HJ9.out; have := HJ47.out; first | omega | exact Nat.le_refl _⟩, ⟨by (with_reducible repeat (first | apply Kd.V_alloc | apply Kd.V_drewN | apply Kd.V_drew)); exact Kd.V_mono HO_2.out (fun _ hk => ⟨hk.1.1, ⟨hk.1.2.1, ⟨hk.1.2.2.1, ⟨hk.1.2.2.2.1, ⟨hk.1.2.2.2.2.1, ⟨hk.1.2.2.2.2.2.1, hk.1.2.2.2.2.2.2⟩⟩⟩⟩⟩⟩)⟩, ⟨by (with_reducible repeat (first | apply Kd.R_alloc | apply Kd.R_drewN | apply Kd.R_drew)); exact Kd.R_mono HO_193000.out (fun _ hk => ⟨hk.1.1, ⟨hk.1.2.1, hk.1.2.2⟩⟩)⟩, ⟨by (with_reducible repeat (first | apply Kd.R_alloc | apply Kd.R_drewN | apply Kd.R_drew)); exact Kd.R_mono HO_193002.out (fun _ hk => ⟨hk.1.1, ⟨hk.1.2.1, hk.1.2.2⟩⟩)⟩, ⟨blf_⟩, ⟨blf_⟩, ⟨blf_⟩, ⟨blf_⟩, ⟨bel_⟩⟩
          rw [if_neg c306] at H
          have c306b0 : ((x193002_47.length : Int) == 0) = false := beq_eq_false_iff_ne.mpr c306
          have c306b1 : ((x193002_47.length : Int) != 0) = true := bne_iff_ne.mpr c306
          have c306b2 : ¬ (x193002_47 = []) := fun h_ => c306 (by rw [h_]; rfl)
          replace H := Option.bind_eq_some_iff.mp H
          obtain ⟨t225, A3210, H⟩ := H
          replace H : (ropewaylaw15_SnapEnds_t.j6 kj47 l2 x8_47 true) = some r := H
          have A321 := zM A3210
          clear A3210
          have H' := zM H
          clear H
          have tk322 : True := trivial
          have tk327 : True := trivial
          have tk328 : True := trivial
          have tk329 : True := trivial
          have tk331 : True := trivial
          have tk333 : True := trivial
          have tk334 : True := trivial
          go_wp2_with (first | ((with_reducible refine gate_callee (f := 9) rfl ?_); clear tk322; refine goL_ (some 121) Try.func9 #[.pointer (some ⟨gb192, 0, none⟩)] ?_; go_enter Try.func9, Try.ntmps9; have hnb323 := NB192_184.out; have hnc323 := NB184_192.out; have hnb324 := NB192_187.out; have hnc324 := NB187_192.out; have hnb325 := NB192_188.out; have hnc325 := NB188_192.out; have hcz326_0 : wc.cell? ⟨gb192, 0, none⟩ = some (.slice Ao41 y189.length co41) := (zL BK192.out 0).trans rfl; have hcz326_1 : wc.cell? ⟨gb192, 1, none⟩ = some (.int .i64 x193001_47) := (zL BK192.out 1).trans rfl; have hcz326_2 : wc.cell? ⟨gb192, 2, none⟩ = some (u193002) := (zL BK192.out 2).trans rfl; have hfz326_0 := zF BK192.out 0; have hfz326_1 := zF BK192.out 1; have hfz326_2 := zF BK192.out 2) | ((with_reducible refine gate_callee (f := 11) rfl ?_); clear tk327; refine goL_ (some 24) Try.func11 #[.pointer (some ⟨gb192, 0, none⟩)] ?_; go_enter Try.func11, Try.ntmps11) | (go_at_call 26; clear tk328; go_enter Try.func26, Try.ntmps26) | (clear tk329; (first | go_ret | go_ret2 | go_ret3 | go_end0); simp only []; go_at_K; obtain ⟨Ao330, co330, eo330⟩ := Kd.R_slice HO_193002.out; subst eo330) | (clear tk331; (first | go_ret | go_ret2 | go_ret3 | go_end0); with_reducible refine inl_back_ ?_) | (go_at_call 25; (with_reducible refine (api_Cell.calls _ _ x193002_47 t225 _ ?side1 ?side2 A321.out).mono ?_); (case side1 => repeat (first | exact (Kd.R_reads' HO_193002.out).2.2 | (with_reducible refine Kd.C_alloc ?_ _) | (with_reducible refine Kd.C_drewN ?_ _) | (with_reducible refine Kd.C_drew ?_))); (case side2 => exact (Kd.R_reads' HO_193002.out).2.1); clear tk333; rintro e w332 ⟨v226, rfl, ho0, hb⟩; replace HO_2 := zM (Kd.V_elder' (rv_ HO_2) (Kd.R_base ho0) hb); have HO227 := zM (Kd.R_lower (Kd.R_newB (Kd.R_new' (Kd.R_new' (Kd.R_newM (M := fun k_ => (w.heap.size ≤ k_)) ho0 (below_size bel_) (fun k_ h_ => h_)) (Kd.R_lt (rl_ HO_193000))) (Kd.R_lt (rl_ HO_193002))) (g := gb184) (o := .cells #[.int .i64 a1_0, .int .i64 a1_1, .int .i64 a1_2] 34 (0, 0)) blk_) (below_size bel_)); replace HO_193000 := zM (Kd.R_elder' (rl_ HO_193000) (Kd.R_base ho0) hb); replace HO_193002 := zM (Kd.R_elder' (rl_ HO_193002) (Kd.R_base ho0) hb); replace BK184 := zM (bb_ BK184 hb); replace BK187 := zM (bb_ BK187 hb); replace BK188 := zM (bb_ BK188 hb); replace BK192 := zM (bb_ BK192 hb); replace HB := zM (zB bel_ hb); (try clear hb); (try clear ho0)) | (clear tk334; (first | go_ret | go_ret2 | go_ret3 | go_end0); with_reducible refine inl_back_ ?_))
          go_meet
          case rel => exact ⟨_, (true), (x188001_47), (x193001_47), (by first | rfl | (simp; done) | (simp [*]; done) | (simp; grind)), H', ⟨by have := HJ9.out; have := HJ47.out; first | omega | exact Nat.le_refl _⟩, ⟨by (with_reducible repeat (first | apply Kd.V_alloc | apply Kd.V_drewN | apply Kd.V_drew)); exact Kd.V_mono HO_2.out (fun _ hk => ⟨hk.1.1, ⟨hk.1.2.1, ⟨hk.1.2.2.1, ⟨hk.1.2.2.2.1, ⟨hk.1.2.2.2.2.1, ⟨hk.1.2.2.2.2.2.1, hk.1.2.2.2.2.2.2⟩⟩⟩⟩⟩⟩)⟩, ⟨by (with_reducible repeat (first | apply Kd.R_alloc | apply Kd.R_drewN | apply Kd.R_drew)); exact Kd.R_mono HO_193000.out (fun _ hk => ⟨hk.1.1, ⟨hk.1.2.1, hk.1.2.2⟩⟩)⟩, ⟨by (with_reducible repeat (first | apply Kd.R_alloc | apply Kd.R_drewN | apply Kd.R_drew)); exact Kd.R_mono HO_193002.out (fun _ hk => ⟨hk.1.1, ⟨hk.1.2.1, hk.1.2.2⟩⟩)⟩, ⟨blf_⟩, ⟨blf_⟩, ⟨blf_⟩, ⟨blf_⟩, ⟨bel_⟩⟩
       case rest => as_aux_lemma =>
        clear HC282
        try clear c2
        try clear c7
        try clear c11
        try clear c11b0
        try clear c11b1
        try clear c12
        try clear c12b0
        try clear c14
        try clear c14b0
        try clear c17
        try clear c25
        try clear c49
        try clear c49b0
        try clear c50
        try clear c50b0
        try clear c51
        try clear c51b0
        try clear c53
        try clear c53b0
        try clear c53b1
        try clear c57
        try clear c57b0
        try clear c57b1
        try clear c64
        try clear c64b0
        try clear c64b1
        try clear c71
        try clear c71b0
        try clear c71b1
        try clear c78
        try clear c78b0
        try clear c78b1
        try clear c79
        try clear c79b0
        try clear c79b1
        try clear c80
        try clear c80b0
        try clear c80b1
        try clear c80b2
        try clear c121
        try clear c123
        try clear c123b0
        try clear c123b1
        try clear c124
        try clear c124b0
        try clear c124b1
        try clear c126
        try clear c127
        try clear c127b0
        try clear c127b1
        try clear c127b2
        try clear c128
        try clear c128b0
        try clear c128b1
        try clear c129
        try clear c129b0
        try clear c129b1
        try clear c146
        try clear c146b0
        try clear c146b1
        try clear c146b2
        try clear c147
        try clear c147b0
        try clear c147b1
        try clear c148
        try clear c148b0
        try clear c148b1
        try clear c158
        try clear c160
        try clear c160b0
        try clear c160b1
        try clear c161
        try clear c162
        try clear c162b0
        try clear c162b1
        try clear c164
        try clear c164b0
        try clear c164b1
        try clear c164b2
        try clear c165
        try clear c165b0
        try clear c165b1
        try clear p196
        try clear q196
        try clear c200
        try clear c200b0
        try clear c200b1
        try clear c202
        try clear c202b0
        try clear c202b1
        try clear c202b2
        try clear c203
        try clear c203b0
        try clear c203b1
        try clear p208
        try clear q208
        try clear p209
        try clear q209
        try clear c238
        try clear c238b0
        try clear c238b1
        try clear c239
        try clear c239b0
        try clear c239b1
        try clear c255
        try clear c255b0
        try clear c255b1
        try clear c283
        try clear c283b0
        try clear c283b1
        try clear c290
        try clear c290b0
        try clear c290b1
        try clear c297
        try clear c297b0
        try clear c297b1
        try clear c304
        try clear c304b0
        try clear c304b1
        try clear c305
        try clear c305b0
        try clear c305b1
        try clear c306
        try clear c306b0
        try clear c306b1
        try clear c306b2
        try clear hcz100_0
        try clear hcz100_1
        try clear hcz100_2
        try clear hcz114_0
        try clear hcz114_1
        try clear hcz114_2
        try clear hcz136_0
        try clear hcz136_1
        try clear hcz136_2
        try clear hcz13_0
        try clear hcz13_1
        try clear hcz13_2
        try clear hcz154_0
        try clear hcz154_1
        try clear hcz154_2
        try clear hcz15_0
        try clear hcz15_1
        try clear hcz15_2
        try clear hcz176_0
        try clear hcz176_1
        try clear hcz176_2
        try clear hcz180_0
        try clear hcz180_1
        try clear hcz180_2
        try clear hcz18_0
        try clear hcz18_1
        try clear hcz18_2
        try clear hcz194_0
        try clear hcz194_1
        try clear hcz194_2
        try clear hcz198_0
        try clear hcz198_1
        try clear hcz198_2
        try clear hcz214_0
        try clear hcz214_1
        try clear hcz214_2
        try clear hcz218_0
        try clear hcz218_1
        try clear hcz218_2
        try clear hcz21_0
        try clear hcz21_1
        try clear hcz21_2
        try clear hcz22_0
        try clear hcz22_1
        try clear hcz22_2
        try clear hcz232_0
        try clear hcz232_1
        try clear hcz232_2
        try clear hcz236_0
        try clear hcz236_1
        try clear hcz236_2
        try clear hcz250_0
        try clear hcz250_1
        try clear hcz250_2
        try clear hcz266_0
        try clear hcz266_1
        try clear hcz266_2
        try clear hcz278_0
        try clear hcz278_1
        try clear hcz278_2
        try clear hcz288_0
        try clear hcz288_1
        try clear hcz288_2
        try clear hcz295_0
        try clear hcz295_1
        try clear hcz295_2
        try clear hcz302_0
        try clear hcz302_1
        try clear hcz302_2
        try clear hcz312_0
        try clear hcz312_1
        try clear hcz312_2
        try clear hcz31_0
        try clear hcz31_1
        try clear hcz31_2
        try clear hcz326_0
        try clear hcz326_1
        try clear hcz326_2
        try clear hcz340_0
        try clear hcz340_1
        try clear hcz340_2
        try clear hcz37_0
        try clear hcz37_1
        try clear hcz62_0
        try clear hcz62_1
        try clear hcz62_2
        try clear hcz69_0
        try clear hcz69_1
        try clear hcz69_2
        try clear hcz76_0
        try clear hcz76_1
        try clear hcz76_2
        try clear hcz86_0
        try clear hcz86_1
        try clear hcz86_2
        try clear hfz100_0
        try clear hfz100_1
        try clear hfz100_2
        try clear hfz114_0
        try clear hfz114_1
        try clear hfz114_2
        try clear hfz136_0
        try clear hfz136_1
        try clear hfz136_2
        try clear hfz13_0
        try clear hfz13_1
        try clear hfz13_2
        try clear hfz154_0
        try clear hfz154_1
        try clear hfz154_2
        try clear hfz15_0
        try clear hfz15_1
        try clear hfz15_2
        try clear hfz176_0
        try clear hfz176_1
        try clear hfz176_2
        try clear hfz180_0
        try clear hfz180_1
        try clear hfz180_2
        try clear hfz18_0
        try clear hfz18_1
        try clear hfz18_2
        try clear hfz194_0
        try clear hfz194_1
        try clear hfz194_2
        try clear hfz198_0
        try clear hfz198_1
        try clear hfz198_2
        try clear hfz214_0
        try clear hfz214_1
        try clear hfz214_2
        try clear hfz218_0
        try clear hfz218_1
        try clear hfz218_2
        try clear hfz21_0
        try clear hfz21_1
        try clear hfz21_2
        try clear hfz22_0
        try clear hfz22_1
        try clear hfz22_2
        try clear hfz232_0
        try clear hfz232_1
        try clear hfz232_2
        try clear hfz236_0
        try clear hfz236_1
        try clear hfz236_2
        try clear hfz250_0
        try clear hfz250_1
        try clear hfz250_2
        try clear hfz266_0
        try clear hfz266_1
        try clear hfz266_2
        try clear hfz278_0
        try clear hfz278_1
        try clear hfz278_2
        try clear hfz288_0
        try clear hfz288_1
        try clear hfz288_2
        try clear hfz295_0
        try clear hfz295_1
        try clear hfz295_2
        try clear hfz302_0
        try clear hfz302_1
        try clear hfz302_2
        try clear hfz312_0
        try clear hfz312_1
        try clear hfz312_2
        try clear hfz31_0
        try clear hfz31_1
        try clear hfz31_2
        try clear hfz326_0
        try clear hfz326_1
        try clear hfz326_2
        try clear hfz340_0
        try clear hfz340_1
        try clear hfz340_2
        try clear hfz37_0
        try clear hfz37_1
        try clear hfz62_0
        try clear hfz62_1
        try clear hfz62_2
        try clear hfz69_0
        try clear hfz69_1
        try clear hfz69_2
        try clear hfz76_0
        try clear hfz76_1
        try clear hfz76_2
        try clear hfz86_0
        try clear hfz86_1
        try clear hfz86_2
        try clear hx196_0
        try clear hx208_0
        try clear hx208_1
        try clear hx208_2
        try clear hx209_0
        try clear hx209_1
        try clear hx209_2
        try clear p196
        try clear p208
        try clear p209
        try clear q196
        try clear q208
        try clear q209
        obtain ⟨kq, x17_281, x188001_281, x193001_281, rfl, HA, HJ281, HO_2, HO_193000, HO_193002, BK184, BK187, BK188, BK192, HB⟩ := hcut
        cases kq with
        | zero => exact absurd HA.out (by simp [ropewaylaw15_SnapEnds_t.j6])
        | succ kj281 =>
         have H := HA.out
         clear HA
         simp only [ropewaylaw15_SnapEnds_t.j6] at H
         by_cases c347 : x17_281 = true
         rotate_left
         · replace c347 := Bool.eq_false_iff.mpr c347
           subst c347
           have H1 : (some (x8_47 == 2)) = some r := by rw [if_neg (show ¬ (false = true) by decide)] at H; exact H
           clear H
           have H := H1
           clear H1
           obtain rfl := Option.some.inj H
           go_wp2
           go_ret
           exact ⟨by first | rfl | (simp [errW_none, errW_some] <;> rfl) | (simp [*, errW_none, errW_some] <;> rfl), bel_⟩
         subst c347
         have H1 : (if (l2.length : Int) = x8_47 then (some (decide (x8_47 < 4))) else (some false)) = some r := by rw [if_pos rfl] at H; exact H
         clear H
         have H := H1
         clear H1
         by_cases c348 : (l2.length : Int) = x8_47
         rotate_left
         · rw [if_neg c348] at H
           have c348b0 : ((l2.length : Int) == x8_47) = false := beq_eq_false_iff_ne.mpr c348
           have c348b1 : ((l2.length : Int) != x8_47) = true := bne_iff_ne.mpr c348
           exact absurd (Option.some.inj H) (by rw [hr1_.out]; decide)
         rw [if_pos c348] at H
         have c348b0 : ((l2.length : Int) == x8_47) = true := beq_iff_eq.mpr c348
         have c348b1 : ((l2.length : Int) != x8_47) = false := bne_eq_false_iff_eq.mpr c348
         clear c348
         obtain rfl := Option.some.inj H
         go_wp2
         go_ret
         exact ⟨by first | rfl | (simp [errW_none, errW_some] <;> rfl) | (simp [*, errW_none, errW_some] <;> rfl), bel_⟩

end Go.Proofs.Ytoelfknhnmhlmaa.PSnapEnds
