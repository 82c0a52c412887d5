/- Written by a program of this session (wip/tool/px.py) over the kit's print: what the code that the law FrontSteps reaches computes, function by function, and the law's row. -/
import Derived.Test.YtjfmhahlmnnacaaPFrontStepsx0
import Derived.Test.YtjfmhahlmnnacaaPFrontStepsx1
import Derived.Test.YtjfmhahlmnnacaaPFrontStepsx2
import Derived.Test.YtjfmhahlmnnacaaPFrontStepsx4
import Derived.Test.YtjfmhahlmnnacaaPFrontStepsx5
import Derived.Test.YtjfmhahlmnnacaaPFrontStepsx6
import Derived.Test.YtjfmhahlmnnacaaPFrontStepsx7
import Derived.Test.YtjfmhahlmnnacaaPFrontStepsx10
import Derived.Test.YtjfmhahlmnnacaaPFrontStepsx11
namespace Go.Proofs.Ytjfmhahlmnnacaa.PFrontSteps
open Go.RowKit Go.Proofs.YtjfmhahlmnnacaaX Go.Proofs.YtjfmhahlmnnacaaW.PrintWords Go.Proofs.YtjfmhahlmnnacaaW.PrintLast Go.Proofs.YtjfmhahlmnnacaaW.PrintMore
open List renaming setIfInBounds_toArray → zS, set_cons_zero → zZ, set_cons_succ → zC
open Go.Proofs.YtjfmhahlmnnacaaW.PrintWords renaming blk_drewN → zN, blk_drew → zD, blk_alloc → zA, blk_cell → zL, blk_frozen → zF, below_step → zB
open Go.Proofs.YtjfmhahlmnnacaaW.PrintWords.Aside0 renaming mk → zM
attribute [local go_sem] max2_int min2_int max_two min_two max_three min_three max_four min_four   -- for this text's walks alone
set_option linter.unusedVariables false
set_option linter.unusedSimpArgs false

attribute [local go_sem] px_nilq22
attribute [local go_sem high] eqA24
/-! ### ropewaylaw16_FrontSteps: function 4 -/
mutual
def ropewaylaw16_FrontSteps.j0 : Nat → List (S37) → Bool → Int → Int → Int → Int → Option (Bool)
  | 0, _, _, _, _, _, _ => none
  | k + 1, x2, x26, x327000, x327001, x328000, x328001 => if x26 = true then (some true) else ((front_New.f k x327000 x327001 x328000 x328001).bind fun bt333 => ((ropewayref16_New.f k x327000 x327001 x328000 x328001).bind fun bt339 => (ropewaylaw16_FrontSteps.l0 k x2 (x2.length : Int) 0 bt333.1 bt333.2.1 bt333.2.2 bt339.1 bt339.2.1 bt339.2.2)))
def ropewaylaw16_FrontSteps.l0 : Nat → List (S37) → Int → Int → List (S24) → Int → Int → List (S24) → Int → Int → Option (Bool)
  | 0, _, _, _, _, _, _, _, _, _ => none
  | k + 1, x33, x34, x35, x339000, x339001, x339002, x345000, x345001, x345002 => if x35 < x34 then (if 0 ≤ x35 then (if x35 < (x33.length : Int) then (if ((rd_T37 x33 x35).f0) < 0 then (ropewaylaw16_FrontSteps.j2 k x33 x34 x35 true x339000 x339001 x339002 x345000 x345001 x345002 ((rd_T37 x33 x35).f0) ((rd_T37 x33 x35).f1)) else (if (((rd_T37 x33 x35).f1).length : Int) > 10 then (ropewaylaw16_FrontSteps.j2 k x33 x34 x35 true x339000 x339001 x339002 x345000 x345001 x345002 ((rd_T37 x33 x35).f0) ((rd_T37 x33 x35).f1)) else ((ropewaylaw16_right.f k ((rd_T37 x33 x35).f1)).bind fun t347 => (ropewaylaw16_FrontSteps.j2 k x33 x34 x35 (!t347) x339000 x339001 x339002 x345000 x345001 x345002 ((rd_T37 x33 x35).f0) ((rd_T37 x33 x35).f1))))) else (none)) else (none)) else (some true)
def ropewaylaw16_FrontSteps.j2 : Nat → List (S37) → Int → Int → Bool → List (S24) → Int → Int → List (S24) → Int → Int → Int → List (S24) → Option (Bool)
  | 0, _, _, _, _, _, _, _, _, _, _, _, _ => none
  | k + 1, x33, x34, x35, x53, x339000, x339001, x339002, x345000, x345001, x345002, x347000, x347001 => if x53 = true then (some true) else (if (x345000.length : Int) = 0 then (none) else (if 0 ≤ (Int.tmod x347000 (x345000.length : Int)) then (if (Int.tmod x347000 (x345000.length : Int)) < (x345000.length : Int) then ((some (([] : List (S24)) : List (S24))).bind fun y350 => (if y350.length + x347001.length < 8796093022208 then ((some (y350 ++ x347001 : List (S24))).bind fun y353 => ((front_Step.f k x339000 x339001 x339002 ((rd_T24 x345000 (Int.tmod x347000 (x345000.length : Int))).f0) ((rd_T24 x345000 (Int.tmod x347000 (x345000.length : Int))).f1) y353).bind fun bt356 => ((ropewayref05_Same.f k x339000 x345000).bind fun t362 => (if t362 = true then (if (!(x339001 == x345001) || (!(x339002 == x345002))) = true then (ropewaylaw16_FrontSteps.j3 k x33 x34 x35 true x345000 x345001 x345002 x347000 x347001 ((rd_T24 x345000 (Int.tmod x347000 (x345000.length : Int))).f0) ((rd_T24 x345000 (Int.tmod x347000 (x345000.length : Int))).f1) bt356.1 bt356.2.1 bt356.2.2) else ((ropewayref05_Same.f k y353 x347001).bind fun t363 => (ropewaylaw16_FrontSteps.j3 k x33 x34 x35 (!t363) x345000 x345001 x345002 x347000 x347001 ((rd_T24 x345000 (Int.tmod x347000 (x345000.length : Int))).f0) ((rd_T24 x345000 (Int.tmod x347000 (x345000.length : Int))).f1) bt356.1 bt356.2.1 bt356.2.2))) else (ropewaylaw16_FrontSteps.j3 k x33 x34 x35 true x345000 x345001 x345002 x347000 x347001 ((rd_T24 x345000 (Int.tmod x347000 (x345000.length : Int))).f0) ((rd_T24 x345000 (Int.tmod x347000 (x345000.length : Int))).f1) bt356.1 bt356.2.1 bt356.2.2))))) else (none))) else (none)) else (none)))
def ropewaylaw16_FrontSteps.j3 : Nat → List (S37) → Int → Int → Bool → List (S24) → Int → Int → Int → List (S24) → Int → Int → List (S24) → Int → Int → Option (Bool)
  | 0, _, _, _, _, _, _, _, _, _, _, _, _, _, _ => none
  | k + 1, x33, x34, x35, x91, x345000, x345001, x345002, x347000, x347001, x350000, x350001, x362000, x362001, x362002 => if x91 = true then (some false) else ((ropewayref16_Step.f k x345000 x345001 x345002 x350000 x350001 x347001).bind fun bt364 => ((ropewayref16_Least.f k bt364.1 bt364.2.1 bt364.2.2).bind fun bt369 => ((ropewayref05_Same.f k x362000 bt364.1).bind fun t372 => (if t372 = true then (if (!(x362001 == bt364.2.1) || (!(x362002 == bt364.2.2))) = true then (some false) else ((front_Least.f x362000 x362001 x362002).bind fun bt373 => (if (!(bt373.1 == bt369.1) || (!(bt373.2 == bt369.2))) = true then (some false) else ((front_Ends.f x362000 x362001 x362002 bt369.1 bt369.2).bind fun t375 => (if (t375 != (bt369.1 == bt364.2.1 && (bt369.2 == bt364.2.2))) = true then (some false) else ((front_Want.f x362000 x362001 x362002 bt369.1 bt369.2).bind fun bt376 => ((ropewayref04_Minus.f k bt364.2.1 bt364.2.2 bt369.1 bt369.2).bind fun bt378 => (if (!(bt376.1 == bt378.1) || (!(bt376.2 == bt378.2))) = true then (some false) else (ropewaylaw16_FrontSteps.l0 k x33 x34 (wrap64 (x35 + 1)) x362000 x362001 x362002 bt364.1 bt364.2.1 bt364.2.2))))))))) else (some false)))))
end
def ropewaylaw16_FrontSteps.f (k : Nat) (a0_0 : Int) (a0_1 : Int) (a1_0 : Int) (a1_1 : Int) (l2 : List (S37)) : Option (Bool) := (ropewaylaw16_frontAlive.f k).bind fun t328 => (if t328 = true then (if (l2.length : Int) > 30 then (ropewaylaw16_FrontSteps.j0 k l2 true a0_0 a0_1 a1_0 a1_1) else ((ropewaylaw16_right.f k (([(⟨a0_0, a0_1⟩ : S24), (⟨a1_0, a1_1⟩ : S24)] : List (S24)))).bind fun t332 => (ropewaylaw16_FrontSteps.j0 k l2 (!t332) a0_0 a0_1 a1_0 a1_1))) else (some false))
theorem ropewaylaw16_FrontSteps.mono_l : ∀ k, (∀ y0 y1 y2 y3 y4 y5, LeO (ropewaylaw16_FrontSteps.j0 k y0 y1 y2 y3 y4 y5) (ropewaylaw16_FrontSteps.j0 (k + 1) y0 y1 y2 y3 y4 y5)) ∧ (∀ y0 y1 y2 y3 y4 y5 y6 y7 y8, LeO (ropewaylaw16_FrontSteps.l0 k y0 y1 y2 y3 y4 y5 y6 y7 y8) (ropewaylaw16_FrontSteps.l0 (k + 1) y0 y1 y2 y3 y4 y5 y6 y7 y8)) ∧ (∀ y0 y1 y2 y3 y4 y5 y6 y7 y8 y9 y10 y11, LeO (ropewaylaw16_FrontSteps.j2 k y0 y1 y2 y3 y4 y5 y6 y7 y8 y9 y10 y11) (ropewaylaw16_FrontSteps.j2 (k + 1) y0 y1 y2 y3 y4 y5 y6 y7 y8 y9 y10 y11)) ∧ (∀ y0 y1 y2 y3 y4 y5 y6 y7 y8 y9 y10 y11 y12 y13, LeO (ropewaylaw16_FrontSteps.j3 k y0 y1 y2 y3 y4 y5 y6 y7 y8 y9 y10 y11 y12 y13) (ropewaylaw16_FrontSteps.j3 (k + 1) y0 y1 y2 y3 y4 y5 y6 y7 y8 y9 y10 y11 y12 y13))
  | 0 => ⟨fun _ _ _ _ _ _ r h => by simp [ropewaylaw16_FrontSteps.j0] at h, fun _ _ _ _ _ _ _ _ _ r h => by simp [ropewaylaw16_FrontSteps.l0] at h, fun _ _ _ _ _ _ _ _ _ _ _ _ r h => by simp [ropewaylaw16_FrontSteps.j2] at h, fun _ _ _ _ _ _ _ _ _ _ _ _ _ _ r h => by simp [ropewaylaw16_FrontSteps.j3] at h⟩
  | k + 1 => by
    obtain ⟨ih0, ih1, ih2, ih3⟩ := ropewaylaw16_FrontSteps.mono_l k
    refine ⟨?_, ?_, ?_, ?_⟩
    · intro y0 y1 y2 y3 y4 y5
      unfold ropewaylaw16_FrontSteps.j0
      repeat' first
      | (with_reducible exact ih0 _ _ _ _ _ _)
      | (with_reducible exact ih1 _ _ _ _ _ _ _ _ _)
      | (with_reducible exact ih2 _ _ _ _ _ _ _ _ _ _ _ _)
      | (with_reducible exact ih3 _ _ _ _ _ _ _ _ _ _ _ _ _ _)
      | (with_reducible exact front_New.mono _ _ _ _ _)
      | (with_reducible exact front_Step.mono _ _ _ _ _ _ _)
      | (with_reducible exact ropewaylaw16_frontAlive.mono _)
      | (with_reducible exact ropewaylaw16_right.mono _ _)
      | (with_reducible exact ropewayref04_Minus.mono _ _ _ _ _)
      | (with_reducible exact ropewayref05_Same.mono _ _ _)
      | (with_reducible exact ropewayref16_Least.mono _ _ _ _)
      | (with_reducible exact ropewayref16_New.mono _ _ _ _ _)
      | (with_reducible exact ropewayref16_Step.mono _ _ _ _ _ _ _)
      | (with_reducible exact LeO.refl _)
      | (with_reducible exact LeO.none _)
      | (with_reducible refine LeO.ite ?_ ?_)
      | (with_reducible refine LeO.bind ?_ (fun _ => ?_))
      | exact ih0 _ _ _ _ _ _
      | exact ih1 _ _ _ _ _ _ _ _ _
      | exact ih2 _ _ _ _ _ _ _ _ _ _ _ _
      | exact ih3 _ _ _ _ _ _ _ _ _ _ _ _ _ _
      | exact front_New.mono _ _ _ _ _
      | exact front_Step.mono _ _ _ _ _ _ _
      | exact ropewaylaw16_frontAlive.mono _
      | exact ropewaylaw16_right.mono _ _
      | exact ropewayref04_Minus.mono _ _ _ _ _
      | exact ropewayref05_Same.mono _ _ _
      | exact ropewayref16_Least.mono _ _ _ _
      | exact ropewayref16_New.mono _ _ _ _ _
      | exact ropewayref16_Step.mono _ _ _ _ _ _ _
      | exact LeO.none _
      | refine LeO.ite ?_ ?_
      | refine LeO.bind ?_ (fun _ => ?_)
    · intro y0 y1 y2 y3 y4 y5 y6 y7 y8
      unfold ropewaylaw16_FrontSteps.l0
      repeat' first
      | (with_reducible exact ih0 _ _ _ _ _ _)
      | (with_reducible exact ih1 _ _ _ _ _ _ _ _ _)
      | (with_reducible exact ih2 _ _ _ _ _ _ _ _ _ _ _ _)
      | (with_reducible exact ih3 _ _ _ _ _ _ _ _ _ _ _ _ _ _)
      | (with_reducible exact front_New.mono _ _ _ _ _)
      | (with_reducible exact front_Step.mono _ _ _ _ _ _ _)
      | (with_reducible exact ropewaylaw16_frontAlive.mono _)
      | (with_reducible exact ropewaylaw16_right.mono _ _)
      | (with_reducible exact ropewayref04_Minus.mono _ _ _ _ _)
      | (with_reducible exact ropewayref05_Same.mono _ _ _)
      | (with_reducible exact ropewayref16_Least.mono _ _ _ _)
      | (with_reducible exact ropewayref16_New.mono _ _ _ _ _)
      | (with_reducible exact ropewayref16_Step.mono _ _ _ _ _ _ _)
      | (with_reducible exact LeO.refl _)
      | (with_reducible exact LeO.none _)
      | (with_reducible refine LeO.ite ?_ ?_)
      | (with_reducible refine LeO.bind ?_ (fun _ => ?_))
      | exact ih0 _ _ _ _ _ _
      | exact ih1 _ _ _ _ _ _ _ _ _
      | exact ih2 _ _ _ _ _ _ _ _ _ _ _ _
      | exact ih3 _ _ _ _ _ _ _ _ _ _ _ _ _ _
      | exact front_New.mono _ _ _ _ _
      | exact front_Step.mono _ _ _ _ _ _ _
      | exact ropewaylaw16_frontAlive.mono _
      | exact ropewaylaw16_right.mono _ _
      | exact ropewayref04_Minus.mono _ _ _ _ _
      | exact ropewayref05_Same.mono _ _ _
      | exact ropewayref16_Least.mono _ _ _ _
      | exact ropewayref16_New.mono _ _ _ _ _
      | exact ropewayref16_Step.mono _ _ _ _ _ _ _
      | exact LeO.none _
      | refine LeO.ite ?_ ?_
      | refine LeO.bind ?_ (fun _ => ?_)
    · intro y0 y1 y2 y3 y4 y5 y6 y7 y8 y9 y10 y11
      unfold ropewaylaw16_FrontSteps.j2
      repeat' first
      | (with_reducible exact ih0 _ _ _ _ _ _)
      | (with_reducible exact ih1 _ _ _ _ _ _ _ _ _)
      | (with_reducible exact ih2 _ _ _ _ _ _ _ _ _ _ _ _)
      | (with_reducible exact ih3 _ _ _ _ _ _ _ _ _ _ _ _ _ _)
      | (with_reducible exact front_New.mono _ _ _ _ _)
      | (with_reducible exact front_Step.mono _ _ _ _ _ _ _)
      | (with_reducible exact ropewaylaw16_frontAlive.mono _)
      | (with_reducible exact ropewaylaw16_right.mono _ _)
      | (with_reducible exact ropewayref04_Minus.mono _ _ _ _ _)
      | (with_reducible exact ropewayref05_Same.mono _ _ _)
      | (with_reducible exact ropewayref16_Least.mono _ _ _ _)
      | (with_reducible exact ropewayref16_New.mono _ _ _ _ _)
      | (with_reducible exact ropewayref16_Step.mono _ _ _ _ _ _ _)
      | (with_reducible exact LeO.refl _)
      | (with_reducible exact LeO.none _)
      | (with_reducible refine LeO.ite ?_ ?_)
      | (with_reducible refine LeO.bind ?_ (fun _ => ?_))
      | exact ih0 _ _ _ _ _ _
      | exact ih1 _ _ _ _ _ _ _ _ _
      | exact ih2 _ _ _ _ _ _ _ _ _ _ _ _
      | exact ih3 _ _ _ _ _ _ _ _ _ _ _ _ _ _
      | exact front_New.mono _ _ _ _ _
      | exact front_Step.mono _ _ _ _ _ _ _
      | exact ropewaylaw16_frontAlive.mono _
      | exact ropewaylaw16_right.mono _ _
      | exact ropewayref04_Minus.mono _ _ _ _ _
      | exact ropewayref05_Same.mono _ _ _
      | exact ropewayref16_Least.mono _ _ _ _
      | exact ropewayref16_New.mono _ _ _ _ _
      | exact ropewayref16_Step.mono _ _ _ _ _ _ _
      | exact LeO.none _
      | refine LeO.ite ?_ ?_
      | refine LeO.bind ?_ (fun _ => ?_)
    · intro y0 y1 y2 y3 y4 y5 y6 y7 y8 y9 y10 y11 y12 y13
      unfold ropewaylaw16_FrontSteps.j3
      repeat' first
      | (with_reducible exact ih0 _ _ _ _ _ _)
      | (with_reducible exact ih1 _ _ _ _ _ _ _ _ _)
      | (with_reducible exact ih2 _ _ _ _ _ _ _ _ _ _ _ _)
      | (with_reducible exact ih3 _ _ _ _ _ _ _ _ _ _ _ _ _ _)
      | (with_reducible exact front_New.mono _ _ _ _ _)
      | (with_reducible exact front_Step.mono _ _ _ _ _ _ _)
      | (with_reducible exact ropewaylaw16_frontAlive.mono _)
      | (with_reducible exact ropewaylaw16_right.mono _ _)
      | (with_reducible exact ropewayref04_Minus.mono _ _ _ _ _)
      | (with_reducible exact ropewayref05_Same.mono _ _ _)
      | (with_reducible exact ropewayref16_Least.mono _ _ _ _)
      | (with_reducible exact ropewayref16_New.mono _ _ _ _ _)
      | (with_reducible exact ropewayref16_Step.mono _ _ _ _ _ _ _)
      | (with_reducible exact LeO.refl _)
      | (with_reducible exact LeO.none _)
      | (with_reducible refine LeO.ite ?_ ?_)
      | (with_reducible refine LeO.bind ?_ (fun _ => ?_))
      | exact ih0 _ _ _ _ _ _
      | exact ih1 _ _ _ _ _ _ _ _ _
      | exact ih2 _ _ _ _ _ _ _ _ _ _ _ _
      | exact ih3 _ _ _ _ _ _ _ _ _ _ _ _ _ _
      | exact front_New.mono _ _ _ _ _
      | exact front_Step.mono _ _ _ _ _ _ _
      | exact ropewaylaw16_frontAlive.mono _
      | exact ropewaylaw16_right.mono _ _
      | exact ropewayref04_Minus.mono _ _ _ _ _
      | exact ropewayref05_Same.mono _ _ _
      | exact ropewayref16_Least.mono _ _ _ _
      | exact ropewayref16_New.mono _ _ _ _ _
      | exact ropewayref16_Step.mono _ _ _ _ _ _ _
      | exact LeO.none _
      | refine LeO.ite ?_ ?_
      | refine LeO.bind ?_ (fun _ => ?_)
theorem ropewaylaw16_FrontSteps.mono : ∀ a0 a1 a2 a3 a4 k, LeO (ropewaylaw16_FrontSteps.f k a0 a1 a2 a3 a4) (ropewaylaw16_FrontSteps.f (k + 1) a0 a1 a2 a3 a4) := by
  intro a0 a1 a2 a3 a4 k
  obtain ⟨ih0, ih1, ih2, ih3⟩ := ropewaylaw16_FrontSteps.mono_l k
  unfold ropewaylaw16_FrontSteps.f
  repeat' first
      | (with_reducible exact ih0 _ _ _ _ _ _)
      | (with_reducible exact ih1 _ _ _ _ _ _ _ _ _)
      | (with_reducible exact ih2 _ _ _ _ _ _ _ _ _ _ _ _)
      | (with_reducible exact ih3 _ _ _ _ _ _ _ _ _ _ _ _ _ _)
      | (with_reducible exact front_New.mono _ _ _ _ _)
      | (with_reducible exact front_Step.mono _ _ _ _ _ _ _)
      | (with_reducible exact ropewaylaw16_frontAlive.mono _)
      | (with_reducible exact ropewaylaw16_right.mono _ _)
      | (with_reducible exact ropewayref04_Minus.mono _ _ _ _ _)
      | (with_reducible exact ropewayref05_Same.mono _ _ _)
      | (with_reducible exact ropewayref16_Least.mono _ _ _ _)
      | (with_reducible exact ropewayref16_New.mono _ _ _ _ _)
      | (with_reducible exact ropewayref16_Step.mono _ _ _ _ _ _ _)
      | (with_reducible exact LeO.refl _)
      | (with_reducible exact LeO.none _)
      | (with_reducible refine LeO.ite ?_ ?_)
      | (with_reducible refine LeO.bind ?_ (fun _ => ?_))
      | exact ih0 _ _ _ _ _ _
      | exact ih1 _ _ _ _ _ _ _ _ _
      | exact ih2 _ _ _ _ _ _ _ _ _ _ _ _
      | exact ih3 _ _ _ _ _ _ _ _ _ _ _ _ _ _
      | exact front_New.mono _ _ _ _ _
      | exact front_Step.mono _ _ _ _ _ _ _
      | exact ropewaylaw16_frontAlive.mono _
      | exact ropewaylaw16_right.mono _ _
      | exact ropewayref04_Minus.mono _ _ _ _ _
      | exact ropewayref05_Same.mono _ _ _
      | exact ropewayref16_Least.mono _ _ _ _
      | exact ropewayref16_New.mono _ _ _ _ _
      | exact ropewayref16_Step.mono _ _ _ _ _ _ _
      | exact LeO.none _
      | refine LeO.ite ?_ ?_
      | refine LeO.bind ?_ (fun _ => ?_)
def ropewaylaw16_FrontSteps.T12 : Bool × List (List Nat × List Nat) := (true, [([], []), ([0], [0]), ([], []), ([2], [2]), ([], []), ([4], [4]), ([5], [5]), ([3, 6], [3, 6]), ([1, 7], [1, 7]), ([8], [8]), ([], []), ([10, 9, 0, 1, 2, 3, 4, 5, 6, 7, 8, 9, 10], [9, 10])])
def ropewaylaw16_FrontSteps.B12 : List Nat := [0, 1, 0, 4, 0, 16, 48, 124, 255, 511, 0, 2047]
theorem ropewaylaw16_FrontSteps.tab12 : rtab .any (opsOf Try.f4 12) = ropewaylaw16_FrontSteps.T12 := by kernel_rfl
theorem ropewaylaw16_FrontSteps.bits12 : waitsOk ropewaylaw16_FrontSteps.T12.2 ropewaylaw16_FrontSteps.B12 = true := by kernel_rfl
def ropewaylaw16_FrontSteps.T20 : Bool × List (List Nat × List Nat) := (true, [([], []), ([0], [0]), ([], []), ([2], [2]), ([1, 3], [1, 3]), ([4], [4]), ([5, 4], [5]), ([6], [6]), ([7, 6], [6, 7]), ([6], [6]), ([9, 6], [6, 9]), ([8, 10, 6], [6, 8, 10]), ([6, 11], [6, 11]), ([12, 6], [12]), ([13], [13]), ([14, 13, 13], [13, 14]), ([13], [13]), ([15, 16, 13], [13, 15, 16]), ([13, 17], [13, 17]), ([18, 15], [18]), ([19], [19]), ([19], [19]), ([20, 21, 19, 19], [19, 20, 21]), ([19], [19]), ([19], [19]), ([24, 19], [19, 24]), ([23, 25, 19], [19, 23, 25]), ([22, 26, 19], [19, 22, 26]), ([19, 27], [19, 27]), ([28, 22], [28]), ([29], [29]), ([29], [29]), ([30, 31, 29, 29], [29, 30, 31]), ([29], [29]), ([33, 29], [29, 33]), ([29], [29]), ([34, 35, 32, 29], [29, 34, 35]), ([32, 36, 29], [29, 32, 36]), ([29, 37], [29, 37])])
def ropewaylaw16_FrontSteps.B20 : List Nat := [0, 1, 0, 4, 15, 31, 63, 127, 255, 127, 639, 2047, 4095, 8191, 16383, 32767, 16383, 131071, 262143, 524287, 1048575, 1048575, 4194303, 1048575, 1048575, 17825791, 59768831, 134217727, 268435455, 536870911, 1073741823, 1073741823, 4294967295, 1073741823, 9663676415, 1073741823, 68719476735, 137438953471, 274877906943]
theorem ropewaylaw16_FrontSteps.tab20 : rtab .any (opsOf Try.f4 20) = ropewaylaw16_FrontSteps.T20 := by kernel_rfl
theorem ropewaylaw16_FrontSteps.bits20 : waitsOk ropewaylaw16_FrontSteps.T20.2 ropewaylaw16_FrontSteps.B20 = true := by kernel_rfl
set_option maxHeartbeats 8000000 in
set_option maxRecDepth 100000 in
theorem ropewaylaw16_FrontSteps.calls (k : Nat) (a0_0 : Int) (a0_1 : Int) (a1_0 : Int) (a1_1 : Int) (A2 : Option Addr) (c2 : Nat) (l2 : List (S37)) (r : Bool) (w : World) (hr2 : Kd.C k37 w A2 l2.length l2) (hc2 : l2.length ≤ c2) (hr1_ : Aside0 (r = true)) (h : ropewaylaw16_FrontSteps.f k a0_0 a0_1 a1_0 a1_1 l2 = some r) :
    Calls Try.prog 4 #[.agg #[.int .i64 a0_0, .int .i64 a0_1], .agg #[.int .i64 a1_0, .int .i64 a1_1], .slice A2 l2.length c2] w fun e w' => e = .returned (.bool r) ∧ Below w.heap.size w w' := by
  have hu24 := Try.underlying24
  have hu26 := Try.underlying26
  have hu34 := Try.underlying34
  have hu37 := Try.underlying37
  have HR2 := zM hr2
  have HC2 := zM hc2
  clear hr2 hc2
  have HB := zM (Below.refl w.heap.size w)
  have H : ((ropewaylaw16_frontAlive.f k).bind fun t328 => (if t328 = true then (if (l2.length : Int) > 30 then (ropewaylaw16_FrontSteps.j0 k l2 true a0_0 a0_1 a1_0 a1_1) else ((ropewaylaw16_right.f k (([(⟨a0_0, a0_1⟩ : S24), (⟨a1_0, a1_1⟩ : S24)] : List (S24)))).bind fun t332 => (ropewaylaw16_FrontSteps.j0 k l2 (!t332) a0_0 a0_1 a1_0 a1_1))) else (some false))) = some r := h
  clear h
  replace H := Option.bind_eq_some_iff.mp H
  obtain ⟨t328, A40, H⟩ := H
  replace H : (if t328 = true then (if (l2.length : Int) > 30 then (ropewaylaw16_FrontSteps.j0 k l2 true a0_0 a0_1 a1_0 a1_1) else ((ropewaylaw16_right.f k (([(⟨a0_0, a0_1⟩ : S24), (⟨a1_0, a1_1⟩ : S24)] : List (S24)))).bind fun t332 => (ropewaylaw16_FrontSteps.j0 k l2 (!t332) a0_0 a0_1 a1_0 a1_1))) else (some false)) = some r := H
  have A4 := zM A40
  clear A40
  by_cases c5 : t328 = true
  rotate_left
  · replace c5 := Bool.eq_false_iff.mpr c5
    subst c5
    have H1 : (some false) = some r := by rw [if_neg (show ¬ (false = true) by decide)] at H; exact H
    clear H
    have H := H1
    clear H1
    exact absurd (Option.some.inj H) (by rw [hr1_.out]; decide)
  subst c5
  have H1 : (if (l2.length : Int) > 30 then (ropewaylaw16_FrontSteps.j0 k l2 true a0_0 a0_1 a1_0 a1_1) else ((ropewaylaw16_right.f k (([(⟨a0_0, a0_1⟩ : S24), (⟨a1_0, a1_1⟩ : S24)] : List (S24)))).bind fun t332 => (ropewaylaw16_FrontSteps.j0 k l2 (!t332) a0_0 a0_1 a1_0 a1_1))) = some r := by rw [if_pos rfl] at H; exact H
  clear H
  have H := H1
  clear H1
  have HC6 := zM H
  clear H
  go_enter Try.func4, Try.ntmps4
  go_upto_region 3 with (first | ((with_reducible refine gate_dst (N := 3) rfl ?_); (try (refine gate_guard (by rfl) ?_; dsimp only)); refine box_event ?hg (N := 3) ?hd (cs := #[.int .i64 a0_0, .int .i64 a0_1]) (t := 24) ?hr ?_; (case hd => rfl); (case hg => rfl); (case hr => first | (go_simp; done) | (go_simp; rfl)); intro gb326 hg w7 hbox hb; have BK326 := zM (hbox); have GW326 := zM (bs_ hg); have GE326 := zM (bs_ hg); replace HB := zM (zB bel_ hb); clear hb hbox hg) | ((with_reducible refine gate_dst (N := 4) rfl ?_); (try (refine gate_guard (by rfl) ?_; dsimp only)); refine box_event ?hg (N := 4) ?hd (cs := #[.int .i64 a1_0, .int .i64 a1_1]) (t := 24) ?hr ?_; (case hd => rfl); (case hg => rfl); (case hr => first | (go_simp; done) | (go_simp; rfl)); intro gb327 hg w8 hbox hb; have BK327 := zM (hbox); have GW327 := zM (bs_ hg); have GE327 := zM (bs_ hg); replace HB := zM (zB bel_ hb); have NB326_327 := zM (nl_ BK326 hg); have NB327_326 := zM (ng_ BK326 hg); replace BK326 := zM (bb_ BK326 hb); clear hb hbox hg) | ((with_reducible refine gate_callee (f := 8) rfl ?_); refine goL_ (some 15) Try.func8 #[] ?_; (with_reducible refine (ropewaylaw16_frontAlive.calls k  true _ A4.out).mono ?_); rintro e w9 ⟨rfl, hb⟩; refine ⟨_, rfl, ?_⟩; replace BK326 := zM (bb_ BK326 hb); replace BK327 := zM (bb_ BK327 hb); replace HB := zM (zB bel_ hb); (try clear hb); (try clear hb2); (try clear hk); (try clear hi)))
  (try simp only [Act.put, zS, zZ, zC])
  go_cut [26] (fun v26 wc => ∃ (kq : Nat) (x26_5 : Bool), v26 = .bool x26_5 ∧ Aside0 (ropewaylaw16_FrontSteps.j0 kq l2 x26_5 a0_0 a0_1 a1_0 a1_1 = some r) ∧ Aside0 (kq ≤ k) ∧ Aside0 (wc.heap[gb326]? = some (.cells #[.int .i64 a0_0, .int .i64 a0_1] 24 (0, 0))) ∧ Aside0 (wc.heap[gb327]? = some (.cells #[.int .i64 a1_0, .int .i64 a1_1] 24 (0, 0))) ∧ Aside0 (Below w.heap.size w wc))
  case first =>
   have H := HC6.out
   clear HC6
   by_cases c10 : (l2.length : Int) > 30
   · rw [if_pos c10] at H
     have c10b0 : decide (30 < (l2.length : Int)) = true := decide_eq_true c10
     have c10b1 : decide (30 < l2.length) = true := decide_eq_true (by omega)
     clear c10
     (first | rw [c10b0] | (simp only [i64_w, i32_w]; rw [c10b0]) | skip)
     have H' := zM H
     clear H
     go_wp2
     go_meet
     case rel => exact ⟨_, (true), (by first | rfl | (simp; done) | (simp [*]; done) | (simp; grind)), H', ⟨by first | omega | exact Nat.le_refl _⟩, ⟨blf_⟩, ⟨blf_⟩, ⟨bel_⟩⟩
   rw [if_neg c10] at H
   have c10b0 : decide (30 < (l2.length : Int)) = false := decide_eq_false c10
   have c10b1 : decide (30 < l2.length) = false := decide_eq_false (by omega)
   clear c10
   (first | rw [c10b0] | (simp only [i64_w, i32_w]; rw [c10b0]) | skip)
   obtain ⟨y329, hy329⟩ : ∃ y_ : List (S24), y_ = (([(⟨a0_0, a0_1⟩ : S24), (⟨a1_0, a1_1⟩ : S24)] : List (S24))) := ⟨_, rfl⟩
   replace H : ((ropewaylaw16_right.f k y329).bind fun t332 => (ropewaylaw16_FrontSteps.j0 k l2 (!t332) a0_0 a0_1 a1_0 a1_1)) = some r := by first | (rw [hy329]; with_reducible exact H) | (have H2_ := (Option.bind_some _ _).symm.trans H; rw [hy329]; with_reducible exact H2_) | (have H2_ := (Option.bind_some _ _).symm.trans H; with_reducible exact H2_) | with_reducible exact H | (rw [hy329]; exact H) | exact H
   have Ny329 := zM hy329
   clear hy329
   replace H := Option.bind_eq_some_iff.mp H
   obtain ⟨t332, A110, H⟩ := H
   replace H : (ropewaylaw16_FrontSteps.j0 k l2 (!t332) a0_0 a0_1 a1_0 a1_1) = some r := H
   have A11 := zM A110
   clear A110
   have H' := zM H
   clear H
   have hnb12 := NB326_327.out
   have hnc12 := NB327_326.out
   have hcz13_0 : w9.cell? ⟨gb326, 0, none⟩ = some (.int .i64 a0_0) := (zL BK326.out 0).trans rfl
   have hcz13_1 : w9.cell? ⟨gb326, 1, none⟩ = some (.int .i64 a0_1) := (zL BK326.out 1).trans rfl
   have hfz13_0 := zF BK326.out 0
   have hfz13_1 := zF BK326.out 1
   have hcz14_0 : w9.cell? ⟨gb327, 0, none⟩ = some (.int .i64 a1_0) := (zL BK327.out 0).trans rfl
   have hcz14_1 : w9.cell? ⟨gb327, 1, none⟩ = some (.int .i64 a1_1) := (zL BK327.out 1).trans rfl
   have hfz14_0 := zF BK327.out 0
   have hfz14_1 := zF BK327.out 1
   go_wp2_with (first | ((with_reducible refine gate_dst (N := 23) rfl ?_); (try (refine gate_guard (by rfl) ?_; dsimp only)); refine Kd.R_lit k24 _ 24 ?hg (N := 23) ?hd (xs := ([(⟨a0_0, a0_1⟩ : S24), (⟨a1_0, a1_1⟩ : S24)] : List (S24))) (inner := [.int .i64 a0_0, .int .i64 a0_1, .int .i64 a1_0, .int .i64 a1_1]) (ok := fun _ => True) (okp := fun _ => True) ?hr ?hp (fun _ hk => hk) trivial (Below.refl _ _) (Nat.le_refl _) (by simp) ?_; (case hd => rfl); (case hg => rfl); (case hr => first | (go_simp; done) | (go_simp; rfl)); (case hp => exact (Reps.c2 (show Kd.M k24 _ _ _ (⟨a0_0, a0_1⟩ : S24) [.int .i64 a0_0, .int .i64 a0_1] from (k24_mkM _ _ _ (⟨a0_0, a0_1⟩ : S24) )) (Reps.c2 (show Kd.M k24 _ _ _ (⟨a1_0, a1_1⟩ : S24) [.int .i64 a1_0, .int .i64 a1_1] from (k24_mkM _ _ _ (⟨a1_0, a1_1⟩ : S24) )) (Reps.none _ _)))); intro v330 w15 ho16 hb hg_ hnew_; clear hg_ hnew_; (first | rw [← Ny329.out] at ho16 | (simp only [Int.reduceToNat] at ho16; rw [← Ny329.out] at ho16)); have HO331 := zM (Kd.R_lower (Kd.R_newB (Kd.R_newB ho16 (g := gb326) (o := .cells #[.int .i64 a0_0, .int .i64 a0_1] 24 (0, 0)) blk_) (g := gb327) (o := .cells #[.int .i64 a1_0, .int .i64 a1_1] 24 (0, 0)) blk_) (below_size bel_)); replace BK326 := zM (bb_ BK326 hb); replace BK327 := zM (bb_ BK327 hb); replace HB := zM (zB bel_ hb); clear hb ho16; obtain ⟨Ao17, co17, eo17⟩ := Kd.R_slice HO331.out; subst eo17) | (go_at_call 12; (with_reducible refine (ropewaylaw16_right.calls k _ _ y329 t332 _ ?side1 ?side2 A11.out).mono ?_); (case side1 => repeat (first | exact (Kd.R_reads' HO331.out).2.2 | (with_reducible refine Kd.C_alloc ?_ _) | (with_reducible refine Kd.C_drewN ?_ _) | (with_reducible refine Kd.C_drew ?_))); (case side2 => exact (Kd.R_reads' HO331.out).2.1); rintro e w18 ⟨rfl, hb⟩; replace HO331 := zM (Kd.R_below (rl_ HO331) hb); replace BK326 := zM (bb_ BK326 hb); replace BK327 := zM (bb_ BK327 hb); replace HB := zM (zB bel_ hb); (try clear hb); (try clear hb2); (try clear hk); (try clear hi)))
   go_meet
   case rel => exact ⟨_, (!t332), (by first | rfl | (simp; done) | (simp [*]; done) | (simp; grind)), H', ⟨by first | omega | exact Nat.le_refl _⟩, ⟨blf_⟩, ⟨blf_⟩, ⟨bel_⟩⟩
  case rest =>
   clear HC6
   try clear c1
   try clear c2
   try clear p2
   try clear c4
   try clear c5
   try clear c8
   try clear c10
   try clear c10b0
   try clear c10b1
   try clear c12
   try clear hcz13_0
   try clear hcz13_1
   try clear hcz14_0
   try clear hcz14_1
   try clear hfz13_0
   try clear hfz13_1
   try clear hfz14_0
   try clear hfz14_1
   obtain ⟨kq, x26_5, rfl, HA, HJ5, BK326, BK327, HB⟩ := hcut
   cases kq with
   | zero => exact absurd HA.out (by simp [ropewaylaw16_FrontSteps.j0])
   | succ kj5 =>
    have H := HA.out
    clear HA
    simp only [ropewaylaw16_FrontSteps.j0] at H
    by_cases c19 : x26_5 = true
    · subst c19
      have H1 : (some true) = some r := by rw [if_pos rfl] at H; exact H
      clear H
      have H := H1
      clear H1
      obtain rfl := Option.some.inj H
      go_wp2
      go_ret
      exact ⟨by first | rfl | (simp [errW_none, errW_some] <;> rfl) | (simp [*, errW_none, errW_some] <;> rfl), bel_⟩
    replace c19 := Bool.eq_false_iff.mpr c19
    subst c19
    have H1 : ((front_New.f kj5 a0_0 a0_1 a1_0 a1_1).bind fun bt333 => ((ropewayref16_New.f kj5 a0_0 a0_1 a1_0 a1_1).bind fun bt339 => (ropewaylaw16_FrontSteps.l0 kj5 l2 (l2.length : Int) 0 bt333.1 bt333.2.1 bt333.2.2 bt339.1 bt339.2.1 bt339.2.2))) = some r := by rw [if_neg (show ¬ (false = true) by decide)] at H; exact H
    clear H
    have H := H1
    clear H1
    replace H := Option.bind_eq_some_iff.mp H
    obtain ⟨⟨t333, t336, t337⟩, A200, H⟩ := H
    replace H : ((ropewayref16_New.f kj5 a0_0 a0_1 a1_0 a1_1).bind fun bt339 => (ropewaylaw16_FrontSteps.l0 kj5 l2 (l2.length : Int) 0 t333 t336 t337 bt339.1 bt339.2.1 bt339.2.2)) = some r := H
    have A20 := zM A200
    clear A200
    replace H := Option.bind_eq_some_iff.mp H
    obtain ⟨⟨t339, t342, t343⟩, A210, H⟩ := H
    replace H : (ropewaylaw16_FrontSteps.l0 kj5 l2 (l2.length : Int) 0 t333 t336 t337 t339 t342 t343) = some r := H
    have A21 := zM A210
    clear A210
    have H' := zM H
    clear H
    have hnb22 := NB326_327.out
    have hnc22 := NB327_326.out
    have hcz23_0 : wc.cell? ⟨gb326, 0, none⟩ = some (.int .i64 a0_0) := (zL BK326.out 0).trans rfl
    have hcz23_1 : wc.cell? ⟨gb326, 1, none⟩ = some (.int .i64 a0_1) := (zL BK326.out 1).trans rfl
    have hfz23_0 := zF BK326.out 0
    have hfz23_1 := zF BK326.out 1
    have hcz24_0 : wc.cell? ⟨gb327, 0, none⟩ = some (.int .i64 a1_0) := (zL BK327.out 0).trans rfl
    have hcz24_1 : wc.cell? ⟨gb327, 1, none⟩ = some (.int .i64 a1_1) := (zL BK327.out 1).trans rfl
    have hfz24_0 := zF BK327.out 0
    have hfz24_1 := zF BK327.out 1
    go_wp2_with (first | ((with_reducible refine gate_callee (f := 7) rfl ?_); refine goL_ (some 29) Try.func7 #[.agg #[.int .i64 a0_0, .int .i64 a0_1], .agg #[.int .i64 a1_0, .int .i64 a1_1]] ?_; (with_reducible refine (front_New.calls kj5 a0_0 a0_1 a1_0 a1_1 t333 t336 t337 _ A20.out).mono ?_); rintro e w25 ⟨v334, rfl, ho0, hb⟩; refine ⟨_, rfl, ?_⟩; have HO335 := zM (Kd.R_lower (Kd.R_newB (Kd.R_newB ho0 (g := gb326) (o := .cells #[.int .i64 a0_0, .int .i64 a0_1] 24 (0, 0)) blk_) (g := gb327) (o := .cells #[.int .i64 a1_0, .int .i64 a1_1] 24 (0, 0)) blk_) (below_size bel_)); replace BK326 := zM (bb_ BK326 hb); replace BK327 := zM (bb_ BK327 hb); replace HB := zM (zB bel_ hb); (try clear hb); (try clear hb2); (try clear hk); (try clear hi); (try clear ho0)) | ((with_reducible refine gate_dst (N := 7) rfl ?_); (try (refine gate_guard (by rfl) ?_; dsimp only)); refine box_event ?hg (N := 7) ?hd (cs := #[.slice none 0 0, .int .i64 0, .int .i64 0]) (t := 26) ?hr ?_; (case hd => rfl); (case hg => rfl); (case hr => first | (go_simp; done) | (go_simp; rfl)); intro gb338 hg w26 hbox hb; replace HO335 := zM (Kd.R_below (rl_ HO335) hb); have BK338 := zM (hbox); have GW338 := zM (bs_ hg); have GE338 := zM (bs_ hg); replace HB := zM (zB bel_ hb); have NB326_338 := zM (nl_ BK326 hg); have NB338_326 := zM (ng_ BK326 hg); replace BK326 := zM (bb_ BK326 hb); have NB327_338 := zM (nl_ BK327 hg); have NB338_327 := zM (ng_ BK327 hg); replace BK327 := zM (bb_ BK327 hb); clear hb hbox hg; obtain ⟨Ao27, co27, eo27⟩ := Kd.R_slice HO335.out; subst eo27; have hnb28 := NB338_326.out; have hnc28 := NB326_338.out; have hnb29 := NB338_327.out; have hnc29 := NB327_338.out; have hcz30_0 : w26.cell? ⟨gb338, 0, none⟩ = some (.slice none 0 0) := (zL BK338.out 0).trans rfl; have hcz30_1 : w26.cell? ⟨gb338, 1, none⟩ = some (.int .i64 0) := (zL BK338.out 1).trans rfl; have hcz30_2 : w26.cell? ⟨gb338, 2, none⟩ = some (.int .i64 0) := (zL BK338.out 2).trans rfl; have hfz30_0 := zF BK338.out 0; have hfz30_1 := zF BK338.out 1; have hfz30_2 := zF BK338.out 2; have hcz31_0 : w26.cell? ⟨gb326, 0, none⟩ = some (.int .i64 a0_0) := (zL BK326.out 0).trans rfl; have hcz31_1 : w26.cell? ⟨gb326, 1, none⟩ = some (.int .i64 a0_1) := (zL BK326.out 1).trans rfl; have hfz31_0 := zF BK326.out 0; have hfz31_1 := zF BK326.out 1; have hcz32_0 : w26.cell? ⟨gb327, 0, none⟩ = some (.int .i64 a1_0) := (zL BK327.out 0).trans rfl; have hcz32_1 : w26.cell? ⟨gb327, 1, none⟩ = some (.int .i64 a1_1) := (zL BK327.out 1).trans rfl; have hfz32_0 := zF BK327.out 0; have hfz32_1 := zF BK327.out 1) | ((with_reducible refine gate_callee (f := 13) rfl ?_); refine goL_ (some 32) Try.func13 #[.agg #[.int .i64 a0_0, .int .i64 a0_1], .agg #[.int .i64 a1_0, .int .i64 a1_1]] ?_; (with_reducible refine (ropewayref16_New.calls kj5 a0_0 a0_1 a1_0 a1_1 t339 t342 t343 _ A21.out).mono ?_); rintro e w33 ⟨v340, rfl, ho0, hb⟩; refine ⟨_, rfl, ?_⟩; have n0_ := zM (Kd.R_elder' (by (with_reducible repeat (first | apply Kd.R_alloc | apply Kd.R_drewN | apply Kd.R_drew)); exact (Kd.R_mono (Kd.R_far (p := ⟨gb338, 2, none⟩) (Kd.R_far (p := ⟨gb338, 1, none⟩) (Kd.R_far (p := ⟨gb338, 0, none⟩) (Kd.R_types HO335.out BK338.out (by decide)) (fun _ hk => hk.2) (.slice Ao27 t333.length co27)) (fun _ hk => hk.2) (.int .i64 t336)) (fun _ hk => hk.2) (.int .i64 t337)) (fun _ h_ => h_.1))) (Kd.R_base ho0) hb); have n1_ := zM (Kd.R_lower (Kd.R_newB (Kd.R_newB (Kd.R_new' ho0 (Kd.R_lt (by (with_reducible repeat (first | apply Kd.R_alloc | apply Kd.R_drewN | apply Kd.R_drew)); exact (Kd.R_mono (Kd.R_far (p := ⟨gb338, 2, none⟩) (Kd.R_far (p := ⟨gb338, 1, none⟩) (Kd.R_far (p := ⟨gb338, 0, none⟩) (Kd.R_types HO335.out BK338.out (by decide)) (fun _ hk => hk.2) (.slice Ao27 t333.length co27)) (fun _ hk => hk.2) (.int .i64 t336)) (fun _ hk => hk.2) (.int .i64 t337)) (fun _ h_ => h_.1))))) (g := gb326) (o := .cells #[.int .i64 a0_0, .int .i64 a0_1] 24 (0, 0)) blf_) (g := gb327) (o := .cells #[.int .i64 a1_0, .int .i64 a1_1] 24 (0, 0)) blf_) (below_size bel_)); have n2_ := zM (blk_below (g := gb326) (o := .cells #[.int .i64 a0_0, .int .i64 a0_1] 24 (0, 0)) blf_ hb); have n3_ := zM (blk_below (g := gb327) (o := .cells #[.int .i64 a1_0, .int .i64 a1_1] 24 (0, 0)) blf_ hb); have n4_ := zM (blk_below (g := gb338) (o := .cells #[.slice Ao27 t333.length co27, .int .i64 t336, .int .i64 t337] 26 (0, 0)) (by (with_reducible repeat (first | refine zN ?_ _ | refine zD ?_ | refine zA ?_ _)); refine blk_put (cs := #[.slice Ao27 t333.length co27, .int .i64 t336, .int .i64 0]) ?_ 2 _ rfl; (with_reducible repeat (first | refine zN ?_ _ | refine zD ?_ | refine zA ?_ _)); refine blk_put (cs := #[.slice Ao27 t333.length co27, .int .i64 0, .int .i64 0]) ?_ 1 _ rfl; (with_reducible repeat (first | refine zN ?_ _ | refine zD ?_ | refine zA ?_ _)); refine blk_put (cs := #[.slice none 0 0, .int .i64 0, .int .i64 0]) ?_ 0 _ rfl; (with_reducible repeat (first | refine zN ?_ _ | refine zD ?_ | refine zA ?_ _)); exact BK338.out) hb); have n5_ := zM (zB bel_ hb); clear HO335; clear BK326; clear BK327; clear BK338; clear HB; have HO335 := n0_; have HO341 := n1_; have BK326 := n2_; have BK327 := n3_; have BK338 := n4_; have HB := n5_; clear n0_ n1_ n2_ n3_ n4_ n5_; (try clear hb); (try clear hb2); (try clear hk); (try clear hi); (try clear ho0)) | ((with_reducible refine gate_dst (N := 8) rfl ?_); (try (refine gate_guard (by rfl) ?_; dsimp only)); refine box_event ?hg (N := 8) ?hd (cs := #[.slice none 0 0, .int .i64 0, .int .i64 0]) (t := 34) ?hr ?_; (case hd => rfl); (case hg => rfl); (case hr => first | (go_simp; done) | (go_simp; rfl)); intro gb344 hg w34 hbox hb; replace HO335 := zM (Kd.R_below (rl_ HO335) hb); replace HO341 := zM (Kd.R_below (rl_ HO341) hb); have BK344 := zM (hbox); have GW344 := zM (bs_ hg); have GE344 := zM (bs_ hg); replace HB := zM (zB bel_ hb); have NB326_344 := zM (nl_ BK326 hg); have NB344_326 := zM (ng_ BK326 hg); replace BK326 := zM (bb_ BK326 hb); have NB327_344 := zM (nl_ BK327 hg); have NB344_327 := zM (ng_ BK327 hg); replace BK327 := zM (bb_ BK327 hb); have NB338_344 := zM (nl_ BK338 hg); have NB344_338 := zM (ng_ BK338 hg); replace BK338 := zM (bb_ BK338 hb); clear hb hbox hg; obtain ⟨Ao35, co35, eo35⟩ := Kd.R_slice HO341.out; subst eo35; have hnb36 := NB344_326.out; have hnc36 := NB326_344.out; have hnb37 := NB344_327.out; have hnc37 := NB327_344.out; have hnb38 := NB344_338.out; have hnc38 := NB338_344.out; have hcz39_0 : w34.cell? ⟨gb344, 0, none⟩ = some (.slice none 0 0) := (zL BK344.out 0).trans rfl; have hcz39_1 : w34.cell? ⟨gb344, 1, none⟩ = some (.int .i64 0) := (zL BK344.out 1).trans rfl; have hcz39_2 : w34.cell? ⟨gb344, 2, none⟩ = some (.int .i64 0) := (zL BK344.out 2).trans rfl; have hfz39_0 := zF BK344.out 0; have hfz39_1 := zF BK344.out 1; have hfz39_2 := zF BK344.out 2))
    go_loopg [35] kj5 (fun kq v35 w' => ∃ (x35_2 : Int) (x339000_2 : List (S24)) (x339001_2 : Int) (x339002_2 : Int) (x345000_2 : List (S24)) (x345001_2 : Int) (x345002_2 : Int) (u339000 : Value) (u345000 : Value), v35 = .int .i64 x35_2 ∧ Aside0 (ropewaylaw16_FrontSteps.l0 kq l2 (l2.length : Int) x35_2 x339000_2 x339001_2 x339002_2 x345000_2 x345001_2 x345002_2 = some r) ∧ Aside0 (kq ≤ kj5) ∧ Aside0 (Kd.R k24 24 w' w.heap.size (fun k_ => some k_ ≠ (u345000 : Value).ownBlock ∧ k_ ≠ gb326 ∧ k_ ≠ gb327) u339000 x339000_2) ∧ Aside0 (Kd.R k24 24 w' w.heap.size (fun k_ => some k_ ≠ (u339000 : Value).ownBlock ∧ k_ ≠ gb326 ∧ k_ ≠ gb327) u345000 x345000_2) ∧ Aside0 (w'.heap[gb326]? = some (.cells #[.int .i64 a0_0, .int .i64 a0_1] 24 (0, 0))) ∧ Aside0 (w'.heap[gb327]? = some (.cells #[.int .i64 a1_0, .int .i64 a1_1] 24 (0, 0))) ∧ Aside0 (w'.heap[gb338]? = some (.cells #[u339000, .int .i64 x339001_2, .int .i64 x339002_2] 26 (0, 0))) ∧ Aside0 (w'.heap[gb344]? = some (.cells #[u345000, .int .i64 x345001_2, .int .i64 x345002_2] 34 (0, 0))) ∧ Aside0 (Below w.heap.size w w'))
    case atStart => exact ⟨(0), (t333), (t336), (t337), (t339), (t342), (t343), (.slice Ao27 t333.length co27), (.slice Ao35 t339.length co35), (by first | rfl | (simp; done) | (simp [*]; done) | (simp; grind)), H', ⟨Nat.le_refl _⟩, ⟨by (with_reducible repeat (first | apply Kd.R_alloc | apply Kd.R_drewN | apply Kd.R_drew)); exact Kd.R_mono (Kd.R_far (p := ⟨gb344, 2, none⟩) (Kd.R_far (p := ⟨gb344, 1, none⟩) (Kd.R_far (p := ⟨gb344, 0, none⟩) (Kd.R_types HO335.out BK344.out (by decide)) (fun _ hk => hk.2) (.slice Ao35 t339.length co35)) (fun _ hk => hk.2) (.int .i64 t342)) (fun _ hk => hk.2) (.int .i64 t343)) (fun _ hk => ⟨hk.1.2, ⟨hk.1.1.1.2, hk.1.1.2⟩⟩)⟩, ⟨by (with_reducible repeat (first | apply Kd.R_alloc | apply Kd.R_drewN | apply Kd.R_drew)); exact Kd.R_mono (Kd.R_far (p := ⟨gb344, 2, none⟩) (Kd.R_far (p := ⟨gb344, 1, none⟩) (Kd.R_far (p := ⟨gb344, 0, none⟩) (Kd.R_types HO341.out BK344.out (by decide)) (fun _ hk => hk.2) (.slice Ao35 t339.length co35)) (fun _ hk => hk.2) (.int .i64 t342)) (fun _ hk => hk.2) (.int .i64 t343)) (fun _ hk => ⟨hk.1.1.1.2, ⟨hk.1.1.2, hk.1.2⟩⟩)⟩, ⟨blf_⟩, ⟨blf_⟩, ⟨blf_⟩, ⟨by (with_reducible repeat (first | refine zN ?_ _ | refine zD ?_ | refine zA ?_ _)); refine blk_put (cs := #[.slice Ao35 t339.length co35, .int .i64 t342, .int .i64 0]) ?_ 2 _ rfl; (with_reducible repeat (first | refine zN ?_ _ | refine zD ?_ | refine zA ?_ _)); refine blk_put (cs := #[.slice Ao35 t339.length co35, .int .i64 0, .int .i64 0]) ?_ 1 _ rfl; (with_reducible repeat (first | refine zN ?_ _ | refine zD ?_ | refine zA ?_ _)); refine blk_put (cs := #[.slice none 0 0, .int .i64 0, .int .i64 0]) ?_ 0 _ rfl; (with_reducible repeat (first | refine zN ?_ _ | refine zD ?_ | refine zA ?_ _)); exact BK344.out⟩, ⟨bel_⟩⟩
    case round =>
     clear H'
     try clear c1
     try clear c2
     try clear p2
     try clear c3
     try clear c4
     try clear c5
     try clear c7
     try clear c8
     try clear c10
     try clear c10b0
     try clear c10b1
     try clear c12
     try clear c13
     try clear c19
     try clear c22
     try clear c28
     try clear c29
     try clear c36
     try clear c37
     try clear c38
     try clear hcz13_0
     try clear hcz13_1
     try clear hcz14_0
     try clear hcz14_1
     try clear hcz23_0
     try clear hcz23_1
     try clear hcz24_0
     try clear hcz24_1
     try clear hcz30_0
     try clear hcz30_1
     try clear hcz30_2
     try clear hcz31_0
     try clear hcz31_1
     try clear hcz32_0
     try clear hcz32_1
     try clear hcz39_0
     try clear hcz39_1
     try clear hcz39_2
     try clear hfz13_0
     try clear hfz13_1
     try clear hfz14_0
     try clear hfz14_1
     try clear hfz23_0
     try clear hfz23_1
     try clear hfz24_0
     try clear hfz24_1
     try clear hfz30_0
     try clear hfz30_1
     try clear hfz30_2
     try clear hfz31_0
     try clear hfz31_1
     try clear hfz32_0
     try clear hfz32_1
     try clear hfz39_0
     try clear hfz39_1
     try clear hfz39_2
     try clear p2
     obtain ⟨x35_2, x339000_2, x339001_2, x339002_2, x345000_2, x345001_2, x345002_2, u339000, u345000, rfl, HA, HK2, HO_339000, HO_345000, BK326, BK327, BK338, BK344, HB⟩ := hrel
     cases gk with
     | zero => exact absurd HA.out (by simp [ropewaylaw16_FrontSteps.l0])
     | succ k2 =>
      have H := HA.out
      clear HA
      simp only [ropewaylaw16_FrontSteps.l0] at H
      by_cases c40 : x35_2 < (l2.length : Int)
      rotate_left
      · rw [if_neg c40] at H
        have c40b0 : decide (x35_2 < (l2.length : Int)) = false := decide_eq_false c40
        clear c40
        obtain rfl := Option.some.inj H
        go_wp2
        go_ret
        exact ⟨by first | rfl | (simp [errW_none, errW_some] <;> rfl) | (simp [*, errW_none, errW_some] <;> rfl), bel_⟩
      rw [if_pos c40] at H
      have c40b0 : decide (x35_2 < (l2.length : Int)) = true := decide_eq_true c40
      clear c40
      by_cases c41 : 0 ≤ x35_2
      rotate_left
      · rw [if_neg c41] at H
        exact absurd H (by simp)
      rw [if_pos c41] at H
      have c41b0 : decide (0 ≤ x35_2) = true := decide_eq_true c41
      clear c41
      by_cases c42 : x35_2 < (l2.length : Int)
      rotate_left
      · rw [if_neg c42] at H
        exact absurd H (by simp)
      rw [if_pos c42] at H
      have c42b0 : decide (x35_2 < (l2.length : Int)) = true := decide_eq_true c42
      clear c42
      have HC43 := zM H
      clear H
      have p345 : 0 ≤ (x35_2 : Int) := of_decide_eq_true (by first | (with_reducible assumption) | assumption)
      have q345 : x35_2 < (l2.length : Int) := of_decide_eq_true (by first | (with_reducible assumption) | assumption)
      obtain ⟨ad345, A345_1, c345_1, e345, hx345_0, hx345_1, hl345_1, hi345_1⟩ := at_T37 HR2.out x35_2 p345 q345
      cases e345
      replace hx345_0 := (HB.out.cell (World.block_lt_of_cell? w _ hx345_0)).trans hx345_0
      replace hx345_1 := (HB.out.cell (World.block_lt_of_cell? w _ hx345_1)).trans hx345_1
      have HR345_1 := zM hi345_1
      have HC345_1 := zM hl345_1
      clear hi345_1 hl345_1
      replace p345 := eq_true p345
      replace q345 := eq_true q345
      go_upto_region 10 with (first | ((with_reducible refine gate_dst (N := 10) rfl ?_); (try (refine gate_guard (by rfl) ?_; dsimp only)); refine box_event ?hg (N := 10) ?hd (cs := #[.int .i64 0, .slice none 0 0]) (t := 37) ?hr ?_; (case hd => rfl); (case hg => rfl); (case hr => first | (go_simp; done) | (go_simp; rfl)); intro gb346 hg w44 hbox hb; replace HO_339000 := zM (Kd.R_below (rl_ HO_339000) hb); replace HO_345000 := zM (Kd.R_below (rl_ HO_345000) hb); have BK346 := zM (hbox); have GW346 := zM (bs_ hg); have GE346 := zM (bs_ hg); replace HB := zM (zB bel_ hb); have NB326_346 := zM (nl_ BK326 hg); have NB346_326 := zM (ng_ BK326 hg); replace BK326 := zM (bb_ BK326 hb); have NB327_346 := zM (nl_ BK327 hg); have NB346_327 := zM (ng_ BK327 hg); replace BK327 := zM (bb_ BK327 hb); have NB338_346 := zM (nl_ BK338 hg); have NB346_338 := zM (ng_ BK338 hg); replace BK338 := zM (bb_ BK338 hb); have NB344_346 := zM (nl_ BK344 hg); have NB346_344 := zM (ng_ BK344 hg); replace BK344 := zM (bb_ BK344 hb); clear hb hbox hg; have hnb45 := NB346_326.out; have hnc45 := NB326_346.out; have hnb46 := NB346_327.out; have hnc46 := NB327_346.out; have hnb47 := NB346_338.out; have hnc47 := NB338_346.out; have hnb48 := NB346_344.out; have hnc48 := NB344_346.out; have hcz49_0 : w44.cell? ⟨gb346, 0, none⟩ = some (.int .i64 0) := (zL BK346.out 0).trans rfl; have hcz49_1 : w44.cell? ⟨gb346, 1, none⟩ = some (.slice none 0 0) := (zL BK346.out 1).trans rfl; have hfz49_0 := zF BK346.out 0; have hfz49_1 := zF BK346.out 1))
      (try simp only [Act.put, zS, zZ, zC])
      go_cut [53] (fun v53 wc => ∃ (kq : Nat) (x53_42 : Bool), v53 = .bool x53_42 ∧ Aside0 (ropewaylaw16_FrontSteps.j2 kq l2 (l2.length : Int) x35_2 x53_42 x339000_2 x339001_2 x339002_2 x345000_2 x345001_2 x345002_2 ((rd_T37 l2 x35_2).f0) ((rd_T37 l2 x35_2).f1) = some r) ∧ Aside0 (kq ≤ k2) ∧ Aside0 (Kd.R k24 24 wc w.heap.size (fun k_ => some k_ ≠ (u345000 : Value).ownBlock ∧ k_ ≠ gb326 ∧ k_ ≠ gb327) u339000 x339000_2) ∧ Aside0 (Kd.R k24 24 wc w.heap.size (fun k_ => some k_ ≠ (u339000 : Value).ownBlock ∧ k_ ≠ gb326 ∧ k_ ≠ gb327) u345000 x345000_2) ∧ Aside0 (wc.heap[gb326]? = some (.cells #[.int .i64 a0_0, .int .i64 a0_1] 24 (0, 0))) ∧ Aside0 (wc.heap[gb327]? = some (.cells #[.int .i64 a1_0, .int .i64 a1_1] 24 (0, 0))) ∧ Aside0 (wc.heap[gb338]? = some (.cells #[u339000, .int .i64 x339001_2, .int .i64 x339002_2] 26 (0, 0))) ∧ Aside0 (wc.heap[gb344]? = some (.cells #[u345000, .int .i64 x345001_2, .int .i64 x345002_2] 34 (0, 0))) ∧ Aside0 (wc.heap[gb346]? = some (.cells #[.int .i64 ((rd_T37 l2 x35_2).f0), (.slice A345_1 ((rd_T37 l2 x35_2).f1).length c345_1)] 37 (0, 0))) ∧ Aside0 (Below w.heap.size w wc))
      case first =>
       have H := HC43.out
       clear HC43
       by_cases c50 : ((rd_T37 l2 x35_2).f0) < 0
       · rw [if_pos c50] at H
         have c50b0 : decide (((rd_T37 l2 x35_2).f0) < 0) = true := decide_eq_true c50
         clear c50
         (first | rw [c50b0] | (simp only [i64_w, i32_w]; rw [c50b0]) | skip)
         have H' := zM H
         clear H
         have hnb51 := NB346_326.out
         have hnc51 := NB326_346.out
         have hnb52 := NB346_327.out
         have hnc52 := NB327_346.out
         have hnb53 := NB346_338.out
         have hnc53 := NB338_346.out
         have hnb54 := NB346_344.out
         have hnc54 := NB344_346.out
         have hcz55_0 : w44.cell? ⟨gb346, 0, none⟩ = some (.int .i64 0) := (zL BK346.out 0).trans rfl
         have hcz55_1 : w44.cell? ⟨gb346, 1, none⟩ = some (.slice none 0 0) := (zL BK346.out 1).trans rfl
         have hfz55_0 := zF BK346.out 0
         have hfz55_1 := zF BK346.out 1
         go_wp2
         go_meet
         case rel => exact ⟨_, (true), (by first | rfl | (simp; done) | (simp [*]; done) | (simp; grind)), H', ⟨by have := HJ5.out; have := HK2.out; first | omega | exact Nat.le_refl _⟩, ⟨by (with_reducible repeat (first | apply Kd.R_alloc | apply Kd.R_drewN | apply Kd.R_drew)); exact Kd.R_mono (Kd.R_far (p := ⟨gb346, 1, none⟩) (Kd.R_far (p := ⟨gb346, 0, none⟩) (Kd.R_types HO_339000.out BK346.out (by decide)) (fun _ hk => hk.2) (.int .i64 ((rd_T37 l2 x35_2).f0))) (fun _ hk => hk.2) (.slice A345_1 ((rd_T37 l2 x35_2).f1).length c345_1)) (fun _ hk => ⟨hk.1.1, ⟨hk.1.2.1, hk.1.2.2⟩⟩)⟩, ⟨by (with_reducible repeat (first | apply Kd.R_alloc | apply Kd.R_drewN | apply Kd.R_drew)); exact Kd.R_mono (Kd.R_far (p := ⟨gb346, 1, none⟩) (Kd.R_far (p := ⟨gb346, 0, none⟩) (Kd.R_types HO_345000.out BK346.out (by decide)) (fun _ hk => hk.2) (.int .i64 ((rd_T37 l2 x35_2).f0))) (fun _ hk => hk.2) (.slice A345_1 ((rd_T37 l2 x35_2).f1).length c345_1)) (fun _ hk => ⟨hk.1.1, ⟨hk.1.2.1, hk.1.2.2⟩⟩)⟩, ⟨blf_⟩, ⟨blf_⟩, ⟨blf_⟩, ⟨blf_⟩, ⟨by (with_reducible repeat (first | refine zN ?_ _ | refine zD ?_ | refine zA ?_ _)); refine blk_put (cs := #[.int .i64 ((rd_T37 l2 x35_2).f0), .slice none 0 0]) ?_ 1 _ rfl; (with_reducible repeat (first | refine zN ?_ _ | refine zD ?_ | refine zA ?_ _)); refine blk_put (cs := #[.int .i64 0, .slice none 0 0]) ?_ 0 _ rfl; (with_reducible repeat (first | refine zN ?_ _ | refine zD ?_ | refine zA ?_ _)); exact BK346.out⟩, ⟨bel_⟩⟩
       rw [if_neg c50] at H
       have c50b0 : decide (((rd_T37 l2 x35_2).f0) < 0) = false := decide_eq_false c50
       clear c50
       (first | rw [c50b0] | (simp only [i64_w, i32_w]; rw [c50b0]) | skip)
       by_cases c56 : (((rd_T37 l2 x35_2).f1).length : Int) > 10
       · rw [if_pos c56] at H
         have c56b0 : decide (10 < (((rd_T37 l2 x35_2).f1).length : Int)) = true := decide_eq_true c56
         have c56b1 : decide (10 < ((rd_T37 l2 x35_2).f1).length) = true := decide_eq_true (by omega)
         clear c56
         have H' := zM H
         clear H
         have hnb57 := NB346_326.out
         have hnc57 := NB326_346.out
         have hnb58 := NB346_327.out
         have hnc58 := NB327_346.out
         have hnb59 := NB346_338.out
         have hnc59 := NB338_346.out
         have hnb60 := NB346_344.out
         have hnc60 := NB344_346.out
         have hcz61_0 : w44.cell? ⟨gb346, 0, none⟩ = some (.int .i64 0) := (zL BK346.out 0).trans rfl
         have hcz61_1 : w44.cell? ⟨gb346, 1, none⟩ = some (.slice none 0 0) := (zL BK346.out 1).trans rfl
         have hfz61_0 := zF BK346.out 0
         have hfz61_1 := zF BK346.out 1
         go_wp2
         go_meet
         case rel => exact ⟨_, (true), (by first | rfl | (simp; done) | (simp [*]; done) | (simp; grind)), H', ⟨by have := HJ5.out; have := HK2.out; first | omega | exact Nat.le_refl _⟩, ⟨by (with_reducible repeat (first | apply Kd.R_alloc | apply Kd.R_drewN | apply Kd.R_drew)); exact Kd.R_mono (Kd.R_far (p := ⟨gb346, 1, none⟩) (Kd.R_far (p := ⟨gb346, 0, none⟩) (Kd.R_types HO_339000.out BK346.out (by decide)) (fun _ hk => hk.2) (.int .i64 ((rd_T37 l2 x35_2).f0))) (fun _ hk => hk.2) (.slice A345_1 ((rd_T37 l2 x35_2).f1).length c345_1)) (fun _ hk => ⟨hk.1.1, ⟨hk.1.2.1, hk.1.2.2⟩⟩)⟩, ⟨by (with_reducible repeat (first | apply Kd.R_alloc | apply Kd.R_drewN | apply Kd.R_drew)); exact Kd.R_mono (Kd.R_far (p := ⟨gb346, 1, none⟩) (Kd.R_far (p := ⟨gb346, 0, none⟩) (Kd.R_types HO_345000.out BK346.out (by decide)) (fun _ hk => hk.2) (.int .i64 ((rd_T37 l2 x35_2).f0))) (fun _ hk => hk.2) (.slice A345_1 ((rd_T37 l2 x35_2).f1).length c345_1)) (fun _ hk => ⟨hk.1.1, ⟨hk.1.2.1, hk.1.2.2⟩⟩)⟩, ⟨blf_⟩, ⟨blf_⟩, ⟨blf_⟩, ⟨blf_⟩, ⟨by (with_reducible repeat (first | refine zN ?_ _ | refine zD ?_ | refine zA ?_ _)); refine blk_put (cs := #[.int .i64 ((rd_T37 l2 x35_2).f0), .slice none 0 0]) ?_ 1 _ rfl; (with_reducible repeat (first | refine zN ?_ _ | refine zD ?_ | refine zA ?_ _)); refine blk_put (cs := #[.int .i64 0, .slice none 0 0]) ?_ 0 _ rfl; (with_reducible repeat (first | refine zN ?_ _ | refine zD ?_ | refine zA ?_ _)); exact BK346.out⟩, ⟨bel_⟩⟩
       rw [if_neg c56] at H
       have c56b0 : decide (10 < (((rd_T37 l2 x35_2).f1).length : Int)) = false := decide_eq_false c56
       have c56b1 : decide (10 < ((rd_T37 l2 x35_2).f1).length) = false := decide_eq_false (by omega)
       clear c56
       replace H := Option.bind_eq_some_iff.mp H
       obtain ⟨t347, A620, H⟩ := H
       replace H : (ropewaylaw16_FrontSteps.j2 k2 l2 (l2.length : Int) x35_2 (!t347) x339000_2 x339001_2 x339002_2 x345000_2 x345001_2 x345002_2 ((rd_T37 l2 x35_2).f0) ((rd_T37 l2 x35_2).f1)) = some r := H
       have A62 := zM A620
       clear A620
       have H' := zM H
       clear H
       have hnb63 := NB346_326.out
       have hnc63 := NB326_346.out
       have hnb64 := NB346_327.out
       have hnc64 := NB327_346.out
       have hnb65 := NB346_338.out
       have hnc65 := NB338_346.out
       have hnb66 := NB346_344.out
       have hnc66 := NB344_346.out
       have hcz67_0 : w44.cell? ⟨gb346, 0, none⟩ = some (.int .i64 0) := (zL BK346.out 0).trans rfl
       have hcz67_1 : w44.cell? ⟨gb346, 1, none⟩ = some (.slice none 0 0) := (zL BK346.out 1).trans rfl
       have hfz67_0 := zF BK346.out 0
       have hfz67_1 := zF BK346.out 1
       go_wp2_with (first | (go_at_call 12; (with_reducible refine (ropewaylaw16_right.calls k2 _ _ ((rd_T37 l2 x35_2).f1) t347 _ ?side1 ?side2 A62.out).mono ?_); (case side1 => exact Kd.C_below HR345_1.out bel_); (case side2 => exact HC345_1.out); rintro e w68 ⟨rfl, hb⟩; have n0_ := zM (Kd.R_below (by (with_reducible repeat (first | apply Kd.R_alloc | apply Kd.R_drewN | apply Kd.R_drew)); exact (Kd.R_mono (Kd.R_far (p := ⟨gb346, 1, none⟩) (Kd.R_far (p := ⟨gb346, 0, none⟩) (Kd.R_types HO_339000.out BK346.out (by decide)) (fun _ hk => hk.2) (.int .i64 ((rd_T37 l2 x35_2).f0))) (fun _ hk => hk.2) (.slice A345_1 ((rd_T37 l2 x35_2).f1).length c345_1)) (fun _ h_ => h_.1))) hb); have n1_ := zM (Kd.R_below (by (with_reducible repeat (first | apply Kd.R_alloc | apply Kd.R_drewN | apply Kd.R_drew)); exact (Kd.R_mono (Kd.R_far (p := ⟨gb346, 1, none⟩) (Kd.R_far (p := ⟨gb346, 0, none⟩) (Kd.R_types HO_345000.out BK346.out (by decide)) (fun _ hk => hk.2) (.int .i64 ((rd_T37 l2 x35_2).f0))) (fun _ hk => hk.2) (.slice A345_1 ((rd_T37 l2 x35_2).f1).length c345_1)) (fun _ h_ => h_.1))) hb); have n2_ := zM (blk_below (g := gb326) (o := .cells #[.int .i64 a0_0, .int .i64 a0_1] 24 (0, 0)) blf_ hb); have n3_ := zM (blk_below (g := gb327) (o := .cells #[.int .i64 a1_0, .int .i64 a1_1] 24 (0, 0)) blf_ hb); have n4_ := zM (blk_below (g := gb338) (o := .cells #[u339000, .int .i64 x339001_2, .int .i64 x339002_2] 26 (0, 0)) blf_ hb); have n5_ := zM (blk_below (g := gb344) (o := .cells #[u345000, .int .i64 x345001_2, .int .i64 x345002_2] 34 (0, 0)) blf_ hb); have n6_ := zM (blk_below (g := gb346) (o := .cells #[.int .i64 ((rd_T37 l2 x35_2).f0), .slice A345_1 ((rd_T37 l2 x35_2).f1).length c345_1] 37 (0, 0)) (by (with_reducible repeat (first | refine zN ?_ _ | refine zD ?_ | refine zA ?_ _)); refine blk_put (cs := #[.int .i64 ((rd_T37 l2 x35_2).f0), .slice none 0 0]) ?_ 1 _ rfl; (with_reducible repeat (first | refine zN ?_ _ | refine zD ?_ | refine zA ?_ _)); refine blk_put (cs := #[.int .i64 0, .slice none 0 0]) ?_ 0 _ rfl; (with_reducible repeat (first | refine zN ?_ _ | refine zD ?_ | refine zA ?_ _)); exact BK346.out) hb); have n7_ := zM (zB bel_ hb); clear HO_339000; clear HO_345000; clear BK326; clear BK327; clear BK338; clear BK344; clear BK346; clear HB; have HO_339000 := n0_; have HO_345000 := n1_; have BK326 := n2_; have BK327 := n3_; have BK338 := n4_; have BK344 := n5_; have BK346 := n6_; have HB := n7_; clear n0_ n1_ n2_ n3_ n4_ n5_ n6_ n7_; (try clear hb); (try clear hb2); (try clear hk); (try clear hi)))
       go_meet
       case rel => exact ⟨_, (!t347), (by first | rfl | (simp; done) | (simp [*]; done) | (simp; grind)), H', ⟨by have := HJ5.out; have := HK2.out; first | omega | exact Nat.le_refl _⟩, ⟨by (with_reducible repeat (first | apply Kd.R_alloc | apply Kd.R_drewN | apply Kd.R_drew)); exact HO_339000.out⟩, ⟨by (with_reducible repeat (first | apply Kd.R_alloc | apply Kd.R_drewN | apply Kd.R_drew)); exact HO_345000.out⟩, ⟨blf_⟩, ⟨blf_⟩, ⟨blf_⟩, ⟨blf_⟩, ⟨blf_⟩, ⟨bel_⟩⟩
      case rest =>
       clear HC43
       try clear c1
       try clear c2
       try clear p2
       try clear c3
       try clear p3
       try clear q3
       try clear hx3
       try clear c4
       try clear c5
       try clear c6
       try clear c7
       try clear c8
       try clear c10
       try clear c10b0
       try clear c10b1
       try clear c12
       try clear c13
       try clear c19
       try clear c22
       try clear c28
       try clear c29
       try clear c34
       try clear p34
       try clear q34
       try clear hx34
       try clear c36
       try clear c37
       try clear c38
       try clear c40
       try clear c40b0
       try clear c41
       try clear c41b0
       try clear c42
       try clear c42b0
       try clear c45
       try clear c46
       try clear c47
       try clear c48
       try clear c50
       try clear c50b0
       try clear c51
       try clear c52
       try clear c53
       try clear c54
       try clear c56
       try clear c56b0
       try clear c56b1
       try clear c57
       try clear c58
       try clear c59
       try clear c60
       try clear c63
       try clear c64
       try clear c65
       try clear c66
       try clear hcz13_0
       try clear hcz13_1
       try clear hcz14_0
       try clear hcz14_1
       try clear hcz23_0
       try clear hcz23_1
       try clear hcz24_0
       try clear hcz24_1
       try clear hcz30_0
       try clear hcz30_1
       try clear hcz30_2
       try clear hcz31_0
       try clear hcz31_1
       try clear hcz32_0
       try clear hcz32_1
       try clear hcz39_0
       try clear hcz39_1
       try clear hcz39_2
       try clear hcz49_0
       try clear hcz49_1
       try clear hcz55_0
       try clear hcz55_1
       try clear hcz61_0
       try clear hcz61_1
       try clear hcz67_0
       try clear hcz67_1
       try clear hfz13_0
       try clear hfz13_1
       try clear hfz14_0
       try clear hfz14_1
       try clear hfz23_0
       try clear hfz23_1
       try clear hfz24_0
       try clear hfz24_1
       try clear hfz30_0
       try clear hfz30_1
       try clear hfz30_2
       try clear hfz31_0
       try clear hfz31_1
       try clear hfz32_0
       try clear hfz32_1
       try clear hfz39_0
       try clear hfz39_1
       try clear hfz39_2
       try clear hfz49_0
       try clear hfz49_1
       try clear hfz55_0
       try clear hfz55_1
       try clear hfz61_0
       try clear hfz61_1
       try clear hfz67_0
       try clear hfz67_1
       try clear hx345_0
       try clear hx345_1
       try clear p2
       try clear p345
       try clear q345
       obtain ⟨kq, x53_42, rfl, HA, HJ42, HO_339000, HO_345000, BK326, BK327, BK338, BK344, BK346, HB⟩ := hcut
       cases kq with
       | zero => exact absurd HA.out (by simp [ropewaylaw16_FrontSteps.j2])
       | succ kj42 =>
        have H := HA.out
        clear HA
        simp only [ropewaylaw16_FrontSteps.j2] at H
        by_cases c69 : x53_42 = true
        · subst c69
          have H1 : (some true) = some r := by rw [if_pos rfl] at H; exact H
          clear H
          have H := H1
          clear H1
          obtain rfl := Option.some.inj H
          go_wp2
          go_ret
          exact ⟨by first | rfl | (simp [errW_none, errW_some] <;> rfl) | (simp [*, errW_none, errW_some] <;> rfl), bel_⟩
        replace c69 := Bool.eq_false_iff.mpr c69
        subst c69
        have H1 : (if (x345000_2.length : Int) = 0 then (none) else (if 0 ≤ (Int.tmod ((rd_T37 l2 x35_2).f0) (x345000_2.length : Int)) then (if (Int.tmod ((rd_T37 l2 x35_2).f0) (x345000_2.length : Int)) < (x345000_2.length : Int) then ((some (([] : List (S24)) : List (S24))).bind fun y350 => (if y350.length + ((rd_T37 l2 x35_2).f1).length < 8796093022208 then ((some (y350 ++ ((rd_T37 l2 x35_2).f1) : List (S24))).bind fun y353 => ((front_Step.f kj42 x339000_2 x339001_2 x339002_2 ((rd_T24 x345000_2 (Int.tmod ((rd_T37 l2 x35_2).f0) (x345000_2.length : Int))).f0) ((rd_T24 x345000_2 (Int.tmod ((rd_T37 l2 x35_2).f0) (x345000_2.length : Int))).f1) y353).bind fun bt356 => ((ropewayref05_Same.f kj42 x339000_2 x345000_2).bind fun t362 => (if t362 = true then (if (!(x339001_2 == x345001_2) || (!(x339002_2 == x345002_2))) = true then (ropewaylaw16_FrontSteps.j3 kj42 l2 (l2.length : Int) x35_2 true x345000_2 x345001_2 x345002_2 ((rd_T37 l2 x35_2).f0) ((rd_T37 l2 x35_2).f1) ((rd_T24 x345000_2 (Int.tmod ((rd_T37 l2 x35_2).f0) (x345000_2.length : Int))).f0) ((rd_T24 x345000_2 (Int.tmod ((rd_T37 l2 x35_2).f0) (x345000_2.length : Int))).f1) bt356.1 bt356.2.1 bt356.2.2) else ((ropewayref05_Same.f kj42 y353 ((rd_T37 l2 x35_2).f1)).bind fun t363 => (ropewaylaw16_FrontSteps.j3 kj42 l2 (l2.length : Int) x35_2 (!t363) x345000_2 x345001_2 x345002_2 ((rd_T37 l2 x35_2).f0) ((rd_T37 l2 x35_2).f1) ((rd_T24 x345000_2 (Int.tmod ((rd_T37 l2 x35_2).f0) (x345000_2.length : Int))).f0) ((rd_T24 x345000_2 (Int.tmod ((rd_T37 l2 x35_2).f0) (x345000_2.length : Int))).f1) bt356.1 bt356.2.1 bt356.2.2))) else (ropewaylaw16_FrontSteps.j3 kj42 l2 (l2.length : Int) x35_2 true x345000_2 x345001_2 x345002_2 ((rd_T37 l2 x35_2).f0) ((rd_T37 l2 x35_2).f1) ((rd_T24 x345000_2 (Int.tmod ((rd_T37 l2 x35_2).f0) (x345000_2.length : Int))).f0) ((rd_T24 x345000_2 (Int.tmod ((rd_T37 l2 x35_2).f0) (x345000_2.length : Int))).f1) bt356.1 bt356.2.1 bt356.2.2))))) else (none))) else (none)) else (none))) = some r := by rw [if_neg (show ¬ (false = true) by decide)] at H; exact H
        clear H
        have H := H1
        clear H1
        by_cases c70 : (x345000_2.length : Int) = 0
        · rw [if_pos c70] at H
          exact absurd H (by simp)
        rw [if_neg c70] at H
        have c70b0 : ((x345000_2.length : Int) == 0) = false := beq_eq_false_iff_ne.mpr c70
        have c70b1 : ((x345000_2.length : Int) != 0) = true := bne_iff_ne.mpr c70
        have c70b2 : ¬ (x345000_2 = []) := fun h_ => c70 (by rw [h_]; rfl)
        obtain ⟨ji71, hji71⟩ : ∃ j_ : Int, (Int.tmod ((rd_T37 l2 x35_2).f0) (x345000_2.length : Int)) = j_ := ⟨_, rfl⟩
        replace H : (if 0 ≤ (ji71) then (if (ji71) < (x345000_2.length : Int) then ((some (([] : List (S24)) : List (S24))).bind fun y350 => (if y350.length + ((rd_T37 l2 x35_2).f1).length < 8796093022208 then ((some (y350 ++ ((rd_T37 l2 x35_2).f1) : List (S24))).bind fun y353 => ((front_Step.f kj42 x339000_2 x339001_2 x339002_2 ((rd_T24 x345000_2 (ji71)).f0) ((rd_T24 x345000_2 (ji71)).f1) y353).bind fun bt356 => ((ropewayref05_Same.f kj42 x339000_2 x345000_2).bind fun t362 => (if t362 = true then (if (!(x339001_2 == x345001_2) || (!(x339002_2 == x345002_2))) = true then (ropewaylaw16_FrontSteps.j3 kj42 l2 (l2.length : Int) x35_2 true x345000_2 x345001_2 x345002_2 ((rd_T37 l2 x35_2).f0) ((rd_T37 l2 x35_2).f1) ((rd_T24 x345000_2 (ji71)).f0) ((rd_T24 x345000_2 (ji71)).f1) bt356.1 bt356.2.1 bt356.2.2) else ((ropewayref05_Same.f kj42 y353 ((rd_T37 l2 x35_2).f1)).bind fun t363 => (ropewaylaw16_FrontSteps.j3 kj42 l2 (l2.length : Int) x35_2 (!t363) x345000_2 x345001_2 x345002_2 ((rd_T37 l2 x35_2).f0) ((rd_T37 l2 x35_2).f1) ((rd_T24 x345000_2 (ji71)).f0) ((rd_T24 x345000_2 (ji71)).f1) bt356.1 bt356.2.1 bt356.2.2))) else (ropewaylaw16_FrontSteps.j3 kj42 l2 (l2.length : Int) x35_2 true x345000_2 x345001_2 x345002_2 ((rd_T37 l2 x35_2).f0) ((rd_T37 l2 x35_2).f1) ((rd_T24 x345000_2 (ji71)).f0) ((rd_T24 x345000_2 (ji71)).f1) bt356.1 bt356.2.1 bt356.2.2))))) else (none))) else (none)) else (none)) = some r := by first | (rw [hji71] at H; exact H) | (simp only [hji71] at H ⊢; exact H)
        by_cases c72 : 0 ≤ (ji71)
        rotate_left
        · rw [if_neg c72] at H
          exact absurd H (by simp)
        rw [if_pos c72] at H
        have c72b0 : decide (0 ≤ (ji71)) = true := decide_eq_true c72
        clear c72
        by_cases c73 : (ji71) < (x345000_2.length : Int)
        rotate_left
        · rw [if_neg c73] at H
          exact absurd H (by simp)
        rw [if_pos c73] at H
        have c73b0 : decide ((ji71) < (x345000_2.length : Int)) = true := decide_eq_true c73
        clear c73
        obtain ⟨y350, hy350⟩ : ∃ y_ : List (S24), y_ = (([] : List (S24))) := ⟨_, rfl⟩
        replace H : (if y350.length + ((rd_T37 l2 x35_2).f1).length < 8796093022208 then ((some (y350 ++ ((rd_T37 l2 x35_2).f1) : List (S24))).bind fun y353 => ((front_Step.f kj42 x339000_2 x339001_2 x339002_2 ((rd_T24 x345000_2 (ji71)).f0) ((rd_T24 x345000_2 (ji71)).f1) y353).bind fun bt356 => ((ropewayref05_Same.f kj42 x339000_2 x345000_2).bind fun t362 => (if t362 = true then (if (!(x339001_2 == x345001_2) || (!(x339002_2 == x345002_2))) = true then (ropewaylaw16_FrontSteps.j3 kj42 l2 (l2.length : Int) x35_2 true x345000_2 x345001_2 x345002_2 ((rd_T37 l2 x35_2).f0) ((rd_T37 l2 x35_2).f1) ((rd_T24 x345000_2 (ji71)).f0) ((rd_T24 x345000_2 (ji71)).f1) bt356.1 bt356.2.1 bt356.2.2) else ((ropewayref05_Same.f kj42 y353 ((rd_T37 l2 x35_2).f1)).bind fun t363 => (ropewaylaw16_FrontSteps.j3 kj42 l2 (l2.length : Int) x35_2 (!t363) x345000_2 x345001_2 x345002_2 ((rd_T37 l2 x35_2).f0) ((rd_T37 l2 x35_2).f1) ((rd_T24 x345000_2 (ji71)).f0) ((rd_T24 x345000_2 (ji71)).f1) bt356.1 bt356.2.1 bt356.2.2))) else (ropewaylaw16_FrontSteps.j3 kj42 l2 (l2.length : Int) x35_2 true x345000_2 x345001_2 x345002_2 ((rd_T37 l2 x35_2).f0) ((rd_T37 l2 x35_2).f1) ((rd_T24 x345000_2 (ji71)).f0) ((rd_T24 x345000_2 (ji71)).f1) bt356.1 bt356.2.1 bt356.2.2))))) else (none)) = some r := by first | (rw [hy350]; with_reducible exact H) | (have H2_ := (Option.bind_some _ _).symm.trans H; rw [hy350]; with_reducible exact H2_) | (have H2_ := (Option.bind_some _ _).symm.trans H; with_reducible exact H2_) | with_reducible exact H | (rw [hy350]; exact H) | exact H
        have Ny350 := zM hy350
        clear hy350
        by_cases c74 : y350.length + ((rd_T37 l2 x35_2).f1).length < 8796093022208
        rotate_left
        · rw [if_neg c74] at H
          exact absurd H (by simp)
        rw [if_pos c74] at H
        have LMc74 := zM c74
        clear c74
        obtain ⟨y353, hy353⟩ : ∃ y_ : List (S24), y_ = (y350 ++ ((rd_T37 l2 x35_2).f1)) := ⟨_, rfl⟩
        replace H : ((front_Step.f kj42 x339000_2 x339001_2 x339002_2 ((rd_T24 x345000_2 (ji71)).f0) ((rd_T24 x345000_2 (ji71)).f1) y353).bind fun bt356 => ((ropewayref05_Same.f kj42 x339000_2 x345000_2).bind fun t362 => (if t362 = true then (if (!(x339001_2 == x345001_2) || (!(x339002_2 == x345002_2))) = true then (ropewaylaw16_FrontSteps.j3 kj42 l2 (l2.length : Int) x35_2 true x345000_2 x345001_2 x345002_2 ((rd_T37 l2 x35_2).f0) ((rd_T37 l2 x35_2).f1) ((rd_T24 x345000_2 (ji71)).f0) ((rd_T24 x345000_2 (ji71)).f1) bt356.1 bt356.2.1 bt356.2.2) else ((ropewayref05_Same.f kj42 y353 ((rd_T37 l2 x35_2).f1)).bind fun t363 => (ropewaylaw16_FrontSteps.j3 kj42 l2 (l2.length : Int) x35_2 (!t363) x345000_2 x345001_2 x345002_2 ((rd_T37 l2 x35_2).f0) ((rd_T37 l2 x35_2).f1) ((rd_T24 x345000_2 (ji71)).f0) ((rd_T24 x345000_2 (ji71)).f1) bt356.1 bt356.2.1 bt356.2.2))) else (ropewaylaw16_FrontSteps.j3 kj42 l2 (l2.length : Int) x35_2 true x345000_2 x345001_2 x345002_2 ((rd_T37 l2 x35_2).f0) ((rd_T37 l2 x35_2).f1) ((rd_T24 x345000_2 (ji71)).f0) ((rd_T24 x345000_2 (ji71)).f1) bt356.1 bt356.2.1 bt356.2.2)))) = some r := by first | (rw [hy353]; with_reducible exact H) | (have H2_ := (Option.bind_some _ _).symm.trans H; rw [hy353]; with_reducible exact H2_) | (have H2_ := (Option.bind_some _ _).symm.trans H; with_reducible exact H2_) | with_reducible exact H | (rw [hy353]; exact H) | exact H
        have Ny353 := zM hy353
        clear hy353
        replace H := Option.bind_eq_some_iff.mp H
        obtain ⟨⟨t356, t359, t360⟩, A750, H⟩ := H
        replace H : ((ropewayref05_Same.f kj42 x339000_2 x345000_2).bind fun t362 => (if t362 = true then (if (!(x339001_2 == x345001_2) || (!(x339002_2 == x345002_2))) = true then (ropewaylaw16_FrontSteps.j3 kj42 l2 (l2.length : Int) x35_2 true x345000_2 x345001_2 x345002_2 ((rd_T37 l2 x35_2).f0) ((rd_T37 l2 x35_2).f1) ((rd_T24 x345000_2 (ji71)).f0) ((rd_T24 x345000_2 (ji71)).f1) t356 t359 t360) else ((ropewayref05_Same.f kj42 y353 ((rd_T37 l2 x35_2).f1)).bind fun t363 => (ropewaylaw16_FrontSteps.j3 kj42 l2 (l2.length : Int) x35_2 (!t363) x345000_2 x345001_2 x345002_2 ((rd_T37 l2 x35_2).f0) ((rd_T37 l2 x35_2).f1) ((rd_T24 x345000_2 (ji71)).f0) ((rd_T24 x345000_2 (ji71)).f1) t356 t359 t360))) else (ropewaylaw16_FrontSteps.j3 kj42 l2 (l2.length : Int) x35_2 true x345000_2 x345001_2 x345002_2 ((rd_T37 l2 x35_2).f0) ((rd_T37 l2 x35_2).f1) ((rd_T24 x345000_2 (ji71)).f0) ((rd_T24 x345000_2 (ji71)).f1) t356 t359 t360))) = some r := H
        have A75 := zM A750
        clear A750
        have HC76 := zM H
        clear H
        try go_wp2
        replace HO_339000 := zM (Kd.R_drew HO_339000.out)
        replace HO_345000 := zM (Kd.R_drew HO_345000.out)
        replace BK326 := zM (zD BK326.out)
        replace BK327 := zM (zD BK327.out)
        replace BK338 := zM (zD BK338.out)
        replace BK344 := zM (zD BK344.out)
        replace BK346 := zM (zD BK346.out)
        replace HB := zM (below_drew1 HB.out)
        obtain ⟨Ao78, co78, eo78⟩ := Kd.R_slice HO_345000.out
        (first | subst eo78 | (injection eo78 with f1_ f2_ f3_; have f4_ := f1_.symm; have f5_ := f3_.symm; clear f1_ f2_ f3_; subst f4_; subst f5_))
        have p348 : 0 ≤ ((ji71) : Int) := of_decide_eq_true (by first | (with_reducible assumption) | assumption)
        have q348 : (ji71) < (x345000_2.length : Int) := of_decide_eq_true (by first | (with_reducible assumption) | assumption)
        obtain ⟨ad348, e348, hx348_0, hx348_1⟩ := at_T24 (Kd.R_reads' HO_345000.out).2.2 (ji71) p348 q348
        cases e348
        replace p348 := eq_true p348
        replace q348 := eq_true q348
        refine start_ (n := 12) (S := fun w' => w'.cell? ⟨gb344, 0, none⟩ = some (.slice (some ad348) x345000_2.length co78) ∧ w'.cell? ⟨gb344, 1, none⟩ = some (.int .i64 x345001_2) ∧ w'.cell? ⟨gb344, 2, none⟩ = some (.int .i64 x345002_2) ∧ w'.cell? ⟨gb346, 0, none⟩ = some (.int .i64 ((rd_T37 l2 x35_2).f0)) ∧ w'.cell? ⟨gb346, 1, none⟩ = some (.slice A345_1 ((rd_T37 l2 x35_2).f1).length c345_1) ∧ w'.cell? (ad348.add (((ji71)).toNat * 2)) = some (.int .i64 ((rd_T24 x345000_2 (ji71)).f0)) ∧ w'.cell? ⟨(ad348.add (((ji71)).toNat * 2)).block, (ad348.add (((ji71)).toNat * 2)).off + 1, none⟩ = some (.int .i64 ((rd_T24 x345000_2 (ji71)).f1))) (ds := []) #[F_, F_, F_, F_, F_, F_, F_, F_, F_, F_, F_, F_] (by kernel_rfl) rfl rfl ⟨(zL BK344.out 0).trans rfl, (zL BK344.out 1).trans rfl, (zL BK344.out 2).trans rfl, (zL BK346.out 0).trans rfl, (zL BK346.out 1).trans rfl, hx348_0, hx348_1⟩ (fun hHeld => ?_); refine with_tabW ropewaylaw16_FrontSteps.tab12 ropewaylaw16_FrontSteps.bits12 (fun HT_ HW_ => ?_)
        generalize wc.drew = w77 at HO_339000 HO_345000 BK326 BK327 BK338 BK344 BK346 HB hx348_0 hx348_1 hHeld ⊢
        refine pure_ (i := 0) (N := some 54) (v := ?_) (a' := ?_) #[T_, F_, F_, F_, F_, F_, F_, F_, F_, F_, F_, F_] rfl rfl (any_of HT_.out (by kernel_rfl)) (fun _ _ _ h => h) (Or.inl ⟨by rfl, ?_⟩) ?_ ?_
        rotate_left
        · intro w'
          go_simp
          with_reducible rfl
        rotate_left
        · simp only [Act.put, zS, zZ, zC, i64_w, i32_w]
          rfl
        refine pure_ (i := 2) (N := some 56) (v := ?_) (a' := ?_) #[T_, F_, T_, F_, F_, F_, F_, F_, F_, F_, F_, F_] rfl rfl (any_of HT_.out (by kernel_rfl)) (fun _ _ _ h => h) (Or.inl ⟨by rfl, ?_⟩) ?_ ?_
        rotate_left
        · intro w'
          go_simp
          with_reducible rfl
        rotate_left
        · simp only [Act.put, zS, zZ, zC, i64_w, i32_w]
          rfl
        refine pure_ (i := 4) (N := some 58) (v := ?_) (a' := ?_) #[T_, F_, T_, F_, T_, F_, F_, F_, F_, F_, F_, F_] rfl rfl (any_of HT_.out (by kernel_rfl)) (fun _ _ _ h => h) (Or.inl ⟨by rfl, ?_⟩) ?_ ?_
        rotate_left
        · intro w'
          go_simp
          with_reducible rfl
        rotate_left
        · simp only [Act.put, zS, zZ, zC, i64_w, i32_w]
          rfl
        refine take_ (i := 1) (N := some 55) (v := ?_) (a' := ?_) #[T_, T_, T_, F_, T_, F_, F_, F_, F_, F_, F_, F_] rfl rfl (take_ofW HT_.out HW_.out (by kernel_rfl)) (fun _ _ _ h => h) (Or.inl ⟨by rfl, ?_⟩) hHeld ?_ ?_
        rotate_left
        · rintro w' ⟨s0, s1, s2, s3, s4, s5, s6⟩
          go_simp
          with_reducible rfl
        rotate_left
        · simp only [Act.put, zS, zZ, zC, i64_w, i32_w]
          rfl
        refine take_ (i := 3) (N := some 57) (v := ?_) (a' := ?_) #[T_, T_, T_, T_, T_, F_, F_, F_, F_, F_, F_, F_] rfl rfl (take_ofW HT_.out HW_.out (by kernel_rfl)) (fun _ _ _ h => h) (Or.inl ⟨by rfl, ?_⟩) hHeld ?_ ?_
        rotate_left
        · rintro w' ⟨s0, s1, s2, s3, s4, s5, s6⟩
          go_simp
          with_reducible rfl
        rotate_left
        · simp only [Act.put, zS, zZ, zC, i64_w, i32_w]
          rfl
        refine take_ (i := 5) (N := some 59) (v := ?_) (a' := ?_) #[T_, T_, T_, T_, T_, T_, F_, F_, F_, F_, F_, F_] rfl rfl (take_ofW HT_.out HW_.out (by kernel_rfl)) (fun _ _ _ h => h) (Or.inl ⟨by rfl, ?_⟩) hHeld ?_ ?_
        rotate_left
        · rintro w' ⟨s0, s1, s2, s3, s4, s5, s6⟩
          go_simp
          with_reducible rfl
        rotate_left
        · simp only [Act.put, zS, zZ, zC, i64_w, i32_w]
          rfl
        refine pure_ (i := 6) (N := some 60) (v := ?_) (a' := ?_) #[T_, T_, T_, T_, T_, T_, T_, F_, F_, F_, F_, F_] rfl rfl (any_of HT_.out (by kernel_rfl)) (fun _ _ _ h => h) (Or.inl ⟨by rfl, ?_⟩) ?_ ?_
        rotate_left
        · intro w'
          go_simp
          with_reducible rfl
        rotate_left
        · simp only [Act.put, zS, zZ, zC, i64_w, i32_w]
          rfl
        refine pure_ (i := 7) (N := some 61) (v := ?_) (a' := ?_) #[T_, T_, T_, T_, T_, T_, T_, T_, F_, F_, F_, F_] rfl rfl (any_of HT_.out (by kernel_rfl)) (fun _ _ _ h => h) (Or.inl ⟨by rfl, ?_⟩) ?_ ?_
        rotate_left
        · intro w'
          go_simp
          with_reducible rfl
        rotate_left
        · simp only [Act.put, zS, zZ, zC, i64_w, i32_w]
          rfl
        refine pure_ (i := 8) (N := some 62) (v := ?_) (a' := ?_) #[T_, T_, T_, T_, T_, T_, T_, T_, T_, F_, F_, F_] rfl rfl (any_of HT_.out (by kernel_rfl)) (fun _ _ _ h => h) (Or.inl ⟨by rfl, ?_⟩) ?_ ?_
        rotate_left
        · intro w'
          go_simp
          with_reducible rfl
        rotate_left
        · simp only [Act.put, zS, zZ, zC, i64_w, i32_w]
          rfl
        refine take_ (i := 9) (N := some 63) (v := ?_) (a' := ?_) #[T_, T_, T_, T_, T_, T_, T_, T_, T_, T_, F_, F_] rfl rfl (take_ofW HT_.out HW_.out (by kernel_rfl)) (fun _ _ _ h => h) (Or.inl ⟨by rfl, ?_⟩) hHeld ?_ ?_
        rotate_left
        · rintro w' ⟨s0, s1, s2, s3, s4, s5, s6⟩
          go_simp
          with_reducible rfl
        rotate_left
        · simp only [Act.put, zS, zZ, zC, i64_w, i32_w]
          rfl
        refine one_ (i := 10) (N := some 11) #[T_, T_, T_, T_, T_, T_, T_, T_, T_, T_, T_, F_] rfl rfl (one_of HT_.out (by kernel_rfl)) (by decide) (fun K hK => ?_)
        refine box_step ?hg (N := 11) ?hd (cs := #[.int .i64 0, .int .i64 0]) (t := 24) ?hr ?_; (case hd => rfl); (case hg => rfl); (case hr => first | (go_simp; done) | (go_simp; rfl))
        intro gb349 hg w79 hbox hb
        have HS5_ := (hb.cell (World.block_lt_of_cell? _ _ (hHeld.2.2.2.2.2.1))).trans (hHeld.2.2.2.2.2.1)
        have HS6_ := (hb.cell (World.block_lt_of_cell? _ _ (hHeld.2.2.2.2.2.2))).trans (hHeld.2.2.2.2.2.2)
        replace HO_339000 := zM (Kd.R_below (Kd.R_elderB (rl_ HO_339000) gb349 (Nat.le_of_eq hg.symm)) hb)
        replace HO_345000 := zM (Kd.R_below (Kd.R_elderB (rl_ HO_345000) gb349 (Nat.le_of_eq hg.symm)) hb)
        have BK349 := zM (hbox)
        have GW349 := zM (bs_ hg)
        have GE349 := zM (bs_ hg)
        replace HB := zM (zB bel_ hb)
        have NB326_349 := zM (nl_ BK326 hg)
        have NB349_326 := zM (ng_ BK326 hg)
        replace BK326 := zM (bb_ BK326 hb)
        have NB327_349 := zM (nl_ BK327 hg)
        have NB349_327 := zM (ng_ BK327 hg)
        replace BK327 := zM (bb_ BK327 hb)
        have NB338_349 := zM (nl_ BK338 hg)
        have NB349_338 := zM (ng_ BK338 hg)
        replace BK338 := zM (bb_ BK338 hb)
        have NB344_349 := zM (nl_ BK344 hg)
        have NB349_344 := zM (ng_ BK344 hg)
        replace BK344 := zM (bb_ BK344 hb)
        have NB346_349 := zM (nl_ BK346 hg)
        have NB349_346 := zM (ng_ BK346 hg)
        replace BK346 := zM (bb_ BK346 hb)
        clear hb hbox hg
        refine hK.out _ _ ⟨(zL BK344.out 0).trans rfl, (zL BK344.out 1).trans rfl, (zL BK344.out 2).trans rfl, (zL BK346.out 0).trans rfl, (zL BK346.out 1).trans rfl, HS5_, HS6_⟩ (fun hHeld => ?_)
        clear hK K
        refine norm_ (a' := ?_) ?_ ?_
        rotate_left
        · show Act.put _ (some 11) _ = _
          simp only [Act.put, zS, zZ, zC, i64_w, i32_w]
          rfl
        refine one_ (i := 11) (N := none) #[T_, T_, T_, T_, T_, T_, T_, T_, T_, T_, T_, T_] rfl rfl (one_of HT_.out (by kernel_rfl)) (by decide) (fun K hK => ?_)
        have hs80 : w79.cell? ⟨gb349, 0, none⟩ = some (.int .i64 0) := (zL BK349.out 0).trans rfl
        have hfs80 := zF BK349.out 0
        have hns80_0 := NB326_349.out
        have hns80_1 := NB327_349.out
        have hns80_2 := NB338_349.out
        have hns80_3 := NB344_349.out
        have hns80_4 := NB346_349.out
        have hms80_0 := NB349_326.out
        have hms80_1 := NB349_327.out
        have hms80_2 := NB349_338.out
        have hms80_3 := NB349_344.out
        have hms80_4 := NB349_346.out
        have hs81 : w79.cell? ⟨gb349, 1, none⟩ = some (.int .i64 0) := (zL BK349.out 1).trans rfl
        have hfs81 := zF BK349.out 1
        have hns81_0 := NB326_349.out
        have hns81_1 := NB327_349.out
        have hns81_2 := NB338_349.out
        have hns81_3 := NB344_349.out
        have hns81_4 := NB346_349.out
        have hms81_0 := NB349_326.out
        have hms81_1 := NB349_327.out
        have hms81_2 := NB349_338.out
        have hms81_3 := NB349_344.out
        have hms81_4 := NB349_346.out
        refine skip_ (w1 := ?_) (by rfl) rfl ?_ ?_
        rotate_left
        · go_simp
          rfl
        refine hK.out _ _ ⟨((cell_far (p := ⟨gb349, _, none⟩) NB344_349.out _).trans (((cell_far (p := ⟨gb349, _, none⟩) NB344_349.out _).trans (hHeld.1)))), ((cell_far (p := ⟨gb349, _, none⟩) NB344_349.out _).trans (((cell_far (p := ⟨gb349, _, none⟩) NB344_349.out _).trans (hHeld.2.1)))), ((cell_far (p := ⟨gb349, _, none⟩) NB344_349.out _).trans (((cell_far (p := ⟨gb349, _, none⟩) NB344_349.out _).trans (hHeld.2.2.1)))), ((cell_far (p := ⟨gb349, _, none⟩) NB346_349.out _).trans (((cell_far (p := ⟨gb349, _, none⟩) NB346_349.out _).trans (hHeld.2.2.2.1)))), ((cell_far (p := ⟨gb349, _, none⟩) NB346_349.out _).trans (((cell_far (p := ⟨gb349, _, none⟩) NB346_349.out _).trans (hHeld.2.2.2.2.1)))), ((cell_far (p := ⟨gb349, _, none⟩) (by first | exact Kd.own_blk (Kd.R_away HO_345000.out (fun _ hk => hk.2)) | (rw [add_block]; exact Kd.own_blk (Kd.R_away HO_345000.out (fun _ hk => hk.2))) | (show (Addr.add _ _).block ≠ _; rw [add_block]; exact Kd.own_blk (Kd.R_away HO_345000.out (fun _ hk => hk.2))) | (dsimp only; exact Kd.own_blk (Kd.R_away HO_345000.out (fun _ hk => hk.2)))) _).trans (((cell_far (p := ⟨gb349, _, none⟩) (by first | exact Kd.own_blk (Kd.R_away HO_345000.out (fun _ hk => hk.2)) | (rw [add_block]; exact Kd.own_blk (Kd.R_away HO_345000.out (fun _ hk => hk.2))) | (show (Addr.add _ _).block ≠ _; rw [add_block]; exact Kd.own_blk (Kd.R_away HO_345000.out (fun _ hk => hk.2))) | (dsimp only; exact Kd.own_blk (Kd.R_away HO_345000.out (fun _ hk => hk.2)))) _).trans (hHeld.2.2.2.2.2.1)))), ((cell_far (p := ⟨gb349, _, none⟩) (by first | exact Kd.own_blk (Kd.R_away HO_345000.out (fun _ hk => hk.2)) | (rw [add_block]; exact Kd.own_blk (Kd.R_away HO_345000.out (fun _ hk => hk.2))) | (show (Addr.add _ _).block ≠ _; rw [add_block]; exact Kd.own_blk (Kd.R_away HO_345000.out (fun _ hk => hk.2))) | (dsimp only; exact Kd.own_blk (Kd.R_away HO_345000.out (fun _ hk => hk.2)))) _).trans (((cell_far (p := ⟨gb349, _, none⟩) (by first | exact Kd.own_blk (Kd.R_away HO_345000.out (fun _ hk => hk.2)) | (rw [add_block]; exact Kd.own_blk (Kd.R_away HO_345000.out (fun _ hk => hk.2))) | (show (Addr.add _ _).block ≠ _; rw [add_block]; exact Kd.own_blk (Kd.R_away HO_345000.out (fun _ hk => hk.2))) | (dsimp only; exact Kd.own_blk (Kd.R_away HO_345000.out (fun _ hk => hk.2)))) _).trans (hHeld.2.2.2.2.2.2))))⟩ (fun hHeld => ?_)
        clear hK K
        refine done_ (done_of HT_.out (by kernel_rfl)) ?_
        go_upto_region 15 with (first | ((with_reducible refine gate_dst (N := 64) rfl ?_); (try (refine gate_guard (by rfl) ?_; dsimp only)); refine Kd.R_lit k24 _ 24 ?hg (N := 64) ?hd (xs := ([] : List (S24))) (inner := []) (ok := fun _ => True) (okp := fun _ => True) ?hr ?hp (fun _ hk => hk) trivial (Below.refl _ _) (Nat.le_refl _) (by simp) ?_; (case hd => rfl); (case hg => rfl); (case hr => first | (go_simp; done) | (go_simp; rfl)); (case hp => exact (Reps.none _ _)); intro v351 w82 ho83 hb hg_ hnew_; clear hg_ hnew_; (first | rw [← Ny350.out] at ho83 | (simp only [Int.reduceToNat] at ho83; rw [← Ny350.out] at ho83)); have n0_ := zM (Kd.R_elder' (by (with_reducible repeat (first | apply Kd.R_alloc | apply Kd.R_drewN | apply Kd.R_drew)); exact (Kd.R_mono (Kd.R_far (p := ⟨gb349, 1, none⟩) (Kd.R_far (p := ⟨gb349, 0, none⟩) (Kd.R_mono HO_339000.out (fun k_ hk => (⟨hk, hk.2⟩ : _ ∧ k_ ≠ gb349))) (fun _ hk => hk.2) (.int .i64 ((rd_T24 x345000_2 (ji71)).f0))) (fun _ hk => hk.2) (.int .i64 ((rd_T24 x345000_2 (ji71)).f1))) (fun _ h_ => h_.1))) (Kd.R_base ho83) hb); have n1_ := zM (Kd.R_elder' (by (with_reducible repeat (first | apply Kd.R_alloc | apply Kd.R_drewN | apply Kd.R_drew)); exact (Kd.R_mono (Kd.R_far (p := ⟨gb349, 1, none⟩) (Kd.R_far (p := ⟨gb349, 0, none⟩) (Kd.R_mono HO_345000.out (fun k_ hk => (⟨hk, hk.2⟩ : _ ∧ k_ ≠ gb349))) (fun _ hk => hk.2) (.int .i64 ((rd_T24 x345000_2 (ji71)).f0))) (fun _ hk => hk.2) (.int .i64 ((rd_T24 x345000_2 (ji71)).f1))) (fun _ h_ => h_.1))) (Kd.R_base ho83) hb); have n2_ := zM (Kd.R_lower (Kd.R_newB (Kd.R_newB (Kd.R_newB (Kd.R_new' (Kd.R_new' ho83 (Kd.R_lt (by (with_reducible repeat (first | apply Kd.R_alloc | apply Kd.R_drewN | apply Kd.R_drew)); exact (Kd.R_mono (Kd.R_far (p := ⟨gb349, 1, none⟩) (Kd.R_far (p := ⟨gb349, 0, none⟩) (Kd.R_mono HO_339000.out (fun k_ hk => (⟨hk, hk.2⟩ : _ ∧ k_ ≠ gb349))) (fun _ hk => hk.2) (.int .i64 ((rd_T24 x345000_2 (ji71)).f0))) (fun _ hk => hk.2) (.int .i64 ((rd_T24 x345000_2 (ji71)).f1))) (fun _ h_ => h_.1))))) (Kd.R_lt (by (with_reducible repeat (first | apply Kd.R_alloc | apply Kd.R_drewN | apply Kd.R_drew)); exact (Kd.R_mono (Kd.R_far (p := ⟨gb349, 1, none⟩) (Kd.R_far (p := ⟨gb349, 0, none⟩) (Kd.R_mono HO_345000.out (fun k_ hk => (⟨hk, hk.2⟩ : _ ∧ k_ ≠ gb349))) (fun _ hk => hk.2) (.int .i64 ((rd_T24 x345000_2 (ji71)).f0))) (fun _ hk => hk.2) (.int .i64 ((rd_T24 x345000_2 (ji71)).f1))) (fun _ h_ => h_.1))))) (g := gb326) (o := .cells #[.int .i64 a0_0, .int .i64 a0_1] 24 (0, 0)) blf_) (g := gb327) (o := .cells #[.int .i64 a1_0, .int .i64 a1_1] 24 (0, 0)) blf_) (g := gb349) (o := .cells #[.int .i64 ((rd_T24 x345000_2 (ji71)).f0), .int .i64 ((rd_T24 x345000_2 (ji71)).f1)] 24 (0, 0)) (by (with_reducible repeat (first | refine zN ?_ _ | refine zD ?_ | refine zA ?_ _)); refine blk_put (cs := #[.int .i64 ((rd_T24 x345000_2 (ji71)).f0), .int .i64 0]) ?_ 1 _ rfl; (with_reducible repeat (first | refine zN ?_ _ | refine zD ?_ | refine zA ?_ _)); refine blk_put (cs := #[.int .i64 0, .int .i64 0]) ?_ 0 _ rfl; (with_reducible repeat (first | refine zN ?_ _ | refine zD ?_ | refine zA ?_ _)); exact BK349.out)) (below_size bel_)); have n3_ := zM (blk_below (g := gb326) (o := .cells #[.int .i64 a0_0, .int .i64 a0_1] 24 (0, 0)) blf_ hb); have n4_ := zM (blk_below (g := gb327) (o := .cells #[.int .i64 a1_0, .int .i64 a1_1] 24 (0, 0)) blf_ hb); have n5_ := zM (blk_below (g := gb338) (o := .cells #[u339000, .int .i64 x339001_2, .int .i64 x339002_2] 26 (0, 0)) blf_ hb); have n6_ := zM (blk_below (g := gb344) (o := .cells #[.slice (some ad348) x345000_2.length co78, .int .i64 x345001_2, .int .i64 x345002_2] 34 (0, 0)) blf_ hb); have n7_ := zM (blk_below (g := gb346) (o := .cells #[.int .i64 ((rd_T37 l2 x35_2).f0), .slice A345_1 ((rd_T37 l2 x35_2).f1).length c345_1] 37 (0, 0)) blf_ hb); have n8_ := zM (blk_below (g := gb349) (o := .cells #[.int .i64 ((rd_T24 x345000_2 (ji71)).f0), .int .i64 ((rd_T24 x345000_2 (ji71)).f1)] 24 (0, 0)) (by (with_reducible repeat (first | refine zN ?_ _ | refine zD ?_ | refine zA ?_ _)); refine blk_put (cs := #[.int .i64 ((rd_T24 x345000_2 (ji71)).f0), .int .i64 0]) ?_ 1 _ rfl; (with_reducible repeat (first | refine zN ?_ _ | refine zD ?_ | refine zA ?_ _)); refine blk_put (cs := #[.int .i64 0, .int .i64 0]) ?_ 0 _ rfl; (with_reducible repeat (first | refine zN ?_ _ | refine zD ?_ | refine zA ?_ _)); exact BK349.out) hb); have n9_ := zM (zB bel_ hb); clear HO_339000; clear HO_345000; clear BK326; clear BK327; clear BK338; clear BK344; clear BK346; clear BK349; clear HB; have HO_339000 := n0_; have HO_345000 := n1_; have HO352 := n2_; have BK326 := n3_; have BK327 := n4_; have BK338 := n5_; have BK344 := n6_; have BK346 := n7_; have BK349 := n8_; have HB := n9_; clear n0_ n1_ n2_ n3_ n4_ n5_ n6_ n7_ n8_ n9_; clear hb ho83; have hnb84 := NB346_326.out; have hnc84 := NB326_346.out; have hnb85 := NB346_327.out; have hnc85 := NB327_346.out; have hnb86 := NB346_338.out; have hnc86 := NB338_346.out; have hnb87 := NB346_344.out; have hnc87 := NB344_346.out; have hnb88 := NB346_349.out; have hnc88 := NB349_346.out; have hcz89_0 : w82.cell? ⟨gb346, 0, none⟩ = some (.int .i64 ((rd_T37 l2 x35_2).f0)) := (zL BK346.out 0).trans rfl; have hcz89_1 : w82.cell? ⟨gb346, 1, none⟩ = some (.slice A345_1 ((rd_T37 l2 x35_2).f1).length c345_1) := (zL BK346.out 1).trans rfl; have hfz89_0 := zF BK346.out 0; have hfz89_1 := zF BK346.out 1) | ((with_reducible refine gate_builtin (b := .append) (xs := #[.tmp 64, .tmp 66]) rfl ?_); (try (refine gate_guard (by rfl) ?_; dsimp only)); at_builtin; refine Kd.R_append_rows k24 (w0 := w) w.heap.size rfl (.tmp 64) (.tmp 66) 22 24 (.agg #[(.int .i64 0), (.int .i64 0)]) 16 rfl Try.underlying22 info24 rfl (by decide) (by omega) v351 y350 ((rd_T37 l2 x35_2).f1) _ _ _ (fun k_ => some k_ ≠ (u339000 : Value).ownBlock ∧ some k_ ≠ (.slice (some ad348) x345000_2.length co78 : Value).ownBlock ∧ k_ ≠ gb326 ∧ k_ ≠ gb327 ∧ k_ ≠ gb349) (fun _ => False) rfl rfl ?aO ?aR (fun _ _ h => h) (fun _ h => h.elim) ?aF ?aB ?aS ?aL ?_; (case aR => repeat (first | exact (Kd.C_below HR345_1.out HB.out) | (with_reducible refine Kd.C_alloc ?_ _) | (with_reducible refine Kd.C_drewN ?_ _) | (with_reducible refine Kd.C_drew ?_))); (case aB => exact bel_); (case aF => exact (fun k_ hk => ⟨Kd.fresh' (Kd.R_lt (rl_ HO_339000)) k_ hk, Kd.fresh' (Kd.R_lt (rl_ HO_345000)) k_ hk, Kd.freshB (g := gb326) (o := .cells #[.int .i64 a0_0, .int .i64 a0_1] 24 (0, 0)) blk_ k_ hk, Kd.freshB (g := gb327) (o := .cells #[.int .i64 a1_0, .int .i64 a1_1] 24 (0, 0)) blk_ k_ hk, Kd.freshB (g := gb349) (o := .cells #[.int .i64 ((rd_T24 x345000_2 (ji71)).f0), .int .i64 ((rd_T24 x345000_2 (ji71)).f1)] 24 (0, 0)) blk_ k_ hk⟩)); (case aO => exact (by (with_reducible repeat (first | apply Kd.R_alloc | apply Kd.R_drewN | apply Kd.R_drew)); exact Kd.R_mono HO352.out (fun _ hk => ⟨hk.1.1.1.1.2, ⟨hk.1.1.1.2, ⟨hk.1.1.2, ⟨hk.1.2, hk.2⟩⟩⟩⟩))); (case aS => exact (below_size bel_)); (case aL => have := LMc74.out; omega); intro v354 w90 ho hb hg hat; rw [← Ny353.out] at ho; have n0_ := zM (Kd.R_after (ok := (fun k_ => some k_ ≠ (.slice (some ad348) x345000_2.length co78 : Value).ownBlock ∧ k_ ≠ gb326 ∧ k_ ≠ gb327 ∧ k_ ≠ gb349)) (by (with_reducible repeat (first | apply Kd.R_alloc | apply Kd.R_drewN | apply Kd.R_drew)); exact Kd.R_mono HO_339000.out (fun _ hk => ⟨⟨hk.1.1.1, ⟨hk.1.1.2.1, ⟨hk.1.1.2.2, hk.1.2⟩⟩⟩, hk.2⟩)) hg hat); have n1_ := zM (Kd.R_after (ok := (fun k_ => some k_ ≠ (u339000 : Value).ownBlock ∧ k_ ≠ gb326 ∧ k_ ≠ gb327 ∧ k_ ≠ gb349)) (by (with_reducible repeat (first | apply Kd.R_alloc | apply Kd.R_drewN | apply Kd.R_drew)); exact Kd.R_mono HO_345000.out (fun _ hk => ⟨⟨hk.1.1.1, ⟨hk.1.1.2.1, ⟨hk.1.1.2.2, hk.1.2⟩⟩⟩, hk.2⟩)) hg hat); have n2_ := zM (blk_grown (g := gb326) (o := .cells #[.int .i64 a0_0, .int .i64 a0_1] 24 (0, 0)) blk_ hg (Kd.R_away HO352.out (fun _ hk => hk.1.1.2))); have n3_ := zM (blk_grown (g := gb327) (o := .cells #[.int .i64 a1_0, .int .i64 a1_1] 24 (0, 0)) blk_ hg (Kd.R_away HO352.out (fun _ hk => hk.1.2))); have n4_ := zM (blk_grown (g := gb338) (o := .cells #[u339000, .int .i64 x339001_2, .int .i64 x339002_2] 26 (0, 0)) blk_ hg (Kd.R_ne HO352.out BK338.out (by decide))); have n5_ := zM (blk_grown (g := gb344) (o := .cells #[.slice (some ad348) x345000_2.length co78, .int .i64 x345001_2, .int .i64 x345002_2] 34 (0, 0)) blk_ hg (Kd.R_ne HO352.out BK344.out (by decide))); have n6_ := zM (blk_grown (g := gb346) (o := .cells #[.int .i64 ((rd_T37 l2 x35_2).f0), .slice A345_1 ((rd_T37 l2 x35_2).f1).length c345_1] 37 (0, 0)) blk_ hg (Kd.R_ne HO352.out BK346.out (by decide))); have n7_ := zM (blk_grown (g := gb349) (o := .cells #[.int .i64 ((rd_T24 x345000_2 (ji71)).f0), .int .i64 ((rd_T24 x345000_2 (ji71)).f1)] 24 (0, 0)) blk_ hg (Kd.R_away HO352.out (fun _ hk => hk.2))); have n8_ := zM (hb); have n9_ := zM (ho); clear HO_339000; clear HO_345000; clear BK326; clear BK327; clear BK338; clear BK344; clear BK346; clear BK349; clear HB; clear HO352; have HO_339000 := n0_; have HO_345000 := n1_; have BK326 := n2_; have BK327 := n3_; have BK338 := n4_; have BK344 := n5_; have BK346 := n6_; have BK349 := n7_; have HB := n8_; have HO355 := n9_; clear n0_ n1_ n2_ n3_ n4_ n5_ n6_ n7_ n8_ n9_; clear ho hb hg hat; have hnb91 := NB338_326.out; have hnc91 := NB326_338.out; have hnb92 := NB338_327.out; have hnc92 := NB327_338.out; have hnb93 := NB338_344.out; have hnc93 := NB344_338.out; have hnb94 := NB338_349.out; have hnc94 := NB349_338.out; have hcz95_0 : w90.cell? ⟨gb338, 0, none⟩ = some (u339000) := (zL BK338.out 0).trans rfl; have hcz95_1 : w90.cell? ⟨gb338, 1, none⟩ = some (.int .i64 x339001_2) := (zL BK338.out 1).trans rfl; have hcz95_2 : w90.cell? ⟨gb338, 2, none⟩ = some (.int .i64 x339002_2) := (zL BK338.out 2).trans rfl; have hfz95_0 := zF BK338.out 0; have hfz95_1 := zF BK338.out 1; have hfz95_2 := zF BK338.out 2; have hnb96 := NB349_326.out; have hnc96 := NB326_349.out; have hnb97 := NB349_327.out; have hnc97 := NB327_349.out; have hnb98 := NB349_344.out; have hnc98 := NB344_349.out; have hcz99_0 : w90.cell? ⟨gb349, 0, none⟩ = some (.int .i64 ((rd_T24 x345000_2 (ji71)).f0)) := (zL BK349.out 0).trans rfl; have hcz99_1 : w90.cell? ⟨gb349, 1, none⟩ = some (.int .i64 ((rd_T24 x345000_2 (ji71)).f1)) := (zL BK349.out 1).trans rfl; have hfz99_0 := zF BK349.out 0; have hfz99_1 := zF BK349.out 1; obtain ⟨Ao100, co100, eo100⟩ := Kd.R_slice HO_339000.out; subst eo100; obtain ⟨Ao101, co101, eo101⟩ := Kd.R_slice HO355.out; subst eo101) | ((with_reducible refine gate_callee (f := 14) rfl ?_); refine goesL_ (some 71) rfl rfl Try.func14 (by kernel_rfl) rfl #[.agg #[.slice Ao100 x339000_2.length co100, .int .i64 x339001_2, .int .i64 x339002_2], .agg #[.int .i64 ((rd_T24 x345000_2 (ji71)).f0), .int .i64 ((rd_T24 x345000_2 (ji71)).f1)], .slice Ao101 y353.length co101] rfl (by (try simp only [List.map_toArray, List.map_cons, List.map_nil]); first | done | (simp only [hji71]; rfl) | rfl | (simp only [List.length_drop, List.length_take]; rfl)) ?_; (with_reducible refine (front_Step.calls kj42 _ _ x339000_2 x339001_2 x339002_2 ((rd_T24 x345000_2 (ji71)).f0) ((rd_T24 x345000_2 (ji71)).f1) _ _ y353 t356 t359 t360 _ ?side1 ?side2 ?side3 ?side4 A75.out).mono ?_); (case side1 => repeat (first | exact (Kd.R_reads' HO_339000.out).2.2 | (with_reducible refine Kd.C_alloc ?_ _) | (with_reducible refine Kd.C_drewN ?_ _) | (with_reducible refine Kd.C_drew ?_))); (case side2 => exact (Kd.R_reads' HO_339000.out).2.1); (case side3 => repeat (first | exact (Kd.R_reads' HO355.out).2.2 | (with_reducible refine Kd.C_alloc ?_ _) | (with_reducible refine Kd.C_drewN ?_ _) | (with_reducible refine Kd.C_drew ?_))); (case side4 => exact (Kd.R_reads' HO355.out).2.1); rintro e w102 ⟨v357, rfl, ho0, hb⟩; refine ⟨_, rfl, ?_⟩; have HO358 := zM (Kd.R_lower (Kd.R_newB (Kd.R_newB (Kd.R_newB (Kd.R_new' (Kd.R_new' (Kd.R_new' ho0 (Kd.R_lt (rl_ HO_339000))) (Kd.R_lt (rl_ HO_345000))) (Kd.R_lt (rl_ HO355))) (g := gb326) (o := .cells #[.int .i64 a0_0, .int .i64 a0_1] 24 (0, 0)) blk_) (g := gb327) (o := .cells #[.int .i64 a1_0, .int .i64 a1_1] 24 (0, 0)) blk_) (g := gb349) (o := .cells #[.int .i64 ((rd_T24 x345000_2 (ji71)).f0), .int .i64 ((rd_T24 x345000_2 (ji71)).f1)] 24 (0, 0)) blk_) (below_size bel_)); replace HO_339000 := zM (Kd.R_elder' (rl_ HO_339000) (Kd.R_base ho0) hb); replace HO_345000 := zM (Kd.R_elder' (rl_ HO_345000) (Kd.R_base ho0) hb); replace HO355 := zM (Kd.R_elder' (rl_ HO355) (Kd.R_base ho0) hb); replace BK326 := zM (bb_ BK326 hb); replace BK327 := zM (bb_ BK327 hb); replace BK338 := zM (bb_ BK338 hb); replace BK344 := zM (bb_ BK344 hb); replace BK346 := zM (bb_ BK346 hb); replace BK349 := zM (bb_ BK349 hb); replace HB := zM (zB bel_ hb); (try clear hb); (try clear hb2); (try clear hk); (try clear hi); (try clear ho0)) | ((with_reducible refine gate_dst (N := 13) rfl ?_); (try (refine gate_guard (by rfl) ?_; dsimp only)); refine box_event ?hg (N := 13) ?hd (cs := #[.slice none 0 0, .int .i64 0, .int .i64 0]) (t := 26) ?hr ?_; (case hd => rfl); (case hg => rfl); (case hr => first | (go_simp; done) | (go_simp; rfl)); intro gb361 hg w103 hbox hb; replace HO_339000 := zM (Kd.R_below (rl_ HO_339000) hb); replace HO_345000 := zM (Kd.R_below (rl_ HO_345000) hb); replace HO355 := zM (Kd.R_below (rl_ HO355) hb); replace HO358 := zM (Kd.R_below (rl_ HO358) hb); have BK361 := zM (hbox); have GW361 := zM (bs_ hg); have GE361 := zM (bs_ hg); replace HB := zM (zB bel_ hb); have NB326_361 := zM (nl_ BK326 hg); have NB361_326 := zM (ng_ BK326 hg); replace BK326 := zM (bb_ BK326 hb); have NB327_361 := zM (nl_ BK327 hg); have NB361_327 := zM (ng_ BK327 hg); replace BK327 := zM (bb_ BK327 hb); have NB338_361 := zM (nl_ BK338 hg); have NB361_338 := zM (ng_ BK338 hg); replace BK338 := zM (bb_ BK338 hb); have NB344_361 := zM (nl_ BK344 hg); have NB361_344 := zM (ng_ BK344 hg); replace BK344 := zM (bb_ BK344 hb); have NB346_361 := zM (nl_ BK346 hg); have NB361_346 := zM (ng_ BK346 hg); replace BK346 := zM (bb_ BK346 hb); have NB349_361 := zM (nl_ BK349 hg); have NB361_349 := zM (ng_ BK349 hg); replace BK349 := zM (bb_ BK349 hb); clear hb hbox hg; obtain ⟨Ao104, co104, eo104⟩ := Kd.R_slice HO358.out; subst eo104; have hnb105 := NB361_326.out; have hnc105 := NB326_361.out; have hnb106 := NB361_327.out; have hnc106 := NB327_361.out; have hnb107 := NB361_338.out; have hnc107 := NB338_361.out; have hnb108 := NB361_344.out; have hnc108 := NB344_361.out; have hnb109 := NB361_346.out; have hnc109 := NB346_361.out; have hnb110 := NB361_349.out; have hnc110 := NB349_361.out; have hcz111_0 : w103.cell? ⟨gb361, 0, none⟩ = some (.slice none 0 0) := (zL BK361.out 0).trans rfl; have hcz111_1 : w103.cell? ⟨gb361, 1, none⟩ = some (.int .i64 0) := (zL BK361.out 1).trans rfl; have hcz111_2 : w103.cell? ⟨gb361, 2, none⟩ = some (.int .i64 0) := (zL BK361.out 2).trans rfl; have hfz111_0 := zF BK361.out 0; have hfz111_1 := zF BK361.out 1; have hfz111_2 := zF BK361.out 2))
        (try simp only [Act.put, zS, zZ, zC])
        go_cut [91] (fun v91 wc => ∃ (kq : Nat) (x91_75 : Bool), v91 = .bool x91_75 ∧ Aside0 (ropewaylaw16_FrontSteps.j3 kq l2 (l2.length : Int) x35_2 x91_75 x345000_2 x345001_2 x345002_2 ((rd_T37 l2 x35_2).f0) ((rd_T37 l2 x35_2).f1) ((rd_T24 x345000_2 (ji71)).f0) ((rd_T24 x345000_2 (ji71)).f1) t356 t359 t360 = some r) ∧ Aside0 (kq ≤ kj42) ∧ Aside0 (Kd.R k24 24 wc w.heap.size (fun k_ => some k_ ≠ ((.slice (some ad348) x345000_2.length co78) : Value).ownBlock ∧ some k_ ≠ ((.slice Ao104 t356.length co104) : Value).ownBlock ∧ k_ ≠ gb326 ∧ k_ ≠ gb327 ∧ k_ ≠ gb349) (.slice Ao100 x339000_2.length co100) x339000_2) ∧ Aside0 (Kd.R k24 24 wc w.heap.size (fun k_ => some k_ ≠ ((.slice Ao100 x339000_2.length co100) : Value).ownBlock ∧ some k_ ≠ ((.slice Ao104 t356.length co104) : Value).ownBlock ∧ k_ ≠ gb326 ∧ k_ ≠ gb327 ∧ k_ ≠ gb349) (.slice (some ad348) x345000_2.length co78) x345000_2) ∧ Aside0 (Kd.R k24 24 wc w.heap.size (fun k_ => some k_ ≠ ((.slice Ao100 x339000_2.length co100) : Value).ownBlock ∧ some k_ ≠ ((.slice (some ad348) x345000_2.length co78) : Value).ownBlock ∧ k_ ≠ gb326 ∧ k_ ≠ gb327 ∧ k_ ≠ gb349) (.slice Ao104 t356.length co104) t356) ∧ Aside0 (wc.heap[gb326]? = some (.cells #[.int .i64 a0_0, .int .i64 a0_1] 24 (0, 0))) ∧ Aside0 (wc.heap[gb327]? = some (.cells #[.int .i64 a1_0, .int .i64 a1_1] 24 (0, 0))) ∧ Aside0 (wc.heap[gb338]? = some (.cells #[(.slice Ao100 x339000_2.length co100), .int .i64 x339001_2, .int .i64 x339002_2] 26 (0, 0))) ∧ Aside0 (wc.heap[gb344]? = some (.cells #[(.slice (some ad348) x345000_2.length co78), .int .i64 x345001_2, .int .i64 x345002_2] 34 (0, 0))) ∧ Aside0 (wc.heap[gb346]? = some (.cells #[.int .i64 ((rd_T37 l2 x35_2).f0), (.slice A345_1 ((rd_T37 l2 x35_2).f1).length c345_1)] 37 (0, 0))) ∧ Aside0 (wc.heap[gb349]? = some (.cells #[.int .i64 ((rd_T24 x345000_2 (ji71)).f0), .int .i64 ((rd_T24 x345000_2 (ji71)).f1)] 24 (0, 0))) ∧ Aside0 (wc.heap[gb361]? = some (.cells #[(.slice Ao104 t356.length co104), .int .i64 t359, .int .i64 t360] 26 (0, 0))) ∧ Aside0 (Below w.heap.size w wc))
        case first =>
         have H := HC76.out
         clear HC76
         replace H := Option.bind_eq_some_iff.mp H
         obtain ⟨t362, A1120, H⟩ := H
         replace H : (if t362 = true then (if (!(x339001_2 == x345001_2) || (!(x339002_2 == x345002_2))) = true then (ropewaylaw16_FrontSteps.j3 kj42 l2 (l2.length : Int) x35_2 true x345000_2 x345001_2 x345002_2 ((rd_T37 l2 x35_2).f0) ((rd_T37 l2 x35_2).f1) ((rd_T24 x345000_2 (ji71)).f0) ((rd_T24 x345000_2 (ji71)).f1) t356 t359 t360) else ((ropewayref05_Same.f kj42 y353 ((rd_T37 l2 x35_2).f1)).bind fun t363 => (ropewaylaw16_FrontSteps.j3 kj42 l2 (l2.length : Int) x35_2 (!t363) x345000_2 x345001_2 x345002_2 ((rd_T37 l2 x35_2).f0) ((rd_T37 l2 x35_2).f1) ((rd_T24 x345000_2 (ji71)).f0) ((rd_T24 x345000_2 (ji71)).f1) t356 t359 t360))) else (ropewaylaw16_FrontSteps.j3 kj42 l2 (l2.length : Int) x35_2 true x345000_2 x345001_2 x345002_2 ((rd_T37 l2 x35_2).f0) ((rd_T37 l2 x35_2).f1) ((rd_T24 x345000_2 (ji71)).f0) ((rd_T24 x345000_2 (ji71)).f1) t356 t359 t360)) = some r := H
         have A112 := zM A1120
         clear A1120
         by_cases c113 : t362 = true
         rotate_left
         · replace c113 := Bool.eq_false_iff.mpr c113
           subst c113
           have H1 : (ropewaylaw16_FrontSteps.j3 kj42 l2 (l2.length : Int) x35_2 true x345000_2 x345001_2 x345002_2 ((rd_T37 l2 x35_2).f0) ((rd_T37 l2 x35_2).f1) ((rd_T24 x345000_2 (ji71)).f0) ((rd_T24 x345000_2 (ji71)).f1) t356 t359 t360) = some r := by rw [if_neg (show ¬ (false = true) by decide)] at H; exact H
           clear H
           have H := H1
           clear H1
           have hr1 := hr1_.out
           subst hr1
           (cases kj42) <;> simp [ropewaylaw16_FrontSteps.j3] at H
         subst c113
         have H1 : (if (!(x339001_2 == x345001_2) || (!(x339002_2 == x345002_2))) = true then (ropewaylaw16_FrontSteps.j3 kj42 l2 (l2.length : Int) x35_2 true x345000_2 x345001_2 x345002_2 ((rd_T37 l2 x35_2).f0) ((rd_T37 l2 x35_2).f1) ((rd_T24 x345000_2 (ji71)).f0) ((rd_T24 x345000_2 (ji71)).f1) t356 t359 t360) else ((ropewayref05_Same.f kj42 y353 ((rd_T37 l2 x35_2).f1)).bind fun t363 => (ropewaylaw16_FrontSteps.j3 kj42 l2 (l2.length : Int) x35_2 (!t363) x345000_2 x345001_2 x345002_2 ((rd_T37 l2 x35_2).f0) ((rd_T37 l2 x35_2).f1) ((rd_T24 x345000_2 (ji71)).f0) ((rd_T24 x345000_2 (ji71)).f1) t356 t359 t360))) = some r := by rw [if_pos rfl] at H; exact H
         clear H
         have H := H1
         clear H1
         by_cases c114 : (!(x339001_2 == x345001_2) || (!(x339002_2 == x345002_2))) = true
         · rw [if_pos c114] at H
           have c114b0 : (!(x339001_2 == x345001_2) || (!(x339002_2 == x345002_2))) = true := c114
           clear c114
           (first | rw [c114b0] | (simp only [i64_w, i32_w]; rw [c114b0]) | skip)
           have hr1 := hr1_.out
           subst hr1
           (cases kj42) <;> simp [ropewaylaw16_FrontSteps.j3] at H
         rw [if_neg c114] at H
         have c114b0 : (!(x339001_2 == x345001_2) || (!(x339002_2 == x345002_2))) = false := by simpa using c114
         clear c114
         (first | rw [c114b0] | (simp only [i64_w, i32_w]; rw [c114b0]) | skip)
         replace H := Option.bind_eq_some_iff.mp H
         obtain ⟨t363, A1150, H⟩ := H
         replace H : (ropewaylaw16_FrontSteps.j3 kj42 l2 (l2.length : Int) x35_2 (!t363) x345000_2 x345001_2 x345002_2 ((rd_T37 l2 x35_2).f0) ((rd_T37 l2 x35_2).f1) ((rd_T24 x345000_2 (ji71)).f0) ((rd_T24 x345000_2 (ji71)).f1) t356 t359 t360) = some r := H
         have A115 := zM A1150
         clear A1150
         have H' := zM H
         clear H
         have hnb116 := NB338_326.out
         have hnc116 := NB326_338.out
         have hnb117 := NB338_327.out
         have hnc117 := NB327_338.out
         have hnb118 := NB338_344.out
         have hnc118 := NB344_338.out
         have hnb119 := NB338_346.out
         have hnc119 := NB346_338.out
         have hnb120 := NB338_349.out
         have hnc120 := NB349_338.out
         have hnb121 := NB338_361.out
         have hnc121 := NB361_338.out
         have hcz122_0 : w103.cell? ⟨gb338, 0, none⟩ = some (.slice Ao100 x339000_2.length co100) := (zL BK338.out 0).trans rfl
         have hcz122_1 : w103.cell? ⟨gb338, 1, none⟩ = some (.int .i64 x339001_2) := (zL BK338.out 1).trans rfl
         have hcz122_2 : w103.cell? ⟨gb338, 2, none⟩ = some (.int .i64 x339002_2) := (zL BK338.out 2).trans rfl
         have hfz122_0 := zF BK338.out 0
         have hfz122_1 := zF BK338.out 1
         have hfz122_2 := zF BK338.out 2
         have hnb123 := NB344_326.out
         have hnc123 := NB326_344.out
         have hnb124 := NB344_327.out
         have hnc124 := NB327_344.out
         have hnb125 := NB344_346.out
         have hnc125 := NB346_344.out
         have hnb126 := NB344_349.out
         have hnc126 := NB349_344.out
         have hnb127 := NB344_361.out
         have hnc127 := NB361_344.out
         have hcz128_0 : w103.cell? ⟨gb344, 0, none⟩ = some (.slice (some ad348) x345000_2.length co78) := (zL BK344.out 0).trans rfl
         have hcz128_1 : w103.cell? ⟨gb344, 1, none⟩ = some (.int .i64 x345001_2) := (zL BK344.out 1).trans rfl
         have hcz128_2 : w103.cell? ⟨gb344, 2, none⟩ = some (.int .i64 x345002_2) := (zL BK344.out 2).trans rfl
         have hfz128_0 := zF BK344.out 0
         have hfz128_1 := zF BK344.out 1
         have hfz128_2 := zF BK344.out 2
         go_wp2_with (first | ((with_reducible refine gate_callee (f := 15) rfl ?_); refine goL_ (some 76) Try.func15 #[.slice Ao100 x339000_2.length co100, .slice (some ad348) x345000_2.length co78] ?_; (with_reducible refine (ropewayref05_Same.calls kj42 _ _ x339000_2 _ _ x345000_2 true _ ?side1 ?side2 ?side3 ?side4 A112.out).mono ?_); (case side1 => refine (Kd.R_reads' (e := 24) (base := w.heap.size) (ok := fun k_ => (((some k_ ≠ (.slice (some ad348) x345000_2.length co78 : Value).ownBlock ∧ (k_ ≠ gb326 ∧ (k_ ≠ gb327 ∧ k_ ≠ gb349))) ∧ some k_ ≠ (.slice Ao101 y353.length co101 : Value).ownBlock) ∧ some k_ ≠ (.slice Ao104 t356.length co104 : Value).ownBlock)) (n := x339000_2.length) (c := co100) ?_).2.2; exact (by (with_reducible repeat (first | apply Kd.R_alloc | apply Kd.R_drewN | apply Kd.R_drew)); exact (Kd.R_mono (Kd.R_far (p := ⟨gb361, 2, none⟩) (Kd.R_far (p := ⟨gb361, 1, none⟩) (Kd.R_far (p := ⟨gb361, 0, none⟩) (Kd.R_types HO_339000.out BK361.out (by decide)) (fun _ hk => hk.2) (.slice Ao104 t356.length co104)) (fun _ hk => hk.2) (.int .i64 t359)) (fun _ hk => hk.2) (.int .i64 t360)) (fun _ h_ => h_.1)))); (case side2 => exact (Kd.R_reads' HO_339000.out).2.1); (case side3 => refine (Kd.R_reads' (e := 24) (base := w.heap.size) (ok := fun k_ => (((some k_ ≠ (.slice Ao100 x339000_2.length co100 : Value).ownBlock ∧ (k_ ≠ gb326 ∧ (k_ ≠ gb327 ∧ k_ ≠ gb349))) ∧ some k_ ≠ (.slice Ao101 y353.length co101 : Value).ownBlock) ∧ some k_ ≠ (.slice Ao104 t356.length co104 : Value).ownBlock)) (n := x345000_2.length) (c := co78) ?_).2.2; exact (by (with_reducible repeat (first | apply Kd.R_alloc | apply Kd.R_drewN | apply Kd.R_drew)); exact (Kd.R_mono (Kd.R_far (p := ⟨gb361, 2, none⟩) (Kd.R_far (p := ⟨gb361, 1, none⟩) (Kd.R_far (p := ⟨gb361, 0, none⟩) (Kd.R_types HO_345000.out BK361.out (by decide)) (fun _ hk => hk.2) (.slice Ao104 t356.length co104)) (fun _ hk => hk.2) (.int .i64 t359)) (fun _ hk => hk.2) (.int .i64 t360)) (fun _ h_ => h_.1)))); (case side4 => exact (Kd.R_reads' HO_345000.out).2.1); rintro e w' ⟨rfl, ⟨nd, rfl⟩⟩; refine ⟨_, rfl, ?_⟩; have hnb129 := NB346_326.out; have hnc129 := NB326_346.out; have hnb130 := NB346_327.out; have hnc130 := NB327_346.out; have hnb131 := NB346_349.out; have hnc131 := NB349_346.out; have hnb132 := NB346_361.out; have hnc132 := NB361_346.out; have hcz133_0 : w103.cell? ⟨gb346, 0, none⟩ = some (.int .i64 ((rd_T37 l2 x35_2).f0)) := (zL BK346.out 0).trans rfl; have hcz133_1 : w103.cell? ⟨gb346, 1, none⟩ = some (.slice A345_1 ((rd_T37 l2 x35_2).f1).length c345_1) := (zL BK346.out 1).trans rfl; have hfz133_0 := zF BK346.out 0; have hfz133_1 := zF BK346.out 1) | (go_at_call 15; (with_reducible refine (ropewayref05_Same.calls kj42 _ _ y353 _ _ ((rd_T37 l2 x35_2).f1) t363 _ ?side1 ?side2 ?side3 ?side4 A115.out).mono ?_); (case side1 => refine (Kd.R_reads' (e := 24) (base := w.heap.size) (ok := fun k_ => ((some k_ ≠ (.slice Ao100 x339000_2.length co100 : Value).ownBlock ∧ (some k_ ≠ (.slice (some ad348) x345000_2.length co78 : Value).ownBlock ∧ (k_ ≠ gb326 ∧ (k_ ≠ gb327 ∧ k_ ≠ gb349)))) ∧ some k_ ≠ (.slice Ao104 t356.length co104 : Value).ownBlock)) (n := y353.length) (c := co101) ?_).2.2; exact (by (with_reducible repeat (first | apply Kd.R_alloc | apply Kd.R_drewN | apply Kd.R_drew)); exact (Kd.R_mono (Kd.R_far (p := ⟨gb361, 2, none⟩) (Kd.R_far (p := ⟨gb361, 1, none⟩) (Kd.R_far (p := ⟨gb361, 0, none⟩) (Kd.R_types HO355.out BK361.out (by decide)) (fun _ hk => hk.2) (.slice Ao104 t356.length co104)) (fun _ hk => hk.2) (.int .i64 t359)) (fun _ hk => hk.2) (.int .i64 t360)) (fun _ h_ => h_.1)))); (case side2 => exact (Kd.R_reads' HO355.out).2.1); (case side3 => exact Kd.C_below HR345_1.out bel_); (case side4 => exact HC345_1.out); rintro e w' ⟨rfl, ⟨nd, rfl⟩⟩))
         go_meet
         case rel => exact ⟨_, (!t363), (by first | rfl | (simp; done) | (simp [*]; done) | (simp; grind)), H', ⟨by have := HJ5.out; have := HK2.out; have := HJ42.out; first | omega | exact Nat.le_refl _⟩, ⟨by (with_reducible repeat (first | apply Kd.R_alloc | apply Kd.R_drewN | apply Kd.R_drew)); exact Kd.R_mono (Kd.R_far (p := ⟨gb361, 2, none⟩) (Kd.R_far (p := ⟨gb361, 1, none⟩) (Kd.R_far (p := ⟨gb361, 0, none⟩) (Kd.R_types HO_339000.out BK361.out (by decide)) (fun _ hk => hk.2) (.slice Ao104 t356.length co104)) (fun _ hk => hk.2) (.int .i64 t359)) (fun _ hk => hk.2) (.int .i64 t360)) (fun _ hk => ⟨hk.1.1.1.1, ⟨hk.1.2, ⟨hk.1.1.1.2.1, ⟨hk.1.1.1.2.2.1, hk.1.1.1.2.2.2⟩⟩⟩⟩)⟩, ⟨by (with_reducible repeat (first | apply Kd.R_alloc | apply Kd.R_drewN | apply Kd.R_drew)); exact Kd.R_mono (Kd.R_far (p := ⟨gb361, 2, none⟩) (Kd.R_far (p := ⟨gb361, 1, none⟩) (Kd.R_far (p := ⟨gb361, 0, none⟩) (Kd.R_types HO_345000.out BK361.out (by decide)) (fun _ hk => hk.2) (.slice Ao104 t356.length co104)) (fun _ hk => hk.2) (.int .i64 t359)) (fun _ hk => hk.2) (.int .i64 t360)) (fun _ hk => ⟨hk.1.1.1.1, ⟨hk.1.2, ⟨hk.1.1.1.2.1, ⟨hk.1.1.1.2.2.1, hk.1.1.1.2.2.2⟩⟩⟩⟩)⟩, ⟨by (with_reducible repeat (first | apply Kd.R_alloc | apply Kd.R_drewN | apply Kd.R_drew)); exact Kd.R_mono (Kd.R_far (p := ⟨gb361, 2, none⟩) (Kd.R_far (p := ⟨gb361, 1, none⟩) (Kd.R_far (p := ⟨gb361, 0, none⟩) (Kd.R_types HO358.out BK361.out (by decide)) (fun _ hk => hk.2) (.slice Ao104 t356.length co104)) (fun _ hk => hk.2) (.int .i64 t359)) (fun _ hk => hk.2) (.int .i64 t360)) (fun _ hk => ⟨hk.1.1.1.1.1.1.2, ⟨hk.1.1.1.1.1.2, ⟨hk.1.1.1.2, ⟨hk.1.1.2, hk.1.2⟩⟩⟩⟩)⟩, ⟨blf_⟩, ⟨blf_⟩, ⟨blf_⟩, ⟨blf_⟩, ⟨blf_⟩, ⟨blf_⟩, ⟨by (with_reducible repeat (first | refine zN ?_ _ | refine zD ?_ | refine zA ?_ _)); refine blk_put (cs := #[.slice Ao104 t356.length co104, .int .i64 t359, .int .i64 0]) ?_ 2 _ rfl; (with_reducible repeat (first | refine zN ?_ _ | refine zD ?_ | refine zA ?_ _)); refine blk_put (cs := #[.slice Ao104 t356.length co104, .int .i64 0, .int .i64 0]) ?_ 1 _ rfl; (with_reducible repeat (first | refine zN ?_ _ | refine zD ?_ | refine zA ?_ _)); refine blk_put (cs := #[.slice none 0 0, .int .i64 0, .int .i64 0]) ?_ 0 _ rfl; (with_reducible repeat (first | refine zN ?_ _ | refine zD ?_ | refine zA ?_ _)); exact BK361.out⟩, ⟨bel_⟩⟩
        case rest =>
         clear HC76
         try clear c1
         try clear c2
         try clear p2
         try clear c3
         try clear p3
         try clear q3
         try clear hx3
         try clear c4
         try clear c5
         try clear c6
         try clear c7
         try clear c8
         try clear c9
         try clear c10
         try clear c10b0
         try clear c10b1
         try clear c11
         try clear c12
         try clear c13
         try clear c14
         try clear c15
         try clear c19
         try clear c22
         try clear c28
         try clear c29
         try clear c34
         try clear p34
         try clear q34
         try clear hx34
         try clear c36
         try clear c37
         try clear c38
         try clear c40
         try clear c40b0
         try clear c41
         try clear c41b0
         try clear c42
         try clear c42b0
         try clear c45
         try clear c46
         try clear c47
         try clear c48
         try clear c50
         try clear c50b0
         try clear c51
         try clear c52
         try clear c53
         try clear c54
         try clear c56
         try clear c56b0
         try clear c56b1
         try clear c57
         try clear c58
         try clear c59
         try clear c60
         try clear c63
         try clear c64
         try clear c65
         try clear c66
         try clear c69
         try clear c70
         try clear c70b0
         try clear c70b1
         try clear c70b2
         try clear c72
         try clear c72b0
         try clear c73
         try clear c73b0
         try clear c74
         try clear c84
         try clear c85
         try clear c86
         try clear c87
         try clear c88
         try clear c91
         try clear c92
         try clear c93
         try clear c94
         try clear c96
         try clear c97
         try clear c98
         try clear c105
         try clear c106
         try clear c107
         try clear c108
         try clear c109
         try clear c110
         try clear c113
         try clear c114
         try clear c114b0
         try clear c116
         try clear c117
         try clear c118
         try clear c119
         try clear c120
         try clear c121
         try clear c123
         try clear c124
         try clear c125
         try clear c126
         try clear c127
         try clear c129
         try clear c130
         try clear c131
         try clear c132
         try clear hcz111_0
         try clear hcz111_1
         try clear hcz111_2
         try clear hcz122_0
         try clear hcz122_1
         try clear hcz122_2
         try clear hcz128_0
         try clear hcz128_1
         try clear hcz128_2
         try clear hcz133_0
         try clear hcz133_1
         try clear hcz13_0
         try clear hcz13_1
         try clear hcz14_0
         try clear hcz14_1
         try clear hcz23_0
         try clear hcz23_1
         try clear hcz24_0
         try clear hcz24_1
         try clear hcz30_0
         try clear hcz30_1
         try clear hcz30_2
         try clear hcz31_0
         try clear hcz31_1
         try clear hcz32_0
         try clear hcz32_1
         try clear hcz39_0
         try clear hcz39_1
         try clear hcz39_2
         try clear hcz49_0
         try clear hcz49_1
         try clear hcz55_0
         try clear hcz55_1
         try clear hcz61_0
         try clear hcz61_1
         try clear hcz67_0
         try clear hcz67_1
         try clear hcz89_0
         try clear hcz89_1
         try clear hcz95_0
         try clear hcz95_1
         try clear hcz95_2
         try clear hcz99_0
         try clear hcz99_1
         try clear hfz111_0
         try clear hfz111_1
         try clear hfz111_2
         try clear hfz122_0
         try clear hfz122_1
         try clear hfz122_2
         try clear hfz128_0
         try clear hfz128_1
         try clear hfz128_2
         try clear hfz133_0
         try clear hfz133_1
         try clear hfz13_0
         try clear hfz13_1
         try clear hfz14_0
         try clear hfz14_1
         try clear hfz23_0
         try clear hfz23_1
         try clear hfz24_0
         try clear hfz24_1
         try clear hfz30_0
         try clear hfz30_1
         try clear hfz30_2
         try clear hfz31_0
         try clear hfz31_1
         try clear hfz32_0
         try clear hfz32_1
         try clear hfz39_0
         try clear hfz39_1
         try clear hfz39_2
         try clear hfz49_0
         try clear hfz49_1
         try clear hfz55_0
         try clear hfz55_1
         try clear hfz61_0
         try clear hfz61_1
         try clear hfz67_0
         try clear hfz67_1
         try clear hfz89_0
         try clear hfz89_1
         try clear hfz95_0
         try clear hfz95_1
         try clear hfz95_2
         try clear hfz99_0
         try clear hfz99_1
         try clear hx345_0
         try clear hx345_1
         try clear hx348_0
         try clear hx348_1
         try clear p2
         try clear p3
         try clear p34
         try clear p345
         try clear p348
         try clear q3
         try clear q34
         try clear q345
         try clear q348
         obtain ⟨kq, x91_75, rfl, HA, HJ75, HO_339000, HO_345000, HO_362000, BK326, BK327, BK338, BK344, BK346, BK349, BK361, HB⟩ := hcut
         cases kq with
         | zero => exact absurd HA.out (by simp [ropewaylaw16_FrontSteps.j3])
         | succ kj75 =>
          have H := HA.out
          clear HA
          simp only [ropewaylaw16_FrontSteps.j3] at H
          by_cases c134 : x91_75 = true
          · subst c134
            have H1 : (some false) = some r := by rw [if_pos rfl] at H; exact H
            clear H
            have H := H1
            clear H1
            exact absurd (Option.some.inj H) (by rw [hr1_.out]; decide)
          replace c134 := Bool.eq_false_iff.mpr c134
          subst c134
          have H1 : ((ropewayref16_Step.f kj75 x345000_2 x345001_2 x345002_2 ((rd_T24 x345000_2 (ji71)).f0) ((rd_T24 x345000_2 (ji71)).f1) ((rd_T37 l2 x35_2).f1)).bind fun bt364 => ((ropewayref16_Least.f kj75 bt364.1 bt364.2.1 bt364.2.2).bind fun bt369 => ((ropewayref05_Same.f kj75 t356 bt364.1).bind fun t372 => (if t372 = true then (if (!(t359 == bt364.2.1) || (!(t360 == bt364.2.2))) = true then (some false) else ((front_Least.f t356 t359 t360).bind fun bt373 => (if (!(bt373.1 == bt369.1) || (!(bt373.2 == bt369.2))) = true then (some false) else ((front_Ends.f t356 t359 t360 bt369.1 bt369.2).bind fun t375 => (if (t375 != (bt369.1 == bt364.2.1 && (bt369.2 == bt364.2.2))) = true then (some false) else ((front_Want.f t356 t359 t360 bt369.1 bt369.2).bind fun bt376 => ((ropewayref04_Minus.f kj75 bt364.2.1 bt364.2.2 bt369.1 bt369.2).bind fun bt378 => (if (!(bt376.1 == bt378.1) || (!(bt376.2 == bt378.2))) = true then (some false) else (ropewaylaw16_FrontSteps.l0 kj75 l2 (l2.length : Int) (wrap64 (x35_2 + 1)) t356 t359 t360 bt364.1 bt364.2.1 bt364.2.2))))))))) else (some false))))) = some r := by rw [if_neg (show ¬ (false = true) by decide)] at H; exact H
          clear H
          have H := H1
          clear H1
          replace H := Option.bind_eq_some_iff.mp H
          obtain ⟨⟨t364, t367, t368⟩, A1350, H⟩ := H
          replace H : ((ropewayref16_Least.f kj75 t364 t367 t368).bind fun bt369 => ((ropewayref05_Same.f kj75 t356 t364).bind fun t372 => (if t372 = true then (if (!(t359 == t367) || (!(t360 == t368))) = true then (some false) else ((front_Least.f t356 t359 t360).bind fun bt373 => (if (!(bt373.1 == bt369.1) || (!(bt373.2 == bt369.2))) = true then (some false) else ((front_Ends.f t356 t359 t360 bt369.1 bt369.2).bind fun t375 => (if (t375 != (bt369.1 == t367 && (bt369.2 == t368))) = true then (some false) else ((front_Want.f t356 t359 t360 bt369.1 bt369.2).bind fun bt376 => ((ropewayref04_Minus.f kj75 t367 t368 bt369.1 bt369.2).bind fun bt378 => (if (!(bt376.1 == bt378.1) || (!(bt376.2 == bt378.2))) = true then (some false) else (ropewaylaw16_FrontSteps.l0 kj75 l2 (l2.length : Int) (wrap64 (x35_2 + 1)) t356 t359 t360 t364 t367 t368))))))))) else (some false)))) = some r := H
          have A135 := zM A1350
          clear A1350
          replace H := Option.bind_eq_some_iff.mp H
          obtain ⟨⟨t369, t370⟩, A1360, H⟩ := H
          replace H : ((ropewayref05_Same.f kj75 t356 t364).bind fun t372 => (if t372 = true then (if (!(t359 == t367) || (!(t360 == t368))) = true then (some false) else ((front_Least.f t356 t359 t360).bind fun bt373 => (if (!(bt373.1 == t369) || (!(bt373.2 == t370))) = true then (some false) else ((front_Ends.f t356 t359 t360 t369 t370).bind fun t375 => (if (t375 != (t369 == t367 && (t370 == t368))) = true then (some false) else ((front_Want.f t356 t359 t360 t369 t370).bind fun bt376 => ((ropewayref04_Minus.f kj75 t367 t368 t369 t370).bind fun bt378 => (if (!(bt376.1 == bt378.1) || (!(bt376.2 == bt378.2))) = true then (some false) else (ropewaylaw16_FrontSteps.l0 kj75 l2 (l2.length : Int) (wrap64 (x35_2 + 1)) t356 t359 t360 t364 t367 t368))))))))) else (some false))) = some r := H
          have A136 := zM A1360
          clear A1360
          replace H := Option.bind_eq_some_iff.mp H
          obtain ⟨t372, A1370, H⟩ := H
          replace H : (if t372 = true then (if (!(t359 == t367) || (!(t360 == t368))) = true then (some false) else ((front_Least.f t356 t359 t360).bind fun bt373 => (if (!(bt373.1 == t369) || (!(bt373.2 == t370))) = true then (some false) else ((front_Ends.f t356 t359 t360 t369 t370).bind fun t375 => (if (t375 != (t369 == t367 && (t370 == t368))) = true then (some false) else ((front_Want.f t356 t359 t360 t369 t370).bind fun bt376 => ((ropewayref04_Minus.f kj75 t367 t368 t369 t370).bind fun bt378 => (if (!(bt376.1 == bt378.1) || (!(bt376.2 == bt378.2))) = true then (some false) else (ropewaylaw16_FrontSteps.l0 kj75 l2 (l2.length : Int) (wrap64 (x35_2 + 1)) t356 t359 t360 t364 t367 t368))))))))) else (some false)) = some r := H
          have A137 := zM A1370
          clear A1370
          by_cases c138 : t372 = true
          rotate_left
          · replace c138 := Bool.eq_false_iff.mpr c138
            subst c138
            have H1 : (some false) = some r := by rw [if_neg (show ¬ (false = true) by decide)] at H; exact H
            clear H
            have H := H1
            clear H1
            exact absurd (Option.some.inj H) (by rw [hr1_.out]; decide)
          subst c138
          have H1 : (if (!(t359 == t367) || (!(t360 == t368))) = true then (some false) else ((front_Least.f t356 t359 t360).bind fun bt373 => (if (!(bt373.1 == t369) || (!(bt373.2 == t370))) = true then (some false) else ((front_Ends.f t356 t359 t360 t369 t370).bind fun t375 => (if (t375 != (t369 == t367 && (t370 == t368))) = true then (some false) else ((front_Want.f t356 t359 t360 t369 t370).bind fun bt376 => ((ropewayref04_Minus.f kj75 t367 t368 t369 t370).bind fun bt378 => (if (!(bt376.1 == bt378.1) || (!(bt376.2 == bt378.2))) = true then (some false) else (ropewaylaw16_FrontSteps.l0 kj75 l2 (l2.length : Int) (wrap64 (x35_2 + 1)) t356 t359 t360 t364 t367 t368))))))))) = some r := by rw [if_pos rfl] at H; exact H
          clear H
          have H := H1
          clear H1
          by_cases c139 : (!(t359 == t367) || (!(t360 == t368))) = true
          · rw [if_pos c139] at H
            have c139b0 : (!(t359 == t367) || (!(t360 == t368))) = true := c139
            clear c139
            exact absurd (Option.some.inj H) (by rw [hr1_.out]; decide)
          rw [if_neg c139] at H
          have c139b0 : (!(t359 == t367) || (!(t360 == t368))) = false := by simpa using c139
          clear c139
          replace H := Option.bind_eq_some_iff.mp H
          obtain ⟨⟨t373, t374⟩, A1400, H⟩ := H
          replace H : (if (!(t373 == t369) || (!(t374 == t370))) = true then (some false) else ((front_Ends.f t356 t359 t360 t369 t370).bind fun t375 => (if (t375 != (t369 == t367 && (t370 == t368))) = true then (some false) else ((front_Want.f t356 t359 t360 t369 t370).bind fun bt376 => ((ropewayref04_Minus.f kj75 t367 t368 t369 t370).bind fun bt378 => (if (!(bt376.1 == bt378.1) || (!(bt376.2 == bt378.2))) = true then (some false) else (ropewaylaw16_FrontSteps.l0 kj75 l2 (l2.length : Int) (wrap64 (x35_2 + 1)) t356 t359 t360 t364 t367 t368))))))) = some r := H
          have A140 := zM A1400
          clear A1400
          by_cases c141 : (!(t373 == t369) || (!(t374 == t370))) = true
          · rw [if_pos c141] at H
            have c141b0 : (!(t373 == t369) || (!(t374 == t370))) = true := c141
            clear c141
            exact absurd (Option.some.inj H) (by rw [hr1_.out]; decide)
          rw [if_neg c141] at H
          have c141b0 : (!(t373 == t369) || (!(t374 == t370))) = false := by simpa using c141
          clear c141
          replace H := Option.bind_eq_some_iff.mp H
          obtain ⟨t375, A1420, H⟩ := H
          replace H : (if (t375 != (t369 == t367 && (t370 == t368))) = true then (some false) else ((front_Want.f t356 t359 t360 t369 t370).bind fun bt376 => ((ropewayref04_Minus.f kj75 t367 t368 t369 t370).bind fun bt378 => (if (!(bt376.1 == bt378.1) || (!(bt376.2 == bt378.2))) = true then (some false) else (ropewaylaw16_FrontSteps.l0 kj75 l2 (l2.length : Int) (wrap64 (x35_2 + 1)) t356 t359 t360 t364 t367 t368))))) = some r := H
          have A142 := zM A1420
          clear A1420
          by_cases c143 : (t375 != (t369 == t367 && (t370 == t368))) = true
          · rw [if_pos c143] at H
            have c143b0 : (t375 != (t369 == t367 && (t370 == t368))) = true := c143
            (try (have c143b1 : decide (t375 = (t369 == t367 && (t370 == t368))) = false := by simpa using c143))
            (try (have c143b2 : (t375 == (t369 == t367 && (t370 == t368))) = false := by simpa using c143))
            (try (have c143b3 : ¬ (t375 = (t369 == t367 && (t370 == t368))) := by simpa using c143))
            clear c143
            exact absurd (Option.some.inj H) (by rw [hr1_.out]; decide)
          rw [if_neg c143] at H
          have c143b0 : (t375 != (t369 == t367 && (t370 == t368))) = false := by simpa using c143
          (try (have c143b1 : decide (t375 = (t369 == t367 && (t370 == t368))) = true := by simpa using c143))
          (try (have c143b2 : (t375 == (t369 == t367 && (t370 == t368))) = true := by simpa using c143))
          clear c143
          replace H := Option.bind_eq_some_iff.mp H
          obtain ⟨⟨t376, t377⟩, A1440, H⟩ := H
          replace H : ((ropewayref04_Minus.f kj75 t367 t368 t369 t370).bind fun bt378 => (if (!(t376 == bt378.1) || (!(t377 == bt378.2))) = true then (some false) else (ropewaylaw16_FrontSteps.l0 kj75 l2 (l2.length : Int) (wrap64 (x35_2 + 1)) t356 t359 t360 t364 t367 t368))) = some r := H
          have A144 := zM A1440
          clear A1440
          replace H := Option.bind_eq_some_iff.mp H
          obtain ⟨⟨t378, t379⟩, A1450, H⟩ := H
          replace H : (if (!(t376 == t378) || (!(t377 == t379))) = true then (some false) else (ropewaylaw16_FrontSteps.l0 kj75 l2 (l2.length : Int) (wrap64 (x35_2 + 1)) t356 t359 t360 t364 t367 t368)) = some r := H
          have A145 := zM A1450
          clear A1450
          by_cases c146 : (!(t376 == t378) || (!(t377 == t379))) = true
          · rw [if_pos c146] at H
            have c146b0 : (!(t376 == t378) || (!(t377 == t379))) = true := c146
            clear c146
            exact absurd (Option.some.inj H) (by rw [hr1_.out]; decide)
          rw [if_neg c146] at H
          have c146b0 : (!(t376 == t378) || (!(t377 == t379))) = false := by simpa using c146
          clear c146
          have H' := zM H
          clear H
          have hnb147 := NB361_326.out
          have hnc147 := NB326_361.out
          have hnb148 := NB361_327.out
          have hnc148 := NB327_361.out
          have hnb149 := NB361_338.out
          have hnc149 := NB338_361.out
          have hnb150 := NB361_344.out
          have hnc150 := NB344_361.out
          have hnb151 := NB361_346.out
          have hnc151 := NB346_361.out
          have hnb152 := NB361_349.out
          have hnc152 := NB349_361.out
          have hcz153_0 : wc.cell? ⟨gb361, 0, none⟩ = some (.slice Ao104 t356.length co104) := (zL BK361.out 0).trans rfl
          have hcz153_1 : wc.cell? ⟨gb361, 1, none⟩ = some (.int .i64 t359) := (zL BK361.out 1).trans rfl
          have hcz153_2 : wc.cell? ⟨gb361, 2, none⟩ = some (.int .i64 t360) := (zL BK361.out 2).trans rfl
          have hfz153_0 := zF BK361.out 0
          have hfz153_1 := zF BK361.out 1
          have hfz153_2 := zF BK361.out 2
          have hnb154 := NB338_326.out
          have hnc154 := NB326_338.out
          have hnb155 := NB338_327.out
          have hnc155 := NB327_338.out
          have hnb156 := NB338_344.out
          have hnc156 := NB344_338.out
          have hnb157 := NB338_346.out
          have hnc157 := NB346_338.out
          have hnb158 := NB338_349.out
          have hnc158 := NB349_338.out
          have hcz159_0 : wc.cell? ⟨gb338, 0, none⟩ = some (.slice Ao100 x339000_2.length co100) := (zL BK338.out 0).trans rfl
          have hcz159_1 : wc.cell? ⟨gb338, 1, none⟩ = some (.int .i64 x339001_2) := (zL BK338.out 1).trans rfl
          have hcz159_2 : wc.cell? ⟨gb338, 2, none⟩ = some (.int .i64 x339002_2) := (zL BK338.out 2).trans rfl
          have hfz159_0 := zF BK338.out 0
          have hfz159_1 := zF BK338.out 1
          have hfz159_2 := zF BK338.out 2
          try go_wp2_with (first | ((with_reducible refine gate_store (t := 26) (p := 7) rfl ?_); refine store_event (t := 26) (p := 7) (v := ?vo_w160) (w1 := (((wc.setCell ⟨gb338, 0, none⟩ (.slice Ao104 t356.length co104)).setCell ⟨gb338, 1, none⟩ (.int .i64 t359)).setCell ⟨gb338, 2, none⟩ (.int .i64 t360))) ?hg ?ho ?hn ?hr ?_; (case ho => rfl); (case hg => rfl); (case hn => rfl); (case hr => first | (go_simp; done) | (go_simp; rfl)); intro w160 hw; have n0_ : Aside0 (Kd.R k24 24 w160 w.heap.size (fun k_ => some k_ ≠ (.slice (some ad348) x345000_2.length co78 : Value).ownBlock ∧ some k_ ≠ (.slice Ao104 t356.length co104 : Value).ownBlock ∧ k_ ≠ gb326 ∧ k_ ≠ gb327 ∧ k_ ≠ gb349) (.slice Ao100 x339000_2.length co100) x339000_2) := ⟨(by rw [hw]; exact (by (with_reducible repeat (first | apply Kd.R_alloc | apply Kd.R_drewN | apply Kd.R_drew)); exact Kd.R_mono (Kd.R_far (p := ⟨gb338, 2, none⟩) (Kd.R_far (p := ⟨gb338, 1, none⟩) (Kd.R_far (p := ⟨gb338, 0, none⟩) (Kd.R_types HO_339000.out BK338.out (by decide)) (fun _ hk => hk.2) (.slice Ao104 t356.length co104)) (fun _ hk => hk.2) (.int .i64 t359)) (fun _ hk => hk.2) (.int .i64 t360)) (fun _ hk => ⟨hk.1.1, ⟨hk.1.2.1, ⟨hk.1.2.2.1, ⟨hk.1.2.2.2.1, hk.1.2.2.2.2⟩⟩⟩⟩)))⟩; have n1_ : Aside0 (Kd.R k24 24 w160 w.heap.size (fun k_ => some k_ ≠ (.slice Ao100 x339000_2.length co100 : Value).ownBlock ∧ some k_ ≠ (.slice Ao104 t356.length co104 : Value).ownBlock ∧ k_ ≠ gb326 ∧ k_ ≠ gb327 ∧ k_ ≠ gb349) (.slice (some ad348) x345000_2.length co78) x345000_2) := ⟨(by rw [hw]; exact (by (with_reducible repeat (first | apply Kd.R_alloc | apply Kd.R_drewN | apply Kd.R_drew)); exact Kd.R_mono (Kd.R_far (p := ⟨gb338, 2, none⟩) (Kd.R_far (p := ⟨gb338, 1, none⟩) (Kd.R_far (p := ⟨gb338, 0, none⟩) (Kd.R_types HO_345000.out BK338.out (by decide)) (fun _ hk => hk.2) (.slice Ao104 t356.length co104)) (fun _ hk => hk.2) (.int .i64 t359)) (fun _ hk => hk.2) (.int .i64 t360)) (fun _ hk => ⟨hk.1.1, ⟨hk.1.2.1, ⟨hk.1.2.2.1, ⟨hk.1.2.2.2.1, hk.1.2.2.2.2⟩⟩⟩⟩)))⟩; have n2_ : Aside0 (Kd.R k24 24 w160 w.heap.size (fun k_ => some k_ ≠ (.slice Ao100 x339000_2.length co100 : Value).ownBlock ∧ some k_ ≠ (.slice (some ad348) x345000_2.length co78 : Value).ownBlock ∧ k_ ≠ gb326 ∧ k_ ≠ gb327 ∧ k_ ≠ gb349) (.slice Ao104 t356.length co104) t356) := ⟨(by rw [hw]; exact (by (with_reducible repeat (first | apply Kd.R_alloc | apply Kd.R_drewN | apply Kd.R_drew)); exact Kd.R_mono (Kd.R_far (p := ⟨gb338, 2, none⟩) (Kd.R_far (p := ⟨gb338, 1, none⟩) (Kd.R_far (p := ⟨gb338, 0, none⟩) (Kd.R_types HO_362000.out BK338.out (by decide)) (fun _ hk => hk.2) (.slice Ao104 t356.length co104)) (fun _ hk => hk.2) (.int .i64 t359)) (fun _ hk => hk.2) (.int .i64 t360)) (fun _ hk => ⟨hk.1.1, ⟨hk.1.2.1, ⟨hk.1.2.2.1, ⟨hk.1.2.2.2.1, hk.1.2.2.2.2⟩⟩⟩⟩)))⟩; have n3_ : Aside0 (w160.heap[gb326]? = some (.cells #[.int .i64 a0_0, .int .i64 a0_1] 24 (0, 0))) := ⟨(by rw [hw]; exact blf_)⟩; have n4_ : Aside0 (w160.heap[gb327]? = some (.cells #[.int .i64 a1_0, .int .i64 a1_1] 24 (0, 0))) := ⟨(by rw [hw]; exact blf_)⟩; have n5_ : Aside0 (w160.heap[gb338]? = some (.cells #[.slice Ao104 t356.length co104, .int .i64 t359, .int .i64 t360] 26 (0, 0))) := ⟨(by rw [hw]; exact (by (with_reducible repeat (first | refine zN ?_ _ | refine zD ?_ | refine zA ?_ _)); refine blk_put (cs := #[.slice Ao104 t356.length co104, .int .i64 t359, .int .i64 x339002_2]) ?_ 2 _ rfl; (with_reducible repeat (first | refine zN ?_ _ | refine zD ?_ | refine zA ?_ _)); refine blk_put (cs := #[.slice Ao104 t356.length co104, .int .i64 x339001_2, .int .i64 x339002_2]) ?_ 1 _ rfl; (with_reducible repeat (first | refine zN ?_ _ | refine zD ?_ | refine zA ?_ _)); refine blk_put (cs := #[.slice Ao100 x339000_2.length co100, .int .i64 x339001_2, .int .i64 x339002_2]) ?_ 0 _ rfl; (with_reducible repeat (first | refine zN ?_ _ | refine zD ?_ | refine zA ?_ _)); exact BK338.out))⟩; have n6_ : Aside0 (w160.heap[gb344]? = some (.cells #[.slice (some ad348) x345000_2.length co78, .int .i64 x345001_2, .int .i64 x345002_2] 34 (0, 0))) := ⟨(by rw [hw]; exact blf_)⟩; have n7_ : Aside0 (w160.heap[gb346]? = some (.cells #[.int .i64 ((rd_T37 l2 x35_2).f0), .slice A345_1 ((rd_T37 l2 x35_2).f1).length c345_1] 37 (0, 0))) := ⟨(by rw [hw]; exact blf_)⟩; have n8_ : Aside0 (w160.heap[gb349]? = some (.cells #[.int .i64 ((rd_T24 x345000_2 (ji71)).f0), .int .i64 ((rd_T24 x345000_2 (ji71)).f1)] 24 (0, 0))) := ⟨(by rw [hw]; exact blf_)⟩; have n9_ : Aside0 (w160.heap[gb361]? = some (.cells #[.slice Ao104 t356.length co104, .int .i64 t359, .int .i64 t360] 26 (0, 0))) := ⟨(by rw [hw]; exact blf_)⟩; have n10_ : Aside0 (Below w.heap.size w w160) := ⟨(by rw [hw]; exact bel_)⟩; clear hw; clear HO_339000; clear HO_345000; clear HO_362000; clear BK326; clear BK327; clear BK338; clear BK344; clear BK346; clear BK349; clear BK361; clear HB; have HO_339000 := n0_; have HO_345000 := n1_; have HO_362000 := n2_; have BK326 := n3_; have BK327 := n4_; have BK338 := n5_; have BK344 := n6_; have BK346 := n7_; have BK349 := n8_; have BK361 := n9_; have HB := n10_; clear n0_ n1_ n2_ n3_ n4_ n5_ n6_ n7_ n8_ n9_ n10_; have hnb161 := NB344_326.out; have hnc161 := NB326_344.out; have hnb162 := NB344_327.out; have hnc162 := NB327_344.out; have hnb163 := NB344_346.out; have hnc163 := NB346_344.out; have hnb164 := NB344_349.out; have hnc164 := NB349_344.out; have hcz165_0 : w160.cell? ⟨gb344, 0, none⟩ = some (.slice (some ad348) x345000_2.length co78) := (zL BK344.out 0).trans rfl; have hcz165_1 : w160.cell? ⟨gb344, 1, none⟩ = some (.int .i64 x345001_2) := (zL BK344.out 1).trans rfl; have hcz165_2 : w160.cell? ⟨gb344, 2, none⟩ = some (.int .i64 x345002_2) := (zL BK344.out 2).trans rfl; have hfz165_0 := zF BK344.out 0; have hfz165_1 := zF BK344.out 1; have hfz165_2 := zF BK344.out 2; have hnb166 := NB349_326.out; have hnc166 := NB326_349.out; have hnb167 := NB349_327.out; have hnc167 := NB327_349.out; have hnb168 := NB349_346.out; have hnc168 := NB346_349.out; have hcz169_0 : w160.cell? ⟨gb349, 0, none⟩ = some (.int .i64 ((rd_T24 x345000_2 (ji71)).f0)) := (zL BK349.out 0).trans rfl; have hcz169_1 : w160.cell? ⟨gb349, 1, none⟩ = some (.int .i64 ((rd_T24 x345000_2 (ji71)).f1)) := (zL BK349.out 1).trans rfl; have hfz169_0 := zF BK349.out 0; have hfz169_1 := zF BK349.out 1; have hnb170 := NB346_326.out; have hnc170 := NB326_346.out; have hnb171 := NB346_327.out; have hnc171 := NB327_346.out; have hcz172_0 : w160.cell? ⟨gb346, 0, none⟩ = some (.int .i64 ((rd_T37 l2 x35_2).f0)) := (zL BK346.out 0).trans rfl; have hcz172_1 : w160.cell? ⟨gb346, 1, none⟩ = some (.slice A345_1 ((rd_T37 l2 x35_2).f1).length c345_1) := (zL BK346.out 1).trans rfl; have hfz172_0 := zF BK346.out 0; have hfz172_1 := zF BK346.out 1) | ((with_reducible refine gate_callee (f := 16) rfl ?_); refine goesL_ (some 97) rfl rfl Try.func16 (by kernel_rfl) rfl #[.agg #[.slice (some ad348) x345000_2.length co78, .int .i64 x345001_2, .int .i64 x345002_2], .agg #[.int .i64 ((rd_T24 x345000_2 (ji71)).f0), .int .i64 ((rd_T24 x345000_2 (ji71)).f1)], .slice A345_1 ((rd_T37 l2 x35_2).f1).length c345_1] rfl (by (try simp only [List.map_toArray, List.map_cons, List.map_nil]); first | done | (simp only [hji71]; rfl) | rfl | (simp only [List.length_drop, List.length_take]; rfl)) ?_; (with_reducible refine (ropewayref16_Step.calls kj75 (fun k_ => some k_ = (.slice (some ad348) x345000_2.length co78 : Value).ownBlock) (.slice (some ad348) x345000_2.length co78) x345000_2 x345001_2 x345002_2 ((rd_T24 x345000_2 (ji71)).f0) ((rd_T24 x345000_2 (ji71)).f1) _ _ ((rd_T37 l2 x35_2).f1) t364 t367 t368 w _ ?side1 ?side2 ?side3 ?side4 A135.out).mono ?_); (case side1 => repeat (first | (with_reducible first | exact HB.out | apply below_alloc | apply pw_below_drewN | apply below_drew1 | refine below_set ?_ GE326.out | refine below_set ?_ GE327.out | refine below_set ?_ GE338.out | refine below_set ?_ GE344.out | refine below_set ?_ GE346.out | refine below_set ?_ GE349.out | refine below_set ?_ GE361.out) | exact HB.out)); (case side2 => exact Kd.R_tight rfl HO_345000.out); (case side3 => exact Kd.C_kept_came k24_heap HR345_1.out bel_ (fun k_ hs_ => (fun e_ => Kd.R_base HO_345000.out k_ e_.symm) hs_)); (case side4 => exact HC345_1.out); rintro e w173 ⟨v365, rfl, ho0, hb, hkp⟩; refine ⟨_, rfl, ?_⟩; have n0_ := zM (Kd.R_mono (ok' := fun k_ => some k_ ≠ (.slice Ao104 t356.length co104 : Value).ownBlock ∧ k_ ≠ gb326 ∧ k_ ≠ gb327 ∧ k_ ≠ gb349 ∧ some k_ ≠ (v365 : Value).ownBlock) (Kd.R_keptB (HO_339000.out) hkp (fun k_ hk_ hs_ => (hk_.1) hs_)) (fun k_ hk_ => ⟨hk_.1.2.1, hk_.1.2.2.1, hk_.1.2.2.2.1, hk_.1.2.2.2.2, fun e_ => Or.elim (ho0.1 k_ e_.symm) (fun hs_ => hk_.2.1 hs_) (fun hn_ => Nat.not_le.2 hk_.2.2 hn_)⟩)); have n1_ := zM (Kd.R_mono (ok' := fun k_ => some k_ ≠ (.slice Ao100 x339000_2.length co100 : Value).ownBlock ∧ k_ ≠ gb326 ∧ k_ ≠ gb327 ∧ k_ ≠ gb349 ∧ some k_ ≠ (v365 : Value).ownBlock) (Kd.R_keptB (HO_362000.out) hkp (fun k_ hk_ hs_ => (hk_.2.1) hs_)) (fun k_ hk_ => ⟨hk_.1.1, hk_.1.2.2.1, hk_.1.2.2.2.1, hk_.1.2.2.2.2, fun e_ => Or.elim (ho0.1 k_ e_.symm) (fun hs_ => hk_.2.1 hs_) (fun hn_ => Nat.not_le.2 hk_.2.2 hn_)⟩)); have n2_ := zM (blk_kept blk_ hkp (fun hs_ => (fun e_ => (Kd.R_away HO_345000.out (fun _ hk => hk.2.2.1)) e_) hs_)); have n3_ := zM (blk_kept blk_ hkp (fun hs_ => (fun e_ => (Kd.R_away HO_345000.out (fun _ hk => hk.2.2.2.1)) e_) hs_)); have n4_ := zM (blk_kept blk_ hkp (fun hs_ => (fun e_ => (Kd.R_ne HO_345000.out BK338.out (by decide)) e_) hs_)); have n5_ := zM (blk_kept blk_ hkp (fun hs_ => (fun e_ => (Kd.R_ne HO_345000.out BK344.out (by decide)) e_) hs_)); have n6_ := zM (blk_kept blk_ hkp (fun hs_ => (fun e_ => (Kd.R_ne HO_345000.out BK346.out (by decide)) e_) hs_)); have n7_ := zM (blk_kept blk_ hkp (fun hs_ => (fun e_ => (Kd.R_away HO_345000.out (fun _ hk => hk.2.2.2.2)) e_) hs_)); have n8_ := zM (blk_kept blk_ hkp (fun hs_ => (fun e_ => (Kd.R_ne HO_345000.out BK361.out (by decide)) e_) hs_)); have n9_ := zM (Kd.R_mono (ok' := fun k_ => some k_ ≠ (.slice Ao100 x339000_2.length co100 : Value).ownBlock ∧ some k_ ≠ (.slice Ao104 t356.length co104 : Value).ownBlock ∧ k_ ≠ gb326 ∧ k_ ≠ gb327 ∧ k_ ≠ gb349) ho0 (fun k_ hk_ => ⟨Or.elim hk_ (fun hs_ => fun e_ => (((HO_339000.out).1 k_ e_.symm).1) hs_) (fun hn_ => (Kd.fresh' (Kd.R_lt (rl_ HO_339000)) k_ hn_)), Or.elim hk_ (fun hs_ => fun e_ => (((HO_362000.out).1 k_ e_.symm).2.1) hs_) (fun hn_ => (Kd.fresh' (Kd.R_lt (rl_ HO_362000)) k_ hn_)), Or.elim hk_ (fun hs_ => fun e_ => (Kd.R_away HO_345000.out (fun _ hk => hk.2.2.1)) (by rw [← e_]; exact hs_)) (fun hn_ => (Kd.freshB (g := gb326) (o := .cells #[.int .i64 a0_0, .int .i64 a0_1] 24 (0, 0)) blk_ k_ hn_)), Or.elim hk_ (fun hs_ => fun e_ => (Kd.R_away HO_345000.out (fun _ hk => hk.2.2.2.1)) (by rw [← e_]; exact hs_)) (fun hn_ => (Kd.freshB (g := gb327) (o := .cells #[.int .i64 a1_0, .int .i64 a1_1] 24 (0, 0)) blk_ k_ hn_)), Or.elim hk_ (fun hs_ => fun e_ => (Kd.R_away HO_345000.out (fun _ hk => hk.2.2.2.2)) (by rw [← e_]; exact hs_)) (fun hn_ => (Kd.freshB (g := gb349) (o := .cells #[.int .i64 ((rd_T24 x345000_2 (ji71)).f0), .int .i64 ((rd_T24 x345000_2 (ji71)).f1)] 24 (0, 0)) blk_ k_ hn_))⟩)); have n10_ := zM (hb); clear HO_339000; clear HO_362000; clear BK326; clear BK327; clear BK338; clear BK344; clear BK346; clear BK349; clear BK361; clear HB; clear HO_345000; have HO_339000 := n0_; have HO_362000 := n1_; have BK326 := n2_; have BK327 := n3_; have BK338 := n4_; have BK344 := n5_; have BK346 := n6_; have BK349 := n7_; have BK361 := n8_; have HO366 := n9_; have HB := n10_; clear n0_ n1_ n2_ n3_ n4_ n5_ n6_ n7_ n8_ n9_ n10_; (try clear hb); (try clear hkp); (try clear ho0); obtain ⟨Ao174, co174, eo174⟩ := Kd.R_slice HO366.out; subst eo174; have hcz175_0 : w173.cell? ⟨gb344, 0, none⟩ = some (.slice (some ad348) x345000_2.length co78) := (zL BK344.out 0).trans rfl; have hcz175_1 : w173.cell? ⟨gb344, 1, none⟩ = some (.int .i64 x345001_2) := (zL BK344.out 1).trans rfl; have hcz175_2 : w173.cell? ⟨gb344, 2, none⟩ = some (.int .i64 x345002_2) := (zL BK344.out 2).trans rfl; have hfz175_0 := zF BK344.out 0; have hfz175_1 := zF BK344.out 1; have hfz175_2 := zF BK344.out 2) | ((with_reducible refine gate_callee (f := 17) rfl ?_); refine goL_ (some 99) Try.func17 #[.agg #[.slice Ao174 t364.length co174, .int .i64 t367, .int .i64 t368]] ?_; (with_reducible refine (ropewayref16_Least.calls kj75 _ _ t364 t367 t368 t369 t370 _ ?side1 ?side2 A136.out).mono ?_); (case side1 => refine (Kd.R_reads' (e := 24) (base := w.heap.size) (ok := fun k_ => (some k_ ≠ (.slice Ao100 x339000_2.length co100 : Value).ownBlock ∧ (some k_ ≠ (.slice Ao104 t356.length co104 : Value).ownBlock ∧ (k_ ≠ gb326 ∧ (k_ ≠ gb327 ∧ k_ ≠ gb349))))) (n := t364.length) (c := co174) ?_).2.2; exact (by (with_reducible repeat (first | apply Kd.R_alloc | apply Kd.R_drewN | apply Kd.R_drew)); exact (Kd.R_mono (Kd.R_far (p := ⟨gb344, 2, none⟩) (Kd.R_far (p := ⟨gb344, 1, none⟩) (Kd.R_far (p := ⟨gb344, 0, none⟩) (Kd.R_types HO366.out BK344.out (by decide)) (fun _ hk => hk.2) (.slice Ao174 t364.length co174)) (fun _ hk => hk.2) (.int .i64 t367)) (fun _ hk => hk.2) (.int .i64 t368)) (fun _ h_ => h_.1)))); (case side2 => exact (Kd.R_reads' HO366.out).2.1); rintro e w176 ⟨rfl, hb⟩; refine ⟨_, rfl, ?_⟩; have n0_ := zM (Kd.R_below (by (with_reducible repeat (first | apply Kd.R_alloc | apply Kd.R_drewN | apply Kd.R_drew)); exact (Kd.R_mono (Kd.R_far (p := ⟨gb344, 2, none⟩) (Kd.R_far (p := ⟨gb344, 1, none⟩) (Kd.R_far (p := ⟨gb344, 0, none⟩) (Kd.R_types HO_339000.out BK344.out (by decide)) (fun _ hk => hk.2) (.slice Ao174 t364.length co174)) (fun _ hk => hk.2) (.int .i64 t367)) (fun _ hk => hk.2) (.int .i64 t368)) (fun _ h_ => h_.1))) hb); have n1_ := zM (Kd.R_below (by (with_reducible repeat (first | apply Kd.R_alloc | apply Kd.R_drewN | apply Kd.R_drew)); exact (Kd.R_mono (Kd.R_far (p := ⟨gb344, 2, none⟩) (Kd.R_far (p := ⟨gb344, 1, none⟩) (Kd.R_far (p := ⟨gb344, 0, none⟩) (Kd.R_types HO_362000.out BK344.out (by decide)) (fun _ hk => hk.2) (.slice Ao174 t364.length co174)) (fun _ hk => hk.2) (.int .i64 t367)) (fun _ hk => hk.2) (.int .i64 t368)) (fun _ h_ => h_.1))) hb); have n2_ := zM (Kd.R_below (by (with_reducible repeat (first | apply Kd.R_alloc | apply Kd.R_drewN | apply Kd.R_drew)); exact (Kd.R_mono (Kd.R_far (p := ⟨gb344, 2, none⟩) (Kd.R_far (p := ⟨gb344, 1, none⟩) (Kd.R_far (p := ⟨gb344, 0, none⟩) (Kd.R_types HO366.out BK344.out (by decide)) (fun _ hk => hk.2) (.slice Ao174 t364.length co174)) (fun _ hk => hk.2) (.int .i64 t367)) (fun _ hk => hk.2) (.int .i64 t368)) (fun _ h_ => h_.1))) hb); have n3_ := zM (blk_below (g := gb326) (o := .cells #[.int .i64 a0_0, .int .i64 a0_1] 24 (0, 0)) blf_ hb); have n4_ := zM (blk_below (g := gb327) (o := .cells #[.int .i64 a1_0, .int .i64 a1_1] 24 (0, 0)) blf_ hb); have n5_ := zM (blk_below (g := gb338) (o := .cells #[.slice Ao104 t356.length co104, .int .i64 t359, .int .i64 t360] 26 (0, 0)) blf_ hb); have n6_ := zM (blk_below (g := gb344) (o := .cells #[.slice Ao174 t364.length co174, .int .i64 t367, .int .i64 t368] 34 (0, 0)) (by (with_reducible repeat (first | refine zN ?_ _ | refine zD ?_ | refine zA ?_ _)); refine blk_put (cs := #[.slice Ao174 t364.length co174, .int .i64 t367, .int .i64 x345002_2]) ?_ 2 _ rfl; (with_reducible repeat (first | refine zN ?_ _ | refine zD ?_ | refine zA ?_ _)); refine blk_put (cs := #[.slice Ao174 t364.length co174, .int .i64 x345001_2, .int .i64 x345002_2]) ?_ 1 _ rfl; (with_reducible repeat (first | refine zN ?_ _ | refine zD ?_ | refine zA ?_ _)); refine blk_put (cs := #[.slice (some ad348) x345000_2.length co78, .int .i64 x345001_2, .int .i64 x345002_2]) ?_ 0 _ rfl; (with_reducible repeat (first | refine zN ?_ _ | refine zD ?_ | refine zA ?_ _)); exact BK344.out) hb); have n7_ := zM (blk_below (g := gb346) (o := .cells #[.int .i64 ((rd_T37 l2 x35_2).f0), .slice A345_1 ((rd_T37 l2 x35_2).f1).length c345_1] 37 (0, 0)) blf_ hb); have n8_ := zM (blk_below (g := gb349) (o := .cells #[.int .i64 ((rd_T24 x345000_2 (ji71)).f0), .int .i64 ((rd_T24 x345000_2 (ji71)).f1)] 24 (0, 0)) blf_ hb); have n9_ := zM (blk_below (g := gb361) (o := .cells #[.slice Ao104 t356.length co104, .int .i64 t359, .int .i64 t360] 26 (0, 0)) blf_ hb); have n10_ := zM (zB bel_ hb); clear HO_339000; clear HO_362000; clear HO366; clear BK326; clear BK327; clear BK338; clear BK344; clear BK346; clear BK349; clear BK361; clear HB; have HO_339000 := n0_; have HO_362000 := n1_; have HO366 := n2_; have BK326 := n3_; have BK327 := n4_; have BK338 := n5_; have BK344 := n6_; have BK346 := n7_; have BK349 := n8_; have BK361 := n9_; have HB := n10_; clear n0_ n1_ n2_ n3_ n4_ n5_ n6_ n7_ n8_ n9_ n10_; (try clear hb); (try clear hb2); (try clear hk); (try clear hi)) | ((with_reducible refine gate_dst (N := 14) rfl ?_); (try (refine gate_guard (by rfl) ?_; dsimp only)); refine box_event ?hg (N := 14) ?hd (cs := #[.int .i64 0, .int .i64 0]) (t := 24) ?hr ?_; (case hd => rfl); (case hg => rfl); (case hr => first | (go_simp; done) | (go_simp; rfl)); intro gb371 hg w177 hbox hb; replace HO_339000 := zM (Kd.R_below (Kd.R_elderB (rl_ HO_339000) gb371 (Nat.le_of_eq hg.symm)) hb); replace HO_362000 := zM (Kd.R_below (Kd.R_elderB (rl_ HO_362000) gb371 (Nat.le_of_eq hg.symm)) hb); replace HO366 := zM (Kd.R_below (Kd.R_elderB (rl_ HO366) gb371 (Nat.le_of_eq hg.symm)) hb); have BK371 := zM (hbox); have GW371 := zM (bs_ hg); have GE371 := zM (bs_ hg); replace HB := zM (zB bel_ hb); have NB326_371 := zM (nl_ BK326 hg); have NB371_326 := zM (ng_ BK326 hg); replace BK326 := zM (bb_ BK326 hb); have NB327_371 := zM (nl_ BK327 hg); have NB371_327 := zM (ng_ BK327 hg); replace BK327 := zM (bb_ BK327 hb); have NB338_371 := zM (nl_ BK338 hg); have NB371_338 := zM (ng_ BK338 hg); replace BK338 := zM (bb_ BK338 hb); have NB344_371 := zM (nl_ BK344 hg); have NB371_344 := zM (ng_ BK344 hg); replace BK344 := zM (bb_ BK344 hb); have NB346_371 := zM (nl_ BK346 hg); have NB371_346 := zM (ng_ BK346 hg); replace BK346 := zM (bb_ BK346 hb); have NB349_371 := zM (nl_ BK349 hg); have NB371_349 := zM (ng_ BK349 hg); replace BK349 := zM (bb_ BK349 hb); have NB361_371 := zM (nl_ BK361 hg); have NB371_361 := zM (ng_ BK361 hg); replace BK361 := zM (bb_ BK361 hb); clear hb hbox hg; have hnb178 := NB371_326.out; have hnc178 := NB326_371.out; have hnb179 := NB371_327.out; have hnc179 := NB327_371.out; have hnb180 := NB371_338.out; have hnc180 := NB338_371.out; have hnb181 := NB371_344.out; have hnc181 := NB344_371.out; have hnb182 := NB371_346.out; have hnc182 := NB346_371.out; have hnb183 := NB371_349.out; have hnc183 := NB349_371.out; have hnb184 := NB371_361.out; have hnc184 := NB361_371.out; have hcz185_0 : w177.cell? ⟨gb371, 0, none⟩ = some (.int .i64 0) := (zL BK371.out 0).trans rfl; have hcz185_1 : w177.cell? ⟨gb371, 1, none⟩ = some (.int .i64 0) := (zL BK371.out 1).trans rfl; have hfz185_0 := zF BK371.out 0; have hfz185_1 := zF BK371.out 1))
          have n0_ : Aside0 (Kd.R k24 24 ((w177.setCell ⟨gb371, 0, none⟩ (.int .i64 t369)).setCell ⟨gb371, 1, none⟩ (.int .i64 t370)) w.heap.size (fun k_ => some k_ ≠ (.slice Ao104 t356.length co104 : Value).ownBlock ∧ some k_ ≠ (.slice Ao174 t364.length co174 : Value).ownBlock ∧ k_ ≠ gb326 ∧ k_ ≠ gb327 ∧ k_ ≠ gb349 ∧ k_ ≠ gb371) (.slice Ao100 x339000_2.length co100) x339000_2) := ⟨by (with_reducible repeat (first | apply Kd.R_alloc | apply Kd.R_drewN | apply Kd.R_drew)); exact Kd.R_mono (Kd.R_far (p := ⟨gb371, 1, none⟩) (Kd.R_far (p := ⟨gb371, 0, none⟩) (Kd.R_mono HO_339000.out (fun k_ hk => (⟨hk, hk.2⟩ : _ ∧ k_ ≠ gb371))) (fun _ hk => hk.2) (.int .i64 t369)) (fun _ hk => hk.2) (.int .i64 t370)) (fun _ hk => ⟨hk.1.1.1, ⟨hk.1.1.2.2.2.2, ⟨hk.1.1.2.1, ⟨hk.1.1.2.2.1, ⟨hk.1.1.2.2.2.1, hk.1.2⟩⟩⟩⟩⟩)⟩
          have n1_ : Aside0 (Kd.R k24 24 ((w177.setCell ⟨gb371, 0, none⟩ (.int .i64 t369)).setCell ⟨gb371, 1, none⟩ (.int .i64 t370)) w.heap.size (fun k_ => some k_ ≠ (.slice Ao100 x339000_2.length co100 : Value).ownBlock ∧ some k_ ≠ (.slice Ao174 t364.length co174 : Value).ownBlock ∧ k_ ≠ gb326 ∧ k_ ≠ gb327 ∧ k_ ≠ gb349 ∧ k_ ≠ gb371) (.slice Ao104 t356.length co104) t356) := ⟨by (with_reducible repeat (first | apply Kd.R_alloc | apply Kd.R_drewN | apply Kd.R_drew)); exact Kd.R_mono (Kd.R_far (p := ⟨gb371, 1, none⟩) (Kd.R_far (p := ⟨gb371, 0, none⟩) (Kd.R_mono HO_362000.out (fun k_ hk => (⟨hk, hk.2⟩ : _ ∧ k_ ≠ gb371))) (fun _ hk => hk.2) (.int .i64 t369)) (fun _ hk => hk.2) (.int .i64 t370)) (fun _ hk => ⟨hk.1.1.1, ⟨hk.1.1.2.2.2.2, ⟨hk.1.1.2.1, ⟨hk.1.1.2.2.1, ⟨hk.1.1.2.2.2.1, hk.1.2⟩⟩⟩⟩⟩)⟩
          have n2_ : Aside0 (Kd.R k24 24 ((w177.setCell ⟨gb371, 0, none⟩ (.int .i64 t369)).setCell ⟨gb371, 1, none⟩ (.int .i64 t370)) w.heap.size (fun k_ => some k_ ≠ (.slice Ao100 x339000_2.length co100 : Value).ownBlock ∧ some k_ ≠ (.slice Ao104 t356.length co104 : Value).ownBlock ∧ k_ ≠ gb326 ∧ k_ ≠ gb327 ∧ k_ ≠ gb349 ∧ k_ ≠ gb371) (.slice Ao174 t364.length co174) t364) := ⟨by (with_reducible repeat (first | apply Kd.R_alloc | apply Kd.R_drewN | apply Kd.R_drew)); exact Kd.R_mono (Kd.R_far (p := ⟨gb371, 1, none⟩) (Kd.R_far (p := ⟨gb371, 0, none⟩) (Kd.R_mono HO366.out (fun k_ hk => (⟨hk, hk.2⟩ : _ ∧ k_ ≠ gb371))) (fun _ hk => hk.2) (.int .i64 t369)) (fun _ hk => hk.2) (.int .i64 t370)) (fun _ hk => ⟨hk.1.1.1, ⟨hk.1.1.2.1, ⟨hk.1.1.2.2.1, ⟨hk.1.1.2.2.2.1, ⟨hk.1.1.2.2.2.2, hk.1.2⟩⟩⟩⟩⟩)⟩
          have n3_ : Aside0 (((w177.setCell ⟨gb371, 0, none⟩ (.int .i64 t369)).setCell ⟨gb371, 1, none⟩ (.int .i64 t370)).heap[gb326]? = some (.cells #[.int .i64 a0_0, .int .i64 a0_1] 24 (0, 0))) := ⟨blf_⟩
          have n4_ : Aside0 (((w177.setCell ⟨gb371, 0, none⟩ (.int .i64 t369)).setCell ⟨gb371, 1, none⟩ (.int .i64 t370)).heap[gb327]? = some (.cells #[.int .i64 a1_0, .int .i64 a1_1] 24 (0, 0))) := ⟨blf_⟩
          have n5_ : Aside0 (((w177.setCell ⟨gb371, 0, none⟩ (.int .i64 t369)).setCell ⟨gb371, 1, none⟩ (.int .i64 t370)).heap[gb338]? = some (.cells #[.slice Ao104 t356.length co104, .int .i64 t359, .int .i64 t360] 26 (0, 0))) := ⟨blf_⟩
          have n6_ : Aside0 (((w177.setCell ⟨gb371, 0, none⟩ (.int .i64 t369)).setCell ⟨gb371, 1, none⟩ (.int .i64 t370)).heap[gb344]? = some (.cells #[.slice Ao174 t364.length co174, .int .i64 t367, .int .i64 t368] 34 (0, 0))) := ⟨blf_⟩
          have n7_ : Aside0 (((w177.setCell ⟨gb371, 0, none⟩ (.int .i64 t369)).setCell ⟨gb371, 1, none⟩ (.int .i64 t370)).heap[gb346]? = some (.cells #[.int .i64 ((rd_T37 l2 x35_2).f0), .slice A345_1 ((rd_T37 l2 x35_2).f1).length c345_1] 37 (0, 0))) := ⟨blf_⟩
          have n8_ : Aside0 (((w177.setCell ⟨gb371, 0, none⟩ (.int .i64 t369)).setCell ⟨gb371, 1, none⟩ (.int .i64 t370)).heap[gb349]? = some (.cells #[.int .i64 ((rd_T24 x345000_2 (ji71)).f0), .int .i64 ((rd_T24 x345000_2 (ji71)).f1)] 24 (0, 0))) := ⟨blf_⟩
          have n9_ : Aside0 (((w177.setCell ⟨gb371, 0, none⟩ (.int .i64 t369)).setCell ⟨gb371, 1, none⟩ (.int .i64 t370)).heap[gb361]? = some (.cells #[.slice Ao104 t356.length co104, .int .i64 t359, .int .i64 t360] 26 (0, 0))) := ⟨blf_⟩
          have n10_ : Aside0 (((w177.setCell ⟨gb371, 0, none⟩ (.int .i64 t369)).setCell ⟨gb371, 1, none⟩ (.int .i64 t370)).heap[gb371]? = some (.cells #[.int .i64 t369, .int .i64 t370] 24 (0, 0))) := ⟨by (with_reducible repeat (first | refine zN ?_ _ | refine zD ?_ | refine zA ?_ _)); refine blk_put (cs := #[.int .i64 t369, .int .i64 0]) ?_ 1 _ rfl; (with_reducible repeat (first | refine zN ?_ _ | refine zD ?_ | refine zA ?_ _)); refine blk_put (cs := #[.int .i64 0, .int .i64 0]) ?_ 0 _ rfl; (with_reducible repeat (first | refine zN ?_ _ | refine zD ?_ | refine zA ?_ _)); exact BK371.out⟩
          have n11_ : Aside0 (Below w.heap.size w ((w177.setCell ⟨gb371, 0, none⟩ (.int .i64 t369)).setCell ⟨gb371, 1, none⟩ (.int .i64 t370))) := ⟨bel_⟩
          (try clear HO_339000)
          (try clear HO_362000)
          (try clear HO366)
          (try clear BK326)
          (try clear BK327)
          (try clear BK338)
          (try clear BK344)
          (try clear BK346)
          (try clear BK349)
          (try clear BK361)
          (try clear BK371)
          (try clear HB)
          generalize ((w177.setCell ⟨gb371, 0, none⟩ (.int .i64 t369)).setCell ⟨gb371, 1, none⟩ (.int .i64 t370)) = w186 at n0_ n1_ n2_ n3_ n4_ n5_ n6_ n7_ n8_ n9_ n10_ n11_ ⊢
          have HO_339000 := n0_
          have HO_362000 := n1_
          have HO366 := n2_
          have BK326 := n3_
          have BK327 := n4_
          have BK338 := n5_
          have BK344 := n6_
          have BK346 := n7_
          have BK349 := n8_
          have BK361 := n9_
          have BK371 := n10_
          have HB := n11_
          clear n0_ n1_ n2_ n3_ n4_ n5_ n6_ n7_ n8_ n9_ n10_ n11_
          replace HO_339000 := zM (Kd.R_drew HO_339000.out)
          replace HO_362000 := zM (Kd.R_drew HO_362000.out)
          replace HO366 := zM (Kd.R_drew HO366.out)
          replace BK326 := zM (zD BK326.out)
          replace BK327 := zM (zD BK327.out)
          replace BK338 := zM (zD BK338.out)
          replace BK344 := zM (zD BK344.out)
          replace BK346 := zM (zD BK346.out)
          replace BK349 := zM (zD BK349.out)
          replace BK361 := zM (zD BK361.out)
          replace BK371 := zM (zD BK371.out)
          replace HB := zM (below_drew1 HB.out)
          refine start_ (n := 39) (S := fun w' => w'.cell? ⟨gb338, 0, none⟩ = some (.slice Ao104 t356.length co104) ∧ w'.cell? ⟨gb338, 1, none⟩ = some (.int .i64 t359) ∧ w'.cell? ⟨gb338, 2, none⟩ = some (.int .i64 t360) ∧ w'.cell? ⟨gb344, 0, none⟩ = some (.slice Ao174 t364.length co174) ∧ w'.cell? ⟨gb344, 1, none⟩ = some (.int .i64 t367) ∧ w'.cell? ⟨gb344, 2, none⟩ = some (.int .i64 t368) ∧ w'.cell? ⟨gb371, 0, none⟩ = some (.int .i64 t369) ∧ w'.cell? ⟨gb371, 1, none⟩ = some (.int .i64 t370)) (ds := []) #[F_, F_, F_, F_, F_, F_, F_, F_, F_, F_, F_, F_, F_, F_, F_, F_, F_, F_, F_, F_, F_, F_, F_, F_, F_, F_, F_, F_, F_, F_, F_, F_, F_, F_, F_, F_, F_, F_, F_] (by kernel_rfl) rfl rfl ⟨(zL BK338.out 0).trans rfl, (zL BK338.out 1).trans rfl, (zL BK338.out 2).trans rfl, (zL BK344.out 0).trans rfl, (zL BK344.out 1).trans rfl, (zL BK344.out 2).trans rfl, (zL BK371.out 0).trans rfl, (zL BK371.out 1).trans rfl⟩ (fun hHeld => ?_); refine with_tabW ropewaylaw16_FrontSteps.tab20 ropewaylaw16_FrontSteps.bits20 (fun HT_ HW_ => ?_)
          generalize w186.drew = w187 at HO_339000 HO_362000 HO366 BK326 BK327 BK338 BK344 BK346 BK349 BK361 BK371 HB hHeld ⊢
          refine pure_ (i := 0) (N := some 100) (v := ?_) (a' := ?_) #[T_, F_, F_, F_, F_, F_, F_, F_, F_, F_, F_, F_, F_, F_, F_, F_, F_, F_, F_, F_, F_, F_, F_, F_, F_, F_, F_, F_, F_, F_, F_, F_, F_, F_, F_, F_, F_, F_, F_] rfl rfl (any_of HT_.out (by kernel_rfl)) (fun _ _ _ h => h) (Or.inl ⟨by rfl, ?_⟩) ?_ ?_
          rotate_left
          · intro w'
            go_simp
            with_reducible rfl
          rotate_left
          · simp only [Act.put, zS, zZ, zC, i64_w, i32_w]
            rfl
          refine pure_ (i := 2) (N := some 102) (v := ?_) (a' := ?_) #[T_, F_, T_, F_, F_, F_, F_, F_, F_, F_, F_, F_, F_, F_, F_, F_, F_, F_, F_, F_, F_, F_, F_, F_, F_, F_, F_, F_, F_, F_, F_, F_, F_, F_, F_, F_, F_, F_, F_] rfl rfl (any_of HT_.out (by kernel_rfl)) (fun _ _ _ h => h) (Or.inl ⟨by rfl, ?_⟩) ?_ ?_
          rotate_left
          · intro w'
            go_simp
            with_reducible rfl
          rotate_left
          · simp only [Act.put, zS, zZ, zC, i64_w, i32_w]
            rfl
          refine take_ (i := 1) (N := some 101) (v := ?_) (a' := ?_) #[T_, T_, T_, F_, F_, F_, F_, F_, F_, F_, F_, F_, F_, F_, F_, F_, F_, F_, F_, F_, F_, F_, F_, F_, F_, F_, F_, F_, F_, F_, F_, F_, F_, F_, F_, F_, F_, F_, F_] rfl rfl (take_ofW HT_.out HW_.out (by kernel_rfl)) (fun _ _ _ h => h) (Or.inl ⟨by rfl, ?_⟩) hHeld ?_ ?_
          rotate_left
          · rintro w' ⟨s0, s1, s2, s3, s4, s5, s6, s7⟩
            go_simp
            with_reducible rfl
          rotate_left
          · simp only [Act.put, zS, zZ, zC, i64_w, i32_w]
            rfl
          refine take_ (i := 3) (N := some 103) (v := ?_) (a' := ?_) #[T_, T_, T_, T_, F_, F_, F_, F_, F_, F_, F_, F_, F_, F_, F_, F_, F_, F_, F_, F_, F_, F_, F_, F_, F_, F_, F_, F_, F_, F_, F_, F_, F_, F_, F_, F_, F_, F_, F_] rfl rfl (take_ofW HT_.out HW_.out (by kernel_rfl)) (fun _ _ _ h => h) (Or.inl ⟨by rfl, ?_⟩) hHeld ?_ ?_
          rotate_left
          · rintro w' ⟨s0, s1, s2, s3, s4, s5, s6, s7⟩
            go_simp
            with_reducible rfl
          rotate_left
          · simp only [Act.put, zS, zZ, zC, i64_w, i32_w]
            rfl
          refine one_ (i := 4) (N := some 104) #[T_, T_, T_, T_, T_, F_, F_, F_, F_, F_, F_, F_, F_, F_, F_, F_, F_, F_, F_, F_, F_, F_, F_, F_, F_, F_, F_, F_, F_, F_, F_, F_, F_, F_, F_, F_, F_, F_, F_] rfl rfl (one_of HT_.out (by kernel_rfl)) (by decide) (fun K hK => ?_)
          refine goes_ Try.func15 (by kernel_rfl) rfl #[.slice Ao104 t356.length co104, .slice Ao174 t364.length co174] (by rfl) rfl rfl (by (try simp only [List.map_toArray, List.map_cons, List.map_nil]); first | done | rfl | (simp only [List.length_drop, List.length_take]; rfl)) ?_
          with_reducible refine (ropewayref05_Same.calls kj75 _ _ t356 _ _ t364 true _ ?side1 ?side2 ?side3 ?side4 A137.out).mono ?_
          (case side1 => repeat (first | exact (Kd.R_reads' HO_362000.out).2.2 | (with_reducible refine Kd.C_alloc ?_ _) | (with_reducible refine Kd.C_drewN ?_ _) | (with_reducible refine Kd.C_drew ?_)))
          (case side2 => exact (Kd.R_reads' HO_362000.out).2.1)
          (case side3 => repeat (first | exact (Kd.R_reads' HO366.out).2.2 | (with_reducible refine Kd.C_alloc ?_ _) | (with_reducible refine Kd.C_drewN ?_ _) | (with_reducible refine Kd.C_drew ?_)))
          (case side4 => exact (Kd.R_reads' HO366.out).2.1)
          rintro e w' ⟨rfl, ⟨nd, rfl⟩⟩
          refine ⟨_, rfl, ?_⟩
          refine hK.out _ _ ⟨(zL BK338.out 0).trans rfl, (zL BK338.out 1).trans rfl, (zL BK338.out 2).trans rfl, (zL BK344.out 0).trans rfl, (zL BK344.out 1).trans rfl, (zL BK344.out 2).trans rfl, (zL BK371.out 0).trans rfl, (zL BK371.out 1).trans rfl⟩ (fun hHeld => ?_)
          clear hK K
          refine norm_ (a' := ?_) ?_ ?_
          rotate_left
          · show Act.put _ (some 104) _ = _
            simp only [Act.put, zS, zZ, zC, i64_w, i32_w]
            rfl
          refine pure_ (i := 5) (N := some 105) (v := ?_) (a' := ?_) #[T_, T_, T_, T_, T_, T_, F_, F_, F_, F_, F_, F_, F_, F_, F_, F_, F_, F_, F_, F_, F_, F_, F_, F_, F_, F_, F_, F_, F_, F_, F_, F_, F_, F_, F_, F_, F_, F_, F_] rfl rfl (any_of HT_.out (by kernel_rfl)) (fun _ _ _ h => h) (Or.inl ⟨by rfl, ?_⟩) ?_ ?_
          rotate_left
          · intro w'
            go_simp
            with_reducible rfl
          rotate_left
          · simp only [Act.put, zS, zZ, zC, i64_w, i32_w]
            rfl
          refine pure_ (i := 6) (N := some 106) (v := ?_) (a' := ?_) #[T_, T_, T_, T_, T_, T_, T_, F_, F_, F_, F_, F_, F_, F_, F_, F_, F_, F_, F_, F_, F_, F_, F_, F_, F_, F_, F_, F_, F_, F_, F_, F_, F_, F_, F_, F_, F_, F_, F_] rfl rfl (any_of HT_.out (by kernel_rfl)) (fun _ _ _ h => h) (Or.inl ⟨by rfl, ?_⟩) ?_ ?_
          rotate_left
          · intro w'
            go_simp
            with_reducible rfl
          rotate_left
          · simp only [Act.put, zS, zZ, zC, i64_w, i32_w]
            rfl
          refine pure_ (i := 7) (N := some 107) (v := ?_) (a' := ?_) #[T_, T_, T_, T_, T_, T_, T_, T_, F_, F_, F_, F_, F_, F_, F_, F_, F_, F_, F_, F_, F_, F_, F_, F_, F_, F_, F_, F_, F_, F_, F_, F_, F_, F_, F_, F_, F_, F_, F_] rfl rfl (any_of HT_.out (by kernel_rfl)) (fun _ _ _ h => h) (Or.inl ⟨by rfl, ?_⟩) ?_ ?_
          rotate_left
          · intro w'
            go_simp
            with_reducible rfl
          rotate_left
          · simp only [Act.put, zS, zZ, zC, i64_w, i32_w]
            rfl
          refine pure_ (i := 9) (N := some 109) (v := ?_) (a' := ?_) #[T_, T_, T_, T_, T_, T_, T_, T_, F_, T_, F_, F_, F_, F_, F_, F_, F_, F_, F_, F_, F_, F_, F_, F_, F_, F_, F_, F_, F_, F_, F_, F_, F_, F_, F_, F_, F_, F_, F_] rfl rfl (any_of HT_.out (by kernel_rfl)) (fun _ _ _ h => h) (Or.inl ⟨by rfl, ?_⟩) ?_ ?_
          rotate_left
          · intro w'
            go_simp
            with_reducible rfl
          rotate_left
          · simp only [Act.put, zS, zZ, zC, i64_w, i32_w]
            rfl
          refine take_ (i := 8) (N := some 108) (v := ?_) (a' := ?_) #[T_, T_, T_, T_, T_, T_, T_, T_, T_, T_, F_, F_, F_, F_, F_, F_, F_, F_, F_, F_, F_, F_, F_, F_, F_, F_, F_, F_, F_, F_, F_, F_, F_, F_, F_, F_, F_, F_, F_] rfl rfl (take_ofW HT_.out HW_.out (by kernel_rfl)) (fun _ _ _ h => h) (Or.inl ⟨by rfl, ?_⟩) hHeld ?_ ?_
          rotate_left
          · rintro w' ⟨s0, s1, s2, s3, s4, s5, s6, s7⟩
            go_simp
            with_reducible rfl
          rotate_left
          · simp only [Act.put, zS, zZ, zC, i64_w, i32_w]
            rfl
          refine take_ (i := 10) (N := some 110) (v := ?_) (a' := ?_) #[T_, T_, T_, T_, T_, T_, T_, T_, T_, T_, T_, F_, F_, F_, F_, F_, F_, F_, F_, F_, F_, F_, F_, F_, F_, F_, F_, F_, F_, F_, F_, F_, F_, F_, F_, F_, F_, F_, F_] rfl rfl (take_ofW HT_.out HW_.out (by kernel_rfl)) (fun _ _ _ h => h) (Or.inl ⟨by rfl, ?_⟩) hHeld ?_ ?_
          rotate_left
          · rintro w' ⟨s0, s1, s2, s3, s4, s5, s6, s7⟩
            go_simp
            with_reducible rfl
          rotate_left
          · simp only [Act.put, zS, zZ, zC, i64_w, i32_w]
            rfl
          refine pure_ (i := 11) (N := some 111) (v := ?_) (a' := ?_) #[T_, T_, T_, T_, T_, T_, T_, T_, T_, T_, T_, T_, F_, F_, F_, F_, F_, F_, F_, F_, F_, F_, F_, F_, F_, F_, F_, F_, F_, F_, F_, F_, F_, F_, F_, F_, F_, F_, F_] rfl rfl (any_of HT_.out (by kernel_rfl)) (fun _ _ _ h => h) (Or.inl ⟨by rfl, ?_⟩) ?_ ?_
          rotate_left
          · intro w'
            go_simp
            with_reducible rfl
          rotate_left
          · simp only [Act.put, zS, zZ, zC, i64_w, i32_w]
            rfl
          refine pure_ (i := 12) (N := some 112) (v := ?_) (a' := ?_) #[T_, T_, T_, T_, T_, T_, T_, T_, T_, T_, T_, T_, T_, F_, F_, F_, F_, F_, F_, F_, F_, F_, F_, F_, F_, F_, F_, F_, F_, F_, F_, F_, F_, F_, F_, F_, F_, F_, F_] rfl rfl (any_of HT_.out (by kernel_rfl)) (fun _ _ _ h => h) (Or.inl ⟨by rfl, ?_⟩) ?_ ?_
          rotate_left
          · intro w'
            go_simp
            with_reducible rfl
          rotate_left
          · simp only [Act.put, zS, zZ, zC, i64_w, i32_w]
            rfl
          refine pure_ (i := 13) (N := some 113) (v := ?_) (a' := ?_) #[T_, T_, T_, T_, T_, T_, T_, T_, T_, T_, T_, T_, T_, T_, F_, F_, F_, F_, F_, F_, F_, F_, F_, F_, F_, F_, F_, F_, F_, F_, F_, F_, F_, F_, F_, F_, F_, F_, F_] rfl rfl (any_of HT_.out (by kernel_rfl)) (fun _ _ _ h => h) (Or.inl ⟨by rfl, ?_⟩) ?_ ?_
          rotate_left
          · intro w'
            go_simp
            with_reducible rfl
          rotate_left
          · simp only [Act.put, zS, zZ, zC, i64_w, i32_w]
            rfl
          refine take_ (i := 14) (N := some 114) (v := ?_) (a' := ?_) #[T_, T_, T_, T_, T_, T_, T_, T_, T_, T_, T_, T_, T_, T_, T_, F_, F_, F_, F_, F_, F_, F_, F_, F_, F_, F_, F_, F_, F_, F_, F_, F_, F_, F_, F_, F_, F_, F_, F_] rfl rfl (take_ofW HT_.out HW_.out (by kernel_rfl)) (fun _ _ _ h => h) (Or.inl ⟨by rfl, ?_⟩) hHeld ?_ ?_
          rotate_left
          · rintro w' ⟨s0, s1, s2, s3, s4, s5, s6, s7⟩
            go_simp
            with_reducible rfl
          rotate_left
          · simp only [Act.put, zS, zZ, zC, i64_w, i32_w]
            rfl
          refine take_ (i := 16) (N := some 116) (v := ?_) (a' := ?_) #[T_, T_, T_, T_, T_, T_, T_, T_, T_, T_, T_, T_, T_, T_, T_, F_, T_, F_, F_, F_, F_, F_, F_, F_, F_, F_, F_, F_, F_, F_, F_, F_, F_, F_, F_, F_, F_, F_, F_] rfl rfl (take_ofW HT_.out HW_.out (by kernel_rfl)) (fun _ _ _ h => h) (Or.inl ⟨by rfl, ?_⟩) hHeld ?_ ?_
          rotate_left
          · rintro w' ⟨s0, s1, s2, s3, s4, s5, s6, s7⟩
            go_simp
            with_reducible rfl
          rotate_left
          · simp only [Act.put, zS, zZ, zC, i64_w, i32_w]
            rfl
          refine one_ (i := 15) (N := some 115) #[T_, T_, T_, T_, T_, T_, T_, T_, T_, T_, T_, T_, T_, T_, T_, T_, T_, F_, F_, F_, F_, F_, F_, F_, F_, F_, F_, F_, F_, F_, F_, F_, F_, F_, F_, F_, F_, F_, F_] rfl rfl (one_of HT_.out (by kernel_rfl)) (by decide) (fun K hK => ?_)
          refine goes_ Try.func10 (by kernel_rfl) rfl #[.agg #[.slice Ao104 t356.length co104, .int .i64 t359, .int .i64 t360]] (by rfl) rfl rfl (by (try simp only [List.map_toArray, List.map_cons, List.map_nil]); first | done | rfl | (simp only [List.length_drop, List.length_take]; rfl)) ?_
          with_reducible refine (front_Least.calls _ _ t356 t359 t360 t373 t374 _ ?side1 ?side2 A140.out).mono ?_
          (case side1 => repeat (first | exact (Kd.R_reads' HO_362000.out).2.2 | (with_reducible refine Kd.C_alloc ?_ _) | (with_reducible refine Kd.C_drewN ?_ _) | (with_reducible refine Kd.C_drew ?_)))
          (case side2 => exact (Kd.R_reads' HO_362000.out).2.1)
          rintro e w188 ⟨rfl, hb⟩
          refine ⟨_, rfl, ?_⟩
          replace HO_339000 := zM (Kd.R_below (rl_ HO_339000) hb)
          replace HO_362000 := zM (Kd.R_below (rl_ HO_362000) hb)
          replace HO366 := zM (Kd.R_below (rl_ HO366) hb)
          replace BK326 := zM (bb_ BK326 hb)
          replace BK327 := zM (bb_ BK327 hb)
          replace BK338 := zM (bb_ BK338 hb)
          replace BK344 := zM (bb_ BK344 hb)
          replace BK346 := zM (bb_ BK346 hb)
          replace BK349 := zM (bb_ BK349 hb)
          replace BK361 := zM (bb_ BK361 hb)
          replace BK371 := zM (bb_ BK371 hb)
          replace HB := zM (zB bel_ hb)
          (try clear hb)
          (try clear hb2)
          (try clear hk)
          (try clear hi)
          refine hK.out _ _ ⟨(zL BK338.out 0).trans rfl, (zL BK338.out 1).trans rfl, (zL BK338.out 2).trans rfl, (zL BK344.out 0).trans rfl, (zL BK344.out 1).trans rfl, (zL BK344.out 2).trans rfl, (zL BK371.out 0).trans rfl, (zL BK371.out 1).trans rfl⟩ (fun hHeld => ?_)
          clear hK K
          refine norm_ (a' := ?_) ?_ ?_
          rotate_left
          · show Act.put _ (some 115) _ = _
            simp only [Act.put, zS, zZ, zC, i64_w, i32_w]
            rfl
          refine pure_ (i := 17) (N := some 117) (v := ?_) (a' := ?_) #[T_, T_, T_, T_, T_, T_, T_, T_, T_, T_, T_, T_, T_, T_, T_, T_, T_, T_, F_, F_, F_, F_, F_, F_, F_, F_, F_, F_, F_, F_, F_, F_, F_, F_, F_, F_, F_, F_, F_] rfl rfl (any_of HT_.out (by kernel_rfl)) (fun _ _ _ h => h) (Or.inl ⟨by rfl, ?_⟩) ?_ ?_
          rotate_left
          · intro w'
            go_simp
            with_reducible rfl
          rotate_left
          · simp only [Act.put, zS, zZ, zC, i64_w, i32_w]
            rfl
          refine pure_ (i := 18) (N := some 118) (v := ?_) (a' := ?_) #[T_, T_, T_, T_, T_, T_, T_, T_, T_, T_, T_, T_, T_, T_, T_, T_, T_, T_, T_, F_, F_, F_, F_, F_, F_, F_, F_, F_, F_, F_, F_, F_, F_, F_, F_, F_, F_, F_, F_] rfl rfl (any_of HT_.out (by kernel_rfl)) (fun _ _ _ h => h) (Or.inl ⟨by rfl, ?_⟩) ?_ ?_
          rotate_left
          · intro w'
            go_simp
            with_reducible rfl
          rotate_left
          · simp only [Act.put, zS, zZ, zC, i64_w, i32_w]
            rfl
          refine pure_ (i := 19) (N := some 119) (v := ?_) (a' := ?_) #[T_, T_, T_, T_, T_, T_, T_, T_, T_, T_, T_, T_, T_, T_, T_, T_, T_, T_, T_, T_, F_, F_, F_, F_, F_, F_, F_, F_, F_, F_, F_, F_, F_, F_, F_, F_, F_, F_, F_] rfl rfl (any_of HT_.out (by kernel_rfl)) (fun _ _ _ h => h) (Or.inl ⟨by rfl, ?_⟩) ?_ ?_
          rotate_left
          · intro w'
            go_simp
            with_reducible rfl
          rotate_left
          · simp only [Act.put, zS, zZ, zC, i64_w, i32_w]
            rfl
          refine pure_ (i := 24) (N := some 124) (v := ?_) (a' := ?_) #[T_, T_, T_, T_, T_, T_, T_, T_, T_, T_, T_, T_, T_, T_, T_, T_, T_, T_, T_, T_, F_, F_, F_, F_, T_, F_, F_, F_, F_, F_, F_, F_, F_, F_, F_, F_, F_, F_, F_] rfl rfl (any_of HT_.out (by kernel_rfl)) (fun _ _ _ h => h) (Or.inl ⟨by rfl, ?_⟩) ?_ ?_
          rotate_left
          · intro w'
            go_simp
            with_reducible rfl
          rotate_left
          · simp only [Act.put, zS, zZ, zC, i64_w, i32_w]
            rfl
          refine take_ (i := 20) (N := some 120) (v := ?_) (a' := ?_) #[T_, T_, T_, T_, T_, T_, T_, T_, T_, T_, T_, T_, T_, T_, T_, T_, T_, T_, T_, T_, T_, F_, F_, F_, T_, F_, F_, F_, F_, F_, F_, F_, F_, F_, F_, F_, F_, F_, F_] rfl rfl (take_ofW HT_.out HW_.out (by kernel_rfl)) (fun _ _ _ h => h) (Or.inl ⟨by rfl, ?_⟩) hHeld ?_ ?_
          rotate_left
          · rintro w' ⟨s0, s1, s2, s3, s4, s5, s6, s7⟩
            go_simp
            with_reducible rfl
          rotate_left
          · simp only [Act.put, zS, zZ, zC, i64_w, i32_w]
            rfl
          refine take_ (i := 21) (N := some 121) (v := ?_) (a' := ?_) #[T_, T_, T_, T_, T_, T_, T_, T_, T_, T_, T_, T_, T_, T_, T_, T_, T_, T_, T_, T_, T_, T_, F_, F_, T_, F_, F_, F_, F_, F_, F_, F_, F_, F_, F_, F_, F_, F_, F_] rfl rfl (take_ofW HT_.out HW_.out (by kernel_rfl)) (fun _ _ _ h => h) (Or.inl ⟨by rfl, ?_⟩) hHeld ?_ ?_
          rotate_left
          · rintro w' ⟨s0, s1, s2, s3, s4, s5, s6, s7⟩
            go_simp
            with_reducible rfl
          rotate_left
          · simp only [Act.put, zS, zZ, zC, i64_w, i32_w]
            rfl
          refine take_ (i := 23) (N := some 123) (v := ?_) (a' := ?_) #[T_, T_, T_, T_, T_, T_, T_, T_, T_, T_, T_, T_, T_, T_, T_, T_, T_, T_, T_, T_, T_, T_, F_, T_, T_, F_, F_, F_, F_, F_, F_, F_, F_, F_, F_, F_, F_, F_, F_] rfl rfl (take_ofW HT_.out HW_.out (by kernel_rfl)) (fun _ _ _ h => h) (Or.inl ⟨by rfl, ?_⟩) hHeld ?_ ?_
          rotate_left
          · rintro w' ⟨s0, s1, s2, s3, s4, s5, s6, s7⟩
            go_simp
            with_reducible rfl
          rotate_left
          · simp only [Act.put, zS, zZ, zC, i64_w, i32_w]
            rfl
          refine take_ (i := 25) (N := some 125) (v := ?_) (a' := ?_) #[T_, T_, T_, T_, T_, T_, T_, T_, T_, T_, T_, T_, T_, T_, T_, T_, T_, T_, T_, T_, T_, T_, F_, T_, T_, T_, F_, F_, F_, F_, F_, F_, F_, F_, F_, F_, F_, F_, F_] rfl rfl (take_ofW HT_.out HW_.out (by kernel_rfl)) (fun _ _ _ h => h) (Or.inl ⟨by rfl, ?_⟩) hHeld ?_ ?_
          rotate_left
          · rintro w' ⟨s0, s1, s2, s3, s4, s5, s6, s7⟩
            go_simp
            with_reducible rfl
          rotate_left
          · simp only [Act.put, zS, zZ, zC, i64_w, i32_w]
            rfl
          refine pure_ (i := 26) (N := some 126) (v := ?_) (a' := ?_) #[T_, T_, T_, T_, T_, T_, T_, T_, T_, T_, T_, T_, T_, T_, T_, T_, T_, T_, T_, T_, T_, T_, F_, T_, T_, T_, T_, F_, F_, F_, F_, F_, F_, F_, F_, F_, F_, F_, F_] rfl rfl (any_of HT_.out (by kernel_rfl)) (fun _ _ _ h => h) (Or.inl ⟨by rfl, ?_⟩) ?_ ?_
          rotate_left
          · intro w'
            go_simp
            with_reducible rfl
          rotate_left
          · simp only [Act.put, zS, zZ, zC, i64_w, i32_w]
            rfl
          refine one_ (i := 22) (N := some 122) #[T_, T_, T_, T_, T_, T_, T_, T_, T_, T_, T_, T_, T_, T_, T_, T_, T_, T_, T_, T_, T_, T_, T_, T_, T_, T_, T_, F_, F_, F_, F_, F_, F_, F_, F_, F_, F_, F_, F_] rfl rfl (one_of HT_.out (by kernel_rfl)) (by decide) (fun K hK => ?_)
          refine goes_ Try.func9 (by kernel_rfl) rfl #[.agg #[.slice Ao104 t356.length co104, .int .i64 t359, .int .i64 t360], .agg #[.int .i64 t369, .int .i64 t370]] (by rfl) rfl rfl (by (try simp only [List.map_toArray, List.map_cons, List.map_nil]); first | done | rfl | (simp only [List.length_drop, List.length_take]; rfl)) ?_
          with_reducible refine (front_Ends.calls _ _ t356 t359 t360 t369 t370 t375 _ ?side1 ?side2 A142.out).mono ?_
          (case side1 => repeat (first | exact (Kd.R_reads' HO_362000.out).2.2 | (with_reducible refine Kd.C_alloc ?_ _) | (with_reducible refine Kd.C_drewN ?_ _) | (with_reducible refine Kd.C_drew ?_)))
          (case side2 => exact (Kd.R_reads' HO_362000.out).2.1)
          rintro e w189 ⟨rfl, hb⟩
          refine ⟨_, rfl, ?_⟩
          replace HO_339000 := zM (Kd.R_below (rl_ HO_339000) hb)
          replace HO_362000 := zM (Kd.R_below (rl_ HO_362000) hb)
          replace HO366 := zM (Kd.R_below (rl_ HO366) hb)
          replace BK326 := zM (bb_ BK326 hb)
          replace BK327 := zM (bb_ BK327 hb)
          replace BK338 := zM (bb_ BK338 hb)
          replace BK344 := zM (bb_ BK344 hb)
          replace BK346 := zM (bb_ BK346 hb)
          replace BK349 := zM (bb_ BK349 hb)
          replace BK361 := zM (bb_ BK361 hb)
          replace BK371 := zM (bb_ BK371 hb)
          replace HB := zM (zB bel_ hb)
          (try clear hb)
          (try clear hb2)
          (try clear hk)
          (try clear hi)
          refine hK.out _ _ ⟨(zL BK338.out 0).trans rfl, (zL BK338.out 1).trans rfl, (zL BK338.out 2).trans rfl, (zL BK344.out 0).trans rfl, (zL BK344.out 1).trans rfl, (zL BK344.out 2).trans rfl, (zL BK371.out 0).trans rfl, (zL BK371.out 1).trans rfl⟩ (fun hHeld => ?_)
          clear hK K
          refine norm_ (a' := ?_) ?_ ?_
          rotate_left
          · show Act.put _ (some 122) _ = _
            simp only [Act.put, zS, zZ, zC, i64_w, i32_w]
            rfl
          refine pure_ (i := 27) (N := some 127) (v := ?_) (a' := ?_) #[T_, T_, T_, T_, T_, T_, T_, T_, T_, T_, T_, T_, T_, T_, T_, T_, T_, T_, T_, T_, T_, T_, T_, T_, T_, T_, T_, T_, F_, F_, F_, F_, F_, F_, F_, F_, F_, F_, F_] rfl rfl (any_of HT_.out (by kernel_rfl)) (fun _ _ _ h => h) (Or.inl ⟨by rfl, ?_⟩) ?_ ?_
          rotate_left
          · intro w'
            go_simp
            with_reducible rfl
          rotate_left
          · simp only [Act.put, zS, zZ, zC, i64_w, i32_w]
            rfl
          refine pure_ (i := 28) (N := some 128) (v := ?_) (a' := ?_) #[T_, T_, T_, T_, T_, T_, T_, T_, T_, T_, T_, T_, T_, T_, T_, T_, T_, T_, T_, T_, T_, T_, T_, T_, T_, T_, T_, T_, T_, F_, F_, F_, F_, F_, F_, F_, F_, F_, F_] rfl rfl (any_of HT_.out (by kernel_rfl)) (fun _ _ _ h => h) (Or.inl ⟨by rfl, ?_⟩) ?_ ?_
          rotate_left
          · intro w'
            go_simp
            with_reducible rfl
          rotate_left
          · simp only [Act.put, zS, zZ, zC, i64_w, i32_w]
            rfl
          refine pure_ (i := 29) (N := some 129) (v := ?_) (a' := ?_) #[T_, T_, T_, T_, T_, T_, T_, T_, T_, T_, T_, T_, T_, T_, T_, T_, T_, T_, T_, T_, T_, T_, T_, T_, T_, T_, T_, T_, T_, T_, F_, F_, F_, F_, F_, F_, F_, F_, F_] rfl rfl (any_of HT_.out (by kernel_rfl)) (fun _ _ _ h => h) (Or.inl ⟨by rfl, ?_⟩) ?_ ?_
          rotate_left
          · intro w'
            go_simp
            with_reducible rfl
          rotate_left
          · simp only [Act.put, zS, zZ, zC, i64_w, i32_w]
            rfl
          refine pure_ (i := 33) (N := some 133) (v := ?_) (a' := ?_) #[T_, T_, T_, T_, T_, T_, T_, T_, T_, T_, T_, T_, T_, T_, T_, T_, T_, T_, T_, T_, T_, T_, T_, T_, T_, T_, T_, T_, T_, T_, F_, F_, F_, T_, F_, F_, F_, F_, F_] rfl rfl (any_of HT_.out (by kernel_rfl)) (fun _ _ _ h => h) (Or.inl ⟨by rfl, ?_⟩) ?_ ?_
          rotate_left
          · intro w'
            go_simp
            with_reducible rfl
          rotate_left
          · simp only [Act.put, zS, zZ, zC, i64_w, i32_w]
            rfl
          refine take_ (i := 30) (N := some 130) (v := ?_) (a' := ?_) #[T_, T_, T_, T_, T_, T_, T_, T_, T_, T_, T_, T_, T_, T_, T_, T_, T_, T_, T_, T_, T_, T_, T_, T_, T_, T_, T_, T_, T_, T_, T_, F_, F_, T_, F_, F_, F_, F_, F_] rfl rfl (take_ofW HT_.out HW_.out (by kernel_rfl)) (fun _ _ _ h => h) (Or.inl ⟨by rfl, ?_⟩) hHeld ?_ ?_
          rotate_left
          · rintro w' ⟨s0, s1, s2, s3, s4, s5, s6, s7⟩
            go_simp
            with_reducible rfl
          rotate_left
          · simp only [Act.put, zS, zZ, zC, i64_w, i32_w]
            rfl
          refine take_ (i := 31) (N := some 131) (v := ?_) (a' := ?_) #[T_, T_, T_, T_, T_, T_, T_, T_, T_, T_, T_, T_, T_, T_, T_, T_, T_, T_, T_, T_, T_, T_, T_, T_, T_, T_, T_, T_, T_, T_, T_, T_, F_, T_, F_, F_, F_, F_, F_] rfl rfl (take_ofW HT_.out HW_.out (by kernel_rfl)) (fun _ _ _ h => h) (Or.inl ⟨by rfl, ?_⟩) hHeld ?_ ?_
          rotate_left
          · rintro w' ⟨s0, s1, s2, s3, s4, s5, s6, s7⟩
            go_simp
            with_reducible rfl
          rotate_left
          · simp only [Act.put, zS, zZ, zC, i64_w, i32_w]
            rfl
          refine take_ (i := 34) (N := some 134) (v := ?_) (a' := ?_) #[T_, T_, T_, T_, T_, T_, T_, T_, T_, T_, T_, T_, T_, T_, T_, T_, T_, T_, T_, T_, T_, T_, T_, T_, T_, T_, T_, T_, T_, T_, T_, T_, F_, T_, T_, F_, F_, F_, F_] rfl rfl (take_ofW HT_.out HW_.out (by kernel_rfl)) (fun _ _ _ h => h) (Or.inl ⟨by rfl, ?_⟩) hHeld ?_ ?_
          rotate_left
          · rintro w' ⟨s0, s1, s2, s3, s4, s5, s6, s7⟩
            go_simp
            with_reducible rfl
          rotate_left
          · simp only [Act.put, zS, zZ, zC, i64_w, i32_w]
            rfl
          refine take_ (i := 35) (N := some 135) (v := ?_) (a' := ?_) #[T_, T_, T_, T_, T_, T_, T_, T_, T_, T_, T_, T_, T_, T_, T_, T_, T_, T_, T_, T_, T_, T_, T_, T_, T_, T_, T_, T_, T_, T_, T_, T_, F_, T_, T_, T_, F_, F_, F_] rfl rfl (take_ofW HT_.out HW_.out (by kernel_rfl)) (fun _ _ _ h => h) (Or.inl ⟨by rfl, ?_⟩) hHeld ?_ ?_
          rotate_left
          · rintro w' ⟨s0, s1, s2, s3, s4, s5, s6, s7⟩
            go_simp
            with_reducible rfl
          rotate_left
          · simp only [Act.put, zS, zZ, zC, i64_w, i32_w]
            rfl
          refine one_ (i := 32) (N := some 132) #[T_, T_, T_, T_, T_, T_, T_, T_, T_, T_, T_, T_, T_, T_, T_, T_, T_, T_, T_, T_, T_, T_, T_, T_, T_, T_, T_, T_, T_, T_, T_, T_, T_, T_, T_, T_, F_, F_, F_] rfl rfl (one_of HT_.out (by kernel_rfl)) (by decide) (fun K hK => ?_)
          refine goes_ Try.func11 (by kernel_rfl) rfl #[.agg #[.slice Ao104 t356.length co104, .int .i64 t359, .int .i64 t360], .agg #[.int .i64 t369, .int .i64 t370]] (by rfl) rfl rfl (by (try simp only [List.map_toArray, List.map_cons, List.map_nil]); first | done | rfl | (simp only [List.length_drop, List.length_take]; rfl)) ?_
          with_reducible refine (front_Want.calls _ _ t356 t359 t360 t369 t370 t376 t377 _ ?side1 ?side2 A144.out).mono ?_
          (case side1 => repeat (first | exact (Kd.R_reads' HO_362000.out).2.2 | (with_reducible refine Kd.C_alloc ?_ _) | (with_reducible refine Kd.C_drewN ?_ _) | (with_reducible refine Kd.C_drew ?_)))
          (case side2 => exact (Kd.R_reads' HO_362000.out).2.1)
          rintro e w190 ⟨rfl, hb⟩
          refine ⟨_, rfl, ?_⟩
          replace HO_339000 := zM (Kd.R_below (rl_ HO_339000) hb)
          replace HO_362000 := zM (Kd.R_below (rl_ HO_362000) hb)
          replace HO366 := zM (Kd.R_below (rl_ HO366) hb)
          replace BK326 := zM (bb_ BK326 hb)
          replace BK327 := zM (bb_ BK327 hb)
          replace BK338 := zM (bb_ BK338 hb)
          replace BK344 := zM (bb_ BK344 hb)
          replace BK346 := zM (bb_ BK346 hb)
          replace BK349 := zM (bb_ BK349 hb)
          replace BK361 := zM (bb_ BK361 hb)
          replace BK371 := zM (bb_ BK371 hb)
          replace HB := zM (zB bel_ hb)
          (try clear hb)
          (try clear hb2)
          (try clear hk)
          (try clear hi)
          refine hK.out _ _ ⟨(zL BK338.out 0).trans rfl, (zL BK338.out 1).trans rfl, (zL BK338.out 2).trans rfl, (zL BK344.out 0).trans rfl, (zL BK344.out 1).trans rfl, (zL BK344.out 2).trans rfl, (zL BK371.out 0).trans rfl, (zL BK371.out 1).trans rfl⟩ (fun hHeld => ?_)
          clear hK K
          refine norm_ (a' := ?_) ?_ ?_
          rotate_left
          · show Act.put _ (some 132) _ = _
            simp only [Act.put, zS, zZ, zC, i64_w, i32_w]
            rfl
          refine one_ (i := 36) (N := some 136) #[T_, T_, T_, T_, T_, T_, T_, T_, T_, T_, T_, T_, T_, T_, T_, T_, T_, T_, T_, T_, T_, T_, T_, T_, T_, T_, T_, T_, T_, T_, T_, T_, T_, T_, T_, T_, T_, F_, F_] rfl rfl (one_of HT_.out (by kernel_rfl)) (by decide) (fun K hK => ?_)
          refine goes_ Try.func18 (by kernel_rfl) rfl #[.agg #[.int .i64 t367, .int .i64 t368], .agg #[.int .i64 t369, .int .i64 t370]] (by rfl) rfl rfl (by (try simp only [List.map_toArray, List.map_cons, List.map_nil]); first | done | rfl | (simp only [List.length_drop, List.length_take]; rfl)) ?_
          with_reducible refine (ropewayref04_Minus.calls kj75 t367 t368 t369 t370 t378 t379 _ A145.out).mono ?_
          rintro e w191 ⟨rfl, hb⟩
          refine ⟨_, rfl, ?_⟩
          replace HO_339000 := zM (Kd.R_below (rl_ HO_339000) hb)
          replace HO_362000 := zM (Kd.R_below (rl_ HO_362000) hb)
          replace HO366 := zM (Kd.R_below (rl_ HO366) hb)
          replace BK326 := zM (bb_ BK326 hb)
          replace BK327 := zM (bb_ BK327 hb)
          replace BK338 := zM (bb_ BK338 hb)
          replace BK344 := zM (bb_ BK344 hb)
          replace BK346 := zM (bb_ BK346 hb)
          replace BK349 := zM (bb_ BK349 hb)
          replace BK361 := zM (bb_ BK361 hb)
          replace BK371 := zM (bb_ BK371 hb)
          replace HB := zM (zB bel_ hb)
          (try clear hb)
          (try clear hb2)
          (try clear hk)
          (try clear hi)
          refine hK.out _ _ ⟨(zL BK338.out 0).trans rfl, (zL BK338.out 1).trans rfl, (zL BK338.out 2).trans rfl, (zL BK344.out 0).trans rfl, (zL BK344.out 1).trans rfl, (zL BK344.out 2).trans rfl, (zL BK371.out 0).trans rfl, (zL BK371.out 1).trans rfl⟩ (fun hHeld => ?_)
          clear hK K
          refine norm_ (a' := ?_) ?_ ?_
          rotate_left
          · show Act.put _ (some 136) _ = _
            simp only [Act.put, zS, zZ, zC, i64_w, i32_w]
            rfl
          refine pure_ (i := 37) (N := some 137) (v := ?_) (a' := ?_) #[T_, T_, T_, T_, T_, T_, T_, T_, T_, T_, T_, T_, T_, T_, T_, T_, T_, T_, T_, T_, T_, T_, T_, T_, T_, T_, T_, T_, T_, T_, T_, T_, T_, T_, T_, T_, T_, T_, F_] rfl rfl (any_of HT_.out (by kernel_rfl)) (fun _ _ _ h => h) (Or.inl ⟨by rfl, ?_⟩) ?_ ?_
          rotate_left
          · intro w'
            go_simp
            with_reducible rfl
          rotate_left
          · simp only [Act.put, zS, zZ, zC, i64_w, i32_w]
            rfl
          refine pure_ (i := 38) (N := some 138) (v := ?_) (a' := ?_) #[T_, T_, T_, T_, T_, T_, T_, T_, T_, T_, T_, T_, T_, T_, T_, T_, T_, T_, T_, T_, T_, T_, T_, T_, T_, T_, T_, T_, T_, T_, T_, T_, T_, T_, T_, T_, T_, T_, T_] rfl rfl (any_of HT_.out (by kernel_rfl)) (fun _ _ _ h => h) (Or.inl ⟨by rfl, ?_⟩) ?_ ?_
          rotate_left
          · intro w'
            go_simp
            with_reducible rfl
          rotate_left
          · simp only [Act.put, zS, zZ, zC, i64_w, i32_w]
            rfl
          refine done_ (done_of HT_.out (by kernel_rfl)) ?_
          try go_wp2
          go_roundg kj75
          case measure => have := HJ5.out; have := HK2.out; have := HJ42.out; have := HJ75.out; omega
          case rel => exact ⟨(wrap64 (x35_2 + 1)), (t356), (t359), (t360), (t364), (t367), (t368), (.slice Ao104 t356.length co104), (.slice Ao174 t364.length co174), (by first | rfl | (simp; done) | (simp [*]; done) | (simp; grind)), H', ⟨by have := HJ5.out; have := HK2.out; have := HJ42.out; have := HJ75.out; omega⟩, ⟨by (with_reducible repeat (first | apply Kd.R_alloc | apply Kd.R_drewN | apply Kd.R_drew)); exact Kd.R_mono HO_362000.out (fun _ hk => ⟨hk.2.1, ⟨hk.2.2.1, hk.2.2.2.1⟩⟩)⟩, ⟨by (with_reducible repeat (first | apply Kd.R_alloc | apply Kd.R_drewN | apply Kd.R_drew)); exact Kd.R_mono HO366.out (fun _ hk => ⟨hk.2.1, ⟨hk.2.2.1, hk.2.2.2.1⟩⟩)⟩, ⟨blf_⟩, ⟨blf_⟩, ⟨blf_⟩, ⟨blf_⟩, ⟨bel_⟩⟩
/-- THE ONE PURE STATEMENT of ropewaylaw16_FrontSteps. -/
def ropewaylaw16_FrontSteps.Pure : Prop := ∀ (a0_0 : Int) (a0_1 : Int) (a1_0 : Int) (a1_1 : Int) (l2 : List (S37)), (Lit.int .i64 a0_0).wf = true → (Lit.int .i64 a0_1).wf = true → (Lit.int .i64 a1_0).wf = true → (Lit.int .i64 a1_1).wf = true → (l2.length ≤ maxLen ∧ l2.length * 32 ≤ 140737488351232 ∧ ∀ y0 ∈ l2, ((Lit.int .i64 y0.f0).wf = true ∧ (y0.f1.length ≤ maxLen ∧ y0.f1.length * 16 ≤ 140737488351232 ∧ ∀ y1 ∈ y0.f1, ((Lit.int .i64 y1.f0).wf = true ∧ (Lit.int .i64 y1.f1).wf = true)))) → ∃ k, ropewaylaw16_FrontSteps.f k a0_0 a0_1 a1_0 a1_1 l2 = some true

end Go.Proofs.Ytjfmhahlmnnacaa.PFrontSteps
