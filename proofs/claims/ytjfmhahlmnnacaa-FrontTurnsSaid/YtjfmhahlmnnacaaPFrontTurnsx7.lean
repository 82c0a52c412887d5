/- Written by a program of this session (wip/tool/px.py) over the kit's print: what the code that the law FrontTurns reaches computes, function by function, and the law's row. -/
import Derived.Test.YtjfmhahlmnnacaaPFrontTurnsx0
import Derived.Test.YtjfmhahlmnnacaaPFrontTurnsx1
import Derived.Test.YtjfmhahlmnnacaaPFrontTurnsx2
import Derived.Test.YtjfmhahlmnnacaaPFrontTurnsx4
import Derived.Test.YtjfmhahlmnnacaaPFrontTurnsx5
import Derived.Test.YtjfmhahlmnnacaaPFrontTurnsx6
namespace Go.Proofs.Ytjfmhahlmnnacaa.PFrontTurns
open Go.RowKit Go.Proofs.YtjfmhahlmnnacaaX Go.Proofs.YtjfmhahlmnnacaaW.PrintWords Go.Proofs.YtjfmhahlmnnacaaW.PrintLast Go.Proofs.YtjfmhahlmnnacaaW.PrintMore
open List renaming setIfInBounds_toArray → zS, set_cons_zero → zZ, set_cons_succ → zC
open Go.Proofs.YtjfmhahlmnnacaaW.PrintWords renaming blk_drewN → zN, blk_drew → zD, blk_alloc → zA, blk_cell → zL, blk_frozen → zF, below_step → zB
open Go.Proofs.YtjfmhahlmnnacaaW.PrintWords.Aside0 renaming mk → zM
attribute [local go_sem] max2_int min2_int max_two min_two max_three min_three max_four min_four   -- for this text's walks alone
set_option linter.unusedVariables false
set_option linter.unusedSimpArgs false

attribute [local go_sem] px_nilq22
attribute [local go_sem high] eqA24
/-! ### ropewaylaw16_FrontTurns: function 5 -/
mutual
def ropewaylaw16_FrontTurns.j0 : Nat → List (S24) → List (S24) → Bool → Int → Int → Int → Int → Option (Bool)
  | 0, _, _, _, _, _, _, _ => none
  | k + 1, x7, x8, x50, x228000, x228001, x229000, x229001 => if x50 = true then (some true) else ((front_New.f k x228000 x228001 x229000 x229001).bind fun bt237 => ((front_Step.f k bt237.1 bt237.2.1 bt237.2.2 x228000 x228001 x7).bind fun bt242 => (ropewaylaw16_FrontTurns.l0 k x8 (([] : List (S24))) (wrap64 ((x8.length : Int) - 1)) bt242.1 bt242.2.1 bt242.2.2)))
def ropewaylaw16_FrontTurns.l0 : Nat → List (S24) → List (S24) → Int → List (S24) → Int → Int → Option (Bool)
  | 0, _, _, _, _, _, _ => none
  | k + 1, x8, x10, x11, x248000, x248001, x248002 => if x11 ≥ 0 then (if 0 ≤ x11 then (if x11 < (x8.length : Int) then ((some (([(⟨(rd_T24 x8 x11).f0, (rd_T24 x8 x11).f1⟩ : S24), (⟨(rd_T24 x8 x11).f0, (rd_T24 x8 x11).f1⟩ : S24)] : List (S24)) : List (S24))).bind fun y253 => (if x10.length + y253.length < 8796093022208 then (ropewaylaw16_FrontTurns.l0 k x8 (x10 ++ y253) (wrap64 (x11 - 1)) x248000 x248001 x248002) else (none))) else (none)) else (none)) else ((front_Least.f x248000 x248001 x248002).bind fun bt259 => ((front_Step.f k x248000 x248001 x248002 bt259.1 bt259.2 x8).bind fun bt262 => ((front_Step.f k x248000 x248001 x248002 bt259.1 bt259.2 x10).bind fun bt267 => ((ropewayref05_Same.f k bt262.1 bt267.1).bind fun t274 => (if t274 = true then (ropewaylaw16_FrontTurns.j2 k (!(bt262.2.1 == bt267.2.1) || (!(bt262.2.2 == bt267.2.2))) x248000 x248001 x248002 bt259.1 bt259.2 bt262.1 bt262.2.1 bt262.2.2) else (ropewaylaw16_FrontTurns.j2 k true x248000 x248001 x248002 bt259.1 bt259.2 bt262.1 bt262.2.1 bt262.2.2))))))
def ropewaylaw16_FrontTurns.j2 : Nat → Bool → List (S24) → Int → Int → Int → Int → List (S24) → Int → Int → Option (Bool)
  | 0, _, _, _, _, _, _, _, _, _ => none
  | k + 1, x98, x248000, x248001, x248002, x262000, x262001, x273000, x273001, x273002 => if x98 = true then (some false) else (ropewaylaw16_FrontTurns.l1 k x248000 (x248000.length : Int) 0 x262000 x262001 x273000 x273001 x273002)
def ropewaylaw16_FrontTurns.l1 : Nat → List (S24) → Int → Int → Int → Int → List (S24) → Int → Int → Option (Bool)
  | 0, _, _, _, _, _, _, _, _ => none
  | k + 1, x100, x101, x102, x262000, x262001, x273000, x273001, x273002 => if x102 < x101 then (if 0 ≤ x102 then (if x102 < (x100.length : Int) then (ropewaylaw16_FrontTurns.l2 k (((rd_T24 x100 x102).f0) == x262000 && (((rd_T24 x100 x102).f1) == x262001)) x100 x101 x102 x273000 (x273000.length : Int) 0 x262000 x262001 x273000 x273001 x273002 ((rd_T24 x100 x102).f0) ((rd_T24 x100 x102).f1)) else (none)) else (none)) else (some true)
def ropewaylaw16_FrontTurns.l2 : Nat → Bool → List (S24) → Int → Int → List (S24) → Int → Int → Int → Int → List (S24) → Int → Int → Int → Int → Option (Bool)
  | 0, _, _, _, _, _, _, _, _, _, _, _, _, _, _ => none
  | k + 1, x17, x100, x101, x102, x110, x111, x112, x262000, x262001, x273000, x273001, x273002, x277000, x277001 => if x112 < x111 then (if 0 ≤ x112 then (if x112 < (x110.length : Int) then (if x17 = true then (ropewaylaw16_FrontTurns.l2 k true x100 x101 x102 x110 x111 (wrap64 (x112 + 1)) x262000 x262001 x273000 x273001 x273002 x277000 x277001) else (ropewaylaw16_FrontTurns.l2 k (x277000 == ((rd_T24 x110 x112).f0) && (x277001 == ((rd_T24 x110 x112).f1))) x100 x101 x102 x110 x111 (wrap64 (x112 + 1)) x262000 x262001 x273000 x273001 x273002 x277000 x277001)) else (none)) else (none)) else (if x17 = true then (ropewaylaw16_FrontTurns.l1 k x100 x101 (wrap64 (x102 + 1)) x262000 x262001 x273000 x273001 x273002) else (some false))
end
def ropewaylaw16_FrontTurns.f (k : Nat) (a0_0 : Int) (a0_1 : Int) (a1_0 : Int) (a1_1 : Int) (l2_0 : List (S24)) (l2_1 : List (S24)) : Option (Bool) := (ropewaylaw16_frontAlive.f k).bind fun t230 => (if t230 = true then (if (l2_0.length : Int) > 20 then (ropewaylaw16_FrontTurns.j0 k l2_0 l2_1 true a0_0 a0_1 a1_0 a1_1) else (if (l2_1.length : Int) > 20 then (ropewaylaw16_FrontTurns.j0 k l2_0 l2_1 true a0_0 a0_1 a1_0 a1_1) else ((ropewaylaw16_right.f k (([(⟨a0_0, a0_1⟩ : S24), (⟨a1_0, a1_1⟩ : S24)] : List (S24)))).bind fun t234 => (if t234 = true then ((ropewaylaw16_right.f k l2_0).bind fun t235 => (if t235 = true then ((ropewaylaw16_right.f k l2_1).bind fun t236 => (ropewaylaw16_FrontTurns.j0 k l2_0 l2_1 (!t236) a0_0 a0_1 a1_0 a1_1)) else (ropewaylaw16_FrontTurns.j0 k l2_0 l2_1 true a0_0 a0_1 a1_0 a1_1))) else (ropewaylaw16_FrontTurns.j0 k l2_0 l2_1 true a0_0 a0_1 a1_0 a1_1))))) else (some false))
theorem ropewaylaw16_FrontTurns.mono_l : ∀ k, (∀ y0 y1 y2 y3 y4 y5 y6, LeO (ropewaylaw16_FrontTurns.j0 k y0 y1 y2 y3 y4 y5 y6) (ropewaylaw16_FrontTurns.j0 (k + 1) y0 y1 y2 y3 y4 y5 y6)) ∧ (∀ y0 y1 y2 y3 y4 y5, LeO (ropewaylaw16_FrontTurns.l0 k y0 y1 y2 y3 y4 y5) (ropewaylaw16_FrontTurns.l0 (k + 1) y0 y1 y2 y3 y4 y5)) ∧ (∀ y0 y1 y2 y3 y4 y5 y6 y7 y8, LeO (ropewaylaw16_FrontTurns.j2 k y0 y1 y2 y3 y4 y5 y6 y7 y8) (ropewaylaw16_FrontTurns.j2 (k + 1) y0 y1 y2 y3 y4 y5 y6 y7 y8)) ∧ (∀ y0 y1 y2 y3 y4 y5 y6 y7, LeO (ropewaylaw16_FrontTurns.l1 k y0 y1 y2 y3 y4 y5 y6 y7) (ropewaylaw16_FrontTurns.l1 (k + 1) y0 y1 y2 y3 y4 y5 y6 y7)) ∧ (∀ y0 y1 y2 y3 y4 y5 y6 y7 y8 y9 y10 y11 y12 y13, LeO (ropewaylaw16_FrontTurns.l2 k y0 y1 y2 y3 y4 y5 y6 y7 y8 y9 y10 y11 y12 y13) (ropewaylaw16_FrontTurns.l2 (k + 1) y0 y1 y2 y3 y4 y5 y6 y7 y8 y9 y10 y11 y12 y13))
  | 0 => ⟨fun _ _ _ _ _ _ _ r h => by simp [ropewaylaw16_FrontTurns.j0] at h, fun _ _ _ _ _ _ r h => by simp [ropewaylaw16_FrontTurns.l0] at h, fun _ _ _ _ _ _ _ _ _ r h => by simp [ropewaylaw16_FrontTurns.j2] at h, fun _ _ _ _ _ _ _ _ r h => by simp [ropewaylaw16_FrontTurns.l1] at h, fun _ _ _ _ _ _ _ _ _ _ _ _ _ _ r h => by simp [ropewaylaw16_FrontTurns.l2] at h⟩
  | k + 1 => by
    obtain ⟨ih0, ih1, ih2, ih3, ih4⟩ := ropewaylaw16_FrontTurns.mono_l k
    refine ⟨?_, ?_, ?_, ?_, ?_⟩
    · intro y0 y1 y2 y3 y4 y5 y6
      unfold ropewaylaw16_FrontTurns.j0
      repeat' first
      | (with_reducible exact ih0 _ _ _ _ _ _ _)
      | (with_reducible exact ih1 _ _ _ _ _ _)
      | (with_reducible exact ih2 _ _ _ _ _ _ _ _ _)
      | (with_reducible exact ih3 _ _ _ _ _ _ _ _)
      | (with_reducible exact ih4 _ _ _ _ _ _ _ _ _ _ _ _ _ _)
      | (with_reducible exact front_New.mono _ _ _ _ _)
      | (with_reducible exact front_Step.mono _ _ _ _ _ _ _)
      | (with_reducible exact ropewaylaw16_frontAlive.mono _)
      | (with_reducible exact ropewaylaw16_right.mono _ _)
      | (with_reducible exact ropewayref05_Same.mono _ _ _)
      | (with_reducible exact LeO.refl _)
      | (with_reducible exact LeO.none _)
      | (with_reducible refine LeO.ite ?_ ?_)
      | (with_reducible refine LeO.bind ?_ (fun _ => ?_))
      | exact ih0 _ _ _ _ _ _ _
      | exact ih1 _ _ _ _ _ _
      | exact ih2 _ _ _ _ _ _ _ _ _
      | exact ih3 _ _ _ _ _ _ _ _
      | exact ih4 _ _ _ _ _ _ _ _ _ _ _ _ _ _
      | exact front_New.mono _ _ _ _ _
      | exact front_Step.mono _ _ _ _ _ _ _
      | exact ropewaylaw16_frontAlive.mono _
      | exact ropewaylaw16_right.mono _ _
      | exact ropewayref05_Same.mono _ _ _
      | exact LeO.none _
      | refine LeO.ite ?_ ?_
      | refine LeO.bind ?_ (fun _ => ?_)
    · intro y0 y1 y2 y3 y4 y5
      unfold ropewaylaw16_FrontTurns.l0
      repeat' first
      | (with_reducible exact ih0 _ _ _ _ _ _ _)
      | (with_reducible exact ih1 _ _ _ _ _ _)
      | (with_reducible exact ih2 _ _ _ _ _ _ _ _ _)
      | (with_reducible exact ih3 _ _ _ _ _ _ _ _)
      | (with_reducible exact ih4 _ _ _ _ _ _ _ _ _ _ _ _ _ _)
      | (with_reducible exact front_New.mono _ _ _ _ _)
      | (with_reducible exact front_Step.mono _ _ _ _ _ _ _)
      | (with_reducible exact ropewaylaw16_frontAlive.mono _)
      | (with_reducible exact ropewaylaw16_right.mono _ _)
      | (with_reducible exact ropewayref05_Same.mono _ _ _)
      | (with_reducible exact LeO.refl _)
      | (with_reducible exact LeO.none _)
      | (with_reducible refine LeO.ite ?_ ?_)
      | (with_reducible refine LeO.bind ?_ (fun _ => ?_))
      | exact ih0 _ _ _ _ _ _ _
      | exact ih1 _ _ _ _ _ _
      | exact ih2 _ _ _ _ _ _ _ _ _
      | exact ih3 _ _ _ _ _ _ _ _
      | exact ih4 _ _ _ _ _ _ _ _ _ _ _ _ _ _
      | exact front_New.mono _ _ _ _ _
      | exact front_Step.mono _ _ _ _ _ _ _
      | exact ropewaylaw16_frontAlive.mono _
      | exact ropewaylaw16_right.mono _ _
      | exact ropewayref05_Same.mono _ _ _
      | exact LeO.none _
      | refine LeO.ite ?_ ?_
      | refine LeO.bind ?_ (fun _ => ?_)
    · intro y0 y1 y2 y3 y4 y5 y6 y7 y8
      unfold ropewaylaw16_FrontTurns.j2
      repeat' first
      | (with_reducible exact ih0 _ _ _ _ _ _ _)
      | (with_reducible exact ih1 _ _ _ _ _ _)
      | (with_reducible exact ih2 _ _ _ _ _ _ _ _ _)
      | (with_reducible exact ih3 _ _ _ _ _ _ _ _)
      | (with_reducible exact ih4 _ _ _ _ _ _ _ _ _ _ _ _ _ _)
      | (with_reducible exact front_New.mono _ _ _ _ _)
      | (with_reducible exact front_Step.mono _ _ _ _ _ _ _)
      | (with_reducible exact ropewaylaw16_frontAlive.mono _)
      | (with_reducible exact ropewaylaw16_right.mono _ _)
      | (with_reducible exact ropewayref05_Same.mono _ _ _)
      | (with_reducible exact LeO.refl _)
      | (with_reducible exact LeO.none _)
      | (with_reducible refine LeO.ite ?_ ?_)
      | (with_reducible refine LeO.bind ?_ (fun _ => ?_))
      | exact ih0 _ _ _ _ _ _ _
      | exact ih1 _ _ _ _ _ _
      | exact ih2 _ _ _ _ _ _ _ _ _
      | exact ih3 _ _ _ _ _ _ _ _
      | exact ih4 _ _ _ _ _ _ _ _ _ _ _ _ _ _
      | exact front_New.mono _ _ _ _ _
      | exact front_Step.mono _ _ _ _ _ _ _
      | exact ropewaylaw16_frontAlive.mono _
      | exact ropewaylaw16_right.mono _ _
      | exact ropewayref05_Same.mono _ _ _
      | exact LeO.none _
      | refine LeO.ite ?_ ?_
      | refine LeO.bind ?_ (fun _ => ?_)
    · intro y0 y1 y2 y3 y4 y5 y6 y7
      unfold ropewaylaw16_FrontTurns.l1
      repeat' first
      | (with_reducible exact ih0 _ _ _ _ _ _ _)
      | (with_reducible exact ih1 _ _ _ _ _ _)
      | (with_reducible exact ih2 _ _ _ _ _ _ _ _ _)
      | (with_reducible exact ih3 _ _ _ _ _ _ _ _)
      | (with_reducible exact ih4 _ _ _ _ _ _ _ _ _ _ _ _ _ _)
      | (with_reducible exact front_New.mono _ _ _ _ _)
      | (with_reducible exact front_Step.mono _ _ _ _ _ _ _)
      | (with_reducible exact ropewaylaw16_frontAlive.mono _)
      | (with_reducible exact ropewaylaw16_right.mono _ _)
      | (with_reducible exact ropewayref05_Same.mono _ _ _)
      | (with_reducible exact LeO.refl _)
      | (with_reducible exact LeO.none _)
      | (with_reducible refine LeO.ite ?_ ?_)
      | (with_reducible refine LeO.bind ?_ (fun _ => ?_))
      | exact ih0 _ _ _ _ _ _ _
      | exact ih1 _ _ _ _ _ _
      | exact ih2 _ _ _ _ _ _ _ _ _
      | exact ih3 _ _ _ _ _ _ _ _
      | exact ih4 _ _ _ _ _ _ _ _ _ _ _ _ _ _
      | exact front_New.mono _ _ _ _ _
      | exact front_Step.mono _ _ _ _ _ _ _
      | exact ropewaylaw16_frontAlive.mono _
      | exact ropewaylaw16_right.mono _ _
      | exact ropewayref05_Same.mono _ _ _
      | exact LeO.none _
      | refine LeO.ite ?_ ?_
      | refine LeO.bind ?_ (fun _ => ?_)
    · intro y0 y1 y2 y3 y4 y5 y6 y7 y8 y9 y10 y11 y12 y13
      unfold ropewaylaw16_FrontTurns.l2
      repeat' first
      | (with_reducible exact ih0 _ _ _ _ _ _ _)
      | (with_reducible exact ih1 _ _ _ _ _ _)
      | (with_reducible exact ih2 _ _ _ _ _ _ _ _ _)
      | (with_reducible exact ih3 _ _ _ _ _ _ _ _)
      | (with_reducible exact ih4 _ _ _ _ _ _ _ _ _ _ _ _ _ _)
      | (with_reducible exact front_New.mono _ _ _ _ _)
      | (with_reducible exact front_Step.mono _ _ _ _ _ _ _)
      | (with_reducible exact ropewaylaw16_frontAlive.mono _)
      | (with_reducible exact ropewaylaw16_right.mono _ _)
      | (with_reducible exact ropewayref05_Same.mono _ _ _)
      | (with_reducible exact LeO.refl _)
      | (with_reducible exact LeO.none _)
      | (with_reducible refine LeO.ite ?_ ?_)
      | (with_reducible refine LeO.bind ?_ (fun _ => ?_))
      | exact ih0 _ _ _ _ _ _ _
      | exact ih1 _ _ _ _ _ _
      | exact ih2 _ _ _ _ _ _ _ _ _
      | exact ih3 _ _ _ _ _ _ _ _
      | exact ih4 _ _ _ _ _ _ _ _ _ _ _ _ _ _
      | exact front_New.mono _ _ _ _ _
      | exact front_Step.mono _ _ _ _ _ _ _
      | exact ropewaylaw16_frontAlive.mono _
      | exact ropewaylaw16_right.mono _ _
      | exact ropewayref05_Same.mono _ _ _
      | exact LeO.none _
      | refine LeO.ite ?_ ?_
      | refine LeO.bind ?_ (fun _ => ?_)
theorem ropewaylaw16_FrontTurns.mono : ∀ a0 a1 a2 a3 a4 a5 k, LeO (ropewaylaw16_FrontTurns.f k a0 a1 a2 a3 a4 a5) (ropewaylaw16_FrontTurns.f (k + 1) a0 a1 a2 a3 a4 a5) := by
  intro a0 a1 a2 a3 a4 a5 k
  obtain ⟨ih0, ih1, ih2, ih3, ih4⟩ := ropewaylaw16_FrontTurns.mono_l k
  unfold ropewaylaw16_FrontTurns.f
  repeat' first
      | (with_reducible exact ih0 _ _ _ _ _ _ _)
      | (with_reducible exact ih1 _ _ _ _ _ _)
      | (with_reducible exact ih2 _ _ _ _ _ _ _ _ _)
      | (with_reducible exact ih3 _ _ _ _ _ _ _ _)
      | (with_reducible exact ih4 _ _ _ _ _ _ _ _ _ _ _ _ _ _)
      | (with_reducible exact front_New.mono _ _ _ _ _)
      | (with_reducible exact front_Step.mono _ _ _ _ _ _ _)
      | (with_reducible exact ropewaylaw16_frontAlive.mono _)
      | (with_reducible exact ropewaylaw16_right.mono _ _)
      | (with_reducible exact ropewayref05_Same.mono _ _ _)
      | (with_reducible exact LeO.refl _)
      | (with_reducible exact LeO.none _)
      | (with_reducible refine LeO.ite ?_ ?_)
      | (with_reducible refine LeO.bind ?_ (fun _ => ?_))
      | exact ih0 _ _ _ _ _ _ _
      | exact ih1 _ _ _ _ _ _
      | exact ih2 _ _ _ _ _ _ _ _ _
      | exact ih3 _ _ _ _ _ _ _ _
      | exact ih4 _ _ _ _ _ _ _ _ _ _ _ _ _ _
      | exact front_New.mono _ _ _ _ _
      | exact front_Step.mono _ _ _ _ _ _ _
      | exact ropewaylaw16_frontAlive.mono _
      | exact ropewaylaw16_right.mono _ _
      | exact ropewayref05_Same.mono _ _ _
      | exact LeO.none _
      | refine LeO.ite ?_ ?_
      | refine LeO.bind ?_ (fun _ => ?_)
def ropewaylaw16_FrontTurns.T6 : Bool × List (List Nat × List Nat) := (true, [([], []), ([], []), ([0, 1], [0, 1]), ([], []), ([], []), ([2, 3, 4, 2], [2, 3, 4]), ([], []), ([6, 5, 5, 0, 1, 2, 3, 4, 5, 6], [5, 6])])
def ropewaylaw16_FrontTurns.B6 : List Nat := [0, 0, 3, 0, 0, 31, 0, 127]
theorem ropewaylaw16_FrontTurns.tab6 : rtab .any (opsOf Try.f5 6) = ropewaylaw16_FrontTurns.T6 := by kernel_rfl
theorem ropewaylaw16_FrontTurns.bits6 : waitsOk ropewaylaw16_FrontTurns.T6.2 ropewaylaw16_FrontTurns.B6 = true := by kernel_rfl
def ropewaylaw16_FrontTurns.T11 : Bool × List (List Nat × List Nat) := (true, [([], []), ([], []), ([], []), ([1, 2], [1, 2]), ([3], [3]), ([], []), ([], []), ([5, 6], [5, 6]), ([7], [7]), ([4, 8], [4, 8]), ([0, 9], [0, 9]), ([10, 10, 0, 1, 2, 3, 4, 5, 6, 7, 8, 9, 10], [0, 10])])
def ropewaylaw16_FrontTurns.B11 : List Nat := [0, 0, 0, 6, 14, 0, 0, 96, 224, 510, 1023, 2047]
theorem ropewaylaw16_FrontTurns.tab11 : rtab .any (opsOf Try.f5 11) = ropewaylaw16_FrontTurns.T11 := by kernel_rfl
theorem ropewaylaw16_FrontTurns.bits11 : waitsOk ropewaylaw16_FrontTurns.T11.2 ropewaylaw16_FrontTurns.B11 = true := by kernel_rfl
def ropewaylaw16_FrontTurns.T13 : Bool × List (List Nat × List Nat) := (true, [([], []), ([], []), ([], []), ([0, 1, 2], [0, 1, 2]), ([], []), ([], []), ([], []), ([4, 5, 6, 3], [4, 5, 6]), ([], []), ([], []), ([8, 3, 7, 0, 1, 2, 3, 8, 9], [3, 8]), ([9, 7, 10, 0, 1, 2, 3, 4, 5, 6, 7, 8, 9, 10], [7, 9])])
def ropewaylaw16_FrontTurns.B13 : List Nat := [0, 0, 0, 7, 0, 0, 0, 127, 0, 0, 1023, 2047]
theorem ropewaylaw16_FrontTurns.tab13 : rtab .any (opsOf Try.f5 13) = ropewaylaw16_FrontTurns.T13 := by kernel_rfl
theorem ropewaylaw16_FrontTurns.bits13 : waitsOk ropewaylaw16_FrontTurns.T13.2 ropewaylaw16_FrontTurns.B13 = true := by kernel_rfl
set_option maxHeartbeats 8000000 in
set_option maxRecDepth 100000 in
theorem ropewaylaw16_FrontTurns.calls (k : Nat) (a0_0 : Int) (a0_1 : Int) (a1_0 : Int) (a1_1 : Int) (A2_0 : Option Addr) (c2_0 : Nat) (l2_0 : List (S24)) (A2_1 : Option Addr) (c2_1 : Nat) (l2_1 : List (S24)) (r : Bool) (w : World) (hr2_0 : Kd.C k24 w A2_0 l2_0.length l2_0) (hc2_0 : l2_0.length ≤ c2_0) (hr2_1 : Kd.C k24 w A2_1 l2_1.length l2_1) (hc2_1 : l2_1.length ≤ c2_1) (hr1_ : Aside0 (r = true)) (h : ropewaylaw16_FrontTurns.f k a0_0 a0_1 a1_0 a1_1 l2_0 l2_1 = some r) :
    Calls Try.prog 5 #[.agg #[.int .i64 a0_0, .int .i64 a0_1], .agg #[.int .i64 a1_0, .int .i64 a1_1], .agg #[.slice A2_0 l2_0.length c2_0, .slice A2_1 l2_1.length c2_1]] w fun e w' => e = .returned (.bool r) ∧ Below w.heap.size w w' := by
  have hu24 := Try.underlying24
  have hu44 := Try.underlying44
  have hu26 := Try.underlying26
  have HR2_0 := zM hr2_0
  have HC2_0 := zM hc2_0
  clear hr2_0 hc2_0
  have HR2_1 := zM hr2_1
  have HC2_1 := zM hc2_1
  clear hr2_1 hc2_1
  have HB := zM (Below.refl w.heap.size w)
  have H : ((ropewaylaw16_frontAlive.f k).bind fun t230 => (if t230 = true then (if (l2_0.length : Int) > 20 then (ropewaylaw16_FrontTurns.j0 k l2_0 l2_1 true a0_0 a0_1 a1_0 a1_1) else (if (l2_1.length : Int) > 20 then (ropewaylaw16_FrontTurns.j0 k l2_0 l2_1 true a0_0 a0_1 a1_0 a1_1) else ((ropewaylaw16_right.f k (([(⟨a0_0, a0_1⟩ : S24), (⟨a1_0, a1_1⟩ : S24)] : List (S24)))).bind fun t234 => (if t234 = true then ((ropewaylaw16_right.f k l2_0).bind fun t235 => (if t235 = true then ((ropewaylaw16_right.f k l2_1).bind fun t236 => (ropewaylaw16_FrontTurns.j0 k l2_0 l2_1 (!t236) a0_0 a0_1 a1_0 a1_1)) else (ropewaylaw16_FrontTurns.j0 k l2_0 l2_1 true a0_0 a0_1 a1_0 a1_1))) else (ropewaylaw16_FrontTurns.j0 k l2_0 l2_1 true a0_0 a0_1 a1_0 a1_1))))) else (some false))) = some r := h
  clear h
  replace H := Option.bind_eq_some_iff.mp H
  obtain ⟨t230, A40, H⟩ := H
  replace H : (if t230 = true then (if (l2_0.length : Int) > 20 then (ropewaylaw16_FrontTurns.j0 k l2_0 l2_1 true a0_0 a0_1 a1_0 a1_1) else (if (l2_1.length : Int) > 20 then (ropewaylaw16_FrontTurns.j0 k l2_0 l2_1 true a0_0 a0_1 a1_0 a1_1) else ((ropewaylaw16_right.f k (([(⟨a0_0, a0_1⟩ : S24), (⟨a1_0, a1_1⟩ : S24)] : List (S24)))).bind fun t234 => (if t234 = true then ((ropewaylaw16_right.f k l2_0).bind fun t235 => (if t235 = true then ((ropewaylaw16_right.f k l2_1).bind fun t236 => (ropewaylaw16_FrontTurns.j0 k l2_0 l2_1 (!t236) a0_0 a0_1 a1_0 a1_1)) else (ropewaylaw16_FrontTurns.j0 k l2_0 l2_1 true a0_0 a0_1 a1_0 a1_1))) else (ropewaylaw16_FrontTurns.j0 k l2_0 l2_1 true a0_0 a0_1 a1_0 a1_1))))) else (some false)) = some r := H
  have A4 := zM A40
  clear A40
  by_cases c5 : t230 = true
  rotate_left
  · replace c5 := Bool.eq_false_iff.mpr c5
    subst c5
    have H1 : (some false) = some r := by rw [if_neg (show ¬ (false = true) by decide)] at H; exact H
    clear H
    have H := H1
    clear H1
    exact absurd (Option.some.inj H) (by rw [hr1_.out]; decide)
  subst c5
  have H1 : (if (l2_0.length : Int) > 20 then (ropewaylaw16_FrontTurns.j0 k l2_0 l2_1 true a0_0 a0_1 a1_0 a1_1) else (if (l2_1.length : Int) > 20 then (ropewaylaw16_FrontTurns.j0 k l2_0 l2_1 true a0_0 a0_1 a1_0 a1_1) else ((ropewaylaw16_right.f k (([(⟨a0_0, a0_1⟩ : S24), (⟨a1_0, a1_1⟩ : S24)] : List (S24)))).bind fun t234 => (if t234 = true then ((ropewaylaw16_right.f k l2_0).bind fun t235 => (if t235 = true then ((ropewaylaw16_right.f k l2_1).bind fun t236 => (ropewaylaw16_FrontTurns.j0 k l2_0 l2_1 (!t236) a0_0 a0_1 a1_0 a1_1)) else (ropewaylaw16_FrontTurns.j0 k l2_0 l2_1 true a0_0 a0_1 a1_0 a1_1))) else (ropewaylaw16_FrontTurns.j0 k l2_0 l2_1 true a0_0 a0_1 a1_0 a1_1))))) = some r := by rw [if_pos rfl] at H; exact H
  clear H
  have H := H1
  clear H1
  have HC6 := zM H
  clear H
  go_enter Try.func5, Try.ntmps5
  try go_wp2_with (first | ((with_reducible refine gate_dst (N := 3) rfl ?_); (try (refine gate_guard (by rfl) ?_; dsimp only)); refine box_event ?hg (N := 3) ?hd (cs := #[.int .i64 a0_0, .int .i64 a0_1]) (t := 24) ?hr ?_; (case hd => rfl); (case hg => rfl); (case hr => first | (go_simp; done) | (go_simp; rfl)); intro gb227 hg w7 hbox hb; have BK227 := zM (hbox); have GW227 := zM (bs_ hg); have GE227 := zM (bs_ hg); replace HB := zM (zB bel_ hb); clear hb hbox hg) | ((with_reducible refine gate_dst (N := 4) rfl ?_); (try (refine gate_guard (by rfl) ?_; dsimp only)); refine box_event ?hg (N := 4) ?hd (cs := #[.int .i64 a1_0, .int .i64 a1_1]) (t := 24) ?hr ?_; (case hd => rfl); (case hg => rfl); (case hr => first | (go_simp; done) | (go_simp; rfl)); intro gb228 hg w8 hbox hb; have BK228 := zM (hbox); have GW228 := zM (bs_ hg); have GE228 := zM (bs_ hg); replace HB := zM (zB bel_ hb); have NB227_228 := zM (nl_ BK227 hg); have NB228_227 := zM (ng_ BK227 hg); replace BK227 := zM (bb_ BK227 hb); clear hb hbox hg) | ((with_reducible refine gate_dst (N := 5) rfl ?_); (try (refine gate_guard (by rfl) ?_; dsimp only)); refine box_event ?hg (N := 5) ?hd (cs := #[.slice A2_0 l2_0.length c2_0, .slice A2_1 l2_1.length c2_1]) (t := 44) ?hr ?_; (case hd => rfl); (case hg => rfl); (case hr => first | (go_simp; done) | (go_simp; rfl)); intro gb229 hg w9 hbox hb; have BK229 := zM (hbox); have GW229 := zM (bs_ hg); have GE229 := zM (bs_ hg); replace HB := zM (zB bel_ hb); have NB227_229 := zM (nl_ BK227 hg); have NB229_227 := zM (ng_ BK227 hg); replace BK227 := zM (bb_ BK227 hb); have NB228_229 := zM (nl_ BK228 hg); have NB229_228 := zM (ng_ BK228 hg); replace BK228 := zM (bb_ BK228 hb); clear hb hbox hg) | ((with_reducible refine gate_callee (f := 8) rfl ?_); refine goL_ (some 20) Try.func8 #[] ?_; (with_reducible refine (ropewaylaw16_frontAlive.calls k  true _ A4.out).mono ?_); rintro e w10 ⟨rfl, hb⟩; refine ⟨_, rfl, ?_⟩; replace BK227 := zM (bb_ BK227 hb); replace BK228 := zM (bb_ BK228 hb); replace BK229 := zM (bb_ BK229 hb); replace HB := zM (zB bel_ hb); (try clear hb); (try clear hb2); (try clear hk); (try clear hi)))
  replace BK227 := zM (zD BK227.out)
  replace BK228 := zM (zD BK228.out)
  replace BK229 := zM (zD BK229.out)
  replace HB := zM (below_drew1 HB.out)
  refine start_ (n := 6) (S := fun w' => w'.cell? ⟨gb229, 0, none⟩ = some (.slice A2_0 l2_0.length c2_0) ∧ w'.cell? ⟨gb229, 1, none⟩ = some (.slice A2_1 l2_1.length c2_1)) (ds := []) #[F_, F_, F_, F_, F_, F_] (by kernel_rfl) rfl rfl ⟨(zL BK229.out 0).trans rfl, (zL BK229.out 1).trans rfl⟩ (fun hHeld => ?_)
  generalize w10.drew = w11 at BK227 BK228 BK229 HB hHeld ⊢
  refine pure_ (i := 0) (N := some 22) (v := ?_) (a' := ?_) #[T_, F_, F_, F_, F_, F_] rfl rfl (by kernel_rfl) (fun _ _ _ h => h) (Or.inl ⟨by rfl, ?_⟩) ?_ ?_
  rotate_left
  · intro w'
    go_simp
    with_reducible rfl
  rotate_left
  · simp only [Act.put, zS, zZ, zC, i64_w, i32_w]
    rfl
  refine pure_ (i := 2) (N := some 24) (v := ?_) (a' := ?_) #[T_, F_, T_, F_, F_, F_] rfl rfl (by kernel_rfl) (fun _ _ _ h => h) (Or.inl ⟨by rfl, ?_⟩) ?_ ?_
  rotate_left
  · intro w'
    go_simp
    with_reducible rfl
  rotate_left
  · simp only [Act.put, zS, zZ, zC, i64_w, i32_w]
    rfl
  refine take_ (i := 1) (N := some 23) (v := ?_) (a' := ?_) #[T_, T_, T_, F_, F_, F_] rfl rfl (by kernel_rfl) (fun _ _ _ h => h) (Or.inl ⟨by rfl, ?_⟩) hHeld ?_ ?_
  rotate_left
  · rintro w' ⟨s0, s1⟩
    go_simp
    with_reducible rfl
  rotate_left
  · simp only [Act.put, zS, zZ, zC, i64_w, i32_w]
    rfl
  refine pure_ (i := 4) (N := some 7) (v := ?_) (a' := ?_) #[T_, T_, T_, F_, T_, F_] rfl rfl (by kernel_rfl) (fun _ _ _ h => h) (Or.inl ⟨by rfl, ?_⟩) ?_ ?_
  rotate_left
  · intro w'
    go_simp
    with_reducible rfl
  rotate_left
  · simp only [Act.put, zS, zZ, zC, i64_w, i32_w]
    rfl
  refine take_ (i := 3) (N := some 25) (v := ?_) (a' := ?_) #[T_, T_, T_, T_, T_, F_] rfl rfl (by kernel_rfl) (fun _ _ _ h => h) (Or.inl ⟨by rfl, ?_⟩) hHeld ?_ ?_
  rotate_left
  · rintro w' ⟨s0, s1⟩
    go_simp
    with_reducible rfl
  rotate_left
  · simp only [Act.put, zS, zZ, zC, i64_w, i32_w]
    rfl
  refine pure_ (i := 5) (N := some 8) (v := ?_) (a' := ?_) #[T_, T_, T_, T_, T_, T_] rfl rfl (by kernel_rfl) (fun _ _ _ h => h) (Or.inl ⟨by rfl, ?_⟩) ?_ ?_
  rotate_left
  · intro w'
    go_simp
    with_reducible rfl
  rotate_left
  · simp only [Act.put, zS, zZ, zC, i64_w, i32_w]
    rfl
  refine done_ (by kernel_rfl) ?_
  go_upto_region 4 with (fail)
  go_cut [50] (fun v50 wc => ∃ (kq : Nat) (x50_5 : Bool), v50 = .bool x50_5 ∧ Aside0 (ropewaylaw16_FrontTurns.j0 kq l2_0 l2_1 x50_5 a0_0 a0_1 a1_0 a1_1 = some r) ∧ Aside0 (kq ≤ k) ∧ Aside0 (wc.heap[gb227]? = some (.cells #[.int .i64 a0_0, .int .i64 a0_1] 24 (0, 0))) ∧ Aside0 (wc.heap[gb228]? = some (.cells #[.int .i64 a1_0, .int .i64 a1_1] 24 (0, 0))) ∧ Aside0 (wc.heap[gb229]? = some (.cells #[(.slice A2_0 l2_0.length c2_0), (.slice A2_1 l2_1.length c2_1)] 44 (0, 0))) ∧ Aside0 (Below w.heap.size w wc))
  case first =>
   have H := HC6.out
   clear HC6
   by_cases c12 : (l2_0.length : Int) > 20
   · rw [if_pos c12] at H
     have c12b0 : decide (20 < (l2_0.length : Int)) = true := decide_eq_true c12
     have c12b1 : decide (20 < l2_0.length) = true := decide_eq_true (by omega)
     clear c12
     (first | rw [c12b0] | (simp only [i64_w, i32_w]; rw [c12b0]) | skip)
     have H' := zM H
     clear H
     go_wp2
     go_meet
     case rel => exact ⟨_, (true), (by first | rfl | (simp; done) | (simp [*]; done) | (simp; grind)), H', ⟨by first | omega | exact Nat.le_refl _⟩, ⟨blf_⟩, ⟨blf_⟩, ⟨blf_⟩, ⟨bel_⟩⟩
   rw [if_neg c12] at H
   have c12b0 : decide (20 < (l2_0.length : Int)) = false := decide_eq_false c12
   have c12b1 : decide (20 < l2_0.length) = false := decide_eq_false (by omega)
   clear c12
   (first | rw [c12b0] | (simp only [i64_w, i32_w]; rw [c12b0]) | skip)
   by_cases c13 : (l2_1.length : Int) > 20
   · rw [if_pos c13] at H
     have c13b0 : decide (20 < (l2_1.length : Int)) = true := decide_eq_true c13
     have c13b1 : decide (20 < l2_1.length) = true := decide_eq_true (by omega)
     clear c13
     have H' := zM H
     clear H
     go_wp2
     go_meet
     case rel => exact ⟨_, (true), (by first | rfl | (simp; done) | (simp [*]; done) | (simp; grind)), H', ⟨by first | omega | exact Nat.le_refl _⟩, ⟨blf_⟩, ⟨blf_⟩, ⟨blf_⟩, ⟨bel_⟩⟩
   rw [if_neg c13] at H
   have c13b0 : decide (20 < (l2_1.length : Int)) = false := decide_eq_false c13
   have c13b1 : decide (20 < l2_1.length) = false := decide_eq_false (by omega)
   clear c13
   obtain ⟨y231, hy231⟩ : ∃ y_ : List (S24), y_ = (([(⟨a0_0, a0_1⟩ : S24), (⟨a1_0, a1_1⟩ : S24)] : List (S24))) := ⟨_, rfl⟩
   replace H : ((ropewaylaw16_right.f k y231).bind fun t234 => (if t234 = true then ((ropewaylaw16_right.f k l2_0).bind fun t235 => (if t235 = true then ((ropewaylaw16_right.f k l2_1).bind fun t236 => (ropewaylaw16_FrontTurns.j0 k l2_0 l2_1 (!t236) a0_0 a0_1 a1_0 a1_1)) else (ropewaylaw16_FrontTurns.j0 k l2_0 l2_1 true a0_0 a0_1 a1_0 a1_1))) else (ropewaylaw16_FrontTurns.j0 k l2_0 l2_1 true a0_0 a0_1 a1_0 a1_1))) = some r := by first | (rw [hy231]; with_reducible exact H) | (have H2_ := (Option.bind_some _ _).symm.trans H; rw [hy231]; with_reducible exact H2_) | (have H2_ := (Option.bind_some _ _).symm.trans H; with_reducible exact H2_) | with_reducible exact H | (rw [hy231]; exact H) | exact H
   have Ny231 := zM hy231
   clear hy231
   replace H := Option.bind_eq_some_iff.mp H
   obtain ⟨t234, A140, H⟩ := H
   replace H : (if t234 = true then ((ropewaylaw16_right.f k l2_0).bind fun t235 => (if t235 = true then ((ropewaylaw16_right.f k l2_1).bind fun t236 => (ropewaylaw16_FrontTurns.j0 k l2_0 l2_1 (!t236) a0_0 a0_1 a1_0 a1_1)) else (ropewaylaw16_FrontTurns.j0 k l2_0 l2_1 true a0_0 a0_1 a1_0 a1_1))) else (ropewaylaw16_FrontTurns.j0 k l2_0 l2_1 true a0_0 a0_1 a1_0 a1_1)) = some r := H
   have A14 := zM A140
   clear A140
   by_cases c15 : t234 = true
   rotate_left
   · replace c15 := Bool.eq_false_iff.mpr c15
     subst c15
     have H1 : (ropewaylaw16_FrontTurns.j0 k l2_0 l2_1 true a0_0 a0_1 a1_0 a1_1) = some r := by rw [if_neg (show ¬ (false = true) by decide)] at H; exact H
     clear H
     have H := H1
     clear H1
     have H' := zM H
     clear H
     have hnb40 := NB227_228.out
     have hnc40 := NB228_227.out
     have hnb41 := NB227_229.out
     have hnc41 := NB229_227.out
     have hcz42_0 : w11.cell? ⟨gb227, 0, none⟩ = some (.int .i64 a0_0) := (zL BK227.out 0).trans rfl
     have hcz42_1 : w11.cell? ⟨gb227, 1, none⟩ = some (.int .i64 a0_1) := (zL BK227.out 1).trans rfl
     have hfz42_0 := zF BK227.out 0
     have hfz42_1 := zF BK227.out 1
     have hnb43 := NB228_229.out
     have hnc43 := NB229_228.out
     have hcz44_0 : w11.cell? ⟨gb228, 0, none⟩ = some (.int .i64 a1_0) := (zL BK228.out 0).trans rfl
     have hcz44_1 : w11.cell? ⟨gb228, 1, none⟩ = some (.int .i64 a1_1) := (zL BK228.out 1).trans rfl
     have hfz44_0 := zF BK228.out 0
     have hfz44_1 := zF BK228.out 1
     go_wp2_with (first | ((with_reducible refine gate_dst (N := 37) rfl ?_); (try (refine gate_guard (by rfl) ?_; dsimp only)); refine Kd.R_lit k24 _ 24 ?hg (N := 37) ?hd (xs := ([(⟨a0_0, a0_1⟩ : S24), (⟨a1_0, a1_1⟩ : S24)] : List (S24))) (inner := [.int .i64 a0_0, .int .i64 a0_1, .int .i64 a1_0, .int .i64 a1_1]) (ok := fun _ => True) (okp := fun _ => True) ?hr ?hp (fun _ hk => hk) trivial (Below.refl _ _) (Nat.le_refl _) (by simp) ?_; (case hd => rfl); (case hg => rfl); (case hr => first | (go_simp; done) | (go_simp; rfl)); (case hp => exact (Reps.c2 (show Kd.M k24 _ _ _ (⟨a0_0, a0_1⟩ : S24) [.int .i64 a0_0, .int .i64 a0_1] from (k24_mkM _ _ _ (⟨a0_0, a0_1⟩ : S24) )) (Reps.c2 (show Kd.M k24 _ _ _ (⟨a1_0, a1_1⟩ : S24) [.int .i64 a1_0, .int .i64 a1_1] from (k24_mkM _ _ _ (⟨a1_0, a1_1⟩ : S24) )) (Reps.none _ _)))); intro v232 w45 ho46 hb hg_ hnew_; clear hg_ hnew_; (first | rw [← Ny231.out] at ho46 | (simp only [Int.reduceToNat] at ho46; rw [← Ny231.out] at ho46)); have HO233 := zM (Kd.R_lower (Kd.R_newB (Kd.R_newB ho46 (g := gb227) (o := .cells #[.int .i64 a0_0, .int .i64 a0_1] 24 (0, 0)) blk_) (g := gb228) (o := .cells #[.int .i64 a1_0, .int .i64 a1_1] 24 (0, 0)) blk_) (below_size bel_)); replace BK227 := zM (bb_ BK227 hb); replace BK228 := zM (bb_ BK228 hb); replace BK229 := zM (bb_ BK229 hb); replace HB := zM (zB bel_ hb); clear hb ho46; obtain ⟨Ao47, co47, eo47⟩ := Kd.R_slice HO233.out; subst eo47) | (go_at_call 12; (with_reducible refine (ropewaylaw16_right.calls k _ _ y231 false _ ?side1 ?side2 A14.out).mono ?_); (case side1 => repeat (first | exact (Kd.R_reads' HO233.out).2.2 | (with_reducible refine Kd.C_alloc ?_ _) | (with_reducible refine Kd.C_drewN ?_ _) | (with_reducible refine Kd.C_drew ?_))); (case side2 => exact (Kd.R_reads' HO233.out).2.1); rintro e w48 ⟨rfl, hb⟩; replace HO233 := zM (Kd.R_below (rl_ HO233) hb); replace BK227 := zM (bb_ BK227 hb); replace BK228 := zM (bb_ BK228 hb); replace BK229 := zM (bb_ BK229 hb); replace HB := zM (zB bel_ hb); (try clear hb); (try clear hb2); (try clear hk); (try clear hi)))
     go_meet
     case rel => exact ⟨_, (true), (by first | rfl | (simp; done) | (simp [*]; done) | (simp; grind)), H', ⟨by first | omega | exact Nat.le_refl _⟩, ⟨blf_⟩, ⟨blf_⟩, ⟨blf_⟩, ⟨bel_⟩⟩
   subst c15
   have H1 : ((ropewaylaw16_right.f k l2_0).bind fun t235 => (if t235 = true then ((ropewaylaw16_right.f k l2_1).bind fun t236 => (ropewaylaw16_FrontTurns.j0 k l2_0 l2_1 (!t236) a0_0 a0_1 a1_0 a1_1)) else (ropewaylaw16_FrontTurns.j0 k l2_0 l2_1 true a0_0 a0_1 a1_0 a1_1))) = some r := by rw [if_pos rfl] at H; exact H
   clear H
   have H := H1
   clear H1
   replace H := Option.bind_eq_some_iff.mp H
   obtain ⟨t235, A160, H⟩ := H
   replace H : (if t235 = true then ((ropewaylaw16_right.f k l2_1).bind fun t236 => (ropewaylaw16_FrontTurns.j0 k l2_0 l2_1 (!t236) a0_0 a0_1 a1_0 a1_1)) else (ropewaylaw16_FrontTurns.j0 k l2_0 l2_1 true a0_0 a0_1 a1_0 a1_1)) = some r := H
   have A16 := zM A160
   clear A160
   by_cases c17 : t235 = true
   rotate_left
   · replace c17 := Bool.eq_false_iff.mpr c17
     subst c17
     have H1 : (ropewaylaw16_FrontTurns.j0 k l2_0 l2_1 true a0_0 a0_1 a1_0 a1_1) = some r := by rw [if_neg (show ¬ (false = true) by decide)] at H; exact H
     clear H
     have H := H1
     clear H1
     have H' := zM H
     clear H
     have hnb30 := NB227_228.out
     have hnc30 := NB228_227.out
     have hnb31 := NB227_229.out
     have hnc31 := NB229_227.out
     have hcz32_0 : w11.cell? ⟨gb227, 0, none⟩ = some (.int .i64 a0_0) := (zL BK227.out 0).trans rfl
     have hcz32_1 : w11.cell? ⟨gb227, 1, none⟩ = some (.int .i64 a0_1) := (zL BK227.out 1).trans rfl
     have hfz32_0 := zF BK227.out 0
     have hfz32_1 := zF BK227.out 1
     have hnb33 := NB228_229.out
     have hnc33 := NB229_228.out
     have hcz34_0 : w11.cell? ⟨gb228, 0, none⟩ = some (.int .i64 a1_0) := (zL BK228.out 0).trans rfl
     have hcz34_1 : w11.cell? ⟨gb228, 1, none⟩ = some (.int .i64 a1_1) := (zL BK228.out 1).trans rfl
     have hfz34_0 := zF BK228.out 0
     have hfz34_1 := zF BK228.out 1
     go_wp2_with (first | ((with_reducible refine gate_dst (N := 37) rfl ?_); (try (refine gate_guard (by rfl) ?_; dsimp only)); refine Kd.R_lit k24 _ 24 ?hg (N := 37) ?hd (xs := ([(⟨a0_0, a0_1⟩ : S24), (⟨a1_0, a1_1⟩ : S24)] : List (S24))) (inner := [.int .i64 a0_0, .int .i64 a0_1, .int .i64 a1_0, .int .i64 a1_1]) (ok := fun _ => True) (okp := fun _ => True) ?hr ?hp (fun _ hk => hk) trivial (Below.refl _ _) (Nat.le_refl _) (by simp) ?_; (case hd => rfl); (case hg => rfl); (case hr => first | (go_simp; done) | (go_simp; rfl)); (case hp => exact (Reps.c2 (show Kd.M k24 _ _ _ (⟨a0_0, a0_1⟩ : S24) [.int .i64 a0_0, .int .i64 a0_1] from (k24_mkM _ _ _ (⟨a0_0, a0_1⟩ : S24) )) (Reps.c2 (show Kd.M k24 _ _ _ (⟨a1_0, a1_1⟩ : S24) [.int .i64 a1_0, .int .i64 a1_1] from (k24_mkM _ _ _ (⟨a1_0, a1_1⟩ : S24) )) (Reps.none _ _)))); intro v232 w35 ho36 hb hg_ hnew_; clear hg_ hnew_; (first | rw [← Ny231.out] at ho36 | (simp only [Int.reduceToNat] at ho36; rw [← Ny231.out] at ho36)); have HO233 := zM (Kd.R_lower (Kd.R_newB (Kd.R_newB ho36 (g := gb227) (o := .cells #[.int .i64 a0_0, .int .i64 a0_1] 24 (0, 0)) blk_) (g := gb228) (o := .cells #[.int .i64 a1_0, .int .i64 a1_1] 24 (0, 0)) blk_) (below_size bel_)); replace BK227 := zM (bb_ BK227 hb); replace BK228 := zM (bb_ BK228 hb); replace BK229 := zM (bb_ BK229 hb); replace HB := zM (zB bel_ hb); clear hb ho36; obtain ⟨Ao37, co37, eo37⟩ := Kd.R_slice HO233.out; subst eo37) | (go_at_call 12; (with_reducible refine (ropewaylaw16_right.calls k _ _ y231 true _ ?side1 ?side2 A14.out).mono ?_); (case side1 => repeat (first | exact (Kd.R_reads' HO233.out).2.2 | (with_reducible refine Kd.C_alloc ?_ _) | (with_reducible refine Kd.C_drewN ?_ _) | (with_reducible refine Kd.C_drew ?_))); (case side2 => exact (Kd.R_reads' HO233.out).2.1); rintro e w38 ⟨rfl, hb⟩; replace HO233 := zM (Kd.R_below (rl_ HO233) hb); replace BK227 := zM (bb_ BK227 hb); replace BK228 := zM (bb_ BK228 hb); replace BK229 := zM (bb_ BK229 hb); replace HB := zM (zB bel_ hb); (try clear hb); (try clear hb2); (try clear hk); (try clear hi)) | (go_at_call 12; (with_reducible refine (ropewaylaw16_right.calls k _ _ l2_0 false _ ?side1 ?side2 A16.out).mono ?_); (case side1 => repeat (first | exact (Kd.C_below HR2_0.out HB.out) | (with_reducible refine Kd.C_alloc ?_ _) | (with_reducible refine Kd.C_drewN ?_ _) | (with_reducible refine Kd.C_drew ?_))); (case side2 => exact HC2_0.out); rintro e w39 ⟨rfl, hb⟩; replace HO233 := zM (Kd.R_below (rl_ HO233) hb); replace BK227 := zM (bb_ BK227 hb); replace BK228 := zM (bb_ BK228 hb); replace BK229 := zM (bb_ BK229 hb); replace HB := zM (zB bel_ hb); (try clear hb); (try clear hb2); (try clear hk); (try clear hi)))
     go_meet
     case rel => exact ⟨_, (true), (by first | rfl | (simp; done) | (simp [*]; done) | (simp; grind)), H', ⟨by first | omega | exact Nat.le_refl _⟩, ⟨blf_⟩, ⟨blf_⟩, ⟨blf_⟩, ⟨bel_⟩⟩
   subst c17
   have H1 : ((ropewaylaw16_right.f k l2_1).bind fun t236 => (ropewaylaw16_FrontTurns.j0 k l2_0 l2_1 (!t236) a0_0 a0_1 a1_0 a1_1)) = some r := by rw [if_pos rfl] at H; exact H
   clear H
   have H := H1
   clear H1
   replace H := Option.bind_eq_some_iff.mp H
   obtain ⟨t236, A180, H⟩ := H
   replace H : (ropewaylaw16_FrontTurns.j0 k l2_0 l2_1 (!t236) a0_0 a0_1 a1_0 a1_1) = some r := H
   have A18 := zM A180
   clear A180
   have H' := zM H
   clear H
   have hnb19 := NB227_228.out
   have hnc19 := NB228_227.out
   have hnb20 := NB227_229.out
   have hnc20 := NB229_227.out
   have hcz21_0 : w11.cell? ⟨gb227, 0, none⟩ = some (.int .i64 a0_0) := (zL BK227.out 0).trans rfl
   have hcz21_1 : w11.cell? ⟨gb227, 1, none⟩ = some (.int .i64 a0_1) := (zL BK227.out 1).trans rfl
   have hfz21_0 := zF BK227.out 0
   have hfz21_1 := zF BK227.out 1
   have hnb22 := NB228_229.out
   have hnc22 := NB229_228.out
   have hcz23_0 : w11.cell? ⟨gb228, 0, none⟩ = some (.int .i64 a1_0) := (zL BK228.out 0).trans rfl
   have hcz23_1 : w11.cell? ⟨gb228, 1, none⟩ = some (.int .i64 a1_1) := (zL BK228.out 1).trans rfl
   have hfz23_0 := zF BK228.out 0
   have hfz23_1 := zF BK228.out 1
   go_wp2_with (first | ((with_reducible refine gate_dst (N := 37) rfl ?_); (try (refine gate_guard (by rfl) ?_; dsimp only)); refine Kd.R_lit k24 _ 24 ?hg (N := 37) ?hd (xs := ([(⟨a0_0, a0_1⟩ : S24), (⟨a1_0, a1_1⟩ : S24)] : List (S24))) (inner := [.int .i64 a0_0, .int .i64 a0_1, .int .i64 a1_0, .int .i64 a1_1]) (ok := fun _ => True) (okp := fun _ => True) ?hr ?hp (fun _ hk => hk) trivial (Below.refl _ _) (Nat.le_refl _) (by simp) ?_; (case hd => rfl); (case hg => rfl); (case hr => first | (go_simp; done) | (go_simp; rfl)); (case hp => exact (Reps.c2 (show Kd.M k24 _ _ _ (⟨a0_0, a0_1⟩ : S24) [.int .i64 a0_0, .int .i64 a0_1] from (k24_mkM _ _ _ (⟨a0_0, a0_1⟩ : S24) )) (Reps.c2 (show Kd.M k24 _ _ _ (⟨a1_0, a1_1⟩ : S24) [.int .i64 a1_0, .int .i64 a1_1] from (k24_mkM _ _ _ (⟨a1_0, a1_1⟩ : S24) )) (Reps.none _ _)))); intro v232 w24 ho25 hb hg_ hnew_; clear hg_ hnew_; (first | rw [← Ny231.out] at ho25 | (simp only [Int.reduceToNat] at ho25; rw [← Ny231.out] at ho25)); have HO233 := zM (Kd.R_lower (Kd.R_newB (Kd.R_newB ho25 (g := gb227) (o := .cells #[.int .i64 a0_0, .int .i64 a0_1] 24 (0, 0)) blk_) (g := gb228) (o := .cells #[.int .i64 a1_0, .int .i64 a1_1] 24 (0, 0)) blk_) (below_size bel_)); replace BK227 := zM (bb_ BK227 hb); replace BK228 := zM (bb_ BK228 hb); replace BK229 := zM (bb_ BK229 hb); replace HB := zM (zB bel_ hb); clear hb ho25; obtain ⟨Ao26, co26, eo26⟩ := Kd.R_slice HO233.out; subst eo26) | (go_at_call 12; (with_reducible refine (ropewaylaw16_right.calls k _ _ y231 true _ ?side1 ?side2 A14.out).mono ?_); (case side1 => repeat (first | exact (Kd.R_reads' HO233.out).2.2 | (with_reducible refine Kd.C_alloc ?_ _) | (with_reducible refine Kd.C_drewN ?_ _) | (with_reducible refine Kd.C_drew ?_))); (case side2 => exact (Kd.R_reads' HO233.out).2.1); rintro e w27 ⟨rfl, hb⟩; replace HO233 := zM (Kd.R_below (rl_ HO233) hb); replace BK227 := zM (bb_ BK227 hb); replace BK228 := zM (bb_ BK228 hb); replace BK229 := zM (bb_ BK229 hb); replace HB := zM (zB bel_ hb); (try clear hb); (try clear hb2); (try clear hk); (try clear hi)) | (go_at_call 12; (with_reducible refine (ropewaylaw16_right.calls k _ _ l2_0 true _ ?side1 ?side2 A16.out).mono ?_); (case side1 => repeat (first | exact (Kd.C_below HR2_0.out HB.out) | (with_reducible refine Kd.C_alloc ?_ _) | (with_reducible refine Kd.C_drewN ?_ _) | (with_reducible refine Kd.C_drew ?_))); (case side2 => exact HC2_0.out); rintro e w28 ⟨rfl, hb⟩; replace HO233 := zM (Kd.R_below (rl_ HO233) hb); replace BK227 := zM (bb_ BK227 hb); replace BK228 := zM (bb_ BK228 hb); replace BK229 := zM (bb_ BK229 hb); replace HB := zM (zB bel_ hb); (try clear hb); (try clear hb2); (try clear hk); (try clear hi)) | (go_at_call 12; (with_reducible refine (ropewaylaw16_right.calls k _ _ l2_1 t236 _ ?side1 ?side2 A18.out).mono ?_); (case side1 => repeat (first | exact (Kd.C_below HR2_1.out HB.out) | (with_reducible refine Kd.C_alloc ?_ _) | (with_reducible refine Kd.C_drewN ?_ _) | (with_reducible refine Kd.C_drew ?_))); (case side2 => exact HC2_1.out); rintro e w29 ⟨rfl, hb⟩; replace HO233 := zM (Kd.R_below (rl_ HO233) hb); replace BK227 := zM (bb_ BK227 hb); replace BK228 := zM (bb_ BK228 hb); replace BK229 := zM (bb_ BK229 hb); replace HB := zM (zB bel_ hb); (try clear hb); (try clear hb2); (try clear hk); (try clear hi)))
   go_meet
   case rel => exact ⟨_, (!t236), (by first | rfl | (simp; done) | (simp [*]; done) | (simp; grind)), H', ⟨by first | omega | exact Nat.le_refl _⟩, ⟨blf_⟩, ⟨blf_⟩, ⟨blf_⟩, ⟨bel_⟩⟩
  case rest =>
   clear HC6
   try clear c1
   try clear c2
   try clear p2
   try clear c3
   try clear c4
   try clear c5
   try clear c8
   try clear c12
   try clear c12b0
   try clear c12b1
   try clear c13
   try clear c13b0
   try clear c13b1
   try clear c15
   try clear c17
   try clear c19
   try clear c20
   try clear c22
   try clear c30
   try clear c31
   try clear c33
   try clear c40
   try clear c41
   try clear c43
   try clear hcz21_0
   try clear hcz21_1
   try clear hcz23_0
   try clear hcz23_1
   try clear hcz32_0
   try clear hcz32_1
   try clear hcz34_0
   try clear hcz34_1
   try clear hcz42_0
   try clear hcz42_1
   try clear hcz44_0
   try clear hcz44_1
   try clear hfz21_0
   try clear hfz21_1
   try clear hfz23_0
   try clear hfz23_1
   try clear hfz32_0
   try clear hfz32_1
   try clear hfz34_0
   try clear hfz34_1
   try clear hfz42_0
   try clear hfz42_1
   try clear hfz44_0
   try clear hfz44_1
   obtain ⟨kq, x50_5, rfl, HA, HJ5, BK227, BK228, BK229, HB⟩ := hcut
   cases kq with
   | zero => exact absurd HA.out (by simp [ropewaylaw16_FrontTurns.j0])
   | succ kj5 =>
    have H := HA.out
    clear HA
    simp only [ropewaylaw16_FrontTurns.j0] at H
    by_cases c49 : x50_5 = true
    · subst c49
      have H1 : (some true) = some r := by rw [if_pos rfl] at H; exact H
      clear H
      have H := H1
      clear H1
      obtain rfl := Option.some.inj H
      go_wp2
      go_ret
      exact ⟨by first | rfl | (simp [errW_none, errW_some] <;> rfl) | (simp [*, errW_none, errW_some] <;> rfl), bel_⟩
    replace c49 := Bool.eq_false_iff.mpr c49
    subst c49
    have H1 : ((front_New.f kj5 a0_0 a0_1 a1_0 a1_1).bind fun bt237 => ((front_Step.f kj5 bt237.1 bt237.2.1 bt237.2.2 a0_0 a0_1 l2_0).bind fun bt242 => (ropewaylaw16_FrontTurns.l0 kj5 l2_1 (([] : List (S24))) (wrap64 ((l2_1.length : Int) - 1)) bt242.1 bt242.2.1 bt242.2.2))) = some r := by rw [if_neg (show ¬ (false = true) by decide)] at H; exact H
    clear H
    have H := H1
    clear H1
    replace H := Option.bind_eq_some_iff.mp H
    obtain ⟨⟨t237, t240, t241⟩, A500, H⟩ := H
    replace H : ((front_Step.f kj5 t237 t240 t241 a0_0 a0_1 l2_0).bind fun bt242 => (ropewaylaw16_FrontTurns.l0 kj5 l2_1 (([] : List (S24))) (wrap64 ((l2_1.length : Int) - 1)) bt242.1 bt242.2.1 bt242.2.2)) = some r := H
    have A50 := zM A500
    clear A500
    replace H := Option.bind_eq_some_iff.mp H
    obtain ⟨⟨t242, t245, t246⟩, A510, H⟩ := H
    replace H : (ropewaylaw16_FrontTurns.l0 kj5 l2_1 (([] : List (S24))) (wrap64 ((l2_1.length : Int) - 1)) t242 t245 t246) = some r := H
    have A51 := zM A510
    clear A510
    obtain ⟨y248, hy248⟩ : ∃ y_ : List (S24), y_ = (([] : List (S24))) := ⟨_, rfl⟩
    replace H : (ropewaylaw16_FrontTurns.l0 kj5 l2_1 y248 (wrap64 ((l2_1.length : Int) - 1)) t242 t245 t246) = some r := by first | (rw [hy248]; with_reducible exact H) | (have H2_ := (Option.bind_some _ _).symm.trans H; rw [hy248]; with_reducible exact H2_) | (have H2_ := (Option.bind_some _ _).symm.trans H; with_reducible exact H2_) | with_reducible exact H | (rw [hy248]; exact H) | exact H
    have Ny248 := zM hy248
    clear hy248
    have H' := zM H
    clear H
    try go_wp2
    replace BK227 := zM (zD BK227.out)
    replace BK228 := zM (zD BK228.out)
    replace BK229 := zM (zD BK229.out)
    replace HB := zM (below_drew1 HB.out)
    refine start_ (n := 8) (S := fun w' => w'.cell? ⟨gb227, 0, none⟩ = some (.int .i64 a0_0) ∧ w'.cell? ⟨gb227, 1, none⟩ = some (.int .i64 a0_1) ∧ w'.cell? ⟨gb228, 0, none⟩ = some (.int .i64 a1_0) ∧ w'.cell? ⟨gb228, 1, none⟩ = some (.int .i64 a1_1)) (ds := []) #[F_, F_, F_, F_, F_, F_, F_, F_] (by kernel_rfl) rfl rfl ⟨(zL BK227.out 0).trans rfl, (zL BK227.out 1).trans rfl, (zL BK228.out 0).trans rfl, (zL BK228.out 1).trans rfl⟩ (fun hHeld => ?_); refine with_tabW ropewaylaw16_FrontTurns.tab6 ropewaylaw16_FrontTurns.bits6 (fun HT_ HW_ => ?_)
    generalize wc.drew = w52 at BK227 BK228 BK229 HB hHeld ⊢
    refine pure_ (i := 4) (N := some 55) (v := ?_) (a' := ?_) #[F_, F_, F_, F_, T_, F_, F_, F_] rfl rfl (any_of HT_.out (by kernel_rfl)) (fun _ _ _ h => h) (Or.inl ⟨by rfl, ?_⟩) ?_ ?_
    rotate_left
    · intro w'
      go_simp
      with_reducible rfl
    rotate_left
    · simp only [Act.put, zS, zZ, zC, i64_w, i32_w]
      rfl
    refine take_ (i := 0) (N := some 51) (v := ?_) (a' := ?_) #[T_, F_, F_, F_, T_, F_, F_, F_] rfl rfl (take_ofW HT_.out HW_.out (by kernel_rfl)) (fun _ _ _ h => h) (Or.inl ⟨by rfl, ?_⟩) hHeld ?_ ?_
    rotate_left
    · rintro w' ⟨s0, s1, s2, s3⟩
      go_simp
      with_reducible rfl
    rotate_left
    · simp only [Act.put, zS, zZ, zC, i64_w, i32_w]
      rfl
    refine take_ (i := 1) (N := some 52) (v := ?_) (a' := ?_) #[T_, T_, F_, F_, T_, F_, F_, F_] rfl rfl (take_ofW HT_.out HW_.out (by kernel_rfl)) (fun _ _ _ h => h) (Or.inl ⟨by rfl, ?_⟩) hHeld ?_ ?_
    rotate_left
    · rintro w' ⟨s0, s1, s2, s3⟩
      go_simp
      with_reducible rfl
    rotate_left
    · simp only [Act.put, zS, zZ, zC, i64_w, i32_w]
      rfl
    refine take_ (i := 3) (N := some 54) (v := ?_) (a' := ?_) #[T_, T_, F_, T_, T_, F_, F_, F_] rfl rfl (take_ofW HT_.out HW_.out (by kernel_rfl)) (fun _ _ _ h => h) (Or.inl ⟨by rfl, ?_⟩) hHeld ?_ ?_
    rotate_left
    · rintro w' ⟨s0, s1, s2, s3⟩
      go_simp
      with_reducible rfl
    rotate_left
    · simp only [Act.put, zS, zZ, zC, i64_w, i32_w]
      rfl
    refine join_ (σ := Value × Value × Nat) 1 #[T_, T_, T_, T_, T_, T_, T_, F_] (fun s_ => [(53, .agg #[s_.1, .int .i64 t240, .int .i64 t241]), (56, .agg #[s_.2.1, .int .i64 t245, .int .i64 t246]), (9, .pointer (some ⟨s_.2.2, 0, none⟩))]) (fun s_ w' => (w'.cell? ⟨gb227, 0, none⟩ = some (.int .i64 a0_0) ∧ w'.cell? ⟨gb227, 1, none⟩ = some (.int .i64 a0_1) ∧ w'.cell? ⟨gb228, 0, none⟩ = some (.int .i64 a1_0) ∧ w'.cell? ⟨gb228, 1, none⟩ = some (.int .i64 a1_1)) ∧ (Kd.R k24 24 w' w.heap.size (fun k_ => some k_ ≠ (s_.2.1 : Value).ownBlock ∧ k_ ≠ gb227 ∧ k_ ≠ gb228) s_.1 t237) ∧ (Kd.R k24 24 w' w.heap.size (fun k_ => some k_ ≠ (s_.1 : Value).ownBlock ∧ k_ ≠ gb227 ∧ k_ ≠ gb228) s_.2.1 t242) ∧ (w'.heap[gb227]? = some (.cells #[.int .i64 a0_0, .int .i64 a0_1] 24 (0, 0))) ∧ (w'.heap[gb228]? = some (.cells #[.int .i64 a1_0, .int .i64 a1_1] 24 (0, 0))) ∧ (w'.heap[gb229]? = some (.cells #[.slice A2_0 l2_0.length c2_0, .slice A2_1 l2_1.length c2_1] 44 (0, 0))) ∧ (w'.heap[s_.2.2]? = some (.cells #[.slice none 0 0, .int .i64 0, .int .i64 0] 26 (0, 0))) ∧ (w.heap.size ≤ s_.2.2) ∧ (w.heap.size ≤ s_.2.2) ∧ (gb227 ≠ s_.2.2) ∧ (s_.2.2 ≠ gb227) ∧ (gb228 ≠ s_.2.2) ∧ (s_.2.2 ≠ gb228) ∧ (gb229 ≠ s_.2.2) ∧ (s_.2.2 ≠ gb229) ∧ (Below w.heap.size w w')) ?_ ?_
    rotate_left
    · intro hCont
      refine two_ (i := 2) (j := 6) (Ni := some 53) (Nj := some 9) #[T_, T_, T_, T_, T_, F_, F_, F_] #[T_, T_, F_, T_, T_, F_, T_, F_] rfl rfl rfl rfl (two_of HT_.out (by kernel_rfl)) (by decide) (by decide) (fun K hK => ?_) (fun K hK => ?_)
      rotate_left
      · skip
        refine box_step ?hg (N := 9) ?hd (cs := #[.slice none 0 0, .int .i64 0, .int .i64 0]) (t := 26) ?hr ?_; (case hd => rfl); (case hg => rfl); (case hr => first | (go_simp; done) | (go_simp; rfl))
        intro gb247 hg w53 hbox hb
        have BK247 := zM (hbox)
        have GW247 := zM (bs_ hg)
        have GE247 := zM (bs_ hg)
        replace HB := zM (zB bel_ hb)
        have NB227_247 := zM (nl_ BK227 hg)
        have NB247_227 := zM (ng_ BK227 hg)
        replace BK227 := zM (bb_ BK227 hb)
        have NB228_247 := zM (nl_ BK228 hg)
        have NB247_228 := zM (ng_ BK228 hg)
        replace BK228 := zM (bb_ BK228 hb)
        have NB229_247 := zM (nl_ BK229 hg)
        have NB247_229 := zM (ng_ BK229 hg)
        replace BK229 := zM (bb_ BK229 hb)
        clear hb hbox hg
        refine hK.out _ _ ⟨(zL BK227.out 0).trans rfl, (zL BK227.out 1).trans rfl, (zL BK228.out 0).trans rfl, (zL BK228.out 1).trans rfl⟩ (fun hHeld => ?_)
        clear hK K
        refine norm_ (a' := ?_) ?_ ?_
        rotate_left
        · show Act.put _ (some 9) _ = _
          simp only [Act.put, zS, zZ, zC, i64_w, i32_w]
          rfl
        refine one_ (i := 2) (N := some 53) #[T_, T_, T_, T_, T_, F_, T_, F_] rfl rfl (one_of HT_.out (by kernel_rfl)) (by decide) (fun K hK => ?_)
        refine goes_ Try.func7 (by kernel_rfl) rfl #[.agg #[.int .i64 a0_0, .int .i64 a0_1], .agg #[.int .i64 a1_0, .int .i64 a1_1]] (by rfl) rfl rfl (by (try simp only [List.map_toArray, List.map_cons, List.map_nil]); first | done | rfl | (simp only [List.length_drop, List.length_take]; rfl)) ?_
        with_reducible refine (front_New.calls kj5 a0_0 a0_1 a1_0 a1_1 t237 t240 t241 _ A50.out).mono ?_
        rintro e w54 ⟨v238, rfl, ho0, hb⟩
        refine ⟨_, rfl, ?_⟩
        have HO239 := zM (Kd.R_lower (Kd.R_newB (Kd.R_newB ho0 (g := gb227) (o := .cells #[.int .i64 a0_0, .int .i64 a0_1] 24 (0, 0)) blk_) (g := gb228) (o := .cells #[.int .i64 a1_0, .int .i64 a1_1] 24 (0, 0)) blk_) (below_size bel_))
        replace BK227 := zM (bb_ BK227 hb)
        replace BK228 := zM (bb_ BK228 hb)
        replace BK229 := zM (bb_ BK229 hb)
        replace BK247 := zM (bb_ BK247 hb)
        replace HB := zM (zB bel_ hb)
        (try clear hb)
        (try clear hb2)
        (try clear hk)
        (try clear hi)
        (try clear ho0)
        obtain ⟨Ao55, co55, eo55⟩ := Kd.R_slice HO239.out
        (first | subst eo55 | (injection eo55 with f1_ f2_ f3_; have f4_ := f1_.symm; have f5_ := f3_.symm; clear f1_ f2_ f3_; subst f4_; subst f5_))
        refine hK.out _ _ ⟨(zL BK227.out 0).trans rfl, (zL BK227.out 1).trans rfl, (zL BK228.out 0).trans rfl, (zL BK228.out 1).trans rfl⟩ (fun hHeld => ?_)
        clear hK K
        refine norm_ (a' := ?_) ?_ ?_
        rotate_left
        · show Act.put _ (some 53) _ = _
          simp only [Act.put, zS, zZ, zC, i64_w, i32_w]
          rfl
        refine one_ (i := 5) (N := some 56) #[T_, T_, T_, T_, T_, T_, T_, F_] rfl rfl (one_of HT_.out (by kernel_rfl)) (by decide) (fun K hK => ?_)
        refine goes_ Try.func14 (by kernel_rfl) rfl #[.agg #[.slice Ao55 t237.length co55, .int .i64 t240, .int .i64 t241], .agg #[.int .i64 a0_0, .int .i64 a0_1], .slice A2_0 l2_0.length c2_0] (by rfl) rfl rfl (by (try simp only [List.map_toArray, List.map_cons, List.map_nil]); first | done | rfl | (simp only [List.length_drop, List.length_take]; rfl)) ?_
        with_reducible refine (front_Step.calls kj5 _ _ t237 t240 t241 a0_0 a0_1 _ _ l2_0 t242 t245 t246 _ ?side1 ?side2 ?side3 ?side4 A51.out).mono ?_
        (case side1 => repeat (first | exact (Kd.R_reads' HO239.out).2.2 | (with_reducible refine Kd.C_alloc ?_ _) | (with_reducible refine Kd.C_drewN ?_ _) | (with_reducible refine Kd.C_drew ?_)))
        (case side2 => exact (Kd.R_reads' HO239.out).2.1)
        (case side3 => repeat (first | exact (Kd.C_below HR2_0.out HB.out) | (with_reducible refine Kd.C_alloc ?_ _) | (with_reducible refine Kd.C_drewN ?_ _) | (with_reducible refine Kd.C_drew ?_)))
        (case side4 => exact HC2_0.out)
        rintro e w56 ⟨v243, rfl, ho0, hb⟩
        refine ⟨_, rfl, ?_⟩
        have HO244 := zM (Kd.R_lower (Kd.R_newB (Kd.R_newB (Kd.R_new' ho0 (Kd.R_lt (rl_ HO239))) (g := gb227) (o := .cells #[.int .i64 a0_0, .int .i64 a0_1] 24 (0, 0)) blk_) (g := gb228) (o := .cells #[.int .i64 a1_0, .int .i64 a1_1] 24 (0, 0)) blk_) (below_size bel_))
        replace HO239 := zM (Kd.R_elder' (rl_ HO239) (Kd.R_base ho0) hb)
        replace BK227 := zM (bb_ BK227 hb)
        replace BK228 := zM (bb_ BK228 hb)
        replace BK229 := zM (bb_ BK229 hb)
        replace BK247 := zM (bb_ BK247 hb)
        replace HB := zM (zB bel_ hb)
        (try clear hb)
        (try clear hb2)
        (try clear hk)
        (try clear hi)
        (try clear ho0)
        refine hK.out _ _ ⟨(zL BK227.out 0).trans rfl, (zL BK227.out 1).trans rfl, (zL BK228.out 0).trans rfl, (zL BK228.out 1).trans rfl⟩ (fun hHeld => ?_)
        clear hK K
        refine norm_ (a' := ?_) ?_ ?_
        rotate_left
        · show Act.put _ (some 56) _ = _
          simp only [Act.put, zS, zZ, zC, i64_w, i32_w]
          rfl
        exact norm_ (by simp only [putAll, Act.put, zS, zZ, zC]) (hCont (.slice Ao55 t237.length co55, v243, gb247) _ ⟨hHeld, (by (with_reducible repeat (first | apply Kd.R_alloc | apply Kd.R_drewN | apply Kd.R_drew)); exact Kd.R_mono HO239.out (fun _ hk => ⟨hk.2, ⟨hk.1.1.2, hk.1.2⟩⟩)), (by (with_reducible repeat (first | apply Kd.R_alloc | apply Kd.R_drewN | apply Kd.R_drew)); exact Kd.R_mono HO244.out (fun _ hk => ⟨hk.1.1.2, ⟨hk.1.2, hk.2⟩⟩)), blk_, blk_, blk_, blk_, GW247.out, GE247.out, NB227_247.out, NB247_227.out, NB228_247.out, NB247_228.out, NB229_247.out, NB247_229.out, bel_⟩)
      skip
      refine goes_ Try.func7 (by kernel_rfl) rfl #[.agg #[.int .i64 a0_0, .int .i64 a0_1], .agg #[.int .i64 a1_0, .int .i64 a1_1]] (by rfl) rfl rfl (by (try simp only [List.map_toArray, List.map_cons, List.map_nil]); first | done | rfl | (simp only [List.length_drop, List.length_take]; rfl)) ?_
      with_reducible refine (front_New.calls kj5 a0_0 a0_1 a1_0 a1_1 t237 t240 t241 _ A50.out).mono ?_
      rintro e w53 ⟨v238, rfl, ho0, hb⟩
      refine ⟨_, rfl, ?_⟩
      have HO239 := zM (Kd.R_lower (Kd.R_newB (Kd.R_newB ho0 (g := gb227) (o := .cells #[.int .i64 a0_0, .int .i64 a0_1] 24 (0, 0)) blk_) (g := gb228) (o := .cells #[.int .i64 a1_0, .int .i64 a1_1] 24 (0, 0)) blk_) (below_size bel_))
      replace BK227 := zM (bb_ BK227 hb)
      replace BK228 := zM (bb_ BK228 hb)
      replace BK229 := zM (bb_ BK229 hb)
      replace HB := zM (zB bel_ hb)
      (try clear hb)
      (try clear hb2)
      (try clear hk)
      (try clear hi)
      (try clear ho0)
      obtain ⟨Ao54, co54, eo54⟩ := Kd.R_slice HO239.out
      (first | subst eo54 | (injection eo54 with f1_ f2_ f3_; have f4_ := f1_.symm; have f5_ := f3_.symm; clear f1_ f2_ f3_; subst f4_; subst f5_))
      refine hK.out _ _ ⟨(zL BK227.out 0).trans rfl, (zL BK227.out 1).trans rfl, (zL BK228.out 0).trans rfl, (zL BK228.out 1).trans rfl⟩ (fun hHeld => ?_)
      clear hK K
      refine norm_ (a' := ?_) ?_ ?_
      rotate_left
      · show Act.put _ (some 53) _ = _
        simp only [Act.put, zS, zZ, zC, i64_w, i32_w]
        rfl
      refine two_ (i := 5) (j := 6) (Ni := some 56) (Nj := some 9) #[T_, T_, T_, T_, T_, T_, F_, F_] #[T_, T_, T_, T_, T_, F_, T_, F_] rfl rfl rfl rfl (two_of HT_.out (by kernel_rfl)) (by decide) (by decide) (fun K hK => ?_) (fun K hK => ?_)
      · skip
        refine goes_ Try.func14 (by kernel_rfl) rfl #[.agg #[.slice Ao54 t237.length co54, .int .i64 t240, .int .i64 t241], .agg #[.int .i64 a0_0, .int .i64 a0_1], .slice A2_0 l2_0.length c2_0] (by rfl) rfl rfl (by (try simp only [List.map_toArray, List.map_cons, List.map_nil]); first | done | rfl | (simp only [List.length_drop, List.length_take]; rfl)) ?_
        with_reducible refine (front_Step.calls kj5 _ _ t237 t240 t241 a0_0 a0_1 _ _ l2_0 t242 t245 t246 _ ?side1 ?side2 ?side3 ?side4 A51.out).mono ?_
        (case side1 => repeat (first | exact (Kd.R_reads' HO239.out).2.2 | (with_reducible refine Kd.C_alloc ?_ _) | (with_reducible refine Kd.C_drewN ?_ _) | (with_reducible refine Kd.C_drew ?_)))
        (case side2 => exact (Kd.R_reads' HO239.out).2.1)
        (case side3 => repeat (first | exact (Kd.C_below HR2_0.out HB.out) | (with_reducible refine Kd.C_alloc ?_ _) | (with_reducible refine Kd.C_drewN ?_ _) | (with_reducible refine Kd.C_drew ?_)))
        (case side4 => exact HC2_0.out)
        rintro e w55 ⟨v243, rfl, ho0, hb⟩
        refine ⟨_, rfl, ?_⟩
        have HO244 := zM (Kd.R_lower (Kd.R_newB (Kd.R_newB (Kd.R_new' ho0 (Kd.R_lt (rl_ HO239))) (g := gb227) (o := .cells #[.int .i64 a0_0, .int .i64 a0_1] 24 (0, 0)) blk_) (g := gb228) (o := .cells #[.int .i64 a1_0, .int .i64 a1_1] 24 (0, 0)) blk_) (below_size bel_))
        replace HO239 := zM (Kd.R_elder' (rl_ HO239) (Kd.R_base ho0) hb)
        replace BK227 := zM (bb_ BK227 hb)
        replace BK228 := zM (bb_ BK228 hb)
        replace BK229 := zM (bb_ BK229 hb)
        replace HB := zM (zB bel_ hb)
        (try clear hb)
        (try clear hb2)
        (try clear hk)
        (try clear hi)
        (try clear ho0)
        refine hK.out _ _ ⟨(zL BK227.out 0).trans rfl, (zL BK227.out 1).trans rfl, (zL BK228.out 0).trans rfl, (zL BK228.out 1).trans rfl⟩ (fun hHeld => ?_)
        clear hK K
        refine norm_ (a' := ?_) ?_ ?_
        rotate_left
        · show Act.put _ (some 56) _ = _
          simp only [Act.put, zS, zZ, zC, i64_w, i32_w]
          rfl
        refine one_ (i := 6) (N := some 9) #[T_, T_, T_, T_, T_, T_, T_, F_] rfl rfl (one_of HT_.out (by kernel_rfl)) (by decide) (fun K hK => ?_)
        refine box_step ?hg (N := 9) ?hd (cs := #[.slice none 0 0, .int .i64 0, .int .i64 0]) (t := 26) ?hr ?_; (case hd => rfl); (case hg => rfl); (case hr => first | (go_simp; done) | (go_simp; rfl))
        intro gb247 hg w56 hbox hb
        replace HO239 := zM (Kd.R_below (rl_ HO239) hb)
        replace HO244 := zM (Kd.R_below (rl_ HO244) hb)
        have BK247 := zM (hbox)
        have GW247 := zM (bs_ hg)
        have GE247 := zM (bs_ hg)
        replace HB := zM (zB bel_ hb)
        have NB227_247 := zM (nl_ BK227 hg)
        have NB247_227 := zM (ng_ BK227 hg)
        replace BK227 := zM (bb_ BK227 hb)
        have NB228_247 := zM (nl_ BK228 hg)
        have NB247_228 := zM (ng_ BK228 hg)
        replace BK228 := zM (bb_ BK228 hb)
        have NB229_247 := zM (nl_ BK229 hg)
        have NB247_229 := zM (ng_ BK229 hg)
        replace BK229 := zM (bb_ BK229 hb)
        clear hb hbox hg
        refine hK.out _ _ ⟨(zL BK227.out 0).trans rfl, (zL BK227.out 1).trans rfl, (zL BK228.out 0).trans rfl, (zL BK228.out 1).trans rfl⟩ (fun hHeld => ?_)
        clear hK K
        refine norm_ (a' := ?_) ?_ ?_
        rotate_left
        · show Act.put _ (some 9) _ = _
          simp only [Act.put, zS, zZ, zC, i64_w, i32_w]
          rfl
        exact norm_ (by simp only [putAll, Act.put, zS, zZ, zC]) (hCont (.slice Ao54 t237.length co54, v243, gb247) _ ⟨hHeld, (by (with_reducible repeat (first | apply Kd.R_alloc | apply Kd.R_drewN | apply Kd.R_drew)); exact Kd.R_mono HO239.out (fun _ hk => ⟨hk.2, ⟨hk.1.1.2, hk.1.2⟩⟩)), (by (with_reducible repeat (first | apply Kd.R_alloc | apply Kd.R_drewN | apply Kd.R_drew)); exact Kd.R_mono HO244.out (fun _ hk => ⟨hk.1.1.2, ⟨hk.1.2, hk.2⟩⟩)), blk_, blk_, blk_, blk_, GW247.out, GE247.out, NB227_247.out, NB247_227.out, NB228_247.out, NB247_228.out, NB229_247.out, NB247_229.out, bel_⟩)
      skip
      refine box_step ?hg (N := 9) ?hd (cs := #[.slice none 0 0, .int .i64 0, .int .i64 0]) (t := 26) ?hr ?_; (case hd => rfl); (case hg => rfl); (case hr => first | (go_simp; done) | (go_simp; rfl))
      intro gb247 hg w54 hbox hb
      replace HO239 := zM (Kd.R_below (rl_ HO239) hb)
      have BK247 := zM (hbox)
      have GW247 := zM (bs_ hg)
      have GE247 := zM (bs_ hg)
      replace HB := zM (zB bel_ hb)
      have NB227_247 := zM (nl_ BK227 hg)
      have NB247_227 := zM (ng_ BK227 hg)
      replace BK227 := zM (bb_ BK227 hb)
      have NB228_247 := zM (nl_ BK228 hg)
      have NB247_228 := zM (ng_ BK228 hg)
      replace BK228 := zM (bb_ BK228 hb)
      have NB229_247 := zM (nl_ BK229 hg)
      have NB247_229 := zM (ng_ BK229 hg)
      replace BK229 := zM (bb_ BK229 hb)
      clear hb hbox hg
      obtain ⟨Ao55, co55, eo55⟩ := Kd.R_slice HO239.out
      (first | subst eo55 | (injection eo55 with f1_ f2_ f3_; have f4_ := f1_.symm; have f5_ := f3_.symm; clear f1_ f2_ f3_; subst f4_; subst f5_))
      refine hK.out _ _ ⟨(zL BK227.out 0).trans rfl, (zL BK227.out 1).trans rfl, (zL BK228.out 0).trans rfl, (zL BK228.out 1).trans rfl⟩ (fun hHeld => ?_)
      clear hK K
      refine norm_ (a' := ?_) ?_ ?_
      rotate_left
      · show Act.put _ (some 9) _ = _
        simp only [Act.put, zS, zZ, zC, i64_w, i32_w]
        rfl
      refine one_ (i := 5) (N := some 56) #[T_, T_, T_, T_, T_, T_, T_, F_] rfl rfl (one_of HT_.out (by kernel_rfl)) (by decide) (fun K hK => ?_)
      refine goes_ Try.func14 (by kernel_rfl) rfl #[.agg #[.slice Ao55 t237.length co55, .int .i64 t240, .int .i64 t241], .agg #[.int .i64 a0_0, .int .i64 a0_1], .slice A2_0 l2_0.length c2_0] (by rfl) rfl rfl (by (try simp only [List.map_toArray, List.map_cons, List.map_nil]); first | done | rfl | (simp only [List.length_drop, List.length_take]; rfl)) ?_
      with_reducible refine (front_Step.calls kj5 _ _ t237 t240 t241 a0_0 a0_1 _ _ l2_0 t242 t245 t246 _ ?side1 ?side2 ?side3 ?side4 A51.out).mono ?_
      (case side1 => repeat (first | exact (Kd.R_reads' HO239.out).2.2 | (with_reducible refine Kd.C_alloc ?_ _) | (with_reducible refine Kd.C_drewN ?_ _) | (with_reducible refine Kd.C_drew ?_)))
      (case side2 => exact (Kd.R_reads' HO239.out).2.1)
      (case side3 => repeat (first | exact (Kd.C_below HR2_0.out HB.out) | (with_reducible refine Kd.C_alloc ?_ _) | (with_reducible refine Kd.C_drewN ?_ _) | (with_reducible refine Kd.C_drew ?_)))
      (case side4 => exact HC2_0.out)
      rintro e w56 ⟨v243, rfl, ho0, hb⟩
      refine ⟨_, rfl, ?_⟩
      have HO244 := zM (Kd.R_lower (Kd.R_newB (Kd.R_newB (Kd.R_new' ho0 (Kd.R_lt (rl_ HO239))) (g := gb227) (o := .cells #[.int .i64 a0_0, .int .i64 a0_1] 24 (0, 0)) blk_) (g := gb228) (o := .cells #[.int .i64 a1_0, .int .i64 a1_1] 24 (0, 0)) blk_) (below_size bel_))
      replace HO239 := zM (Kd.R_elder' (rl_ HO239) (Kd.R_base ho0) hb)
      replace BK227 := zM (bb_ BK227 hb)
      replace BK228 := zM (bb_ BK228 hb)
      replace BK229 := zM (bb_ BK229 hb)
      replace BK247 := zM (bb_ BK247 hb)
      replace HB := zM (zB bel_ hb)
      (try clear hb)
      (try clear hb2)
      (try clear hk)
      (try clear hi)
      (try clear ho0)
      refine hK.out _ _ ⟨(zL BK227.out 0).trans rfl, (zL BK227.out 1).trans rfl, (zL BK228.out 0).trans rfl, (zL BK228.out 1).trans rfl⟩ (fun hHeld => ?_)
      clear hK K
      refine norm_ (a' := ?_) ?_ ?_
      rotate_left
      · show Act.put _ (some 56) _ = _
        simp only [Act.put, zS, zZ, zC, i64_w, i32_w]
        rfl
      exact norm_ (by simp only [putAll, Act.put, zS, zZ, zC]) (hCont (.slice Ao55 t237.length co55, v243, gb247) _ ⟨hHeld, (by (with_reducible repeat (first | apply Kd.R_alloc | apply Kd.R_drewN | apply Kd.R_drew)); exact Kd.R_mono HO239.out (fun _ hk => ⟨hk.2, ⟨hk.1.1.2, hk.1.2⟩⟩)), (by (with_reducible repeat (first | apply Kd.R_alloc | apply Kd.R_drewN | apply Kd.R_drew)); exact Kd.R_mono HO244.out (fun _ hk => ⟨hk.1.1.2, ⟨hk.1.2, hk.2⟩⟩)), blk_, blk_, blk_, blk_, GW247.out, GE247.out, NB227_247.out, NB247_227.out, NB228_247.out, NB247_228.out, NB229_247.out, NB247_229.out, bel_⟩)
    rintro ⟨v238, v243, gb247⟩ w57 ⟨hS_, h0_, h1_, h2_, h3_, h4_, h5_, h6_, h7_, h8_, h9_, h10_, h11_, h12_, h13_, h14_⟩
    have HO239 : Aside0 (Kd.R k24 24 w57 w.heap.size (fun k_ => some k_ ≠ (v243 : Value).ownBlock ∧ k_ ≠ gb227 ∧ k_ ≠ gb228) v238 t237) := ⟨h0_⟩
    have HO244 : Aside0 (Kd.R k24 24 w57 w.heap.size (fun k_ => some k_ ≠ (v238 : Value).ownBlock ∧ k_ ≠ gb227 ∧ k_ ≠ gb228) v243 t242) := ⟨h1_⟩
    replace BK227 : Aside0 (w57.heap[gb227]? = some (.cells #[.int .i64 a0_0, .int .i64 a0_1] 24 (0, 0))) := ⟨h2_⟩
    replace BK228 : Aside0 (w57.heap[gb228]? = some (.cells #[.int .i64 a1_0, .int .i64 a1_1] 24 (0, 0))) := ⟨h3_⟩
    replace BK229 : Aside0 (w57.heap[gb229]? = some (.cells #[.slice A2_0 l2_0.length c2_0, .slice A2_1 l2_1.length c2_1] 44 (0, 0))) := ⟨h4_⟩
    have BK247 : Aside0 (w57.heap[gb247]? = some (.cells #[.slice none 0 0, .int .i64 0, .int .i64 0] 26 (0, 0))) := ⟨h5_⟩
    have GW247 : Aside0 (w.heap.size ≤ gb247) := ⟨h6_⟩
    have GE247 : Aside0 (w.heap.size ≤ gb247) := ⟨h7_⟩
    have NB227_247 : Aside0 (gb227 ≠ gb247) := ⟨h8_⟩
    have NB247_227 : Aside0 (gb247 ≠ gb227) := ⟨h9_⟩
    have NB228_247 : Aside0 (gb228 ≠ gb247) := ⟨h10_⟩
    have NB247_228 : Aside0 (gb247 ≠ gb228) := ⟨h11_⟩
    have NB229_247 : Aside0 (gb229 ≠ gb247) := ⟨h12_⟩
    have NB247_229 : Aside0 (gb247 ≠ gb229) := ⟨h13_⟩
    replace HB : Aside0 (Below w.heap.size w w57) := ⟨h14_⟩
    clear h0_ h1_ h2_ h3_ h4_ h5_ h6_ h7_ h8_ h9_ h10_ h11_ h12_ h13_ h14_
    have hHeld : w57.cell? ⟨gb227, 0, none⟩ = some (.int .i64 a0_0) ∧ w57.cell? ⟨gb227, 1, none⟩ = some (.int .i64 a0_1) ∧ w57.cell? ⟨gb228, 0, none⟩ = some (.int .i64 a1_0) ∧ w57.cell? ⟨gb228, 1, none⟩ = some (.int .i64 a1_1) := hS_
    obtain ⟨Ao58, co58, eo58⟩ := Kd.R_slice HO244.out
    (first | subst eo58 | (injection eo58 with f1_ f2_ f3_; have f4_ := f1_.symm; have f5_ := f3_.symm; clear f1_ f2_ f3_; subst f4_; subst f5_))
    refine norm_ (a' := ?_) ?_ ?_
    rotate_left
    · simp only [putAll, Act.put, zS, zZ, zC]
      rfl
    refine one_ (i := 7) (N := none) #[T_, T_, T_, T_, T_, T_, T_, T_] rfl rfl (one_of HT_.out (by kernel_rfl)) (by decide) (fun K hK => ?_)
    have hs59 : w57.cell? ⟨gb247, 0, none⟩ = some (.slice none 0 0) := (zL BK247.out 0).trans rfl
    have hfs59 := zF BK247.out 0
    have hns59_0 := NB227_247.out
    have hns59_1 := NB228_247.out
    have hns59_2 := NB229_247.out
    have hms59_0 := NB247_227.out
    have hms59_1 := NB247_228.out
    have hms59_2 := NB247_229.out
    have hs60 : w57.cell? ⟨gb247, 1, none⟩ = some (.int .i64 0) := (zL BK247.out 1).trans rfl
    have hfs60 := zF BK247.out 1
    have hns60_0 := NB227_247.out
    have hns60_1 := NB228_247.out
    have hns60_2 := NB229_247.out
    have hms60_0 := NB247_227.out
    have hms60_1 := NB247_228.out
    have hms60_2 := NB247_229.out
    have hs61 : w57.cell? ⟨gb247, 2, none⟩ = some (.int .i64 0) := (zL BK247.out 2).trans rfl
    have hfs61 := zF BK247.out 2
    have hns61_0 := NB227_247.out
    have hns61_1 := NB228_247.out
    have hns61_2 := NB229_247.out
    have hms61_0 := NB247_227.out
    have hms61_1 := NB247_228.out
    have hms61_2 := NB247_229.out
    refine skip_ (w1 := ?_) (by rfl) rfl ?_ ?_
    rotate_left
    · go_simp
      rfl
    refine hK.out _ _ ⟨((cell_far (p := ⟨gb247, _, none⟩) NB227_247.out _).trans (((cell_far (p := ⟨gb247, _, none⟩) NB227_247.out _).trans (((cell_far (p := ⟨gb247, _, none⟩) NB227_247.out _).trans (hHeld.1)))))), ((cell_far (p := ⟨gb247, _, none⟩) NB227_247.out _).trans (((cell_far (p := ⟨gb247, _, none⟩) NB227_247.out _).trans (((cell_far (p := ⟨gb247, _, none⟩) NB227_247.out _).trans (hHeld.2.1)))))), ((cell_far (p := ⟨gb247, _, none⟩) NB228_247.out _).trans (((cell_far (p := ⟨gb247, _, none⟩) NB228_247.out _).trans (((cell_far (p := ⟨gb247, _, none⟩) NB228_247.out _).trans (hHeld.2.2.1)))))), ((cell_far (p := ⟨gb247, _, none⟩) NB228_247.out _).trans (((cell_far (p := ⟨gb247, _, none⟩) NB228_247.out _).trans (((cell_far (p := ⟨gb247, _, none⟩) NB228_247.out _).trans (hHeld.2.2.2))))))⟩ (fun hHeld => ?_)
    clear hK K
    refine done_ (done_of HT_.out (by kernel_rfl)) ?_
    try go_wp2_with (first | ((with_reducible refine gate_dst (N := 57) rfl ?_); (try (refine gate_guard (by rfl) ?_; dsimp only)); refine Kd.R_lit k24 _ 24 ?hg (N := 57) ?hd (xs := ([] : List (S24))) (inner := []) (ok := fun _ => True) (okp := fun _ => True) ?hr ?hp (fun _ hk => hk) trivial (Below.refl _ _) (Nat.le_refl _) (by simp) ?_; (case hd => rfl); (case hg => rfl); (case hr => first | (go_simp; done) | (go_simp; rfl)); (case hp => exact (Reps.none _ _)); intro v249 w62 ho63 hb hg_ hnew_; clear hg_ hnew_; (first | rw [← Ny248.out] at ho63 | (simp only [Int.reduceToNat] at ho63; rw [← Ny248.out] at ho63)); have n0_ := zM (Kd.R_elder' (by (with_reducible repeat (first | apply Kd.R_alloc | apply Kd.R_drewN | apply Kd.R_drew)); exact (Kd.R_mono (Kd.R_far (p := ⟨gb247, 2, none⟩) (Kd.R_far (p := ⟨gb247, 1, none⟩) (Kd.R_far (p := ⟨gb247, 0, none⟩) (Kd.R_types HO239.out BK247.out (by decide)) (fun _ hk => hk.2) (.slice Ao58 t242.length co58)) (fun _ hk => hk.2) (.int .i64 t245)) (fun _ hk => hk.2) (.int .i64 t246)) (fun _ h_ => h_.1))) (Kd.R_base ho63) hb); have n1_ := zM (Kd.R_elder' (by (with_reducible repeat (first | apply Kd.R_alloc | apply Kd.R_drewN | apply Kd.R_drew)); exact (Kd.R_mono (Kd.R_far (p := ⟨gb247, 2, none⟩) (Kd.R_far (p := ⟨gb247, 1, none⟩) (Kd.R_far (p := ⟨gb247, 0, none⟩) (Kd.R_types HO244.out BK247.out (by decide)) (fun _ hk => hk.2) (.slice Ao58 t242.length co58)) (fun _ hk => hk.2) (.int .i64 t245)) (fun _ hk => hk.2) (.int .i64 t246)) (fun _ h_ => h_.1))) (Kd.R_base ho63) hb); have n2_ := zM (Kd.R_lower (Kd.R_newB (Kd.R_newB (Kd.R_new' (Kd.R_new' ho63 (Kd.R_lt (by (with_reducible repeat (first | apply Kd.R_alloc | apply Kd.R_drewN | apply Kd.R_drew)); exact (Kd.R_mono (Kd.R_far (p := ⟨gb247, 2, none⟩) (Kd.R_far (p := ⟨gb247, 1, none⟩) (Kd.R_far (p := ⟨gb247, 0, none⟩) (Kd.R_types HO239.out BK247.out (by decide)) (fun _ hk => hk.2) (.slice Ao58 t242.length co58)) (fun _ hk => hk.2) (.int .i64 t245)) (fun _ hk => hk.2) (.int .i64 t246)) (fun _ h_ => h_.1))))) (Kd.R_lt (by (with_reducible repeat (first | apply Kd.R_alloc | apply Kd.R_drewN | apply Kd.R_drew)); exact (Kd.R_mono (Kd.R_far (p := ⟨gb247, 2, none⟩) (Kd.R_far (p := ⟨gb247, 1, none⟩) (Kd.R_far (p := ⟨gb247, 0, none⟩) (Kd.R_types HO244.out BK247.out (by decide)) (fun _ hk => hk.2) (.slice Ao58 t242.length co58)) (fun _ hk => hk.2) (.int .i64 t245)) (fun _ hk => hk.2) (.int .i64 t246)) (fun _ h_ => h_.1))))) (g := gb227) (o := .cells #[.int .i64 a0_0, .int .i64 a0_1] 24 (0, 0)) blf_) (g := gb228) (o := .cells #[.int .i64 a1_0, .int .i64 a1_1] 24 (0, 0)) blf_) (below_size bel_)); have n3_ := zM (blk_below (g := gb227) (o := .cells #[.int .i64 a0_0, .int .i64 a0_1] 24 (0, 0)) blf_ hb); have n4_ := zM (blk_below (g := gb228) (o := .cells #[.int .i64 a1_0, .int .i64 a1_1] 24 (0, 0)) blf_ hb); have n5_ := zM (blk_below (g := gb229) (o := .cells #[.slice A2_0 l2_0.length c2_0, .slice A2_1 l2_1.length c2_1] 44 (0, 0)) blf_ hb); have n6_ := zM (blk_below (g := gb247) (o := .cells #[.slice Ao58 t242.length co58, .int .i64 t245, .int .i64 t246] 26 (0, 0)) (by (with_reducible repeat (first | refine zN ?_ _ | refine zD ?_ | refine zA ?_ _)); refine blk_put (cs := #[.slice Ao58 t242.length co58, .int .i64 t245, .int .i64 0]) ?_ 2 _ rfl; (with_reducible repeat (first | refine zN ?_ _ | refine zD ?_ | refine zA ?_ _)); refine blk_put (cs := #[.slice Ao58 t242.length co58, .int .i64 0, .int .i64 0]) ?_ 1 _ rfl; (with_reducible repeat (first | refine zN ?_ _ | refine zD ?_ | refine zA ?_ _)); refine blk_put (cs := #[.slice none 0 0, .int .i64 0, .int .i64 0]) ?_ 0 _ rfl; (with_reducible repeat (first | refine zN ?_ _ | refine zD ?_ | refine zA ?_ _)); exact BK247.out) hb); have n7_ := zM (zB bel_ hb); clear HO239; clear HO244; clear BK227; clear BK228; clear BK229; clear BK247; clear HB; have HO239 := n0_; have HO244 := n1_; have HO250 := n2_; have BK227 := n3_; have BK228 := n4_; have BK229 := n5_; have BK247 := n6_; have HB := n7_; clear n0_ n1_ n2_ n3_ n4_ n5_ n6_ n7_; clear hb ho63))
    go_loopg [10, 11] kj5 (fun kq v10 v11 w' => ∃ (x10_2 : List (S24)) (x11_2 : Int), v11 = .int .i64 x11_2 ∧ Aside0 (ropewaylaw16_FrontTurns.l0 kq l2_1 x10_2 x11_2 t242 t245 t246 = some r) ∧ Aside0 (kq ≤ kj5) ∧ Aside0 (Kd.R k24 24 w' w.heap.size (fun k_ => some k_ ≠ ((.slice Ao58 t242.length co58) : Value).ownBlock ∧ k_ ≠ gb227 ∧ k_ ≠ gb228) v10 x10_2) ∧ Aside0 (Kd.R k24 24 w' w.heap.size (fun k_ => some k_ ≠ (v10 : Value).ownBlock ∧ k_ ≠ gb227 ∧ k_ ≠ gb228) (.slice Ao58 t242.length co58) t242) ∧ Aside0 (w'.heap[gb227]? = some (.cells #[.int .i64 a0_0, .int .i64 a0_1] 24 (0, 0))) ∧ Aside0 (w'.heap[gb228]? = some (.cells #[.int .i64 a1_0, .int .i64 a1_1] 24 (0, 0))) ∧ Aside0 (w'.heap[gb229]? = some (.cells #[(.slice A2_0 l2_0.length c2_0), (.slice A2_1 l2_1.length c2_1)] 44 (0, 0))) ∧ Aside0 (w'.heap[gb247]? = some (.cells #[(.slice Ao58 t242.length co58), .int .i64 t245, .int .i64 t246] 26 (0, 0))) ∧ Aside0 (Below w.heap.size w w'))
    case atStart => exact ⟨(y248), (wrap64 ((l2_1.length : Int) - 1)), (by first | rfl | (simp; done) | (simp [*]; done) | (simp; grind)), H', ⟨Nat.le_refl _⟩, ⟨by (with_reducible repeat (first | apply Kd.R_alloc | apply Kd.R_drewN | apply Kd.R_drew)); exact Kd.R_mono HO250.out (fun _ hk => ⟨hk.1.1.2, ⟨hk.1.2, hk.2⟩⟩)⟩, ⟨by (with_reducible repeat (first | apply Kd.R_alloc | apply Kd.R_drewN | apply Kd.R_drew)); exact Kd.R_mono HO244.out (fun _ hk => ⟨hk.2, ⟨hk.1.2.1, hk.1.2.2⟩⟩)⟩, ⟨blf_⟩, ⟨blf_⟩, ⟨blf_⟩, ⟨blf_⟩, ⟨bel_⟩⟩
    case round =>
     clear H'
     try clear c1
     try clear c2
     try clear p2
     try clear c3
     try clear c4
     try clear c5
     try clear p6
     try clear c7
     try clear c8
     try clear c12
     try clear c12b0
     try clear c12b1
     try clear c13
     try clear c13b0
     try clear c13b1
     try clear c14
     try clear c15
     try clear c17
     try clear c19
     try clear c20
     try clear c22
     try clear c30
     try clear c31
     try clear c33
     try clear c40
     try clear c41
     try clear c43
     try clear c49
     try clear hcz21_0
     try clear hcz21_1
     try clear hcz23_0
     try clear hcz23_1
     try clear hcz32_0
     try clear hcz32_1
     try clear hcz34_0
     try clear hcz34_1
     try clear hcz42_0
     try clear hcz42_1
     try clear hcz44_0
     try clear hcz44_1
     try clear hfz21_0
     try clear hfz21_1
     try clear hfz23_0
     try clear hfz23_1
     try clear hfz32_0
     try clear hfz32_1
     try clear hfz34_0
     try clear hfz34_1
     try clear hfz42_0
     try clear hfz42_1
     try clear hfz44_0
     try clear hfz44_1
     try clear p2
     obtain ⟨x10_2, x11_2, rfl, HA, HK2, HO_10, HO_248000, BK227, BK228, BK229, BK247, HB⟩ := hrel
     cases gk with
     | zero => exact absurd HA.out (by simp [ropewaylaw16_FrontTurns.l0])
     | succ k2 =>
      have H := HA.out
      clear HA
      simp only [ropewaylaw16_FrontTurns.l0] at H
      by_cases c64 : x11_2 ≥ 0
      · rw [if_pos c64] at H
        have c64b0 : decide (0 ≤ x11_2) = true := decide_eq_true c64
        clear c64
        by_cases c65 : 0 ≤ x11_2
        rotate_left
        · rw [if_neg c65] at H
          exact absurd H (by simp)
        rw [if_pos c65] at H
        have c65b0 : decide (0 ≤ x11_2) = true := decide_eq_true c65
        clear c65
        by_cases c66 : x11_2 < (l2_1.length : Int)
        rotate_left
        · rw [if_neg c66] at H
          exact absurd H (by simp)
        rw [if_pos c66] at H
        have c66b0 : decide (x11_2 < (l2_1.length : Int)) = true := decide_eq_true c66
        clear c66
        obtain ⟨y253, hy253⟩ : ∃ y_ : List (S24), y_ = (([(⟨(rd_T24 l2_1 x11_2).f0, (rd_T24 l2_1 x11_2).f1⟩ : S24), (⟨(rd_T24 l2_1 x11_2).f0, (rd_T24 l2_1 x11_2).f1⟩ : S24)] : List (S24))) := ⟨_, rfl⟩
        replace H : (if x10_2.length + y253.length < 8796093022208 then (ropewaylaw16_FrontTurns.l0 k2 l2_1 (x10_2 ++ y253) (wrap64 (x11_2 - 1)) t242 t245 t246) else (none)) = some r := by first | (rw [hy253]; with_reducible exact H) | (have H2_ := (Option.bind_some _ _).symm.trans H; rw [hy253]; with_reducible exact H2_) | (have H2_ := (Option.bind_some _ _).symm.trans H; with_reducible exact H2_) | with_reducible exact H | (rw [hy253]; exact H) | exact H
        have Ny253 := zM hy253
        clear hy253
        by_cases c67 : x10_2.length + y253.length < 8796093022208
        rotate_left
        · rw [if_neg c67] at H
          exact absurd H (by simp)
        rw [if_pos c67] at H
        have LMc67 := zM c67
        clear c67
        obtain ⟨y256, hy256⟩ : ∃ y_ : List (S24), y_ = (x10_2 ++ y253) := ⟨_, rfl⟩
        replace H : (ropewaylaw16_FrontTurns.l0 k2 l2_1 y256 (wrap64 (x11_2 - 1)) t242 t245 t246) = some r := by first | (rw [hy256]; with_reducible exact H) | (have H2_ := (Option.bind_some _ _).symm.trans H; rw [hy256]; with_reducible exact H2_) | (have H2_ := (Option.bind_some _ _).symm.trans H; with_reducible exact H2_) | with_reducible exact H | (rw [hy256]; exact H) | exact H
        have Ny256 := zM hy256
        clear hy256
        have H' := zM H
        clear H
        try go_wp2
        replace HO_10 := zM (Kd.R_drew HO_10.out)
        replace HO_248000 := zM (Kd.R_drew HO_248000.out)
        replace BK227 := zM (zD BK227.out)
        replace BK228 := zM (zD BK228.out)
        replace BK229 := zM (zD BK229.out)
        replace BK247 := zM (zD BK247.out)
        replace HB := zM (below_drew1 HB.out)
        have p251 : 0 ≤ (x11_2 : Int) := of_decide_eq_true (by first | (with_reducible assumption) | assumption)
        have q251 : x11_2 < (l2_1.length : Int) := of_decide_eq_true (by first | (with_reducible assumption) | assumption)
        obtain ⟨ad251, e251, hx251_0, hx251_1⟩ := at_T24 HR2_1.out x11_2 p251 q251
        have hw251_1 := hx251_1
        have hw251_0 := hx251_0
        cases e251
        replace hx251_0 := (HB.out.cell (World.block_lt_of_cell? w _ hx251_0)).trans hx251_0
        replace hx251_1 := (HB.out.cell (World.block_lt_of_cell? w _ hx251_1)).trans hx251_1
        replace p251 := eq_true p251
        replace q251 := eq_true q251
        have p252 : 0 ≤ (x11_2 : Int) := of_decide_eq_true (by first | (with_reducible assumption) | assumption)
        have q252 : x11_2 < (l2_1.length : Int) := of_decide_eq_true (by first | (with_reducible assumption) | assumption)
        obtain ⟨ad252, e252, hx252_0, hx252_1⟩ := at_T24 HR2_1.out x11_2 p252 q252
        have hw252_1 := hx252_1
        have hw252_0 := hx252_0
        obtain rfl : ad251 = ad252 := (by injection e252)
        replace hx252_0 := (HB.out.cell (World.block_lt_of_cell? w _ hx252_0)).trans hx252_0
        replace hx252_1 := (HB.out.cell (World.block_lt_of_cell? w _ hx252_1)).trans hx252_1
        replace p252 := eq_true p252
        replace q252 := eq_true q252
        refine start_ (n := 12) (S := fun w' => w'.cell? (ad251.add ((x11_2).toNat * 2)) = some (.int .i64 ((rd_T24 l2_1 x11_2).f0)) ∧ w'.cell? ⟨(ad251.add ((x11_2).toNat * 2)).block, (ad251.add ((x11_2).toNat * 2)).off + 1, none⟩ = some (.int .i64 ((rd_T24 l2_1 x11_2).f1)) ∧ w'.cell? (ad251.add ((x11_2).toNat * 2)) = some (.int .i64 ((rd_T24 l2_1 x11_2).f0)) ∧ w'.cell? ⟨(ad251.add ((x11_2).toNat * 2)).block, (ad251.add ((x11_2).toNat * 2)).off + 1, none⟩ = some (.int .i64 ((rd_T24 l2_1 x11_2).f1))) (ds := []) #[F_, F_, F_, F_, F_, F_, F_, F_, F_, F_, F_, F_] (by kernel_rfl) rfl rfl ⟨(hb_ HB hw251_0), (hb_ HB hw251_1), (hb_ HB hw252_0), (hb_ HB hw252_1)⟩ (fun hHeld => ?_); refine with_tabW ropewaylaw16_FrontTurns.tab11 ropewaylaw16_FrontTurns.bits11 (fun HT_ HW_ => ?_)
        generalize wr.drew = w68 at HO_10 HO_248000 BK227 BK228 BK229 BK247 HB hx251_0 hx251_1 hx252_0 hx252_1 hHeld ⊢
        refine pure_ (i := 0) (N := some 65) (v := ?_) (a' := ?_) #[T_, F_, F_, F_, F_, F_, F_, F_, F_, F_, F_, F_] rfl rfl (any_of HT_.out (by kernel_rfl)) (fun _ _ _ h => h) (Or.inl ⟨by rfl, ?_⟩) ?_ ?_
        rotate_left
        · intro w'
          go_simp
          with_reducible rfl
        rotate_left
        · simp only [Act.put, zS, zZ, zC, i64_w, i32_w]
          rfl
        refine pure_ (i := 1) (N := some 66) (v := ?_) (a' := ?_) #[T_, T_, F_, F_, F_, F_, F_, F_, F_, F_, F_, F_] rfl rfl (any_of HT_.out (by kernel_rfl)) (fun _ _ _ h => h) (Or.inl ⟨by rfl, ?_⟩) ?_ ?_
        rotate_left
        · intro w'
          go_simp
          with_reducible rfl
        rotate_left
        · simp only [Act.put, zS, zZ, zC, i64_w, i32_w]
          rfl
        refine pure_ (i := 2) (N := some 67) (v := ?_) (a' := ?_) #[T_, T_, T_, F_, F_, F_, F_, F_, F_, F_, F_, F_] rfl rfl (any_of HT_.out (by kernel_rfl)) (fun _ _ _ h => h) (Or.inl ⟨by rfl, ?_⟩) ?_ ?_
        rotate_left
        · intro w'
          go_simp
          with_reducible rfl
        rotate_left
        · simp only [Act.put, zS, zZ, zC, i64_w, i32_w]
          rfl
        refine pure_ (i := 3) (N := some 68) (v := ?_) (a' := ?_) #[T_, T_, T_, T_, F_, F_, F_, F_, F_, F_, F_, F_] rfl rfl (any_of HT_.out (by kernel_rfl)) (fun _ _ _ h => h) (Or.inl ⟨by rfl, ?_⟩) ?_ ?_
        rotate_left
        · intro w'
          go_simp
          with_reducible rfl
        rotate_left
        · simp only [Act.put, zS, zZ, zC, i64_w, i32_w]
          rfl
        refine pure_ (i := 5) (N := some 70) (v := ?_) (a' := ?_) #[T_, T_, T_, T_, F_, T_, F_, F_, F_, F_, F_, F_] rfl rfl (any_of HT_.out (by kernel_rfl)) (fun _ _ _ h => h) (Or.inl ⟨by rfl, ?_⟩) ?_ ?_
        rotate_left
        · intro w'
          go_simp
          with_reducible rfl
        rotate_left
        · simp only [Act.put, zS, zZ, zC, i64_w, i32_w]
          rfl
        refine pure_ (i := 6) (N := some 71) (v := ?_) (a' := ?_) #[T_, T_, T_, T_, F_, T_, T_, F_, F_, F_, F_, F_] rfl rfl (any_of HT_.out (by kernel_rfl)) (fun _ _ _ h => h) (Or.inl ⟨by rfl, ?_⟩) ?_ ?_
        rotate_left
        · intro w'
          go_simp
          with_reducible rfl
        rotate_left
        · simp only [Act.put, zS, zZ, zC, i64_w, i32_w]
          rfl
        refine pure_ (i := 7) (N := some 72) (v := ?_) (a' := ?_) #[T_, T_, T_, T_, F_, T_, T_, T_, F_, F_, F_, F_] rfl rfl (any_of HT_.out (by kernel_rfl)) (fun _ _ _ h => h) (Or.inl ⟨by rfl, ?_⟩) ?_ ?_
        rotate_left
        · intro w'
          go_simp
          with_reducible rfl
        rotate_left
        · simp only [Act.put, zS, zZ, zC, i64_w, i32_w]
          rfl
        refine take_ (i := 4) (N := some 69) (v := ?_) (a' := ?_) #[T_, T_, T_, T_, T_, T_, T_, T_, F_, F_, F_, F_] rfl rfl (take_ofW HT_.out HW_.out (by kernel_rfl)) (fun _ _ _ h => h) (Or.inl ⟨by rfl, ?_⟩) hHeld ?_ ?_
        rotate_left
        · rintro w' ⟨s0, s1, s2, s3⟩
          go_simp
          with_reducible rfl
        rotate_left
        · simp only [Act.put, zS, zZ, zC, i64_w, i32_w]
          rfl
        refine take_ (i := 8) (N := some 73) (v := ?_) (a' := ?_) #[T_, T_, T_, T_, T_, T_, T_, T_, T_, F_, F_, F_] rfl rfl (take_ofW HT_.out HW_.out (by kernel_rfl)) (fun _ _ _ h => h) (Or.inl ⟨by rfl, ?_⟩) hHeld ?_ ?_
        rotate_left
        · rintro w' ⟨s0, s1, s2, s3⟩
          go_simp
          with_reducible rfl
        rotate_left
        · simp only [Act.put, zS, zZ, zC, i64_w, i32_w]
          rfl
        refine one_ (i := 9) (N := some 74) #[T_, T_, T_, T_, T_, T_, T_, T_, T_, T_, F_, F_] rfl rfl (one_of HT_.out (by kernel_rfl)) (by decide) (fun K hK => ?_)
        refine Kd.R_lit_step k24 _ 24 ?hg (N := 74) ?hd (xs := ([(⟨(rd_T24 l2_1 x11_2).f0, (rd_T24 l2_1 x11_2).f1⟩ : S24), (⟨(rd_T24 l2_1 x11_2).f0, (rd_T24 l2_1 x11_2).f1⟩ : S24)] : List (S24))) (inner := [.int .i64 ((rd_T24 l2_1 x11_2).f0), .int .i64 ((rd_T24 l2_1 x11_2).f1), .int .i64 ((rd_T24 l2_1 x11_2).f0), .int .i64 ((rd_T24 l2_1 x11_2).f1)]) (ok := fun _ => True) (okp := fun _ => True) ?hr ?hp (fun _ hk => hk) trivial (Below.refl _ _) (Nat.le_refl _) (by simp) ?_; (case hd => rfl); (case hg => rfl); (case hr => first | (go_simp; done) | (go_simp; rfl)); (case hp => exact (Reps.c2 (show Kd.M k24 _ _ _ (⟨(rd_T24 l2_1 x11_2).f0, (rd_T24 l2_1 x11_2).f1⟩ : S24) [.int .i64 ((rd_T24 l2_1 x11_2).f0), .int .i64 ((rd_T24 l2_1 x11_2).f1)] from (k24_mkM _ _ _ (⟨(rd_T24 l2_1 x11_2).f0, (rd_T24 l2_1 x11_2).f1⟩ : S24) )) (Reps.c2 (show Kd.M k24 _ _ _ (⟨(rd_T24 l2_1 x11_2).f0, (rd_T24 l2_1 x11_2).f1⟩ : S24) [.int .i64 ((rd_T24 l2_1 x11_2).f0), .int .i64 ((rd_T24 l2_1 x11_2).f1)] from (k24_mkM _ _ _ (⟨(rd_T24 l2_1 x11_2).f0, (rd_T24 l2_1 x11_2).f1⟩ : S24) )) (Reps.none _ _))))
        intro v254 w69 ho70 hb hg_ hnew_
        clear hg_ hnew_
        (first | rw [← Ny253.out] at ho70 | (simp only [Int.reduceToNat] at ho70; rw [← Ny253.out] at ho70))
        have HO255 := zM (Kd.R_lower (Kd.R_newB (Kd.R_newB (Kd.R_new' (Kd.R_new' ho70 (Kd.R_lt (rl_ HO_10))) (Kd.R_lt (rl_ HO_248000))) (g := gb227) (o := .cells #[.int .i64 a0_0, .int .i64 a0_1] 24 (0, 0)) blk_) (g := gb228) (o := .cells #[.int .i64 a1_0, .int .i64 a1_1] 24 (0, 0)) blk_) (below_size bel_))
        replace HO_10 := zM (Kd.R_elder' (rl_ HO_10) (Kd.R_base ho70) hb)
        replace HO_248000 := zM (Kd.R_elder' (rl_ HO_248000) (Kd.R_base ho70) hb)
        replace BK227 := zM (bb_ BK227 hb)
        replace BK228 := zM (bb_ BK228 hb)
        replace BK229 := zM (bb_ BK229 hb)
        replace BK247 := zM (bb_ BK247 hb)
        replace HB := zM (zB bel_ hb)
        clear hb ho70
        obtain ⟨Ao72, co72, eo72⟩ := Kd.R_slice HO255.out
        (first | subst eo72 | (injection eo72 with f1_ f2_ f3_; have f4_ := f1_.symm; have f5_ := f3_.symm; clear f1_ f2_ f3_; subst f4_; subst f5_))
        refine hK.out _ _ ⟨(hb_ HB hw251_0), (hb_ HB hw251_1), (hb_ HB hw252_0), (hb_ HB hw252_1)⟩ (fun hHeld => ?_)
        clear hK K
        refine norm_ (a' := ?_) ?_ ?_
        rotate_left
        · show Act.put _ (some 74) _ = _
          simp only [Act.put, zS, zZ, zC, i64_w, i32_w]
          rfl
        refine one_ (i := 10) (N := some 75) #[T_, T_, T_, T_, T_, T_, T_, T_, T_, T_, T_, F_] rfl rfl (one_of HT_.out (by kernel_rfl)) (by decide) (fun K hK => ?_)
        refine Kd.R_append_rows_step k24 (w0 := w) w.heap.size (by rfl) (.tmp 65) (.tmp 74) 22 24 (.agg #[(.int .i64 0), (.int .i64 0)]) 16 rfl Try.underlying22 info24 rfl (by decide) (by omega) u10 x10_2 y253 _ _ _ (fun k_ => some k_ ≠ (.slice Ao58 t242.length co58 : Value).ownBlock ∧ some k_ ≠ (.slice Ao72 y253.length co72 : Value).ownBlock ∧ k_ ≠ gb227 ∧ k_ ≠ gb228) (fun _ => False) rfl rfl ?aO ?aR (fun _ _ h => h) (fun _ h => h.elim) ?aF ?aB ?aS ?aL ?_
        (case aR => repeat (first | exact (Kd.R_reads' HO255.out).2.2 | (with_reducible refine Kd.C_alloc ?_ _) | (with_reducible refine Kd.C_drewN ?_ _) | (with_reducible refine Kd.C_drew ?_)))
        (case aB => exact bel_)
        (case aF => exact (fun k_ hk => ⟨Kd.fresh' (Kd.R_lt (rl_ HO_248000)) k_ hk, Kd.fresh' (Kd.R_lt (rl_ HO255)) k_ hk, Kd.freshB (g := gb227) (o := .cells #[.int .i64 a0_0, .int .i64 a0_1] 24 (0, 0)) blk_ k_ hk, Kd.freshB (g := gb228) (o := .cells #[.int .i64 a1_0, .int .i64 a1_1] 24 (0, 0)) blk_ k_ hk⟩))
        (case aO => exact (by (with_reducible repeat (first | apply Kd.R_alloc | apply Kd.R_drewN | apply Kd.R_drew)); exact Kd.R_mono HO_10.out (fun _ hk => ⟨hk.1.1, ⟨hk.2, ⟨hk.1.2.1, hk.1.2.2⟩⟩⟩)))
        (case aS => exact (below_size bel_))
        (case aL => have := LMc67.out; omega)
        intro v257 w71 ho hb hg hat
        rw [← Ny256.out] at ho
        have n0_ := zM (Kd.R_after (ok := (fun k_ => some k_ ≠ (.slice Ao72 y253.length co72 : Value).ownBlock ∧ k_ ≠ gb227 ∧ k_ ≠ gb228)) (by (with_reducible repeat (first | apply Kd.R_alloc | apply Kd.R_drewN | apply Kd.R_drew)); exact Kd.R_mono HO_248000.out (fun _ hk => ⟨⟨hk.2, ⟨hk.1.2.1, hk.1.2.2⟩⟩, hk.1.1⟩)) hg hat)
        have n1_ := zM (blk_grown (g := gb227) (o := .cells #[.int .i64 a0_0, .int .i64 a0_1] 24 (0, 0)) blk_ hg (Kd.R_away HO_10.out (fun _ hk => hk.1.2.1)))
        have n2_ := zM (blk_grown (g := gb228) (o := .cells #[.int .i64 a1_0, .int .i64 a1_1] 24 (0, 0)) blk_ hg (Kd.R_away HO_10.out (fun _ hk => hk.1.2.2)))
        have n3_ := zM (blk_grown (g := gb229) (o := .cells #[.slice A2_0 l2_0.length c2_0, .slice (some ad251) l2_1.length c2_1] 44 (0, 0)) blk_ hg (Kd.R_ne HO_10.out BK229.out (by decide)))
        have n4_ := zM (blk_grown (g := gb247) (o := .cells #[.slice Ao58 t242.length co58, .int .i64 t245, .int .i64 t246] 26 (0, 0)) blk_ hg (Kd.R_ne HO_10.out BK247.out (by decide)))
        have n5_ := zM (Kd.R_after (ok := (fun k_ => some k_ ≠ (.slice Ao58 t242.length co58 : Value).ownBlock ∧ k_ ≠ gb227 ∧ k_ ≠ gb228)) (by (with_reducible repeat (first | apply Kd.R_alloc | apply Kd.R_drewN | apply Kd.R_drew)); exact Kd.R_mono HO255.out (fun _ hk => ⟨⟨hk.1.1.2, ⟨hk.1.2, hk.2⟩⟩, hk.1.1.1.2⟩)) hg hat)
        have n6_ := zM (hb)
        have n7_ := zM (ho)
        clear HO_248000
        clear BK227
        clear BK228
        clear BK229
        clear BK247
        clear HO255
        clear HB
        clear HO_10
        have HO_248000 := n0_
        have BK227 := n1_
        have BK228 := n2_
        have BK229 := n3_
        have BK247 := n4_
        have HO255 := n5_
        have HB := n6_
        have HO258 := n7_
        clear n0_ n1_ n2_ n3_ n4_ n5_ n6_ n7_
        clear ho hb hg hat
        refine hK.out _ _ ⟨(hb_ HB hw251_0), (hb_ HB hw251_1), (hb_ HB hw252_0), (hb_ HB hw252_1)⟩ (fun hHeld => ?_)
        clear hK K
        refine norm_ (a' := ?_) ?_ ?_
        rotate_left
        · show Act.put _ (some 75) _ = _
          simp only [Act.put, zS, zZ, zC, i64_w, i32_w]
          rfl
        refine pure_ (i := 11) (N := some 10) (v := ?_) (a' := ?_) #[T_, T_, T_, T_, T_, T_, T_, T_, T_, T_, T_, T_] rfl rfl (any_of HT_.out (by kernel_rfl)) (fun _ _ _ h => h) (Or.inl ⟨by rfl, ?_⟩) ?_ ?_
        rotate_left
        · intro w'
          go_simp
          with_reducible rfl
        rotate_left
        · simp only [Act.put, zS, zZ, zC, i64_w, i32_w]
          rfl
        refine done_ (done_of HT_.out (by kernel_rfl)) ?_
        try go_wp2
        go_roundg k2
        case measure => have := HJ5.out; have := HK2.out; omega
        case rel => exact ⟨(y256), (wrap64 (x11_2 - 1)), (by first | rfl | (simp; done) | (simp [*]; done) | (simp; grind)), H', ⟨by have := HJ5.out; have := HK2.out; omega⟩, ⟨by (with_reducible repeat (first | apply Kd.R_alloc | apply Kd.R_drewN | apply Kd.R_drew)); exact Kd.R_mono HO258.out (fun _ hk => ⟨hk.1, ⟨hk.2.2.1, hk.2.2.2⟩⟩)⟩, ⟨by (with_reducible repeat (first | apply Kd.R_alloc | apply Kd.R_drewN | apply Kd.R_drew)); exact Kd.R_mono HO_248000.out (fun _ hk => ⟨hk.2, ⟨hk.1.2.1, hk.1.2.2⟩⟩)⟩, ⟨blf_⟩, ⟨blf_⟩, ⟨blf_⟩, ⟨blf_⟩, ⟨bel_⟩⟩
      rw [if_neg c64] at H
      have c64b0 : decide (0 ≤ x11_2) = false := decide_eq_false c64
      clear c64
      replace H := Option.bind_eq_some_iff.mp H
      obtain ⟨⟨t259, t260⟩, A730, H⟩ := H
      replace H : ((front_Step.f k2 t242 t245 t246 t259 t260 l2_1).bind fun bt262 => ((front_Step.f k2 t242 t245 t246 t259 t260 x10_2).bind fun bt267 => ((ropewayref05_Same.f k2 bt262.1 bt267.1).bind fun t274 => (if t274 = true then (ropewaylaw16_FrontTurns.j2 k2 (!(bt262.2.1 == bt267.2.1) || (!(bt262.2.2 == bt267.2.2))) t242 t245 t246 t259 t260 bt262.1 bt262.2.1 bt262.2.2) else (ropewaylaw16_FrontTurns.j2 k2 true t242 t245 t246 t259 t260 bt262.1 bt262.2.1 bt262.2.2))))) = some r := H
      have A73 := zM A730
      clear A730
      replace H := Option.bind_eq_some_iff.mp H
      obtain ⟨⟨t262, t265, t266⟩, A740, H⟩ := H
      replace H : ((front_Step.f k2 t242 t245 t246 t259 t260 x10_2).bind fun bt267 => ((ropewayref05_Same.f k2 t262 bt267.1).bind fun t274 => (if t274 = true then (ropewaylaw16_FrontTurns.j2 k2 (!(t265 == bt267.2.1) || (!(t266 == bt267.2.2))) t242 t245 t246 t259 t260 t262 t265 t266) else (ropewaylaw16_FrontTurns.j2 k2 true t242 t245 t246 t259 t260 t262 t265 t266)))) = some r := H
      have A74 := zM A740
      clear A740
      replace H := Option.bind_eq_some_iff.mp H
      obtain ⟨⟨t267, t270, t271⟩, A750, H⟩ := H
      replace H : ((ropewayref05_Same.f k2 t262 t267).bind fun t274 => (if t274 = true then (ropewaylaw16_FrontTurns.j2 k2 (!(t265 == t270) || (!(t266 == t271))) t242 t245 t246 t259 t260 t262 t265 t266) else (ropewaylaw16_FrontTurns.j2 k2 true t242 t245 t246 t259 t260 t262 t265 t266))) = some r := H
      have A75 := zM A750
      clear A750
      have HC76 := zM H
      clear H
      have hnb77 := NB247_227.out
      have hnc77 := NB227_247.out
      have hnb78 := NB247_228.out
      have hnc78 := NB228_247.out
      have hnb79 := NB247_229.out
      have hnc79 := NB229_247.out
      have hcz80_0 : wr.cell? ⟨gb247, 0, none⟩ = some (.slice Ao58 t242.length co58) := (zL BK247.out 0).trans rfl
      have hcz80_1 : wr.cell? ⟨gb247, 1, none⟩ = some (.int .i64 t245) := (zL BK247.out 1).trans rfl
      have hcz80_2 : wr.cell? ⟨gb247, 2, none⟩ = some (.int .i64 t246) := (zL BK247.out 2).trans rfl
      have hfz80_0 := zF BK247.out 0
      have hfz80_1 := zF BK247.out 1
      have hfz80_2 := zF BK247.out 2
      try go_wp2_with (first | ((with_reducible refine gate_callee (f := 10) rfl ?_); refine goL_ (some 77) Try.func10 #[.agg #[.slice Ao58 t242.length co58, .int .i64 t245, .int .i64 t246]] ?_; (with_reducible refine (front_Least.calls _ _ t242 t245 t246 t259 t260 _ ?side1 ?side2 A73.out).mono ?_); (case side1 => repeat (first | exact (Kd.R_reads' HO_248000.out).2.2 | (with_reducible refine Kd.C_alloc ?_ _) | (with_reducible refine Kd.C_drewN ?_ _) | (with_reducible refine Kd.C_drew ?_))); (case side2 => exact (Kd.R_reads' HO_248000.out).2.1); rintro e w81 ⟨rfl, hb⟩; refine ⟨_, rfl, ?_⟩; replace HO_10 := zM (Kd.R_below (rl_ HO_10) hb); replace HO_248000 := zM (Kd.R_below (rl_ HO_248000) hb); replace BK227 := zM (bb_ BK227 hb); replace BK228 := zM (bb_ BK228 hb); replace BK229 := zM (bb_ BK229 hb); replace BK247 := zM (bb_ BK247 hb); replace HB := zM (zB bel_ hb); (try clear hb); (try clear hb2); (try clear hk); (try clear hi)) | ((with_reducible refine gate_dst (N := 12) rfl ?_); (try (refine gate_guard (by rfl) ?_; dsimp only)); refine box_event ?hg (N := 12) ?hd (cs := #[.int .i64 0, .int .i64 0]) (t := 24) ?hr ?_; (case hd => rfl); (case hg => rfl); (case hr => first | (go_simp; done) | (go_simp; rfl)); intro gb261 hg w82 hbox hb; replace HO_10 := zM (Kd.R_below (Kd.R_elderB (rl_ HO_10) gb261 (Nat.le_of_eq hg.symm)) hb); replace HO_248000 := zM (Kd.R_below (Kd.R_elderB (rl_ HO_248000) gb261 (Nat.le_of_eq hg.symm)) hb); have BK261 := zM (hbox); have GW261 := zM (bs_ hg); have GE261 := zM (bs_ hg); replace HB := zM (zB bel_ hb); have NB227_261 := zM (nl_ BK227 hg); have NB261_227 := zM (ng_ BK227 hg); replace BK227 := zM (bb_ BK227 hb); have NB228_261 := zM (nl_ BK228 hg); have NB261_228 := zM (ng_ BK228 hg); replace BK228 := zM (bb_ BK228 hb); have NB229_261 := zM (nl_ BK229 hg); have NB261_229 := zM (ng_ BK229 hg); replace BK229 := zM (bb_ BK229 hb); have NB247_261 := zM (nl_ BK247 hg); have NB261_247 := zM (ng_ BK247 hg); replace BK247 := zM (bb_ BK247 hb); clear hb hbox hg; have hnb83 := NB261_227.out; have hnc83 := NB227_261.out; have hnb84 := NB261_228.out; have hnc84 := NB228_261.out; have hnb85 := NB261_229.out; have hnc85 := NB229_261.out; have hnb86 := NB261_247.out; have hnc86 := NB247_261.out; have hcz87_0 : w82.cell? ⟨gb261, 0, none⟩ = some (.int .i64 0) := (zL BK261.out 0).trans rfl; have hcz87_1 : w82.cell? ⟨gb261, 1, none⟩ = some (.int .i64 0) := (zL BK261.out 1).trans rfl; have hfz87_0 := zF BK261.out 0; have hfz87_1 := zF BK261.out 1; obtain ⟨Ao88, co88, eo88⟩ := Kd.R_slice HO_10.out; subst eo88))
      have n0_ : Aside0 (Kd.R k24 24 ((w82.setCell ⟨gb261, 0, none⟩ (.int .i64 t259)).setCell ⟨gb261, 1, none⟩ (.int .i64 t260)) w.heap.size (fun k_ => some k_ ≠ (.slice Ao58 t242.length co58 : Value).ownBlock ∧ k_ ≠ gb227 ∧ k_ ≠ gb228 ∧ k_ ≠ gb261) (.slice Ao88 x10_2.length co88) x10_2) := ⟨by (with_reducible repeat (first | apply Kd.R_alloc | apply Kd.R_drewN | apply Kd.R_drew)); exact Kd.R_mono (Kd.R_far (p := ⟨gb261, 1, none⟩) (Kd.R_far (p := ⟨gb261, 0, none⟩) (Kd.R_mono HO_10.out (fun k_ hk => (⟨hk, hk.2⟩ : _ ∧ k_ ≠ gb261))) (fun _ hk => hk.2) (.int .i64 t259)) (fun _ hk => hk.2) (.int .i64 t260)) (fun _ hk => ⟨hk.1.1.1, ⟨hk.1.1.2.1, ⟨hk.1.1.2.2, hk.1.2⟩⟩⟩)⟩
      have n1_ : Aside0 (Kd.R k24 24 ((w82.setCell ⟨gb261, 0, none⟩ (.int .i64 t259)).setCell ⟨gb261, 1, none⟩ (.int .i64 t260)) w.heap.size (fun k_ => some k_ ≠ (.slice Ao88 x10_2.length co88 : Value).ownBlock ∧ k_ ≠ gb227 ∧ k_ ≠ gb228 ∧ k_ ≠ gb261) (.slice Ao58 t242.length co58) t242) := ⟨by (with_reducible repeat (first | apply Kd.R_alloc | apply Kd.R_drewN | apply Kd.R_drew)); exact Kd.R_mono (Kd.R_far (p := ⟨gb261, 1, none⟩) (Kd.R_far (p := ⟨gb261, 0, none⟩) (Kd.R_mono HO_248000.out (fun k_ hk => (⟨hk, hk.2⟩ : _ ∧ k_ ≠ gb261))) (fun _ hk => hk.2) (.int .i64 t259)) (fun _ hk => hk.2) (.int .i64 t260)) (fun _ hk => ⟨hk.1.1.1, ⟨hk.1.1.2.1, ⟨hk.1.1.2.2, hk.1.2⟩⟩⟩)⟩
      have n2_ : Aside0 (((w82.setCell ⟨gb261, 0, none⟩ (.int .i64 t259)).setCell ⟨gb261, 1, none⟩ (.int .i64 t260)).heap[gb227]? = some (.cells #[.int .i64 a0_0, .int .i64 a0_1] 24 (0, 0))) := ⟨blf_⟩
      have n3_ : Aside0 (((w82.setCell ⟨gb261, 0, none⟩ (.int .i64 t259)).setCell ⟨gb261, 1, none⟩ (.int .i64 t260)).heap[gb228]? = some (.cells #[.int .i64 a1_0, .int .i64 a1_1] 24 (0, 0))) := ⟨blf_⟩
      have n4_ : Aside0 (((w82.setCell ⟨gb261, 0, none⟩ (.int .i64 t259)).setCell ⟨gb261, 1, none⟩ (.int .i64 t260)).heap[gb229]? = some (.cells #[.slice A2_0 l2_0.length c2_0, .slice A2_1 l2_1.length c2_1] 44 (0, 0))) := ⟨blf_⟩
      have n5_ : Aside0 (((w82.setCell ⟨gb261, 0, none⟩ (.int .i64 t259)).setCell ⟨gb261, 1, none⟩ (.int .i64 t260)).heap[gb247]? = some (.cells #[.slice Ao58 t242.length co58, .int .i64 t245, .int .i64 t246] 26 (0, 0))) := ⟨blf_⟩
      have n6_ : Aside0 (((w82.setCell ⟨gb261, 0, none⟩ (.int .i64 t259)).setCell ⟨gb261, 1, none⟩ (.int .i64 t260)).heap[gb261]? = some (.cells #[.int .i64 t259, .int .i64 t260] 24 (0, 0))) := ⟨by (with_reducible repeat (first | refine zN ?_ _ | refine zD ?_ | refine zA ?_ _)); refine blk_put (cs := #[.int .i64 t259, .int .i64 0]) ?_ 1 _ rfl; (with_reducible repeat (first | refine zN ?_ _ | refine zD ?_ | refine zA ?_ _)); refine blk_put (cs := #[.int .i64 0, .int .i64 0]) ?_ 0 _ rfl; (with_reducible repeat (first | refine zN ?_ _ | refine zD ?_ | refine zA ?_ _)); exact BK261.out⟩
      have n7_ : Aside0 (Below w.heap.size w ((w82.setCell ⟨gb261, 0, none⟩ (.int .i64 t259)).setCell ⟨gb261, 1, none⟩ (.int .i64 t260))) := ⟨bel_⟩
      (try clear HO_10)
      (try clear HO_248000)
      (try clear BK227)
      (try clear BK228)
      (try clear BK229)
      (try clear BK247)
      (try clear BK261)
      (try clear HB)
      generalize ((w82.setCell ⟨gb261, 0, none⟩ (.int .i64 t259)).setCell ⟨gb261, 1, none⟩ (.int .i64 t260)) = w89 at n0_ n1_ n2_ n3_ n4_ n5_ n6_ n7_ ⊢
      have HO_10 := n0_
      have HO_248000 := n1_
      have BK227 := n2_
      have BK228 := n3_
      have BK229 := n4_
      have BK247 := n5_
      have BK261 := n6_
      have HB := n7_
      clear n0_ n1_ n2_ n3_ n4_ n5_ n6_ n7_
      replace HO_10 := zM (Kd.R_drew HO_10.out)
      replace HO_248000 := zM (Kd.R_drew HO_248000.out)
      replace BK227 := zM (zD BK227.out)
      replace BK228 := zM (zD BK228.out)
      replace BK229 := zM (zD BK229.out)
      replace BK247 := zM (zD BK247.out)
      replace BK261 := zM (zD BK261.out)
      replace HB := zM (below_drew1 HB.out)
      refine start_ (n := 12) (S := fun w' => w'.cell? ⟨gb247, 0, none⟩ = some (.slice Ao58 t242.length co58) ∧ w'.cell? ⟨gb247, 1, none⟩ = some (.int .i64 t245) ∧ w'.cell? ⟨gb247, 2, none⟩ = some (.int .i64 t246) ∧ w'.cell? ⟨gb261, 0, none⟩ = some (.int .i64 t259) ∧ w'.cell? ⟨gb261, 1, none⟩ = some (.int .i64 t260)) (ds := []) #[F_, F_, F_, F_, F_, F_, F_, F_, F_, F_, F_, F_] (by kernel_rfl) rfl rfl ⟨(zL BK247.out 0).trans rfl, (zL BK247.out 1).trans rfl, (zL BK247.out 2).trans rfl, (zL BK261.out 0).trans rfl, (zL BK261.out 1).trans rfl⟩ (fun hHeld => ?_); refine with_tabW ropewaylaw16_FrontTurns.tab13 ropewaylaw16_FrontTurns.bits13 (fun HT_ HW_ => ?_)
      generalize w89.drew = w90 at HO_10 HO_248000 BK227 BK228 BK229 BK247 BK261 HB hHeld ⊢
      refine pure_ (i := 2) (N := some 80) (v := ?_) (a' := ?_) #[F_, F_, T_, F_, F_, F_, F_, F_, F_, F_, F_, F_] rfl rfl (any_of HT_.out (by kernel_rfl)) (fun _ _ _ h => h) (Or.inl ⟨by rfl, ?_⟩) ?_ ?_
      rotate_left
      · intro w'
        go_simp
        with_reducible rfl
      rotate_left
      · simp only [Act.put, zS, zZ, zC, i64_w, i32_w]
        rfl
      refine pure_ (i := 6) (N := some 84) (v := ?_) (a' := ?_) #[F_, F_, T_, F_, F_, F_, T_, F_, F_, F_, F_, F_] rfl rfl (any_of HT_.out (by kernel_rfl)) (fun _ _ _ h => h) (Or.inl ⟨by rfl, ?_⟩) ?_ ?_
      rotate_left
      · intro w'
        go_simp
        with_reducible rfl
      rotate_left
      · simp only [Act.put, zS, zZ, zC, i64_w, i32_w]
        rfl
      refine take_ (i := 0) (N := some 78) (v := ?_) (a' := ?_) #[T_, F_, T_, F_, F_, F_, T_, F_, F_, F_, F_, F_] rfl rfl (take_ofW HT_.out HW_.out (by kernel_rfl)) (fun _ _ _ h => h) (Or.inl ⟨by rfl, ?_⟩) hHeld ?_ ?_
      rotate_left
      · rintro w' ⟨s0, s1, s2, s3, s4⟩
        go_simp
        with_reducible rfl
      rotate_left
      · simp only [Act.put, zS, zZ, zC, i64_w, i32_w]
        rfl
      refine take_ (i := 1) (N := some 79) (v := ?_) (a' := ?_) #[T_, T_, T_, F_, F_, F_, T_, F_, F_, F_, F_, F_] rfl rfl (take_ofW HT_.out HW_.out (by kernel_rfl)) (fun _ _ _ h => h) (Or.inl ⟨by rfl, ?_⟩) hHeld ?_ ?_
      rotate_left
      · rintro w' ⟨s0, s1, s2, s3, s4⟩
        go_simp
        with_reducible rfl
      rotate_left
      · simp only [Act.put, zS, zZ, zC, i64_w, i32_w]
        rfl
      refine take_ (i := 4) (N := some 82) (v := ?_) (a' := ?_) #[T_, T_, T_, F_, T_, F_, T_, F_, F_, F_, F_, F_] rfl rfl (take_ofW HT_.out HW_.out (by kernel_rfl)) (fun _ _ _ h => h) (Or.inl ⟨by rfl, ?_⟩) hHeld ?_ ?_
      rotate_left
      · rintro w' ⟨s0, s1, s2, s3, s4⟩
        go_simp
        with_reducible rfl
      rotate_left
      · simp only [Act.put, zS, zZ, zC, i64_w, i32_w]
        rfl
      refine take_ (i := 5) (N := some 83) (v := ?_) (a' := ?_) #[T_, T_, T_, F_, T_, T_, T_, F_, F_, F_, F_, F_] rfl rfl (take_ofW HT_.out HW_.out (by kernel_rfl)) (fun _ _ _ h => h) (Or.inl ⟨by rfl, ?_⟩) hHeld ?_ ?_
      rotate_left
      · rintro w' ⟨s0, s1, s2, s3, s4⟩
        go_simp
        with_reducible rfl
      rotate_left
      · simp only [Act.put, zS, zZ, zC, i64_w, i32_w]
        rfl
      refine join_ (σ := Value × Value × Nat × Nat) 2 #[T_, T_, T_, T_, T_, T_, T_, T_, T_, T_, F_, F_] (fun s_ => [(81, .agg #[s_.1, .int .i64 t265, .int .i64 t266]), (85, .agg #[s_.2.1, .int .i64 t270, .int .i64 t271]), (13, .pointer (some ⟨s_.2.2.1, 0, none⟩)), (14, .pointer (some ⟨s_.2.2.2, 0, none⟩))]) (fun s_ w' => (w'.cell? ⟨gb247, 0, none⟩ = some (.slice Ao58 t242.length co58) ∧ w'.cell? ⟨gb247, 1, none⟩ = some (.int .i64 t245) ∧ w'.cell? ⟨gb247, 2, none⟩ = some (.int .i64 t246) ∧ w'.cell? ⟨gb261, 0, none⟩ = some (.int .i64 t259) ∧ w'.cell? ⟨gb261, 1, none⟩ = some (.int .i64 t260)) ∧ (Kd.R k24 24 w' w.heap.size (fun k_ => some k_ ≠ (s_.2.1 : Value).ownBlock ∧ some k_ ≠ (.slice Ao88 x10_2.length co88 : Value).ownBlock ∧ some k_ ≠ (.slice Ao58 t242.length co58 : Value).ownBlock ∧ k_ ≠ gb227 ∧ k_ ≠ gb228 ∧ k_ ≠ gb261) s_.1 t262) ∧ (Kd.R k24 24 w' w.heap.size (fun k_ => some k_ ≠ (s_.1 : Value).ownBlock ∧ some k_ ≠ (.slice Ao88 x10_2.length co88 : Value).ownBlock ∧ some k_ ≠ (.slice Ao58 t242.length co58 : Value).ownBlock ∧ k_ ≠ gb227 ∧ k_ ≠ gb228 ∧ k_ ≠ gb261) s_.2.1 t267) ∧ (Kd.R k24 24 w' w.heap.size (fun k_ => some k_ ≠ (s_.1 : Value).ownBlock ∧ some k_ ≠ (s_.2.1 : Value).ownBlock ∧ some k_ ≠ (.slice Ao58 t242.length co58 : Value).ownBlock ∧ k_ ≠ gb227 ∧ k_ ≠ gb228 ∧ k_ ≠ gb261) (.slice Ao88 x10_2.length co88) x10_2) ∧ (Kd.R k24 24 w' w.heap.size (fun k_ => some k_ ≠ (s_.1 : Value).ownBlock ∧ some k_ ≠ (s_.2.1 : Value).ownBlock ∧ some k_ ≠ (.slice Ao88 x10_2.length co88 : Value).ownBlock ∧ k_ ≠ gb227 ∧ k_ ≠ gb228 ∧ k_ ≠ gb261) (.slice Ao58 t242.length co58) t242) ∧ (w'.heap[gb227]? = some (.cells #[.int .i64 a0_0, .int .i64 a0_1] 24 (0, 0))) ∧ (w'.heap[gb228]? = some (.cells #[.int .i64 a1_0, .int .i64 a1_1] 24 (0, 0))) ∧ (w'.heap[gb229]? = some (.cells #[.slice A2_0 l2_0.length c2_0, .slice A2_1 l2_1.length c2_1] 44 (0, 0))) ∧ (w'.heap[gb247]? = some (.cells #[.slice Ao58 t242.length co58, .int .i64 t245, .int .i64 t246] 26 (0, 0))) ∧ (w'.heap[gb261]? = some (.cells #[.int .i64 t259, .int .i64 t260] 24 (0, 0))) ∧ (w'.heap[s_.2.2.1]? = some (.cells #[.slice none 0 0, .int .i64 0, .int .i64 0] 26 (0, 0))) ∧ (w'.heap[s_.2.2.2]? = some (.cells #[.slice none 0 0, .int .i64 0, .int .i64 0] 26 (0, 0))) ∧ (w.heap.size ≤ s_.2.2.1) ∧ (w.heap.size ≤ s_.2.2.1) ∧ (gb227 ≠ s_.2.2.1) ∧ (s_.2.2.1 ≠ gb227) ∧ (gb228 ≠ s_.2.2.1) ∧ (s_.2.2.1 ≠ gb228) ∧ (gb229 ≠ s_.2.2.1) ∧ (s_.2.2.1 ≠ gb229) ∧ (gb247 ≠ s_.2.2.1) ∧ (s_.2.2.1 ≠ gb247) ∧ (gb261 ≠ s_.2.2.1) ∧ (s_.2.2.1 ≠ gb261) ∧ (s_.2.2.2 ≠ s_.2.2.1) ∧ (s_.2.2.1 ≠ s_.2.2.2) ∧ (w.heap.size ≤ s_.2.2.2) ∧ (w.heap.size ≤ s_.2.2.2) ∧ (gb227 ≠ s_.2.2.2) ∧ (s_.2.2.2 ≠ gb227) ∧ (gb228 ≠ s_.2.2.2) ∧ (s_.2.2.2 ≠ gb228) ∧ (gb229 ≠ s_.2.2.2) ∧ (s_.2.2.2 ≠ gb229) ∧ (gb247 ≠ s_.2.2.2) ∧ (s_.2.2.2 ≠ gb247) ∧ (gb261 ≠ s_.2.2.2) ∧ (s_.2.2.2 ≠ gb261) ∧ (Below w.heap.size w w')) ?_ ?_
      rotate_left
      · intro hJ3_7_8_9
        refine join_ (σ := Value × Value × Nat) 3 #[T_, T_, T_, T_, T_, T_, T_, T_, T_, F_, F_, F_] (fun s_ => [(81, .agg #[s_.1, .int .i64 t265, .int .i64 t266]), (85, .agg #[s_.2.1, .int .i64 t270, .int .i64 t271]), (13, .pointer (some ⟨s_.2.2, 0, none⟩))]) (fun s_ w' => (w'.cell? ⟨gb247, 0, none⟩ = some (.slice Ao58 t242.length co58) ∧ w'.cell? ⟨gb247, 1, none⟩ = some (.int .i64 t245) ∧ w'.cell? ⟨gb247, 2, none⟩ = some (.int .i64 t246) ∧ w'.cell? ⟨gb261, 0, none⟩ = some (.int .i64 t259) ∧ w'.cell? ⟨gb261, 1, none⟩ = some (.int .i64 t260)) ∧ (Kd.R k24 24 w' w.heap.size (fun k_ => some k_ ≠ (s_.2.1 : Value).ownBlock ∧ some k_ ≠ (.slice Ao88 x10_2.length co88 : Value).ownBlock ∧ some k_ ≠ (.slice Ao58 t242.length co58 : Value).ownBlock ∧ k_ ≠ gb227 ∧ k_ ≠ gb228 ∧ k_ ≠ gb261) s_.1 t262) ∧ (Kd.R k24 24 w' w.heap.size (fun k_ => some k_ ≠ (s_.1 : Value).ownBlock ∧ some k_ ≠ (.slice Ao88 x10_2.length co88 : Value).ownBlock ∧ some k_ ≠ (.slice Ao58 t242.length co58 : Value).ownBlock ∧ k_ ≠ gb227 ∧ k_ ≠ gb228 ∧ k_ ≠ gb261) s_.2.1 t267) ∧ (Kd.R k24 24 w' w.heap.size (fun k_ => some k_ ≠ (s_.1 : Value).ownBlock ∧ some k_ ≠ (s_.2.1 : Value).ownBlock ∧ some k_ ≠ (.slice Ao58 t242.length co58 : Value).ownBlock ∧ k_ ≠ gb227 ∧ k_ ≠ gb228 ∧ k_ ≠ gb261) (.slice Ao88 x10_2.length co88) x10_2) ∧ (Kd.R k24 24 w' w.heap.size (fun k_ => some k_ ≠ (s_.1 : Value).ownBlock ∧ some k_ ≠ (s_.2.1 : Value).ownBlock ∧ some k_ ≠ (.slice Ao88 x10_2.length co88 : Value).ownBlock ∧ k_ ≠ gb227 ∧ k_ ≠ gb228 ∧ k_ ≠ gb261) (.slice Ao58 t242.length co58) t242) ∧ (w'.heap[gb227]? = some (.cells #[.int .i64 a0_0, .int .i64 a0_1] 24 (0, 0))) ∧ (w'.heap[gb228]? = some (.cells #[.int .i64 a1_0, .int .i64 a1_1] 24 (0, 0))) ∧ (w'.heap[gb229]? = some (.cells #[.slice A2_0 l2_0.length c2_0, .slice A2_1 l2_1.length c2_1] 44 (0, 0))) ∧ (w'.heap[gb247]? = some (.cells #[.slice Ao58 t242.length co58, .int .i64 t245, .int .i64 t246] 26 (0, 0))) ∧ (w'.heap[gb261]? = some (.cells #[.int .i64 t259, .int .i64 t260] 24 (0, 0))) ∧ (w'.heap[s_.2.2]? = some (.cells #[.slice none 0 0, .int .i64 0, .int .i64 0] 26 (0, 0))) ∧ (w.heap.size ≤ s_.2.2) ∧ (w.heap.size ≤ s_.2.2) ∧ (gb227 ≠ s_.2.2) ∧ (s_.2.2 ≠ gb227) ∧ (gb228 ≠ s_.2.2) ∧ (s_.2.2 ≠ gb228) ∧ (gb229 ≠ s_.2.2) ∧ (s_.2.2 ≠ gb229) ∧ (gb247 ≠ s_.2.2) ∧ (s_.2.2 ≠ gb247) ∧ (gb261 ≠ s_.2.2) ∧ (s_.2.2 ≠ gb261) ∧ (Below w.heap.size w w')) ?_ ?_
        rotate_left
        rotate_left
        · skip
          rintro ⟨v263, v268, gb272⟩ w94 ⟨hS_, h0_, h1_, h2_, h3_, h4_, h5_, h6_, h7_, h8_, h9_, h10_, h11_, h12_, h13_, h14_, h15_, h16_, h17_, h18_, h19_, h20_, h21_, h22_⟩
          have HO264 : Aside0 (Kd.R k24 24 w94 w.heap.size (fun k_ => some k_ ≠ (v268 : Value).ownBlock ∧ some k_ ≠ (.slice Ao88 x10_2.length co88 : Value).ownBlock ∧ some k_ ≠ (.slice Ao58 t242.length co58 : Value).ownBlock ∧ k_ ≠ gb227 ∧ k_ ≠ gb228 ∧ k_ ≠ gb261) v263 t262) := ⟨h0_⟩
          have HO269 : Aside0 (Kd.R k24 24 w94 w.heap.size (fun k_ => some k_ ≠ (v263 : Value).ownBlock ∧ some k_ ≠ (.slice Ao88 x10_2.length co88 : Value).ownBlock ∧ some k_ ≠ (.slice Ao58 t242.length co58 : Value).ownBlock ∧ k_ ≠ gb227 ∧ k_ ≠ gb228 ∧ k_ ≠ gb261) v268 t267) := ⟨h1_⟩
          replace HO_10 : Aside0 (Kd.R k24 24 w94 w.heap.size (fun k_ => some k_ ≠ (v263 : Value).ownBlock ∧ some k_ ≠ (v268 : Value).ownBlock ∧ some k_ ≠ (.slice Ao58 t242.length co58 : Value).ownBlock ∧ k_ ≠ gb227 ∧ k_ ≠ gb228 ∧ k_ ≠ gb261) (.slice Ao88 x10_2.length co88) x10_2) := ⟨h2_⟩
          replace HO_248000 : Aside0 (Kd.R k24 24 w94 w.heap.size (fun k_ => some k_ ≠ (v263 : Value).ownBlock ∧ some k_ ≠ (v268 : Value).ownBlock ∧ some k_ ≠ (.slice Ao88 x10_2.length co88 : Value).ownBlock ∧ k_ ≠ gb227 ∧ k_ ≠ gb228 ∧ k_ ≠ gb261) (.slice Ao58 t242.length co58) t242) := ⟨h3_⟩
          replace BK227 : Aside0 (w94.heap[gb227]? = some (.cells #[.int .i64 a0_0, .int .i64 a0_1] 24 (0, 0))) := ⟨h4_⟩
          replace BK228 : Aside0 (w94.heap[gb228]? = some (.cells #[.int .i64 a1_0, .int .i64 a1_1] 24 (0, 0))) := ⟨h5_⟩
          replace BK229 : Aside0 (w94.heap[gb229]? = some (.cells #[.slice A2_0 l2_0.length c2_0, .slice A2_1 l2_1.length c2_1] 44 (0, 0))) := ⟨h6_⟩
          replace BK247 : Aside0 (w94.heap[gb247]? = some (.cells #[.slice Ao58 t242.length co58, .int .i64 t245, .int .i64 t246] 26 (0, 0))) := ⟨h7_⟩
          replace BK261 : Aside0 (w94.heap[gb261]? = some (.cells #[.int .i64 t259, .int .i64 t260] 24 (0, 0))) := ⟨h8_⟩
          have BK272 : Aside0 (w94.heap[gb272]? = some (.cells #[.slice none 0 0, .int .i64 0, .int .i64 0] 26 (0, 0))) := ⟨h9_⟩
          have GW272 : Aside0 (w.heap.size ≤ gb272) := ⟨h10_⟩
          have GE272 : Aside0 (w.heap.size ≤ gb272) := ⟨h11_⟩
          have NB227_272 : Aside0 (gb227 ≠ gb272) := ⟨h12_⟩
          have NB272_227 : Aside0 (gb272 ≠ gb227) := ⟨h13_⟩
          have NB228_272 : Aside0 (gb228 ≠ gb272) := ⟨h14_⟩
          have NB272_228 : Aside0 (gb272 ≠ gb228) := ⟨h15_⟩
          have NB229_272 : Aside0 (gb229 ≠ gb272) := ⟨h16_⟩
          have NB272_229 : Aside0 (gb272 ≠ gb229) := ⟨h17_⟩
          have NB247_272 : Aside0 (gb247 ≠ gb272) := ⟨h18_⟩
          have NB272_247 : Aside0 (gb272 ≠ gb247) := ⟨h19_⟩
          have NB261_272 : Aside0 (gb261 ≠ gb272) := ⟨h20_⟩
          have NB272_261 : Aside0 (gb272 ≠ gb261) := ⟨h21_⟩
          replace HB : Aside0 (Below w.heap.size w w94) := ⟨h22_⟩
          clear h0_ h1_ h2_ h3_ h4_ h5_ h6_ h7_ h8_ h9_ h10_ h11_ h12_ h13_ h14_ h15_ h16_ h17_ h18_ h19_ h20_ h21_ h22_
          have hHeld : w94.cell? ⟨gb247, 0, none⟩ = some (.slice Ao58 t242.length co58) ∧ w94.cell? ⟨gb247, 1, none⟩ = some (.int .i64 t245) ∧ w94.cell? ⟨gb247, 2, none⟩ = some (.int .i64 t246) ∧ w94.cell? ⟨gb261, 0, none⟩ = some (.int .i64 t259) ∧ w94.cell? ⟨gb261, 1, none⟩ = some (.int .i64 t260) := hS_
          refine norm_ (a' := ?_) ?_ ?_
          rotate_left
          · simp only [putAll, Act.put, zS, zZ, zC]
            rfl
          refine one_ (i := 9) (N := some 14) #[T_, T_, T_, T_, T_, T_, T_, T_, T_, T_, F_, F_] rfl rfl (one_of HT_.out (by kernel_rfl)) (by decide) (fun K hK => ?_)
          refine box_step ?hg (N := 14) ?hd (cs := #[.slice none 0 0, .int .i64 0, .int .i64 0]) (t := 26) ?hr ?_; (case hd => rfl); (case hg => rfl); (case hr => first | (go_simp; done) | (go_simp; rfl))
          intro gb273 hg w95 hbox hb
          replace HO_10 := zM (Kd.R_below (rl_ HO_10) hb)
          replace HO_248000 := zM (Kd.R_below (rl_ HO_248000) hb)
          replace HO264 := zM (Kd.R_below (rl_ HO264) hb)
          replace HO269 := zM (Kd.R_below (rl_ HO269) hb)
          have BK273 := zM (hbox)
          have GW273 := zM (bs_ hg)
          have GE273 := zM (bs_ hg)
          replace HB := zM (zB bel_ hb)
          have NB227_273 := zM (nl_ BK227 hg)
          have NB273_227 := zM (ng_ BK227 hg)
          replace BK227 := zM (bb_ BK227 hb)
          have NB228_273 := zM (nl_ BK228 hg)
          have NB273_228 := zM (ng_ BK228 hg)
          replace BK228 := zM (bb_ BK228 hb)
          have NB229_273 := zM (nl_ BK229 hg)
          have NB273_229 := zM (ng_ BK229 hg)
          replace BK229 := zM (bb_ BK229 hb)
          have NB247_273 := zM (nl_ BK247 hg)
          have NB273_247 := zM (ng_ BK247 hg)
          replace BK247 := zM (bb_ BK247 hb)
          have NB261_273 := zM (nl_ BK261 hg)
          have NB273_261 := zM (ng_ BK261 hg)
          replace BK261 := zM (bb_ BK261 hb)
          have NB272_273 := zM (nl_ BK272 hg)
          have NB273_272 := zM (ng_ BK272 hg)
          replace BK272 := zM (bb_ BK272 hb)
          clear hb hbox hg
          refine hK.out _ _ ⟨(zL BK247.out 0).trans rfl, (zL BK247.out 1).trans rfl, (zL BK247.out 2).trans rfl, (zL BK261.out 0).trans rfl, (zL BK261.out 1).trans rfl⟩ (fun hHeld => ?_)
          clear hK K
          refine norm_ (a' := ?_) ?_ ?_
          rotate_left
          · show Act.put _ (some 14) _ = _
            simp only [Act.put, zS, zZ, zC, i64_w, i32_w]
            rfl
          exact norm_ (by first | (simp only [putAll, Act.put, zS, zZ, zC]; done) | (simp only [putAll, Act.put, zS, zZ, zC]; rfl)) (hJ3_7_8_9 (v263, v268, gb272, gb273) _ ⟨hHeld, (rl_ HO264), (rl_ HO269), (rl_ HO_10), (rl_ HO_248000), blk_, blk_, blk_, blk_, blk_, blk_, blk_, GW272.out, GE272.out, NB227_272.out, NB272_227.out, NB228_272.out, NB272_228.out, NB229_272.out, NB272_229.out, NB247_272.out, NB272_247.out, NB261_272.out, NB272_261.out, NB273_272.out, NB272_273.out, GW273.out, GE273.out, NB227_273.out, NB273_227.out, NB228_273.out, NB273_228.out, NB229_273.out, NB273_229.out, NB247_273.out, NB273_247.out, NB261_273.out, NB273_261.out, bel_⟩)
        intro hJ3_7_8
        refine join_ (σ := Value × Value × Nat) 3 #[T_, T_, T_, T_, T_, T_, T_, T_, F_, T_, F_, F_] (fun s_ => [(81, .agg #[s_.1, .int .i64 t265, .int .i64 t266]), (85, .agg #[s_.2.1, .int .i64 t270, .int .i64 t271]), (14, .pointer (some ⟨s_.2.2, 0, none⟩))]) (fun s_ w' => (w'.cell? ⟨gb247, 0, none⟩ = some (.slice Ao58 t242.length co58) ∧ w'.cell? ⟨gb247, 1, none⟩ = some (.int .i64 t245) ∧ w'.cell? ⟨gb247, 2, none⟩ = some (.int .i64 t246) ∧ w'.cell? ⟨gb261, 0, none⟩ = some (.int .i64 t259) ∧ w'.cell? ⟨gb261, 1, none⟩ = some (.int .i64 t260)) ∧ (Kd.R k24 24 w' w.heap.size (fun k_ => some k_ ≠ (s_.2.1 : Value).ownBlock ∧ some k_ ≠ (.slice Ao88 x10_2.length co88 : Value).ownBlock ∧ some k_ ≠ (.slice Ao58 t242.length co58 : Value).ownBlock ∧ k_ ≠ gb227 ∧ k_ ≠ gb228 ∧ k_ ≠ gb261) s_.1 t262) ∧ (Kd.R k24 24 w' w.heap.size (fun k_ => some k_ ≠ (s_.1 : Value).ownBlock ∧ some k_ ≠ (.slice Ao88 x10_2.length co88 : Value).ownBlock ∧ some k_ ≠ (.slice Ao58 t242.length co58 : Value).ownBlock ∧ k_ ≠ gb227 ∧ k_ ≠ gb228 ∧ k_ ≠ gb261) s_.2.1 t267) ∧ (Kd.R k24 24 w' w.heap.size (fun k_ => some k_ ≠ (s_.1 : Value).ownBlock ∧ some k_ ≠ (s_.2.1 : Value).ownBlock ∧ some k_ ≠ (.slice Ao58 t242.length co58 : Value).ownBlock ∧ k_ ≠ gb227 ∧ k_ ≠ gb228 ∧ k_ ≠ gb261) (.slice Ao88 x10_2.length co88) x10_2) ∧ (Kd.R k24 24 w' w.heap.size (fun k_ => some k_ ≠ (s_.1 : Value).ownBlock ∧ some k_ ≠ (s_.2.1 : Value).ownBlock ∧ some k_ ≠ (.slice Ao88 x10_2.length co88 : Value).ownBlock ∧ k_ ≠ gb227 ∧ k_ ≠ gb228 ∧ k_ ≠ gb261) (.slice Ao58 t242.length co58) t242) ∧ (w'.heap[gb227]? = some (.cells #[.int .i64 a0_0, .int .i64 a0_1] 24 (0, 0))) ∧ (w'.heap[gb228]? = some (.cells #[.int .i64 a1_0, .int .i64 a1_1] 24 (0, 0))) ∧ (w'.heap[gb229]? = some (.cells #[.slice A2_0 l2_0.length c2_0, .slice A2_1 l2_1.length c2_1] 44 (0, 0))) ∧ (w'.heap[gb247]? = some (.cells #[.slice Ao58 t242.length co58, .int .i64 t245, .int .i64 t246] 26 (0, 0))) ∧ (w'.heap[gb261]? = some (.cells #[.int .i64 t259, .int .i64 t260] 24 (0, 0))) ∧ (w'.heap[s_.2.2]? = some (.cells #[.slice none 0 0, .int .i64 0, .int .i64 0] 26 (0, 0))) ∧ (w.heap.size ≤ s_.2.2) ∧ (w.heap.size ≤ s_.2.2) ∧ (gb227 ≠ s_.2.2) ∧ (s_.2.2 ≠ gb227) ∧ (gb228 ≠ s_.2.2) ∧ (s_.2.2 ≠ gb228) ∧ (gb229 ≠ s_.2.2) ∧ (s_.2.2 ≠ gb229) ∧ (gb247 ≠ s_.2.2) ∧ (s_.2.2 ≠ gb247) ∧ (gb261 ≠ s_.2.2) ∧ (s_.2.2 ≠ gb261) ∧ (Below w.heap.size w w')) ?_ ?_
        rotate_left
        rotate_left
        · skip
          rintro ⟨v263, v268, gb273⟩ w94 ⟨hS_, h0_, h1_, h2_, h3_, h4_, h5_, h6_, h7_, h8_, h9_, h10_, h11_, h12_, h13_, h14_, h15_, h16_, h17_, h18_, h19_, h20_, h21_, h22_⟩
          have HO264 : Aside0 (Kd.R k24 24 w94 w.heap.size (fun k_ => some k_ ≠ (v268 : Value).ownBlock ∧ some k_ ≠ (.slice Ao88 x10_2.length co88 : Value).ownBlock ∧ some k_ ≠ (.slice Ao58 t242.length co58 : Value).ownBlock ∧ k_ ≠ gb227 ∧ k_ ≠ gb228 ∧ k_ ≠ gb261) v263 t262) := ⟨h0_⟩
          have HO269 : Aside0 (Kd.R k24 24 w94 w.heap.size (fun k_ => some k_ ≠ (v263 : Value).ownBlock ∧ some k_ ≠ (.slice Ao88 x10_2.length co88 : Value).ownBlock ∧ some k_ ≠ (.slice Ao58 t242.length co58 : Value).ownBlock ∧ k_ ≠ gb227 ∧ k_ ≠ gb228 ∧ k_ ≠ gb261) v268 t267) := ⟨h1_⟩
          replace HO_10 : Aside0 (Kd.R k24 24 w94 w.heap.size (fun k_ => some k_ ≠ (v263 : Value).ownBlock ∧ some k_ ≠ (v268 : Value).ownBlock ∧ some k_ ≠ (.slice Ao58 t242.length co58 : Value).ownBlock ∧ k_ ≠ gb227 ∧ k_ ≠ gb228 ∧ k_ ≠ gb261) (.slice Ao88 x10_2.length co88) x10_2) := ⟨h2_⟩
          replace HO_248000 : Aside0 (Kd.R k24 24 w94 w.heap.size (fun k_ => some k_ ≠ (v263 : Value).ownBlock ∧ some k_ ≠ (v268 : Value).ownBlock ∧ some k_ ≠ (.slice Ao88 x10_2.length co88 : Value).ownBlock ∧ k_ ≠ gb227 ∧ k_ ≠ gb228 ∧ k_ ≠ gb261) (.slice Ao58 t242.length co58) t242) := ⟨h3_⟩
          replace BK227 : Aside0 (w94.heap[gb227]? = some (.cells #[.int .i64 a0_0, .int .i64 a0_1] 24 (0, 0))) := ⟨h4_⟩
          replace BK228 : Aside0 (w94.heap[gb228]? = some (.cells #[.int .i64 a1_0, .int .i64 a1_1] 24 (0, 0))) := ⟨h5_⟩
          replace BK229 : Aside0 (w94.heap[gb229]? = some (.cells #[.slice A2_0 l2_0.length c2_0, .slice A2_1 l2_1.length c2_1] 44 (0, 0))) := ⟨h6_⟩
          replace BK247 : Aside0 (w94.heap[gb247]? = some (.cells #[.slice Ao58 t242.length co58, .int .i64 t245, .int .i64 t246] 26 (0, 0))) := ⟨h7_⟩
          replace BK261 : Aside0 (w94.heap[gb261]? = some (.cells #[.int .i64 t259, .int .i64 t260] 24 (0, 0))) := ⟨h8_⟩
          have BK273 : Aside0 (w94.heap[gb273]? = some (.cells #[.slice none 0 0, .int .i64 0, .int .i64 0] 26 (0, 0))) := ⟨h9_⟩
          have GW273 : Aside0 (w.heap.size ≤ gb273) := ⟨h10_⟩
          have GE273 : Aside0 (w.heap.size ≤ gb273) := ⟨h11_⟩
          have NB227_273 : Aside0 (gb227 ≠ gb273) := ⟨h12_⟩
          have NB273_227 : Aside0 (gb273 ≠ gb227) := ⟨h13_⟩
          have NB228_273 : Aside0 (gb228 ≠ gb273) := ⟨h14_⟩
          have NB273_228 : Aside0 (gb273 ≠ gb228) := ⟨h15_⟩
          have NB229_273 : Aside0 (gb229 ≠ gb273) := ⟨h16_⟩
          have NB273_229 : Aside0 (gb273 ≠ gb229) := ⟨h17_⟩
          have NB247_273 : Aside0 (gb247 ≠ gb273) := ⟨h18_⟩
          have NB273_247 : Aside0 (gb273 ≠ gb247) := ⟨h19_⟩
          have NB261_273 : Aside0 (gb261 ≠ gb273) := ⟨h20_⟩
          have NB273_261 : Aside0 (gb273 ≠ gb261) := ⟨h21_⟩
          replace HB : Aside0 (Below w.heap.size w w94) := ⟨h22_⟩
          clear h0_ h1_ h2_ h3_ h4_ h5_ h6_ h7_ h8_ h9_ h10_ h11_ h12_ h13_ h14_ h15_ h16_ h17_ h18_ h19_ h20_ h21_ h22_
          have hHeld : w94.cell? ⟨gb247, 0, none⟩ = some (.slice Ao58 t242.length co58) ∧ w94.cell? ⟨gb247, 1, none⟩ = some (.int .i64 t245) ∧ w94.cell? ⟨gb247, 2, none⟩ = some (.int .i64 t246) ∧ w94.cell? ⟨gb261, 0, none⟩ = some (.int .i64 t259) ∧ w94.cell? ⟨gb261, 1, none⟩ = some (.int .i64 t260) := hS_
          refine norm_ (a' := ?_) ?_ ?_
          rotate_left
          · simp only [putAll, Act.put, zS, zZ, zC]
            rfl
          refine one_ (i := 8) (N := some 13) #[T_, T_, T_, T_, T_, T_, T_, T_, T_, T_, F_, F_] rfl rfl (one_of HT_.out (by kernel_rfl)) (by decide) (fun K hK => ?_)
          refine box_step ?hg (N := 13) ?hd (cs := #[.slice none 0 0, .int .i64 0, .int .i64 0]) (t := 26) ?hr ?_; (case hd => rfl); (case hg => rfl); (case hr => first | (go_simp; done) | (go_simp; rfl))
          intro gb272 hg w95 hbox hb
          replace HO_10 := zM (Kd.R_below (rl_ HO_10) hb)
          replace HO_248000 := zM (Kd.R_below (rl_ HO_248000) hb)
          replace HO264 := zM (Kd.R_below (rl_ HO264) hb)
          replace HO269 := zM (Kd.R_below (rl_ HO269) hb)
          have BK272 := zM (hbox)
          have GW272 := zM (bs_ hg)
          have GE272 := zM (bs_ hg)
          replace HB := zM (zB bel_ hb)
          have NB227_272 := zM (nl_ BK227 hg)
          have NB272_227 := zM (ng_ BK227 hg)
          replace BK227 := zM (bb_ BK227 hb)
          have NB228_272 := zM (nl_ BK228 hg)
          have NB272_228 := zM (ng_ BK228 hg)
          replace BK228 := zM (bb_ BK228 hb)
          have NB229_272 := zM (nl_ BK229 hg)
          have NB272_229 := zM (ng_ BK229 hg)
          replace BK229 := zM (bb_ BK229 hb)
          have NB247_272 := zM (nl_ BK247 hg)
          have NB272_247 := zM (ng_ BK247 hg)
          replace BK247 := zM (bb_ BK247 hb)
          have NB261_272 := zM (nl_ BK261 hg)
          have NB272_261 := zM (ng_ BK261 hg)
          replace BK261 := zM (bb_ BK261 hb)
          have NB273_272 := zM (nl_ BK273 hg)
          have NB272_273 := zM (ng_ BK273 hg)
          replace BK273 := zM (bb_ BK273 hb)
          clear hb hbox hg
          refine hK.out _ _ ⟨(zL BK247.out 0).trans rfl, (zL BK247.out 1).trans rfl, (zL BK247.out 2).trans rfl, (zL BK261.out 0).trans rfl, (zL BK261.out 1).trans rfl⟩ (fun hHeld => ?_)
          clear hK K
          refine norm_ (a' := ?_) ?_ ?_
          rotate_left
          · show Act.put _ (some 13) _ = _
            simp only [Act.put, zS, zZ, zC, i64_w, i32_w]
            rfl
          exact norm_ (by first | (simp only [putAll, Act.put, zS, zZ, zC]; done) | (simp only [putAll, Act.put, zS, zZ, zC]; rfl)) (hJ3_7_8_9 (v263, v268, gb272, gb273) _ ⟨hHeld, (rl_ HO264), (rl_ HO269), (rl_ HO_10), (rl_ HO_248000), blk_, blk_, blk_, blk_, blk_, blk_, blk_, GW272.out, GE272.out, NB227_272.out, NB272_227.out, NB228_272.out, NB272_228.out, NB229_272.out, NB272_229.out, NB247_272.out, NB272_247.out, NB261_272.out, NB272_261.out, NB273_272.out, NB272_273.out, GW273.out, GE273.out, NB227_273.out, NB273_227.out, NB228_273.out, NB273_228.out, NB229_273.out, NB273_229.out, NB247_273.out, NB273_247.out, NB261_273.out, NB273_261.out, bel_⟩)
        intro hJ3_7_9
        refine join_ (σ := Value × Nat × Nat) 3 #[T_, T_, T_, T_, T_, T_, T_, F_, T_, T_, F_, F_] (fun s_ => [(81, .agg #[s_.1, .int .i64 t265, .int .i64 t266]), (13, .pointer (some ⟨s_.2.1, 0, none⟩)), (14, .pointer (some ⟨s_.2.2, 0, none⟩))]) (fun s_ w' => (w'.cell? ⟨gb247, 0, none⟩ = some (.slice Ao58 t242.length co58) ∧ w'.cell? ⟨gb247, 1, none⟩ = some (.int .i64 t245) ∧ w'.cell? ⟨gb247, 2, none⟩ = some (.int .i64 t246) ∧ w'.cell? ⟨gb261, 0, none⟩ = some (.int .i64 t259) ∧ w'.cell? ⟨gb261, 1, none⟩ = some (.int .i64 t260)) ∧ (Kd.R k24 24 w' w.heap.size (fun k_ => some k_ ≠ (.slice Ao88 x10_2.length co88 : Value).ownBlock ∧ some k_ ≠ (.slice Ao58 t242.length co58 : Value).ownBlock ∧ k_ ≠ gb227 ∧ k_ ≠ gb228 ∧ k_ ≠ gb261) s_.1 t262) ∧ (Kd.R k24 24 w' w.heap.size (fun k_ => some k_ ≠ (s_.1 : Value).ownBlock ∧ some k_ ≠ (.slice Ao58 t242.length co58 : Value).ownBlock ∧ k_ ≠ gb227 ∧ k_ ≠ gb228 ∧ k_ ≠ gb261) (.slice Ao88 x10_2.length co88) x10_2) ∧ (Kd.R k24 24 w' w.heap.size (fun k_ => some k_ ≠ (s_.1 : Value).ownBlock ∧ some k_ ≠ (.slice Ao88 x10_2.length co88 : Value).ownBlock ∧ k_ ≠ gb227 ∧ k_ ≠ gb228 ∧ k_ ≠ gb261) (.slice Ao58 t242.length co58) t242) ∧ (w'.heap[gb227]? = some (.cells #[.int .i64 a0_0, .int .i64 a0_1] 24 (0, 0))) ∧ (w'.heap[gb228]? = some (.cells #[.int .i64 a1_0, .int .i64 a1_1] 24 (0, 0))) ∧ (w'.heap[gb229]? = some (.cells #[.slice A2_0 l2_0.length c2_0, .slice A2_1 l2_1.length c2_1] 44 (0, 0))) ∧ (w'.heap[gb247]? = some (.cells #[.slice Ao58 t242.length co58, .int .i64 t245, .int .i64 t246] 26 (0, 0))) ∧ (w'.heap[gb261]? = some (.cells #[.int .i64 t259, .int .i64 t260] 24 (0, 0))) ∧ (w'.heap[s_.2.1]? = some (.cells #[.slice none 0 0, .int .i64 0, .int .i64 0] 26 (0, 0))) ∧ (w'.heap[s_.2.2]? = some (.cells #[.slice none 0 0, .int .i64 0, .int .i64 0] 26 (0, 0))) ∧ (w.heap.size ≤ s_.2.1) ∧ (w.heap.size ≤ s_.2.1) ∧ (gb227 ≠ s_.2.1) ∧ (s_.2.1 ≠ gb227) ∧ (gb228 ≠ s_.2.1) ∧ (s_.2.1 ≠ gb228) ∧ (gb229 ≠ s_.2.1) ∧ (s_.2.1 ≠ gb229) ∧ (gb247 ≠ s_.2.1) ∧ (s_.2.1 ≠ gb247) ∧ (gb261 ≠ s_.2.1) ∧ (s_.2.1 ≠ gb261) ∧ (s_.2.2 ≠ s_.2.1) ∧ (s_.2.1 ≠ s_.2.2) ∧ (w.heap.size ≤ s_.2.2) ∧ (w.heap.size ≤ s_.2.2) ∧ (gb227 ≠ s_.2.2) ∧ (s_.2.2 ≠ gb227) ∧ (gb228 ≠ s_.2.2) ∧ (s_.2.2 ≠ gb228) ∧ (gb229 ≠ s_.2.2) ∧ (s_.2.2 ≠ gb229) ∧ (gb247 ≠ s_.2.2) ∧ (s_.2.2 ≠ gb247) ∧ (gb261 ≠ s_.2.2) ∧ (s_.2.2 ≠ gb261) ∧ (Below w.heap.size w w')) ?_ ?_
        rotate_left
        rotate_left
        · skip
          rintro ⟨v263, gb272, gb273⟩ w94 ⟨hS_, h0_, h1_, h2_, h3_, h4_, h5_, h6_, h7_, h8_, h9_, h10_, h11_, h12_, h13_, h14_, h15_, h16_, h17_, h18_, h19_, h20_, h21_, h22_, h23_, h24_, h25_, h26_, h27_, h28_, h29_, h30_, h31_, h32_, h33_, h34_, h35_, h36_⟩
          have HO264 : Aside0 (Kd.R k24 24 w94 w.heap.size (fun k_ => some k_ ≠ (.slice Ao88 x10_2.length co88 : Value).ownBlock ∧ some k_ ≠ (.slice Ao58 t242.length co58 : Value).ownBlock ∧ k_ ≠ gb227 ∧ k_ ≠ gb228 ∧ k_ ≠ gb261) v263 t262) := ⟨h0_⟩
          replace HO_10 : Aside0 (Kd.R k24 24 w94 w.heap.size (fun k_ => some k_ ≠ (v263 : Value).ownBlock ∧ some k_ ≠ (.slice Ao58 t242.length co58 : Value).ownBlock ∧ k_ ≠ gb227 ∧ k_ ≠ gb228 ∧ k_ ≠ gb261) (.slice Ao88 x10_2.length co88) x10_2) := ⟨h1_⟩
          replace HO_248000 : Aside0 (Kd.R k24 24 w94 w.heap.size (fun k_ => some k_ ≠ (v263 : Value).ownBlock ∧ some k_ ≠ (.slice Ao88 x10_2.length co88 : Value).ownBlock ∧ k_ ≠ gb227 ∧ k_ ≠ gb228 ∧ k_ ≠ gb261) (.slice Ao58 t242.length co58) t242) := ⟨h2_⟩
          replace BK227 : Aside0 (w94.heap[gb227]? = some (.cells #[.int .i64 a0_0, .int .i64 a0_1] 24 (0, 0))) := ⟨h3_⟩
          replace BK228 : Aside0 (w94.heap[gb228]? = some (.cells #[.int .i64 a1_0, .int .i64 a1_1] 24 (0, 0))) := ⟨h4_⟩
          replace BK229 : Aside0 (w94.heap[gb229]? = some (.cells #[.slice A2_0 l2_0.length c2_0, .slice A2_1 l2_1.length c2_1] 44 (0, 0))) := ⟨h5_⟩
          replace BK247 : Aside0 (w94.heap[gb247]? = some (.cells #[.slice Ao58 t242.length co58, .int .i64 t245, .int .i64 t246] 26 (0, 0))) := ⟨h6_⟩
          replace BK261 : Aside0 (w94.heap[gb261]? = some (.cells #[.int .i64 t259, .int .i64 t260] 24 (0, 0))) := ⟨h7_⟩
          have BK272 : Aside0 (w94.heap[gb272]? = some (.cells #[.slice none 0 0, .int .i64 0, .int .i64 0] 26 (0, 0))) := ⟨h8_⟩
          have BK273 : Aside0 (w94.heap[gb273]? = some (.cells #[.slice none 0 0, .int .i64 0, .int .i64 0] 26 (0, 0))) := ⟨h9_⟩
          have GW272 : Aside0 (w.heap.size ≤ gb272) := ⟨h10_⟩
          have GE272 : Aside0 (w.heap.size ≤ gb272) := ⟨h11_⟩
          have NB227_272 : Aside0 (gb227 ≠ gb272) := ⟨h12_⟩
          have NB272_227 : Aside0 (gb272 ≠ gb227) := ⟨h13_⟩
          have NB228_272 : Aside0 (gb228 ≠ gb272) := ⟨h14_⟩
          have NB272_228 : Aside0 (gb272 ≠ gb228) := ⟨h15_⟩
          have NB229_272 : Aside0 (gb229 ≠ gb272) := ⟨h16_⟩
          have NB272_229 : Aside0 (gb272 ≠ gb229) := ⟨h17_⟩
          have NB247_272 : Aside0 (gb247 ≠ gb272) := ⟨h18_⟩
          have NB272_247 : Aside0 (gb272 ≠ gb247) := ⟨h19_⟩
          have NB261_272 : Aside0 (gb261 ≠ gb272) := ⟨h20_⟩
          have NB272_261 : Aside0 (gb272 ≠ gb261) := ⟨h21_⟩
          have NB273_272 : Aside0 (gb273 ≠ gb272) := ⟨h22_⟩
          have NB272_273 : Aside0 (gb272 ≠ gb273) := ⟨h23_⟩
          have GW273 : Aside0 (w.heap.size ≤ gb273) := ⟨h24_⟩
          have GE273 : Aside0 (w.heap.size ≤ gb273) := ⟨h25_⟩
          have NB227_273 : Aside0 (gb227 ≠ gb273) := ⟨h26_⟩
          have NB273_227 : Aside0 (gb273 ≠ gb227) := ⟨h27_⟩
          have NB228_273 : Aside0 (gb228 ≠ gb273) := ⟨h28_⟩
          have NB273_228 : Aside0 (gb273 ≠ gb228) := ⟨h29_⟩
          have NB229_273 : Aside0 (gb229 ≠ gb273) := ⟨h30_⟩
          have NB273_229 : Aside0 (gb273 ≠ gb229) := ⟨h31_⟩
          have NB247_273 : Aside0 (gb247 ≠ gb273) := ⟨h32_⟩
          have NB273_247 : Aside0 (gb273 ≠ gb247) := ⟨h33_⟩
          have NB261_273 : Aside0 (gb261 ≠ gb273) := ⟨h34_⟩
          have NB273_261 : Aside0 (gb273 ≠ gb261) := ⟨h35_⟩
          replace HB : Aside0 (Below w.heap.size w w94) := ⟨h36_⟩
          clear h0_ h1_ h2_ h3_ h4_ h5_ h6_ h7_ h8_ h9_ h10_ h11_ h12_ h13_ h14_ h15_ h16_ h17_ h18_ h19_ h20_ h21_ h22_ h23_ h24_ h25_ h26_ h27_ h28_ h29_ h30_ h31_ h32_ h33_ h34_ h35_ h36_
          have hHeld : w94.cell? ⟨gb247, 0, none⟩ = some (.slice Ao58 t242.length co58) ∧ w94.cell? ⟨gb247, 1, none⟩ = some (.int .i64 t245) ∧ w94.cell? ⟨gb247, 2, none⟩ = some (.int .i64 t246) ∧ w94.cell? ⟨gb261, 0, none⟩ = some (.int .i64 t259) ∧ w94.cell? ⟨gb261, 1, none⟩ = some (.int .i64 t260) := hS_
          refine norm_ (a' := ?_) ?_ ?_
          rotate_left
          · simp only [putAll, Act.put, zS, zZ, zC]
            rfl
          refine one_ (i := 7) (N := some 85) #[T_, T_, T_, T_, T_, T_, T_, T_, T_, T_, F_, F_] rfl rfl (one_of HT_.out (by kernel_rfl)) (by decide) (fun K hK => ?_)
          refine goes_ Try.func14 (by kernel_rfl) rfl #[.agg #[.slice Ao58 t242.length co58, .int .i64 t245, .int .i64 t246], .agg #[.int .i64 t259, .int .i64 t260], .slice Ao88 x10_2.length co88] (by rfl) rfl rfl (by (try simp only [List.map_toArray, List.map_cons, List.map_nil]); first | done | rfl | (simp only [List.length_drop, List.length_take]; rfl)) ?_
          with_reducible refine (front_Step.calls k2 _ _ t242 t245 t246 t259 t260 _ _ x10_2 t267 t270 t271 _ ?side1 ?side2 ?side3 ?side4 A75.out).mono ?_
          (case side1 => repeat (first | exact (Kd.R_reads' HO_248000.out).2.2 | (with_reducible refine Kd.C_alloc ?_ _) | (with_reducible refine Kd.C_drewN ?_ _) | (with_reducible refine Kd.C_drew ?_)))
          (case side2 => exact (Kd.R_reads' HO_248000.out).2.1)
          (case side3 => repeat (first | exact (Kd.R_reads' HO_10.out).2.2 | (with_reducible refine Kd.C_alloc ?_ _) | (with_reducible refine Kd.C_drewN ?_ _) | (with_reducible refine Kd.C_drew ?_)))
          (case side4 => exact (Kd.R_reads' HO_10.out).2.1)
          rintro e w95 ⟨v268, rfl, ho0, hb⟩
          refine ⟨_, rfl, ?_⟩
          have HO269 := zM (Kd.R_lower (Kd.R_newB (Kd.R_newB (Kd.R_newB (Kd.R_new' (Kd.R_new' (Kd.R_new' ho0 (Kd.R_lt (rl_ HO_10))) (Kd.R_lt (rl_ HO_248000))) (Kd.R_lt (rl_ HO264))) (g := gb227) (o := .cells #[.int .i64 a0_0, .int .i64 a0_1] 24 (0, 0)) blk_) (g := gb228) (o := .cells #[.int .i64 a1_0, .int .i64 a1_1] 24 (0, 0)) blk_) (g := gb261) (o := .cells #[.int .i64 t259, .int .i64 t260] 24 (0, 0)) blk_) (below_size bel_))
          replace HO_10 := zM (Kd.R_elder' (rl_ HO_10) (Kd.R_base ho0) hb)
          replace HO_248000 := zM (Kd.R_elder' (rl_ HO_248000) (Kd.R_base ho0) hb)
          replace HO264 := zM (Kd.R_elder' (rl_ HO264) (Kd.R_base ho0) hb)
          replace BK227 := zM (bb_ BK227 hb)
          replace BK228 := zM (bb_ BK228 hb)
          replace BK229 := zM (bb_ BK229 hb)
          replace BK247 := zM (bb_ BK247 hb)
          replace BK261 := zM (bb_ BK261 hb)
          replace BK272 := zM (bb_ BK272 hb)
          replace BK273 := zM (bb_ BK273 hb)
          replace HB := zM (zB bel_ hb)
          (try clear hb)
          (try clear hb2)
          (try clear hk)
          (try clear hi)
          (try clear ho0)
          refine hK.out _ _ ⟨(zL BK247.out 0).trans rfl, (zL BK247.out 1).trans rfl, (zL BK247.out 2).trans rfl, (zL BK261.out 0).trans rfl, (zL BK261.out 1).trans rfl⟩ (fun hHeld => ?_)
          clear hK K
          refine norm_ (a' := ?_) ?_ ?_
          rotate_left
          · show Act.put _ (some 85) _ = _
            simp only [Act.put, zS, zZ, zC, i64_w, i32_w]
            rfl
          exact norm_ (by first | (simp only [putAll, Act.put, zS, zZ, zC]; done) | (simp only [putAll, Act.put, zS, zZ, zC]; rfl)) (hJ3_7_8_9 (v263, v268, gb272, gb273) _ ⟨hHeld, (by (with_reducible repeat (first | apply Kd.R_alloc | apply Kd.R_drewN | apply Kd.R_drew)); exact Kd.R_mono HO264.out (fun _ hk => ⟨hk.2, ⟨hk.1.1, ⟨hk.1.2.1, ⟨hk.1.2.2.1, ⟨hk.1.2.2.2.1, hk.1.2.2.2.2⟩⟩⟩⟩⟩)), (by (with_reducible repeat (first | apply Kd.R_alloc | apply Kd.R_drewN | apply Kd.R_drew)); exact Kd.R_mono HO269.out (fun _ hk => ⟨hk.1.1.1.2, ⟨hk.1.1.1.1.1.2, ⟨hk.1.1.1.1.2, ⟨hk.1.1.2, ⟨hk.1.2, hk.2⟩⟩⟩⟩⟩)), (by (with_reducible repeat (first | apply Kd.R_alloc | apply Kd.R_drewN | apply Kd.R_drew)); exact Kd.R_mono HO_10.out (fun _ hk => ⟨hk.1.1, ⟨hk.2, ⟨hk.1.2.1, ⟨hk.1.2.2.1, ⟨hk.1.2.2.2.1, hk.1.2.2.2.2⟩⟩⟩⟩⟩)), (by (with_reducible repeat (first | apply Kd.R_alloc | apply Kd.R_drewN | apply Kd.R_drew)); exact Kd.R_mono HO_248000.out (fun _ hk => ⟨hk.1.1, ⟨hk.2, ⟨hk.1.2.1, ⟨hk.1.2.2.1, ⟨hk.1.2.2.2.1, hk.1.2.2.2.2⟩⟩⟩⟩⟩)), blk_, blk_, blk_, blk_, blk_, blk_, blk_, GW272.out, GE272.out, NB227_272.out, NB272_227.out, NB228_272.out, NB272_228.out, NB229_272.out, NB272_229.out, NB247_272.out, NB272_247.out, NB261_272.out, NB272_261.out, NB273_272.out, NB272_273.out, GW273.out, GE273.out, NB227_273.out, NB273_227.out, NB228_273.out, NB273_228.out, NB229_273.out, NB273_229.out, NB247_273.out, NB273_247.out, NB261_273.out, NB273_261.out, bel_⟩)
        intro hJ3_8_9
        refine join_ (σ := Value × Value) 4 #[T_, T_, T_, T_, T_, T_, T_, T_, F_, F_, F_, F_] (fun s_ => [(81, .agg #[s_.1, .int .i64 t265, .int .i64 t266]), (85, .agg #[s_.2, .int .i64 t270, .int .i64 t271])]) (fun s_ w' => (w'.cell? ⟨gb247, 0, none⟩ = some (.slice Ao58 t242.length co58) ∧ w'.cell? ⟨gb247, 1, none⟩ = some (.int .i64 t245) ∧ w'.cell? ⟨gb247, 2, none⟩ = some (.int .i64 t246) ∧ w'.cell? ⟨gb261, 0, none⟩ = some (.int .i64 t259) ∧ w'.cell? ⟨gb261, 1, none⟩ = some (.int .i64 t260)) ∧ (Kd.R k24 24 w' w.heap.size (fun k_ => some k_ ≠ (s_.2 : Value).ownBlock ∧ some k_ ≠ (.slice Ao88 x10_2.length co88 : Value).ownBlock ∧ some k_ ≠ (.slice Ao58 t242.length co58 : Value).ownBlock ∧ k_ ≠ gb227 ∧ k_ ≠ gb228 ∧ k_ ≠ gb261) s_.1 t262) ∧ (Kd.R k24 24 w' w.heap.size (fun k_ => some k_ ≠ (s_.1 : Value).ownBlock ∧ some k_ ≠ (.slice Ao88 x10_2.length co88 : Value).ownBlock ∧ some k_ ≠ (.slice Ao58 t242.length co58 : Value).ownBlock ∧ k_ ≠ gb227 ∧ k_ ≠ gb228 ∧ k_ ≠ gb261) s_.2 t267) ∧ (Kd.R k24 24 w' w.heap.size (fun k_ => some k_ ≠ (s_.1 : Value).ownBlock ∧ some k_ ≠ (s_.2 : Value).ownBlock ∧ some k_ ≠ (.slice Ao58 t242.length co58 : Value).ownBlock ∧ k_ ≠ gb227 ∧ k_ ≠ gb228 ∧ k_ ≠ gb261) (.slice Ao88 x10_2.length co88) x10_2) ∧ (Kd.R k24 24 w' w.heap.size (fun k_ => some k_ ≠ (s_.1 : Value).ownBlock ∧ some k_ ≠ (s_.2 : Value).ownBlock ∧ some k_ ≠ (.slice Ao88 x10_2.length co88 : Value).ownBlock ∧ k_ ≠ gb227 ∧ k_ ≠ gb228 ∧ k_ ≠ gb261) (.slice Ao58 t242.length co58) t242) ∧ (w'.heap[gb227]? = some (.cells #[.int .i64 a0_0, .int .i64 a0_1] 24 (0, 0))) ∧ (w'.heap[gb228]? = some (.cells #[.int .i64 a1_0, .int .i64 a1_1] 24 (0, 0))) ∧ (w'.heap[gb229]? = some (.cells #[.slice A2_0 l2_0.length c2_0, .slice A2_1 l2_1.length c2_1] 44 (0, 0))) ∧ (w'.heap[gb247]? = some (.cells #[.slice Ao58 t242.length co58, .int .i64 t245, .int .i64 t246] 26 (0, 0))) ∧ (w'.heap[gb261]? = some (.cells #[.int .i64 t259, .int .i64 t260] 24 (0, 0))) ∧ (Below w.heap.size w w')) ?_ ?_
        rotate_left
        rotate_left
        · skip
          rintro ⟨v263, v268⟩ w93 ⟨hS_, h0_, h1_, h2_, h3_, h4_, h5_, h6_, h7_, h8_, h9_⟩
          have HO264 : Aside0 (Kd.R k24 24 w93 w.heap.size (fun k_ => some k_ ≠ (v268 : Value).ownBlock ∧ some k_ ≠ (.slice Ao88 x10_2.length co88 : Value).ownBlock ∧ some k_ ≠ (.slice Ao58 t242.length co58 : Value).ownBlock ∧ k_ ≠ gb227 ∧ k_ ≠ gb228 ∧ k_ ≠ gb261) v263 t262) := ⟨h0_⟩
          have HO269 : Aside0 (Kd.R k24 24 w93 w.heap.size (fun k_ => some k_ ≠ (v263 : Value).ownBlock ∧ some k_ ≠ (.slice Ao88 x10_2.length co88 : Value).ownBlock ∧ some k_ ≠ (.slice Ao58 t242.length co58 : Value).ownBlock ∧ k_ ≠ gb227 ∧ k_ ≠ gb228 ∧ k_ ≠ gb261) v268 t267) := ⟨h1_⟩
          replace HO_10 : Aside0 (Kd.R k24 24 w93 w.heap.size (fun k_ => some k_ ≠ (v263 : Value).ownBlock ∧ some k_ ≠ (v268 : Value).ownBlock ∧ some k_ ≠ (.slice Ao58 t242.length co58 : Value).ownBlock ∧ k_ ≠ gb227 ∧ k_ ≠ gb228 ∧ k_ ≠ gb261) (.slice Ao88 x10_2.length co88) x10_2) := ⟨h2_⟩
          replace HO_248000 : Aside0 (Kd.R k24 24 w93 w.heap.size (fun k_ => some k_ ≠ (v263 : Value).ownBlock ∧ some k_ ≠ (v268 : Value).ownBlock ∧ some k_ ≠ (.slice Ao88 x10_2.length co88 : Value).ownBlock ∧ k_ ≠ gb227 ∧ k_ ≠ gb228 ∧ k_ ≠ gb261) (.slice Ao58 t242.length co58) t242) := ⟨h3_⟩
          replace BK227 : Aside0 (w93.heap[gb227]? = some (.cells #[.int .i64 a0_0, .int .i64 a0_1] 24 (0, 0))) := ⟨h4_⟩
          replace BK228 : Aside0 (w93.heap[gb228]? = some (.cells #[.int .i64 a1_0, .int .i64 a1_1] 24 (0, 0))) := ⟨h5_⟩
          replace BK229 : Aside0 (w93.heap[gb229]? = some (.cells #[.slice A2_0 l2_0.length c2_0, .slice A2_1 l2_1.length c2_1] 44 (0, 0))) := ⟨h6_⟩
          replace BK247 : Aside0 (w93.heap[gb247]? = some (.cells #[.slice Ao58 t242.length co58, .int .i64 t245, .int .i64 t246] 26 (0, 0))) := ⟨h7_⟩
          replace BK261 : Aside0 (w93.heap[gb261]? = some (.cells #[.int .i64 t259, .int .i64 t260] 24 (0, 0))) := ⟨h8_⟩
          replace HB : Aside0 (Below w.heap.size w w93) := ⟨h9_⟩
          clear h0_ h1_ h2_ h3_ h4_ h5_ h6_ h7_ h8_ h9_
          have hHeld : w93.cell? ⟨gb247, 0, none⟩ = some (.slice Ao58 t242.length co58) ∧ w93.cell? ⟨gb247, 1, none⟩ = some (.int .i64 t245) ∧ w93.cell? ⟨gb247, 2, none⟩ = some (.int .i64 t246) ∧ w93.cell? ⟨gb261, 0, none⟩ = some (.int .i64 t259) ∧ w93.cell? ⟨gb261, 1, none⟩ = some (.int .i64 t260) := hS_
          refine norm_ (a' := ?_) ?_ ?_
          rotate_left
          · simp only [putAll, Act.put, zS, zZ, zC]
            rfl
          refine two_ (i := 8) (j := 9) (Ni := some 13) (Nj := some 14) #[T_, T_, T_, T_, T_, T_, T_, T_, T_, F_, F_, F_] #[T_, T_, T_, T_, T_, T_, T_, T_, F_, T_, F_, F_] rfl rfl rfl rfl (two_of HT_.out (by kernel_rfl)) (by decide) (by decide) (fun K hK => ?_) (fun K hK => ?_)
          · skip
            refine box_step ?hg (N := 13) ?hd (cs := #[.slice none 0 0, .int .i64 0, .int .i64 0]) (t := 26) ?hr ?_; (case hd => rfl); (case hg => rfl); (case hr => first | (go_simp; done) | (go_simp; rfl))
            intro gb272 hg w94 hbox hb
            replace HO_10 := zM (Kd.R_below (rl_ HO_10) hb)
            replace HO_248000 := zM (Kd.R_below (rl_ HO_248000) hb)
            replace HO264 := zM (Kd.R_below (rl_ HO264) hb)
            replace HO269 := zM (Kd.R_below (rl_ HO269) hb)
            have BK272 := zM (hbox)
            have GW272 := zM (bs_ hg)
            have GE272 := zM (bs_ hg)
            replace HB := zM (zB bel_ hb)
            have NB227_272 := zM (nl_ BK227 hg)
            have NB272_227 := zM (ng_ BK227 hg)
            replace BK227 := zM (bb_ BK227 hb)
            have NB228_272 := zM (nl_ BK228 hg)
            have NB272_228 := zM (ng_ BK228 hg)
            replace BK228 := zM (bb_ BK228 hb)
            have NB229_272 := zM (nl_ BK229 hg)
            have NB272_229 := zM (ng_ BK229 hg)
            replace BK229 := zM (bb_ BK229 hb)
            have NB247_272 := zM (nl_ BK247 hg)
            have NB272_247 := zM (ng_ BK247 hg)
            replace BK247 := zM (bb_ BK247 hb)
            have NB261_272 := zM (nl_ BK261 hg)
            have NB272_261 := zM (ng_ BK261 hg)
            replace BK261 := zM (bb_ BK261 hb)
            clear hb hbox hg
            refine hK.out _ _ ⟨(zL BK247.out 0).trans rfl, (zL BK247.out 1).trans rfl, (zL BK247.out 2).trans rfl, (zL BK261.out 0).trans rfl, (zL BK261.out 1).trans rfl⟩ (fun hHeld => ?_)
            clear hK K
            refine norm_ (a' := ?_) ?_ ?_
            rotate_left
            · show Act.put _ (some 13) _ = _
              simp only [Act.put, zS, zZ, zC, i64_w, i32_w]
              rfl
            exact norm_ (by first | (simp only [putAll, Act.put, zS, zZ, zC]; done) | (simp only [putAll, Act.put, zS, zZ, zC]; rfl)) (hJ3_7_8 (v263, v268, gb272) _ ⟨hHeld, (rl_ HO264), (rl_ HO269), (rl_ HO_10), (rl_ HO_248000), blk_, blk_, blk_, blk_, blk_, blk_, GW272.out, GE272.out, NB227_272.out, NB272_227.out, NB228_272.out, NB272_228.out, NB229_272.out, NB272_229.out, NB247_272.out, NB272_247.out, NB261_272.out, NB272_261.out, bel_⟩)
          skip
          refine box_step ?hg (N := 14) ?hd (cs := #[.slice none 0 0, .int .i64 0, .int .i64 0]) (t := 26) ?hr ?_; (case hd => rfl); (case hg => rfl); (case hr => first | (go_simp; done) | (go_simp; rfl))
          intro gb273 hg w94 hbox hb
          replace HO_10 := zM (Kd.R_below (rl_ HO_10) hb)
          replace HO_248000 := zM (Kd.R_below (rl_ HO_248000) hb)
          replace HO264 := zM (Kd.R_below (rl_ HO264) hb)
          replace HO269 := zM (Kd.R_below (rl_ HO269) hb)
          have BK273 := zM (hbox)
          have GW273 := zM (bs_ hg)
          have GE273 := zM (bs_ hg)
          replace HB := zM (zB bel_ hb)
          have NB227_273 := zM (nl_ BK227 hg)
          have NB273_227 := zM (ng_ BK227 hg)
          replace BK227 := zM (bb_ BK227 hb)
          have NB228_273 := zM (nl_ BK228 hg)
          have NB273_228 := zM (ng_ BK228 hg)
          replace BK228 := zM (bb_ BK228 hb)
          have NB229_273 := zM (nl_ BK229 hg)
          have NB273_229 := zM (ng_ BK229 hg)
          replace BK229 := zM (bb_ BK229 hb)
          have NB247_273 := zM (nl_ BK247 hg)
          have NB273_247 := zM (ng_ BK247 hg)
          replace BK247 := zM (bb_ BK247 hb)
          have NB261_273 := zM (nl_ BK261 hg)
          have NB273_261 := zM (ng_ BK261 hg)
          replace BK261 := zM (bb_ BK261 hb)
          clear hb hbox hg
          refine hK.out _ _ ⟨(zL BK247.out 0).trans rfl, (zL BK247.out 1).trans rfl, (zL BK247.out 2).trans rfl, (zL BK261.out 0).trans rfl, (zL BK261.out 1).trans rfl⟩ (fun hHeld => ?_)
          clear hK K
          refine norm_ (a' := ?_) ?_ ?_
          rotate_left
          · show Act.put _ (some 14) _ = _
            simp only [Act.put, zS, zZ, zC, i64_w, i32_w]
            rfl
          exact norm_ (by first | (simp only [putAll, Act.put, zS, zZ, zC]; done) | (simp only [putAll, Act.put, zS, zZ, zC]; rfl)) (hJ3_7_9 (v263, v268, gb273) _ ⟨hHeld, (rl_ HO264), (rl_ HO269), (rl_ HO_10), (rl_ HO_248000), blk_, blk_, blk_, blk_, blk_, blk_, GW273.out, GE273.out, NB227_273.out, NB273_227.out, NB228_273.out, NB273_228.out, NB229_273.out, NB273_229.out, NB247_273.out, NB273_247.out, NB261_273.out, NB273_261.out, bel_⟩)
        intro hJ3_7
        refine join_ (σ := Value × Nat) 4 #[T_, T_, T_, T_, T_, T_, T_, F_, T_, F_, F_, F_] (fun s_ => [(81, .agg #[s_.1, .int .i64 t265, .int .i64 t266]), (13, .pointer (some ⟨s_.2, 0, none⟩))]) (fun s_ w' => (w'.cell? ⟨gb247, 0, none⟩ = some (.slice Ao58 t242.length co58) ∧ w'.cell? ⟨gb247, 1, none⟩ = some (.int .i64 t245) ∧ w'.cell? ⟨gb247, 2, none⟩ = some (.int .i64 t246) ∧ w'.cell? ⟨gb261, 0, none⟩ = some (.int .i64 t259) ∧ w'.cell? ⟨gb261, 1, none⟩ = some (.int .i64 t260)) ∧ (Kd.R k24 24 w' w.heap.size (fun k_ => some k_ ≠ (.slice Ao88 x10_2.length co88 : Value).ownBlock ∧ some k_ ≠ (.slice Ao58 t242.length co58 : Value).ownBlock ∧ k_ ≠ gb227 ∧ k_ ≠ gb228 ∧ k_ ≠ gb261) s_.1 t262) ∧ (Kd.R k24 24 w' w.heap.size (fun k_ => some k_ ≠ (s_.1 : Value).ownBlock ∧ some k_ ≠ (.slice Ao58 t242.length co58 : Value).ownBlock ∧ k_ ≠ gb227 ∧ k_ ≠ gb228 ∧ k_ ≠ gb261) (.slice Ao88 x10_2.length co88) x10_2) ∧ (Kd.R k24 24 w' w.heap.size (fun k_ => some k_ ≠ (s_.1 : Value).ownBlock ∧ some k_ ≠ (.slice Ao88 x10_2.length co88 : Value).ownBlock ∧ k_ ≠ gb227 ∧ k_ ≠ gb228 ∧ k_ ≠ gb261) (.slice Ao58 t242.length co58) t242) ∧ (w'.heap[gb227]? = some (.cells #[.int .i64 a0_0, .int .i64 a0_1] 24 (0, 0))) ∧ (w'.heap[gb228]? = some (.cells #[.int .i64 a1_0, .int .i64 a1_1] 24 (0, 0))) ∧ (w'.heap[gb229]? = some (.cells #[.slice A2_0 l2_0.length c2_0, .slice A2_1 l2_1.length c2_1] 44 (0, 0))) ∧ (w'.heap[gb247]? = some (.cells #[.slice Ao58 t242.length co58, .int .i64 t245, .int .i64 t246] 26 (0, 0))) ∧ (w'.heap[gb261]? = some (.cells #[.int .i64 t259, .int .i64 t260] 24 (0, 0))) ∧ (w'.heap[s_.2]? = some (.cells #[.slice none 0 0, .int .i64 0, .int .i64 0] 26 (0, 0))) ∧ (w.heap.size ≤ s_.2) ∧ (w.heap.size ≤ s_.2) ∧ (gb227 ≠ s_.2) ∧ (s_.2 ≠ gb227) ∧ (gb228 ≠ s_.2) ∧ (s_.2 ≠ gb228) ∧ (gb229 ≠ s_.2) ∧ (s_.2 ≠ gb229) ∧ (gb247 ≠ s_.2) ∧ (s_.2 ≠ gb247) ∧ (gb261 ≠ s_.2) ∧ (s_.2 ≠ gb261) ∧ (Below w.heap.size w w')) ?_ ?_
        rotate_left
        rotate_left
        · skip
          rintro ⟨v263, gb272⟩ w93 ⟨hS_, h0_, h1_, h2_, h3_, h4_, h5_, h6_, h7_, h8_, h9_, h10_, h11_, h12_, h13_, h14_, h15_, h16_, h17_, h18_, h19_, h20_, h21_⟩
          have HO264 : Aside0 (Kd.R k24 24 w93 w.heap.size (fun k_ => some k_ ≠ (.slice Ao88 x10_2.length co88 : Value).ownBlock ∧ some k_ ≠ (.slice Ao58 t242.length co58 : Value).ownBlock ∧ k_ ≠ gb227 ∧ k_ ≠ gb228 ∧ k_ ≠ gb261) v263 t262) := ⟨h0_⟩
          replace HO_10 : Aside0 (Kd.R k24 24 w93 w.heap.size (fun k_ => some k_ ≠ (v263 : Value).ownBlock ∧ some k_ ≠ (.slice Ao58 t242.length co58 : Value).ownBlock ∧ k_ ≠ gb227 ∧ k_ ≠ gb228 ∧ k_ ≠ gb261) (.slice Ao88 x10_2.length co88) x10_2) := ⟨h1_⟩
          replace HO_248000 : Aside0 (Kd.R k24 24 w93 w.heap.size (fun k_ => some k_ ≠ (v263 : Value).ownBlock ∧ some k_ ≠ (.slice Ao88 x10_2.length co88 : Value).ownBlock ∧ k_ ≠ gb227 ∧ k_ ≠ gb228 ∧ k_ ≠ gb261) (.slice Ao58 t242.length co58) t242) := ⟨h2_⟩
          replace BK227 : Aside0 (w93.heap[gb227]? = some (.cells #[.int .i64 a0_0, .int .i64 a0_1] 24 (0, 0))) := ⟨h3_⟩
          replace BK228 : Aside0 (w93.heap[gb228]? = some (.cells #[.int .i64 a1_0, .int .i64 a1_1] 24 (0, 0))) := ⟨h4_⟩
          replace BK229 : Aside0 (w93.heap[gb229]? = some (.cells #[.slice A2_0 l2_0.length c2_0, .slice A2_1 l2_1.length c2_1] 44 (0, 0))) := ⟨h5_⟩
          replace BK247 : Aside0 (w93.heap[gb247]? = some (.cells #[.slice Ao58 t242.length co58, .int .i64 t245, .int .i64 t246] 26 (0, 0))) := ⟨h6_⟩
          replace BK261 : Aside0 (w93.heap[gb261]? = some (.cells #[.int .i64 t259, .int .i64 t260] 24 (0, 0))) := ⟨h7_⟩
          have BK272 : Aside0 (w93.heap[gb272]? = some (.cells #[.slice none 0 0, .int .i64 0, .int .i64 0] 26 (0, 0))) := ⟨h8_⟩
          have GW272 : Aside0 (w.heap.size ≤ gb272) := ⟨h9_⟩
          have GE272 : Aside0 (w.heap.size ≤ gb272) := ⟨h10_⟩
          have NB227_272 : Aside0 (gb227 ≠ gb272) := ⟨h11_⟩
          have NB272_227 : Aside0 (gb272 ≠ gb227) := ⟨h12_⟩
          have NB228_272 : Aside0 (gb228 ≠ gb272) := ⟨h13_⟩
          have NB272_228 : Aside0 (gb272 ≠ gb228) := ⟨h14_⟩
          have NB229_272 : Aside0 (gb229 ≠ gb272) := ⟨h15_⟩
          have NB272_229 : Aside0 (gb272 ≠ gb229) := ⟨h16_⟩
          have NB247_272 : Aside0 (gb247 ≠ gb272) := ⟨h17_⟩
          have NB272_247 : Aside0 (gb272 ≠ gb247) := ⟨h18_⟩
          have NB261_272 : Aside0 (gb261 ≠ gb272) := ⟨h19_⟩
          have NB272_261 : Aside0 (gb272 ≠ gb261) := ⟨h20_⟩
          replace HB : Aside0 (Below w.heap.size w w93) := ⟨h21_⟩
          clear h0_ h1_ h2_ h3_ h4_ h5_ h6_ h7_ h8_ h9_ h10_ h11_ h12_ h13_ h14_ h15_ h16_ h17_ h18_ h19_ h20_ h21_
          have hHeld : w93.cell? ⟨gb247, 0, none⟩ = some (.slice Ao58 t242.length co58) ∧ w93.cell? ⟨gb247, 1, none⟩ = some (.int .i64 t245) ∧ w93.cell? ⟨gb247, 2, none⟩ = some (.int .i64 t246) ∧ w93.cell? ⟨gb261, 0, none⟩ = some (.int .i64 t259) ∧ w93.cell? ⟨gb261, 1, none⟩ = some (.int .i64 t260) := hS_
          refine norm_ (a' := ?_) ?_ ?_
          rotate_left
          · simp only [putAll, Act.put, zS, zZ, zC]
            rfl
          refine two_ (i := 7) (j := 9) (Ni := some 85) (Nj := some 14) #[T_, T_, T_, T_, T_, T_, T_, T_, T_, F_, F_, F_] #[T_, T_, T_, T_, T_, T_, T_, F_, T_, T_, F_, F_] rfl rfl rfl rfl (two_of HT_.out (by kernel_rfl)) (by decide) (by decide) (fun K hK => ?_) (fun K hK => ?_)
          · skip
            refine goes_ Try.func14 (by kernel_rfl) rfl #[.agg #[.slice Ao58 t242.length co58, .int .i64 t245, .int .i64 t246], .agg #[.int .i64 t259, .int .i64 t260], .slice Ao88 x10_2.length co88] (by rfl) rfl rfl (by (try simp only [List.map_toArray, List.map_cons, List.map_nil]); first | done | rfl | (simp only [List.length_drop, List.length_take]; rfl)) ?_
            with_reducible refine (front_Step.calls k2 _ _ t242 t245 t246 t259 t260 _ _ x10_2 t267 t270 t271 _ ?side1 ?side2 ?side3 ?side4 A75.out).mono ?_
            (case side1 => repeat (first | exact (Kd.R_reads' HO_248000.out).2.2 | (with_reducible refine Kd.C_alloc ?_ _) | (with_reducible refine Kd.C_drewN ?_ _) | (with_reducible refine Kd.C_drew ?_)))
            (case side2 => exact (Kd.R_reads' HO_248000.out).2.1)
            (case side3 => repeat (first | exact (Kd.R_reads' HO_10.out).2.2 | (with_reducible refine Kd.C_alloc ?_ _) | (with_reducible refine Kd.C_drewN ?_ _) | (with_reducible refine Kd.C_drew ?_)))
            (case side4 => exact (Kd.R_reads' HO_10.out).2.1)
            rintro e w94 ⟨v268, rfl, ho0, hb⟩
            refine ⟨_, rfl, ?_⟩
            have HO269 := zM (Kd.R_lower (Kd.R_newB (Kd.R_newB (Kd.R_newB (Kd.R_new' (Kd.R_new' (Kd.R_new' ho0 (Kd.R_lt (rl_ HO_10))) (Kd.R_lt (rl_ HO_248000))) (Kd.R_lt (rl_ HO264))) (g := gb227) (o := .cells #[.int .i64 a0_0, .int .i64 a0_1] 24 (0, 0)) blk_) (g := gb228) (o := .cells #[.int .i64 a1_0, .int .i64 a1_1] 24 (0, 0)) blk_) (g := gb261) (o := .cells #[.int .i64 t259, .int .i64 t260] 24 (0, 0)) blk_) (below_size bel_))
            replace HO_10 := zM (Kd.R_elder' (rl_ HO_10) (Kd.R_base ho0) hb)
            replace HO_248000 := zM (Kd.R_elder' (rl_ HO_248000) (Kd.R_base ho0) hb)
            replace HO264 := zM (Kd.R_elder' (rl_ HO264) (Kd.R_base ho0) hb)
            replace BK227 := zM (bb_ BK227 hb)
            replace BK228 := zM (bb_ BK228 hb)
            replace BK229 := zM (bb_ BK229 hb)
            replace BK247 := zM (bb_ BK247 hb)
            replace BK261 := zM (bb_ BK261 hb)
            replace BK272 := zM (bb_ BK272 hb)
            replace HB := zM (zB bel_ hb)
            (try clear hb)
            (try clear hb2)
            (try clear hk)
            (try clear hi)
            (try clear ho0)
            refine hK.out _ _ ⟨(zL BK247.out 0).trans rfl, (zL BK247.out 1).trans rfl, (zL BK247.out 2).trans rfl, (zL BK261.out 0).trans rfl, (zL BK261.out 1).trans rfl⟩ (fun hHeld => ?_)
            clear hK K
            refine norm_ (a' := ?_) ?_ ?_
            rotate_left
            · show Act.put _ (some 85) _ = _
              simp only [Act.put, zS, zZ, zC, i64_w, i32_w]
              rfl
            exact norm_ (by first | (simp only [putAll, Act.put, zS, zZ, zC]; done) | (simp only [putAll, Act.put, zS, zZ, zC]; rfl)) (hJ3_7_8 (v263, v268, gb272) _ ⟨hHeld, (by (with_reducible repeat (first | apply Kd.R_alloc | apply Kd.R_drewN | apply Kd.R_drew)); exact Kd.R_mono HO264.out (fun _ hk => ⟨hk.2, ⟨hk.1.1, ⟨hk.1.2.1, ⟨hk.1.2.2.1, ⟨hk.1.2.2.2.1, hk.1.2.2.2.2⟩⟩⟩⟩⟩)), (by (with_reducible repeat (first | apply Kd.R_alloc | apply Kd.R_drewN | apply Kd.R_drew)); exact Kd.R_mono HO269.out (fun _ hk => ⟨hk.1.1.1.2, ⟨hk.1.1.1.1.1.2, ⟨hk.1.1.1.1.2, ⟨hk.1.1.2, ⟨hk.1.2, hk.2⟩⟩⟩⟩⟩)), (by (with_reducible repeat (first | apply Kd.R_alloc | apply Kd.R_drewN | apply Kd.R_drew)); exact Kd.R_mono HO_10.out (fun _ hk => ⟨hk.1.1, ⟨hk.2, ⟨hk.1.2.1, ⟨hk.1.2.2.1, ⟨hk.1.2.2.2.1, hk.1.2.2.2.2⟩⟩⟩⟩⟩)), (by (with_reducible repeat (first | apply Kd.R_alloc | apply Kd.R_drewN | apply Kd.R_drew)); exact Kd.R_mono HO_248000.out (fun _ hk => ⟨hk.1.1, ⟨hk.2, ⟨hk.1.2.1, ⟨hk.1.2.2.1, ⟨hk.1.2.2.2.1, hk.1.2.2.2.2⟩⟩⟩⟩⟩)), blk_, blk_, blk_, blk_, blk_, blk_, GW272.out, GE272.out, NB227_272.out, NB272_227.out, NB228_272.out, NB272_228.out, NB229_272.out, NB272_229.out, NB247_272.out, NB272_247.out, NB261_272.out, NB272_261.out, bel_⟩)
          skip
          refine box_step ?hg (N := 14) ?hd (cs := #[.slice none 0 0, .int .i64 0, .int .i64 0]) (t := 26) ?hr ?_; (case hd => rfl); (case hg => rfl); (case hr => first | (go_simp; done) | (go_simp; rfl))
          intro gb273 hg w94 hbox hb
          replace HO_10 := zM (Kd.R_below (rl_ HO_10) hb)
          replace HO_248000 := zM (Kd.R_below (rl_ HO_248000) hb)
          replace HO264 := zM (Kd.R_below (rl_ HO264) hb)
          have BK273 := zM (hbox)
          have GW273 := zM (bs_ hg)
          have GE273 := zM (bs_ hg)
          replace HB := zM (zB bel_ hb)
          have NB227_273 := zM (nl_ BK227 hg)
          have NB273_227 := zM (ng_ BK227 hg)
          replace BK227 := zM (bb_ BK227 hb)
          have NB228_273 := zM (nl_ BK228 hg)
          have NB273_228 := zM (ng_ BK228 hg)
          replace BK228 := zM (bb_ BK228 hb)
          have NB229_273 := zM (nl_ BK229 hg)
          have NB273_229 := zM (ng_ BK229 hg)
          replace BK229 := zM (bb_ BK229 hb)
          have NB247_273 := zM (nl_ BK247 hg)
          have NB273_247 := zM (ng_ BK247 hg)
          replace BK247 := zM (bb_ BK247 hb)
          have NB261_273 := zM (nl_ BK261 hg)
          have NB273_261 := zM (ng_ BK261 hg)
          replace BK261 := zM (bb_ BK261 hb)
          have NB272_273 := zM (nl_ BK272 hg)
          have NB273_272 := zM (ng_ BK272 hg)
          replace BK272 := zM (bb_ BK272 hb)
          clear hb hbox hg
          refine hK.out _ _ ⟨(zL BK247.out 0).trans rfl, (zL BK247.out 1).trans rfl, (zL BK247.out 2).trans rfl, (zL BK261.out 0).trans rfl, (zL BK261.out 1).trans rfl⟩ (fun hHeld => ?_)
          clear hK K
          refine norm_ (a' := ?_) ?_ ?_
          rotate_left
          · show Act.put _ (some 14) _ = _
            simp only [Act.put, zS, zZ, zC, i64_w, i32_w]
            rfl
          exact norm_ (by first | (simp only [putAll, Act.put, zS, zZ, zC]; done) | (simp only [putAll, Act.put, zS, zZ, zC]; rfl)) (hJ3_8_9 (v263, gb272, gb273) _ ⟨hHeld, (rl_ HO264), (rl_ HO_10), (rl_ HO_248000), blk_, blk_, blk_, blk_, blk_, blk_, blk_, GW272.out, GE272.out, NB227_272.out, NB272_227.out, NB228_272.out, NB272_228.out, NB229_272.out, NB272_229.out, NB247_272.out, NB272_247.out, NB261_272.out, NB272_261.out, NB273_272.out, NB272_273.out, GW273.out, GE273.out, NB227_273.out, NB273_227.out, NB228_273.out, NB273_228.out, NB229_273.out, NB273_229.out, NB247_273.out, NB273_247.out, NB261_273.out, NB273_261.out, bel_⟩)
        intro hJ3_8
        refine join_ (σ := Value × Nat) 4 #[T_, T_, T_, T_, T_, T_, T_, F_, F_, T_, F_, F_] (fun s_ => [(81, .agg #[s_.1, .int .i64 t265, .int .i64 t266]), (14, .pointer (some ⟨s_.2, 0, none⟩))]) (fun s_ w' => (w'.cell? ⟨gb247, 0, none⟩ = some (.slice Ao58 t242.length co58) ∧ w'.cell? ⟨gb247, 1, none⟩ = some (.int .i64 t245) ∧ w'.cell? ⟨gb247, 2, none⟩ = some (.int .i64 t246) ∧ w'.cell? ⟨gb261, 0, none⟩ = some (.int .i64 t259) ∧ w'.cell? ⟨gb261, 1, none⟩ = some (.int .i64 t260)) ∧ (Kd.R k24 24 w' w.heap.size (fun k_ => some k_ ≠ (.slice Ao88 x10_2.length co88 : Value).ownBlock ∧ some k_ ≠ (.slice Ao58 t242.length co58 : Value).ownBlock ∧ k_ ≠ gb227 ∧ k_ ≠ gb228 ∧ k_ ≠ gb261) s_.1 t262) ∧ (Kd.R k24 24 w' w.heap.size (fun k_ => some k_ ≠ (s_.1 : Value).ownBlock ∧ some k_ ≠ (.slice Ao58 t242.length co58 : Value).ownBlock ∧ k_ ≠ gb227 ∧ k_ ≠ gb228 ∧ k_ ≠ gb261) (.slice Ao88 x10_2.length co88) x10_2) ∧ (Kd.R k24 24 w' w.heap.size (fun k_ => some k_ ≠ (s_.1 : Value).ownBlock ∧ some k_ ≠ (.slice Ao88 x10_2.length co88 : Value).ownBlock ∧ k_ ≠ gb227 ∧ k_ ≠ gb228 ∧ k_ ≠ gb261) (.slice Ao58 t242.length co58) t242) ∧ (w'.heap[gb227]? = some (.cells #[.int .i64 a0_0, .int .i64 a0_1] 24 (0, 0))) ∧ (w'.heap[gb228]? = some (.cells #[.int .i64 a1_0, .int .i64 a1_1] 24 (0, 0))) ∧ (w'.heap[gb229]? = some (.cells #[.slice A2_0 l2_0.length c2_0, .slice A2_1 l2_1.length c2_1] 44 (0, 0))) ∧ (w'.heap[gb247]? = some (.cells #[.slice Ao58 t242.length co58, .int .i64 t245, .int .i64 t246] 26 (0, 0))) ∧ (w'.heap[gb261]? = some (.cells #[.int .i64 t259, .int .i64 t260] 24 (0, 0))) ∧ (w'.heap[s_.2]? = some (.cells #[.slice none 0 0, .int .i64 0, .int .i64 0] 26 (0, 0))) ∧ (w.heap.size ≤ s_.2) ∧ (w.heap.size ≤ s_.2) ∧ (gb227 ≠ s_.2) ∧ (s_.2 ≠ gb227) ∧ (gb228 ≠ s_.2) ∧ (s_.2 ≠ gb228) ∧ (gb229 ≠ s_.2) ∧ (s_.2 ≠ gb229) ∧ (gb247 ≠ s_.2) ∧ (s_.2 ≠ gb247) ∧ (gb261 ≠ s_.2) ∧ (s_.2 ≠ gb261) ∧ (Below w.heap.size w w')) ?_ ?_
        rotate_left
        rotate_left
        · skip
          rintro ⟨v263, gb273⟩ w93 ⟨hS_, h0_, h1_, h2_, h3_, h4_, h5_, h6_, h7_, h8_, h9_, h10_, h11_, h12_, h13_, h14_, h15_, h16_, h17_, h18_, h19_, h20_, h21_⟩
          have HO264 : Aside0 (Kd.R k24 24 w93 w.heap.size (fun k_ => some k_ ≠ (.slice Ao88 x10_2.length co88 : Value).ownBlock ∧ some k_ ≠ (.slice Ao58 t242.length co58 : Value).ownBlock ∧ k_ ≠ gb227 ∧ k_ ≠ gb228 ∧ k_ ≠ gb261) v263 t262) := ⟨h0_⟩
          replace HO_10 : Aside0 (Kd.R k24 24 w93 w.heap.size (fun k_ => some k_ ≠ (v263 : Value).ownBlock ∧ some k_ ≠ (.slice Ao58 t242.length co58 : Value).ownBlock ∧ k_ ≠ gb227 ∧ k_ ≠ gb228 ∧ k_ ≠ gb261) (.slice Ao88 x10_2.length co88) x10_2) := ⟨h1_⟩
          replace HO_248000 : Aside0 (Kd.R k24 24 w93 w.heap.size (fun k_ => some k_ ≠ (v263 : Value).ownBlock ∧ some k_ ≠ (.slice Ao88 x10_2.length co88 : Value).ownBlock ∧ k_ ≠ gb227 ∧ k_ ≠ gb228 ∧ k_ ≠ gb261) (.slice Ao58 t242.length co58) t242) := ⟨h2_⟩
          replace BK227 : Aside0 (w93.heap[gb227]? = some (.cells #[.int .i64 a0_0, .int .i64 a0_1] 24 (0, 0))) := ⟨h3_⟩
          replace BK228 : Aside0 (w93.heap[gb228]? = some (.cells #[.int .i64 a1_0, .int .i64 a1_1] 24 (0, 0))) := ⟨h4_⟩
          replace BK229 : Aside0 (w93.heap[gb229]? = some (.cells #[.slice A2_0 l2_0.length c2_0, .slice A2_1 l2_1.length c2_1] 44 (0, 0))) := ⟨h5_⟩
          replace BK247 : Aside0 (w93.heap[gb247]? = some (.cells #[.slice Ao58 t242.length co58, .int .i64 t245, .int .i64 t246] 26 (0, 0))) := ⟨h6_⟩
          replace BK261 : Aside0 (w93.heap[gb261]? = some (.cells #[.int .i64 t259, .int .i64 t260] 24 (0, 0))) := ⟨h7_⟩
          have BK273 : Aside0 (w93.heap[gb273]? = some (.cells #[.slice none 0 0, .int .i64 0, .int .i64 0] 26 (0, 0))) := ⟨h8_⟩
          have GW273 : Aside0 (w.heap.size ≤ gb273) := ⟨h9_⟩
          have GE273 : Aside0 (w.heap.size ≤ gb273) := ⟨h10_⟩
          have NB227_273 : Aside0 (gb227 ≠ gb273) := ⟨h11_⟩
          have NB273_227 : Aside0 (gb273 ≠ gb227) := ⟨h12_⟩
          have NB228_273 : Aside0 (gb228 ≠ gb273) := ⟨h13_⟩
          have NB273_228 : Aside0 (gb273 ≠ gb228) := ⟨h14_⟩
          have NB229_273 : Aside0 (gb229 ≠ gb273) := ⟨h15_⟩
          have NB273_229 : Aside0 (gb273 ≠ gb229) := ⟨h16_⟩
          have NB247_273 : Aside0 (gb247 ≠ gb273) := ⟨h17_⟩
          have NB273_247 : Aside0 (gb273 ≠ gb247) := ⟨h18_⟩
          have NB261_273 : Aside0 (gb261 ≠ gb273) := ⟨h19_⟩
          have NB273_261 : Aside0 (gb273 ≠ gb261) := ⟨h20_⟩
          replace HB : Aside0 (Below w.heap.size w w93) := ⟨h21_⟩
          clear h0_ h1_ h2_ h3_ h4_ h5_ h6_ h7_ h8_ h9_ h10_ h11_ h12_ h13_ h14_ h15_ h16_ h17_ h18_ h19_ h20_ h21_
          have hHeld : w93.cell? ⟨gb247, 0, none⟩ = some (.slice Ao58 t242.length co58) ∧ w93.cell? ⟨gb247, 1, none⟩ = some (.int .i64 t245) ∧ w93.cell? ⟨gb247, 2, none⟩ = some (.int .i64 t246) ∧ w93.cell? ⟨gb261, 0, none⟩ = some (.int .i64 t259) ∧ w93.cell? ⟨gb261, 1, none⟩ = some (.int .i64 t260) := hS_
          refine norm_ (a' := ?_) ?_ ?_
          rotate_left
          · simp only [putAll, Act.put, zS, zZ, zC]
            rfl
          refine two_ (i := 7) (j := 8) (Ni := some 85) (Nj := some 13) #[T_, T_, T_, T_, T_, T_, T_, T_, F_, T_, F_, F_] #[T_, T_, T_, T_, T_, T_, T_, F_, T_, T_, F_, F_] rfl rfl rfl rfl (two_of HT_.out (by kernel_rfl)) (by decide) (by decide) (fun K hK => ?_) (fun K hK => ?_)
          · skip
            refine goes_ Try.func14 (by kernel_rfl) rfl #[.agg #[.slice Ao58 t242.length co58, .int .i64 t245, .int .i64 t246], .agg #[.int .i64 t259, .int .i64 t260], .slice Ao88 x10_2.length co88] (by rfl) rfl rfl (by (try simp only [List.map_toArray, List.map_cons, List.map_nil]); first | done | rfl | (simp only [List.length_drop, List.length_take]; rfl)) ?_
            with_reducible refine (front_Step.calls k2 _ _ t242 t245 t246 t259 t260 _ _ x10_2 t267 t270 t271 _ ?side1 ?side2 ?side3 ?side4 A75.out).mono ?_
            (case side1 => repeat (first | exact (Kd.R_reads' HO_248000.out).2.2 | (with_reducible refine Kd.C_alloc ?_ _) | (with_reducible refine Kd.C_drewN ?_ _) | (with_reducible refine Kd.C_drew ?_)))
            (case side2 => exact (Kd.R_reads' HO_248000.out).2.1)
            (case side3 => repeat (first | exact (Kd.R_reads' HO_10.out).2.2 | (with_reducible refine Kd.C_alloc ?_ _) | (with_reducible refine Kd.C_drewN ?_ _) | (with_reducible refine Kd.C_drew ?_)))
            (case side4 => exact (Kd.R_reads' HO_10.out).2.1)
            rintro e w94 ⟨v268, rfl, ho0, hb⟩
            refine ⟨_, rfl, ?_⟩
            have HO269 := zM (Kd.R_lower (Kd.R_newB (Kd.R_newB (Kd.R_newB (Kd.R_new' (Kd.R_new' (Kd.R_new' ho0 (Kd.R_lt (rl_ HO_10))) (Kd.R_lt (rl_ HO_248000))) (Kd.R_lt (rl_ HO264))) (g := gb227) (o := .cells #[.int .i64 a0_0, .int .i64 a0_1] 24 (0, 0)) blk_) (g := gb228) (o := .cells #[.int .i64 a1_0, .int .i64 a1_1] 24 (0, 0)) blk_) (g := gb261) (o := .cells #[.int .i64 t259, .int .i64 t260] 24 (0, 0)) blk_) (below_size bel_))
            replace HO_10 := zM (Kd.R_elder' (rl_ HO_10) (Kd.R_base ho0) hb)
            replace HO_248000 := zM (Kd.R_elder' (rl_ HO_248000) (Kd.R_base ho0) hb)
            replace HO264 := zM (Kd.R_elder' (rl_ HO264) (Kd.R_base ho0) hb)
            replace BK227 := zM (bb_ BK227 hb)
            replace BK228 := zM (bb_ BK228 hb)
            replace BK229 := zM (bb_ BK229 hb)
            replace BK247 := zM (bb_ BK247 hb)
            replace BK261 := zM (bb_ BK261 hb)
            replace BK273 := zM (bb_ BK273 hb)
            replace HB := zM (zB bel_ hb)
            (try clear hb)
            (try clear hb2)
            (try clear hk)
            (try clear hi)
            (try clear ho0)
            refine hK.out _ _ ⟨(zL BK247.out 0).trans rfl, (zL BK247.out 1).trans rfl, (zL BK247.out 2).trans rfl, (zL BK261.out 0).trans rfl, (zL BK261.out 1).trans rfl⟩ (fun hHeld => ?_)
            clear hK K
            refine norm_ (a' := ?_) ?_ ?_
            rotate_left
            · show Act.put _ (some 85) _ = _
              simp only [Act.put, zS, zZ, zC, i64_w, i32_w]
              rfl
            exact norm_ (by first | (simp only [putAll, Act.put, zS, zZ, zC]; done) | (simp only [putAll, Act.put, zS, zZ, zC]; rfl)) (hJ3_7_9 (v263, v268, gb273) _ ⟨hHeld, (by (with_reducible repeat (first | apply Kd.R_alloc | apply Kd.R_drewN | apply Kd.R_drew)); exact Kd.R_mono HO264.out (fun _ hk => ⟨hk.2, ⟨hk.1.1, ⟨hk.1.2.1, ⟨hk.1.2.2.1, ⟨hk.1.2.2.2.1, hk.1.2.2.2.2⟩⟩⟩⟩⟩)), (by (with_reducible repeat (first | apply Kd.R_alloc | apply Kd.R_drewN | apply Kd.R_drew)); exact Kd.R_mono HO269.out (fun _ hk => ⟨hk.1.1.1.2, ⟨hk.1.1.1.1.1.2, ⟨hk.1.1.1.1.2, ⟨hk.1.1.2, ⟨hk.1.2, hk.2⟩⟩⟩⟩⟩)), (by (with_reducible repeat (first | apply Kd.R_alloc | apply Kd.R_drewN | apply Kd.R_drew)); exact Kd.R_mono HO_10.out (fun _ hk => ⟨hk.1.1, ⟨hk.2, ⟨hk.1.2.1, ⟨hk.1.2.2.1, ⟨hk.1.2.2.2.1, hk.1.2.2.2.2⟩⟩⟩⟩⟩)), (by (with_reducible repeat (first | apply Kd.R_alloc | apply Kd.R_drewN | apply Kd.R_drew)); exact Kd.R_mono HO_248000.out (fun _ hk => ⟨hk.1.1, ⟨hk.2, ⟨hk.1.2.1, ⟨hk.1.2.2.1, ⟨hk.1.2.2.2.1, hk.1.2.2.2.2⟩⟩⟩⟩⟩)), blk_, blk_, blk_, blk_, blk_, blk_, GW273.out, GE273.out, NB227_273.out, NB273_227.out, NB228_273.out, NB273_228.out, NB229_273.out, NB273_229.out, NB247_273.out, NB273_247.out, NB261_273.out, NB273_261.out, bel_⟩)
          skip
          refine box_step ?hg (N := 13) ?hd (cs := #[.slice none 0 0, .int .i64 0, .int .i64 0]) (t := 26) ?hr ?_; (case hd => rfl); (case hg => rfl); (case hr => first | (go_simp; done) | (go_simp; rfl))
          intro gb272 hg w94 hbox hb
          replace HO_10 := zM (Kd.R_below (rl_ HO_10) hb)
          replace HO_248000 := zM (Kd.R_below (rl_ HO_248000) hb)
          replace HO264 := zM (Kd.R_below (rl_ HO264) hb)
          have BK272 := zM (hbox)
          have GW272 := zM (bs_ hg)
          have GE272 := zM (bs_ hg)
          replace HB := zM (zB bel_ hb)
          have NB227_272 := zM (nl_ BK227 hg)
          have NB272_227 := zM (ng_ BK227 hg)
          replace BK227 := zM (bb_ BK227 hb)
          have NB228_272 := zM (nl_ BK228 hg)
          have NB272_228 := zM (ng_ BK228 hg)
          replace BK228 := zM (bb_ BK228 hb)
          have NB229_272 := zM (nl_ BK229 hg)
          have NB272_229 := zM (ng_ BK229 hg)
          replace BK229 := zM (bb_ BK229 hb)
          have NB247_272 := zM (nl_ BK247 hg)
          have NB272_247 := zM (ng_ BK247 hg)
          replace BK247 := zM (bb_ BK247 hb)
          have NB261_272 := zM (nl_ BK261 hg)
          have NB272_261 := zM (ng_ BK261 hg)
          replace BK261 := zM (bb_ BK261 hb)
          have NB273_272 := zM (nl_ BK273 hg)
          have NB272_273 := zM (ng_ BK273 hg)
          replace BK273 := zM (bb_ BK273 hb)
          clear hb hbox hg
          refine hK.out _ _ ⟨(zL BK247.out 0).trans rfl, (zL BK247.out 1).trans rfl, (zL BK247.out 2).trans rfl, (zL BK261.out 0).trans rfl, (zL BK261.out 1).trans rfl⟩ (fun hHeld => ?_)
          clear hK K
          refine norm_ (a' := ?_) ?_ ?_
          rotate_left
          · show Act.put _ (some 13) _ = _
            simp only [Act.put, zS, zZ, zC, i64_w, i32_w]
            rfl
          exact norm_ (by first | (simp only [putAll, Act.put, zS, zZ, zC]; done) | (simp only [putAll, Act.put, zS, zZ, zC]; rfl)) (hJ3_8_9 (v263, gb272, gb273) _ ⟨hHeld, (rl_ HO264), (rl_ HO_10), (rl_ HO_248000), blk_, blk_, blk_, blk_, blk_, blk_, blk_, GW272.out, GE272.out, NB227_272.out, NB272_227.out, NB228_272.out, NB272_228.out, NB229_272.out, NB272_229.out, NB247_272.out, NB272_247.out, NB261_272.out, NB272_261.out, NB273_272.out, NB272_273.out, GW273.out, GE273.out, NB227_273.out, NB273_227.out, NB228_273.out, NB273_228.out, NB229_273.out, NB273_229.out, NB247_273.out, NB273_247.out, NB261_273.out, NB273_261.out, bel_⟩)
        intro hJ3_9
        refine join_ (σ := Nat × Nat) 4 #[T_, T_, T_, F_, T_, T_, T_, F_, T_, T_, F_, F_] (fun s_ => [(13, .pointer (some ⟨s_.1, 0, none⟩)), (14, .pointer (some ⟨s_.2, 0, none⟩))]) (fun s_ w' => (w'.cell? ⟨gb247, 0, none⟩ = some (.slice Ao58 t242.length co58) ∧ w'.cell? ⟨gb247, 1, none⟩ = some (.int .i64 t245) ∧ w'.cell? ⟨gb247, 2, none⟩ = some (.int .i64 t246) ∧ w'.cell? ⟨gb261, 0, none⟩ = some (.int .i64 t259) ∧ w'.cell? ⟨gb261, 1, none⟩ = some (.int .i64 t260)) ∧ (Kd.R k24 24 w' w.heap.size (fun k_ => some k_ ≠ (.slice Ao58 t242.length co58 : Value).ownBlock ∧ k_ ≠ gb227 ∧ k_ ≠ gb228 ∧ k_ ≠ gb261) (.slice Ao88 x10_2.length co88) x10_2) ∧ (Kd.R k24 24 w' w.heap.size (fun k_ => some k_ ≠ (.slice Ao88 x10_2.length co88 : Value).ownBlock ∧ k_ ≠ gb227 ∧ k_ ≠ gb228 ∧ k_ ≠ gb261) (.slice Ao58 t242.length co58) t242) ∧ (w'.heap[gb227]? = some (.cells #[.int .i64 a0_0, .int .i64 a0_1] 24 (0, 0))) ∧ (w'.heap[gb228]? = some (.cells #[.int .i64 a1_0, .int .i64 a1_1] 24 (0, 0))) ∧ (w'.heap[gb229]? = some (.cells #[.slice A2_0 l2_0.length c2_0, .slice A2_1 l2_1.length c2_1] 44 (0, 0))) ∧ (w'.heap[gb247]? = some (.cells #[.slice Ao58 t242.length co58, .int .i64 t245, .int .i64 t246] 26 (0, 0))) ∧ (w'.heap[gb261]? = some (.cells #[.int .i64 t259, .int .i64 t260] 24 (0, 0))) ∧ (w'.heap[s_.1]? = some (.cells #[.slice none 0 0, .int .i64 0, .int .i64 0] 26 (0, 0))) ∧ (w'.heap[s_.2]? = some (.cells #[.slice none 0 0, .int .i64 0, .int .i64 0] 26 (0, 0))) ∧ (w.heap.size ≤ s_.1) ∧ (w.heap.size ≤ s_.1) ∧ (gb227 ≠ s_.1) ∧ (s_.1 ≠ gb227) ∧ (gb228 ≠ s_.1) ∧ (s_.1 ≠ gb228) ∧ (gb229 ≠ s_.1) ∧ (s_.1 ≠ gb229) ∧ (gb247 ≠ s_.1) ∧ (s_.1 ≠ gb247) ∧ (gb261 ≠ s_.1) ∧ (s_.1 ≠ gb261) ∧ (s_.2 ≠ s_.1) ∧ (s_.1 ≠ s_.2) ∧ (w.heap.size ≤ s_.2) ∧ (w.heap.size ≤ s_.2) ∧ (gb227 ≠ s_.2) ∧ (s_.2 ≠ gb227) ∧ (gb228 ≠ s_.2) ∧ (s_.2 ≠ gb228) ∧ (gb229 ≠ s_.2) ∧ (s_.2 ≠ gb229) ∧ (gb247 ≠ s_.2) ∧ (s_.2 ≠ gb247) ∧ (gb261 ≠ s_.2) ∧ (s_.2 ≠ gb261) ∧ (Below w.heap.size w w')) ?_ ?_
        rotate_left
        rotate_left
        · skip
          rintro ⟨gb272, gb273⟩ w93 ⟨hS_, h0_, h1_, h2_, h3_, h4_, h5_, h6_, h7_, h8_, h9_, h10_, h11_, h12_, h13_, h14_, h15_, h16_, h17_, h18_, h19_, h20_, h21_, h22_, h23_, h24_, h25_, h26_, h27_, h28_, h29_, h30_, h31_, h32_, h33_, h34_, h35_⟩
          replace HO_10 : Aside0 (Kd.R k24 24 w93 w.heap.size (fun k_ => some k_ ≠ (.slice Ao58 t242.length co58 : Value).ownBlock ∧ k_ ≠ gb227 ∧ k_ ≠ gb228 ∧ k_ ≠ gb261) (.slice Ao88 x10_2.length co88) x10_2) := ⟨h0_⟩
          replace HO_248000 : Aside0 (Kd.R k24 24 w93 w.heap.size (fun k_ => some k_ ≠ (.slice Ao88 x10_2.length co88 : Value).ownBlock ∧ k_ ≠ gb227 ∧ k_ ≠ gb228 ∧ k_ ≠ gb261) (.slice Ao58 t242.length co58) t242) := ⟨h1_⟩
          replace BK227 : Aside0 (w93.heap[gb227]? = some (.cells #[.int .i64 a0_0, .int .i64 a0_1] 24 (0, 0))) := ⟨h2_⟩
          replace BK228 : Aside0 (w93.heap[gb228]? = some (.cells #[.int .i64 a1_0, .int .i64 a1_1] 24 (0, 0))) := ⟨h3_⟩
          replace BK229 : Aside0 (w93.heap[gb229]? = some (.cells #[.slice A2_0 l2_0.length c2_0, .slice A2_1 l2_1.length c2_1] 44 (0, 0))) := ⟨h4_⟩
          replace BK247 : Aside0 (w93.heap[gb247]? = some (.cells #[.slice Ao58 t242.length co58, .int .i64 t245, .int .i64 t246] 26 (0, 0))) := ⟨h5_⟩
          replace BK261 : Aside0 (w93.heap[gb261]? = some (.cells #[.int .i64 t259, .int .i64 t260] 24 (0, 0))) := ⟨h6_⟩
          have BK272 : Aside0 (w93.heap[gb272]? = some (.cells #[.slice none 0 0, .int .i64 0, .int .i64 0] 26 (0, 0))) := ⟨h7_⟩
          have BK273 : Aside0 (w93.heap[gb273]? = some (.cells #[.slice none 0 0, .int .i64 0, .int .i64 0] 26 (0, 0))) := ⟨h8_⟩
          have GW272 : Aside0 (w.heap.size ≤ gb272) := ⟨h9_⟩
          have GE272 : Aside0 (w.heap.size ≤ gb272) := ⟨h10_⟩
          have NB227_272 : Aside0 (gb227 ≠ gb272) := ⟨h11_⟩
          have NB272_227 : Aside0 (gb272 ≠ gb227) := ⟨h12_⟩
          have NB228_272 : Aside0 (gb228 ≠ gb272) := ⟨h13_⟩
          have NB272_228 : Aside0 (gb272 ≠ gb228) := ⟨h14_⟩
          have NB229_272 : Aside0 (gb229 ≠ gb272) := ⟨h15_⟩
          have NB272_229 : Aside0 (gb272 ≠ gb229) := ⟨h16_⟩
          have NB247_272 : Aside0 (gb247 ≠ gb272) := ⟨h17_⟩
          have NB272_247 : Aside0 (gb272 ≠ gb247) := ⟨h18_⟩
          have NB261_272 : Aside0 (gb261 ≠ gb272) := ⟨h19_⟩
          have NB272_261 : Aside0 (gb272 ≠ gb261) := ⟨h20_⟩
          have NB273_272 : Aside0 (gb273 ≠ gb272) := ⟨h21_⟩
          have NB272_273 : Aside0 (gb272 ≠ gb273) := ⟨h22_⟩
          have GW273 : Aside0 (w.heap.size ≤ gb273) := ⟨h23_⟩
          have GE273 : Aside0 (w.heap.size ≤ gb273) := ⟨h24_⟩
          have NB227_273 : Aside0 (gb227 ≠ gb273) := ⟨h25_⟩
          have NB273_227 : Aside0 (gb273 ≠ gb227) := ⟨h26_⟩
          have NB228_273 : Aside0 (gb228 ≠ gb273) := ⟨h27_⟩
          have NB273_228 : Aside0 (gb273 ≠ gb228) := ⟨h28_⟩
          have NB229_273 : Aside0 (gb229 ≠ gb273) := ⟨h29_⟩
          have NB273_229 : Aside0 (gb273 ≠ gb229) := ⟨h30_⟩
          have NB247_273 : Aside0 (gb247 ≠ gb273) := ⟨h31_⟩
          have NB273_247 : Aside0 (gb273 ≠ gb247) := ⟨h32_⟩
          have NB261_273 : Aside0 (gb261 ≠ gb273) := ⟨h33_⟩
          have NB273_261 : Aside0 (gb273 ≠ gb261) := ⟨h34_⟩
          replace HB : Aside0 (Below w.heap.size w w93) := ⟨h35_⟩
          clear h0_ h1_ h2_ h3_ h4_ h5_ h6_ h7_ h8_ h9_ h10_ h11_ h12_ h13_ h14_ h15_ h16_ h17_ h18_ h19_ h20_ h21_ h22_ h23_ h24_ h25_ h26_ h27_ h28_ h29_ h30_ h31_ h32_ h33_ h34_ h35_
          have hHeld : w93.cell? ⟨gb247, 0, none⟩ = some (.slice Ao58 t242.length co58) ∧ w93.cell? ⟨gb247, 1, none⟩ = some (.int .i64 t245) ∧ w93.cell? ⟨gb247, 2, none⟩ = some (.int .i64 t246) ∧ w93.cell? ⟨gb261, 0, none⟩ = some (.int .i64 t259) ∧ w93.cell? ⟨gb261, 1, none⟩ = some (.int .i64 t260) := hS_
          refine norm_ (a' := ?_) ?_ ?_
          rotate_left
          · simp only [putAll, Act.put, zS, zZ, zC]
            rfl
          refine one_ (i := 3) (N := some 81) #[T_, T_, T_, T_, T_, T_, T_, F_, T_, T_, F_, F_] rfl rfl (one_of HT_.out (by kernel_rfl)) (by decide) (fun K hK => ?_)
          refine goes_ Try.func14 (by kernel_rfl) rfl #[.agg #[.slice Ao58 t242.length co58, .int .i64 t245, .int .i64 t246], .agg #[.int .i64 t259, .int .i64 t260], .slice A2_1 l2_1.length c2_1] (by rfl) rfl rfl (by (try simp only [List.map_toArray, List.map_cons, List.map_nil]); first | done | rfl | (simp only [List.length_drop, List.length_take]; rfl)) ?_
          with_reducible refine (front_Step.calls k2 _ _ t242 t245 t246 t259 t260 _ _ l2_1 t262 t265 t266 _ ?side1 ?side2 ?side3 ?side4 A74.out).mono ?_
          (case side1 => repeat (first | exact (Kd.R_reads' HO_248000.out).2.2 | (with_reducible refine Kd.C_alloc ?_ _) | (with_reducible refine Kd.C_drewN ?_ _) | (with_reducible refine Kd.C_drew ?_)))
          (case side2 => exact (Kd.R_reads' HO_248000.out).2.1)
          (case side3 => repeat (first | exact (Kd.C_below HR2_1.out HB.out) | (with_reducible refine Kd.C_alloc ?_ _) | (with_reducible refine Kd.C_drewN ?_ _) | (with_reducible refine Kd.C_drew ?_)))
          (case side4 => exact HC2_1.out)
          rintro e w94 ⟨v263, rfl, ho0, hb⟩
          refine ⟨_, rfl, ?_⟩
          have HO264 := zM (Kd.R_lower (Kd.R_newB (Kd.R_newB (Kd.R_newB (Kd.R_new' (Kd.R_new' ho0 (Kd.R_lt (rl_ HO_10))) (Kd.R_lt (rl_ HO_248000))) (g := gb227) (o := .cells #[.int .i64 a0_0, .int .i64 a0_1] 24 (0, 0)) blk_) (g := gb228) (o := .cells #[.int .i64 a1_0, .int .i64 a1_1] 24 (0, 0)) blk_) (g := gb261) (o := .cells #[.int .i64 t259, .int .i64 t260] 24 (0, 0)) blk_) (below_size bel_))
          replace HO_10 := zM (Kd.R_elder' (rl_ HO_10) (Kd.R_base ho0) hb)
          replace HO_248000 := zM (Kd.R_elder' (rl_ HO_248000) (Kd.R_base ho0) hb)
          replace BK227 := zM (bb_ BK227 hb)
          replace BK228 := zM (bb_ BK228 hb)
          replace BK229 := zM (bb_ BK229 hb)
          replace BK247 := zM (bb_ BK247 hb)
          replace BK261 := zM (bb_ BK261 hb)
          replace BK272 := zM (bb_ BK272 hb)
          replace BK273 := zM (bb_ BK273 hb)
          replace HB := zM (zB bel_ hb)
          (try clear hb)
          (try clear hb2)
          (try clear hk)
          (try clear hi)
          (try clear ho0)
          refine hK.out _ _ ⟨(zL BK247.out 0).trans rfl, (zL BK247.out 1).trans rfl, (zL BK247.out 2).trans rfl, (zL BK261.out 0).trans rfl, (zL BK261.out 1).trans rfl⟩ (fun hHeld => ?_)
          clear hK K
          refine norm_ (a' := ?_) ?_ ?_
          rotate_left
          · show Act.put _ (some 81) _ = _
            simp only [Act.put, zS, zZ, zC, i64_w, i32_w]
            rfl
          exact norm_ (by first | (simp only [putAll, Act.put, zS, zZ, zC]; done) | (simp only [putAll, Act.put, zS, zZ, zC]; rfl)) (hJ3_8_9 (v263, gb272, gb273) _ ⟨hHeld, (by (with_reducible repeat (first | apply Kd.R_alloc | apply Kd.R_drewN | apply Kd.R_drew)); exact Kd.R_mono HO264.out (fun _ hk => ⟨hk.1.1.1.1.2, ⟨hk.1.1.1.2, ⟨hk.1.1.2, ⟨hk.1.2, hk.2⟩⟩⟩⟩)), (by (with_reducible repeat (first | apply Kd.R_alloc | apply Kd.R_drewN | apply Kd.R_drew)); exact Kd.R_mono HO_10.out (fun _ hk => ⟨hk.2, ⟨hk.1.1, ⟨hk.1.2.1, ⟨hk.1.2.2.1, hk.1.2.2.2⟩⟩⟩⟩)), (by (with_reducible repeat (first | apply Kd.R_alloc | apply Kd.R_drewN | apply Kd.R_drew)); exact Kd.R_mono HO_248000.out (fun _ hk => ⟨hk.2, ⟨hk.1.1, ⟨hk.1.2.1, ⟨hk.1.2.2.1, hk.1.2.2.2⟩⟩⟩⟩)), blk_, blk_, blk_, blk_, blk_, blk_, blk_, GW272.out, GE272.out, NB227_272.out, NB272_227.out, NB228_272.out, NB272_228.out, NB229_272.out, NB272_229.out, NB247_272.out, NB272_247.out, NB261_272.out, NB272_261.out, NB273_272.out, NB272_273.out, GW273.out, GE273.out, NB227_273.out, NB273_227.out, NB228_273.out, NB273_228.out, NB229_273.out, NB273_229.out, NB247_273.out, NB273_247.out, NB261_273.out, NB273_261.out, bel_⟩)
        intro hJ8_9
        refine join_ (σ := Value) 5 #[T_, T_, T_, T_, T_, T_, T_, F_, F_, F_, F_, F_] (fun s_ => [(81, .agg #[s_, .int .i64 t265, .int .i64 t266])]) (fun s_ w' => (w'.cell? ⟨gb247, 0, none⟩ = some (.slice Ao58 t242.length co58) ∧ w'.cell? ⟨gb247, 1, none⟩ = some (.int .i64 t245) ∧ w'.cell? ⟨gb247, 2, none⟩ = some (.int .i64 t246) ∧ w'.cell? ⟨gb261, 0, none⟩ = some (.int .i64 t259) ∧ w'.cell? ⟨gb261, 1, none⟩ = some (.int .i64 t260)) ∧ (Kd.R k24 24 w' w.heap.size (fun k_ => some k_ ≠ (.slice Ao88 x10_2.length co88 : Value).ownBlock ∧ some k_ ≠ (.slice Ao58 t242.length co58 : Value).ownBlock ∧ k_ ≠ gb227 ∧ k_ ≠ gb228 ∧ k_ ≠ gb261) s_ t262) ∧ (Kd.R k24 24 w' w.heap.size (fun k_ => some k_ ≠ (s_ : Value).ownBlock ∧ some k_ ≠ (.slice Ao58 t242.length co58 : Value).ownBlock ∧ k_ ≠ gb227 ∧ k_ ≠ gb228 ∧ k_ ≠ gb261) (.slice Ao88 x10_2.length co88) x10_2) ∧ (Kd.R k24 24 w' w.heap.size (fun k_ => some k_ ≠ (s_ : Value).ownBlock ∧ some k_ ≠ (.slice Ao88 x10_2.length co88 : Value).ownBlock ∧ k_ ≠ gb227 ∧ k_ ≠ gb228 ∧ k_ ≠ gb261) (.slice Ao58 t242.length co58) t242) ∧ (w'.heap[gb227]? = some (.cells #[.int .i64 a0_0, .int .i64 a0_1] 24 (0, 0))) ∧ (w'.heap[gb228]? = some (.cells #[.int .i64 a1_0, .int .i64 a1_1] 24 (0, 0))) ∧ (w'.heap[gb229]? = some (.cells #[.slice A2_0 l2_0.length c2_0, .slice A2_1 l2_1.length c2_1] 44 (0, 0))) ∧ (w'.heap[gb247]? = some (.cells #[.slice Ao58 t242.length co58, .int .i64 t245, .int .i64 t246] 26 (0, 0))) ∧ (w'.heap[gb261]? = some (.cells #[.int .i64 t259, .int .i64 t260] 24 (0, 0))) ∧ (Below w.heap.size w w')) ?_ ?_
        rotate_left
        rotate_left
        · skip
          rintro v263 w92 ⟨hS_, h0_, h1_, h2_, h3_, h4_, h5_, h6_, h7_, h8_⟩
          have HO264 : Aside0 (Kd.R k24 24 w92 w.heap.size (fun k_ => some k_ ≠ (.slice Ao88 x10_2.length co88 : Value).ownBlock ∧ some k_ ≠ (.slice Ao58 t242.length co58 : Value).ownBlock ∧ k_ ≠ gb227 ∧ k_ ≠ gb228 ∧ k_ ≠ gb261) v263 t262) := ⟨h0_⟩
          replace HO_10 : Aside0 (Kd.R k24 24 w92 w.heap.size (fun k_ => some k_ ≠ (v263 : Value).ownBlock ∧ some k_ ≠ (.slice Ao58 t242.length co58 : Value).ownBlock ∧ k_ ≠ gb227 ∧ k_ ≠ gb228 ∧ k_ ≠ gb261) (.slice Ao88 x10_2.length co88) x10_2) := ⟨h1_⟩
          replace HO_248000 : Aside0 (Kd.R k24 24 w92 w.heap.size (fun k_ => some k_ ≠ (v263 : Value).ownBlock ∧ some k_ ≠ (.slice Ao88 x10_2.length co88 : Value).ownBlock ∧ k_ ≠ gb227 ∧ k_ ≠ gb228 ∧ k_ ≠ gb261) (.slice Ao58 t242.length co58) t242) := ⟨h2_⟩
          replace BK227 : Aside0 (w92.heap[gb227]? = some (.cells #[.int .i64 a0_0, .int .i64 a0_1] 24 (0, 0))) := ⟨h3_⟩
          replace BK228 : Aside0 (w92.heap[gb228]? = some (.cells #[.int .i64 a1_0, .int .i64 a1_1] 24 (0, 0))) := ⟨h4_⟩
          replace BK229 : Aside0 (w92.heap[gb229]? = some (.cells #[.slice A2_0 l2_0.length c2_0, .slice A2_1 l2_1.length c2_1] 44 (0, 0))) := ⟨h5_⟩
          replace BK247 : Aside0 (w92.heap[gb247]? = some (.cells #[.slice Ao58 t242.length co58, .int .i64 t245, .int .i64 t246] 26 (0, 0))) := ⟨h6_⟩
          replace BK261 : Aside0 (w92.heap[gb261]? = some (.cells #[.int .i64 t259, .int .i64 t260] 24 (0, 0))) := ⟨h7_⟩
          replace HB : Aside0 (Below w.heap.size w w92) := ⟨h8_⟩
          clear h0_ h1_ h2_ h3_ h4_ h5_ h6_ h7_ h8_
          have hHeld : w92.cell? ⟨gb247, 0, none⟩ = some (.slice Ao58 t242.length co58) ∧ w92.cell? ⟨gb247, 1, none⟩ = some (.int .i64 t245) ∧ w92.cell? ⟨gb247, 2, none⟩ = some (.int .i64 t246) ∧ w92.cell? ⟨gb261, 0, none⟩ = some (.int .i64 t259) ∧ w92.cell? ⟨gb261, 1, none⟩ = some (.int .i64 t260) := hS_
          refine norm_ (a' := ?_) ?_ ?_
          rotate_left
          · simp only [putAll, Act.put, zS, zZ, zC]
            rfl
          refine three_ (i := 7) (j := 8) (k := 9) (Ni := some 85) (Nj := some 13) (Nk := some 14) #[T_, T_, T_, T_, T_, T_, T_, T_, F_, F_, F_, F_] #[T_, T_, T_, T_, T_, T_, T_, F_, T_, F_, F_, F_] #[T_, T_, T_, T_, T_, T_, T_, F_, F_, T_, F_, F_] rfl rfl rfl rfl rfl rfl (three_of HT_.out (by kernel_rfl)) (by decide) (by decide) (by decide) (fun K hK => ?_) (fun K hK => ?_) (fun K hK => ?_)
          · skip
            refine goes_ Try.func14 (by kernel_rfl) rfl #[.agg #[.slice Ao58 t242.length co58, .int .i64 t245, .int .i64 t246], .agg #[.int .i64 t259, .int .i64 t260], .slice Ao88 x10_2.length co88] (by rfl) rfl rfl (by (try simp only [List.map_toArray, List.map_cons, List.map_nil]); first | done | rfl | (simp only [List.length_drop, List.length_take]; rfl)) ?_
            with_reducible refine (front_Step.calls k2 _ _ t242 t245 t246 t259 t260 _ _ x10_2 t267 t270 t271 _ ?side1 ?side2 ?side3 ?side4 A75.out).mono ?_
            (case side1 => repeat (first | exact (Kd.R_reads' HO_248000.out).2.2 | (with_reducible refine Kd.C_alloc ?_ _) | (with_reducible refine Kd.C_drewN ?_ _) | (with_reducible refine Kd.C_drew ?_)))
            (case side2 => exact (Kd.R_reads' HO_248000.out).2.1)
            (case side3 => repeat (first | exact (Kd.R_reads' HO_10.out).2.2 | (with_reducible refine Kd.C_alloc ?_ _) | (with_reducible refine Kd.C_drewN ?_ _) | (with_reducible refine Kd.C_drew ?_)))
            (case side4 => exact (Kd.R_reads' HO_10.out).2.1)
            rintro e w93 ⟨v268, rfl, ho0, hb⟩
            refine ⟨_, rfl, ?_⟩
            have HO269 := zM (Kd.R_lower (Kd.R_newB (Kd.R_newB (Kd.R_newB (Kd.R_new' (Kd.R_new' (Kd.R_new' ho0 (Kd.R_lt (rl_ HO_10))) (Kd.R_lt (rl_ HO_248000))) (Kd.R_lt (rl_ HO264))) (g := gb227) (o := .cells #[.int .i64 a0_0, .int .i64 a0_1] 24 (0, 0)) blk_) (g := gb228) (o := .cells #[.int .i64 a1_0, .int .i64 a1_1] 24 (0, 0)) blk_) (g := gb261) (o := .cells #[.int .i64 t259, .int .i64 t260] 24 (0, 0)) blk_) (below_size bel_))
            replace HO_10 := zM (Kd.R_elder' (rl_ HO_10) (Kd.R_base ho0) hb)
            replace HO_248000 := zM (Kd.R_elder' (rl_ HO_248000) (Kd.R_base ho0) hb)
            replace HO264 := zM (Kd.R_elder' (rl_ HO264) (Kd.R_base ho0) hb)
            replace BK227 := zM (bb_ BK227 hb)
            replace BK228 := zM (bb_ BK228 hb)
            replace BK229 := zM (bb_ BK229 hb)
            replace BK247 := zM (bb_ BK247 hb)
            replace BK261 := zM (bb_ BK261 hb)
            replace HB := zM (zB bel_ hb)
            (try clear hb)
            (try clear hb2)
            (try clear hk)
            (try clear hi)
            (try clear ho0)
            refine hK.out _ _ ⟨(zL BK247.out 0).trans rfl, (zL BK247.out 1).trans rfl, (zL BK247.out 2).trans rfl, (zL BK261.out 0).trans rfl, (zL BK261.out 1).trans rfl⟩ (fun hHeld => ?_)
            clear hK K
            refine norm_ (a' := ?_) ?_ ?_
            rotate_left
            · show Act.put _ (some 85) _ = _
              simp only [Act.put, zS, zZ, zC, i64_w, i32_w]
              rfl
            exact norm_ (by first | (simp only [putAll, Act.put, zS, zZ, zC]; done) | (simp only [putAll, Act.put, zS, zZ, zC]; rfl)) (hJ3_7 (v263, v268) _ ⟨hHeld, (by (with_reducible repeat (first | apply Kd.R_alloc | apply Kd.R_drewN | apply Kd.R_drew)); exact Kd.R_mono HO264.out (fun _ hk => ⟨hk.2, ⟨hk.1.1, ⟨hk.1.2.1, ⟨hk.1.2.2.1, ⟨hk.1.2.2.2.1, hk.1.2.2.2.2⟩⟩⟩⟩⟩)), (by (with_reducible repeat (first | apply Kd.R_alloc | apply Kd.R_drewN | apply Kd.R_drew)); exact Kd.R_mono HO269.out (fun _ hk => ⟨hk.1.1.1.2, ⟨hk.1.1.1.1.1.2, ⟨hk.1.1.1.1.2, ⟨hk.1.1.2, ⟨hk.1.2, hk.2⟩⟩⟩⟩⟩)), (by (with_reducible repeat (first | apply Kd.R_alloc | apply Kd.R_drewN | apply Kd.R_drew)); exact Kd.R_mono HO_10.out (fun _ hk => ⟨hk.1.1, ⟨hk.2, ⟨hk.1.2.1, ⟨hk.1.2.2.1, ⟨hk.1.2.2.2.1, hk.1.2.2.2.2⟩⟩⟩⟩⟩)), (by (with_reducible repeat (first | apply Kd.R_alloc | apply Kd.R_drewN | apply Kd.R_drew)); exact Kd.R_mono HO_248000.out (fun _ hk => ⟨hk.1.1, ⟨hk.2, ⟨hk.1.2.1, ⟨hk.1.2.2.1, ⟨hk.1.2.2.2.1, hk.1.2.2.2.2⟩⟩⟩⟩⟩)), blk_, blk_, blk_, blk_, blk_, bel_⟩)
          · skip
            refine box_step ?hg (N := 13) ?hd (cs := #[.slice none 0 0, .int .i64 0, .int .i64 0]) (t := 26) ?hr ?_; (case hd => rfl); (case hg => rfl); (case hr => first | (go_simp; done) | (go_simp; rfl))
            intro gb272 hg w93 hbox hb
            replace HO_10 := zM (Kd.R_below (rl_ HO_10) hb)
            replace HO_248000 := zM (Kd.R_below (rl_ HO_248000) hb)
            replace HO264 := zM (Kd.R_below (rl_ HO264) hb)
            have BK272 := zM (hbox)
            have GW272 := zM (bs_ hg)
            have GE272 := zM (bs_ hg)
            replace HB := zM (zB bel_ hb)
            have NB227_272 := zM (nl_ BK227 hg)
            have NB272_227 := zM (ng_ BK227 hg)
            replace BK227 := zM (bb_ BK227 hb)
            have NB228_272 := zM (nl_ BK228 hg)
            have NB272_228 := zM (ng_ BK228 hg)
            replace BK228 := zM (bb_ BK228 hb)
            have NB229_272 := zM (nl_ BK229 hg)
            have NB272_229 := zM (ng_ BK229 hg)
            replace BK229 := zM (bb_ BK229 hb)
            have NB247_272 := zM (nl_ BK247 hg)
            have NB272_247 := zM (ng_ BK247 hg)
            replace BK247 := zM (bb_ BK247 hb)
            have NB261_272 := zM (nl_ BK261 hg)
            have NB272_261 := zM (ng_ BK261 hg)
            replace BK261 := zM (bb_ BK261 hb)
            clear hb hbox hg
            refine hK.out _ _ ⟨(zL BK247.out 0).trans rfl, (zL BK247.out 1).trans rfl, (zL BK247.out 2).trans rfl, (zL BK261.out 0).trans rfl, (zL BK261.out 1).trans rfl⟩ (fun hHeld => ?_)
            clear hK K
            refine norm_ (a' := ?_) ?_ ?_
            rotate_left
            · show Act.put _ (some 13) _ = _
              simp only [Act.put, zS, zZ, zC, i64_w, i32_w]
              rfl
            exact norm_ (by first | (simp only [putAll, Act.put, zS, zZ, zC]; done) | (simp only [putAll, Act.put, zS, zZ, zC]; rfl)) (hJ3_8 (v263, gb272) _ ⟨hHeld, (rl_ HO264), (rl_ HO_10), (rl_ HO_248000), blk_, blk_, blk_, blk_, blk_, blk_, GW272.out, GE272.out, NB227_272.out, NB272_227.out, NB228_272.out, NB272_228.out, NB229_272.out, NB272_229.out, NB247_272.out, NB272_247.out, NB261_272.out, NB272_261.out, bel_⟩)
          skip
          refine box_step ?hg (N := 14) ?hd (cs := #[.slice none 0 0, .int .i64 0, .int .i64 0]) (t := 26) ?hr ?_; (case hd => rfl); (case hg => rfl); (case hr => first | (go_simp; done) | (go_simp; rfl))
          intro gb273 hg w93 hbox hb
          replace HO_10 := zM (Kd.R_below (rl_ HO_10) hb)
          replace HO_248000 := zM (Kd.R_below (rl_ HO_248000) hb)
          replace HO264 := zM (Kd.R_below (rl_ HO264) hb)
          have BK273 := zM (hbox)
          have GW273 := zM (bs_ hg)
          have GE273 := zM (bs_ hg)
          replace HB := zM (zB bel_ hb)
          have NB227_273 := zM (nl_ BK227 hg)
          have NB273_227 := zM (ng_ BK227 hg)
          replace BK227 := zM (bb_ BK227 hb)
          have NB228_273 := zM (nl_ BK228 hg)
          have NB273_228 := zM (ng_ BK228 hg)
          replace BK228 := zM (bb_ BK228 hb)
          have NB229_273 := zM (nl_ BK229 hg)
          have NB273_229 := zM (ng_ BK229 hg)
          replace BK229 := zM (bb_ BK229 hb)
          have NB247_273 := zM (nl_ BK247 hg)
          have NB273_247 := zM (ng_ BK247 hg)
          replace BK247 := zM (bb_ BK247 hb)
          have NB261_273 := zM (nl_ BK261 hg)
          have NB273_261 := zM (ng_ BK261 hg)
          replace BK261 := zM (bb_ BK261 hb)
          clear hb hbox hg
          refine hK.out _ _ ⟨(zL BK247.out 0).trans rfl, (zL BK247.out 1).trans rfl, (zL BK247.out 2).trans rfl, (zL BK261.out 0).trans rfl, (zL BK261.out 1).trans rfl⟩ (fun hHeld => ?_)
          clear hK K
          refine norm_ (a' := ?_) ?_ ?_
          rotate_left
          · show Act.put _ (some 14) _ = _
            simp only [Act.put, zS, zZ, zC, i64_w, i32_w]
            rfl
          exact norm_ (by first | (simp only [putAll, Act.put, zS, zZ, zC]; done) | (simp only [putAll, Act.put, zS, zZ, zC]; rfl)) (hJ3_9 (v263, gb273) _ ⟨hHeld, (rl_ HO264), (rl_ HO_10), (rl_ HO_248000), blk_, blk_, blk_, blk_, blk_, blk_, GW273.out, GE273.out, NB227_273.out, NB273_227.out, NB228_273.out, NB273_228.out, NB229_273.out, NB273_229.out, NB247_273.out, NB273_247.out, NB261_273.out, NB273_261.out, bel_⟩)
        intro hJ3
        refine join_ (σ := Nat) 5 #[T_, T_, T_, F_, T_, T_, T_, F_, T_, F_, F_, F_] (fun s_ => [(13, .pointer (some ⟨s_, 0, none⟩))]) (fun s_ w' => (w'.cell? ⟨gb247, 0, none⟩ = some (.slice Ao58 t242.length co58) ∧ w'.cell? ⟨gb247, 1, none⟩ = some (.int .i64 t245) ∧ w'.cell? ⟨gb247, 2, none⟩ = some (.int .i64 t246) ∧ w'.cell? ⟨gb261, 0, none⟩ = some (.int .i64 t259) ∧ w'.cell? ⟨gb261, 1, none⟩ = some (.int .i64 t260)) ∧ (Kd.R k24 24 w' w.heap.size (fun k_ => some k_ ≠ (.slice Ao58 t242.length co58 : Value).ownBlock ∧ k_ ≠ gb227 ∧ k_ ≠ gb228 ∧ k_ ≠ gb261) (.slice Ao88 x10_2.length co88) x10_2) ∧ (Kd.R k24 24 w' w.heap.size (fun k_ => some k_ ≠ (.slice Ao88 x10_2.length co88 : Value).ownBlock ∧ k_ ≠ gb227 ∧ k_ ≠ gb228 ∧ k_ ≠ gb261) (.slice Ao58 t242.length co58) t242) ∧ (w'.heap[gb227]? = some (.cells #[.int .i64 a0_0, .int .i64 a0_1] 24 (0, 0))) ∧ (w'.heap[gb228]? = some (.cells #[.int .i64 a1_0, .int .i64 a1_1] 24 (0, 0))) ∧ (w'.heap[gb229]? = some (.cells #[.slice A2_0 l2_0.length c2_0, .slice A2_1 l2_1.length c2_1] 44 (0, 0))) ∧ (w'.heap[gb247]? = some (.cells #[.slice Ao58 t242.length co58, .int .i64 t245, .int .i64 t246] 26 (0, 0))) ∧ (w'.heap[gb261]? = some (.cells #[.int .i64 t259, .int .i64 t260] 24 (0, 0))) ∧ (w'.heap[s_]? = some (.cells #[.slice none 0 0, .int .i64 0, .int .i64 0] 26 (0, 0))) ∧ (w.heap.size ≤ s_) ∧ (w.heap.size ≤ s_) ∧ (gb227 ≠ s_) ∧ (s_ ≠ gb227) ∧ (gb228 ≠ s_) ∧ (s_ ≠ gb228) ∧ (gb229 ≠ s_) ∧ (s_ ≠ gb229) ∧ (gb247 ≠ s_) ∧ (s_ ≠ gb247) ∧ (gb261 ≠ s_) ∧ (s_ ≠ gb261) ∧ (Below w.heap.size w w')) ?_ ?_
        rotate_left
        rotate_left
        · skip
          rintro gb272 w92 ⟨hS_, h0_, h1_, h2_, h3_, h4_, h5_, h6_, h7_, h8_, h9_, h10_, h11_, h12_, h13_, h14_, h15_, h16_, h17_, h18_, h19_, h20_⟩
          replace HO_10 : Aside0 (Kd.R k24 24 w92 w.heap.size (fun k_ => some k_ ≠ (.slice Ao58 t242.length co58 : Value).ownBlock ∧ k_ ≠ gb227 ∧ k_ ≠ gb228 ∧ k_ ≠ gb261) (.slice Ao88 x10_2.length co88) x10_2) := ⟨h0_⟩
          replace HO_248000 : Aside0 (Kd.R k24 24 w92 w.heap.size (fun k_ => some k_ ≠ (.slice Ao88 x10_2.length co88 : Value).ownBlock ∧ k_ ≠ gb227 ∧ k_ ≠ gb228 ∧ k_ ≠ gb261) (.slice Ao58 t242.length co58) t242) := ⟨h1_⟩
          replace BK227 : Aside0 (w92.heap[gb227]? = some (.cells #[.int .i64 a0_0, .int .i64 a0_1] 24 (0, 0))) := ⟨h2_⟩
          replace BK228 : Aside0 (w92.heap[gb228]? = some (.cells #[.int .i64 a1_0, .int .i64 a1_1] 24 (0, 0))) := ⟨h3_⟩
          replace BK229 : Aside0 (w92.heap[gb229]? = some (.cells #[.slice A2_0 l2_0.length c2_0, .slice A2_1 l2_1.length c2_1] 44 (0, 0))) := ⟨h4_⟩
          replace BK247 : Aside0 (w92.heap[gb247]? = some (.cells #[.slice Ao58 t242.length co58, .int .i64 t245, .int .i64 t246] 26 (0, 0))) := ⟨h5_⟩
          replace BK261 : Aside0 (w92.heap[gb261]? = some (.cells #[.int .i64 t259, .int .i64 t260] 24 (0, 0))) := ⟨h6_⟩
          have BK272 : Aside0 (w92.heap[gb272]? = some (.cells #[.slice none 0 0, .int .i64 0, .int .i64 0] 26 (0, 0))) := ⟨h7_⟩
          have GW272 : Aside0 (w.heap.size ≤ gb272) := ⟨h8_⟩
          have GE272 : Aside0 (w.heap.size ≤ gb272) := ⟨h9_⟩
          have NB227_272 : Aside0 (gb227 ≠ gb272) := ⟨h10_⟩
          have NB272_227 : Aside0 (gb272 ≠ gb227) := ⟨h11_⟩
          have NB228_272 : Aside0 (gb228 ≠ gb272) := ⟨h12_⟩
          have NB272_228 : Aside0 (gb272 ≠ gb228) := ⟨h13_⟩
          have NB229_272 : Aside0 (gb229 ≠ gb272) := ⟨h14_⟩
          have NB272_229 : Aside0 (gb272 ≠ gb229) := ⟨h15_⟩
          have NB247_272 : Aside0 (gb247 ≠ gb272) := ⟨h16_⟩
          have NB272_247 : Aside0 (gb272 ≠ gb247) := ⟨h17_⟩
          have NB261_272 : Aside0 (gb261 ≠ gb272) := ⟨h18_⟩
          have NB272_261 : Aside0 (gb272 ≠ gb261) := ⟨h19_⟩
          replace HB : Aside0 (Below w.heap.size w w92) := ⟨h20_⟩
          clear h0_ h1_ h2_ h3_ h4_ h5_ h6_ h7_ h8_ h9_ h10_ h11_ h12_ h13_ h14_ h15_ h16_ h17_ h18_ h19_ h20_
          have hHeld : w92.cell? ⟨gb247, 0, none⟩ = some (.slice Ao58 t242.length co58) ∧ w92.cell? ⟨gb247, 1, none⟩ = some (.int .i64 t245) ∧ w92.cell? ⟨gb247, 2, none⟩ = some (.int .i64 t246) ∧ w92.cell? ⟨gb261, 0, none⟩ = some (.int .i64 t259) ∧ w92.cell? ⟨gb261, 1, none⟩ = some (.int .i64 t260) := hS_
          refine norm_ (a' := ?_) ?_ ?_
          rotate_left
          · simp only [putAll, Act.put, zS, zZ, zC]
            rfl
          refine two_ (i := 3) (j := 9) (Ni := some 81) (Nj := some 14) #[T_, T_, T_, T_, T_, T_, T_, F_, T_, F_, F_, F_] #[T_, T_, T_, F_, T_, T_, T_, F_, T_, T_, F_, F_] rfl rfl rfl rfl (two_of HT_.out (by kernel_rfl)) (by decide) (by decide) (fun K hK => ?_) (fun K hK => ?_)
          · skip
            refine goes_ Try.func14 (by kernel_rfl) rfl #[.agg #[.slice Ao58 t242.length co58, .int .i64 t245, .int .i64 t246], .agg #[.int .i64 t259, .int .i64 t260], .slice A2_1 l2_1.length c2_1] (by rfl) rfl rfl (by (try simp only [List.map_toArray, List.map_cons, List.map_nil]); first | done | rfl | (simp only [List.length_drop, List.length_take]; rfl)) ?_
            with_reducible refine (front_Step.calls k2 _ _ t242 t245 t246 t259 t260 _ _ l2_1 t262 t265 t266 _ ?side1 ?side2 ?side3 ?side4 A74.out).mono ?_
            (case side1 => repeat (first | exact (Kd.R_reads' HO_248000.out).2.2 | (with_reducible refine Kd.C_alloc ?_ _) | (with_reducible refine Kd.C_drewN ?_ _) | (with_reducible refine Kd.C_drew ?_)))
            (case side2 => exact (Kd.R_reads' HO_248000.out).2.1)
            (case side3 => repeat (first | exact (Kd.C_below HR2_1.out HB.out) | (with_reducible refine Kd.C_alloc ?_ _) | (with_reducible refine Kd.C_drewN ?_ _) | (with_reducible refine Kd.C_drew ?_)))
            (case side4 => exact HC2_1.out)
            rintro e w93 ⟨v263, rfl, ho0, hb⟩
            refine ⟨_, rfl, ?_⟩
            have HO264 := zM (Kd.R_lower (Kd.R_newB (Kd.R_newB (Kd.R_newB (Kd.R_new' (Kd.R_new' ho0 (Kd.R_lt (rl_ HO_10))) (Kd.R_lt (rl_ HO_248000))) (g := gb227) (o := .cells #[.int .i64 a0_0, .int .i64 a0_1] 24 (0, 0)) blk_) (g := gb228) (o := .cells #[.int .i64 a1_0, .int .i64 a1_1] 24 (0, 0)) blk_) (g := gb261) (o := .cells #[.int .i64 t259, .int .i64 t260] 24 (0, 0)) blk_) (below_size bel_))
            replace HO_10 := zM (Kd.R_elder' (rl_ HO_10) (Kd.R_base ho0) hb)
            replace HO_248000 := zM (Kd.R_elder' (rl_ HO_248000) (Kd.R_base ho0) hb)
            replace BK227 := zM (bb_ BK227 hb)
            replace BK228 := zM (bb_ BK228 hb)
            replace BK229 := zM (bb_ BK229 hb)
            replace BK247 := zM (bb_ BK247 hb)
            replace BK261 := zM (bb_ BK261 hb)
            replace BK272 := zM (bb_ BK272 hb)
            replace HB := zM (zB bel_ hb)
            (try clear hb)
            (try clear hb2)
            (try clear hk)
            (try clear hi)
            (try clear ho0)
            refine hK.out _ _ ⟨(zL BK247.out 0).trans rfl, (zL BK247.out 1).trans rfl, (zL BK247.out 2).trans rfl, (zL BK261.out 0).trans rfl, (zL BK261.out 1).trans rfl⟩ (fun hHeld => ?_)
            clear hK K
            refine norm_ (a' := ?_) ?_ ?_
            rotate_left
            · show Act.put _ (some 81) _ = _
              simp only [Act.put, zS, zZ, zC, i64_w, i32_w]
              rfl
            exact norm_ (by first | (simp only [putAll, Act.put, zS, zZ, zC]; done) | (simp only [putAll, Act.put, zS, zZ, zC]; rfl)) (hJ3_8 (v263, gb272) _ ⟨hHeld, (by (with_reducible repeat (first | apply Kd.R_alloc | apply Kd.R_drewN | apply Kd.R_drew)); exact Kd.R_mono HO264.out (fun _ hk => ⟨hk.1.1.1.1.2, ⟨hk.1.1.1.2, ⟨hk.1.1.2, ⟨hk.1.2, hk.2⟩⟩⟩⟩)), (by (with_reducible repeat (first | apply Kd.R_alloc | apply Kd.R_drewN | apply Kd.R_drew)); exact Kd.R_mono HO_10.out (fun _ hk => ⟨hk.2, ⟨hk.1.1, ⟨hk.1.2.1, ⟨hk.1.2.2.1, hk.1.2.2.2⟩⟩⟩⟩)), (by (with_reducible repeat (first | apply Kd.R_alloc | apply Kd.R_drewN | apply Kd.R_drew)); exact Kd.R_mono HO_248000.out (fun _ hk => ⟨hk.2, ⟨hk.1.1, ⟨hk.1.2.1, ⟨hk.1.2.2.1, hk.1.2.2.2⟩⟩⟩⟩)), blk_, blk_, blk_, blk_, blk_, blk_, GW272.out, GE272.out, NB227_272.out, NB272_227.out, NB228_272.out, NB272_228.out, NB229_272.out, NB272_229.out, NB247_272.out, NB272_247.out, NB261_272.out, NB272_261.out, bel_⟩)
          skip
          refine box_step ?hg (N := 14) ?hd (cs := #[.slice none 0 0, .int .i64 0, .int .i64 0]) (t := 26) ?hr ?_; (case hd => rfl); (case hg => rfl); (case hr => first | (go_simp; done) | (go_simp; rfl))
          intro gb273 hg w93 hbox hb
          replace HO_10 := zM (Kd.R_below (rl_ HO_10) hb)
          replace HO_248000 := zM (Kd.R_below (rl_ HO_248000) hb)
          have BK273 := zM (hbox)
          have GW273 := zM (bs_ hg)
          have GE273 := zM (bs_ hg)
          replace HB := zM (zB bel_ hb)
          have NB227_273 := zM (nl_ BK227 hg)
          have NB273_227 := zM (ng_ BK227 hg)
          replace BK227 := zM (bb_ BK227 hb)
          have NB228_273 := zM (nl_ BK228 hg)
          have NB273_228 := zM (ng_ BK228 hg)
          replace BK228 := zM (bb_ BK228 hb)
          have NB229_273 := zM (nl_ BK229 hg)
          have NB273_229 := zM (ng_ BK229 hg)
          replace BK229 := zM (bb_ BK229 hb)
          have NB247_273 := zM (nl_ BK247 hg)
          have NB273_247 := zM (ng_ BK247 hg)
          replace BK247 := zM (bb_ BK247 hb)
          have NB261_273 := zM (nl_ BK261 hg)
          have NB273_261 := zM (ng_ BK261 hg)
          replace BK261 := zM (bb_ BK261 hb)
          have NB272_273 := zM (nl_ BK272 hg)
          have NB273_272 := zM (ng_ BK272 hg)
          replace BK272 := zM (bb_ BK272 hb)
          clear hb hbox hg
          refine hK.out _ _ ⟨(zL BK247.out 0).trans rfl, (zL BK247.out 1).trans rfl, (zL BK247.out 2).trans rfl, (zL BK261.out 0).trans rfl, (zL BK261.out 1).trans rfl⟩ (fun hHeld => ?_)
          clear hK K
          refine norm_ (a' := ?_) ?_ ?_
          rotate_left
          · show Act.put _ (some 14) _ = _
            simp only [Act.put, zS, zZ, zC, i64_w, i32_w]
            rfl
          exact norm_ (by first | (simp only [putAll, Act.put, zS, zZ, zC]; done) | (simp only [putAll, Act.put, zS, zZ, zC]; rfl)) (hJ8_9 (gb272, gb273) _ ⟨hHeld, (rl_ HO_10), (rl_ HO_248000), blk_, blk_, blk_, blk_, blk_, blk_, blk_, GW272.out, GE272.out, NB227_272.out, NB272_227.out, NB228_272.out, NB272_228.out, NB229_272.out, NB272_229.out, NB247_272.out, NB272_247.out, NB261_272.out, NB272_261.out, NB273_272.out, NB272_273.out, GW273.out, GE273.out, NB227_273.out, NB273_227.out, NB228_273.out, NB273_228.out, NB229_273.out, NB273_229.out, NB247_273.out, NB273_247.out, NB261_273.out, NB273_261.out, bel_⟩)
        intro hJ8
        refine join_ (σ := Nat) 5 #[T_, T_, T_, F_, T_, T_, T_, F_, F_, T_, F_, F_] (fun s_ => [(14, .pointer (some ⟨s_, 0, none⟩))]) (fun s_ w' => (w'.cell? ⟨gb247, 0, none⟩ = some (.slice Ao58 t242.length co58) ∧ w'.cell? ⟨gb247, 1, none⟩ = some (.int .i64 t245) ∧ w'.cell? ⟨gb247, 2, none⟩ = some (.int .i64 t246) ∧ w'.cell? ⟨gb261, 0, none⟩ = some (.int .i64 t259) ∧ w'.cell? ⟨gb261, 1, none⟩ = some (.int .i64 t260)) ∧ (Kd.R k24 24 w' w.heap.size (fun k_ => some k_ ≠ (.slice Ao58 t242.length co58 : Value).ownBlock ∧ k_ ≠ gb227 ∧ k_ ≠ gb228 ∧ k_ ≠ gb261) (.slice Ao88 x10_2.length co88) x10_2) ∧ (Kd.R k24 24 w' w.heap.size (fun k_ => some k_ ≠ (.slice Ao88 x10_2.length co88 : Value).ownBlock ∧ k_ ≠ gb227 ∧ k_ ≠ gb228 ∧ k_ ≠ gb261) (.slice Ao58 t242.length co58) t242) ∧ (w'.heap[gb227]? = some (.cells #[.int .i64 a0_0, .int .i64 a0_1] 24 (0, 0))) ∧ (w'.heap[gb228]? = some (.cells #[.int .i64 a1_0, .int .i64 a1_1] 24 (0, 0))) ∧ (w'.heap[gb229]? = some (.cells #[.slice A2_0 l2_0.length c2_0, .slice A2_1 l2_1.length c2_1] 44 (0, 0))) ∧ (w'.heap[gb247]? = some (.cells #[.slice Ao58 t242.length co58, .int .i64 t245, .int .i64 t246] 26 (0, 0))) ∧ (w'.heap[gb261]? = some (.cells #[.int .i64 t259, .int .i64 t260] 24 (0, 0))) ∧ (w'.heap[s_]? = some (.cells #[.slice none 0 0, .int .i64 0, .int .i64 0] 26 (0, 0))) ∧ (w.heap.size ≤ s_) ∧ (w.heap.size ≤ s_) ∧ (gb227 ≠ s_) ∧ (s_ ≠ gb227) ∧ (gb228 ≠ s_) ∧ (s_ ≠ gb228) ∧ (gb229 ≠ s_) ∧ (s_ ≠ gb229) ∧ (gb247 ≠ s_) ∧ (s_ ≠ gb247) ∧ (gb261 ≠ s_) ∧ (s_ ≠ gb261) ∧ (Below w.heap.size w w')) ?_ ?_
        rotate_left
        rotate_left
        · skip
          rintro gb273 w92 ⟨hS_, h0_, h1_, h2_, h3_, h4_, h5_, h6_, h7_, h8_, h9_, h10_, h11_, h12_, h13_, h14_, h15_, h16_, h17_, h18_, h19_, h20_⟩
          replace HO_10 : Aside0 (Kd.R k24 24 w92 w.heap.size (fun k_ => some k_ ≠ (.slice Ao58 t242.length co58 : Value).ownBlock ∧ k_ ≠ gb227 ∧ k_ ≠ gb228 ∧ k_ ≠ gb261) (.slice Ao88 x10_2.length co88) x10_2) := ⟨h0_⟩
          replace HO_248000 : Aside0 (Kd.R k24 24 w92 w.heap.size (fun k_ => some k_ ≠ (.slice Ao88 x10_2.length co88 : Value).ownBlock ∧ k_ ≠ gb227 ∧ k_ ≠ gb228 ∧ k_ ≠ gb261) (.slice Ao58 t242.length co58) t242) := ⟨h1_⟩
          replace BK227 : Aside0 (w92.heap[gb227]? = some (.cells #[.int .i64 a0_0, .int .i64 a0_1] 24 (0, 0))) := ⟨h2_⟩
          replace BK228 : Aside0 (w92.heap[gb228]? = some (.cells #[.int .i64 a1_0, .int .i64 a1_1] 24 (0, 0))) := ⟨h3_⟩
          replace BK229 : Aside0 (w92.heap[gb229]? = some (.cells #[.slice A2_0 l2_0.length c2_0, .slice A2_1 l2_1.length c2_1] 44 (0, 0))) := ⟨h4_⟩
          replace BK247 : Aside0 (w92.heap[gb247]? = some (.cells #[.slice Ao58 t242.length co58, .int .i64 t245, .int .i64 t246] 26 (0, 0))) := ⟨h5_⟩
          replace BK261 : Aside0 (w92.heap[gb261]? = some (.cells #[.int .i64 t259, .int .i64 t260] 24 (0, 0))) := ⟨h6_⟩
          have BK273 : Aside0 (w92.heap[gb273]? = some (.cells #[.slice none 0 0, .int .i64 0, .int .i64 0] 26 (0, 0))) := ⟨h7_⟩
          have GW273 : Aside0 (w.heap.size ≤ gb273) := ⟨h8_⟩
          have GE273 : Aside0 (w.heap.size ≤ gb273) := ⟨h9_⟩
          have NB227_273 : Aside0 (gb227 ≠ gb273) := ⟨h10_⟩
          have NB273_227 : Aside0 (gb273 ≠ gb227) := ⟨h11_⟩
          have NB228_273 : Aside0 (gb228 ≠ gb273) := ⟨h12_⟩
          have NB273_228 : Aside0 (gb273 ≠ gb228) := ⟨h13_⟩
          have NB229_273 : Aside0 (gb229 ≠ gb273) := ⟨h14_⟩
          have NB273_229 : Aside0 (gb273 ≠ gb229) := ⟨h15_⟩
          have NB247_273 : Aside0 (gb247 ≠ gb273) := ⟨h16_⟩
          have NB273_247 : Aside0 (gb273 ≠ gb247) := ⟨h17_⟩
          have NB261_273 : Aside0 (gb261 ≠ gb273) := ⟨h18_⟩
          have NB273_261 : Aside0 (gb273 ≠ gb261) := ⟨h19_⟩
          replace HB : Aside0 (Below w.heap.size w w92) := ⟨h20_⟩
          clear h0_ h1_ h2_ h3_ h4_ h5_ h6_ h7_ h8_ h9_ h10_ h11_ h12_ h13_ h14_ h15_ h16_ h17_ h18_ h19_ h20_
          have hHeld : w92.cell? ⟨gb247, 0, none⟩ = some (.slice Ao58 t242.length co58) ∧ w92.cell? ⟨gb247, 1, none⟩ = some (.int .i64 t245) ∧ w92.cell? ⟨gb247, 2, none⟩ = some (.int .i64 t246) ∧ w92.cell? ⟨gb261, 0, none⟩ = some (.int .i64 t259) ∧ w92.cell? ⟨gb261, 1, none⟩ = some (.int .i64 t260) := hS_
          refine norm_ (a' := ?_) ?_ ?_
          rotate_left
          · simp only [putAll, Act.put, zS, zZ, zC]
            rfl
          refine two_ (i := 3) (j := 8) (Ni := some 81) (Nj := some 13) #[T_, T_, T_, T_, T_, T_, T_, F_, F_, T_, F_, F_] #[T_, T_, T_, F_, T_, T_, T_, F_, T_, T_, F_, F_] rfl rfl rfl rfl (two_of HT_.out (by kernel_rfl)) (by decide) (by decide) (fun K hK => ?_) (fun K hK => ?_)
          · skip
            refine goes_ Try.func14 (by kernel_rfl) rfl #[.agg #[.slice Ao58 t242.length co58, .int .i64 t245, .int .i64 t246], .agg #[.int .i64 t259, .int .i64 t260], .slice A2_1 l2_1.length c2_1] (by rfl) rfl rfl (by (try simp only [List.map_toArray, List.map_cons, List.map_nil]); first | done | rfl | (simp only [List.length_drop, List.length_take]; rfl)) ?_
            with_reducible refine (front_Step.calls k2 _ _ t242 t245 t246 t259 t260 _ _ l2_1 t262 t265 t266 _ ?side1 ?side2 ?side3 ?side4 A74.out).mono ?_
            (case side1 => repeat (first | exact (Kd.R_reads' HO_248000.out).2.2 | (with_reducible refine Kd.C_alloc ?_ _) | (with_reducible refine Kd.C_drewN ?_ _) | (with_reducible refine Kd.C_drew ?_)))
            (case side2 => exact (Kd.R_reads' HO_248000.out).2.1)
            (case side3 => repeat (first | exact (Kd.C_below HR2_1.out HB.out) | (with_reducible refine Kd.C_alloc ?_ _) | (with_reducible refine Kd.C_drewN ?_ _) | (with_reducible refine Kd.C_drew ?_)))
            (case side4 => exact HC2_1.out)
            rintro e w93 ⟨v263, rfl, ho0, hb⟩
            refine ⟨_, rfl, ?_⟩
            have HO264 := zM (Kd.R_lower (Kd.R_newB (Kd.R_newB (Kd.R_newB (Kd.R_new' (Kd.R_new' ho0 (Kd.R_lt (rl_ HO_10))) (Kd.R_lt (rl_ HO_248000))) (g := gb227) (o := .cells #[.int .i64 a0_0, .int .i64 a0_1] 24 (0, 0)) blk_) (g := gb228) (o := .cells #[.int .i64 a1_0, .int .i64 a1_1] 24 (0, 0)) blk_) (g := gb261) (o := .cells #[.int .i64 t259, .int .i64 t260] 24 (0, 0)) blk_) (below_size bel_))
            replace HO_10 := zM (Kd.R_elder' (rl_ HO_10) (Kd.R_base ho0) hb)
            replace HO_248000 := zM (Kd.R_elder' (rl_ HO_248000) (Kd.R_base ho0) hb)
            replace BK227 := zM (bb_ BK227 hb)
            replace BK228 := zM (bb_ BK228 hb)
            replace BK229 := zM (bb_ BK229 hb)
            replace BK247 := zM (bb_ BK247 hb)
            replace BK261 := zM (bb_ BK261 hb)
            replace BK273 := zM (bb_ BK273 hb)
            replace HB := zM (zB bel_ hb)
            (try clear hb)
            (try clear hb2)
            (try clear hk)
            (try clear hi)
            (try clear ho0)
            refine hK.out _ _ ⟨(zL BK247.out 0).trans rfl, (zL BK247.out 1).trans rfl, (zL BK247.out 2).trans rfl, (zL BK261.out 0).trans rfl, (zL BK261.out 1).trans rfl⟩ (fun hHeld => ?_)
            clear hK K
            refine norm_ (a' := ?_) ?_ ?_
            rotate_left
            · show Act.put _ (some 81) _ = _
              simp only [Act.put, zS, zZ, zC, i64_w, i32_w]
              rfl
            exact norm_ (by first | (simp only [putAll, Act.put, zS, zZ, zC]; done) | (simp only [putAll, Act.put, zS, zZ, zC]; rfl)) (hJ3_9 (v263, gb273) _ ⟨hHeld, (by (with_reducible repeat (first | apply Kd.R_alloc | apply Kd.R_drewN | apply Kd.R_drew)); exact Kd.R_mono HO264.out (fun _ hk => ⟨hk.1.1.1.1.2, ⟨hk.1.1.1.2, ⟨hk.1.1.2, ⟨hk.1.2, hk.2⟩⟩⟩⟩)), (by (with_reducible repeat (first | apply Kd.R_alloc | apply Kd.R_drewN | apply Kd.R_drew)); exact Kd.R_mono HO_10.out (fun _ hk => ⟨hk.2, ⟨hk.1.1, ⟨hk.1.2.1, ⟨hk.1.2.2.1, hk.1.2.2.2⟩⟩⟩⟩)), (by (with_reducible repeat (first | apply Kd.R_alloc | apply Kd.R_drewN | apply Kd.R_drew)); exact Kd.R_mono HO_248000.out (fun _ hk => ⟨hk.2, ⟨hk.1.1, ⟨hk.1.2.1, ⟨hk.1.2.2.1, hk.1.2.2.2⟩⟩⟩⟩)), blk_, blk_, blk_, blk_, blk_, blk_, GW273.out, GE273.out, NB227_273.out, NB273_227.out, NB228_273.out, NB273_228.out, NB229_273.out, NB273_229.out, NB247_273.out, NB273_247.out, NB261_273.out, NB273_261.out, bel_⟩)
          skip
          refine box_step ?hg (N := 13) ?hd (cs := #[.slice none 0 0, .int .i64 0, .int .i64 0]) (t := 26) ?hr ?_; (case hd => rfl); (case hg => rfl); (case hr => first | (go_simp; done) | (go_simp; rfl))
          intro gb272 hg w93 hbox hb
          replace HO_10 := zM (Kd.R_below (rl_ HO_10) hb)
          replace HO_248000 := zM (Kd.R_below (rl_ HO_248000) hb)
          have BK272 := zM (hbox)
          have GW272 := zM (bs_ hg)
          have GE272 := zM (bs_ hg)
          replace HB := zM (zB bel_ hb)
          have NB227_272 := zM (nl_ BK227 hg)
          have NB272_227 := zM (ng_ BK227 hg)
          replace BK227 := zM (bb_ BK227 hb)
          have NB228_272 := zM (nl_ BK228 hg)
          have NB272_228 := zM (ng_ BK228 hg)
          replace BK228 := zM (bb_ BK228 hb)
          have NB229_272 := zM (nl_ BK229 hg)
          have NB272_229 := zM (ng_ BK229 hg)
          replace BK229 := zM (bb_ BK229 hb)
          have NB247_272 := zM (nl_ BK247 hg)
          have NB272_247 := zM (ng_ BK247 hg)
          replace BK247 := zM (bb_ BK247 hb)
          have NB261_272 := zM (nl_ BK261 hg)
          have NB272_261 := zM (ng_ BK261 hg)
          replace BK261 := zM (bb_ BK261 hb)
          have NB273_272 := zM (nl_ BK273 hg)
          have NB272_273 := zM (ng_ BK273 hg)
          replace BK273 := zM (bb_ BK273 hb)
          clear hb hbox hg
          refine hK.out _ _ ⟨(zL BK247.out 0).trans rfl, (zL BK247.out 1).trans rfl, (zL BK247.out 2).trans rfl, (zL BK261.out 0).trans rfl, (zL BK261.out 1).trans rfl⟩ (fun hHeld => ?_)
          clear hK K
          refine norm_ (a' := ?_) ?_ ?_
          rotate_left
          · show Act.put _ (some 13) _ = _
            simp only [Act.put, zS, zZ, zC, i64_w, i32_w]
            rfl
          exact norm_ (by first | (simp only [putAll, Act.put, zS, zZ, zC]; done) | (simp only [putAll, Act.put, zS, zZ, zC]; rfl)) (hJ8_9 (gb272, gb273) _ ⟨hHeld, (rl_ HO_10), (rl_ HO_248000), blk_, blk_, blk_, blk_, blk_, blk_, blk_, GW272.out, GE272.out, NB227_272.out, NB272_227.out, NB228_272.out, NB272_228.out, NB229_272.out, NB272_229.out, NB247_272.out, NB272_247.out, NB261_272.out, NB272_261.out, NB273_272.out, NB272_273.out, GW273.out, GE273.out, NB227_273.out, NB273_227.out, NB228_273.out, NB273_228.out, NB229_273.out, NB273_229.out, NB247_273.out, NB273_247.out, NB261_273.out, NB273_261.out, bel_⟩)
        intro hJ9
        refine three_ (i := 3) (j := 8) (k := 9) (Ni := some 81) (Nj := some 13) (Nk := some 14) #[T_, T_, T_, T_, T_, T_, T_, F_, F_, F_, F_, F_] #[T_, T_, T_, F_, T_, T_, T_, F_, T_, F_, F_, F_] #[T_, T_, T_, F_, T_, T_, T_, F_, F_, T_, F_, F_] rfl rfl rfl rfl rfl rfl (three_of HT_.out (by kernel_rfl)) (by decide) (by decide) (by decide) (fun K hK => ?_) (fun K hK => ?_) (fun K hK => ?_)
        · skip
          refine goes_ Try.func14 (by kernel_rfl) rfl #[.agg #[.slice Ao58 t242.length co58, .int .i64 t245, .int .i64 t246], .agg #[.int .i64 t259, .int .i64 t260], .slice A2_1 l2_1.length c2_1] (by rfl) rfl rfl (by (try simp only [List.map_toArray, List.map_cons, List.map_nil]); first | done | rfl | (simp only [List.length_drop, List.length_take]; rfl)) ?_
          with_reducible refine (front_Step.calls k2 _ _ t242 t245 t246 t259 t260 _ _ l2_1 t262 t265 t266 _ ?side1 ?side2 ?side3 ?side4 A74.out).mono ?_
          (case side1 => repeat (first | exact (Kd.R_reads' HO_248000.out).2.2 | (with_reducible refine Kd.C_alloc ?_ _) | (with_reducible refine Kd.C_drewN ?_ _) | (with_reducible refine Kd.C_drew ?_)))
          (case side2 => exact (Kd.R_reads' HO_248000.out).2.1)
          (case side3 => repeat (first | exact (Kd.C_below HR2_1.out HB.out) | (with_reducible refine Kd.C_alloc ?_ _) | (with_reducible refine Kd.C_drewN ?_ _) | (with_reducible refine Kd.C_drew ?_)))
          (case side4 => exact HC2_1.out)
          rintro e w91 ⟨v263, rfl, ho0, hb⟩
          refine ⟨_, rfl, ?_⟩
          have HO264 := zM (Kd.R_lower (Kd.R_newB (Kd.R_newB (Kd.R_newB (Kd.R_new' (Kd.R_new' ho0 (Kd.R_lt (rl_ HO_10))) (Kd.R_lt (rl_ HO_248000))) (g := gb227) (o := .cells #[.int .i64 a0_0, .int .i64 a0_1] 24 (0, 0)) blk_) (g := gb228) (o := .cells #[.int .i64 a1_0, .int .i64 a1_1] 24 (0, 0)) blk_) (g := gb261) (o := .cells #[.int .i64 t259, .int .i64 t260] 24 (0, 0)) blk_) (below_size bel_))
          replace HO_10 := zM (Kd.R_elder' (rl_ HO_10) (Kd.R_base ho0) hb)
          replace HO_248000 := zM (Kd.R_elder' (rl_ HO_248000) (Kd.R_base ho0) hb)
          replace BK227 := zM (bb_ BK227 hb)
          replace BK228 := zM (bb_ BK228 hb)
          replace BK229 := zM (bb_ BK229 hb)
          replace BK247 := zM (bb_ BK247 hb)
          replace BK261 := zM (bb_ BK261 hb)
          replace HB := zM (zB bel_ hb)
          (try clear hb)
          (try clear hb2)
          (try clear hk)
          (try clear hi)
          (try clear ho0)
          refine hK.out _ _ ⟨(zL BK247.out 0).trans rfl, (zL BK247.out 1).trans rfl, (zL BK247.out 2).trans rfl, (zL BK261.out 0).trans rfl, (zL BK261.out 1).trans rfl⟩ (fun hHeld => ?_)
          clear hK K
          refine norm_ (a' := ?_) ?_ ?_
          rotate_left
          · show Act.put _ (some 81) _ = _
            simp only [Act.put, zS, zZ, zC, i64_w, i32_w]
            rfl
          exact norm_ (by first | (simp only [putAll, Act.put, zS, zZ, zC]; done) | (simp only [putAll, Act.put, zS, zZ, zC]; rfl)) (hJ3 (v263) _ ⟨hHeld, (by (with_reducible repeat (first | apply Kd.R_alloc | apply Kd.R_drewN | apply Kd.R_drew)); exact Kd.R_mono HO264.out (fun _ hk => ⟨hk.1.1.1.1.2, ⟨hk.1.1.1.2, ⟨hk.1.1.2, ⟨hk.1.2, hk.2⟩⟩⟩⟩)), (by (with_reducible repeat (first | apply Kd.R_alloc | apply Kd.R_drewN | apply Kd.R_drew)); exact Kd.R_mono HO_10.out (fun _ hk => ⟨hk.2, ⟨hk.1.1, ⟨hk.1.2.1, ⟨hk.1.2.2.1, hk.1.2.2.2⟩⟩⟩⟩)), (by (with_reducible repeat (first | apply Kd.R_alloc | apply Kd.R_drewN | apply Kd.R_drew)); exact Kd.R_mono HO_248000.out (fun _ hk => ⟨hk.2, ⟨hk.1.1, ⟨hk.1.2.1, ⟨hk.1.2.2.1, hk.1.2.2.2⟩⟩⟩⟩)), blk_, blk_, blk_, blk_, blk_, bel_⟩)
        · skip
          refine box_step ?hg (N := 13) ?hd (cs := #[.slice none 0 0, .int .i64 0, .int .i64 0]) (t := 26) ?hr ?_; (case hd => rfl); (case hg => rfl); (case hr => first | (go_simp; done) | (go_simp; rfl))
          intro gb272 hg w91 hbox hb
          replace HO_10 := zM (Kd.R_below (rl_ HO_10) hb)
          replace HO_248000 := zM (Kd.R_below (rl_ HO_248000) hb)
          have BK272 := zM (hbox)
          have GW272 := zM (bs_ hg)
          have GE272 := zM (bs_ hg)
          replace HB := zM (zB bel_ hb)
          have NB227_272 := zM (nl_ BK227 hg)
          have NB272_227 := zM (ng_ BK227 hg)
          replace BK227 := zM (bb_ BK227 hb)
          have NB228_272 := zM (nl_ BK228 hg)
          have NB272_228 := zM (ng_ BK228 hg)
          replace BK228 := zM (bb_ BK228 hb)
          have NB229_272 := zM (nl_ BK229 hg)
          have NB272_229 := zM (ng_ BK229 hg)
          replace BK229 := zM (bb_ BK229 hb)
          have NB247_272 := zM (nl_ BK247 hg)
          have NB272_247 := zM (ng_ BK247 hg)
          replace BK247 := zM (bb_ BK247 hb)
          have NB261_272 := zM (nl_ BK261 hg)
          have NB272_261 := zM (ng_ BK261 hg)
          replace BK261 := zM (bb_ BK261 hb)
          clear hb hbox hg
          refine hK.out _ _ ⟨(zL BK247.out 0).trans rfl, (zL BK247.out 1).trans rfl, (zL BK247.out 2).trans rfl, (zL BK261.out 0).trans rfl, (zL BK261.out 1).trans rfl⟩ (fun hHeld => ?_)
          clear hK K
          refine norm_ (a' := ?_) ?_ ?_
          rotate_left
          · show Act.put _ (some 13) _ = _
            simp only [Act.put, zS, zZ, zC, i64_w, i32_w]
            rfl
          exact norm_ (by first | (simp only [putAll, Act.put, zS, zZ, zC]; done) | (simp only [putAll, Act.put, zS, zZ, zC]; rfl)) (hJ8 (gb272) _ ⟨hHeld, (rl_ HO_10), (rl_ HO_248000), blk_, blk_, blk_, blk_, blk_, blk_, GW272.out, GE272.out, NB227_272.out, NB272_227.out, NB228_272.out, NB272_228.out, NB229_272.out, NB272_229.out, NB247_272.out, NB272_247.out, NB261_272.out, NB272_261.out, bel_⟩)
        skip
        refine box_step ?hg (N := 14) ?hd (cs := #[.slice none 0 0, .int .i64 0, .int .i64 0]) (t := 26) ?hr ?_; (case hd => rfl); (case hg => rfl); (case hr => first | (go_simp; done) | (go_simp; rfl))
        intro gb273 hg w91 hbox hb
        replace HO_10 := zM (Kd.R_below (rl_ HO_10) hb)
        replace HO_248000 := zM (Kd.R_below (rl_ HO_248000) hb)
        have BK273 := zM (hbox)
        have GW273 := zM (bs_ hg)
        have GE273 := zM (bs_ hg)
        replace HB := zM (zB bel_ hb)
        have NB227_273 := zM (nl_ BK227 hg)
        have NB273_227 := zM (ng_ BK227 hg)
        replace BK227 := zM (bb_ BK227 hb)
        have NB228_273 := zM (nl_ BK228 hg)
        have NB273_228 := zM (ng_ BK228 hg)
        replace BK228 := zM (bb_ BK228 hb)
        have NB229_273 := zM (nl_ BK229 hg)
        have NB273_229 := zM (ng_ BK229 hg)
        replace BK229 := zM (bb_ BK229 hb)
        have NB247_273 := zM (nl_ BK247 hg)
        have NB273_247 := zM (ng_ BK247 hg)
        replace BK247 := zM (bb_ BK247 hb)
        have NB261_273 := zM (nl_ BK261 hg)
        have NB273_261 := zM (ng_ BK261 hg)
        replace BK261 := zM (bb_ BK261 hb)
        clear hb hbox hg
        refine hK.out _ _ ⟨(zL BK247.out 0).trans rfl, (zL BK247.out 1).trans rfl, (zL BK247.out 2).trans rfl, (zL BK261.out 0).trans rfl, (zL BK261.out 1).trans rfl⟩ (fun hHeld => ?_)
        clear hK K
        refine norm_ (a' := ?_) ?_ ?_
        rotate_left
        · show Act.put _ (some 14) _ = _
          simp only [Act.put, zS, zZ, zC, i64_w, i32_w]
          rfl
        exact norm_ (by first | (simp only [putAll, Act.put, zS, zZ, zC]; done) | (simp only [putAll, Act.put, zS, zZ, zC]; rfl)) (hJ9 (gb273) _ ⟨hHeld, (rl_ HO_10), (rl_ HO_248000), blk_, blk_, blk_, blk_, blk_, blk_, GW273.out, GE273.out, NB227_273.out, NB273_227.out, NB228_273.out, NB273_228.out, NB229_273.out, NB273_229.out, NB247_273.out, NB273_247.out, NB261_273.out, NB273_261.out, bel_⟩)
      rintro ⟨v263, v268, gb272, gb273⟩ w95 ⟨hS_, h0_, h1_, h2_, h3_, h4_, h5_, h6_, h7_, h8_, h9_, h10_, h11_, h12_, h13_, h14_, h15_, h16_, h17_, h18_, h19_, h20_, h21_, h22_, h23_, h24_, h25_, h26_, h27_, h28_, h29_, h30_, h31_, h32_, h33_, h34_, h35_, h36_, h37_⟩
      have HO264 : Aside0 (Kd.R k24 24 w95 w.heap.size (fun k_ => some k_ ≠ (v268 : Value).ownBlock ∧ some k_ ≠ (.slice Ao88 x10_2.length co88 : Value).ownBlock ∧ some k_ ≠ (.slice Ao58 t242.length co58 : Value).ownBlock ∧ k_ ≠ gb227 ∧ k_ ≠ gb228 ∧ k_ ≠ gb261) v263 t262) := ⟨h0_⟩
      have HO269 : Aside0 (Kd.R k24 24 w95 w.heap.size (fun k_ => some k_ ≠ (v263 : Value).ownBlock ∧ some k_ ≠ (.slice Ao88 x10_2.length co88 : Value).ownBlock ∧ some k_ ≠ (.slice Ao58 t242.length co58 : Value).ownBlock ∧ k_ ≠ gb227 ∧ k_ ≠ gb228 ∧ k_ ≠ gb261) v268 t267) := ⟨h1_⟩
      replace HO_10 : Aside0 (Kd.R k24 24 w95 w.heap.size (fun k_ => some k_ ≠ (v263 : Value).ownBlock ∧ some k_ ≠ (v268 : Value).ownBlock ∧ some k_ ≠ (.slice Ao58 t242.length co58 : Value).ownBlock ∧ k_ ≠ gb227 ∧ k_ ≠ gb228 ∧ k_ ≠ gb261) (.slice Ao88 x10_2.length co88) x10_2) := ⟨h2_⟩
      replace HO_248000 : Aside0 (Kd.R k24 24 w95 w.heap.size (fun k_ => some k_ ≠ (v263 : Value).ownBlock ∧ some k_ ≠ (v268 : Value).ownBlock ∧ some k_ ≠ (.slice Ao88 x10_2.length co88 : Value).ownBlock ∧ k_ ≠ gb227 ∧ k_ ≠ gb228 ∧ k_ ≠ gb261) (.slice Ao58 t242.length co58) t242) := ⟨h3_⟩
      replace BK227 : Aside0 (w95.heap[gb227]? = some (.cells #[.int .i64 a0_0, .int .i64 a0_1] 24 (0, 0))) := ⟨h4_⟩
      replace BK228 : Aside0 (w95.heap[gb228]? = some (.cells #[.int .i64 a1_0, .int .i64 a1_1] 24 (0, 0))) := ⟨h5_⟩
      replace BK229 : Aside0 (w95.heap[gb229]? = some (.cells #[.slice A2_0 l2_0.length c2_0, .slice A2_1 l2_1.length c2_1] 44 (0, 0))) := ⟨h6_⟩
      replace BK247 : Aside0 (w95.heap[gb247]? = some (.cells #[.slice Ao58 t242.length co58, .int .i64 t245, .int .i64 t246] 26 (0, 0))) := ⟨h7_⟩
      replace BK261 : Aside0 (w95.heap[gb261]? = some (.cells #[.int .i64 t259, .int .i64 t260] 24 (0, 0))) := ⟨h8_⟩
      have BK272 : Aside0 (w95.heap[gb272]? = some (.cells #[.slice none 0 0, .int .i64 0, .int .i64 0] 26 (0, 0))) := ⟨h9_⟩
      have BK273 : Aside0 (w95.heap[gb273]? = some (.cells #[.slice none 0 0, .int .i64 0, .int .i64 0] 26 (0, 0))) := ⟨h10_⟩
      have GW272 : Aside0 (w.heap.size ≤ gb272) := ⟨h11_⟩
      have GE272 : Aside0 (w.heap.size ≤ gb272) := ⟨h12_⟩
      have NB227_272 : Aside0 (gb227 ≠ gb272) := ⟨h13_⟩
      have NB272_227 : Aside0 (gb272 ≠ gb227) := ⟨h14_⟩
      have NB228_272 : Aside0 (gb228 ≠ gb272) := ⟨h15_⟩
      have NB272_228 : Aside0 (gb272 ≠ gb228) := ⟨h16_⟩
      have NB229_272 : Aside0 (gb229 ≠ gb272) := ⟨h17_⟩
      have NB272_229 : Aside0 (gb272 ≠ gb229) := ⟨h18_⟩
      have NB247_272 : Aside0 (gb247 ≠ gb272) := ⟨h19_⟩
      have NB272_247 : Aside0 (gb272 ≠ gb247) := ⟨h20_⟩
      have NB261_272 : Aside0 (gb261 ≠ gb272) := ⟨h21_⟩
      have NB272_261 : Aside0 (gb272 ≠ gb261) := ⟨h22_⟩
      have NB273_272 : Aside0 (gb273 ≠ gb272) := ⟨h23_⟩
      have NB272_273 : Aside0 (gb272 ≠ gb273) := ⟨h24_⟩
      have GW273 : Aside0 (w.heap.size ≤ gb273) := ⟨h25_⟩
      have GE273 : Aside0 (w.heap.size ≤ gb273) := ⟨h26_⟩
      have NB227_273 : Aside0 (gb227 ≠ gb273) := ⟨h27_⟩
      have NB273_227 : Aside0 (gb273 ≠ gb227) := ⟨h28_⟩
      have NB228_273 : Aside0 (gb228 ≠ gb273) := ⟨h29_⟩
      have NB273_228 : Aside0 (gb273 ≠ gb228) := ⟨h30_⟩
      have NB229_273 : Aside0 (gb229 ≠ gb273) := ⟨h31_⟩
      have NB273_229 : Aside0 (gb273 ≠ gb229) := ⟨h32_⟩
      have NB247_273 : Aside0 (gb247 ≠ gb273) := ⟨h33_⟩
      have NB273_247 : Aside0 (gb273 ≠ gb247) := ⟨h34_⟩
      have NB261_273 : Aside0 (gb261 ≠ gb273) := ⟨h35_⟩
      have NB273_261 : Aside0 (gb273 ≠ gb261) := ⟨h36_⟩
      replace HB : Aside0 (Below w.heap.size w w95) := ⟨h37_⟩
      clear h0_ h1_ h2_ h3_ h4_ h5_ h6_ h7_ h8_ h9_ h10_ h11_ h12_ h13_ h14_ h15_ h16_ h17_ h18_ h19_ h20_ h21_ h22_ h23_ h24_ h25_ h26_ h27_ h28_ h29_ h30_ h31_ h32_ h33_ h34_ h35_ h36_ h37_
      have hHeld : w95.cell? ⟨gb247, 0, none⟩ = some (.slice Ao58 t242.length co58) ∧ w95.cell? ⟨gb247, 1, none⟩ = some (.int .i64 t245) ∧ w95.cell? ⟨gb247, 2, none⟩ = some (.int .i64 t246) ∧ w95.cell? ⟨gb261, 0, none⟩ = some (.int .i64 t259) ∧ w95.cell? ⟨gb261, 1, none⟩ = some (.int .i64 t260) := hS_
      obtain ⟨Ao96, co96, eo96⟩ := Kd.R_slice HO264.out
      (first | subst eo96 | (injection eo96 with f1_ f2_ f3_; have f4_ := f1_.symm; have f5_ := f3_.symm; clear f1_ f2_ f3_; subst f4_; subst f5_))
      obtain ⟨Ao100, co100, eo100⟩ := Kd.R_slice HO269.out
      (first | subst eo100 | (injection eo100 with f1_ f2_ f3_; have f4_ := f1_.symm; have f5_ := f3_.symm; clear f1_ f2_ f3_; subst f4_; subst f5_))
      refine norm_ (a' := ?_) ?_ ?_
      rotate_left
      · simp only [putAll, Act.put, zS, zZ, zC]
        rfl
      refine one_ (i := 10) (N := none) #[T_, T_, T_, T_, T_, T_, T_, T_, T_, T_, T_, F_] rfl rfl (one_of HT_.out (by kernel_rfl)) (by decide) (fun K hK => ?_)
      have hs97 : w95.cell? ⟨gb272, 0, none⟩ = some (.slice none 0 0) := (zL BK272.out 0).trans rfl
      have hfs97 := zF BK272.out 0
      have hns97_0 := NB227_272.out
      have hns97_1 := NB228_272.out
      have hns97_2 := NB229_272.out
      have hns97_3 := NB247_272.out
      have hns97_4 := NB261_272.out
      have hns97_6 := NB273_272.out
      have hms97_0 := NB272_227.out
      have hms97_1 := NB272_228.out
      have hms97_2 := NB272_229.out
      have hms97_3 := NB272_247.out
      have hms97_4 := NB272_261.out
      have hms97_6 := NB272_273.out
      have hs98 : w95.cell? ⟨gb272, 1, none⟩ = some (.int .i64 0) := (zL BK272.out 1).trans rfl
      have hfs98 := zF BK272.out 1
      have hns98_0 := NB227_272.out
      have hns98_1 := NB228_272.out
      have hns98_2 := NB229_272.out
      have hns98_3 := NB247_272.out
      have hns98_4 := NB261_272.out
      have hns98_6 := NB273_272.out
      have hms98_0 := NB272_227.out
      have hms98_1 := NB272_228.out
      have hms98_2 := NB272_229.out
      have hms98_3 := NB272_247.out
      have hms98_4 := NB272_261.out
      have hms98_6 := NB272_273.out
      have hs99 : w95.cell? ⟨gb272, 2, none⟩ = some (.int .i64 0) := (zL BK272.out 2).trans rfl
      have hfs99 := zF BK272.out 2
      have hns99_0 := NB227_272.out
      have hns99_1 := NB228_272.out
      have hns99_2 := NB229_272.out
      have hns99_3 := NB247_272.out
      have hns99_4 := NB261_272.out
      have hns99_6 := NB273_272.out
      have hms99_0 := NB272_227.out
      have hms99_1 := NB272_228.out
      have hms99_2 := NB272_229.out
      have hms99_3 := NB272_247.out
      have hms99_4 := NB272_261.out
      have hms99_6 := NB272_273.out
      refine skip_ (w1 := ?_) (by rfl) rfl ?_ ?_
      rotate_left
      · go_simp
        rfl
      refine hK.out _ _ ⟨((cell_far (p := ⟨gb272, _, none⟩) NB247_272.out _).trans (((cell_far (p := ⟨gb272, _, none⟩) NB247_272.out _).trans (((cell_far (p := ⟨gb272, _, none⟩) NB247_272.out _).trans (hHeld.1)))))), ((cell_far (p := ⟨gb272, _, none⟩) NB247_272.out _).trans (((cell_far (p := ⟨gb272, _, none⟩) NB247_272.out _).trans (((cell_far (p := ⟨gb272, _, none⟩) NB247_272.out _).trans (hHeld.2.1)))))), ((cell_far (p := ⟨gb272, _, none⟩) NB247_272.out _).trans (((cell_far (p := ⟨gb272, _, none⟩) NB247_272.out _).trans (((cell_far (p := ⟨gb272, _, none⟩) NB247_272.out _).trans (hHeld.2.2.1)))))), ((cell_far (p := ⟨gb272, _, none⟩) NB261_272.out _).trans (((cell_far (p := ⟨gb272, _, none⟩) NB261_272.out _).trans (((cell_far (p := ⟨gb272, _, none⟩) NB261_272.out _).trans (hHeld.2.2.2.1)))))), ((cell_far (p := ⟨gb272, _, none⟩) NB261_272.out _).trans (((cell_far (p := ⟨gb272, _, none⟩) NB261_272.out _).trans (((cell_far (p := ⟨gb272, _, none⟩) NB261_272.out _).trans (hHeld.2.2.2.2))))))⟩ (fun hHeld => ?_)
      clear hK K
      refine one_ (i := 11) (N := none) #[T_, T_, T_, T_, T_, T_, T_, T_, T_, T_, T_, T_] rfl rfl (one_of HT_.out (by kernel_rfl)) (by decide) (fun K hK => ?_)
      have hs101 : w95.cell? ⟨gb273, 0, none⟩ = some (.slice none 0 0) := (zL BK273.out 0).trans rfl
      have hfs101 := zF BK273.out 0
      have hns101_0 := NB227_273.out
      have hns101_1 := NB228_273.out
      have hns101_2 := NB229_273.out
      have hns101_3 := NB247_273.out
      have hns101_4 := NB261_273.out
      have hns101_5 := NB272_273.out
      have hms101_0 := NB273_227.out
      have hms101_1 := NB273_228.out
      have hms101_2 := NB273_229.out
      have hms101_3 := NB273_247.out
      have hms101_4 := NB273_261.out
      have hms101_5 := NB273_272.out
      have hs102 : w95.cell? ⟨gb273, 1, none⟩ = some (.int .i64 0) := (zL BK273.out 1).trans rfl
      have hfs102 := zF BK273.out 1
      have hns102_0 := NB227_273.out
      have hns102_1 := NB228_273.out
      have hns102_2 := NB229_273.out
      have hns102_3 := NB247_273.out
      have hns102_4 := NB261_273.out
      have hns102_5 := NB272_273.out
      have hms102_0 := NB273_227.out
      have hms102_1 := NB273_228.out
      have hms102_2 := NB273_229.out
      have hms102_3 := NB273_247.out
      have hms102_4 := NB273_261.out
      have hms102_5 := NB273_272.out
      have hs103 : w95.cell? ⟨gb273, 2, none⟩ = some (.int .i64 0) := (zL BK273.out 2).trans rfl
      have hfs103 := zF BK273.out 2
      have hns103_0 := NB227_273.out
      have hns103_1 := NB228_273.out
      have hns103_2 := NB229_273.out
      have hns103_3 := NB247_273.out
      have hns103_4 := NB261_273.out
      have hns103_5 := NB272_273.out
      have hms103_0 := NB273_227.out
      have hms103_1 := NB273_228.out
      have hms103_2 := NB273_229.out
      have hms103_3 := NB273_247.out
      have hms103_4 := NB273_261.out
      have hms103_5 := NB273_272.out
      refine skip_ (w1 := ?_) (by rfl) rfl ?_ ?_
      rotate_left
      · go_simp
        rfl
      refine hK.out _ _ ⟨((cell_far (p := ⟨gb273, _, none⟩) NB247_273.out _).trans (((cell_far (p := ⟨gb273, _, none⟩) NB247_273.out _).trans (((cell_far (p := ⟨gb273, _, none⟩) NB247_273.out _).trans (hHeld.1)))))), ((cell_far (p := ⟨gb273, _, none⟩) NB247_273.out _).trans (((cell_far (p := ⟨gb273, _, none⟩) NB247_273.out _).trans (((cell_far (p := ⟨gb273, _, none⟩) NB247_273.out _).trans (hHeld.2.1)))))), ((cell_far (p := ⟨gb273, _, none⟩) NB247_273.out _).trans (((cell_far (p := ⟨gb273, _, none⟩) NB247_273.out _).trans (((cell_far (p := ⟨gb273, _, none⟩) NB247_273.out _).trans (hHeld.2.2.1)))))), ((cell_far (p := ⟨gb273, _, none⟩) NB261_273.out _).trans (((cell_far (p := ⟨gb273, _, none⟩) NB261_273.out _).trans (((cell_far (p := ⟨gb273, _, none⟩) NB261_273.out _).trans (hHeld.2.2.2.1)))))), ((cell_far (p := ⟨gb273, _, none⟩) NB261_273.out _).trans (((cell_far (p := ⟨gb273, _, none⟩) NB261_273.out _).trans (((cell_far (p := ⟨gb273, _, none⟩) NB261_273.out _).trans (hHeld.2.2.2.2))))))⟩ (fun hHeld => ?_)
      clear hK K
      refine done_ (done_of HT_.out (by kernel_rfl)) ?_
      go_upto_region 14 with (fail)
      go_cut [98] (fun v98 wc => ∃ (kq : Nat) (x98_75 : Bool), v98 = .bool x98_75 ∧ Aside0 (ropewaylaw16_FrontTurns.j2 kq x98_75 t242 t245 t246 t259 t260 t262 t265 t266 = some r) ∧ Aside0 (kq ≤ k2) ∧ Aside0 (Kd.R k24 24 wc w.heap.size (fun k_ => some k_ ≠ ((.slice Ao96 t262.length co96) : Value).ownBlock ∧ some k_ ≠ ((.slice Ao100 t267.length co100) : Value).ownBlock ∧ k_ ≠ gb227 ∧ k_ ≠ gb228 ∧ k_ ≠ gb261) (.slice Ao58 t242.length co58) t242) ∧ Aside0 (Kd.R k24 24 wc w.heap.size (fun k_ => some k_ ≠ ((.slice Ao58 t242.length co58) : Value).ownBlock ∧ some k_ ≠ ((.slice Ao100 t267.length co100) : Value).ownBlock ∧ k_ ≠ gb227 ∧ k_ ≠ gb228 ∧ k_ ≠ gb261) (.slice Ao96 t262.length co96) t262) ∧ Aside0 (Kd.R k24 24 wc w.heap.size (fun k_ => some k_ ≠ ((.slice Ao58 t242.length co58) : Value).ownBlock ∧ some k_ ≠ ((.slice Ao96 t262.length co96) : Value).ownBlock ∧ k_ ≠ gb227 ∧ k_ ≠ gb228 ∧ k_ ≠ gb261) (.slice Ao100 t267.length co100) t267) ∧ Aside0 (wc.heap[gb227]? = some (.cells #[.int .i64 a0_0, .int .i64 a0_1] 24 (0, 0))) ∧ Aside0 (wc.heap[gb228]? = some (.cells #[.int .i64 a1_0, .int .i64 a1_1] 24 (0, 0))) ∧ Aside0 (wc.heap[gb229]? = some (.cells #[(.slice A2_0 l2_0.length c2_0), (.slice A2_1 l2_1.length c2_1)] 44 (0, 0))) ∧ Aside0 (wc.heap[gb247]? = some (.cells #[(.slice Ao58 t242.length co58), .int .i64 t245, .int .i64 t246] 26 (0, 0))) ∧ Aside0 (wc.heap[gb261]? = some (.cells #[.int .i64 t259, .int .i64 t260] 24 (0, 0))) ∧ Aside0 (wc.heap[gb272]? = some (.cells #[(.slice Ao96 t262.length co96), .int .i64 t265, .int .i64 t266] 26 (0, 0))) ∧ Aside0 (wc.heap[gb273]? = some (.cells #[(.slice Ao100 t267.length co100), .int .i64 t270, .int .i64 t271] 26 (0, 0))) ∧ Aside0 (Below w.heap.size w wc))
      case first =>
       have H := HC76.out
       clear HC76
       replace H := Option.bind_eq_some_iff.mp H
       obtain ⟨t274, A1040, H⟩ := H
       replace H : (if t274 = true then (ropewaylaw16_FrontTurns.j2 k2 (!(t265 == t270) || (!(t266 == t271))) t242 t245 t246 t259 t260 t262 t265 t266) else (ropewaylaw16_FrontTurns.j2 k2 true t242 t245 t246 t259 t260 t262 t265 t266)) = some r := H
       have A104 := zM A1040
       clear A1040
       by_cases c105 : t274 = true
       rotate_left
       · replace c105 := Bool.eq_false_iff.mpr c105
         subst c105
         have H1 : (ropewaylaw16_FrontTurns.j2 k2 true t242 t245 t246 t259 t260 t262 t265 t266) = some r := by rw [if_neg (show ¬ (false = true) by decide)] at H; exact H
         clear H
         have H := H1
         clear H1
         have hr1 := hr1_.out
         subst hr1
         (cases k2) <;> simp [ropewaylaw16_FrontTurns.j2] at H
       subst c105
       have H1 : (ropewaylaw16_FrontTurns.j2 k2 (!(t265 == t270) || (!(t266 == t271))) t242 t245 t246 t259 t260 t262 t265 t266) = some r := by rw [if_pos rfl] at H; exact H
       clear H
       have H := H1
       clear H1
       have H' := zM H
       clear H
       have hnb106 := NB272_227.out
       have hnc106 := NB227_272.out
       have hnb107 := NB272_228.out
       have hnc107 := NB228_272.out
       have hnb108 := NB272_229.out
       have hnc108 := NB229_272.out
       have hnb109 := NB272_247.out
       have hnc109 := NB247_272.out
       have hnb110 := NB272_261.out
       have hnc110 := NB261_272.out
       have hnb111 := NB272_273.out
       have hnc111 := NB273_272.out
       have hcz112_0 : w95.cell? ⟨gb272, 0, none⟩ = some (.slice none 0 0) := (zL BK272.out 0).trans rfl
       have hcz112_1 : w95.cell? ⟨gb272, 1, none⟩ = some (.int .i64 0) := (zL BK272.out 1).trans rfl
       have hcz112_2 : w95.cell? ⟨gb272, 2, none⟩ = some (.int .i64 0) := (zL BK272.out 2).trans rfl
       have hfz112_0 := zF BK272.out 0
       have hfz112_1 := zF BK272.out 1
       have hfz112_2 := zF BK272.out 2
       have hnb113 := NB273_227.out
       have hnc113 := NB227_273.out
       have hnb114 := NB273_228.out
       have hnc114 := NB228_273.out
       have hnb115 := NB273_229.out
       have hnc115 := NB229_273.out
       have hnb116 := NB273_247.out
       have hnc116 := NB247_273.out
       have hnb117 := NB273_261.out
       have hnc117 := NB261_273.out
       have hcz118_0 : w95.cell? ⟨gb273, 0, none⟩ = some (.slice none 0 0) := (zL BK273.out 0).trans rfl
       have hcz118_1 : w95.cell? ⟨gb273, 1, none⟩ = some (.int .i64 0) := (zL BK273.out 1).trans rfl
       have hcz118_2 : w95.cell? ⟨gb273, 2, none⟩ = some (.int .i64 0) := (zL BK273.out 2).trans rfl
       have hfz118_0 := zF BK273.out 0
       have hfz118_1 := zF BK273.out 1
       have hfz118_2 := zF BK273.out 2
       go_wp2_with (first | ((with_reducible refine gate_callee (f := 15) rfl ?_); refine goL_ (some 90) Try.func15 #[.slice Ao96 t262.length co96, .slice Ao100 t267.length co100] ?_; (with_reducible refine (ropewayref05_Same.calls k2 _ _ t262 _ _ t267 true _ ?side1 ?side2 ?side3 ?side4 A104.out).mono ?_); (case side1 => refine (Kd.R_reads' (e := 24) (base := w.heap.size) (ok := fun k_ => (some k_ ≠ (.slice Ao100 t267.length co100 : Value).ownBlock ∧ (some k_ ≠ (.slice Ao88 x10_2.length co88 : Value).ownBlock ∧ (some k_ ≠ (.slice Ao58 t242.length co58 : Value).ownBlock ∧ (k_ ≠ gb227 ∧ (k_ ≠ gb228 ∧ k_ ≠ gb261)))))) (n := t262.length) (c := co96) ?_).2.2; exact (by (with_reducible repeat (first | apply Kd.R_alloc | apply Kd.R_drewN | apply Kd.R_drew)); exact (Kd.R_mono (Kd.R_mono (Kd.R_far (p := ⟨gb273, 2, none⟩) (Kd.R_far (p := ⟨gb273, 1, none⟩) (Kd.R_far (p := ⟨gb273, 0, none⟩) (Kd.R_far (p := ⟨gb272, 2, none⟩) (Kd.R_far (p := ⟨gb272, 1, none⟩) (Kd.R_far (p := ⟨gb272, 0, none⟩) (Kd.R_types (Kd.R_types HO264.out BK272.out (by decide)) BK273.out (by decide)) (fun _ hk => hk.1.2) (.slice Ao96 t262.length co96)) (fun _ hk => hk.1.2) (.int .i64 t265)) (fun _ hk => hk.1.2) (.int .i64 t266)) (fun _ hk => hk.2) (.slice Ao100 t267.length co100)) (fun _ hk => hk.2) (.int .i64 t270)) (fun _ hk => hk.2) (.int .i64 t271)) (fun _ h_ => h_.1)) (fun _ h_ => h_.1)))); (case side2 => exact (Kd.R_reads' HO264.out).2.1); (case side3 => refine (Kd.R_reads' (e := 24) (base := w.heap.size) (ok := fun k_ => (some k_ ≠ (.slice Ao96 t262.length co96 : Value).ownBlock ∧ (some k_ ≠ (.slice Ao88 x10_2.length co88 : Value).ownBlock ∧ (some k_ ≠ (.slice Ao58 t242.length co58 : Value).ownBlock ∧ (k_ ≠ gb227 ∧ (k_ ≠ gb228 ∧ k_ ≠ gb261)))))) (n := t267.length) (c := co100) ?_).2.2; exact (by (with_reducible repeat (first | apply Kd.R_alloc | apply Kd.R_drewN | apply Kd.R_drew)); exact (Kd.R_mono (Kd.R_mono (Kd.R_far (p := ⟨gb273, 2, none⟩) (Kd.R_far (p := ⟨gb273, 1, none⟩) (Kd.R_far (p := ⟨gb273, 0, none⟩) (Kd.R_far (p := ⟨gb272, 2, none⟩) (Kd.R_far (p := ⟨gb272, 1, none⟩) (Kd.R_far (p := ⟨gb272, 0, none⟩) (Kd.R_types (Kd.R_types HO269.out BK272.out (by decide)) BK273.out (by decide)) (fun _ hk => hk.1.2) (.slice Ao96 t262.length co96)) (fun _ hk => hk.1.2) (.int .i64 t265)) (fun _ hk => hk.1.2) (.int .i64 t266)) (fun _ hk => hk.2) (.slice Ao100 t267.length co100)) (fun _ hk => hk.2) (.int .i64 t270)) (fun _ hk => hk.2) (.int .i64 t271)) (fun _ h_ => h_.1)) (fun _ h_ => h_.1)))); (case side4 => exact (Kd.R_reads' HO269.out).2.1); rintro e w' ⟨rfl, ⟨nd, rfl⟩⟩; refine ⟨_, rfl, ?_⟩))
       go_meet
       case rel => exact ⟨_, ((!(t265 == t270) || (!(t266 == t271)))), (by first | rfl | (simp; done) | (simp [*]; done) | (simp; grind)), H', ⟨by have := HJ5.out; have := HK2.out; first | omega | exact Nat.le_refl _⟩, ⟨by (with_reducible repeat (first | apply Kd.R_alloc | apply Kd.R_drewN | apply Kd.R_drew)); exact Kd.R_mono (Kd.R_far (p := ⟨gb273, 2, none⟩) (Kd.R_far (p := ⟨gb273, 1, none⟩) (Kd.R_far (p := ⟨gb273, 0, none⟩) (Kd.R_far (p := ⟨gb272, 2, none⟩) (Kd.R_far (p := ⟨gb272, 1, none⟩) (Kd.R_far (p := ⟨gb272, 0, none⟩) (Kd.R_types (Kd.R_types HO_248000.out BK272.out (by decide)) BK273.out (by decide)) (fun _ hk => hk.1.2) (.slice Ao96 t262.length co96)) (fun _ hk => hk.1.2) (.int .i64 t265)) (fun _ hk => hk.1.2) (.int .i64 t266)) (fun _ hk => hk.2) (.slice Ao100 t267.length co100)) (fun _ hk => hk.2) (.int .i64 t270)) (fun _ hk => hk.2) (.int .i64 t271)) (fun _ hk => ⟨hk.1.1.1, ⟨hk.1.1.2.1, ⟨hk.1.1.2.2.2.1, ⟨hk.1.1.2.2.2.2.1, hk.1.1.2.2.2.2.2⟩⟩⟩⟩)⟩, ⟨by (with_reducible repeat (first | apply Kd.R_alloc | apply Kd.R_drewN | apply Kd.R_drew)); exact Kd.R_mono (Kd.R_far (p := ⟨gb273, 2, none⟩) (Kd.R_far (p := ⟨gb273, 1, none⟩) (Kd.R_far (p := ⟨gb273, 0, none⟩) (Kd.R_far (p := ⟨gb272, 2, none⟩) (Kd.R_far (p := ⟨gb272, 1, none⟩) (Kd.R_far (p := ⟨gb272, 0, none⟩) (Kd.R_types (Kd.R_types HO264.out BK272.out (by decide)) BK273.out (by decide)) (fun _ hk => hk.1.2) (.slice Ao96 t262.length co96)) (fun _ hk => hk.1.2) (.int .i64 t265)) (fun _ hk => hk.1.2) (.int .i64 t266)) (fun _ hk => hk.2) (.slice Ao100 t267.length co100)) (fun _ hk => hk.2) (.int .i64 t270)) (fun _ hk => hk.2) (.int .i64 t271)) (fun _ hk => ⟨hk.1.1.2.2.1, ⟨hk.1.1.1, ⟨hk.1.1.2.2.2.1, ⟨hk.1.1.2.2.2.2.1, hk.1.1.2.2.2.2.2⟩⟩⟩⟩)⟩, ⟨by (with_reducible repeat (first | apply Kd.R_alloc | apply Kd.R_drewN | apply Kd.R_drew)); exact Kd.R_mono (Kd.R_far (p := ⟨gb273, 2, none⟩) (Kd.R_far (p := ⟨gb273, 1, none⟩) (Kd.R_far (p := ⟨gb273, 0, none⟩) (Kd.R_far (p := ⟨gb272, 2, none⟩) (Kd.R_far (p := ⟨gb272, 1, none⟩) (Kd.R_far (p := ⟨gb272, 0, none⟩) (Kd.R_types (Kd.R_types HO269.out BK272.out (by decide)) BK273.out (by decide)) (fun _ hk => hk.1.2) (.slice Ao96 t262.length co96)) (fun _ hk => hk.1.2) (.int .i64 t265)) (fun _ hk => hk.1.2) (.int .i64 t266)) (fun _ hk => hk.2) (.slice Ao100 t267.length co100)) (fun _ hk => hk.2) (.int .i64 t270)) (fun _ hk => hk.2) (.int .i64 t271)) (fun _ hk => ⟨hk.1.1.2.2.1, ⟨hk.1.1.1, ⟨hk.1.1.2.2.2.1, ⟨hk.1.1.2.2.2.2.1, hk.1.1.2.2.2.2.2⟩⟩⟩⟩)⟩, ⟨blf_⟩, ⟨blf_⟩, ⟨blf_⟩, ⟨blf_⟩, ⟨blf_⟩, ⟨by (with_reducible repeat (first | refine zN ?_ _ | refine zD ?_ | refine zA ?_ _)); refine blk_far ?_ NB272_273.out _; (with_reducible repeat (first | refine zN ?_ _ | refine zD ?_ | refine zA ?_ _)); refine blk_far ?_ NB272_273.out _; (with_reducible repeat (first | refine zN ?_ _ | refine zD ?_ | refine zA ?_ _)); refine blk_far ?_ NB272_273.out _; (with_reducible repeat (first | refine zN ?_ _ | refine zD ?_ | refine zA ?_ _)); refine blk_put (cs := #[.slice Ao96 t262.length co96, .int .i64 t265, .int .i64 0]) ?_ 2 _ rfl; (with_reducible repeat (first | refine zN ?_ _ | refine zD ?_ | refine zA ?_ _)); refine blk_put (cs := #[.slice Ao96 t262.length co96, .int .i64 0, .int .i64 0]) ?_ 1 _ rfl; (with_reducible repeat (first | refine zN ?_ _ | refine zD ?_ | refine zA ?_ _)); refine blk_put (cs := #[.slice none 0 0, .int .i64 0, .int .i64 0]) ?_ 0 _ rfl; (with_reducible repeat (first | refine zN ?_ _ | refine zD ?_ | refine zA ?_ _)); exact BK272.out⟩, ⟨by (with_reducible repeat (first | refine zN ?_ _ | refine zD ?_ | refine zA ?_ _)); refine blk_put (cs := #[.slice Ao100 t267.length co100, .int .i64 t270, .int .i64 0]) ?_ 2 _ rfl; (with_reducible repeat (first | refine zN ?_ _ | refine zD ?_ | refine zA ?_ _)); refine blk_put (cs := #[.slice Ao100 t267.length co100, .int .i64 0, .int .i64 0]) ?_ 1 _ rfl; (with_reducible repeat (first | refine zN ?_ _ | refine zD ?_ | refine zA ?_ _)); refine blk_put (cs := #[.slice none 0 0, .int .i64 0, .int .i64 0]) ?_ 0 _ rfl; (with_reducible repeat (first | refine zN ?_ _ | refine zD ?_ | refine zA ?_ _)); refine blk_far ?_ NB273_272.out _; (with_reducible repeat (first | refine zN ?_ _ | refine zD ?_ | refine zA ?_ _)); refine blk_far ?_ NB273_272.out _; (with_reducible repeat (first | refine zN ?_ _ | refine zD ?_ | refine zA ?_ _)); refine blk_far ?_ NB273_272.out _; (with_reducible repeat (first | refine zN ?_ _ | refine zD ?_ | refine zA ?_ _)); exact BK273.out⟩, ⟨bel_⟩⟩
      case rest =>
       clear HC76
       try clear c1
       try clear c2
       try clear p2
       try clear c10
       try clear c11
       try clear c14
       try clear c15
       try clear c105
       try clear c106
       try clear c107
       try clear c108
       try clear c109
       try clear c110
       try clear c111
       try clear c113
       try clear c114
       try clear c115
       try clear c116
       try clear c117
       try clear hcz112_0
       try clear hcz112_1
       try clear hcz112_2
       try clear hcz118_0
       try clear hcz118_1
       try clear hcz118_2
       try clear hfz112_0
       try clear hfz112_1
       try clear hfz112_2
       try clear hfz118_0
       try clear hfz118_1
       try clear hfz118_2
       obtain ⟨kq, x98_75, rfl, HA, HJ75, HO_248000, HO_273000, HO_274000, BK227, BK228, BK229, BK247, BK261, BK272, BK273, HB⟩ := hcut
       cases kq with
       | zero => exact absurd HA.out (by simp [ropewaylaw16_FrontTurns.j2])
       | succ kj75 =>
        have H := HA.out
        clear HA
        simp only [ropewaylaw16_FrontTurns.j2] at H
        by_cases c119 : x98_75 = true
        · subst c119
          have H1 : (some false) = some r := by rw [if_pos rfl] at H; exact H
          clear H
          have H := H1
          clear H1
          exact absurd (Option.some.inj H) (by rw [hr1_.out]; decide)
        replace c119 := Bool.eq_false_iff.mpr c119
        subst c119
        have H1 : (ropewaylaw16_FrontTurns.l1 kj75 t242 (t242.length : Int) 0 t259 t260 t262 t265 t266) = some r := by rw [if_neg (show ¬ (false = true) by decide)] at H; exact H
        clear H
        have H := H1
        clear H1
        have H' := zM H
        clear H
        have hnb120 := NB247_227.out
        have hnc120 := NB227_247.out
        have hnb121 := NB247_228.out
        have hnc121 := NB228_247.out
        have hnb122 := NB247_229.out
        have hnc122 := NB229_247.out
        have hnb123 := NB247_261.out
        have hnc123 := NB261_247.out
        have hnb124 := NB247_272.out
        have hnc124 := NB272_247.out
        have hnb125 := NB247_273.out
        have hnc125 := NB273_247.out
        have hcz126_0 : wc.cell? ⟨gb247, 0, none⟩ = some (.slice Ao58 t242.length co58) := (zL BK247.out 0).trans rfl
        have hcz126_1 : wc.cell? ⟨gb247, 1, none⟩ = some (.int .i64 t245) := (zL BK247.out 1).trans rfl
        have hcz126_2 : wc.cell? ⟨gb247, 2, none⟩ = some (.int .i64 t246) := (zL BK247.out 2).trans rfl
        have hfz126_0 := zF BK247.out 0
        have hfz126_1 := zF BK247.out 1
        have hfz126_2 := zF BK247.out 2
        go_wp2
        go_loopg [102] kj75 (fun kq v102 w' => ∃ (x102_4 : Int), v102 = .int .i64 x102_4 ∧ Aside0 (ropewaylaw16_FrontTurns.l1 kq t242 (t242.length : Int) x102_4 t259 t260 t262 t265 t266 = some r) ∧ Aside0 (kq ≤ kj75) ∧ Aside0 (Kd.R k24 24 w' w.heap.size (fun k_ => some k_ ≠ ((.slice Ao96 t262.length co96) : Value).ownBlock ∧ some k_ ≠ ((.slice Ao100 t267.length co100) : Value).ownBlock ∧ k_ ≠ gb227 ∧ k_ ≠ gb228 ∧ k_ ≠ gb261) (.slice Ao58 t242.length co58) t242) ∧ Aside0 (Kd.R k24 24 w' w.heap.size (fun k_ => some k_ ≠ ((.slice Ao96 t262.length co96) : Value).ownBlock ∧ some k_ ≠ ((.slice Ao100 t267.length co100) : Value).ownBlock ∧ k_ ≠ gb227 ∧ k_ ≠ gb228 ∧ k_ ≠ gb261) (.slice Ao58 t242.length co58) t242) ∧ Aside0 (Kd.R k24 24 w' w.heap.size (fun k_ => some k_ ≠ ((.slice Ao58 t242.length co58) : Value).ownBlock ∧ some k_ ≠ ((.slice Ao58 t242.length co58) : Value).ownBlock ∧ some k_ ≠ ((.slice Ao100 t267.length co100) : Value).ownBlock ∧ k_ ≠ gb227 ∧ k_ ≠ gb228 ∧ k_ ≠ gb261) (.slice Ao96 t262.length co96) t262) ∧ Aside0 (Kd.R k24 24 w' w.heap.size (fun k_ => some k_ ≠ ((.slice Ao58 t242.length co58) : Value).ownBlock ∧ some k_ ≠ ((.slice Ao58 t242.length co58) : Value).ownBlock ∧ some k_ ≠ ((.slice Ao96 t262.length co96) : Value).ownBlock ∧ k_ ≠ gb227 ∧ k_ ≠ gb228 ∧ k_ ≠ gb261) (.slice Ao100 t267.length co100) t267) ∧ Aside0 (w'.heap[gb227]? = some (.cells #[.int .i64 a0_0, .int .i64 a0_1] 24 (0, 0))) ∧ Aside0 (w'.heap[gb228]? = some (.cells #[.int .i64 a1_0, .int .i64 a1_1] 24 (0, 0))) ∧ Aside0 (w'.heap[gb229]? = some (.cells #[(.slice A2_0 l2_0.length c2_0), (.slice A2_1 l2_1.length c2_1)] 44 (0, 0))) ∧ Aside0 (w'.heap[gb247]? = some (.cells #[(.slice Ao58 t242.length co58), .int .i64 t245, .int .i64 t246] 26 (0, 0))) ∧ Aside0 (w'.heap[gb261]? = some (.cells #[.int .i64 t259, .int .i64 t260] 24 (0, 0))) ∧ Aside0 (w'.heap[gb272]? = some (.cells #[(.slice Ao96 t262.length co96), .int .i64 t265, .int .i64 t266] 26 (0, 0))) ∧ Aside0 (w'.heap[gb273]? = some (.cells #[(.slice Ao100 t267.length co100), .int .i64 t270, .int .i64 t271] 26 (0, 0))) ∧ Aside0 (Below w.heap.size w w'))
        case atStart => exact ⟨(0), (by first | rfl | (simp; done) | (simp [*]; done) | (simp; grind)), H', ⟨Nat.le_refl _⟩, ⟨by (with_reducible repeat (first | apply Kd.R_alloc | apply Kd.R_drewN | apply Kd.R_drew)); exact HO_248000.out⟩, ⟨by (with_reducible repeat (first | apply Kd.R_alloc | apply Kd.R_drewN | apply Kd.R_drew)); exact HO_248000.out⟩, ⟨by (with_reducible repeat (first | apply Kd.R_alloc | apply Kd.R_drewN | apply Kd.R_drew)); exact Kd.R_mono HO_273000.out (fun _ hk => ⟨hk.1, ⟨hk.1, ⟨hk.2.1, ⟨hk.2.2.1, ⟨hk.2.2.2.1, hk.2.2.2.2⟩⟩⟩⟩⟩)⟩, ⟨by (with_reducible repeat (first | apply Kd.R_alloc | apply Kd.R_drewN | apply Kd.R_drew)); exact Kd.R_mono HO_274000.out (fun _ hk => ⟨hk.1, ⟨hk.1, ⟨hk.2.1, ⟨hk.2.2.1, ⟨hk.2.2.2.1, hk.2.2.2.2⟩⟩⟩⟩⟩)⟩, ⟨blf_⟩, ⟨blf_⟩, ⟨blf_⟩, ⟨blf_⟩, ⟨blf_⟩, ⟨blf_⟩, ⟨blf_⟩, ⟨bel_⟩⟩
        case round =>
         clear H'
         try clear c1
         try clear c2
         try clear p2
         try clear c10
         try clear c11
         try clear c12
         try clear c14
         try clear c15
         try clear c105
         try clear c106
         try clear c107
         try clear c108
         try clear c109
         try clear c110
         try clear c111
         try clear c113
         try clear c114
         try clear c115
         try clear c116
         try clear c117
         try clear c119
         try clear c120
         try clear c121
         try clear c122
         try clear c123
         try clear c124
         try clear c125
         try clear hcz112_0
         try clear hcz112_1
         try clear hcz112_2
         try clear hcz118_0
         try clear hcz118_1
         try clear hcz118_2
         try clear hcz126_0
         try clear hcz126_1
         try clear hcz126_2
         try clear hfz112_0
         try clear hfz112_1
         try clear hfz112_2
         try clear hfz118_0
         try clear hfz118_1
         try clear hfz118_2
         try clear hfz126_0
         try clear hfz126_1
         try clear hfz126_2
         try clear p2
         obtain ⟨x102_4, rfl, HA, HK4, HO_100, HO_248000, HO_273000, HO_274000, BK227, BK228, BK229, BK247, BK261, BK272, BK273, HB⟩ := hrel
         cases gk with
         | zero => exact absurd HA.out (by simp [ropewaylaw16_FrontTurns.l1])
         | succ k4 =>
          have H := HA.out
          clear HA
          simp only [ropewaylaw16_FrontTurns.l1] at H
          by_cases c127 : x102_4 < (t242.length : Int)
          rotate_left
          · rw [if_neg c127] at H
            have c127b0 : decide (x102_4 < (t242.length : Int)) = false := decide_eq_false c127
            clear c127
            obtain rfl := Option.some.inj H
            go_wp2
            go_ret
            exact ⟨by first | rfl | (simp [errW_none, errW_some] <;> rfl) | (simp [*, errW_none, errW_some] <;> rfl), bel_⟩
          rw [if_pos c127] at H
          have c127b0 : decide (x102_4 < (t242.length : Int)) = true := decide_eq_true c127
          clear c127
          by_cases c128 : 0 ≤ x102_4
          rotate_left
          · rw [if_neg c128] at H
            exact absurd H (by simp)
          rw [if_pos c128] at H
          have c128b0 : decide (0 ≤ x102_4) = true := decide_eq_true c128
          clear c128
          by_cases c129 : x102_4 < (t242.length : Int)
          rotate_left
          · rw [if_neg c129] at H
            exact absurd H (by simp)
          rw [if_pos c129] at H
          have c129b0 : decide (x102_4 < (t242.length : Int)) = true := decide_eq_true c129
          clear c129
          have H' := zM H
          clear H
          have p275 : 0 ≤ (x102_4 : Int) := of_decide_eq_true (by first | (with_reducible assumption) | assumption)
          have q275 : x102_4 < (t242.length : Int) := of_decide_eq_true (by first | (with_reducible assumption) | assumption)
          obtain ⟨ad275, e275, hx275_0, hx275_1⟩ := at_T24 (Kd.R_reads' HO_100.out).2.2 x102_4 p275 q275
          cases e275
          replace p275 := eq_true p275
          replace q275 := eq_true q275
          go_wp2_with (first | ((with_reducible refine gate_dst (N := 16) rfl ?_); (try (refine gate_guard (by rfl) ?_; dsimp only)); refine box_event ?hg (N := 16) ?hd (cs := #[.int .i64 0, .int .i64 0]) (t := 24) ?hr ?_; (case hd => rfl); (case hg => rfl); (case hr => first | (go_simp; done) | (go_simp; rfl)); intro gb276 hg w130 hbox hb; replace HO_100 := zM (Kd.R_below (Kd.R_elderB (rl_ HO_100) gb276 (Nat.le_of_eq hg.symm)) hb); replace HO_248000 := zM (Kd.R_below (Kd.R_elderB (rl_ HO_248000) gb276 (Nat.le_of_eq hg.symm)) hb); replace HO_273000 := zM (Kd.R_below (Kd.R_elderB (rl_ HO_273000) gb276 (Nat.le_of_eq hg.symm)) hb); replace HO_274000 := zM (Kd.R_below (Kd.R_elderB (rl_ HO_274000) gb276 (Nat.le_of_eq hg.symm)) hb); have BK276 := zM (hbox); have GW276 := zM (bs_ hg); have GE276 := zM (bs_ hg); replace HB := zM (zB bel_ hb); have NB227_276 := zM (nl_ BK227 hg); have NB276_227 := zM (ng_ BK227 hg); replace BK227 := zM (bb_ BK227 hb); have NB228_276 := zM (nl_ BK228 hg); have NB276_228 := zM (ng_ BK228 hg); replace BK228 := zM (bb_ BK228 hb); have NB229_276 := zM (nl_ BK229 hg); have NB276_229 := zM (ng_ BK229 hg); replace BK229 := zM (bb_ BK229 hb); have NB247_276 := zM (nl_ BK247 hg); have NB276_247 := zM (ng_ BK247 hg); replace BK247 := zM (bb_ BK247 hb); have NB261_276 := zM (nl_ BK261 hg); have NB276_261 := zM (ng_ BK261 hg); replace BK261 := zM (bb_ BK261 hb); have NB272_276 := zM (nl_ BK272 hg); have NB276_272 := zM (ng_ BK272 hg); replace BK272 := zM (bb_ BK272 hb); have NB273_276 := zM (nl_ BK273 hg); have NB276_273 := zM (ng_ BK273 hg); replace BK273 := zM (bb_ BK273 hb); clear hb hbox hg; have hnb131 := NB276_227.out; have hnc131 := NB227_276.out; have hnb132 := NB276_228.out; have hnc132 := NB228_276.out; have hnb133 := NB276_229.out; have hnc133 := NB229_276.out; have hnb134 := NB276_247.out; have hnc134 := NB247_276.out; have hnb135 := NB276_261.out; have hnc135 := NB261_276.out; have hnb136 := NB276_272.out; have hnc136 := NB272_276.out; have hnb137 := NB276_273.out; have hnc137 := NB273_276.out; have hcz138_0 : w130.cell? ⟨gb276, 0, none⟩ = some (.int .i64 0) := (zL BK276.out 0).trans rfl; have hcz138_1 : w130.cell? ⟨gb276, 1, none⟩ = some (.int .i64 0) := (zL BK276.out 1).trans rfl; have hfz138_0 := zF BK276.out 0; have hfz138_1 := zF BK276.out 1; have hnb139 := NB261_227.out; have hnc139 := NB227_261.out; have hnb140 := NB261_228.out; have hnc140 := NB228_261.out; have hnb141 := NB261_229.out; have hnc141 := NB229_261.out; have hnb142 := NB261_247.out; have hnc142 := NB247_261.out; have hnb143 := NB261_272.out; have hnc143 := NB272_261.out; have hnb144 := NB261_273.out; have hnc144 := NB273_261.out; have hcz145_0 : w130.cell? ⟨gb261, 0, none⟩ = some (.int .i64 t259) := (zL BK261.out 0).trans rfl; have hcz145_1 : w130.cell? ⟨gb261, 1, none⟩ = some (.int .i64 t260) := (zL BK261.out 1).trans rfl; have hfz145_0 := zF BK261.out 0; have hfz145_1 := zF BK261.out 1; have hnb146 := NB272_227.out; have hnc146 := NB227_272.out; have hnb147 := NB272_228.out; have hnc147 := NB228_272.out; have hnb148 := NB272_229.out; have hnc148 := NB229_272.out; have hnb149 := NB272_247.out; have hnc149 := NB247_272.out; have hnb150 := NB272_273.out; have hnc150 := NB273_272.out; have hcz151_0 : w130.cell? ⟨gb272, 0, none⟩ = some (.slice Ao96 t262.length co96) := (zL BK272.out 0).trans rfl; have hcz151_1 : w130.cell? ⟨gb272, 1, none⟩ = some (.int .i64 t265) := (zL BK272.out 1).trans rfl; have hcz151_2 : w130.cell? ⟨gb272, 2, none⟩ = some (.int .i64 t266) := (zL BK272.out 2).trans rfl; have hfz151_0 := zF BK272.out 0; have hfz151_1 := zF BK272.out 1; have hfz151_2 := zF BK272.out 2))
          go_loopg [17, 112] k4 (fun kq v17 v112 w' => ∃ (x17_5 : Bool) (x112_5 : Int), v17 = .bool x17_5 ∧ v112 = .int .i64 x112_5 ∧ Aside0 (ropewaylaw16_FrontTurns.l2 kq x17_5 t242 (t242.length : Int) x102_4 t262 (t262.length : Int) x112_5 t259 t260 t262 t265 t266 ((rd_T24 t242 x102_4).f0) ((rd_T24 t242 x102_4).f1) = some r) ∧ Aside0 (kq ≤ k4) ∧ Aside0 (Kd.R k24 24 w' w.heap.size (fun k_ => some k_ ≠ ((.slice Ao96 t262.length co96) : Value).ownBlock ∧ some k_ ≠ ((.slice Ao96 t262.length co96) : Value).ownBlock ∧ some k_ ≠ ((.slice Ao100 t267.length co100) : Value).ownBlock ∧ k_ ≠ gb227 ∧ k_ ≠ gb228 ∧ k_ ≠ gb261 ∧ k_ ≠ gb276) (.slice (some ad275) t242.length co58) t242) ∧ Aside0 (Kd.R k24 24 w' w.heap.size (fun k_ => some k_ ≠ ((.slice (some ad275) t242.length co58) : Value).ownBlock ∧ some k_ ≠ ((.slice (some ad275) t242.length co58) : Value).ownBlock ∧ some k_ ≠ ((.slice Ao100 t267.length co100) : Value).ownBlock ∧ k_ ≠ gb227 ∧ k_ ≠ gb228 ∧ k_ ≠ gb261 ∧ k_ ≠ gb276) (.slice Ao96 t262.length co96) t262) ∧ Aside0 (Kd.R k24 24 w' w.heap.size (fun k_ => some k_ ≠ ((.slice Ao96 t262.length co96) : Value).ownBlock ∧ some k_ ≠ ((.slice Ao96 t262.length co96) : Value).ownBlock ∧ some k_ ≠ ((.slice Ao100 t267.length co100) : Value).ownBlock ∧ k_ ≠ gb227 ∧ k_ ≠ gb228 ∧ k_ ≠ gb261 ∧ k_ ≠ gb276) (.slice (some ad275) t242.length co58) t242) ∧ Aside0 (Kd.R k24 24 w' w.heap.size (fun k_ => some k_ ≠ ((.slice (some ad275) t242.length co58) : Value).ownBlock ∧ some k_ ≠ ((.slice (some ad275) t242.length co58) : Value).ownBlock ∧ some k_ ≠ ((.slice Ao100 t267.length co100) : Value).ownBlock ∧ k_ ≠ gb227 ∧ k_ ≠ gb228 ∧ k_ ≠ gb261 ∧ k_ ≠ gb276) (.slice Ao96 t262.length co96) t262) ∧ Aside0 (Kd.R k24 24 w' w.heap.size (fun k_ => some k_ ≠ ((.slice (some ad275) t242.length co58) : Value).ownBlock ∧ some k_ ≠ ((.slice Ao96 t262.length co96) : Value).ownBlock ∧ some k_ ≠ ((.slice (some ad275) t242.length co58) : Value).ownBlock ∧ some k_ ≠ ((.slice Ao96 t262.length co96) : Value).ownBlock ∧ k_ ≠ gb227 ∧ k_ ≠ gb228 ∧ k_ ≠ gb261 ∧ k_ ≠ gb276) (.slice Ao100 t267.length co100) t267) ∧ Aside0 (w'.heap[gb227]? = some (.cells #[.int .i64 a0_0, .int .i64 a0_1] 24 (0, 0))) ∧ Aside0 (w'.heap[gb228]? = some (.cells #[.int .i64 a1_0, .int .i64 a1_1] 24 (0, 0))) ∧ Aside0 (w'.heap[gb229]? = some (.cells #[(.slice A2_0 l2_0.length c2_0), (.slice A2_1 l2_1.length c2_1)] 44 (0, 0))) ∧ Aside0 (w'.heap[gb247]? = some (.cells #[(.slice (some ad275) t242.length co58), .int .i64 t245, .int .i64 t246] 26 (0, 0))) ∧ Aside0 (w'.heap[gb261]? = some (.cells #[.int .i64 t259, .int .i64 t260] 24 (0, 0))) ∧ Aside0 (w'.heap[gb272]? = some (.cells #[(.slice Ao96 t262.length co96), .int .i64 t265, .int .i64 t266] 26 (0, 0))) ∧ Aside0 (w'.heap[gb273]? = some (.cells #[(.slice Ao100 t267.length co100), .int .i64 t270, .int .i64 t271] 26 (0, 0))) ∧ Aside0 (w'.heap[gb276]? = some (.cells #[.int .i64 ((rd_T24 t242 x102_4).f0), .int .i64 ((rd_T24 t242 x102_4).f1)] 24 (0, 0))) ∧ Aside0 (Below w.heap.size w w'))
          case atStart => exact ⟨((((rd_T24 t242 x102_4).f0) == t259 && (((rd_T24 t242 x102_4).f1) == t260))), (0), (by first | rfl | (simp; done) | (simp [*]; done) | (simp; grind)), (by first | rfl | (simp; done) | (simp [*]; done) | (simp; grind)), H', ⟨Nat.le_refl _⟩, ⟨by (with_reducible repeat (first | apply Kd.R_alloc | apply Kd.R_drewN | apply Kd.R_drew)); exact Kd.R_mono (Kd.R_far (p := ⟨gb276, 1, none⟩) (Kd.R_far (p := ⟨gb276, 0, none⟩) (Kd.R_mono HO_100.out (fun k_ hk => (⟨hk, hk.2⟩ : _ ∧ k_ ≠ gb276))) (fun _ hk => hk.2) (.int .i64 ((rd_T24 t242 x102_4).f0))) (fun _ hk => hk.2) (.int .i64 ((rd_T24 t242 x102_4).f1))) (fun _ hk => ⟨hk.1.1.1, ⟨hk.1.1.1, ⟨hk.1.1.2.1, ⟨hk.1.1.2.2.1, ⟨hk.1.1.2.2.2.1, ⟨hk.1.1.2.2.2.2, hk.1.2⟩⟩⟩⟩⟩⟩)⟩, ⟨by (with_reducible repeat (first | apply Kd.R_alloc | apply Kd.R_drewN | apply Kd.R_drew)); exact Kd.R_mono (Kd.R_far (p := ⟨gb276, 1, none⟩) (Kd.R_far (p := ⟨gb276, 0, none⟩) (Kd.R_mono HO_273000.out (fun k_ hk => (⟨hk, hk.2⟩ : _ ∧ k_ ≠ gb276))) (fun _ hk => hk.2) (.int .i64 ((rd_T24 t242 x102_4).f0))) (fun _ hk => hk.2) (.int .i64 ((rd_T24 t242 x102_4).f1))) (fun _ hk => ⟨hk.1.1.1, ⟨hk.1.1.2.1, ⟨hk.1.1.2.2.1, ⟨hk.1.1.2.2.2.1, ⟨hk.1.1.2.2.2.2.1, ⟨hk.1.1.2.2.2.2.2, hk.1.2⟩⟩⟩⟩⟩⟩)⟩, ⟨by (with_reducible repeat (first | apply Kd.R_alloc | apply Kd.R_drewN | apply Kd.R_drew)); exact Kd.R_mono (Kd.R_far (p := ⟨gb276, 1, none⟩) (Kd.R_far (p := ⟨gb276, 0, none⟩) (Kd.R_mono HO_248000.out (fun k_ hk => (⟨hk, hk.2⟩ : _ ∧ k_ ≠ gb276))) (fun _ hk => hk.2) (.int .i64 ((rd_T24 t242 x102_4).f0))) (fun _ hk => hk.2) (.int .i64 ((rd_T24 t242 x102_4).f1))) (fun _ hk => ⟨hk.1.1.1, ⟨hk.1.1.1, ⟨hk.1.1.2.1, ⟨hk.1.1.2.2.1, ⟨hk.1.1.2.2.2.1, ⟨hk.1.1.2.2.2.2, hk.1.2⟩⟩⟩⟩⟩⟩)⟩, ⟨by (with_reducible repeat (first | apply Kd.R_alloc | apply Kd.R_drewN | apply Kd.R_drew)); exact Kd.R_mono (Kd.R_far (p := ⟨gb276, 1, none⟩) (Kd.R_far (p := ⟨gb276, 0, none⟩) (Kd.R_mono HO_273000.out (fun k_ hk => (⟨hk, hk.2⟩ : _ ∧ k_ ≠ gb276))) (fun _ hk => hk.2) (.int .i64 ((rd_T24 t242 x102_4).f0))) (fun _ hk => hk.2) (.int .i64 ((rd_T24 t242 x102_4).f1))) (fun _ hk => ⟨hk.1.1.1, ⟨hk.1.1.2.1, ⟨hk.1.1.2.2.1, ⟨hk.1.1.2.2.2.1, ⟨hk.1.1.2.2.2.2.1, ⟨hk.1.1.2.2.2.2.2, hk.1.2⟩⟩⟩⟩⟩⟩)⟩, ⟨by (with_reducible repeat (first | apply Kd.R_alloc | apply Kd.R_drewN | apply Kd.R_drew)); exact Kd.R_mono (Kd.R_far (p := ⟨gb276, 1, none⟩) (Kd.R_far (p := ⟨gb276, 0, none⟩) (Kd.R_mono HO_274000.out (fun k_ hk => (⟨hk, hk.2⟩ : _ ∧ k_ ≠ gb276))) (fun _ hk => hk.2) (.int .i64 ((rd_T24 t242 x102_4).f0))) (fun _ hk => hk.2) (.int .i64 ((rd_T24 t242 x102_4).f1))) (fun _ hk => ⟨hk.1.1.1, ⟨hk.1.1.2.2.1, ⟨hk.1.1.2.1, ⟨hk.1.1.2.2.1, ⟨hk.1.1.2.2.2.1, ⟨hk.1.1.2.2.2.2.1, ⟨hk.1.1.2.2.2.2.2, hk.1.2⟩⟩⟩⟩⟩⟩⟩)⟩, ⟨blf_⟩, ⟨blf_⟩, ⟨blf_⟩, ⟨blf_⟩, ⟨blf_⟩, ⟨blf_⟩, ⟨blf_⟩, ⟨by (with_reducible repeat (first | refine zN ?_ _ | refine zD ?_ | refine zA ?_ _)); refine blk_put (cs := #[.int .i64 ((rd_T24 t242 x102_4).f0), .int .i64 0]) ?_ 1 _ rfl; (with_reducible repeat (first | refine zN ?_ _ | refine zD ?_ | refine zA ?_ _)); refine blk_put (cs := #[.int .i64 0, .int .i64 0]) ?_ 0 _ rfl; (with_reducible repeat (first | refine zN ?_ _ | refine zD ?_ | refine zA ?_ _)); exact BK276.out⟩, ⟨bel_⟩⟩
          case round =>
           clear H'
           try clear c1
           try clear c2
           try clear p2
           try clear q2
           try clear hx2
           try clear c10
           try clear c11
           try clear c12
           try clear c13
           try clear c14
           try clear c15
           try clear p27
           try clear q27
           try clear hx27
           try clear c105
           try clear c106
           try clear c107
           try clear c108
           try clear c109
           try clear c110
           try clear c111
           try clear c113
           try clear c114
           try clear c115
           try clear c116
           try clear c117
           try clear c119
           try clear c120
           try clear c121
           try clear c122
           try clear c123
           try clear c124
           try clear c125
           try clear c127
           try clear c127b0
           try clear c128
           try clear c128b0
           try clear c129
           try clear c129b0
           try clear c131
           try clear c132
           try clear c133
           try clear c134
           try clear c135
           try clear c136
           try clear c137
           try clear c139
           try clear c140
           try clear c141
           try clear c142
           try clear c143
           try clear c144
           try clear c146
           try clear c147
           try clear c148
           try clear c149
           try clear c150
           try clear hcz112_0
           try clear hcz112_1
           try clear hcz112_2
           try clear hcz118_0
           try clear hcz118_1
           try clear hcz118_2
           try clear hcz126_0
           try clear hcz126_1
           try clear hcz126_2
           try clear hcz138_0
           try clear hcz138_1
           try clear hcz145_0
           try clear hcz145_1
           try clear hcz151_0
           try clear hcz151_1
           try clear hcz151_2
           try clear hfz112_0
           try clear hfz112_1
           try clear hfz112_2
           try clear hfz118_0
           try clear hfz118_1
           try clear hfz118_2
           try clear hfz126_0
           try clear hfz126_1
           try clear hfz126_2
           try clear hfz138_0
           try clear hfz138_1
           try clear hfz145_0
           try clear hfz145_1
           try clear hfz151_0
           try clear hfz151_1
           try clear hfz151_2
           try clear hx275_0
           try clear hx275_1
           try clear p2
           try clear p275
           try clear q275
           obtain ⟨x17_5, x112_5, rfl, rfl, HA, HK5, HO_100, HO_110, HO_248000, HO_273000, HO_274000, BK227, BK228, BK229, BK247, BK261, BK272, BK273, BK276, HB⟩ := hrel
           cases gk with
           | zero => exact absurd HA.out (by simp [ropewaylaw16_FrontTurns.l2])
           | succ k5 =>
            have H := HA.out
            clear HA
            simp only [ropewaylaw16_FrontTurns.l2] at H
            by_cases c152 : x112_5 < (t262.length : Int)
            rotate_left
            · rw [if_neg c152] at H
              have c152b0 : decide (x112_5 < (t262.length : Int)) = false := decide_eq_false c152
              clear c152
              by_cases c184 : x17_5 = true
              rotate_left
              · replace c184 := Bool.eq_false_iff.mpr c184
                subst c184
                have H1 : (some false) = some r := by rw [if_neg (show ¬ (false = true) by decide)] at H; exact H
                clear H
                have H := H1
                clear H1
                exact absurd (Option.some.inj H) (by rw [hr1_.out]; decide)
              subst c184
              have H1 : (ropewaylaw16_FrontTurns.l1 k5 t242 (t242.length : Int) (wrap64 (x102_4 + 1)) t259 t260 t262 t265 t266) = some r := by rw [if_pos rfl] at H; exact H
              clear H
              have H := H1
              clear H1
              have H' := zM H
              clear H
              go_wp2
              go_roundg k5
              case measure => have := HJ5.out; have := HK2.out; have := HJ75.out; have := HK4.out; have := HK5.out; omega
              case rel => exact ⟨(wrap64 (x102_4 + 1)), (by first | rfl | (simp; done) | (simp [*]; done) | (simp; grind)), H', ⟨by have := HJ5.out; have := HK2.out; have := HJ75.out; have := HK4.out; have := HK5.out; omega⟩, ⟨by (with_reducible repeat (first | apply Kd.R_alloc | apply Kd.R_drewN | apply Kd.R_drew)); exact Kd.R_mono HO_100.out (fun _ hk => ⟨hk.2.1, ⟨hk.2.2.1, ⟨hk.2.2.2.1, ⟨hk.2.2.2.2.1, hk.2.2.2.2.2.1⟩⟩⟩⟩)⟩, ⟨by (with_reducible repeat (first | apply Kd.R_alloc | apply Kd.R_drewN | apply Kd.R_drew)); exact Kd.R_mono HO_248000.out (fun _ hk => ⟨hk.2.1, ⟨hk.2.2.1, ⟨hk.2.2.2.1, ⟨hk.2.2.2.2.1, hk.2.2.2.2.2.1⟩⟩⟩⟩)⟩, ⟨by (with_reducible repeat (first | apply Kd.R_alloc | apply Kd.R_drewN | apply Kd.R_drew)); exact Kd.R_mono HO_273000.out (fun _ hk => ⟨hk.1, ⟨hk.2.1, ⟨hk.2.2.1, ⟨hk.2.2.2.1, ⟨hk.2.2.2.2.1, hk.2.2.2.2.2.1⟩⟩⟩⟩⟩)⟩, ⟨by (with_reducible repeat (first | apply Kd.R_alloc | apply Kd.R_drewN | apply Kd.R_drew)); exact Kd.R_mono HO_274000.out (fun _ hk => ⟨hk.1, ⟨hk.2.2.1, ⟨hk.2.2.2.1, ⟨hk.2.2.2.2.1, ⟨hk.2.2.2.2.2.1, hk.2.2.2.2.2.2.1⟩⟩⟩⟩⟩)⟩, ⟨blf_⟩, ⟨blf_⟩, ⟨blf_⟩, ⟨blf_⟩, ⟨blf_⟩, ⟨blf_⟩, ⟨blf_⟩, ⟨bel_⟩⟩
            rw [if_pos c152] at H
            have c152b0 : decide (x112_5 < (t262.length : Int)) = true := decide_eq_true c152
            clear c152
            by_cases c153 : 0 ≤ x112_5
            rotate_left
            · rw [if_neg c153] at H
              exact absurd H (by simp)
            rw [if_pos c153] at H
            have c153b0 : decide (0 ≤ x112_5) = true := decide_eq_true c153
            clear c153
            by_cases c154 : x112_5 < (t262.length : Int)
            rotate_left
            · rw [if_neg c154] at H
              exact absurd H (by simp)
            rw [if_pos c154] at H
            have c154b0 : decide (x112_5 < (t262.length : Int)) = true := decide_eq_true c154
            clear c154
            by_cases c155 : x17_5 = true
            · subst c155
              have H1 : (ropewaylaw16_FrontTurns.l2 k5 true t242 (t242.length : Int) x102_4 t262 (t262.length : Int) (wrap64 (x112_5 + 1)) t259 t260 t262 t265 t266 ((rd_T24 t242 x102_4).f0) ((rd_T24 t242 x102_4).f1)) = some r := by rw [if_pos rfl] at H; exact H
              clear H
              have H := H1
              clear H1
              have H' := zM H
              clear H
              have p277 : 0 ≤ (x112_5 : Int) := of_decide_eq_true (by first | (with_reducible assumption) | assumption)
              have q277 : x112_5 < (t262.length : Int) := of_decide_eq_true (by first | (with_reducible assumption) | assumption)
              obtain ⟨ad277, e277, hx277_0, hx277_1⟩ := at_T24 (Kd.R_reads' HO_110.out).2.2 x112_5 p277 q277
              cases e277
              replace p277 := eq_true p277
              replace q277 := eq_true q277
              go_wp2_with (first | ((with_reducible refine gate_dst (N := 19) rfl ?_); (try (refine gate_guard (by rfl) ?_; dsimp only)); refine box_event ?hg (N := 19) ?hd (cs := #[.int .i64 0, .int .i64 0]) (t := 24) ?hr ?_; (case hd => rfl); (case hg => rfl); (case hr => first | (go_simp; done) | (go_simp; rfl)); intro gb278 hg w156 hbox hb; replace HO_100 := zM (Kd.R_below (Kd.R_elderB (rl_ HO_100) gb278 (Nat.le_of_eq hg.symm)) hb); replace HO_110 := zM (Kd.R_below (Kd.R_elderB (rl_ HO_110) gb278 (Nat.le_of_eq hg.symm)) hb); replace HO_248000 := zM (Kd.R_below (Kd.R_elderB (rl_ HO_248000) gb278 (Nat.le_of_eq hg.symm)) hb); replace HO_273000 := zM (Kd.R_below (Kd.R_elderB (rl_ HO_273000) gb278 (Nat.le_of_eq hg.symm)) hb); replace HO_274000 := zM (Kd.R_below (Kd.R_elderB (rl_ HO_274000) gb278 (Nat.le_of_eq hg.symm)) hb); have BK278 := zM (hbox); have GW278 := zM (bs_ hg); have GE278 := zM (bs_ hg); replace HB := zM (zB bel_ hb); have NB227_278 := zM (nl_ BK227 hg); have NB278_227 := zM (ng_ BK227 hg); replace BK227 := zM (bb_ BK227 hb); have NB228_278 := zM (nl_ BK228 hg); have NB278_228 := zM (ng_ BK228 hg); replace BK228 := zM (bb_ BK228 hb); have NB229_278 := zM (nl_ BK229 hg); have NB278_229 := zM (ng_ BK229 hg); replace BK229 := zM (bb_ BK229 hb); have NB247_278 := zM (nl_ BK247 hg); have NB278_247 := zM (ng_ BK247 hg); replace BK247 := zM (bb_ BK247 hb); have NB261_278 := zM (nl_ BK261 hg); have NB278_261 := zM (ng_ BK261 hg); replace BK261 := zM (bb_ BK261 hb); have NB272_278 := zM (nl_ BK272 hg); have NB278_272 := zM (ng_ BK272 hg); replace BK272 := zM (bb_ BK272 hb); have NB273_278 := zM (nl_ BK273 hg); have NB278_273 := zM (ng_ BK273 hg); replace BK273 := zM (bb_ BK273 hb); have NB276_278 := zM (nl_ BK276 hg); have NB278_276 := zM (ng_ BK276 hg); replace BK276 := zM (bb_ BK276 hb); clear hb hbox hg; have hnb157 := NB278_227.out; have hnc157 := NB227_278.out; have hnb158 := NB278_228.out; have hnc158 := NB228_278.out; have hnb159 := NB278_229.out; have hnc159 := NB229_278.out; have hnb160 := NB278_247.out; have hnc160 := NB247_278.out; have hnb161 := NB278_261.out; have hnc161 := NB261_278.out; have hnb162 := NB278_272.out; have hnc162 := NB272_278.out; have hnb163 := NB278_273.out; have hnc163 := NB273_278.out; have hnb164 := NB278_276.out; have hnc164 := NB276_278.out; have hcz165_0 : w156.cell? ⟨gb278, 0, none⟩ = some (.int .i64 0) := (zL BK278.out 0).trans rfl; have hcz165_1 : w156.cell? ⟨gb278, 1, none⟩ = some (.int .i64 0) := (zL BK278.out 1).trans rfl; have hfz165_0 := zF BK278.out 0; have hfz165_1 := zF BK278.out 1))
              go_roundg k5
              case measure => have := HJ5.out; have := HK2.out; have := HJ75.out; have := HK4.out; have := HK5.out; omega
              case rel => exact ⟨(true), (wrap64 (x112_5 + 1)), (by first | rfl | (simp; done) | (simp [*]; done) | (simp; grind)), (by first | rfl | (simp; done) | (simp [*]; done) | (simp; grind)), H', ⟨by have := HJ5.out; have := HK2.out; have := HJ75.out; have := HK4.out; have := HK5.out; omega⟩, ⟨by (with_reducible repeat (first | apply Kd.R_alloc | apply Kd.R_drewN | apply Kd.R_drew)); exact Kd.R_mono (Kd.R_far (p := ⟨gb278, 1, none⟩) (Kd.R_far (p := ⟨gb278, 0, none⟩) (Kd.R_mono HO_100.out (fun k_ hk => (⟨hk, hk.2⟩ : _ ∧ k_ ≠ gb278))) (fun _ hk => hk.2) (.int .i64 ((rd_T24 t262 x112_5).f0))) (fun _ hk => hk.2) (.int .i64 ((rd_T24 t262 x112_5).f1))) (fun _ hk => ⟨hk.1.1.1, ⟨hk.1.1.2.1, ⟨hk.1.1.2.2.1, ⟨hk.1.1.2.2.2.1, ⟨hk.1.1.2.2.2.2.1, ⟨hk.1.1.2.2.2.2.2.1, hk.1.1.2.2.2.2.2.2⟩⟩⟩⟩⟩⟩)⟩, ⟨by (with_reducible repeat (first | apply Kd.R_alloc | apply Kd.R_drewN | apply Kd.R_drew)); exact Kd.R_mono (Kd.R_far (p := ⟨gb278, 1, none⟩) (Kd.R_far (p := ⟨gb278, 0, none⟩) (Kd.R_mono HO_110.out (fun k_ hk => (⟨hk, hk.2⟩ : _ ∧ k_ ≠ gb278))) (fun _ hk => hk.2) (.int .i64 ((rd_T24 t262 x112_5).f0))) (fun _ hk => hk.2) (.int .i64 ((rd_T24 t262 x112_5).f1))) (fun _ hk => ⟨hk.1.1.1, ⟨hk.1.1.2.1, ⟨hk.1.1.2.2.1, ⟨hk.1.1.2.2.2.1, ⟨hk.1.1.2.2.2.2.1, ⟨hk.1.1.2.2.2.2.2.1, hk.1.1.2.2.2.2.2.2⟩⟩⟩⟩⟩⟩)⟩, ⟨by (with_reducible repeat (first | apply Kd.R_alloc | apply Kd.R_drewN | apply Kd.R_drew)); exact Kd.R_mono (Kd.R_far (p := ⟨gb278, 1, none⟩) (Kd.R_far (p := ⟨gb278, 0, none⟩) (Kd.R_mono HO_248000.out (fun k_ hk => (⟨hk, hk.2⟩ : _ ∧ k_ ≠ gb278))) (fun _ hk => hk.2) (.int .i64 ((rd_T24 t262 x112_5).f0))) (fun _ hk => hk.2) (.int .i64 ((rd_T24 t262 x112_5).f1))) (fun _ hk => ⟨hk.1.1.1, ⟨hk.1.1.2.1, ⟨hk.1.1.2.2.1, ⟨hk.1.1.2.2.2.1, ⟨hk.1.1.2.2.2.2.1, ⟨hk.1.1.2.2.2.2.2.1, hk.1.1.2.2.2.2.2.2⟩⟩⟩⟩⟩⟩)⟩, ⟨by (with_reducible repeat (first | apply Kd.R_alloc | apply Kd.R_drewN | apply Kd.R_drew)); exact Kd.R_mono (Kd.R_far (p := ⟨gb278, 1, none⟩) (Kd.R_far (p := ⟨gb278, 0, none⟩) (Kd.R_mono HO_273000.out (fun k_ hk => (⟨hk, hk.2⟩ : _ ∧ k_ ≠ gb278))) (fun _ hk => hk.2) (.int .i64 ((rd_T24 t262 x112_5).f0))) (fun _ hk => hk.2) (.int .i64 ((rd_T24 t262 x112_5).f1))) (fun _ hk => ⟨hk.1.1.1, ⟨hk.1.1.2.1, ⟨hk.1.1.2.2.1, ⟨hk.1.1.2.2.2.1, ⟨hk.1.1.2.2.2.2.1, ⟨hk.1.1.2.2.2.2.2.1, hk.1.1.2.2.2.2.2.2⟩⟩⟩⟩⟩⟩)⟩, ⟨by (with_reducible repeat (first | apply Kd.R_alloc | apply Kd.R_drewN | apply Kd.R_drew)); exact Kd.R_mono (Kd.R_far (p := ⟨gb278, 1, none⟩) (Kd.R_far (p := ⟨gb278, 0, none⟩) (Kd.R_mono HO_274000.out (fun k_ hk => (⟨hk, hk.2⟩ : _ ∧ k_ ≠ gb278))) (fun _ hk => hk.2) (.int .i64 ((rd_T24 t262 x112_5).f0))) (fun _ hk => hk.2) (.int .i64 ((rd_T24 t262 x112_5).f1))) (fun _ hk => ⟨hk.1.1.1, ⟨hk.1.1.2.1, ⟨hk.1.1.2.2.1, ⟨hk.1.1.2.2.2.1, ⟨hk.1.1.2.2.2.2.1, ⟨hk.1.1.2.2.2.2.2.1, ⟨hk.1.1.2.2.2.2.2.2.1, hk.1.1.2.2.2.2.2.2.2⟩⟩⟩⟩⟩⟩⟩)⟩, ⟨blf_⟩, ⟨blf_⟩, ⟨blf_⟩, ⟨blf_⟩, ⟨blf_⟩, ⟨blf_⟩, ⟨blf_⟩, ⟨blf_⟩, ⟨bel_⟩⟩
            replace c155 := Bool.eq_false_iff.mpr c155
            subst c155
            have H1 : (ropewaylaw16_FrontTurns.l2 k5 (((rd_T24 t242 x102_4).f0) == ((rd_T24 t262 x112_5).f0) && (((rd_T24 t242 x102_4).f1) == ((rd_T24 t262 x112_5).f1))) t242 (t242.length : Int) x102_4 t262 (t262.length : Int) (wrap64 (x112_5 + 1)) t259 t260 t262 t265 t266 ((rd_T24 t242 x102_4).f0) ((rd_T24 t242 x102_4).f1)) = some r := by rw [if_neg (show ¬ (false = true) by decide)] at H; exact H
            clear H
            have H := H1
            clear H1
            have H' := zM H
            clear H
            have p277 : 0 ≤ (x112_5 : Int) := of_decide_eq_true (by first | (with_reducible assumption) | assumption)
            have q277 : x112_5 < (t262.length : Int) := of_decide_eq_true (by first | (with_reducible assumption) | assumption)
            obtain ⟨ad277, e277, hx277_0, hx277_1⟩ := at_T24 (Kd.R_reads' HO_110.out).2.2 x112_5 p277 q277
            cases e277
            replace p277 := eq_true p277
            replace q277 := eq_true q277
            go_wp2_with (first | ((with_reducible refine gate_dst (N := 19) rfl ?_); (try (refine gate_guard (by rfl) ?_; dsimp only)); refine box_event ?hg (N := 19) ?hd (cs := #[.int .i64 0, .int .i64 0]) (t := 24) ?hr ?_; (case hd => rfl); (case hg => rfl); (case hr => first | (go_simp; done) | (go_simp; rfl)); intro gb278 hg w166 hbox hb; replace HO_100 := zM (Kd.R_below (Kd.R_elderB (rl_ HO_100) gb278 (Nat.le_of_eq hg.symm)) hb); replace HO_110 := zM (Kd.R_below (Kd.R_elderB (rl_ HO_110) gb278 (Nat.le_of_eq hg.symm)) hb); replace HO_248000 := zM (Kd.R_below (Kd.R_elderB (rl_ HO_248000) gb278 (Nat.le_of_eq hg.symm)) hb); replace HO_273000 := zM (Kd.R_below (Kd.R_elderB (rl_ HO_273000) gb278 (Nat.le_of_eq hg.symm)) hb); replace HO_274000 := zM (Kd.R_below (Kd.R_elderB (rl_ HO_274000) gb278 (Nat.le_of_eq hg.symm)) hb); have BK278 := zM (hbox); have GW278 := zM (bs_ hg); have GE278 := zM (bs_ hg); replace HB := zM (zB bel_ hb); have NB227_278 := zM (nl_ BK227 hg); have NB278_227 := zM (ng_ BK227 hg); replace BK227 := zM (bb_ BK227 hb); have NB228_278 := zM (nl_ BK228 hg); have NB278_228 := zM (ng_ BK228 hg); replace BK228 := zM (bb_ BK228 hb); have NB229_278 := zM (nl_ BK229 hg); have NB278_229 := zM (ng_ BK229 hg); replace BK229 := zM (bb_ BK229 hb); have NB247_278 := zM (nl_ BK247 hg); have NB278_247 := zM (ng_ BK247 hg); replace BK247 := zM (bb_ BK247 hb); have NB261_278 := zM (nl_ BK261 hg); have NB278_261 := zM (ng_ BK261 hg); replace BK261 := zM (bb_ BK261 hb); have NB272_278 := zM (nl_ BK272 hg); have NB278_272 := zM (ng_ BK272 hg); replace BK272 := zM (bb_ BK272 hb); have NB273_278 := zM (nl_ BK273 hg); have NB278_273 := zM (ng_ BK273 hg); replace BK273 := zM (bb_ BK273 hb); have NB276_278 := zM (nl_ BK276 hg); have NB278_276 := zM (ng_ BK276 hg); replace BK276 := zM (bb_ BK276 hb); clear hb hbox hg; have hnb167 := NB278_227.out; have hnc167 := NB227_278.out; have hnb168 := NB278_228.out; have hnc168 := NB228_278.out; have hnb169 := NB278_229.out; have hnc169 := NB229_278.out; have hnb170 := NB278_247.out; have hnc170 := NB247_278.out; have hnb171 := NB278_261.out; have hnc171 := NB261_278.out; have hnb172 := NB278_272.out; have hnc172 := NB272_278.out; have hnb173 := NB278_273.out; have hnc173 := NB273_278.out; have hnb174 := NB278_276.out; have hnc174 := NB276_278.out; have hcz175_0 : w166.cell? ⟨gb278, 0, none⟩ = some (.int .i64 0) := (zL BK278.out 0).trans rfl; have hcz175_1 : w166.cell? ⟨gb278, 1, none⟩ = some (.int .i64 0) := (zL BK278.out 1).trans rfl; have hfz175_0 := zF BK278.out 0; have hfz175_1 := zF BK278.out 1; have hnb176 := NB276_227.out; have hnc176 := NB227_276.out; have hnb177 := NB276_228.out; have hnc177 := NB228_276.out; have hnb178 := NB276_229.out; have hnc178 := NB229_276.out; have hnb179 := NB276_247.out; have hnc179 := NB247_276.out; have hnb180 := NB276_261.out; have hnc180 := NB261_276.out; have hnb181 := NB276_272.out; have hnc181 := NB272_276.out; have hnb182 := NB276_273.out; have hnc182 := NB273_276.out; have hcz183_0 : w166.cell? ⟨gb276, 0, none⟩ = some (.int .i64 ((rd_T24 t242 x102_4).f0)) := (zL BK276.out 0).trans rfl; have hcz183_1 : w166.cell? ⟨gb276, 1, none⟩ = some (.int .i64 ((rd_T24 t242 x102_4).f1)) := (zL BK276.out 1).trans rfl; have hfz183_0 := zF BK276.out 0; have hfz183_1 := zF BK276.out 1))
            go_roundg k5
            case measure => have := HJ5.out; have := HK2.out; have := HJ75.out; have := HK4.out; have := HK5.out; omega
            case rel => exact ⟨((((rd_T24 t242 x102_4).f0) == ((rd_T24 t262 x112_5).f0) && (((rd_T24 t242 x102_4).f1) == ((rd_T24 t262 x112_5).f1)))), (wrap64 (x112_5 + 1)), (by first | rfl | (simp; done) | (simp [*]; done) | (simp; grind)), (by first | rfl | (simp; done) | (simp [*]; done) | (simp; grind)), H', ⟨by have := HJ5.out; have := HK2.out; have := HJ75.out; have := HK4.out; have := HK5.out; omega⟩, ⟨by (with_reducible repeat (first | apply Kd.R_alloc | apply Kd.R_drewN | apply Kd.R_drew)); exact Kd.R_mono (Kd.R_far (p := ⟨gb278, 1, none⟩) (Kd.R_far (p := ⟨gb278, 0, none⟩) (Kd.R_mono HO_100.out (fun k_ hk => (⟨hk, hk.2⟩ : _ ∧ k_ ≠ gb278))) (fun _ hk => hk.2) (.int .i64 ((rd_T24 t262 x112_5).f0))) (fun _ hk => hk.2) (.int .i64 ((rd_T24 t262 x112_5).f1))) (fun _ hk => ⟨hk.1.1.1, ⟨hk.1.1.2.1, ⟨hk.1.1.2.2.1, ⟨hk.1.1.2.2.2.1, ⟨hk.1.1.2.2.2.2.1, ⟨hk.1.1.2.2.2.2.2.1, hk.1.1.2.2.2.2.2.2⟩⟩⟩⟩⟩⟩)⟩, ⟨by (with_reducible repeat (first | apply Kd.R_alloc | apply Kd.R_drewN | apply Kd.R_drew)); exact Kd.R_mono (Kd.R_far (p := ⟨gb278, 1, none⟩) (Kd.R_far (p := ⟨gb278, 0, none⟩) (Kd.R_mono HO_110.out (fun k_ hk => (⟨hk, hk.2⟩ : _ ∧ k_ ≠ gb278))) (fun _ hk => hk.2) (.int .i64 ((rd_T24 t262 x112_5).f0))) (fun _ hk => hk.2) (.int .i64 ((rd_T24 t262 x112_5).f1))) (fun _ hk => ⟨hk.1.1.1, ⟨hk.1.1.2.1, ⟨hk.1.1.2.2.1, ⟨hk.1.1.2.2.2.1, ⟨hk.1.1.2.2.2.2.1, ⟨hk.1.1.2.2.2.2.2.1, hk.1.1.2.2.2.2.2.2⟩⟩⟩⟩⟩⟩)⟩, ⟨by (with_reducible repeat (first | apply Kd.R_alloc | apply Kd.R_drewN | apply Kd.R_drew)); exact Kd.R_mono (Kd.R_far (p := ⟨gb278, 1, none⟩) (Kd.R_far (p := ⟨gb278, 0, none⟩) (Kd.R_mono HO_248000.out (fun k_ hk => (⟨hk, hk.2⟩ : _ ∧ k_ ≠ gb278))) (fun _ hk => hk.2) (.int .i64 ((rd_T24 t262 x112_5).f0))) (fun _ hk => hk.2) (.int .i64 ((rd_T24 t262 x112_5).f1))) (fun _ hk => ⟨hk.1.1.1, ⟨hk.1.1.2.1, ⟨hk.1.1.2.2.1, ⟨hk.1.1.2.2.2.1, ⟨hk.1.1.2.2.2.2.1, ⟨hk.1.1.2.2.2.2.2.1, hk.1.1.2.2.2.2.2.2⟩⟩⟩⟩⟩⟩)⟩, ⟨by (with_reducible repeat (first | apply Kd.R_alloc | apply Kd.R_drewN | apply Kd.R_drew)); exact Kd.R_mono (Kd.R_far (p := ⟨gb278, 1, none⟩) (Kd.R_far (p := ⟨gb278, 0, none⟩) (Kd.R_mono HO_273000.out (fun k_ hk => (⟨hk, hk.2⟩ : _ ∧ k_ ≠ gb278))) (fun _ hk => hk.2) (.int .i64 ((rd_T24 t262 x112_5).f0))) (fun _ hk => hk.2) (.int .i64 ((rd_T24 t262 x112_5).f1))) (fun _ hk => ⟨hk.1.1.1, ⟨hk.1.1.2.1, ⟨hk.1.1.2.2.1, ⟨hk.1.1.2.2.2.1, ⟨hk.1.1.2.2.2.2.1, ⟨hk.1.1.2.2.2.2.2.1, hk.1.1.2.2.2.2.2.2⟩⟩⟩⟩⟩⟩)⟩, ⟨by (with_reducible repeat (first | apply Kd.R_alloc | apply Kd.R_drewN | apply Kd.R_drew)); exact Kd.R_mono (Kd.R_far (p := ⟨gb278, 1, none⟩) (Kd.R_far (p := ⟨gb278, 0, none⟩) (Kd.R_mono HO_274000.out (fun k_ hk => (⟨hk, hk.2⟩ : _ ∧ k_ ≠ gb278))) (fun _ hk => hk.2) (.int .i64 ((rd_T24 t262 x112_5).f0))) (fun _ hk => hk.2) (.int .i64 ((rd_T24 t262 x112_5).f1))) (fun _ hk => ⟨hk.1.1.1, ⟨hk.1.1.2.1, ⟨hk.1.1.2.2.1, ⟨hk.1.1.2.2.2.1, ⟨hk.1.1.2.2.2.2.1, ⟨hk.1.1.2.2.2.2.2.1, ⟨hk.1.1.2.2.2.2.2.2.1, hk.1.1.2.2.2.2.2.2.2⟩⟩⟩⟩⟩⟩⟩)⟩, ⟨blf_⟩, ⟨blf_⟩, ⟨blf_⟩, ⟨blf_⟩, ⟨blf_⟩, ⟨blf_⟩, ⟨blf_⟩, ⟨blf_⟩, ⟨bel_⟩⟩
/-- THE ONE PURE STATEMENT of ropewaylaw16_FrontTurns. -/
def ropewaylaw16_FrontTurns.Pure : Prop := ∀ (a0_0 : Int) (a0_1 : Int) (a1_0 : Int) (a1_1 : Int) (l2_0 : List (S24)) (l2_1 : List (S24)), (Lit.int .i64 a0_0).wf = true → (Lit.int .i64 a0_1).wf = true → (Lit.int .i64 a1_0).wf = true → (Lit.int .i64 a1_1).wf = true → (l2_0.length ≤ maxLen ∧ l2_0.length * 16 ≤ 140737488351232 ∧ ∀ y0 ∈ l2_0, ((Lit.int .i64 y0.f0).wf = true ∧ (Lit.int .i64 y0.f1).wf = true)) → (l2_1.length ≤ maxLen ∧ l2_1.length * 16 ≤ 140737488351232 ∧ ∀ y0 ∈ l2_1, ((Lit.int .i64 y0.f0).wf = true ∧ (Lit.int .i64 y0.f1).wf = true)) → ∃ k, ropewaylaw16_FrontTurns.f k a0_0 a0_1 a1_0 a1_1 l2_0 l2_1 = some true

end Go.Proofs.Ytjfmhahlmnnacaa.PFrontTurns
