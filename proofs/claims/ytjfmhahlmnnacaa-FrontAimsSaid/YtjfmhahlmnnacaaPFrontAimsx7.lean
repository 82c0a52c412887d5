/- Written by a program of this session (wip/tool/px.py) over the kit's print: what the code that the law FrontAims reaches computes, function by function, and the law's row. -/
import Derived.Test.YtjfmhahlmnnacaaPFrontAimsx0
import Derived.Test.YtjfmhahlmnnacaaPFrontAimsx1
import Derived.Test.YtjfmhahlmnnacaaPFrontAimsx2
import Derived.Test.YtjfmhahlmnnacaaPFrontAimsx3
import Derived.Test.YtjfmhahlmnnacaaPFrontAimsx4
import Derived.Test.YtjfmhahlmnnacaaPFrontAimsx5
import Derived.Test.YtjfmhahlmnnacaaPFrontAimsx6
namespace Go.Proofs.Ytjfmhahlmnnacaa.PFrontAims
open Go.RowKit Go.Proofs.YtjfmhahlmnnacaaX Go.Proofs.YtjfmhahlmnnacaaW.PrintWords Go.Proofs.YtjfmhahlmnnacaaW.PrintLast Go.Proofs.YtjfmhahlmnnacaaW.PrintMore
attribute [local go_sem] max2_int min2_int max_two min_two max_three min_three max_four min_four   -- for this text's walks alone
set_option linter.unusedVariables false
set_option linter.unusedSimpArgs false

attribute [local go_sem] px_nilq22
attribute [local go_sem high] eqA24
/-! ### ropewaylaw16_FrontAims: function 6 -/
mutual
def ropewaylaw16_FrontAims.j0 : Nat → List (List (S24)) → Bool → Int → Int → Int → Int → Option (Bool)
  | 0, _, _, _, _, _, _ => none
  | k + 1, x2, x27, x230000, x230001, x231000, x231001 => if x27 = true then (some true) else ((front_New.f k x230000 x230001 x231000 x231001).bind fun bt236 => (ropewaylaw16_FrontAims.l0 k x2 (x2.length : Int) 0 bt236.1 bt236.2.1 bt236.2.2))
def ropewaylaw16_FrontAims.l0 : Nat → List (List (S24)) → Int → Int → List (S24) → Int → Int → Option (Bool)
  | 0, _, _, _, _, _, _ => none
  | k + 1, x31, x32, x33, x242000, x242001, x242002 => if x33 < x32 then (if 0 ≤ x33 then (if x33 < (x31.length : Int) then ((front_Least.f x242000 x242001 x242002).bind fun bt243 => (ropewaylaw16_FrontAims.l1 k (rd_L2 x31 x33) x31 x32 x33 (rd_L2 x31 x33) ((rd_L2 x31 x33).length : Int) 0 x242000 x242001 x242002 bt243.1 bt243.2)) else (none)) else (none)) else (some true)
def ropewaylaw16_FrontAims.l1 : Nat → List (S24) → List (List (S24)) → Int → Int → List (S24) → Int → Int → List (S24) → Int → Int → Int → Int → Option (Bool)
  | 0, _, _, _, _, _, _, _, _, _, _, _, _ => none
  | k + 1, x9, x31, x32, x33, x39, x40, x41, x242000, x242001, x242002, x246000, x246001 => if x41 < x40 then (if 0 ≤ x41 then (if x41 < (x39.length : Int) then ((ropewaylaw16_right.f k (([(⟨(rd_T24 x39 x41).f0, (rd_T24 x39 x41).f1⟩ : S24)] : List (S24)))).bind fun t251 => (if t251 = true then ((change_Within.f ((rd_T24 x39 x41).f0) ((rd_T24 x39 x41).f1) x246000 x246001).bind fun t252 => (if t252 = true then (some true) else (ropewaylaw16_FrontAims.l1 k x9 x31 x32 x33 x39 x40 (wrap64 (x41 + 1)) x242000 x242001 x242002 x246000 x246001))) else (some true))) else (none)) else (none)) else ((front_Step.f k x242000 x242001 x242002 x246000 x246001 x9).bind fun bt253 => ((change_Within.f x242001 x242002 bt253.2.1 bt253.2.2).bind fun t259 => (if t259 = true then ((front_Least.f bt253.1 bt253.2.1 bt253.2.2).bind fun bt260 => ((change_Size.f bt260.1 bt260.2).bind fun t262 => ((change_Size.f x246000 x246001).bind fun t263 => (if t262 < t263 then (ropewaylaw16_FrontAims.j3 k x31 x32 x33 true bt253.1 bt253.2.1 bt253.2.2) else (if (bt253.1.length : Int) = 0 then (ropewaylaw16_FrontAims.j3 k x31 x32 x33 true bt253.1 bt253.2.1 bt253.2.2) else (if (x9.length : Int) > 0 then ((front_Least.f bt253.1 bt253.2.1 bt253.2.2).bind fun bt264 => (ropewaylaw16_FrontAims.j3 k x31 x32 x33 (bt264.1 == x246000 && (bt264.2 == x246001)) bt253.1 bt253.2.1 bt253.2.2)) else (ropewaylaw16_FrontAims.j3 k x31 x32 x33 false bt253.1 bt253.2.1 bt253.2.2))))))) else (ropewaylaw16_FrontAims.j3 k x31 x32 x33 true bt253.1 bt253.2.1 bt253.2.2))))
def ropewaylaw16_FrontAims.j3 : Nat → List (List (S24)) → Int → Int → Bool → List (S24) → Int → Int → Option (Bool)
  | 0, _, _, _, _, _, _, _ => none
  | k + 1, x31, x32, x33, x89, x259000, x259001, x259002 => if x89 = true then (some false) else (ropewaylaw16_FrontAims.l2 k x31 x32 x33 x259000 (x259000.length : Int) 0 x259000 x259001 x259002)
def ropewaylaw16_FrontAims.l2 : Nat → List (List (S24)) → Int → Int → List (S24) → Int → Int → List (S24) → Int → Int → Option (Bool)
  | 0, _, _, _, _, _, _, _, _, _ => none
  | k + 1, x31, x32, x33, x91, x92, x93, x259000, x259001, x259002 => if x93 < x92 then (if 0 ≤ x93 then (if x93 < (x91.length : Int) then ((change_Within.f ((rd_T24 x91 x93).f0) ((rd_T24 x91 x93).f1) x259001 x259002).bind fun t268 => (if t268 = true then (if x93 > 0 then (if 0 ≤ (wrap64 (x93 - 1)) then (if (wrap64 (x93 - 1)) < (x259000.length : Int) then ((view_Less.f k ((rd_T24 x259000 (wrap64 (x93 - 1))).f0) ((rd_T24 x259000 (wrap64 (x93 - 1))).f1) ((rd_T24 x91 x93).f0) ((rd_T24 x91 x93).f1)).bind fun t270 => (if t270 = true then ((front_Want.f x259000 x259001 x259002 ((rd_T24 x91 x93).f0) ((rd_T24 x91 x93).f1)).bind fun bt271 => ((change_Join.f k (([(⟨(rd_T24 x91 x93).f0, (rd_T24 x91 x93).f1⟩ : S24), (⟨bt271.1, bt271.2⟩ : S24)] : List (S24)))).bind fun bt276 => (if (!(bt276.1 == x259001) || (!(bt276.2 == x259002))) = true then (some false) else (ropewaylaw16_FrontAims.l2 k x31 x32 x33 x91 x92 (wrap64 (x93 + 1)) x259000 x259001 x259002)))) else (some false))) else (none)) else (none)) else ((front_Want.f x259000 x259001 x259002 ((rd_T24 x91 x93).f0) ((rd_T24 x91 x93).f1)).bind fun bt278 => ((change_Join.f k (([(⟨(rd_T24 x91 x93).f0, (rd_T24 x91 x93).f1⟩ : S24), (⟨bt278.1, bt278.2⟩ : S24)] : List (S24)))).bind fun bt283 => (if (!(bt283.1 == x259001) || (!(bt283.2 == x259002))) = true then (some false) else (ropewaylaw16_FrontAims.l2 k x31 x32 x33 x91 x92 (wrap64 (x93 + 1)) x259000 x259001 x259002))))) else (some false))) else (none)) else (none)) else ((front_Least.f x259000 x259001 x259002).bind fun bt285 => ((front_Ends.f x259000 x259001 x259002 bt285.1 bt285.2).bind fun t287 => (if t287 = true then (if (x259000.length : Int) > 1 then (some false) else (ropewaylaw16_FrontAims.l0 k x31 x32 (wrap64 (x33 + 1)) x259000 x259001 x259002)) else (ropewaylaw16_FrontAims.l0 k x31 x32 (wrap64 (x33 + 1)) x259000 x259001 x259002))))
end
def ropewaylaw16_FrontAims.f (k : Nat) (a0_0 : Int) (a0_1 : Int) (a1_0 : Int) (a1_1 : Int) (l2 : List (List (S24))) : Option (Bool) := (ropewaylaw16_frontAlive.f k).bind fun t231 => (if t231 = true then (if (l2.length : Int) > 30 then (ropewaylaw16_FrontAims.j0 k l2 true a0_0 a0_1 a1_0 a1_1) else ((ropewaylaw16_right.f k (([(⟨a0_0, a0_1⟩ : S24), (⟨a1_0, a1_1⟩ : S24)] : List (S24)))).bind fun t235 => (ropewaylaw16_FrontAims.j0 k l2 (!t235) a0_0 a0_1 a1_0 a1_1))) else (some false))
theorem ropewaylaw16_FrontAims.mono_l : ∀ k, (∀ y0 y1 y2 y3 y4 y5, LeO (ropewaylaw16_FrontAims.j0 k y0 y1 y2 y3 y4 y5) (ropewaylaw16_FrontAims.j0 (k + 1) y0 y1 y2 y3 y4 y5)) ∧ (∀ y0 y1 y2 y3 y4 y5, LeO (ropewaylaw16_FrontAims.l0 k y0 y1 y2 y3 y4 y5) (ropewaylaw16_FrontAims.l0 (k + 1) y0 y1 y2 y3 y4 y5)) ∧ (∀ y0 y1 y2 y3 y4 y5 y6 y7 y8 y9 y10 y11, LeO (ropewaylaw16_FrontAims.l1 k y0 y1 y2 y3 y4 y5 y6 y7 y8 y9 y10 y11) (ropewaylaw16_FrontAims.l1 (k + 1) y0 y1 y2 y3 y4 y5 y6 y7 y8 y9 y10 y11)) ∧ (∀ y0 y1 y2 y3 y4 y5 y6, LeO (ropewaylaw16_FrontAims.j3 k y0 y1 y2 y3 y4 y5 y6) (ropewaylaw16_FrontAims.j3 (k + 1) y0 y1 y2 y3 y4 y5 y6)) ∧ (∀ y0 y1 y2 y3 y4 y5 y6 y7 y8, LeO (ropewaylaw16_FrontAims.l2 k y0 y1 y2 y3 y4 y5 y6 y7 y8) (ropewaylaw16_FrontAims.l2 (k + 1) y0 y1 y2 y3 y4 y5 y6 y7 y8))
  | 0 => ⟨fun _ _ _ _ _ _ r h => by simp [ropewaylaw16_FrontAims.j0] at h, fun _ _ _ _ _ _ r h => by simp [ropewaylaw16_FrontAims.l0] at h, fun _ _ _ _ _ _ _ _ _ _ _ _ r h => by simp [ropewaylaw16_FrontAims.l1] at h, fun _ _ _ _ _ _ _ r h => by simp [ropewaylaw16_FrontAims.j3] at h, fun _ _ _ _ _ _ _ _ _ r h => by simp [ropewaylaw16_FrontAims.l2] at h⟩
  | k + 1 => by
    obtain ⟨ih0, ih1, ih2, ih3, ih4⟩ := ropewaylaw16_FrontAims.mono_l k
    refine ⟨?_, ?_, ?_, ?_, ?_⟩
    · intro y0 y1 y2 y3 y4 y5
      unfold ropewaylaw16_FrontAims.j0
      repeat' first
      | (with_reducible exact ih0 _ _ _ _ _ _)
      | (with_reducible exact ih1 _ _ _ _ _ _)
      | (with_reducible exact ih2 _ _ _ _ _ _ _ _ _ _ _ _)
      | (with_reducible exact ih3 _ _ _ _ _ _ _)
      | (with_reducible exact ih4 _ _ _ _ _ _ _ _ _)
      | (with_reducible exact change_Join.mono _ _)
      | (with_reducible exact front_New.mono _ _ _ _ _)
      | (with_reducible exact front_Step.mono _ _ _ _ _ _ _)
      | (with_reducible exact ropewaylaw16_frontAlive.mono _)
      | (with_reducible exact ropewaylaw16_right.mono _ _)
      | (with_reducible exact view_Less.mono _ _ _ _ _)
      | (with_reducible exact LeO.refl _)
      | (with_reducible exact LeO.none _)
      | (with_reducible refine LeO.ite ?_ ?_)
      | (with_reducible refine LeO.bind ?_ (fun _ => ?_))
      | exact ih0 _ _ _ _ _ _
      | exact ih1 _ _ _ _ _ _
      | exact ih2 _ _ _ _ _ _ _ _ _ _ _ _
      | exact ih3 _ _ _ _ _ _ _
      | exact ih4 _ _ _ _ _ _ _ _ _
      | exact change_Join.mono _ _
      | exact front_New.mono _ _ _ _ _
      | exact front_Step.mono _ _ _ _ _ _ _
      | exact ropewaylaw16_frontAlive.mono _
      | exact ropewaylaw16_right.mono _ _
      | exact view_Less.mono _ _ _ _ _
      | exact LeO.none _
      | refine LeO.ite ?_ ?_
      | refine LeO.bind ?_ (fun _ => ?_)
    · intro y0 y1 y2 y3 y4 y5
      unfold ropewaylaw16_FrontAims.l0
      repeat' first
      | (with_reducible exact ih0 _ _ _ _ _ _)
      | (with_reducible exact ih1 _ _ _ _ _ _)
      | (with_reducible exact ih2 _ _ _ _ _ _ _ _ _ _ _ _)
      | (with_reducible exact ih3 _ _ _ _ _ _ _)
      | (with_reducible exact ih4 _ _ _ _ _ _ _ _ _)
      | (with_reducible exact change_Join.mono _ _)
      | (with_reducible exact front_New.mono _ _ _ _ _)
      | (with_reducible exact front_Step.mono _ _ _ _ _ _ _)
      | (with_reducible exact ropewaylaw16_frontAlive.mono _)
      | (with_reducible exact ropewaylaw16_right.mono _ _)
      | (with_reducible exact view_Less.mono _ _ _ _ _)
      | (with_reducible exact LeO.refl _)
      | (with_reducible exact LeO.none _)
      | (with_reducible refine LeO.ite ?_ ?_)
      | (with_reducible refine LeO.bind ?_ (fun _ => ?_))
      | exact ih0 _ _ _ _ _ _
      | exact ih1 _ _ _ _ _ _
      | exact ih2 _ _ _ _ _ _ _ _ _ _ _ _
      | exact ih3 _ _ _ _ _ _ _
      | exact ih4 _ _ _ _ _ _ _ _ _
      | exact change_Join.mono _ _
      | exact front_New.mono _ _ _ _ _
      | exact front_Step.mono _ _ _ _ _ _ _
      | exact ropewaylaw16_frontAlive.mono _
      | exact ropewaylaw16_right.mono _ _
      | exact view_Less.mono _ _ _ _ _
      | exact LeO.none _
      | refine LeO.ite ?_ ?_
      | refine LeO.bind ?_ (fun _ => ?_)
    · intro y0 y1 y2 y3 y4 y5 y6 y7 y8 y9 y10 y11
      unfold ropewaylaw16_FrontAims.l1
      repeat' first
      | (with_reducible exact ih0 _ _ _ _ _ _)
      | (with_reducible exact ih1 _ _ _ _ _ _)
      | (with_reducible exact ih2 _ _ _ _ _ _ _ _ _ _ _ _)
      | (with_reducible exact ih3 _ _ _ _ _ _ _)
      | (with_reducible exact ih4 _ _ _ _ _ _ _ _ _)
      | (with_reducible exact change_Join.mono _ _)
      | (with_reducible exact front_New.mono _ _ _ _ _)
      | (with_reducible exact front_Step.mono _ _ _ _ _ _ _)
      | (with_reducible exact ropewaylaw16_frontAlive.mono _)
      | (with_reducible exact ropewaylaw16_right.mono _ _)
      | (with_reducible exact view_Less.mono _ _ _ _ _)
      | (with_reducible exact LeO.refl _)
      | (with_reducible exact LeO.none _)
      | (with_reducible refine LeO.ite ?_ ?_)
      | (with_reducible refine LeO.bind ?_ (fun _ => ?_))
      | exact ih0 _ _ _ _ _ _
      | exact ih1 _ _ _ _ _ _
      | exact ih2 _ _ _ _ _ _ _ _ _ _ _ _
      | exact ih3 _ _ _ _ _ _ _
      | exact ih4 _ _ _ _ _ _ _ _ _
      | exact change_Join.mono _ _
      | exact front_New.mono _ _ _ _ _
      | exact front_Step.mono _ _ _ _ _ _ _
      | exact ropewaylaw16_frontAlive.mono _
      | exact ropewaylaw16_right.mono _ _
      | exact view_Less.mono _ _ _ _ _
      | exact LeO.none _
      | refine LeO.ite ?_ ?_
      | refine LeO.bind ?_ (fun _ => ?_)
    · intro y0 y1 y2 y3 y4 y5 y6
      unfold ropewaylaw16_FrontAims.j3
      repeat' first
      | (with_reducible exact ih0 _ _ _ _ _ _)
      | (with_reducible exact ih1 _ _ _ _ _ _)
      | (with_reducible exact ih2 _ _ _ _ _ _ _ _ _ _ _ _)
      | (with_reducible exact ih3 _ _ _ _ _ _ _)
      | (with_reducible exact ih4 _ _ _ _ _ _ _ _ _)
      | (with_reducible exact change_Join.mono _ _)
      | (with_reducible exact front_New.mono _ _ _ _ _)
      | (with_reducible exact front_Step.mono _ _ _ _ _ _ _)
      | (with_reducible exact ropewaylaw16_frontAlive.mono _)
      | (with_reducible exact ropewaylaw16_right.mono _ _)
      | (with_reducible exact view_Less.mono _ _ _ _ _)
      | (with_reducible exact LeO.refl _)
      | (with_reducible exact LeO.none _)
      | (with_reducible refine LeO.ite ?_ ?_)
      | (with_reducible refine LeO.bind ?_ (fun _ => ?_))
      | exact ih0 _ _ _ _ _ _
      | exact ih1 _ _ _ _ _ _
      | exact ih2 _ _ _ _ _ _ _ _ _ _ _ _
      | exact ih3 _ _ _ _ _ _ _
      | exact ih4 _ _ _ _ _ _ _ _ _
      | exact change_Join.mono _ _
      | exact front_New.mono _ _ _ _ _
      | exact front_Step.mono _ _ _ _ _ _ _
      | exact ropewaylaw16_frontAlive.mono _
      | exact ropewaylaw16_right.mono _ _
      | exact view_Less.mono _ _ _ _ _
      | exact LeO.none _
      | refine LeO.ite ?_ ?_
      | refine LeO.bind ?_ (fun _ => ?_)
    · intro y0 y1 y2 y3 y4 y5 y6 y7 y8
      unfold ropewaylaw16_FrontAims.l2
      repeat' first
      | (with_reducible exact ih0 _ _ _ _ _ _)
      | (with_reducible exact ih1 _ _ _ _ _ _)
      | (with_reducible exact ih2 _ _ _ _ _ _ _ _ _ _ _ _)
      | (with_reducible exact ih3 _ _ _ _ _ _ _)
      | (with_reducible exact ih4 _ _ _ _ _ _ _ _ _)
      | (with_reducible exact change_Join.mono _ _)
      | (with_reducible exact front_New.mono _ _ _ _ _)
      | (with_reducible exact front_Step.mono _ _ _ _ _ _ _)
      | (with_reducible exact ropewaylaw16_frontAlive.mono _)
      | (with_reducible exact ropewaylaw16_right.mono _ _)
      | (with_reducible exact view_Less.mono _ _ _ _ _)
      | (with_reducible exact LeO.refl _)
      | (with_reducible exact LeO.none _)
      | (with_reducible refine LeO.ite ?_ ?_)
      | (with_reducible refine LeO.bind ?_ (fun _ => ?_))
      | exact ih0 _ _ _ _ _ _
      | exact ih1 _ _ _ _ _ _
      | exact ih2 _ _ _ _ _ _ _ _ _ _ _ _
      | exact ih3 _ _ _ _ _ _ _
      | exact ih4 _ _ _ _ _ _ _ _ _
      | exact change_Join.mono _ _
      | exact front_New.mono _ _ _ _ _
      | exact front_Step.mono _ _ _ _ _ _ _
      | exact ropewaylaw16_frontAlive.mono _
      | exact ropewaylaw16_right.mono _ _
      | exact view_Less.mono _ _ _ _ _
      | exact LeO.none _
      | refine LeO.ite ?_ ?_
      | refine LeO.bind ?_ (fun _ => ?_)
theorem ropewaylaw16_FrontAims.mono : ∀ a0 a1 a2 a3 a4 k, LeO (ropewaylaw16_FrontAims.f k a0 a1 a2 a3 a4) (ropewaylaw16_FrontAims.f (k + 1) a0 a1 a2 a3 a4) := by
  intro a0 a1 a2 a3 a4 k
  obtain ⟨ih0, ih1, ih2, ih3, ih4⟩ := ropewaylaw16_FrontAims.mono_l k
  unfold ropewaylaw16_FrontAims.f
  repeat' first
      | (with_reducible exact ih0 _ _ _ _ _ _)
      | (with_reducible exact ih1 _ _ _ _ _ _)
      | (with_reducible exact ih2 _ _ _ _ _ _ _ _ _ _ _ _)
      | (with_reducible exact ih3 _ _ _ _ _ _ _)
      | (with_reducible exact ih4 _ _ _ _ _ _ _ _ _)
      | (with_reducible exact change_Join.mono _ _)
      | (with_reducible exact front_New.mono _ _ _ _ _)
      | (with_reducible exact front_Step.mono _ _ _ _ _ _ _)
      | (with_reducible exact ropewaylaw16_frontAlive.mono _)
      | (with_reducible exact ropewaylaw16_right.mono _ _)
      | (with_reducible exact view_Less.mono _ _ _ _ _)
      | (with_reducible exact LeO.refl _)
      | (with_reducible exact LeO.none _)
      | (with_reducible refine LeO.ite ?_ ?_)
      | (with_reducible refine LeO.bind ?_ (fun _ => ?_))
      | exact ih0 _ _ _ _ _ _
      | exact ih1 _ _ _ _ _ _
      | exact ih2 _ _ _ _ _ _ _ _ _ _ _ _
      | exact ih3 _ _ _ _ _ _ _
      | exact ih4 _ _ _ _ _ _ _ _ _
      | exact change_Join.mono _ _
      | exact front_New.mono _ _ _ _ _
      | exact front_Step.mono _ _ _ _ _ _ _
      | exact ropewaylaw16_frontAlive.mono _
      | exact ropewaylaw16_right.mono _ _
      | exact view_Less.mono _ _ _ _ _
      | exact LeO.none _
      | refine LeO.ite ?_ ?_
      | refine LeO.bind ?_ (fun _ => ?_)
def ropewaylaw16_FrontAims.T17 : Bool × List (List Nat × List Nat) := (true, [([], []), ([0], [0]), ([], []), ([2], [2]), ([1, 3], [1, 3]), ([4], [4]), ([5, 4], [5]), ([6], [6]), ([7, 6, 6], [6, 7]), ([8, 8, 6], [6, 8]), ([6], [6]), ([10, 9, 6], [6, 10]), ([9, 11, 6], [6, 9, 11]), ([6, 12], [6, 12]), ([13, 11], [13]), ([14], [14]), ([15, 14], [14, 15]), ([16, 14], [14, 16]), ([17, 14], [14, 17]), ([14, 18], [14, 18]), ([19, 14], [19]), ([20], [20]), ([21, 20], [20, 21]), ([22, 20], [20, 22]), ([23, 20, 20], [20, 23]), ([24], [24]), ([25, 24, 24], [24, 25]), ([24], [24]), ([26, 27, 24], [24, 26, 27]), ([24, 28, 20], [20, 24, 28]), ([20, 29], [20, 29])])
def ropewaylaw16_FrontAims.B17 : List Nat := [0, 1, 0, 4, 15, 31, 63, 127, 255, 511, 127, 2047, 4095, 8191, 16383, 32767, 65535, 131071, 262143, 524287, 1048575, 2097151, 4194303, 8388607, 16777215, 33554431, 67108863, 33554431, 268435455, 536870911, 1073741823]
theorem ropewaylaw16_FrontAims.tab17 : rtab .any (opsOf Try.f6 17) = ropewaylaw16_FrontAims.T17 := by kernel_rfl
theorem ropewaylaw16_FrontAims.bits17 : waitsOk ropewaylaw16_FrontAims.T17.2 ropewaylaw16_FrontAims.B17 = true := by kernel_rfl
def ropewaylaw16_FrontAims.T22 : Bool × List (List Nat × List Nat) := (true, [([], []), ([], []), ([1], [1]), ([0, 2], [0, 2]), ([3], [3]), ([4, 3], [4]), ([5], [5]), ([6, 5], [5, 6]), ([7, 5, 5], [5, 7]), ([8], [8]), ([9, 8], [8, 9]), ([8], [8]), ([11, 8], [8, 11]), ([10, 12, 8], [8, 10, 12]), ([13, 8], [8, 13]), ([8], [8]), ([14, 15, 8, 8], [8, 14, 15]), ([16, 8], [8, 16]), ([8, 17, 5], [5, 8, 17]), ([5, 18], [5, 18]), ([19, 16], [19]), ([20], [20]), ([20], [20]), ([20], [20]), ([22, 23, 20, 20], [20, 22, 23]), ([21, 24, 20], [20, 21, 24]), ([25, 24, 20], [20, 25]), ([20], [20]), ([27, 20], [20, 27]), ([26, 28, 20], [20, 26, 28]), ([20, 29], [20, 29])])
def ropewaylaw16_FrontAims.B22 : List Nat := [0, 0, 2, 7, 15, 31, 63, 127, 255, 511, 1023, 511, 2559, 8191, 16383, 511, 65535, 131071, 262143, 524287, 1048575, 2097151, 2097151, 2097151, 14680063, 33554431, 67108863, 2097151, 136314879, 536870911, 1073741823]
theorem ropewaylaw16_FrontAims.tab22 : rtab .any (opsOf Try.f6 22) = ropewaylaw16_FrontAims.T22 := by kernel_rfl
theorem ropewaylaw16_FrontAims.bits22 : waitsOk ropewaylaw16_FrontAims.T22.2 ropewaylaw16_FrontAims.B22 = true := by kernel_rfl
def ropewaylaw16_FrontAims.T25 : Bool × List (List Nat × List Nat) := (true, [([], []), ([], []), ([1], [1]), ([0, 2, 2], [0, 2]), ([3, 3], [3]), ([4], [4]), ([5, 4], [4, 5]), ([6, 4], [4, 6]), ([7, 4], [4, 7]), ([4, 8], [4, 8])])
def ropewaylaw16_FrontAims.B25 : List Nat := [0, 0, 2, 7, 15, 31, 63, 127, 255, 511]
theorem ropewaylaw16_FrontAims.tab25 : rtab .any (opsOf Try.f6 25) = ropewaylaw16_FrontAims.T25 := by kernel_rfl
theorem ropewaylaw16_FrontAims.bits25 : waitsOk ropewaylaw16_FrontAims.T25.2 ropewaylaw16_FrontAims.B25 = true := by kernel_rfl
set_option maxHeartbeats 8000000 in
set_option maxRecDepth 100000 in
theorem ropewaylaw16_FrontAims.calls (k : Nat) (a0_0 : Int) (a0_1 : Int) (a1_0 : Int) (a1_1 : Int) (A2 : Option Addr) (c2 : Nat) (l2 : List (List (S24))) (r : Bool) (w : World) (hr2 : Kd.C (Kd.slice 24 k24) w A2 l2.length l2) (hc2 : l2.length ≤ c2) (hr1_ : Aside0 (r = true)) (h : ropewaylaw16_FrontAims.f k a0_0 a0_1 a1_0 a1_1 l2 = some r) :
    Calls Try.prog 6 #[.agg #[.int .i64 a0_0, .int .i64 a0_1], .agg #[.int .i64 a1_0, .int .i64 a1_1], .slice A2 l2.length c2] w fun e w' => e = .returned (.bool r) ∧ Below w.heap.size w w' := by
  have hu24 := Try.underlying24
  have hu26 := Try.underlying26
  have HR2 := Aside0.mk hr2
  have HC2 := Aside0.mk hc2
  clear hr2 hc2
  have HB := Aside0.mk (Below.refl w.heap.size w)
  have H : ((ropewaylaw16_frontAlive.f k).bind fun t231 => (if t231 = true then (if (l2.length : Int) > 30 then (ropewaylaw16_FrontAims.j0 k l2 true a0_0 a0_1 a1_0 a1_1) else ((ropewaylaw16_right.f k (([(⟨a0_0, a0_1⟩ : S24), (⟨a1_0, a1_1⟩ : S24)] : List (S24)))).bind fun t235 => (ropewaylaw16_FrontAims.j0 k l2 (!t235) a0_0 a0_1 a1_0 a1_1))) else (some false))) = some r := h
  clear h
  replace H := Option.bind_eq_some_iff.mp H
  obtain ⟨t231, A40, H⟩ := H
  replace H : (if t231 = true then (if (l2.length : Int) > 30 then (ropewaylaw16_FrontAims.j0 k l2 true a0_0 a0_1 a1_0 a1_1) else ((ropewaylaw16_right.f k (([(⟨a0_0, a0_1⟩ : S24), (⟨a1_0, a1_1⟩ : S24)] : List (S24)))).bind fun t235 => (ropewaylaw16_FrontAims.j0 k l2 (!t235) a0_0 a0_1 a1_0 a1_1))) else (some false)) = some r := H
  have A4 := Aside0.mk A40
  clear A40
  by_cases c5 : t231 = true
  rotate_left
  · replace c5 := Bool.eq_false_iff.mpr c5
    subst c5
    have H1 : (some false) = some r := by rw [if_neg (show ¬ (false = true) by decide)] at H; exact H
    clear H
    have H := H1
    clear H1
    exact absurd (Option.some.inj H) (by rw [hr1_.out]; decide)
  subst c5
  have H1 : (if (l2.length : Int) > 30 then (ropewaylaw16_FrontAims.j0 k l2 true a0_0 a0_1 a1_0 a1_1) else ((ropewaylaw16_right.f k (([(⟨a0_0, a0_1⟩ : S24), (⟨a1_0, a1_1⟩ : S24)] : List (S24)))).bind fun t235 => (ropewaylaw16_FrontAims.j0 k l2 (!t235) a0_0 a0_1 a1_0 a1_1))) = some r := by rw [if_pos rfl] at H; exact H
  clear H
  have H := H1
  clear H1
  have HC6 := Aside0.mk H
  clear H
  go_enter Try.func6, Try.ntmps6
  go_upto_region 3 with (first | ((with_reducible refine gate_dst (N := 3) rfl ?_); (try (refine gate_guard (by rfl) ?_; dsimp only)); refine box_event ?hg (N := 3) ?hd (cs := #[.int .i64 a0_0, .int .i64 a0_1]) (t := 24) ?hr ?_; (case hd => rfl); (case hg => rfl); (case hr => first | (go_simp; done) | (go_simp; rfl)); intro gb229 hg w7 hbox hb; have n0_ := Aside0.mk (below_step bel_ hb); have n1_ := Aside0.mk (hbox); have n2_ := Aside0.mk (bs_ hg); have n3_ := Aside0.mk (bs_ hg); clear HB; have HB := n0_; have BK229 := n1_; have GW229 := n2_; have GE229 := n3_; clear n0_ n1_ n2_ n3_; clear hb hbox hg) | ((with_reducible refine gate_dst (N := 4) rfl ?_); (try (refine gate_guard (by rfl) ?_; dsimp only)); refine box_event ?hg (N := 4) ?hd (cs := #[.int .i64 a1_0, .int .i64 a1_1]) (t := 24) ?hr ?_; (case hd => rfl); (case hg => rfl); (case hr => first | (go_simp; done) | (go_simp; rfl)); intro gb230 hg w8 hbox hb; have n0_ := Aside0.mk (bb_ BK229 hb); have n1_ := Aside0.mk (below_step bel_ hb); have n2_ := Aside0.mk (hbox); have n3_ := Aside0.mk (bs_ hg); have n4_ := Aside0.mk (bs_ hg); have n5_ := Aside0.mk (nl_ BK229 hg); have n6_ := Aside0.mk (ng_ BK229 hg); clear BK229; clear HB; have BK229 := n0_; have HB := n1_; have BK230 := n2_; have GW230 := n3_; have GE230 := n4_; have NB229_230 := n5_; have NB230_229 := n6_; clear n0_ n1_ n2_ n3_ n4_ n5_ n6_; clear hb hbox hg) | ((with_reducible refine gate_callee (f := 8) rfl ?_); refine goL_ (some 16) Try.func8 #[] ?_; (with_reducible refine (ropewaylaw16_frontAlive.calls k  true _ A4.out).mono ?_); rintro e w9 ⟨rfl, hb⟩; refine ⟨_, rfl, ?_⟩; have n0_ := Aside0.mk (bb_ BK229 hb); have n1_ := Aside0.mk (bb_ BK230 hb); have n2_ := Aside0.mk (below_step bel_ hb); clear BK229; clear BK230; clear HB; have BK229 := n0_; have BK230 := n1_; have HB := n2_; clear n0_ n1_ n2_; (try clear hb); (try clear hb2); (try clear hk); (try clear hi)))
  (try simp only [Act.put, List.setIfInBounds_toArray, List.set_cons_zero, List.set_cons_succ])
  go_cut [27] (fun v27 wc => ∃ (kq : Nat) (x27_5 : Bool), v27 = .bool x27_5 ∧ Aside0 (ropewaylaw16_FrontAims.j0 kq l2 x27_5 a0_0 a0_1 a1_0 a1_1 = some r) ∧ Aside0 (kq ≤ k) ∧ Aside0 (wc.heap[gb229]? = some (.cells #[.int .i64 a0_0, .int .i64 a0_1] 24 (0, 0))) ∧ Aside0 (wc.heap[gb230]? = some (.cells #[.int .i64 a1_0, .int .i64 a1_1] 24 (0, 0))) ∧ Aside0 (Below w.heap.size w wc))
  case first =>
   have H := HC6.out
   clear HC6
   by_cases c10 : (l2.length : Int) > 30
   · rw [if_pos c10] at H
     have c10b0 : decide (30 < (l2.length : Int)) = true := decide_eq_true c10
     have c10b1 : decide (30 < l2.length) = true := decide_eq_true (by omega)
     clear c10
     (first | rw [c10b0] | (simp only [i64_w, i32_w]; rw [c10b0]) | skip)
     have H' := Aside0.mk H
     clear H
     go_wp2
     go_meet
     case rel => exact ⟨_, (true), (by first | rfl | (simp; done) | (simp [*]; done) | (simp; grind)), H', ⟨by first | omega | exact Nat.le_refl _⟩, ⟨blf_⟩, ⟨blf_⟩, ⟨bel_⟩⟩
   rw [if_neg c10] at H
   have c10b0 : decide (30 < (l2.length : Int)) = false := decide_eq_false c10
   have c10b1 : decide (30 < l2.length) = false := decide_eq_false (by omega)
   clear c10
   (first | rw [c10b0] | (simp only [i64_w, i32_w]; rw [c10b0]) | skip)
   obtain ⟨y232, hy232⟩ : ∃ y_ : List (S24), y_ = (([(⟨a0_0, a0_1⟩ : S24), (⟨a1_0, a1_1⟩ : S24)] : List (S24))) := ⟨_, rfl⟩
   replace H : ((ropewaylaw16_right.f k y232).bind fun t235 => (ropewaylaw16_FrontAims.j0 k l2 (!t235) a0_0 a0_1 a1_0 a1_1)) = some r := by first | (rw [hy232]; with_reducible exact H) | (have H2_ := (Option.bind_some _ _).symm.trans H; rw [hy232]; with_reducible exact H2_) | (have H2_ := (Option.bind_some _ _).symm.trans H; with_reducible exact H2_) | with_reducible exact H | (rw [hy232]; exact H) | exact H
   have Ny232 := Aside0.mk hy232
   clear hy232
   replace H := Option.bind_eq_some_iff.mp H
   obtain ⟨t235, A110, H⟩ := H
   replace H : (ropewaylaw16_FrontAims.j0 k l2 (!t235) a0_0 a0_1 a1_0 a1_1) = some r := H
   have A11 := Aside0.mk A110
   clear A110
   have H' := Aside0.mk H
   clear H
   have hnb12 := NB229_230.out
   have hnc12 := NB230_229.out
   have hcz13_0 : w9.cell? ⟨gb229, 0, none⟩ = some (.int .i64 a0_0) := (blk_cell BK229.out 0).trans rfl
   have hcz13_1 : w9.cell? ⟨gb229, 1, none⟩ = some (.int .i64 a0_1) := (blk_cell BK229.out 1).trans rfl
   have hfz13_0 := blk_frozen BK229.out 0
   have hfz13_1 := blk_frozen BK229.out 1
   have hcz14_0 : w9.cell? ⟨gb230, 0, none⟩ = some (.int .i64 a1_0) := (blk_cell BK230.out 0).trans rfl
   have hcz14_1 : w9.cell? ⟨gb230, 1, none⟩ = some (.int .i64 a1_1) := (blk_cell BK230.out 1).trans rfl
   have hfz14_0 := blk_frozen BK230.out 0
   have hfz14_1 := blk_frozen BK230.out 1
   go_wp2_with (first | ((with_reducible refine gate_dst (N := 24) rfl ?_); (try (refine gate_guard (by rfl) ?_; dsimp only)); refine Kd.R_lit k24 _ 24 ?hg (N := 24) ?hd (xs := ([(⟨a0_0, a0_1⟩ : S24), (⟨a1_0, a1_1⟩ : S24)] : List (S24))) (inner := [.int .i64 a0_0, .int .i64 a0_1, .int .i64 a1_0, .int .i64 a1_1]) (ok := fun _ => True) (okp := fun _ => True) ?hr ?hp (fun _ hk => hk) trivial (Below.refl _ _) (Nat.le_refl _) (by simp) ?_; (case hd => rfl); (case hg => rfl); (case hr => first | (go_simp; done) | (go_simp; rfl)); (case hp => exact (Reps.c2 (show Kd.M k24 _ _ _ (⟨a0_0, a0_1⟩ : S24) [.int .i64 a0_0, .int .i64 a0_1] from (k24_mkM _ _ _ (⟨a0_0, a0_1⟩ : S24) )) (Reps.c2 (show Kd.M k24 _ _ _ (⟨a1_0, a1_1⟩ : S24) [.int .i64 a1_0, .int .i64 a1_1] from (k24_mkM _ _ _ (⟨a1_0, a1_1⟩ : S24) )) (Reps.none _ _)))); intro v233 w15 ho16 hb hg_ hnew_; clear hg_ hnew_; (first | rw [← Ny232.out] at ho16 | (simp only [Int.reduceToNat] at ho16; rw [← Ny232.out] at ho16)); have n0_ := Aside0.mk (Kd.R_lower (Kd.R_newB (Kd.R_newB ho16 (g := gb229) (o := .cells #[.int .i64 a0_0, .int .i64 a0_1] 24 (0, 0)) blk_) (g := gb230) (o := .cells #[.int .i64 a1_0, .int .i64 a1_1] 24 (0, 0)) blk_) (below_size bel_)); have n1_ := Aside0.mk (bb_ BK229 hb); have n2_ := Aside0.mk (bb_ BK230 hb); have n3_ := Aside0.mk (below_step bel_ hb); clear BK229; clear BK230; clear HB; have HO234 := n0_; have BK229 := n1_; have BK230 := n2_; have HB := n3_; clear n0_ n1_ n2_ n3_; clear hb ho16; obtain ⟨Ao17, co17, eo17⟩ := Kd.R_slice HO234.out; subst eo17) | (go_at_call 12; (with_reducible refine (ropewaylaw16_right.calls k _ _ y232 t235 _ ?side1 ?side2 A11.out).mono ?_); (case side1 => repeat (first | exact (Kd.R_reads' HO234.out).2.2 | (with_reducible refine Kd.C_alloc ?_ _) | (with_reducible refine Kd.C_drewN ?_ _) | (with_reducible refine Kd.C_drew ?_))); (case side2 => exact (Kd.R_reads' HO234.out).2.1); rintro e w18 ⟨rfl, hb⟩; have n0_ := Aside0.mk (Kd.R_below (rl_ HO234) hb); have n1_ := Aside0.mk (bb_ BK229 hb); have n2_ := Aside0.mk (bb_ BK230 hb); have n3_ := Aside0.mk (below_step bel_ hb); clear HO234; clear BK229; clear BK230; clear HB; have HO234 := n0_; have BK229 := n1_; have BK230 := n2_; have HB := n3_; clear n0_ n1_ n2_ n3_; (try clear hb); (try clear hb2); (try clear hk); (try clear hi)))
   go_meet
   case rel => exact ⟨_, (!t235), (by first | rfl | (simp; done) | (simp [*]; done) | (simp; grind)), H', ⟨by first | omega | exact Nat.le_refl _⟩, ⟨blf_⟩, ⟨blf_⟩, ⟨bel_⟩⟩
  case rest =>
   clear HC6
   try clear c1
   try clear c2
   try clear p2
   try clear c5
   try clear c6
   try clear c8
   try clear c10
   try clear c10b0
   try clear c10b1
   try clear c12
   try clear hcz13_0
   try clear hcz13_1
   try clear hcz14_0
   try clear hcz14_1
   try clear hfz13_0
   try clear hfz13_1
   try clear hfz14_0
   try clear hfz14_1
   obtain ⟨kq, x27_5, rfl, HA, HJ5, BK229, BK230, HB⟩ := hcut
   cases kq with
   | zero => exact absurd HA.out (by simp [ropewaylaw16_FrontAims.j0])
   | succ kj5 =>
    have H := HA.out
    clear HA
    simp only [ropewaylaw16_FrontAims.j0] at H
    by_cases c19 : x27_5 = true
    · subst c19
      have H1 : (some true) = some r := by rw [if_pos rfl] at H; exact H
      clear H
      have H := H1
      clear H1
      obtain rfl := Option.some.inj H
      go_wp2
      go_ret
      exact ⟨by first | rfl | (simp [errW_none, errW_some] <;> rfl) | (simp [*, errW_none, errW_some] <;> rfl), bel_⟩
    replace c19 := Bool.eq_false_iff.mpr c19
    subst c19
    have H1 : ((front_New.f kj5 a0_0 a0_1 a1_0 a1_1).bind fun bt236 => (ropewaylaw16_FrontAims.l0 kj5 l2 (l2.length : Int) 0 bt236.1 bt236.2.1 bt236.2.2)) = some r := by rw [if_neg (show ¬ (false = true) by decide)] at H; exact H
    clear H
    have H := H1
    clear H1
    replace H := Option.bind_eq_some_iff.mp H
    obtain ⟨⟨t236, t239, t240⟩, A200, H⟩ := H
    replace H : (ropewaylaw16_FrontAims.l0 kj5 l2 (l2.length : Int) 0 t236 t239 t240) = some r := H
    have A20 := Aside0.mk A200
    clear A200
    have H' := Aside0.mk H
    clear H
    have hnb21 := NB229_230.out
    have hnc21 := NB230_229.out
    have hcz22_0 : wc.cell? ⟨gb229, 0, none⟩ = some (.int .i64 a0_0) := (blk_cell BK229.out 0).trans rfl
    have hcz22_1 : wc.cell? ⟨gb229, 1, none⟩ = some (.int .i64 a0_1) := (blk_cell BK229.out 1).trans rfl
    have hfz22_0 := blk_frozen BK229.out 0
    have hfz22_1 := blk_frozen BK229.out 1
    have hcz23_0 : wc.cell? ⟨gb230, 0, none⟩ = some (.int .i64 a1_0) := (blk_cell BK230.out 0).trans rfl
    have hcz23_1 : wc.cell? ⟨gb230, 1, none⟩ = some (.int .i64 a1_1) := (blk_cell BK230.out 1).trans rfl
    have hfz23_0 := blk_frozen BK230.out 0
    have hfz23_1 := blk_frozen BK230.out 1
    go_wp2_with (first | ((with_reducible refine gate_callee (f := 7) rfl ?_); refine goL_ (some 30) Try.func7 #[.agg #[.int .i64 a0_0, .int .i64 a0_1], .agg #[.int .i64 a1_0, .int .i64 a1_1]] ?_; (with_reducible refine (front_New.calls kj5 a0_0 a0_1 a1_0 a1_1 t236 t239 t240 _ A20.out).mono ?_); rintro e w24 ⟨v237, rfl, ho0, hb⟩; refine ⟨_, rfl, ?_⟩; have n0_ := Aside0.mk (Kd.R_lower (Kd.R_newB (Kd.R_newB ho0 (g := gb229) (o := .cells #[.int .i64 a0_0, .int .i64 a0_1] 24 (0, 0)) blk_) (g := gb230) (o := .cells #[.int .i64 a1_0, .int .i64 a1_1] 24 (0, 0)) blk_) (below_size bel_)); have n1_ := Aside0.mk (bb_ BK229 hb); have n2_ := Aside0.mk (bb_ BK230 hb); have n3_ := Aside0.mk (below_step bel_ hb); clear BK229; clear BK230; clear HB; have HO238 := n0_; have BK229 := n1_; have BK230 := n2_; have HB := n3_; clear n0_ n1_ n2_ n3_; (try clear hb); (try clear hb2); (try clear hk); (try clear hi); (try clear ho0)) | ((with_reducible refine gate_dst (N := 7) rfl ?_); (try (refine gate_guard (by rfl) ?_; dsimp only)); refine box_event ?hg (N := 7) ?hd (cs := #[.slice none 0 0, .int .i64 0, .int .i64 0]) (t := 26) ?hr ?_; (case hd => rfl); (case hg => rfl); (case hr => first | (go_simp; done) | (go_simp; rfl)); intro gb241 hg w25 hbox hb; have n0_ := Aside0.mk (Kd.R_below (rl_ HO238) hb); have n1_ := Aside0.mk (bb_ BK229 hb); have n2_ := Aside0.mk (bb_ BK230 hb); have n3_ := Aside0.mk (below_step bel_ hb); have n4_ := Aside0.mk (hbox); have n5_ := Aside0.mk (bs_ hg); have n6_ := Aside0.mk (bs_ hg); have n7_ := Aside0.mk (nl_ BK229 hg); have n8_ := Aside0.mk (ng_ BK229 hg); have n9_ := Aside0.mk (nl_ BK230 hg); have n10_ := Aside0.mk (ng_ BK230 hg); clear HO238; clear BK229; clear BK230; clear HB; have HO238 := n0_; have BK229 := n1_; have BK230 := n2_; have HB := n3_; have BK241 := n4_; have GW241 := n5_; have GE241 := n6_; have NB229_241 := n7_; have NB241_229 := n8_; have NB230_241 := n9_; have NB241_230 := n10_; clear n0_ n1_ n2_ n3_ n4_ n5_ n6_ n7_ n8_ n9_ n10_; clear hb hbox hg; obtain ⟨Ao26, co26, eo26⟩ := Kd.R_slice HO238.out; subst eo26; have hnb27 := NB241_229.out; have hnc27 := NB229_241.out; have hnb28 := NB241_230.out; have hnc28 := NB230_241.out; have hcz29_0 : w25.cell? ⟨gb241, 0, none⟩ = some (.slice none 0 0) := (blk_cell BK241.out 0).trans rfl; have hcz29_1 : w25.cell? ⟨gb241, 1, none⟩ = some (.int .i64 0) := (blk_cell BK241.out 1).trans rfl; have hcz29_2 : w25.cell? ⟨gb241, 2, none⟩ = some (.int .i64 0) := (blk_cell BK241.out 2).trans rfl; have hfz29_0 := blk_frozen BK241.out 0; have hfz29_1 := blk_frozen BK241.out 1; have hfz29_2 := blk_frozen BK241.out 2))
    go_loopg [33] kj5 (fun kq v33 w' => ∃ (x33_2 : Int) (x242000_2 : List (S24)) (x242001_2 : Int) (x242002_2 : Int) (u242000 : Value), v33 = .int .i64 x33_2 ∧ Aside0 (ropewaylaw16_FrontAims.l0 kq l2 (l2.length : Int) x33_2 x242000_2 x242001_2 x242002_2 = some r) ∧ Aside0 (kq ≤ kj5) ∧ Aside0 (Kd.R k24 24 w' w.heap.size (fun k_ => k_ ≠ gb229 ∧ k_ ≠ gb230) u242000 x242000_2) ∧ Aside0 (w'.heap[gb229]? = some (.cells #[.int .i64 a0_0, .int .i64 a0_1] 24 (0, 0))) ∧ Aside0 (w'.heap[gb230]? = some (.cells #[.int .i64 a1_0, .int .i64 a1_1] 24 (0, 0))) ∧ Aside0 (w'.heap[gb241]? = some (.cells #[u242000, .int .i64 x242001_2, .int .i64 x242002_2] 26 (0, 0))) ∧ Aside0 (Below w.heap.size w w'))
    case atStart => exact ⟨(0), (t236), (t239), (t240), (.slice Ao26 t236.length co26), (by first | rfl | (simp; done) | (simp [*]; done) | (simp; grind)), H', ⟨Nat.le_refl _⟩, ⟨by (with_reducible repeat (first | apply Kd.R_alloc | apply Kd.R_drewN | apply Kd.R_drew)); exact Kd.R_mono (Kd.R_far (p := ⟨gb241, 2, none⟩) (Kd.R_far (p := ⟨gb241, 1, none⟩) (Kd.R_far (p := ⟨gb241, 0, none⟩) (Kd.R_types HO238.out BK241.out (by decide)) (fun _ hk => hk.2) (.slice Ao26 t236.length co26)) (fun _ hk => hk.2) (.int .i64 t239)) (fun _ hk => hk.2) (.int .i64 t240)) (fun _ hk => ⟨hk.1.1.2, hk.1.2⟩)⟩, ⟨blf_⟩, ⟨blf_⟩, ⟨by (with_reducible repeat (first | refine blk_drewN ?_ _ | refine blk_drew ?_ | refine blk_alloc ?_ _)); refine blk_put (cs := #[.slice Ao26 t236.length co26, .int .i64 t239, .int .i64 0]) ?_ 2 _ rfl; (with_reducible repeat (first | refine blk_drewN ?_ _ | refine blk_drew ?_ | refine blk_alloc ?_ _)); refine blk_put (cs := #[.slice Ao26 t236.length co26, .int .i64 0, .int .i64 0]) ?_ 1 _ rfl; (with_reducible repeat (first | refine blk_drewN ?_ _ | refine blk_drew ?_ | refine blk_alloc ?_ _)); refine blk_put (cs := #[.slice none 0 0, .int .i64 0, .int .i64 0]) ?_ 0 _ rfl; (with_reducible repeat (first | refine blk_drewN ?_ _ | refine blk_drew ?_ | refine blk_alloc ?_ _)); exact BK241.out⟩, ⟨bel_⟩⟩
    case round =>
     clear H'
     try clear c1
     try clear c2
     try clear p2
     try clear c5
     try clear c6
     try clear c7
     try clear c8
     try clear c10
     try clear c10b0
     try clear c10b1
     try clear c12
     try clear c19
     try clear c21
     try clear c27
     try clear c28
     try clear hcz13_0
     try clear hcz13_1
     try clear hcz14_0
     try clear hcz14_1
     try clear hcz22_0
     try clear hcz22_1
     try clear hcz23_0
     try clear hcz23_1
     try clear hcz29_0
     try clear hcz29_1
     try clear hcz29_2
     try clear hfz13_0
     try clear hfz13_1
     try clear hfz14_0
     try clear hfz14_1
     try clear hfz22_0
     try clear hfz22_1
     try clear hfz23_0
     try clear hfz23_1
     try clear hfz29_0
     try clear hfz29_1
     try clear hfz29_2
     try clear p2
     obtain ⟨x33_2, x242000_2, x242001_2, x242002_2, u242000, rfl, HA, HK2, HO_242000, BK229, BK230, BK241, HB⟩ := hrel
     cases gk with
     | zero => exact absurd HA.out (by simp [ropewaylaw16_FrontAims.l0])
     | succ k2 =>
      have H := HA.out
      clear HA
      simp only [ropewaylaw16_FrontAims.l0] at H
      by_cases c30 : x33_2 < (l2.length : Int)
      rotate_left
      · rw [if_neg c30] at H
        have c30b0 : decide (x33_2 < (l2.length : Int)) = false := decide_eq_false c30
        clear c30
        obtain rfl := Option.some.inj H
        go_wp2
        go_ret
        exact ⟨by first | rfl | (simp [errW_none, errW_some] <;> rfl) | (simp [*, errW_none, errW_some] <;> rfl), bel_⟩
      rw [if_pos c30] at H
      have c30b0 : decide (x33_2 < (l2.length : Int)) = true := decide_eq_true c30
      clear c30
      by_cases c31 : 0 ≤ x33_2
      rotate_left
      · rw [if_neg c31] at H
        exact absurd H (by simp)
      rw [if_pos c31] at H
      have c31b0 : decide (0 ≤ x33_2) = true := decide_eq_true c31
      clear c31
      by_cases c32 : x33_2 < (l2.length : Int)
      rotate_left
      · rw [if_neg c32] at H
        exact absurd H (by simp)
      rw [if_pos c32] at H
      have c32b0 : decide (x33_2 < (l2.length : Int)) = true := decide_eq_true c32
      clear c32
      replace H := Option.bind_eq_some_iff.mp H
      obtain ⟨⟨t243, t244⟩, A330, H⟩ := H
      replace H : (ropewaylaw16_FrontAims.l1 k2 (rd_L2 l2 x33_2) l2 (l2.length : Int) x33_2 (rd_L2 l2 x33_2) ((rd_L2 l2 x33_2).length : Int) 0 x242000_2 x242001_2 x242002_2 t243 t244) = some r := H
      have A33 := Aside0.mk A330
      clear A330
      have H' := Aside0.mk H
      clear H
      have p242 : 0 ≤ (x33_2 : Int) := of_decide_eq_true (by first | (with_reducible assumption) | assumption)
      have q242 : x33_2 < (l2.length : Int) := of_decide_eq_true (by first | (with_reducible assumption) | assumption)
      obtain ⟨ad242, A242_0, c242_0, e242, hx242_0, hl242_0, hi242_0⟩ := at_L2 HR2.out x33_2 p242 q242
      cases e242
      replace hx242_0 := (HB.out.cell (World.block_lt_of_cell? w _ hx242_0)).trans hx242_0
      have HR242_0 := Aside0.mk hi242_0
      have HC242_0 := Aside0.mk hl242_0
      clear hi242_0 hl242_0
      replace p242 := eq_true p242
      replace q242 := eq_true q242
      have hnb34 := NB241_229.out
      have hnc34 := NB229_241.out
      have hnb35 := NB241_230.out
      have hnc35 := NB230_241.out
      have hcz36_0 : wr.cell? ⟨gb241, 0, none⟩ = some (u242000) := (blk_cell BK241.out 0).trans rfl
      have hcz36_1 : wr.cell? ⟨gb241, 1, none⟩ = some (.int .i64 x242001_2) := (blk_cell BK241.out 1).trans rfl
      have hcz36_2 : wr.cell? ⟨gb241, 2, none⟩ = some (.int .i64 x242002_2) := (blk_cell BK241.out 2).trans rfl
      have hfz36_0 := blk_frozen BK241.out 0
      have hfz36_1 := blk_frozen BK241.out 1
      have hfz36_2 := blk_frozen BK241.out 2
      obtain ⟨Ao37, co37, eo37⟩ := Kd.R_slice HO_242000.out
      subst eo37
      go_wp2_with (first | ((with_reducible refine gate_callee (f := 10) rfl ?_); refine goL_ (some 38) Try.func10 #[.agg #[.slice Ao37 x242000_2.length co37, .int .i64 x242001_2, .int .i64 x242002_2]] ?_; (with_reducible refine (front_Least.calls _ _ x242000_2 x242001_2 x242002_2 t243 t244 _ ?side1 ?side2 A33.out).mono ?_); (case side1 => repeat (first | exact (Kd.R_reads' HO_242000.out).2.2 | (with_reducible refine Kd.C_alloc ?_ _) | (with_reducible refine Kd.C_drewN ?_ _) | (with_reducible refine Kd.C_drew ?_))); (case side2 => exact (Kd.R_reads' HO_242000.out).2.1); rintro e w38 ⟨rfl, hb⟩; refine ⟨_, rfl, ?_⟩; have n0_ := Aside0.mk (Kd.R_below (rl_ HO_242000) hb); have n1_ := Aside0.mk (bb_ BK229 hb); have n2_ := Aside0.mk (bb_ BK230 hb); have n3_ := Aside0.mk (bb_ BK241 hb); have n4_ := Aside0.mk (below_step bel_ hb); clear HO_242000; clear BK229; clear BK230; clear BK241; clear HB; have HO_242000 := n0_; have BK229 := n1_; have BK230 := n2_; have BK241 := n3_; have HB := n4_; clear n0_ n1_ n2_ n3_ n4_; (try clear hb); (try clear hb2); (try clear hk); (try clear hi)) | ((with_reducible refine gate_dst (N := 10) rfl ?_); (try (refine gate_guard (by rfl) ?_; dsimp only)); refine box_event ?hg (N := 10) ?hd (cs := #[.int .i64 0, .int .i64 0]) (t := 24) ?hr ?_; (case hd => rfl); (case hg => rfl); (case hr => first | (go_simp; done) | (go_simp; rfl)); intro gb245 hg w39 hbox hb; have n0_ := Aside0.mk (Kd.R_below (Kd.R_elderB (rl_ HO_242000) gb245 (Nat.le_of_eq hg.symm)) hb); have n1_ := Aside0.mk (bb_ BK229 hb); have n2_ := Aside0.mk (bb_ BK230 hb); have n3_ := Aside0.mk (bb_ BK241 hb); have n4_ := Aside0.mk (below_step bel_ hb); have n5_ := Aside0.mk (hbox); have n6_ := Aside0.mk (bs_ hg); have n7_ := Aside0.mk (bs_ hg); have n8_ := Aside0.mk (nl_ BK229 hg); have n9_ := Aside0.mk (ng_ BK229 hg); have n10_ := Aside0.mk (nl_ BK230 hg); have n11_ := Aside0.mk (ng_ BK230 hg); have n12_ := Aside0.mk (nl_ BK241 hg); have n13_ := Aside0.mk (ng_ BK241 hg); clear HO_242000; clear BK229; clear BK230; clear BK241; clear HB; have HO_242000 := n0_; have BK229 := n1_; have BK230 := n2_; have BK241 := n3_; have HB := n4_; have BK245 := n5_; have GW245 := n6_; have GE245 := n7_; have NB229_245 := n8_; have NB245_229 := n9_; have NB230_245 := n10_; have NB245_230 := n11_; have NB241_245 := n12_; have NB245_241 := n13_; clear n0_ n1_ n2_ n3_ n4_ n5_ n6_ n7_ n8_ n9_ n10_ n11_ n12_ n13_; clear hb hbox hg; have hnb40 := NB245_229.out; have hnc40 := NB229_245.out; have hnb41 := NB245_230.out; have hnc41 := NB230_245.out; have hnb42 := NB245_241.out; have hnc42 := NB241_245.out; have hcz43_0 : w39.cell? ⟨gb245, 0, none⟩ = some (.int .i64 0) := (blk_cell BK245.out 0).trans rfl; have hcz43_1 : w39.cell? ⟨gb245, 1, none⟩ = some (.int .i64 0) := (blk_cell BK245.out 1).trans rfl; have hfz43_0 := blk_frozen BK245.out 0; have hfz43_1 := blk_frozen BK245.out 1))
      go_loopg [41] k2 (fun kq v41 w' => ∃ (x41_3 : Int), v41 = .int .i64 x41_3 ∧ Aside0 (ropewaylaw16_FrontAims.l1 kq (rd_L2 l2 x33_2) l2 (l2.length : Int) x33_2 (rd_L2 l2 x33_2) ((rd_L2 l2 x33_2).length : Int) x41_3 x242000_2 x242001_2 x242002_2 t243 t244 = some r) ∧ Aside0 (kq ≤ k2) ∧ Aside0 (Kd.R k24 24 w' w.heap.size (fun k_ => k_ ≠ gb229 ∧ k_ ≠ gb230 ∧ k_ ≠ gb245) (.slice Ao37 x242000_2.length co37) x242000_2) ∧ Aside0 (w'.heap[gb229]? = some (.cells #[.int .i64 a0_0, .int .i64 a0_1] 24 (0, 0))) ∧ Aside0 (w'.heap[gb230]? = some (.cells #[.int .i64 a1_0, .int .i64 a1_1] 24 (0, 0))) ∧ Aside0 (w'.heap[gb241]? = some (.cells #[(.slice Ao37 x242000_2.length co37), .int .i64 x242001_2, .int .i64 x242002_2] 26 (0, 0))) ∧ Aside0 (w'.heap[gb245]? = some (.cells #[.int .i64 t243, .int .i64 t244] 24 (0, 0))) ∧ Aside0 (Below w.heap.size w w'))
      case atStart => exact ⟨(0), (by first | rfl | (simp; done) | (simp [*]; done) | (simp; grind)), H', ⟨Nat.le_refl _⟩, ⟨by (with_reducible repeat (first | apply Kd.R_alloc | apply Kd.R_drewN | apply Kd.R_drew)); exact Kd.R_mono (Kd.R_far (p := ⟨gb245, 1, none⟩) (Kd.R_far (p := ⟨gb245, 0, none⟩) (Kd.R_mono HO_242000.out (fun k_ hk => (⟨hk, hk.2⟩ : _ ∧ k_ ≠ gb245))) (fun _ hk => hk.2) (.int .i64 t243)) (fun _ hk => hk.2) (.int .i64 t244)) (fun _ hk => ⟨hk.1.1.1, ⟨hk.1.1.2, hk.1.2⟩⟩)⟩, ⟨blf_⟩, ⟨blf_⟩, ⟨blf_⟩, ⟨by (with_reducible repeat (first | refine blk_drewN ?_ _ | refine blk_drew ?_ | refine blk_alloc ?_ _)); refine blk_put (cs := #[.int .i64 t243, .int .i64 0]) ?_ 1 _ rfl; (with_reducible repeat (first | refine blk_drewN ?_ _ | refine blk_drew ?_ | refine blk_alloc ?_ _)); refine blk_put (cs := #[.int .i64 0, .int .i64 0]) ?_ 0 _ rfl; (with_reducible repeat (first | refine blk_drewN ?_ _ | refine blk_drew ?_ | refine blk_alloc ?_ _)); exact BK245.out⟩, ⟨bel_⟩⟩
      case round =>
       clear H'
       try clear c1
       try clear c2
       try clear p2
       try clear q2
       try clear hx2
       try clear c3
       try clear c4
       try clear c5
       try clear c6
       try clear c7
       try clear c8
       try clear c10
       try clear c10b0
       try clear c10b1
       try clear c12
       try clear c19
       try clear c21
       try clear c24
       try clear p24
       try clear q24
       try clear hx24
       try clear c27
       try clear c28
       try clear c30
       try clear c30b0
       try clear c31
       try clear c31b0
       try clear c32
       try clear c32b0
       try clear c34
       try clear c35
       try clear c40
       try clear c41
       try clear c42
       try clear hcz13_0
       try clear hcz13_1
       try clear hcz14_0
       try clear hcz14_1
       try clear hcz22_0
       try clear hcz22_1
       try clear hcz23_0
       try clear hcz23_1
       try clear hcz29_0
       try clear hcz29_1
       try clear hcz29_2
       try clear hcz36_0
       try clear hcz36_1
       try clear hcz36_2
       try clear hcz43_0
       try clear hcz43_1
       try clear hfz13_0
       try clear hfz13_1
       try clear hfz14_0
       try clear hfz14_1
       try clear hfz22_0
       try clear hfz22_1
       try clear hfz23_0
       try clear hfz23_1
       try clear hfz29_0
       try clear hfz29_1
       try clear hfz29_2
       try clear hfz36_0
       try clear hfz36_1
       try clear hfz36_2
       try clear hfz43_0
       try clear hfz43_1
       try clear hx242_0
       try clear p2
       try clear p242
       try clear q242
       obtain ⟨x41_3, rfl, HA, HK3, HO_242000, BK229, BK230, BK241, BK245, HB⟩ := hrel
       cases gk with
       | zero => exact absurd HA.out (by simp [ropewaylaw16_FrontAims.l1])
       | succ k3 =>
        have H := HA.out
        clear HA
        simp only [ropewaylaw16_FrontAims.l1] at H
        by_cases c44 : x41_3 < ((rd_L2 l2 x33_2).length : Int)
        · rw [if_pos c44] at H
          have c44b0 : decide (x41_3 < ((rd_L2 l2 x33_2).length : Int)) = true := decide_eq_true c44
          clear c44
          by_cases c45 : 0 ≤ x41_3
          rotate_left
          · rw [if_neg c45] at H
            exact absurd H (by simp)
          rw [if_pos c45] at H
          have c45b0 : decide (0 ≤ x41_3) = true := decide_eq_true c45
          clear c45
          by_cases c46 : x41_3 < ((rd_L2 l2 x33_2).length : Int)
          rotate_left
          · rw [if_neg c46] at H
            exact absurd H (by simp)
          rw [if_pos c46] at H
          have c46b0 : decide (x41_3 < ((rd_L2 l2 x33_2).length : Int)) = true := decide_eq_true c46
          clear c46
          obtain ⟨y248, hy248⟩ : ∃ y_ : List (S24), y_ = (([(⟨(rd_T24 (rd_L2 l2 x33_2) x41_3).f0, (rd_T24 (rd_L2 l2 x33_2) x41_3).f1⟩ : S24)] : List (S24))) := ⟨_, rfl⟩
          replace H : ((ropewaylaw16_right.f k3 y248).bind fun t251 => (if t251 = true then ((change_Within.f ((rd_T24 (rd_L2 l2 x33_2) x41_3).f0) ((rd_T24 (rd_L2 l2 x33_2) x41_3).f1) t243 t244).bind fun t252 => (if t252 = true then (some true) else (ropewaylaw16_FrontAims.l1 k3 (rd_L2 l2 x33_2) l2 (l2.length : Int) x33_2 (rd_L2 l2 x33_2) ((rd_L2 l2 x33_2).length : Int) (wrap64 (x41_3 + 1)) x242000_2 x242001_2 x242002_2 t243 t244))) else (some true))) = some r := by first | (rw [hy248]; with_reducible exact H) | (have H2_ := (Option.bind_some _ _).symm.trans H; rw [hy248]; with_reducible exact H2_) | (have H2_ := (Option.bind_some _ _).symm.trans H; with_reducible exact H2_) | with_reducible exact H | (rw [hy248]; exact H) | exact H
          have Ny248 := Aside0.mk hy248
          clear hy248
          replace H := Option.bind_eq_some_iff.mp H
          obtain ⟨t251, A470, H⟩ := H
          replace H : (if t251 = true then ((change_Within.f ((rd_T24 (rd_L2 l2 x33_2) x41_3).f0) ((rd_T24 (rd_L2 l2 x33_2) x41_3).f1) t243 t244).bind fun t252 => (if t252 = true then (some true) else (ropewaylaw16_FrontAims.l1 k3 (rd_L2 l2 x33_2) l2 (l2.length : Int) x33_2 (rd_L2 l2 x33_2) ((rd_L2 l2 x33_2).length : Int) (wrap64 (x41_3 + 1)) x242000_2 x242001_2 x242002_2 t243 t244))) else (some true)) = some r := H
          have A47 := Aside0.mk A470
          clear A470
          by_cases c48 : t251 = true
          rotate_left
          · replace c48 := Bool.eq_false_iff.mpr c48
            subst c48
            have H1 : (some true) = some r := by rw [if_neg (show ¬ (false = true) by decide)] at H; exact H
            clear H
            have H := H1
            clear H1
            obtain rfl := Option.some.inj H
            have p246 : 0 ≤ (x41_3 : Int) := of_decide_eq_true (by first | (with_reducible assumption) | assumption)
            have q246 : x41_3 < ((rd_L2 l2 x33_2).length : Int) := of_decide_eq_true (by first | (with_reducible assumption) | assumption)
            obtain ⟨ad246, e246, hx246_0, hx246_1⟩ := at_T24 HR242_0.out x41_3 p246 q246
            cases e246
            replace hx246_0 := (HB.out.cell (World.block_lt_of_cell? w _ hx246_0)).trans hx246_0
            replace hx246_1 := (HB.out.cell (World.block_lt_of_cell? w _ hx246_1)).trans hx246_1
            replace p246 := eq_true p246
            replace q246 := eq_true q246
            go_wp2_with (first | ((with_reducible refine gate_dst (N := 12) rfl ?_); (try (refine gate_guard (by rfl) ?_; dsimp only)); refine box_event ?hg (N := 12) ?hd (cs := #[.int .i64 0, .int .i64 0]) (t := 24) ?hr ?_; (case hd => rfl); (case hg => rfl); (case hr => first | (go_simp; done) | (go_simp; rfl)); intro gb247 hg w83 hbox hb; have n0_ := Aside0.mk (Kd.R_below (Kd.R_elderB (rl_ HO_242000) gb247 (Nat.le_of_eq hg.symm)) hb); have n1_ := Aside0.mk (bb_ BK229 hb); have n2_ := Aside0.mk (bb_ BK230 hb); have n3_ := Aside0.mk (bb_ BK241 hb); have n4_ := Aside0.mk (bb_ BK245 hb); have n5_ := Aside0.mk (below_step bel_ hb); have n6_ := Aside0.mk (hbox); have n7_ := Aside0.mk (bs_ hg); have n8_ := Aside0.mk (bs_ hg); have n9_ := Aside0.mk (nl_ BK229 hg); have n10_ := Aside0.mk (ng_ BK229 hg); have n11_ := Aside0.mk (nl_ BK230 hg); have n12_ := Aside0.mk (ng_ BK230 hg); have n13_ := Aside0.mk (nl_ BK241 hg); have n14_ := Aside0.mk (ng_ BK241 hg); have n15_ := Aside0.mk (nl_ BK245 hg); have n16_ := Aside0.mk (ng_ BK245 hg); clear HO_242000; clear BK229; clear BK230; clear BK241; clear BK245; clear HB; have HO_242000 := n0_; have BK229 := n1_; have BK230 := n2_; have BK241 := n3_; have BK245 := n4_; have HB := n5_; have BK247 := n6_; have GW247 := n7_; have GE247 := n8_; have NB229_247 := n9_; have NB247_229 := n10_; have NB230_247 := n11_; have NB247_230 := n12_; have NB241_247 := n13_; have NB247_241 := n14_; have NB245_247 := n15_; have NB247_245 := n16_; clear n0_ n1_ n2_ n3_ n4_ n5_ n6_ n7_ n8_ n9_ n10_ n11_ n12_ n13_ n14_ n15_ n16_; clear hb hbox hg; have hnb84 := NB247_229.out; have hnc84 := NB229_247.out; have hnb85 := NB247_230.out; have hnc85 := NB230_247.out; have hnb86 := NB247_241.out; have hnc86 := NB241_247.out; have hnb87 := NB247_245.out; have hnc87 := NB245_247.out; have hcz88_0 : w83.cell? ⟨gb247, 0, none⟩ = some (.int .i64 0) := (blk_cell BK247.out 0).trans rfl; have hcz88_1 : w83.cell? ⟨gb247, 1, none⟩ = some (.int .i64 0) := (blk_cell BK247.out 1).trans rfl; have hfz88_0 := blk_frozen BK247.out 0; have hfz88_1 := blk_frozen BK247.out 1) | ((with_reducible refine gate_dst (N := 46) rfl ?_); (try (refine gate_guard (by rfl) ?_; dsimp only)); refine Kd.R_lit k24 _ 24 ?hg (N := 46) ?hd (xs := ([(⟨(rd_T24 (rd_L2 l2 x33_2) x41_3).f0, (rd_T24 (rd_L2 l2 x33_2) x41_3).f1⟩ : S24)] : List (S24))) (inner := [.int .i64 ((rd_T24 (rd_L2 l2 x33_2) x41_3).f0), .int .i64 ((rd_T24 (rd_L2 l2 x33_2) x41_3).f1)]) (ok := fun _ => True) (okp := fun _ => True) ?hr ?hp (fun _ hk => hk) trivial (Below.refl _ _) (Nat.le_refl _) (by simp) ?_; (case hd => rfl); (case hg => rfl); (case hr => first | (go_simp; done) | (go_simp; rfl)); (case hp => exact (Reps.c2 (show Kd.M k24 _ _ _ (⟨(rd_T24 (rd_L2 l2 x33_2) x41_3).f0, (rd_T24 (rd_L2 l2 x33_2) x41_3).f1⟩ : S24) [.int .i64 ((rd_T24 (rd_L2 l2 x33_2) x41_3).f0), .int .i64 ((rd_T24 (rd_L2 l2 x33_2) x41_3).f1)] from (k24_mkM _ _ _ (⟨(rd_T24 (rd_L2 l2 x33_2) x41_3).f0, (rd_T24 (rd_L2 l2 x33_2) x41_3).f1⟩ : S24) )) (Reps.none _ _))); intro v249 w89 ho90 hb hg_ hnew_; clear hg_ hnew_; (first | rw [← Ny248.out] at ho90 | (simp only [Int.reduceToNat] at ho90; rw [← Ny248.out] at ho90)); have n0_ := Aside0.mk (Kd.R_elder' (by (with_reducible repeat (first | apply Kd.R_alloc | apply Kd.R_drewN | apply Kd.R_drew)); exact (Kd.R_mono (Kd.R_far (p := ⟨gb247, 1, none⟩) (Kd.R_far (p := ⟨gb247, 0, none⟩) (Kd.R_mono HO_242000.out (fun k_ hk => (⟨hk, hk.2⟩ : _ ∧ k_ ≠ gb247))) (fun _ hk => hk.2) (.int .i64 ((rd_T24 (rd_L2 l2 x33_2) x41_3).f0))) (fun _ hk => hk.2) (.int .i64 ((rd_T24 (rd_L2 l2 x33_2) x41_3).f1))) (fun _ h_ => h_.1))) (Kd.R_base ho90) hb); have n1_ := Aside0.mk (Kd.R_lower (Kd.R_newB (Kd.R_newB (Kd.R_newB (Kd.R_newB (Kd.R_new' ho90 (Kd.R_lt (by (with_reducible repeat (first | apply Kd.R_alloc | apply Kd.R_drewN | apply Kd.R_drew)); exact (Kd.R_mono (Kd.R_far (p := ⟨gb247, 1, none⟩) (Kd.R_far (p := ⟨gb247, 0, none⟩) (Kd.R_mono HO_242000.out (fun k_ hk => (⟨hk, hk.2⟩ : _ ∧ k_ ≠ gb247))) (fun _ hk => hk.2) (.int .i64 ((rd_T24 (rd_L2 l2 x33_2) x41_3).f0))) (fun _ hk => hk.2) (.int .i64 ((rd_T24 (rd_L2 l2 x33_2) x41_3).f1))) (fun _ h_ => h_.1))))) (g := gb229) (o := .cells #[.int .i64 a0_0, .int .i64 a0_1] 24 (0, 0)) blf_) (g := gb230) (o := .cells #[.int .i64 a1_0, .int .i64 a1_1] 24 (0, 0)) blf_) (g := gb245) (o := .cells #[.int .i64 t243, .int .i64 t244] 24 (0, 0)) blf_) (g := gb247) (o := .cells #[.int .i64 ((rd_T24 (rd_L2 l2 x33_2) x41_3).f0), .int .i64 ((rd_T24 (rd_L2 l2 x33_2) x41_3).f1)] 24 (0, 0)) (by (with_reducible repeat (first | refine blk_drewN ?_ _ | refine blk_drew ?_ | refine blk_alloc ?_ _)); refine blk_put (cs := #[.int .i64 ((rd_T24 (rd_L2 l2 x33_2) x41_3).f0), .int .i64 0]) ?_ 1 _ rfl; (with_reducible repeat (first | refine blk_drewN ?_ _ | refine blk_drew ?_ | refine blk_alloc ?_ _)); refine blk_put (cs := #[.int .i64 0, .int .i64 0]) ?_ 0 _ rfl; (with_reducible repeat (first | refine blk_drewN ?_ _ | refine blk_drew ?_ | refine blk_alloc ?_ _)); exact BK247.out)) (below_size bel_)); have n2_ := Aside0.mk (blk_below (g := gb229) (o := .cells #[.int .i64 a0_0, .int .i64 a0_1] 24 (0, 0)) blf_ hb); have n3_ := Aside0.mk (blk_below (g := gb230) (o := .cells #[.int .i64 a1_0, .int .i64 a1_1] 24 (0, 0)) blf_ hb); have n4_ := Aside0.mk (blk_below (g := gb241) (o := .cells #[.slice Ao37 x242000_2.length co37, .int .i64 x242001_2, .int .i64 x242002_2] 26 (0, 0)) blf_ hb); have n5_ := Aside0.mk (blk_below (g := gb245) (o := .cells #[.int .i64 t243, .int .i64 t244] 24 (0, 0)) blf_ hb); have n6_ := Aside0.mk (blk_below (g := gb247) (o := .cells #[.int .i64 ((rd_T24 (rd_L2 l2 x33_2) x41_3).f0), .int .i64 ((rd_T24 (rd_L2 l2 x33_2) x41_3).f1)] 24 (0, 0)) (by (with_reducible repeat (first | refine blk_drewN ?_ _ | refine blk_drew ?_ | refine blk_alloc ?_ _)); refine blk_put (cs := #[.int .i64 ((rd_T24 (rd_L2 l2 x33_2) x41_3).f0), .int .i64 0]) ?_ 1 _ rfl; (with_reducible repeat (first | refine blk_drewN ?_ _ | refine blk_drew ?_ | refine blk_alloc ?_ _)); refine blk_put (cs := #[.int .i64 0, .int .i64 0]) ?_ 0 _ rfl; (with_reducible repeat (first | refine blk_drewN ?_ _ | refine blk_drew ?_ | refine blk_alloc ?_ _)); exact BK247.out) hb); have n7_ := Aside0.mk (below_step bel_ hb); clear HO_242000; clear BK229; clear BK230; clear BK241; clear BK245; clear BK247; clear HB; have HO_242000 := n0_; have HO250 := n1_; have BK229 := n2_; have BK230 := n3_; have BK241 := n4_; have BK245 := n5_; have BK247 := n6_; have HB := n7_; clear n0_ n1_ n2_ n3_ n4_ n5_ n6_ n7_; clear hb ho90; obtain ⟨Ao91, co91, eo91⟩ := Kd.R_slice HO250.out; subst eo91) | ((with_reducible refine gate_callee (f := 12) rfl ?_); refine goL_ (some 47) Try.func12 #[.slice Ao91 y248.length co91] ?_; (with_reducible refine (ropewaylaw16_right.calls k3 _ _ y248 false _ ?side1 ?side2 A47.out).mono ?_); (case side1 => repeat (first | exact (Kd.R_reads' HO250.out).2.2 | (with_reducible refine Kd.C_alloc ?_ _) | (with_reducible refine Kd.C_drewN ?_ _) | (with_reducible refine Kd.C_drew ?_))); (case side2 => exact (Kd.R_reads' HO250.out).2.1); rintro e w92 ⟨rfl, hb⟩; refine ⟨_, rfl, ?_⟩; have n0_ := Aside0.mk (Kd.R_below (rl_ HO_242000) hb); have n1_ := Aside0.mk (Kd.R_below (rl_ HO250) hb); have n2_ := Aside0.mk (bb_ BK229 hb); have n3_ := Aside0.mk (bb_ BK230 hb); have n4_ := Aside0.mk (bb_ BK241 hb); have n5_ := Aside0.mk (bb_ BK245 hb); have n6_ := Aside0.mk (bb_ BK247 hb); have n7_ := Aside0.mk (below_step bel_ hb); clear HO_242000; clear HO250; clear BK229; clear BK230; clear BK241; clear BK245; clear BK247; clear HB; have HO_242000 := n0_; have HO250 := n1_; have BK229 := n2_; have BK230 := n3_; have BK241 := n4_; have BK245 := n5_; have BK247 := n6_; have HB := n7_; clear n0_ n1_ n2_ n3_ n4_ n5_ n6_ n7_; (try clear hb); (try clear hb2); (try clear hk); (try clear hi)))
            go_ret
            exact ⟨by first | rfl | (simp [errW_none, errW_some] <;> rfl) | (simp [*, errW_none, errW_some] <;> rfl), bel_⟩
          subst c48
          have H1 : ((change_Within.f ((rd_T24 (rd_L2 l2 x33_2) x41_3).f0) ((rd_T24 (rd_L2 l2 x33_2) x41_3).f1) t243 t244).bind fun t252 => (if t252 = true then (some true) else (ropewaylaw16_FrontAims.l1 k3 (rd_L2 l2 x33_2) l2 (l2.length : Int) x33_2 (rd_L2 l2 x33_2) ((rd_L2 l2 x33_2).length : Int) (wrap64 (x41_3 + 1)) x242000_2 x242001_2 x242002_2 t243 t244))) = some r := by rw [if_pos rfl] at H; exact H
          clear H
          have H := H1
          clear H1
          replace H := Option.bind_eq_some_iff.mp H
          obtain ⟨t252, A490, H⟩ := H
          replace H : (if t252 = true then (some true) else (ropewaylaw16_FrontAims.l1 k3 (rd_L2 l2 x33_2) l2 (l2.length : Int) x33_2 (rd_L2 l2 x33_2) ((rd_L2 l2 x33_2).length : Int) (wrap64 (x41_3 + 1)) x242000_2 x242001_2 x242002_2 t243 t244)) = some r := H
          have A49 := Aside0.mk A490
          clear A490
          by_cases c50 : t252 = true
          · subst c50
            have H1 : (some true) = some r := by rw [if_pos rfl] at H; exact H
            clear H
            have H := H1
            clear H1
            obtain rfl := Option.some.inj H
            have p246 : 0 ≤ (x41_3 : Int) := of_decide_eq_true (by first | (with_reducible assumption) | assumption)
            have q246 : x41_3 < ((rd_L2 l2 x33_2).length : Int) := of_decide_eq_true (by first | (with_reducible assumption) | assumption)
            obtain ⟨ad246, e246, hx246_0, hx246_1⟩ := at_T24 HR242_0.out x41_3 p246 q246
            cases e246
            replace hx246_0 := (HB.out.cell (World.block_lt_of_cell? w _ hx246_0)).trans hx246_0
            replace hx246_1 := (HB.out.cell (World.block_lt_of_cell? w _ hx246_1)).trans hx246_1
            replace p246 := eq_true p246
            replace q246 := eq_true q246
            go_wp2_with (first | ((with_reducible refine gate_dst (N := 12) rfl ?_); (try (refine gate_guard (by rfl) ?_; dsimp only)); refine box_event ?hg (N := 12) ?hd (cs := #[.int .i64 0, .int .i64 0]) (t := 24) ?hr ?_; (case hd => rfl); (case hg => rfl); (case hr => first | (go_simp; done) | (go_simp; rfl)); intro gb247 hg w51 hbox hb; have n0_ := Aside0.mk (Kd.R_below (Kd.R_elderB (rl_ HO_242000) gb247 (Nat.le_of_eq hg.symm)) hb); have n1_ := Aside0.mk (bb_ BK229 hb); have n2_ := Aside0.mk (bb_ BK230 hb); have n3_ := Aside0.mk (bb_ BK241 hb); have n4_ := Aside0.mk (bb_ BK245 hb); have n5_ := Aside0.mk (below_step bel_ hb); have n6_ := Aside0.mk (hbox); have n7_ := Aside0.mk (bs_ hg); have n8_ := Aside0.mk (bs_ hg); have n9_ := Aside0.mk (nl_ BK229 hg); have n10_ := Aside0.mk (ng_ BK229 hg); have n11_ := Aside0.mk (nl_ BK230 hg); have n12_ := Aside0.mk (ng_ BK230 hg); have n13_ := Aside0.mk (nl_ BK241 hg); have n14_ := Aside0.mk (ng_ BK241 hg); have n15_ := Aside0.mk (nl_ BK245 hg); have n16_ := Aside0.mk (ng_ BK245 hg); clear HO_242000; clear BK229; clear BK230; clear BK241; clear BK245; clear HB; have HO_242000 := n0_; have BK229 := n1_; have BK230 := n2_; have BK241 := n3_; have BK245 := n4_; have HB := n5_; have BK247 := n6_; have GW247 := n7_; have GE247 := n8_; have NB229_247 := n9_; have NB247_229 := n10_; have NB230_247 := n11_; have NB247_230 := n12_; have NB241_247 := n13_; have NB247_241 := n14_; have NB245_247 := n15_; have NB247_245 := n16_; clear n0_ n1_ n2_ n3_ n4_ n5_ n6_ n7_ n8_ n9_ n10_ n11_ n12_ n13_ n14_ n15_ n16_; clear hb hbox hg; have hnb52 := NB247_229.out; have hnc52 := NB229_247.out; have hnb53 := NB247_230.out; have hnc53 := NB230_247.out; have hnb54 := NB247_241.out; have hnc54 := NB241_247.out; have hnb55 := NB247_245.out; have hnc55 := NB245_247.out; have hcz56_0 : w51.cell? ⟨gb247, 0, none⟩ = some (.int .i64 0) := (blk_cell BK247.out 0).trans rfl; have hcz56_1 : w51.cell? ⟨gb247, 1, none⟩ = some (.int .i64 0) := (blk_cell BK247.out 1).trans rfl; have hfz56_0 := blk_frozen BK247.out 0; have hfz56_1 := blk_frozen BK247.out 1) | ((with_reducible refine gate_dst (N := 46) rfl ?_); (try (refine gate_guard (by rfl) ?_; dsimp only)); refine Kd.R_lit k24 _ 24 ?hg (N := 46) ?hd (xs := ([(⟨(rd_T24 (rd_L2 l2 x33_2) x41_3).f0, (rd_T24 (rd_L2 l2 x33_2) x41_3).f1⟩ : S24)] : List (S24))) (inner := [.int .i64 ((rd_T24 (rd_L2 l2 x33_2) x41_3).f0), .int .i64 ((rd_T24 (rd_L2 l2 x33_2) x41_3).f1)]) (ok := fun _ => True) (okp := fun _ => True) ?hr ?hp (fun _ hk => hk) trivial (Below.refl _ _) (Nat.le_refl _) (by simp) ?_; (case hd => rfl); (case hg => rfl); (case hr => first | (go_simp; done) | (go_simp; rfl)); (case hp => exact (Reps.c2 (show Kd.M k24 _ _ _ (⟨(rd_T24 (rd_L2 l2 x33_2) x41_3).f0, (rd_T24 (rd_L2 l2 x33_2) x41_3).f1⟩ : S24) [.int .i64 ((rd_T24 (rd_L2 l2 x33_2) x41_3).f0), .int .i64 ((rd_T24 (rd_L2 l2 x33_2) x41_3).f1)] from (k24_mkM _ _ _ (⟨(rd_T24 (rd_L2 l2 x33_2) x41_3).f0, (rd_T24 (rd_L2 l2 x33_2) x41_3).f1⟩ : S24) )) (Reps.none _ _))); intro v249 w57 ho58 hb hg_ hnew_; clear hg_ hnew_; (first | rw [← Ny248.out] at ho58 | (simp only [Int.reduceToNat] at ho58; rw [← Ny248.out] at ho58)); have n0_ := Aside0.mk (Kd.R_elder' (by (with_reducible repeat (first | apply Kd.R_alloc | apply Kd.R_drewN | apply Kd.R_drew)); exact (Kd.R_mono (Kd.R_far (p := ⟨gb247, 1, none⟩) (Kd.R_far (p := ⟨gb247, 0, none⟩) (Kd.R_mono HO_242000.out (fun k_ hk => (⟨hk, hk.2⟩ : _ ∧ k_ ≠ gb247))) (fun _ hk => hk.2) (.int .i64 ((rd_T24 (rd_L2 l2 x33_2) x41_3).f0))) (fun _ hk => hk.2) (.int .i64 ((rd_T24 (rd_L2 l2 x33_2) x41_3).f1))) (fun _ h_ => h_.1))) (Kd.R_base ho58) hb); have n1_ := Aside0.mk (Kd.R_lower (Kd.R_newB (Kd.R_newB (Kd.R_newB (Kd.R_newB (Kd.R_new' ho58 (Kd.R_lt (by (with_reducible repeat (first | apply Kd.R_alloc | apply Kd.R_drewN | apply Kd.R_drew)); exact (Kd.R_mono (Kd.R_far (p := ⟨gb247, 1, none⟩) (Kd.R_far (p := ⟨gb247, 0, none⟩) (Kd.R_mono HO_242000.out (fun k_ hk => (⟨hk, hk.2⟩ : _ ∧ k_ ≠ gb247))) (fun _ hk => hk.2) (.int .i64 ((rd_T24 (rd_L2 l2 x33_2) x41_3).f0))) (fun _ hk => hk.2) (.int .i64 ((rd_T24 (rd_L2 l2 x33_2) x41_3).f1))) (fun _ h_ => h_.1))))) (g := gb229) (o := .cells #[.int .i64 a0_0, .int .i64 a0_1] 24 (0, 0)) blf_) (g := gb230) (o := .cells #[.int .i64 a1_0, .int .i64 a1_1] 24 (0, 0)) blf_) (g := gb245) (o := .cells #[.int .i64 t243, .int .i64 t244] 24 (0, 0)) blf_) (g := gb247) (o := .cells #[.int .i64 ((rd_T24 (rd_L2 l2 x33_2) x41_3).f0), .int .i64 ((rd_T24 (rd_L2 l2 x33_2) x41_3).f1)] 24 (0, 0)) (by (with_reducible repeat (first | refine blk_drewN ?_ _ | refine blk_drew ?_ | refine blk_alloc ?_ _)); refine blk_put (cs := #[.int .i64 ((rd_T24 (rd_L2 l2 x33_2) x41_3).f0), .int .i64 0]) ?_ 1 _ rfl; (with_reducible repeat (first | refine blk_drewN ?_ _ | refine blk_drew ?_ | refine blk_alloc ?_ _)); refine blk_put (cs := #[.int .i64 0, .int .i64 0]) ?_ 0 _ rfl; (with_reducible repeat (first | refine blk_drewN ?_ _ | refine blk_drew ?_ | refine blk_alloc ?_ _)); exact BK247.out)) (below_size bel_)); have n2_ := Aside0.mk (blk_below (g := gb229) (o := .cells #[.int .i64 a0_0, .int .i64 a0_1] 24 (0, 0)) blf_ hb); have n3_ := Aside0.mk (blk_below (g := gb230) (o := .cells #[.int .i64 a1_0, .int .i64 a1_1] 24 (0, 0)) blf_ hb); have n4_ := Aside0.mk (blk_below (g := gb241) (o := .cells #[.slice Ao37 x242000_2.length co37, .int .i64 x242001_2, .int .i64 x242002_2] 26 (0, 0)) blf_ hb); have n5_ := Aside0.mk (blk_below (g := gb245) (o := .cells #[.int .i64 t243, .int .i64 t244] 24 (0, 0)) blf_ hb); have n6_ := Aside0.mk (blk_below (g := gb247) (o := .cells #[.int .i64 ((rd_T24 (rd_L2 l2 x33_2) x41_3).f0), .int .i64 ((rd_T24 (rd_L2 l2 x33_2) x41_3).f1)] 24 (0, 0)) (by (with_reducible repeat (first | refine blk_drewN ?_ _ | refine blk_drew ?_ | refine blk_alloc ?_ _)); refine blk_put (cs := #[.int .i64 ((rd_T24 (rd_L2 l2 x33_2) x41_3).f0), .int .i64 0]) ?_ 1 _ rfl; (with_reducible repeat (first | refine blk_drewN ?_ _ | refine blk_drew ?_ | refine blk_alloc ?_ _)); refine blk_put (cs := #[.int .i64 0, .int .i64 0]) ?_ 0 _ rfl; (with_reducible repeat (first | refine blk_drewN ?_ _ | refine blk_drew ?_ | refine blk_alloc ?_ _)); exact BK247.out) hb); have n7_ := Aside0.mk (below_step bel_ hb); clear HO_242000; clear BK229; clear BK230; clear BK241; clear BK245; clear BK247; clear HB; have HO_242000 := n0_; have HO250 := n1_; have BK229 := n2_; have BK230 := n3_; have BK241 := n4_; have BK245 := n5_; have BK247 := n6_; have HB := n7_; clear n0_ n1_ n2_ n3_ n4_ n5_ n6_ n7_; clear hb ho58; obtain ⟨Ao59, co59, eo59⟩ := Kd.R_slice HO250.out; subst eo59) | ((with_reducible refine gate_callee (f := 12) rfl ?_); refine goL_ (some 47) Try.func12 #[.slice Ao59 y248.length co59] ?_; (with_reducible refine (ropewaylaw16_right.calls k3 _ _ y248 true _ ?side1 ?side2 A47.out).mono ?_); (case side1 => repeat (first | exact (Kd.R_reads' HO250.out).2.2 | (with_reducible refine Kd.C_alloc ?_ _) | (with_reducible refine Kd.C_drewN ?_ _) | (with_reducible refine Kd.C_drew ?_))); (case side2 => exact (Kd.R_reads' HO250.out).2.1); rintro e w60 ⟨rfl, hb⟩; refine ⟨_, rfl, ?_⟩; have n0_ := Aside0.mk (Kd.R_below (rl_ HO_242000) hb); have n1_ := Aside0.mk (Kd.R_below (rl_ HO250) hb); have n2_ := Aside0.mk (bb_ BK229 hb); have n3_ := Aside0.mk (bb_ BK230 hb); have n4_ := Aside0.mk (bb_ BK241 hb); have n5_ := Aside0.mk (bb_ BK245 hb); have n6_ := Aside0.mk (bb_ BK247 hb); have n7_ := Aside0.mk (below_step bel_ hb); clear HO_242000; clear HO250; clear BK229; clear BK230; clear BK241; clear BK245; clear BK247; clear HB; have HO_242000 := n0_; have HO250 := n1_; have BK229 := n2_; have BK230 := n3_; have BK241 := n4_; have BK245 := n5_; have BK247 := n6_; have HB := n7_; clear n0_ n1_ n2_ n3_ n4_ n5_ n6_ n7_; (try clear hb); (try clear hb2); (try clear hk); (try clear hi); have hcz61_0 : w60.cell? ⟨gb247, 0, none⟩ = some (.int .i64 ((rd_T24 (rd_L2 l2 x33_2) x41_3).f0)) := (blk_cell BK247.out 0).trans rfl; have hcz61_1 : w60.cell? ⟨gb247, 1, none⟩ = some (.int .i64 ((rd_T24 (rd_L2 l2 x33_2) x41_3).f1)) := (blk_cell BK247.out 1).trans rfl; have hfz61_0 := blk_frozen BK247.out 0; have hfz61_1 := blk_frozen BK247.out 1; have hnb62 := NB245_229.out; have hnc62 := NB229_245.out; have hnb63 := NB245_230.out; have hnc63 := NB230_245.out; have hnb64 := NB245_241.out; have hnc64 := NB241_245.out; have hcz65_0 : w60.cell? ⟨gb245, 0, none⟩ = some (.int .i64 t243) := (blk_cell BK245.out 0).trans rfl; have hcz65_1 : w60.cell? ⟨gb245, 1, none⟩ = some (.int .i64 t244) := (blk_cell BK245.out 1).trans rfl; have hfz65_0 := blk_frozen BK245.out 0; have hfz65_1 := blk_frozen BK245.out 1) | (go_at_call 19; (with_reducible refine (change_Within.calls ((rd_T24 (rd_L2 l2 x33_2) x41_3).f0) ((rd_T24 (rd_L2 l2 x33_2) x41_3).f1) t243 t244 true _ A49.out).mono ?_); rintro e w66 ⟨rfl, hb⟩; have n0_ := Aside0.mk (Kd.R_below (rl_ HO_242000) hb); have n1_ := Aside0.mk (Kd.R_below (rl_ HO250) hb); have n2_ := Aside0.mk (bb_ BK229 hb); have n3_ := Aside0.mk (bb_ BK230 hb); have n4_ := Aside0.mk (bb_ BK241 hb); have n5_ := Aside0.mk (bb_ BK245 hb); have n6_ := Aside0.mk (bb_ BK247 hb); have n7_ := Aside0.mk (below_step bel_ hb); clear HO_242000; clear HO250; clear BK229; clear BK230; clear BK241; clear BK245; clear BK247; clear HB; have HO_242000 := n0_; have HO250 := n1_; have BK229 := n2_; have BK230 := n3_; have BK241 := n4_; have BK245 := n5_; have BK247 := n6_; have HB := n7_; clear n0_ n1_ n2_ n3_ n4_ n5_ n6_ n7_; (try clear hb); (try clear hb2); (try clear hk); (try clear hi)))
            go_ret
            exact ⟨by first | rfl | (simp [errW_none, errW_some] <;> rfl) | (simp [*, errW_none, errW_some] <;> rfl), bel_⟩
          replace c50 := Bool.eq_false_iff.mpr c50
          subst c50
          have H1 : (ropewaylaw16_FrontAims.l1 k3 (rd_L2 l2 x33_2) l2 (l2.length : Int) x33_2 (rd_L2 l2 x33_2) ((rd_L2 l2 x33_2).length : Int) (wrap64 (x41_3 + 1)) x242000_2 x242001_2 x242002_2 t243 t244) = some r := by rw [if_neg (show ¬ (false = true) by decide)] at H; exact H
          clear H
          have H := H1
          clear H1
          have H' := Aside0.mk H
          clear H
          have p246 : 0 ≤ (x41_3 : Int) := of_decide_eq_true (by first | (with_reducible assumption) | assumption)
          have q246 : x41_3 < ((rd_L2 l2 x33_2).length : Int) := of_decide_eq_true (by first | (with_reducible assumption) | assumption)
          obtain ⟨ad246, e246, hx246_0, hx246_1⟩ := at_T24 HR242_0.out x41_3 p246 q246
          cases e246
          replace hx246_0 := (HB.out.cell (World.block_lt_of_cell? w _ hx246_0)).trans hx246_0
          replace hx246_1 := (HB.out.cell (World.block_lt_of_cell? w _ hx246_1)).trans hx246_1
          replace p246 := eq_true p246
          replace q246 := eq_true q246
          go_wp2_with (first | ((with_reducible refine gate_dst (N := 12) rfl ?_); (try (refine gate_guard (by rfl) ?_; dsimp only)); refine box_event ?hg (N := 12) ?hd (cs := #[.int .i64 0, .int .i64 0]) (t := 24) ?hr ?_; (case hd => rfl); (case hg => rfl); (case hr => first | (go_simp; done) | (go_simp; rfl)); intro gb247 hg w67 hbox hb; have n0_ := Aside0.mk (Kd.R_below (Kd.R_elderB (rl_ HO_242000) gb247 (Nat.le_of_eq hg.symm)) hb); have n1_ := Aside0.mk (bb_ BK229 hb); have n2_ := Aside0.mk (bb_ BK230 hb); have n3_ := Aside0.mk (bb_ BK241 hb); have n4_ := Aside0.mk (bb_ BK245 hb); have n5_ := Aside0.mk (below_step bel_ hb); have n6_ := Aside0.mk (hbox); have n7_ := Aside0.mk (bs_ hg); have n8_ := Aside0.mk (bs_ hg); have n9_ := Aside0.mk (nl_ BK229 hg); have n10_ := Aside0.mk (ng_ BK229 hg); have n11_ := Aside0.mk (nl_ BK230 hg); have n12_ := Aside0.mk (ng_ BK230 hg); have n13_ := Aside0.mk (nl_ BK241 hg); have n14_ := Aside0.mk (ng_ BK241 hg); have n15_ := Aside0.mk (nl_ BK245 hg); have n16_ := Aside0.mk (ng_ BK245 hg); clear HO_242000; clear BK229; clear BK230; clear BK241; clear BK245; clear HB; have HO_242000 := n0_; have BK229 := n1_; have BK230 := n2_; have BK241 := n3_; have BK245 := n4_; have HB := n5_; have BK247 := n6_; have GW247 := n7_; have GE247 := n8_; have NB229_247 := n9_; have NB247_229 := n10_; have NB230_247 := n11_; have NB247_230 := n12_; have NB241_247 := n13_; have NB247_241 := n14_; have NB245_247 := n15_; have NB247_245 := n16_; clear n0_ n1_ n2_ n3_ n4_ n5_ n6_ n7_ n8_ n9_ n10_ n11_ n12_ n13_ n14_ n15_ n16_; clear hb hbox hg; have hnb68 := NB247_229.out; have hnc68 := NB229_247.out; have hnb69 := NB247_230.out; have hnc69 := NB230_247.out; have hnb70 := NB247_241.out; have hnc70 := NB241_247.out; have hnb71 := NB247_245.out; have hnc71 := NB245_247.out; have hcz72_0 : w67.cell? ⟨gb247, 0, none⟩ = some (.int .i64 0) := (blk_cell BK247.out 0).trans rfl; have hcz72_1 : w67.cell? ⟨gb247, 1, none⟩ = some (.int .i64 0) := (blk_cell BK247.out 1).trans rfl; have hfz72_0 := blk_frozen BK247.out 0; have hfz72_1 := blk_frozen BK247.out 1) | ((with_reducible refine gate_dst (N := 46) rfl ?_); (try (refine gate_guard (by rfl) ?_; dsimp only)); refine Kd.R_lit k24 _ 24 ?hg (N := 46) ?hd (xs := ([(⟨(rd_T24 (rd_L2 l2 x33_2) x41_3).f0, (rd_T24 (rd_L2 l2 x33_2) x41_3).f1⟩ : S24)] : List (S24))) (inner := [.int .i64 ((rd_T24 (rd_L2 l2 x33_2) x41_3).f0), .int .i64 ((rd_T24 (rd_L2 l2 x33_2) x41_3).f1)]) (ok := fun _ => True) (okp := fun _ => True) ?hr ?hp (fun _ hk => hk) trivial (Below.refl _ _) (Nat.le_refl _) (by simp) ?_; (case hd => rfl); (case hg => rfl); (case hr => first | (go_simp; done) | (go_simp; rfl)); (case hp => exact (Reps.c2 (show Kd.M k24 _ _ _ (⟨(rd_T24 (rd_L2 l2 x33_2) x41_3).f0, (rd_T24 (rd_L2 l2 x33_2) x41_3).f1⟩ : S24) [.int .i64 ((rd_T24 (rd_L2 l2 x33_2) x41_3).f0), .int .i64 ((rd_T24 (rd_L2 l2 x33_2) x41_3).f1)] from (k24_mkM _ _ _ (⟨(rd_T24 (rd_L2 l2 x33_2) x41_3).f0, (rd_T24 (rd_L2 l2 x33_2) x41_3).f1⟩ : S24) )) (Reps.none _ _))); intro v249 w73 ho74 hb hg_ hnew_; clear hg_ hnew_; (first | rw [← Ny248.out] at ho74 | (simp only [Int.reduceToNat] at ho74; rw [← Ny248.out] at ho74)); have n0_ := Aside0.mk (Kd.R_elder' (by (with_reducible repeat (first | apply Kd.R_alloc | apply Kd.R_drewN | apply Kd.R_drew)); exact (Kd.R_mono (Kd.R_far (p := ⟨gb247, 1, none⟩) (Kd.R_far (p := ⟨gb247, 0, none⟩) (Kd.R_mono HO_242000.out (fun k_ hk => (⟨hk, hk.2⟩ : _ ∧ k_ ≠ gb247))) (fun _ hk => hk.2) (.int .i64 ((rd_T24 (rd_L2 l2 x33_2) x41_3).f0))) (fun _ hk => hk.2) (.int .i64 ((rd_T24 (rd_L2 l2 x33_2) x41_3).f1))) (fun _ h_ => h_.1))) (Kd.R_base ho74) hb); have n1_ := Aside0.mk (Kd.R_lower (Kd.R_newB (Kd.R_newB (Kd.R_newB (Kd.R_newB (Kd.R_new' ho74 (Kd.R_lt (by (with_reducible repeat (first | apply Kd.R_alloc | apply Kd.R_drewN | apply Kd.R_drew)); exact (Kd.R_mono (Kd.R_far (p := ⟨gb247, 1, none⟩) (Kd.R_far (p := ⟨gb247, 0, none⟩) (Kd.R_mono HO_242000.out (fun k_ hk => (⟨hk, hk.2⟩ : _ ∧ k_ ≠ gb247))) (fun _ hk => hk.2) (.int .i64 ((rd_T24 (rd_L2 l2 x33_2) x41_3).f0))) (fun _ hk => hk.2) (.int .i64 ((rd_T24 (rd_L2 l2 x33_2) x41_3).f1))) (fun _ h_ => h_.1))))) (g := gb229) (o := .cells #[.int .i64 a0_0, .int .i64 a0_1] 24 (0, 0)) blf_) (g := gb230) (o := .cells #[.int .i64 a1_0, .int .i64 a1_1] 24 (0, 0)) blf_) (g := gb245) (o := .cells #[.int .i64 t243, .int .i64 t244] 24 (0, 0)) blf_) (g := gb247) (o := .cells #[.int .i64 ((rd_T24 (rd_L2 l2 x33_2) x41_3).f0), .int .i64 ((rd_T24 (rd_L2 l2 x33_2) x41_3).f1)] 24 (0, 0)) (by (with_reducible repeat (first | refine blk_drewN ?_ _ | refine blk_drew ?_ | refine blk_alloc ?_ _)); refine blk_put (cs := #[.int .i64 ((rd_T24 (rd_L2 l2 x33_2) x41_3).f0), .int .i64 0]) ?_ 1 _ rfl; (with_reducible repeat (first | refine blk_drewN ?_ _ | refine blk_drew ?_ | refine blk_alloc ?_ _)); refine blk_put (cs := #[.int .i64 0, .int .i64 0]) ?_ 0 _ rfl; (with_reducible repeat (first | refine blk_drewN ?_ _ | refine blk_drew ?_ | refine blk_alloc ?_ _)); exact BK247.out)) (below_size bel_)); have n2_ := Aside0.mk (blk_below (g := gb229) (o := .cells #[.int .i64 a0_0, .int .i64 a0_1] 24 (0, 0)) blf_ hb); have n3_ := Aside0.mk (blk_below (g := gb230) (o := .cells #[.int .i64 a1_0, .int .i64 a1_1] 24 (0, 0)) blf_ hb); have n4_ := Aside0.mk (blk_below (g := gb241) (o := .cells #[.slice Ao37 x242000_2.length co37, .int .i64 x242001_2, .int .i64 x242002_2] 26 (0, 0)) blf_ hb); have n5_ := Aside0.mk (blk_below (g := gb245) (o := .cells #[.int .i64 t243, .int .i64 t244] 24 (0, 0)) blf_ hb); have n6_ := Aside0.mk (blk_below (g := gb247) (o := .cells #[.int .i64 ((rd_T24 (rd_L2 l2 x33_2) x41_3).f0), .int .i64 ((rd_T24 (rd_L2 l2 x33_2) x41_3).f1)] 24 (0, 0)) (by (with_reducible repeat (first | refine blk_drewN ?_ _ | refine blk_drew ?_ | refine blk_alloc ?_ _)); refine blk_put (cs := #[.int .i64 ((rd_T24 (rd_L2 l2 x33_2) x41_3).f0), .int .i64 0]) ?_ 1 _ rfl; (with_reducible repeat (first | refine blk_drewN ?_ _ | refine blk_drew ?_ | refine blk_alloc ?_ _)); refine blk_put (cs := #[.int .i64 0, .int .i64 0]) ?_ 0 _ rfl; (with_reducible repeat (first | refine blk_drewN ?_ _ | refine blk_drew ?_ | refine blk_alloc ?_ _)); exact BK247.out) hb); have n7_ := Aside0.mk (below_step bel_ hb); clear HO_242000; clear BK229; clear BK230; clear BK241; clear BK245; clear BK247; clear HB; have HO_242000 := n0_; have HO250 := n1_; have BK229 := n2_; have BK230 := n3_; have BK241 := n4_; have BK245 := n5_; have BK247 := n6_; have HB := n7_; clear n0_ n1_ n2_ n3_ n4_ n5_ n6_ n7_; clear hb ho74; obtain ⟨Ao75, co75, eo75⟩ := Kd.R_slice HO250.out; subst eo75) | ((with_reducible refine gate_callee (f := 12) rfl ?_); refine goL_ (some 47) Try.func12 #[.slice Ao75 y248.length co75] ?_; (with_reducible refine (ropewaylaw16_right.calls k3 _ _ y248 true _ ?side1 ?side2 A47.out).mono ?_); (case side1 => repeat (first | exact (Kd.R_reads' HO250.out).2.2 | (with_reducible refine Kd.C_alloc ?_ _) | (with_reducible refine Kd.C_drewN ?_ _) | (with_reducible refine Kd.C_drew ?_))); (case side2 => exact (Kd.R_reads' HO250.out).2.1); rintro e w76 ⟨rfl, hb⟩; refine ⟨_, rfl, ?_⟩; have n0_ := Aside0.mk (Kd.R_below (rl_ HO_242000) hb); have n1_ := Aside0.mk (Kd.R_below (rl_ HO250) hb); have n2_ := Aside0.mk (bb_ BK229 hb); have n3_ := Aside0.mk (bb_ BK230 hb); have n4_ := Aside0.mk (bb_ BK241 hb); have n5_ := Aside0.mk (bb_ BK245 hb); have n6_ := Aside0.mk (bb_ BK247 hb); have n7_ := Aside0.mk (below_step bel_ hb); clear HO_242000; clear HO250; clear BK229; clear BK230; clear BK241; clear BK245; clear BK247; clear HB; have HO_242000 := n0_; have HO250 := n1_; have BK229 := n2_; have BK230 := n3_; have BK241 := n4_; have BK245 := n5_; have BK247 := n6_; have HB := n7_; clear n0_ n1_ n2_ n3_ n4_ n5_ n6_ n7_; (try clear hb); (try clear hb2); (try clear hk); (try clear hi); have hcz77_0 : w76.cell? ⟨gb247, 0, none⟩ = some (.int .i64 ((rd_T24 (rd_L2 l2 x33_2) x41_3).f0)) := (blk_cell BK247.out 0).trans rfl; have hcz77_1 : w76.cell? ⟨gb247, 1, none⟩ = some (.int .i64 ((rd_T24 (rd_L2 l2 x33_2) x41_3).f1)) := (blk_cell BK247.out 1).trans rfl; have hfz77_0 := blk_frozen BK247.out 0; have hfz77_1 := blk_frozen BK247.out 1; have hnb78 := NB245_229.out; have hnc78 := NB229_245.out; have hnb79 := NB245_230.out; have hnc79 := NB230_245.out; have hnb80 := NB245_241.out; have hnc80 := NB241_245.out; have hcz81_0 : w76.cell? ⟨gb245, 0, none⟩ = some (.int .i64 t243) := (blk_cell BK245.out 0).trans rfl; have hcz81_1 : w76.cell? ⟨gb245, 1, none⟩ = some (.int .i64 t244) := (blk_cell BK245.out 1).trans rfl; have hfz81_0 := blk_frozen BK245.out 0; have hfz81_1 := blk_frozen BK245.out 1) | (go_at_call 19; (with_reducible refine (change_Within.calls ((rd_T24 (rd_L2 l2 x33_2) x41_3).f0) ((rd_T24 (rd_L2 l2 x33_2) x41_3).f1) t243 t244 false _ A49.out).mono ?_); rintro e w82 ⟨rfl, hb⟩; have n0_ := Aside0.mk (Kd.R_below (rl_ HO_242000) hb); have n1_ := Aside0.mk (Kd.R_below (rl_ HO250) hb); have n2_ := Aside0.mk (bb_ BK229 hb); have n3_ := Aside0.mk (bb_ BK230 hb); have n4_ := Aside0.mk (bb_ BK241 hb); have n5_ := Aside0.mk (bb_ BK245 hb); have n6_ := Aside0.mk (bb_ BK247 hb); have n7_ := Aside0.mk (below_step bel_ hb); clear HO_242000; clear HO250; clear BK229; clear BK230; clear BK241; clear BK245; clear BK247; clear HB; have HO_242000 := n0_; have HO250 := n1_; have BK229 := n2_; have BK230 := n3_; have BK241 := n4_; have BK245 := n5_; have BK247 := n6_; have HB := n7_; clear n0_ n1_ n2_ n3_ n4_ n5_ n6_ n7_; (try clear hb); (try clear hb2); (try clear hk); (try clear hi)))
          go_roundg k3
          case measure => have := HJ5.out; have := HK2.out; have := HK3.out; omega
          case rel => exact ⟨(wrap64 (x41_3 + 1)), (by first | rfl | (simp; done) | (simp [*]; done) | (simp; grind)), H', ⟨by have := HJ5.out; have := HK2.out; have := HK3.out; omega⟩, ⟨by (with_reducible repeat (first | apply Kd.R_alloc | apply Kd.R_drewN | apply Kd.R_drew)); exact Kd.R_mono HO_242000.out (fun _ hk => ⟨hk.1.1.1, ⟨hk.1.1.2.1, hk.1.1.2.2⟩⟩)⟩, ⟨blf_⟩, ⟨blf_⟩, ⟨blf_⟩, ⟨blf_⟩, ⟨bel_⟩⟩
        rw [if_neg c44] at H
        have c44b0 : decide (x41_3 < ((rd_L2 l2 x33_2).length : Int)) = false := decide_eq_false c44
        clear c44
        replace H := Option.bind_eq_some_iff.mp H
        obtain ⟨⟨t253, t256, t257⟩, A930, H⟩ := H
        replace H : ((change_Within.f x242001_2 x242002_2 t256 t257).bind fun t259 => (if t259 = true then ((front_Least.f t253 t256 t257).bind fun bt260 => ((change_Size.f bt260.1 bt260.2).bind fun t262 => ((change_Size.f t243 t244).bind fun t263 => (if t262 < t263 then (ropewaylaw16_FrontAims.j3 k3 l2 (l2.length : Int) x33_2 true t253 t256 t257) else (if (t253.length : Int) = 0 then (ropewaylaw16_FrontAims.j3 k3 l2 (l2.length : Int) x33_2 true t253 t256 t257) else (if ((rd_L2 l2 x33_2).length : Int) > 0 then ((front_Least.f t253 t256 t257).bind fun bt264 => (ropewaylaw16_FrontAims.j3 k3 l2 (l2.length : Int) x33_2 (bt264.1 == t243 && (bt264.2 == t244)) t253 t256 t257)) else (ropewaylaw16_FrontAims.j3 k3 l2 (l2.length : Int) x33_2 false t253 t256 t257))))))) else (ropewaylaw16_FrontAims.j3 k3 l2 (l2.length : Int) x33_2 true t253 t256 t257))) = some r := H
        have A93 := Aside0.mk A930
        clear A930
        have HC94 := Aside0.mk H
        clear H
        have hnb95 := NB241_229.out
        have hnc95 := NB229_241.out
        have hnb96 := NB241_230.out
        have hnc96 := NB230_241.out
        have hnb97 := NB241_245.out
        have hnc97 := NB245_241.out
        have hcz98_0 : wr.cell? ⟨gb241, 0, none⟩ = some (.slice Ao37 x242000_2.length co37) := (blk_cell BK241.out 0).trans rfl
        have hcz98_1 : wr.cell? ⟨gb241, 1, none⟩ = some (.int .i64 x242001_2) := (blk_cell BK241.out 1).trans rfl
        have hcz98_2 : wr.cell? ⟨gb241, 2, none⟩ = some (.int .i64 x242002_2) := (blk_cell BK241.out 2).trans rfl
        have hfz98_0 := blk_frozen BK241.out 0
        have hfz98_1 := blk_frozen BK241.out 1
        have hfz98_2 := blk_frozen BK241.out 2
        have hnb99 := NB245_229.out
        have hnc99 := NB229_245.out
        have hnb100 := NB245_230.out
        have hnc100 := NB230_245.out
        have hcz101_0 : wr.cell? ⟨gb245, 0, none⟩ = some (.int .i64 t243) := (blk_cell BK245.out 0).trans rfl
        have hcz101_1 : wr.cell? ⟨gb245, 1, none⟩ = some (.int .i64 t244) := (blk_cell BK245.out 1).trans rfl
        have hfz101_0 := blk_frozen BK245.out 0
        have hfz101_1 := blk_frozen BK245.out 1
        go_upto_region 17 with (first | ((with_reducible refine gate_callee (f := 14) rfl ?_); refine goL_ (some 58) Try.func14 #[.agg #[.slice Ao37 x242000_2.length co37, .int .i64 x242001_2, .int .i64 x242002_2], .agg #[.int .i64 t243, .int .i64 t244], .slice A242_0 (rd_L2 l2 x33_2).length c242_0] ?_; (with_reducible refine (front_Step.calls k3 _ _ x242000_2 x242001_2 x242002_2 t243 t244 _ _ (rd_L2 l2 x33_2) t253 t256 t257 _ ?side1 ?side2 ?side3 ?side4 A93.out).mono ?_); (case side1 => repeat (first | exact (Kd.R_reads' HO_242000.out).2.2 | (with_reducible refine Kd.C_alloc ?_ _) | (with_reducible refine Kd.C_drewN ?_ _) | (with_reducible refine Kd.C_drew ?_))); (case side2 => exact (Kd.R_reads' HO_242000.out).2.1); (case side3 => repeat (first | exact (Kd.C_below HR242_0.out HB.out) | (with_reducible refine Kd.C_alloc ?_ _) | (with_reducible refine Kd.C_drewN ?_ _) | (with_reducible refine Kd.C_drew ?_))); (case side4 => exact HC242_0.out); rintro e w102 ⟨v254, rfl, ho0, hb⟩; refine ⟨_, rfl, ?_⟩; have n0_ := Aside0.mk (Kd.R_elder' (rl_ HO_242000) (Kd.R_base ho0) hb); have n1_ := Aside0.mk (Kd.R_lower (Kd.R_newB (Kd.R_newB (Kd.R_newB (Kd.R_new' ho0 (Kd.R_lt (rl_ HO_242000))) (g := gb229) (o := .cells #[.int .i64 a0_0, .int .i64 a0_1] 24 (0, 0)) blk_) (g := gb230) (o := .cells #[.int .i64 a1_0, .int .i64 a1_1] 24 (0, 0)) blk_) (g := gb245) (o := .cells #[.int .i64 t243, .int .i64 t244] 24 (0, 0)) blk_) (below_size bel_)); have n2_ := Aside0.mk (bb_ BK229 hb); have n3_ := Aside0.mk (bb_ BK230 hb); have n4_ := Aside0.mk (bb_ BK241 hb); have n5_ := Aside0.mk (bb_ BK245 hb); have n6_ := Aside0.mk (below_step bel_ hb); clear HO_242000; clear BK229; clear BK230; clear BK241; clear BK245; clear HB; have HO_242000 := n0_; have HO255 := n1_; have BK229 := n2_; have BK230 := n3_; have BK241 := n4_; have BK245 := n5_; have HB := n6_; clear n0_ n1_ n2_ n3_ n4_ n5_ n6_; (try clear hb); (try clear hb2); (try clear hk); (try clear hi); (try clear ho0)) | ((with_reducible refine gate_dst (N := 13) rfl ?_); (try (refine gate_guard (by rfl) ?_; dsimp only)); refine box_event ?hg (N := 13) ?hd (cs := #[.slice none 0 0, .int .i64 0, .int .i64 0]) (t := 26) ?hr ?_; (case hd => rfl); (case hg => rfl); (case hr => first | (go_simp; done) | (go_simp; rfl)); intro gb258 hg w103 hbox hb; have n0_ := Aside0.mk (Kd.R_below (rl_ HO_242000) hb); have n1_ := Aside0.mk (Kd.R_below (rl_ HO255) hb); have n2_ := Aside0.mk (bb_ BK229 hb); have n3_ := Aside0.mk (bb_ BK230 hb); have n4_ := Aside0.mk (bb_ BK241 hb); have n5_ := Aside0.mk (bb_ BK245 hb); have n6_ := Aside0.mk (below_step bel_ hb); have n7_ := Aside0.mk (hbox); have n8_ := Aside0.mk (bs_ hg); have n9_ := Aside0.mk (bs_ hg); have n10_ := Aside0.mk (nl_ BK229 hg); have n11_ := Aside0.mk (ng_ BK229 hg); have n12_ := Aside0.mk (nl_ BK230 hg); have n13_ := Aside0.mk (ng_ BK230 hg); have n14_ := Aside0.mk (nl_ BK241 hg); have n15_ := Aside0.mk (ng_ BK241 hg); have n16_ := Aside0.mk (nl_ BK245 hg); have n17_ := Aside0.mk (ng_ BK245 hg); clear HO_242000; clear HO255; clear BK229; clear BK230; clear BK241; clear BK245; clear HB; have HO_242000 := n0_; have HO255 := n1_; have BK229 := n2_; have BK230 := n3_; have BK241 := n4_; have BK245 := n5_; have HB := n6_; have BK258 := n7_; have GW258 := n8_; have GE258 := n9_; have NB229_258 := n10_; have NB258_229 := n11_; have NB230_258 := n12_; have NB258_230 := n13_; have NB241_258 := n14_; have NB258_241 := n15_; have NB245_258 := n16_; have NB258_245 := n17_; clear n0_ n1_ n2_ n3_ n4_ n5_ n6_ n7_ n8_ n9_ n10_ n11_ n12_ n13_ n14_ n15_ n16_ n17_; clear hb hbox hg; obtain ⟨Ao104, co104, eo104⟩ := Kd.R_slice HO255.out; subst eo104; have hnb105 := NB258_229.out; have hnc105 := NB229_258.out; have hnb106 := NB258_230.out; have hnc106 := NB230_258.out; have hnb107 := NB258_241.out; have hnc107 := NB241_258.out; have hnb108 := NB258_245.out; have hnc108 := NB245_258.out; have hcz109_0 : w103.cell? ⟨gb258, 0, none⟩ = some (.slice none 0 0) := (blk_cell BK258.out 0).trans rfl; have hcz109_1 : w103.cell? ⟨gb258, 1, none⟩ = some (.int .i64 0) := (blk_cell BK258.out 1).trans rfl; have hcz109_2 : w103.cell? ⟨gb258, 2, none⟩ = some (.int .i64 0) := (blk_cell BK258.out 2).trans rfl; have hfz109_0 := blk_frozen BK258.out 0; have hfz109_1 := blk_frozen BK258.out 1; have hfz109_2 := blk_frozen BK258.out 2))
        (try simp only [Act.put, List.setIfInBounds_toArray, List.set_cons_zero, List.set_cons_succ])
        go_cut [89] (fun v89 wc => ∃ (kq : Nat) (x89_93 : Bool), v89 = .bool x89_93 ∧ Aside0 (ropewaylaw16_FrontAims.j3 kq l2 (l2.length : Int) x33_2 x89_93 t253 t256 t257 = some r) ∧ Aside0 (kq ≤ k3) ∧ Aside0 (Kd.R k24 24 wc w.heap.size (fun k_ => some k_ ≠ ((.slice Ao104 t253.length co104) : Value).ownBlock ∧ k_ ≠ gb229 ∧ k_ ≠ gb230 ∧ k_ ≠ gb245) (.slice Ao37 x242000_2.length co37) x242000_2) ∧ Aside0 (Kd.R k24 24 wc w.heap.size (fun k_ => some k_ ≠ ((.slice Ao37 x242000_2.length co37) : Value).ownBlock ∧ k_ ≠ gb229 ∧ k_ ≠ gb230 ∧ k_ ≠ gb245) (.slice Ao104 t253.length co104) t253) ∧ Aside0 (wc.heap[gb229]? = some (.cells #[.int .i64 a0_0, .int .i64 a0_1] 24 (0, 0))) ∧ Aside0 (wc.heap[gb230]? = some (.cells #[.int .i64 a1_0, .int .i64 a1_1] 24 (0, 0))) ∧ Aside0 (wc.heap[gb241]? = some (.cells #[(.slice Ao37 x242000_2.length co37), .int .i64 x242001_2, .int .i64 x242002_2] 26 (0, 0))) ∧ Aside0 (wc.heap[gb245]? = some (.cells #[.int .i64 t243, .int .i64 t244] 24 (0, 0))) ∧ Aside0 (wc.heap[gb258]? = some (.cells #[(.slice Ao104 t253.length co104), .int .i64 t256, .int .i64 t257] 26 (0, 0))) ∧ Aside0 (Below w.heap.size w wc))
        case first =>
         have H := HC94.out
         clear HC94
         replace H := Option.bind_eq_some_iff.mp H
         obtain ⟨t259, A1100, H⟩ := H
         replace H : (if t259 = true then ((front_Least.f t253 t256 t257).bind fun bt260 => ((change_Size.f bt260.1 bt260.2).bind fun t262 => ((change_Size.f t243 t244).bind fun t263 => (if t262 < t263 then (ropewaylaw16_FrontAims.j3 k3 l2 (l2.length : Int) x33_2 true t253 t256 t257) else (if (t253.length : Int) = 0 then (ropewaylaw16_FrontAims.j3 k3 l2 (l2.length : Int) x33_2 true t253 t256 t257) else (if ((rd_L2 l2 x33_2).length : Int) > 0 then ((front_Least.f t253 t256 t257).bind fun bt264 => (ropewaylaw16_FrontAims.j3 k3 l2 (l2.length : Int) x33_2 (bt264.1 == t243 && (bt264.2 == t244)) t253 t256 t257)) else (ropewaylaw16_FrontAims.j3 k3 l2 (l2.length : Int) x33_2 false t253 t256 t257))))))) else (ropewaylaw16_FrontAims.j3 k3 l2 (l2.length : Int) x33_2 true t253 t256 t257)) = some r := H
         have A110 := Aside0.mk A1100
         clear A1100
         by_cases c111 : t259 = true
         rotate_left
         · replace c111 := Bool.eq_false_iff.mpr c111
           subst c111
           have H1 : (ropewaylaw16_FrontAims.j3 k3 l2 (l2.length : Int) x33_2 true t253 t256 t257) = some r := by rw [if_neg (show ¬ (false = true) by decide)] at H; exact H
           clear H
           have H := H1
           clear H1
           have hr1 := hr1_.out
           subst hr1
           (cases k3) <;> simp [ropewaylaw16_FrontAims.j3] at H
         subst c111
         have H1 : ((front_Least.f t253 t256 t257).bind fun bt260 => ((change_Size.f bt260.1 bt260.2).bind fun t262 => ((change_Size.f t243 t244).bind fun t263 => (if t262 < t263 then (ropewaylaw16_FrontAims.j3 k3 l2 (l2.length : Int) x33_2 true t253 t256 t257) else (if (t253.length : Int) = 0 then (ropewaylaw16_FrontAims.j3 k3 l2 (l2.length : Int) x33_2 true t253 t256 t257) else (if ((rd_L2 l2 x33_2).length : Int) > 0 then ((front_Least.f t253 t256 t257).bind fun bt264 => (ropewaylaw16_FrontAims.j3 k3 l2 (l2.length : Int) x33_2 (bt264.1 == t243 && (bt264.2 == t244)) t253 t256 t257)) else (ropewaylaw16_FrontAims.j3 k3 l2 (l2.length : Int) x33_2 false t253 t256 t257))))))) = some r := by rw [if_pos rfl] at H; exact H
         clear H
         have H := H1
         clear H1
         replace H := Option.bind_eq_some_iff.mp H
         obtain ⟨⟨t260, t261⟩, A1120, H⟩ := H
         replace H : ((change_Size.f t260 t261).bind fun t262 => ((change_Size.f t243 t244).bind fun t263 => (if t262 < t263 then (ropewaylaw16_FrontAims.j3 k3 l2 (l2.length : Int) x33_2 true t253 t256 t257) else (if (t253.length : Int) = 0 then (ropewaylaw16_FrontAims.j3 k3 l2 (l2.length : Int) x33_2 true t253 t256 t257) else (if ((rd_L2 l2 x33_2).length : Int) > 0 then ((front_Least.f t253 t256 t257).bind fun bt264 => (ropewaylaw16_FrontAims.j3 k3 l2 (l2.length : Int) x33_2 (bt264.1 == t243 && (bt264.2 == t244)) t253 t256 t257)) else (ropewaylaw16_FrontAims.j3 k3 l2 (l2.length : Int) x33_2 false t253 t256 t257)))))) = some r := H
         have A112 := Aside0.mk A1120
         clear A1120
         replace H := Option.bind_eq_some_iff.mp H
         obtain ⟨t262, A1130, H⟩ := H
         replace H : ((change_Size.f t243 t244).bind fun t263 => (if t262 < t263 then (ropewaylaw16_FrontAims.j3 k3 l2 (l2.length : Int) x33_2 true t253 t256 t257) else (if (t253.length : Int) = 0 then (ropewaylaw16_FrontAims.j3 k3 l2 (l2.length : Int) x33_2 true t253 t256 t257) else (if ((rd_L2 l2 x33_2).length : Int) > 0 then ((front_Least.f t253 t256 t257).bind fun bt264 => (ropewaylaw16_FrontAims.j3 k3 l2 (l2.length : Int) x33_2 (bt264.1 == t243 && (bt264.2 == t244)) t253 t256 t257)) else (ropewaylaw16_FrontAims.j3 k3 l2 (l2.length : Int) x33_2 false t253 t256 t257))))) = some r := H
         have A113 := Aside0.mk A1130
         clear A1130
         replace H := Option.bind_eq_some_iff.mp H
         obtain ⟨t263, A1140, H⟩ := H
         replace H : (if t262 < t263 then (ropewaylaw16_FrontAims.j3 k3 l2 (l2.length : Int) x33_2 true t253 t256 t257) else (if (t253.length : Int) = 0 then (ropewaylaw16_FrontAims.j3 k3 l2 (l2.length : Int) x33_2 true t253 t256 t257) else (if ((rd_L2 l2 x33_2).length : Int) > 0 then ((front_Least.f t253 t256 t257).bind fun bt264 => (ropewaylaw16_FrontAims.j3 k3 l2 (l2.length : Int) x33_2 (bt264.1 == t243 && (bt264.2 == t244)) t253 t256 t257)) else (ropewaylaw16_FrontAims.j3 k3 l2 (l2.length : Int) x33_2 false t253 t256 t257)))) = some r := H
         have A114 := Aside0.mk A1140
         clear A1140
         by_cases c115 : t262 < t263
         · rw [if_pos c115] at H
           have c115b0 : decide (t262 < t263) = true := decide_eq_true c115
           clear c115
           (first | rw [c115b0] | (simp only [i64_w, i32_w]; rw [c115b0]) | skip)
           have hr1 := hr1_.out
           subst hr1
           (cases k3) <;> simp [ropewaylaw16_FrontAims.j3] at H
         rw [if_neg c115] at H
         have c115b0 : decide (t262 < t263) = false := decide_eq_false c115
         clear c115
         (first | rw [c115b0] | (simp only [i64_w, i32_w]; rw [c115b0]) | skip)
         by_cases c116 : (t253.length : Int) = 0
         · rw [if_pos c116] at H
           have c116b0 : ((t253.length : Int) == 0) = true := beq_iff_eq.mpr c116
           have c116b1 : ((t253.length : Int) != 0) = false := bne_eq_false_iff_eq.mpr c116
           clear c116
           have hr1 := hr1_.out
           subst hr1
           (cases k3) <;> simp [ropewaylaw16_FrontAims.j3] at H
         rw [if_neg c116] at H
         have c116b0 : ((t253.length : Int) == 0) = false := beq_eq_false_iff_ne.mpr c116
         have c116b1 : ((t253.length : Int) != 0) = true := bne_iff_ne.mpr c116
         have c116b2 : ¬ (t253 = []) := fun h_ => c116 (by rw [h_]; rfl)
         by_cases c117 : ((rd_L2 l2 x33_2).length : Int) > 0
         rotate_left
         · rw [if_neg c117] at H
           have c117b0 : decide (0 < ((rd_L2 l2 x33_2).length : Int)) = false := decide_eq_false c117
           have c117b1 : decide (0 < (rd_L2 l2 x33_2).length) = false := decide_eq_false (by omega)
           clear c117
           have H' := Aside0.mk H
           clear H
           try go_wp2
           have n0_ : Aside0 (Kd.R k24 24 (((w103.setCell ⟨gb258, 0, none⟩ (.slice Ao104 t253.length co104)).setCell ⟨gb258, 1, none⟩ (.int .i64 t256)).setCell ⟨gb258, 2, none⟩ (.int .i64 t257)) w.heap.size (fun k_ => some k_ ≠ (.slice Ao104 t253.length co104 : Value).ownBlock ∧ k_ ≠ gb229 ∧ k_ ≠ gb230 ∧ k_ ≠ gb245) (.slice Ao37 x242000_2.length co37) x242000_2) := ⟨by (with_reducible repeat (first | apply Kd.R_alloc | apply Kd.R_drewN | apply Kd.R_drew)); exact Kd.R_mono (Kd.R_far (p := ⟨gb258, 2, none⟩) (Kd.R_far (p := ⟨gb258, 1, none⟩) (Kd.R_far (p := ⟨gb258, 0, none⟩) (Kd.R_types HO_242000.out BK258.out (by decide)) (fun _ hk => hk.2) (.slice Ao104 t253.length co104)) (fun _ hk => hk.2) (.int .i64 t256)) (fun _ hk => hk.2) (.int .i64 t257)) (fun _ hk => ⟨hk.1.2, ⟨hk.1.1.1, ⟨hk.1.1.2.1, hk.1.1.2.2⟩⟩⟩)⟩
           have n1_ : Aside0 (Kd.R k24 24 (((w103.setCell ⟨gb258, 0, none⟩ (.slice Ao104 t253.length co104)).setCell ⟨gb258, 1, none⟩ (.int .i64 t256)).setCell ⟨gb258, 2, none⟩ (.int .i64 t257)) w.heap.size (fun k_ => some k_ ≠ (.slice Ao37 x242000_2.length co37 : Value).ownBlock ∧ k_ ≠ gb229 ∧ k_ ≠ gb230 ∧ k_ ≠ gb245) (.slice Ao104 t253.length co104) t253) := ⟨by (with_reducible repeat (first | apply Kd.R_alloc | apply Kd.R_drewN | apply Kd.R_drew)); exact Kd.R_mono (Kd.R_far (p := ⟨gb258, 2, none⟩) (Kd.R_far (p := ⟨gb258, 1, none⟩) (Kd.R_far (p := ⟨gb258, 0, none⟩) (Kd.R_types HO255.out BK258.out (by decide)) (fun _ hk => hk.2) (.slice Ao104 t253.length co104)) (fun _ hk => hk.2) (.int .i64 t256)) (fun _ hk => hk.2) (.int .i64 t257)) (fun _ hk => ⟨hk.1.1.1.1.2, ⟨hk.1.1.1.2, ⟨hk.1.1.2, hk.1.2⟩⟩⟩)⟩
           have n2_ : Aside0 ((((w103.setCell ⟨gb258, 0, none⟩ (.slice Ao104 t253.length co104)).setCell ⟨gb258, 1, none⟩ (.int .i64 t256)).setCell ⟨gb258, 2, none⟩ (.int .i64 t257)).heap[gb229]? = some (.cells #[.int .i64 a0_0, .int .i64 a0_1] 24 (0, 0))) := ⟨blf_⟩
           have n3_ : Aside0 ((((w103.setCell ⟨gb258, 0, none⟩ (.slice Ao104 t253.length co104)).setCell ⟨gb258, 1, none⟩ (.int .i64 t256)).setCell ⟨gb258, 2, none⟩ (.int .i64 t257)).heap[gb230]? = some (.cells #[.int .i64 a1_0, .int .i64 a1_1] 24 (0, 0))) := ⟨blf_⟩
           have n4_ : Aside0 ((((w103.setCell ⟨gb258, 0, none⟩ (.slice Ao104 t253.length co104)).setCell ⟨gb258, 1, none⟩ (.int .i64 t256)).setCell ⟨gb258, 2, none⟩ (.int .i64 t257)).heap[gb241]? = some (.cells #[.slice Ao37 x242000_2.length co37, .int .i64 x242001_2, .int .i64 x242002_2] 26 (0, 0))) := ⟨blf_⟩
           have n5_ : Aside0 ((((w103.setCell ⟨gb258, 0, none⟩ (.slice Ao104 t253.length co104)).setCell ⟨gb258, 1, none⟩ (.int .i64 t256)).setCell ⟨gb258, 2, none⟩ (.int .i64 t257)).heap[gb245]? = some (.cells #[.int .i64 t243, .int .i64 t244] 24 (0, 0))) := ⟨blf_⟩
           have n6_ : Aside0 ((((w103.setCell ⟨gb258, 0, none⟩ (.slice Ao104 t253.length co104)).setCell ⟨gb258, 1, none⟩ (.int .i64 t256)).setCell ⟨gb258, 2, none⟩ (.int .i64 t257)).heap[gb258]? = some (.cells #[.slice Ao104 t253.length co104, .int .i64 t256, .int .i64 t257] 26 (0, 0))) := ⟨by (with_reducible repeat (first | refine blk_drewN ?_ _ | refine blk_drew ?_ | refine blk_alloc ?_ _)); refine blk_put (cs := #[.slice Ao104 t253.length co104, .int .i64 t256, .int .i64 0]) ?_ 2 _ rfl; (with_reducible repeat (first | refine blk_drewN ?_ _ | refine blk_drew ?_ | refine blk_alloc ?_ _)); refine blk_put (cs := #[.slice Ao104 t253.length co104, .int .i64 0, .int .i64 0]) ?_ 1 _ rfl; (with_reducible repeat (first | refine blk_drewN ?_ _ | refine blk_drew ?_ | refine blk_alloc ?_ _)); refine blk_put (cs := #[.slice none 0 0, .int .i64 0, .int .i64 0]) ?_ 0 _ rfl; (with_reducible repeat (first | refine blk_drewN ?_ _ | refine blk_drew ?_ | refine blk_alloc ?_ _)); exact BK258.out⟩
           have n7_ : Aside0 (Below w.heap.size w (((w103.setCell ⟨gb258, 0, none⟩ (.slice Ao104 t253.length co104)).setCell ⟨gb258, 1, none⟩ (.int .i64 t256)).setCell ⟨gb258, 2, none⟩ (.int .i64 t257))) := ⟨bel_⟩
           (try clear HO_242000)
           (try clear HO255)
           (try clear BK229)
           (try clear BK230)
           (try clear BK241)
           (try clear BK245)
           (try clear BK258)
           (try clear HB)
           generalize (((w103.setCell ⟨gb258, 0, none⟩ (.slice Ao104 t253.length co104)).setCell ⟨gb258, 1, none⟩ (.int .i64 t256)).setCell ⟨gb258, 2, none⟩ (.int .i64 t257)) = w126 at n0_ n1_ n2_ n3_ n4_ n5_ n6_ n7_ ⊢
           have HO_242000 := n0_
           have HO255 := n1_
           have BK229 := n2_
           have BK230 := n3_
           have BK241 := n4_
           have BK245 := n5_
           have BK258 := n6_
           have HB := n7_
           clear n0_ n1_ n2_ n3_ n4_ n5_ n6_ n7_
           have n0_ := Aside0.mk (Kd.R_drew HO_242000.out)
           have n1_ := Aside0.mk (Kd.R_drew HO255.out)
           have n2_ := Aside0.mk (blk_drew BK229.out)
           have n3_ := Aside0.mk (blk_drew BK230.out)
           have n4_ := Aside0.mk (blk_drew BK241.out)
           have n5_ := Aside0.mk (blk_drew BK245.out)
           have n6_ := Aside0.mk (blk_drew BK258.out)
           have n7_ := Aside0.mk (below_drew1 HB.out)
           clear HO_242000
           clear HO255
           clear BK229
           clear BK230
           clear BK241
           clear BK245
           clear BK258
           clear HB
           have HO_242000 := n0_
           have HO255 := n1_
           have BK229 := n2_
           have BK230 := n3_
           have BK241 := n4_
           have BK245 := n5_
           have BK258 := n6_
           have HB := n7_
           clear n0_ n1_ n2_ n3_ n4_ n5_ n6_ n7_
           refine start_ (n := 31) (S := fun w' => w'.cell? ⟨gb241, 0, none⟩ = some (.slice Ao37 x242000_2.length co37) ∧ w'.cell? ⟨gb241, 1, none⟩ = some (.int .i64 x242001_2) ∧ w'.cell? ⟨gb241, 2, none⟩ = some (.int .i64 x242002_2) ∧ w'.cell? ⟨gb258, 0, none⟩ = some (.slice Ao104 t253.length co104) ∧ w'.cell? ⟨gb258, 1, none⟩ = some (.int .i64 t256) ∧ w'.cell? ⟨gb258, 2, none⟩ = some (.int .i64 t257) ∧ w'.cell? ⟨gb245, 0, none⟩ = some (.int .i64 t243) ∧ w'.cell? ⟨gb245, 1, none⟩ = some (.int .i64 t244)) (ds := []) #[F_, F_, F_, F_, F_, F_, F_, F_, F_, F_, F_, F_, F_, F_, F_, F_, F_, F_, F_, F_, F_, F_, F_, F_, F_, F_, F_, F_, F_, F_, F_] (by kernel_rfl) rfl rfl ⟨(blk_cell BK241.out 0).trans rfl, (blk_cell BK241.out 1).trans rfl, (blk_cell BK241.out 2).trans rfl, (blk_cell BK258.out 0).trans rfl, (blk_cell BK258.out 1).trans rfl, (blk_cell BK258.out 2).trans rfl, (blk_cell BK245.out 0).trans rfl, (blk_cell BK245.out 1).trans rfl⟩ (fun hHeld => ?_); refine with_tabW ropewaylaw16_FrontAims.tab17 ropewaylaw16_FrontAims.bits17 (fun HT_ HW_ => ?_)
           generalize w126.drew = w127 at HO_242000 HO255 BK229 BK230 BK241 BK245 BK258 HB hHeld ⊢
           refine pure_ (i := 0) (N := some 59) (v := ?_) (a' := ?_) #[T_, F_, F_, F_, F_, F_, F_, F_, F_, F_, F_, F_, F_, F_, F_, F_, F_, F_, F_, F_, F_, F_, F_, F_, F_, F_, F_, F_, F_, F_, F_] rfl rfl (any_of HT_.out (by kernel_rfl)) (fun _ _ _ h => h) (Or.inl ⟨by rfl, ?_⟩) ?_ ?_
           rotate_left
           · intro w'
             go_simp
             with_reducible rfl
           rotate_left
           · simp only [Act.put, List.setIfInBounds_toArray, List.set_cons_zero, List.set_cons_succ, i64_w, i32_w]
             rfl
           refine pure_ (i := 2) (N := some 61) (v := ?_) (a' := ?_) #[T_, F_, T_, F_, F_, F_, F_, F_, F_, F_, F_, F_, F_, F_, F_, F_, F_, F_, F_, F_, F_, F_, F_, F_, F_, F_, F_, F_, F_, F_, F_] rfl rfl (any_of HT_.out (by kernel_rfl)) (fun _ _ _ h => h) (Or.inl ⟨by rfl, ?_⟩) ?_ ?_
           rotate_left
           · intro w'
             go_simp
             with_reducible rfl
           rotate_left
           · simp only [Act.put, List.setIfInBounds_toArray, List.set_cons_zero, List.set_cons_succ, i64_w, i32_w]
             rfl
           refine take_ (i := 1) (N := some 60) (v := ?_) (a' := ?_) #[T_, T_, T_, F_, F_, F_, F_, F_, F_, F_, F_, F_, F_, F_, F_, F_, F_, F_, F_, F_, F_, F_, F_, F_, F_, F_, F_, F_, F_, F_, F_] rfl rfl (take_ofW HT_.out HW_.out (by kernel_rfl)) (fun _ _ _ h => h) (Or.inl ⟨by rfl, ?_⟩) hHeld ?_ ?_
           rotate_left
           · rintro w' ⟨s0, s1, s2, s3, s4, s5, s6, s7⟩
             go_simp
             with_reducible rfl
           rotate_left
           · simp only [Act.put, List.setIfInBounds_toArray, List.set_cons_zero, List.set_cons_succ, i64_w, i32_w]
             rfl
           refine take_ (i := 3) (N := some 62) (v := ?_) (a' := ?_) #[T_, T_, T_, T_, F_, F_, F_, F_, F_, F_, F_, F_, F_, F_, F_, F_, F_, F_, F_, F_, F_, F_, F_, F_, F_, F_, F_, F_, F_, F_, F_] rfl rfl (take_ofW HT_.out HW_.out (by kernel_rfl)) (fun _ _ _ h => h) (Or.inl ⟨by rfl, ?_⟩) hHeld ?_ ?_
           rotate_left
           · rintro w' ⟨s0, s1, s2, s3, s4, s5, s6, s7⟩
             go_simp
             with_reducible rfl
           rotate_left
           · simp only [Act.put, List.setIfInBounds_toArray, List.set_cons_zero, List.set_cons_succ, i64_w, i32_w]
             rfl
           refine one_ (i := 4) (N := some 63) #[T_, T_, T_, T_, T_, F_, F_, F_, F_, F_, F_, F_, F_, F_, F_, F_, F_, F_, F_, F_, F_, F_, F_, F_, F_, F_, F_, F_, F_, F_, F_] rfl rfl (one_of HT_.out (by kernel_rfl)) (by decide) (fun K hK => ?_)
           refine goes_ Try.func19 (by kernel_rfl) rfl #[.agg #[.int .i64 x242001_2, .int .i64 x242002_2], .agg #[.int .i64 t256, .int .i64 t257]] (by rfl) rfl rfl (by (try simp only [List.map_toArray, List.map_cons, List.map_nil]); first | done | rfl | (simp only [List.length_drop, List.length_take]; rfl)) ?_
           with_reducible refine (change_Within.calls x242001_2 x242002_2 t256 t257 true _ A110.out).mono ?_
           rintro e w128 ⟨rfl, hb⟩
           refine ⟨_, rfl, ?_⟩
           have n0_ := Aside0.mk (Kd.R_below (rl_ HO_242000) hb)
           have n1_ := Aside0.mk (Kd.R_below (rl_ HO255) hb)
           have n2_ := Aside0.mk (bb_ BK229 hb)
           have n3_ := Aside0.mk (bb_ BK230 hb)
           have n4_ := Aside0.mk (bb_ BK241 hb)
           have n5_ := Aside0.mk (bb_ BK245 hb)
           have n6_ := Aside0.mk (bb_ BK258 hb)
           have n7_ := Aside0.mk (below_step bel_ hb)
           clear HO_242000
           clear HO255
           clear BK229
           clear BK230
           clear BK241
           clear BK245
           clear BK258
           clear HB
           have HO_242000 := n0_
           have HO255 := n1_
           have BK229 := n2_
           have BK230 := n3_
           have BK241 := n4_
           have BK245 := n5_
           have BK258 := n6_
           have HB := n7_
           clear n0_ n1_ n2_ n3_ n4_ n5_ n6_ n7_
           (try clear hb)
           (try clear hb2)
           (try clear hk)
           (try clear hi)
           refine hK.out _ _ ⟨(blk_cell BK241.out 0).trans rfl, (blk_cell BK241.out 1).trans rfl, (blk_cell BK241.out 2).trans rfl, (blk_cell BK258.out 0).trans rfl, (blk_cell BK258.out 1).trans rfl, (blk_cell BK258.out 2).trans rfl, (blk_cell BK245.out 0).trans rfl, (blk_cell BK245.out 1).trans rfl⟩ (fun hHeld => ?_)
           clear hK K
           refine norm_ (a' := ?_) ?_ ?_
           rotate_left
           · show Act.put _ (some 63) _ = _
             simp only [Act.put, List.setIfInBounds_toArray, List.set_cons_zero, List.set_cons_succ, i64_w, i32_w]
             rfl
           refine pure_ (i := 5) (N := some 64) (v := ?_) (a' := ?_) #[T_, T_, T_, T_, T_, T_, F_, F_, F_, F_, F_, F_, F_, F_, F_, F_, F_, F_, F_, F_, F_, F_, F_, F_, F_, F_, F_, F_, F_, F_, F_] rfl rfl (any_of HT_.out (by kernel_rfl)) (fun _ _ _ h => h) (Or.inl ⟨by rfl, ?_⟩) ?_ ?_
           rotate_left
           · intro w'
             go_simp
             with_reducible rfl
           rotate_left
           · simp only [Act.put, List.setIfInBounds_toArray, List.set_cons_zero, List.set_cons_succ, i64_w, i32_w]
             rfl
           refine pure_ (i := 6) (N := some 65) (v := ?_) (a' := ?_) #[T_, T_, T_, T_, T_, T_, T_, F_, F_, F_, F_, F_, F_, F_, F_, F_, F_, F_, F_, F_, F_, F_, F_, F_, F_, F_, F_, F_, F_, F_, F_] rfl rfl (any_of HT_.out (by kernel_rfl)) (fun _ _ _ h => h) (Or.inl ⟨by rfl, ?_⟩) ?_ ?_
           rotate_left
           · intro w'
             go_simp
             with_reducible rfl
           rotate_left
           · simp only [Act.put, List.setIfInBounds_toArray, List.set_cons_zero, List.set_cons_succ, i64_w, i32_w]
             rfl
           refine take_ (i := 7) (N := some 66) (v := ?_) (a' := ?_) #[T_, T_, T_, T_, T_, T_, T_, T_, F_, F_, F_, F_, F_, F_, F_, F_, F_, F_, F_, F_, F_, F_, F_, F_, F_, F_, F_, F_, F_, F_, F_] rfl rfl (take_ofW HT_.out HW_.out (by kernel_rfl)) (fun _ _ _ h => h) (Or.inl ⟨by rfl, ?_⟩) hHeld ?_ ?_
           rotate_left
           · rintro w' ⟨s0, s1, s2, s3, s4, s5, s6, s7⟩
             go_simp
             with_reducible rfl
           rotate_left
           · simp only [Act.put, List.setIfInBounds_toArray, List.set_cons_zero, List.set_cons_succ, i64_w, i32_w]
             rfl
           refine take_ (i := 10) (N := some 69) (v := ?_) (a' := ?_) #[T_, T_, T_, T_, T_, T_, T_, T_, F_, F_, T_, F_, F_, F_, F_, F_, F_, F_, F_, F_, F_, F_, F_, F_, F_, F_, F_, F_, F_, F_, F_] rfl rfl (take_ofW HT_.out HW_.out (by kernel_rfl)) (fun _ _ _ h => h) (Or.inl ⟨by rfl, ?_⟩) hHeld ?_ ?_
           rotate_left
           · rintro w' ⟨s0, s1, s2, s3, s4, s5, s6, s7⟩
             go_simp
             with_reducible rfl
           rotate_left
           · simp only [Act.put, List.setIfInBounds_toArray, List.set_cons_zero, List.set_cons_succ, i64_w, i32_w]
             rfl
           refine one_ (i := 8) (N := some 67) #[T_, T_, T_, T_, T_, T_, T_, T_, T_, F_, T_, F_, F_, F_, F_, F_, F_, F_, F_, F_, F_, F_, F_, F_, F_, F_, F_, F_, F_, F_, F_] rfl rfl (one_of HT_.out (by kernel_rfl)) (by decide) (fun K hK => ?_)
           refine goes_ Try.func10 (by kernel_rfl) rfl #[.agg #[.slice Ao104 t253.length co104, .int .i64 t256, .int .i64 t257]] (by rfl) rfl rfl (by (try simp only [List.map_toArray, List.map_cons, List.map_nil]); first | done | rfl | (simp only [List.length_drop, List.length_take]; rfl)) ?_
           with_reducible refine (front_Least.calls _ _ t253 t256 t257 t260 t261 _ ?side1 ?side2 A112.out).mono ?_
           (case side1 => repeat (first | exact (Kd.R_reads' HO255.out).2.2 | (with_reducible refine Kd.C_alloc ?_ _) | (with_reducible refine Kd.C_drewN ?_ _) | (with_reducible refine Kd.C_drew ?_)))
           (case side2 => exact (Kd.R_reads' HO255.out).2.1)
           rintro e w129 ⟨rfl, hb⟩
           refine ⟨_, rfl, ?_⟩
           have n0_ := Aside0.mk (Kd.R_below (rl_ HO_242000) hb)
           have n1_ := Aside0.mk (Kd.R_below (rl_ HO255) hb)
           have n2_ := Aside0.mk (bb_ BK229 hb)
           have n3_ := Aside0.mk (bb_ BK230 hb)
           have n4_ := Aside0.mk (bb_ BK241 hb)
           have n5_ := Aside0.mk (bb_ BK245 hb)
           have n6_ := Aside0.mk (bb_ BK258 hb)
           have n7_ := Aside0.mk (below_step bel_ hb)
           clear HO_242000
           clear HO255
           clear BK229
           clear BK230
           clear BK241
           clear BK245
           clear BK258
           clear HB
           have HO_242000 := n0_
           have HO255 := n1_
           have BK229 := n2_
           have BK230 := n3_
           have BK241 := n4_
           have BK245 := n5_
           have BK258 := n6_
           have HB := n7_
           clear n0_ n1_ n2_ n3_ n4_ n5_ n6_ n7_
           (try clear hb)
           (try clear hb2)
           (try clear hk)
           (try clear hi)
           refine hK.out _ _ ⟨(blk_cell BK241.out 0).trans rfl, (blk_cell BK241.out 1).trans rfl, (blk_cell BK241.out 2).trans rfl, (blk_cell BK258.out 0).trans rfl, (blk_cell BK258.out 1).trans rfl, (blk_cell BK258.out 2).trans rfl, (blk_cell BK245.out 0).trans rfl, (blk_cell BK245.out 1).trans rfl⟩ (fun hHeld => ?_)
           clear hK K
           refine norm_ (a' := ?_) ?_ ?_
           rotate_left
           · show Act.put _ (some 67) _ = _
             simp only [Act.put, List.setIfInBounds_toArray, List.set_cons_zero, List.set_cons_succ, i64_w, i32_w]
             rfl
           refine one_ (i := 9) (N := some 68) #[T_, T_, T_, T_, T_, T_, T_, T_, T_, T_, T_, F_, F_, F_, F_, F_, F_, F_, F_, F_, F_, F_, F_, F_, F_, F_, F_, F_, F_, F_, F_] rfl rfl (one_of HT_.out (by kernel_rfl)) (by decide) (fun K hK => ?_)
           refine goes_ Try.func20 (by kernel_rfl) rfl #[.agg #[.int .i64 t260, .int .i64 t261]] (by rfl) rfl rfl (by (try simp only [List.map_toArray, List.map_cons, List.map_nil]); first | done | rfl | (simp only [List.length_drop, List.length_take]; rfl)) ?_
           with_reducible refine (change_Size.calls t260 t261 t262 _ A113.out).mono ?_
           rintro e w130 ⟨rfl, hb⟩
           refine ⟨_, rfl, ?_⟩
           have n0_ := Aside0.mk (Kd.R_below (rl_ HO_242000) hb)
           have n1_ := Aside0.mk (Kd.R_below (rl_ HO255) hb)
           have n2_ := Aside0.mk (bb_ BK229 hb)
           have n3_ := Aside0.mk (bb_ BK230 hb)
           have n4_ := Aside0.mk (bb_ BK241 hb)
           have n5_ := Aside0.mk (bb_ BK245 hb)
           have n6_ := Aside0.mk (bb_ BK258 hb)
           have n7_ := Aside0.mk (below_step bel_ hb)
           clear HO_242000
           clear HO255
           clear BK229
           clear BK230
           clear BK241
           clear BK245
           clear BK258
           clear HB
           have HO_242000 := n0_
           have HO255 := n1_
           have BK229 := n2_
           have BK230 := n3_
           have BK241 := n4_
           have BK245 := n5_
           have BK258 := n6_
           have HB := n7_
           clear n0_ n1_ n2_ n3_ n4_ n5_ n6_ n7_
           (try clear hb)
           (try clear hb2)
           (try clear hk)
           (try clear hi)
           refine hK.out _ _ ⟨(blk_cell BK241.out 0).trans rfl, (blk_cell BK241.out 1).trans rfl, (blk_cell BK241.out 2).trans rfl, (blk_cell BK258.out 0).trans rfl, (blk_cell BK258.out 1).trans rfl, (blk_cell BK258.out 2).trans rfl, (blk_cell BK245.out 0).trans rfl, (blk_cell BK245.out 1).trans rfl⟩ (fun hHeld => ?_)
           clear hK K
           refine norm_ (a' := ?_) ?_ ?_
           rotate_left
           · show Act.put _ (some 68) _ = _
             simp only [Act.put, List.setIfInBounds_toArray, List.set_cons_zero, List.set_cons_succ, i64_w, i32_w]
             rfl
           refine one_ (i := 11) (N := some 70) #[T_, T_, T_, T_, T_, T_, T_, T_, T_, T_, T_, T_, F_, F_, F_, F_, F_, F_, F_, F_, F_, F_, F_, F_, F_, F_, F_, F_, F_, F_, F_] rfl rfl (one_of HT_.out (by kernel_rfl)) (by decide) (fun K hK => ?_)
           refine goes_ Try.func20 (by kernel_rfl) rfl #[.agg #[.int .i64 t243, .int .i64 t244]] (by rfl) rfl rfl (by (try simp only [List.map_toArray, List.map_cons, List.map_nil]); first | done | rfl | (simp only [List.length_drop, List.length_take]; rfl)) ?_
           with_reducible refine (change_Size.calls t243 t244 t263 _ A114.out).mono ?_
           rintro e w131 ⟨rfl, hb⟩
           refine ⟨_, rfl, ?_⟩
           have n0_ := Aside0.mk (Kd.R_below (rl_ HO_242000) hb)
           have n1_ := Aside0.mk (Kd.R_below (rl_ HO255) hb)
           have n2_ := Aside0.mk (bb_ BK229 hb)
           have n3_ := Aside0.mk (bb_ BK230 hb)
           have n4_ := Aside0.mk (bb_ BK241 hb)
           have n5_ := Aside0.mk (bb_ BK245 hb)
           have n6_ := Aside0.mk (bb_ BK258 hb)
           have n7_ := Aside0.mk (below_step bel_ hb)
           clear HO_242000
           clear HO255
           clear BK229
           clear BK230
           clear BK241
           clear BK245
           clear BK258
           clear HB
           have HO_242000 := n0_
           have HO255 := n1_
           have BK229 := n2_
           have BK230 := n3_
           have BK241 := n4_
           have BK245 := n5_
           have BK258 := n6_
           have HB := n7_
           clear n0_ n1_ n2_ n3_ n4_ n5_ n6_ n7_
           (try clear hb)
           (try clear hb2)
           (try clear hk)
           (try clear hi)
           refine hK.out _ _ ⟨(blk_cell BK241.out 0).trans rfl, (blk_cell BK241.out 1).trans rfl, (blk_cell BK241.out 2).trans rfl, (blk_cell BK258.out 0).trans rfl, (blk_cell BK258.out 1).trans rfl, (blk_cell BK258.out 2).trans rfl, (blk_cell BK245.out 0).trans rfl, (blk_cell BK245.out 1).trans rfl⟩ (fun hHeld => ?_)
           clear hK K
           refine norm_ (a' := ?_) ?_ ?_
           rotate_left
           · show Act.put _ (some 70) _ = _
             simp only [Act.put, List.setIfInBounds_toArray, List.set_cons_zero, List.set_cons_succ, i64_w, i32_w]
             rfl
           refine pure_ (i := 12) (N := some 71) (v := ?_) (a' := ?_) #[T_, T_, T_, T_, T_, T_, T_, T_, T_, T_, T_, T_, T_, F_, F_, F_, F_, F_, F_, F_, F_, F_, F_, F_, F_, F_, F_, F_, F_, F_, F_] rfl rfl (any_of HT_.out (by kernel_rfl)) (fun _ _ _ h => h) (Or.inl ⟨by rfl, ?_⟩) ?_ ?_
           rotate_left
           · intro w'
             go_simp
             with_reducible rfl
           rotate_left
           · simp only [Act.put, List.setIfInBounds_toArray, List.set_cons_zero, List.set_cons_succ, i64_w, i32_w]
             rfl
           refine pure_ (i := 13) (N := some 72) (v := ?_) (a' := ?_) #[T_, T_, T_, T_, T_, T_, T_, T_, T_, T_, T_, T_, T_, T_, F_, F_, F_, F_, F_, F_, F_, F_, F_, F_, F_, F_, F_, F_, F_, F_, F_] rfl rfl (any_of HT_.out (by kernel_rfl)) (fun _ _ _ h => h) (Or.inl ⟨by rfl, ?_⟩) ?_ ?_
           rotate_left
           · intro w'
             go_simp
             with_reducible rfl
           rotate_left
           · simp only [Act.put, List.setIfInBounds_toArray, List.set_cons_zero, List.set_cons_succ, i64_w, i32_w]
             rfl
           refine pure_ (i := 14) (N := some 73) (v := ?_) (a' := ?_) #[T_, T_, T_, T_, T_, T_, T_, T_, T_, T_, T_, T_, T_, T_, T_, F_, F_, F_, F_, F_, F_, F_, F_, F_, F_, F_, F_, F_, F_, F_, F_] rfl rfl (any_of HT_.out (by kernel_rfl)) (fun _ _ _ h => h) (Or.inl ⟨by rfl, ?_⟩) ?_ ?_
           rotate_left
           · intro w'
             go_simp
             with_reducible rfl
           rotate_left
           · simp only [Act.put, List.setIfInBounds_toArray, List.set_cons_zero, List.set_cons_succ, i64_w, i32_w]
             rfl
           refine pure_ (i := 15) (N := some 74) (v := ?_) (a' := ?_) #[T_, T_, T_, T_, T_, T_, T_, T_, T_, T_, T_, T_, T_, T_, T_, T_, F_, F_, F_, F_, F_, F_, F_, F_, F_, F_, F_, F_, F_, F_, F_] rfl rfl (any_of HT_.out (by kernel_rfl)) (fun _ _ _ h => h) (Or.inl ⟨by rfl, ?_⟩) ?_ ?_
           rotate_left
           · intro w'
             go_simp
             with_reducible rfl
           rotate_left
           · simp only [Act.put, List.setIfInBounds_toArray, List.set_cons_zero, List.set_cons_succ, i64_w, i32_w]
             rfl
           refine take_ (i := 16) (N := some 75) (v := ?_) (a' := ?_) #[T_, T_, T_, T_, T_, T_, T_, T_, T_, T_, T_, T_, T_, T_, T_, T_, T_, F_, F_, F_, F_, F_, F_, F_, F_, F_, F_, F_, F_, F_, F_] rfl rfl (take_ofW HT_.out HW_.out (by kernel_rfl)) (fun _ _ _ h => h) (Or.inl ⟨by rfl, ?_⟩) hHeld ?_ ?_
           rotate_left
           · rintro w' ⟨s0, s1, s2, s3, s4, s5, s6, s7⟩
             go_simp
             with_reducible rfl
           rotate_left
           · simp only [Act.put, List.setIfInBounds_toArray, List.set_cons_zero, List.set_cons_succ, i64_w, i32_w]
             rfl
           refine pure_ (i := 17) (N := some 76) (v := ?_) (a' := ?_) #[T_, T_, T_, T_, T_, T_, T_, T_, T_, T_, T_, T_, T_, T_, T_, T_, T_, T_, F_, F_, F_, F_, F_, F_, F_, F_, F_, F_, F_, F_, F_] rfl rfl (any_of HT_.out (by kernel_rfl)) (fun _ _ _ h => h) (Or.inl ⟨by rfl, ?_⟩) ?_ ?_
           rotate_left
           · intro w'
             go_simp
             with_reducible rfl
           rotate_left
           · simp only [Act.put, List.setIfInBounds_toArray, List.set_cons_zero, List.set_cons_succ, i64_w, i32_w]
             rfl
           refine pure_ (i := 18) (N := some 77) (v := ?_) (a' := ?_) #[T_, T_, T_, T_, T_, T_, T_, T_, T_, T_, T_, T_, T_, T_, T_, T_, T_, T_, T_, F_, F_, F_, F_, F_, F_, F_, F_, F_, F_, F_, F_] rfl rfl (any_of HT_.out (by kernel_rfl)) (fun _ _ _ h => h) (Or.inl ⟨by rfl, ?_⟩) ?_ ?_
           rotate_left
           · intro w'
             go_simp
             with_reducible rfl
           rotate_left
           · simp only [Act.put, List.setIfInBounds_toArray, List.set_cons_zero, List.set_cons_succ, i64_w, i32_w]
             rfl
           refine pure_ (i := 19) (N := some 78) (v := ?_) (a' := ?_) #[T_, T_, T_, T_, T_, T_, T_, T_, T_, T_, T_, T_, T_, T_, T_, T_, T_, T_, T_, T_, F_, F_, F_, F_, F_, F_, F_, F_, F_, F_, F_] rfl rfl (any_of HT_.out (by kernel_rfl)) (fun _ _ _ h => h) (Or.inl ⟨by rfl, ?_⟩) ?_ ?_
           rotate_left
           · intro w'
             go_simp
             with_reducible rfl
           rotate_left
           · simp only [Act.put, List.setIfInBounds_toArray, List.set_cons_zero, List.set_cons_succ, i64_w, i32_w]
             rfl
           refine pure_ (i := 20) (N := some 79) (v := ?_) (a' := ?_) #[T_, T_, T_, T_, T_, T_, T_, T_, T_, T_, T_, T_, T_, T_, T_, T_, T_, T_, T_, T_, T_, F_, F_, F_, F_, F_, F_, F_, F_, F_, F_] rfl rfl (any_of HT_.out (by kernel_rfl)) (fun _ _ _ h => h) (Or.inl ⟨by rfl, ?_⟩) ?_ ?_
           rotate_left
           · intro w'
             go_simp
             with_reducible rfl
           rotate_left
           · simp only [Act.put, List.setIfInBounds_toArray, List.set_cons_zero, List.set_cons_succ, i64_w, i32_w]
             rfl
           refine pure_ (i := 21) (N := some 80) (v := ?_) (a' := ?_) #[T_, T_, T_, T_, T_, T_, T_, T_, T_, T_, T_, T_, T_, T_, T_, T_, T_, T_, T_, T_, T_, T_, F_, F_, F_, F_, F_, F_, F_, F_, F_] rfl rfl (any_of HT_.out (by kernel_rfl)) (fun _ _ _ h => h) (Or.inl ⟨by rfl, ?_⟩) ?_ ?_
           rotate_left
           · intro w'
             go_simp
             with_reducible rfl
           rotate_left
           · simp only [Act.put, List.setIfInBounds_toArray, List.set_cons_zero, List.set_cons_succ, i64_w, i32_w]
             rfl
           refine pure_ (i := 22) (N := some 81) (v := ?_) (a' := ?_) #[T_, T_, T_, T_, T_, T_, T_, T_, T_, T_, T_, T_, T_, T_, T_, T_, T_, T_, T_, T_, T_, T_, T_, F_, F_, F_, F_, F_, F_, F_, F_] rfl rfl (any_of HT_.out (by kernel_rfl)) (fun _ _ _ h => h) (Or.inl ⟨by rfl, ?_⟩) ?_ ?_
           rotate_left
           · intro w'
             go_simp
             with_reducible rfl
           rotate_left
           · simp only [Act.put, List.setIfInBounds_toArray, List.set_cons_zero, List.set_cons_succ, i64_w, i32_w]
             rfl
           refine pure_ (i := 23) (N := some 82) (v := ?_) (a' := ?_) #[T_, T_, T_, T_, T_, T_, T_, T_, T_, T_, T_, T_, T_, T_, T_, T_, T_, T_, T_, T_, T_, T_, T_, T_, F_, F_, F_, F_, F_, F_, F_] rfl rfl (any_of HT_.out (by kernel_rfl)) (fun _ _ _ h => h) (Or.inl ⟨by rfl, ?_⟩) ?_ ?_
           rotate_left
           · intro w'
             go_simp
             with_reducible rfl
           rotate_left
           · simp only [Act.put, List.setIfInBounds_toArray, List.set_cons_zero, List.set_cons_succ, i64_w, i32_w]
             rfl
           refine pure_ (i := 24) (N := some 83) (v := ?_) (a' := ?_) #[T_, T_, T_, T_, T_, T_, T_, T_, T_, T_, T_, T_, T_, T_, T_, T_, T_, T_, T_, T_, T_, T_, T_, T_, T_, F_, F_, F_, F_, F_, F_] rfl rfl (any_of HT_.out (by kernel_rfl)) (fun _ _ _ h => h) (Or.inl ⟨by rfl, ?_⟩) ?_ ?_
           rotate_left
           · intro w'
             go_simp
             with_reducible rfl
           rotate_left
           · simp only [Act.put, List.setIfInBounds_toArray, List.set_cons_zero, List.set_cons_succ, i64_w, i32_w]
             rfl
           refine pure_ (i := 25) (N := some 84) (v := undef) (a' := ?_) #[T_, T_, T_, T_, T_, T_, T_, T_, T_, T_, T_, T_, T_, T_, T_, T_, T_, T_, T_, T_, T_, T_, T_, T_, T_, T_, F_, F_, F_, F_, F_] rfl rfl (any_of HT_.out (by kernel_rfl)) (fun _ _ _ h => h) (Or.inr ⟨by rfl, rfl⟩) ?_ ?_
           rotate_left
           · simp only [Act.put, List.setIfInBounds_toArray, List.set_cons_zero, List.set_cons_succ, i64_w, i32_w]
             rfl
           refine pure_ (i := 26) (N := some 85) (v := undef) (a' := ?_) #[T_, T_, T_, T_, T_, T_, T_, T_, T_, T_, T_, T_, T_, T_, T_, T_, T_, T_, T_, T_, T_, T_, T_, T_, T_, T_, T_, F_, F_, F_, F_] rfl rfl (any_of HT_.out (by kernel_rfl)) (fun _ _ _ h => h) (Or.inr ⟨by rfl, rfl⟩) ?_ ?_
           rotate_left
           · simp only [Act.put, List.setIfInBounds_toArray, List.set_cons_zero, List.set_cons_succ, i64_w, i32_w]
             rfl
           refine pure_ (i := 27) (N := some 86) (v := undef) (a' := ?_) #[T_, T_, T_, T_, T_, T_, T_, T_, T_, T_, T_, T_, T_, T_, T_, T_, T_, T_, T_, T_, T_, T_, T_, T_, T_, T_, T_, T_, F_, F_, F_] rfl rfl (any_of HT_.out (by kernel_rfl)) (fun _ _ _ h => h) (Or.inr ⟨by rfl, rfl⟩) ?_ ?_
           rotate_left
           · simp only [Act.put, List.setIfInBounds_toArray, List.set_cons_zero, List.set_cons_succ, i64_w, i32_w]
             rfl
           refine pure_ (i := 28) (N := some 87) (v := undef) (a' := ?_) #[T_, T_, T_, T_, T_, T_, T_, T_, T_, T_, T_, T_, T_, T_, T_, T_, T_, T_, T_, T_, T_, T_, T_, T_, T_, T_, T_, T_, T_, F_, F_] rfl rfl (any_of HT_.out (by kernel_rfl)) (fun _ _ _ h => h) (Or.inr ⟨by rfl, rfl⟩) ?_ ?_
           rotate_left
           · simp only [Act.put, List.setIfInBounds_toArray, List.set_cons_zero, List.set_cons_succ, i64_w, i32_w]
             rfl
           refine pure_ (i := 29) (N := some 88) (v := ?_) (a' := ?_) #[T_, T_, T_, T_, T_, T_, T_, T_, T_, T_, T_, T_, T_, T_, T_, T_, T_, T_, T_, T_, T_, T_, T_, T_, T_, T_, T_, T_, T_, T_, F_] rfl rfl (any_of HT_.out (by kernel_rfl)) (fun _ _ _ h => h) (Or.inl ⟨by rfl, ?_⟩) ?_ ?_
           rotate_left
           · intro w'
             go_simp
             with_reducible rfl
           rotate_left
           · simp only [Act.put, List.setIfInBounds_toArray, List.set_cons_zero, List.set_cons_succ, i64_w, i32_w]
             rfl
           refine pure_ (i := 30) (N := some 89) (v := ?_) (a' := ?_) #[T_, T_, T_, T_, T_, T_, T_, T_, T_, T_, T_, T_, T_, T_, T_, T_, T_, T_, T_, T_, T_, T_, T_, T_, T_, T_, T_, T_, T_, T_, T_] rfl rfl (any_of HT_.out (by kernel_rfl)) (fun _ _ _ h => h) (Or.inl ⟨by rfl, ?_⟩) ?_ ?_
           rotate_left
           · intro w'
             go_simp
             with_reducible rfl
           rotate_left
           · simp only [Act.put, List.setIfInBounds_toArray, List.set_cons_zero, List.set_cons_succ, i64_w, i32_w]
             rfl
           refine done_ (done_of HT_.out (by kernel_rfl)) ?_
           try go_wp2
           go_meet
           case rel => exact ⟨_, (false), (by first | rfl | (simp; done) | (simp [*]; done) | (simp; grind)), H', ⟨by have := HJ5.out; have := HK2.out; have := HK3.out; first | omega | exact Nat.le_refl _⟩, ⟨by (with_reducible repeat (first | apply Kd.R_alloc | apply Kd.R_drewN | apply Kd.R_drew)); exact HO_242000.out⟩, ⟨by (with_reducible repeat (first | apply Kd.R_alloc | apply Kd.R_drewN | apply Kd.R_drew)); exact HO255.out⟩, ⟨blf_⟩, ⟨blf_⟩, ⟨blf_⟩, ⟨blf_⟩, ⟨blf_⟩, ⟨bel_⟩⟩
         rw [if_pos c117] at H
         have c117b0 : decide (0 < ((rd_L2 l2 x33_2).length : Int)) = true := decide_eq_true c117
         have c117b1 : decide (0 < (rd_L2 l2 x33_2).length) = true := decide_eq_true (by omega)
         clear c117
         replace H := Option.bind_eq_some_iff.mp H
         obtain ⟨⟨t264, t265⟩, A1180, H⟩ := H
         replace H : (ropewaylaw16_FrontAims.j3 k3 l2 (l2.length : Int) x33_2 (t264 == t243 && (t265 == t244)) t253 t256 t257) = some r := H
         have A118 := Aside0.mk A1180
         clear A1180
         have H' := Aside0.mk H
         clear H
         try go_wp2
         have n0_ : Aside0 (Kd.R k24 24 (((w103.setCell ⟨gb258, 0, none⟩ (.slice Ao104 t253.length co104)).setCell ⟨gb258, 1, none⟩ (.int .i64 t256)).setCell ⟨gb258, 2, none⟩ (.int .i64 t257)) w.heap.size (fun k_ => some k_ ≠ (.slice Ao104 t253.length co104 : Value).ownBlock ∧ k_ ≠ gb229 ∧ k_ ≠ gb230 ∧ k_ ≠ gb245) (.slice Ao37 x242000_2.length co37) x242000_2) := ⟨by (with_reducible repeat (first | apply Kd.R_alloc | apply Kd.R_drewN | apply Kd.R_drew)); exact Kd.R_mono (Kd.R_far (p := ⟨gb258, 2, none⟩) (Kd.R_far (p := ⟨gb258, 1, none⟩) (Kd.R_far (p := ⟨gb258, 0, none⟩) (Kd.R_types HO_242000.out BK258.out (by decide)) (fun _ hk => hk.2) (.slice Ao104 t253.length co104)) (fun _ hk => hk.2) (.int .i64 t256)) (fun _ hk => hk.2) (.int .i64 t257)) (fun _ hk => ⟨hk.1.2, ⟨hk.1.1.1, ⟨hk.1.1.2.1, hk.1.1.2.2⟩⟩⟩)⟩
         have n1_ : Aside0 (Kd.R k24 24 (((w103.setCell ⟨gb258, 0, none⟩ (.slice Ao104 t253.length co104)).setCell ⟨gb258, 1, none⟩ (.int .i64 t256)).setCell ⟨gb258, 2, none⟩ (.int .i64 t257)) w.heap.size (fun k_ => some k_ ≠ (.slice Ao37 x242000_2.length co37 : Value).ownBlock ∧ k_ ≠ gb229 ∧ k_ ≠ gb230 ∧ k_ ≠ gb245) (.slice Ao104 t253.length co104) t253) := ⟨by (with_reducible repeat (first | apply Kd.R_alloc | apply Kd.R_drewN | apply Kd.R_drew)); exact Kd.R_mono (Kd.R_far (p := ⟨gb258, 2, none⟩) (Kd.R_far (p := ⟨gb258, 1, none⟩) (Kd.R_far (p := ⟨gb258, 0, none⟩) (Kd.R_types HO255.out BK258.out (by decide)) (fun _ hk => hk.2) (.slice Ao104 t253.length co104)) (fun _ hk => hk.2) (.int .i64 t256)) (fun _ hk => hk.2) (.int .i64 t257)) (fun _ hk => ⟨hk.1.1.1.1.2, ⟨hk.1.1.1.2, ⟨hk.1.1.2, hk.1.2⟩⟩⟩)⟩
         have n2_ : Aside0 ((((w103.setCell ⟨gb258, 0, none⟩ (.slice Ao104 t253.length co104)).setCell ⟨gb258, 1, none⟩ (.int .i64 t256)).setCell ⟨gb258, 2, none⟩ (.int .i64 t257)).heap[gb229]? = some (.cells #[.int .i64 a0_0, .int .i64 a0_1] 24 (0, 0))) := ⟨blf_⟩
         have n3_ : Aside0 ((((w103.setCell ⟨gb258, 0, none⟩ (.slice Ao104 t253.length co104)).setCell ⟨gb258, 1, none⟩ (.int .i64 t256)).setCell ⟨gb258, 2, none⟩ (.int .i64 t257)).heap[gb230]? = some (.cells #[.int .i64 a1_0, .int .i64 a1_1] 24 (0, 0))) := ⟨blf_⟩
         have n4_ : Aside0 ((((w103.setCell ⟨gb258, 0, none⟩ (.slice Ao104 t253.length co104)).setCell ⟨gb258, 1, none⟩ (.int .i64 t256)).setCell ⟨gb258, 2, none⟩ (.int .i64 t257)).heap[gb241]? = some (.cells #[.slice Ao37 x242000_2.length co37, .int .i64 x242001_2, .int .i64 x242002_2] 26 (0, 0))) := ⟨blf_⟩
         have n5_ : Aside0 ((((w103.setCell ⟨gb258, 0, none⟩ (.slice Ao104 t253.length co104)).setCell ⟨gb258, 1, none⟩ (.int .i64 t256)).setCell ⟨gb258, 2, none⟩ (.int .i64 t257)).heap[gb245]? = some (.cells #[.int .i64 t243, .int .i64 t244] 24 (0, 0))) := ⟨blf_⟩
         have n6_ : Aside0 ((((w103.setCell ⟨gb258, 0, none⟩ (.slice Ao104 t253.length co104)).setCell ⟨gb258, 1, none⟩ (.int .i64 t256)).setCell ⟨gb258, 2, none⟩ (.int .i64 t257)).heap[gb258]? = some (.cells #[.slice Ao104 t253.length co104, .int .i64 t256, .int .i64 t257] 26 (0, 0))) := ⟨by (with_reducible repeat (first | refine blk_drewN ?_ _ | refine blk_drew ?_ | refine blk_alloc ?_ _)); refine blk_put (cs := #[.slice Ao104 t253.length co104, .int .i64 t256, .int .i64 0]) ?_ 2 _ rfl; (with_reducible repeat (first | refine blk_drewN ?_ _ | refine blk_drew ?_ | refine blk_alloc ?_ _)); refine blk_put (cs := #[.slice Ao104 t253.length co104, .int .i64 0, .int .i64 0]) ?_ 1 _ rfl; (with_reducible repeat (first | refine blk_drewN ?_ _ | refine blk_drew ?_ | refine blk_alloc ?_ _)); refine blk_put (cs := #[.slice none 0 0, .int .i64 0, .int .i64 0]) ?_ 0 _ rfl; (with_reducible repeat (first | refine blk_drewN ?_ _ | refine blk_drew ?_ | refine blk_alloc ?_ _)); exact BK258.out⟩
         have n7_ : Aside0 (Below w.heap.size w (((w103.setCell ⟨gb258, 0, none⟩ (.slice Ao104 t253.length co104)).setCell ⟨gb258, 1, none⟩ (.int .i64 t256)).setCell ⟨gb258, 2, none⟩ (.int .i64 t257))) := ⟨bel_⟩
         (try clear HO_242000)
         (try clear HO255)
         (try clear BK229)
         (try clear BK230)
         (try clear BK241)
         (try clear BK245)
         (try clear BK258)
         (try clear HB)
         generalize (((w103.setCell ⟨gb258, 0, none⟩ (.slice Ao104 t253.length co104)).setCell ⟨gb258, 1, none⟩ (.int .i64 t256)).setCell ⟨gb258, 2, none⟩ (.int .i64 t257)) = w119 at n0_ n1_ n2_ n3_ n4_ n5_ n6_ n7_ ⊢
         have HO_242000 := n0_
         have HO255 := n1_
         have BK229 := n2_
         have BK230 := n3_
         have BK241 := n4_
         have BK245 := n5_
         have BK258 := n6_
         have HB := n7_
         clear n0_ n1_ n2_ n3_ n4_ n5_ n6_ n7_
         have n0_ := Aside0.mk (Kd.R_drew HO_242000.out)
         have n1_ := Aside0.mk (Kd.R_drew HO255.out)
         have n2_ := Aside0.mk (blk_drew BK229.out)
         have n3_ := Aside0.mk (blk_drew BK230.out)
         have n4_ := Aside0.mk (blk_drew BK241.out)
         have n5_ := Aside0.mk (blk_drew BK245.out)
         have n6_ := Aside0.mk (blk_drew BK258.out)
         have n7_ := Aside0.mk (below_drew1 HB.out)
         clear HO_242000
         clear HO255
         clear BK229
         clear BK230
         clear BK241
         clear BK245
         clear BK258
         clear HB
         have HO_242000 := n0_
         have HO255 := n1_
         have BK229 := n2_
         have BK230 := n3_
         have BK241 := n4_
         have BK245 := n5_
         have BK258 := n6_
         have HB := n7_
         clear n0_ n1_ n2_ n3_ n4_ n5_ n6_ n7_
         refine start_ (n := 31) (S := fun w' => w'.cell? ⟨gb241, 0, none⟩ = some (.slice Ao37 x242000_2.length co37) ∧ w'.cell? ⟨gb241, 1, none⟩ = some (.int .i64 x242001_2) ∧ w'.cell? ⟨gb241, 2, none⟩ = some (.int .i64 x242002_2) ∧ w'.cell? ⟨gb258, 0, none⟩ = some (.slice Ao104 t253.length co104) ∧ w'.cell? ⟨gb258, 1, none⟩ = some (.int .i64 t256) ∧ w'.cell? ⟨gb258, 2, none⟩ = some (.int .i64 t257) ∧ w'.cell? ⟨gb245, 0, none⟩ = some (.int .i64 t243) ∧ w'.cell? ⟨gb245, 1, none⟩ = some (.int .i64 t244)) (ds := []) #[F_, F_, F_, F_, F_, F_, F_, F_, F_, F_, F_, F_, F_, F_, F_, F_, F_, F_, F_, F_, F_, F_, F_, F_, F_, F_, F_, F_, F_, F_, F_] (by kernel_rfl) rfl rfl ⟨(blk_cell BK241.out 0).trans rfl, (blk_cell BK241.out 1).trans rfl, (blk_cell BK241.out 2).trans rfl, (blk_cell BK258.out 0).trans rfl, (blk_cell BK258.out 1).trans rfl, (blk_cell BK258.out 2).trans rfl, (blk_cell BK245.out 0).trans rfl, (blk_cell BK245.out 1).trans rfl⟩ (fun hHeld => ?_); refine with_tabW ropewaylaw16_FrontAims.tab17 ropewaylaw16_FrontAims.bits17 (fun HT_ HW_ => ?_)
         generalize w119.drew = w120 at HO_242000 HO255 BK229 BK230 BK241 BK245 BK258 HB hHeld ⊢
         refine pure_ (i := 0) (N := some 59) (v := ?_) (a' := ?_) #[T_, F_, F_, F_, F_, F_, F_, F_, F_, F_, F_, F_, F_, F_, F_, F_, F_, F_, F_, F_, F_, F_, F_, F_, F_, F_, F_, F_, F_, F_, F_] rfl rfl (any_of HT_.out (by kernel_rfl)) (fun _ _ _ h => h) (Or.inl ⟨by rfl, ?_⟩) ?_ ?_
         rotate_left
         · intro w'
           go_simp
           with_reducible rfl
         rotate_left
         · simp only [Act.put, List.setIfInBounds_toArray, List.set_cons_zero, List.set_cons_succ, i64_w, i32_w]
           rfl
         refine pure_ (i := 2) (N := some 61) (v := ?_) (a' := ?_) #[T_, F_, T_, F_, F_, F_, F_, F_, F_, F_, F_, F_, F_, F_, F_, F_, F_, F_, F_, F_, F_, F_, F_, F_, F_, F_, F_, F_, F_, F_, F_] rfl rfl (any_of HT_.out (by kernel_rfl)) (fun _ _ _ h => h) (Or.inl ⟨by rfl, ?_⟩) ?_ ?_
         rotate_left
         · intro w'
           go_simp
           with_reducible rfl
         rotate_left
         · simp only [Act.put, List.setIfInBounds_toArray, List.set_cons_zero, List.set_cons_succ, i64_w, i32_w]
           rfl
         refine take_ (i := 1) (N := some 60) (v := ?_) (a' := ?_) #[T_, T_, T_, F_, F_, F_, F_, F_, F_, F_, F_, F_, F_, F_, F_, F_, F_, F_, F_, F_, F_, F_, F_, F_, F_, F_, F_, F_, F_, F_, F_] rfl rfl (take_ofW HT_.out HW_.out (by kernel_rfl)) (fun _ _ _ h => h) (Or.inl ⟨by rfl, ?_⟩) hHeld ?_ ?_
         rotate_left
         · rintro w' ⟨s0, s1, s2, s3, s4, s5, s6, s7⟩
           go_simp
           with_reducible rfl
         rotate_left
         · simp only [Act.put, List.setIfInBounds_toArray, List.set_cons_zero, List.set_cons_succ, i64_w, i32_w]
           rfl
         refine take_ (i := 3) (N := some 62) (v := ?_) (a' := ?_) #[T_, T_, T_, T_, F_, F_, F_, F_, F_, F_, F_, F_, F_, F_, F_, F_, F_, F_, F_, F_, F_, F_, F_, F_, F_, F_, F_, F_, F_, F_, F_] rfl rfl (take_ofW HT_.out HW_.out (by kernel_rfl)) (fun _ _ _ h => h) (Or.inl ⟨by rfl, ?_⟩) hHeld ?_ ?_
         rotate_left
         · rintro w' ⟨s0, s1, s2, s3, s4, s5, s6, s7⟩
           go_simp
           with_reducible rfl
         rotate_left
         · simp only [Act.put, List.setIfInBounds_toArray, List.set_cons_zero, List.set_cons_succ, i64_w, i32_w]
           rfl
         refine one_ (i := 4) (N := some 63) #[T_, T_, T_, T_, T_, F_, F_, F_, F_, F_, F_, F_, F_, F_, F_, F_, F_, F_, F_, F_, F_, F_, F_, F_, F_, F_, F_, F_, F_, F_, F_] rfl rfl (one_of HT_.out (by kernel_rfl)) (by decide) (fun K hK => ?_)
         refine goes_ Try.func19 (by kernel_rfl) rfl #[.agg #[.int .i64 x242001_2, .int .i64 x242002_2], .agg #[.int .i64 t256, .int .i64 t257]] (by rfl) rfl rfl (by (try simp only [List.map_toArray, List.map_cons, List.map_nil]); first | done | rfl | (simp only [List.length_drop, List.length_take]; rfl)) ?_
         with_reducible refine (change_Within.calls x242001_2 x242002_2 t256 t257 true _ A110.out).mono ?_
         rintro e w121 ⟨rfl, hb⟩
         refine ⟨_, rfl, ?_⟩
         have n0_ := Aside0.mk (Kd.R_below (rl_ HO_242000) hb)
         have n1_ := Aside0.mk (Kd.R_below (rl_ HO255) hb)
         have n2_ := Aside0.mk (bb_ BK229 hb)
         have n3_ := Aside0.mk (bb_ BK230 hb)
         have n4_ := Aside0.mk (bb_ BK241 hb)
         have n5_ := Aside0.mk (bb_ BK245 hb)
         have n6_ := Aside0.mk (bb_ BK258 hb)
         have n7_ := Aside0.mk (below_step bel_ hb)
         clear HO_242000
         clear HO255
         clear BK229
         clear BK230
         clear BK241
         clear BK245
         clear BK258
         clear HB
         have HO_242000 := n0_
         have HO255 := n1_
         have BK229 := n2_
         have BK230 := n3_
         have BK241 := n4_
         have BK245 := n5_
         have BK258 := n6_
         have HB := n7_
         clear n0_ n1_ n2_ n3_ n4_ n5_ n6_ n7_
         (try clear hb)
         (try clear hb2)
         (try clear hk)
         (try clear hi)
         refine hK.out _ _ ⟨(blk_cell BK241.out 0).trans rfl, (blk_cell BK241.out 1).trans rfl, (blk_cell BK241.out 2).trans rfl, (blk_cell BK258.out 0).trans rfl, (blk_cell BK258.out 1).trans rfl, (blk_cell BK258.out 2).trans rfl, (blk_cell BK245.out 0).trans rfl, (blk_cell BK245.out 1).trans rfl⟩ (fun hHeld => ?_)
         clear hK K
         refine norm_ (a' := ?_) ?_ ?_
         rotate_left
         · show Act.put _ (some 63) _ = _
           simp only [Act.put, List.setIfInBounds_toArray, List.set_cons_zero, List.set_cons_succ, i64_w, i32_w]
           rfl
         refine pure_ (i := 5) (N := some 64) (v := ?_) (a' := ?_) #[T_, T_, T_, T_, T_, T_, F_, F_, F_, F_, F_, F_, F_, F_, F_, F_, F_, F_, F_, F_, F_, F_, F_, F_, F_, F_, F_, F_, F_, F_, F_] rfl rfl (any_of HT_.out (by kernel_rfl)) (fun _ _ _ h => h) (Or.inl ⟨by rfl, ?_⟩) ?_ ?_
         rotate_left
         · intro w'
           go_simp
           with_reducible rfl
         rotate_left
         · simp only [Act.put, List.setIfInBounds_toArray, List.set_cons_zero, List.set_cons_succ, i64_w, i32_w]
           rfl
         refine pure_ (i := 6) (N := some 65) (v := ?_) (a' := ?_) #[T_, T_, T_, T_, T_, T_, T_, F_, F_, F_, F_, F_, F_, F_, F_, F_, F_, F_, F_, F_, F_, F_, F_, F_, F_, F_, F_, F_, F_, F_, F_] rfl rfl (any_of HT_.out (by kernel_rfl)) (fun _ _ _ h => h) (Or.inl ⟨by rfl, ?_⟩) ?_ ?_
         rotate_left
         · intro w'
           go_simp
           with_reducible rfl
         rotate_left
         · simp only [Act.put, List.setIfInBounds_toArray, List.set_cons_zero, List.set_cons_succ, i64_w, i32_w]
           rfl
         refine take_ (i := 7) (N := some 66) (v := ?_) (a' := ?_) #[T_, T_, T_, T_, T_, T_, T_, T_, F_, F_, F_, F_, F_, F_, F_, F_, F_, F_, F_, F_, F_, F_, F_, F_, F_, F_, F_, F_, F_, F_, F_] rfl rfl (take_ofW HT_.out HW_.out (by kernel_rfl)) (fun _ _ _ h => h) (Or.inl ⟨by rfl, ?_⟩) hHeld ?_ ?_
         rotate_left
         · rintro w' ⟨s0, s1, s2, s3, s4, s5, s6, s7⟩
           go_simp
           with_reducible rfl
         rotate_left
         · simp only [Act.put, List.setIfInBounds_toArray, List.set_cons_zero, List.set_cons_succ, i64_w, i32_w]
           rfl
         refine take_ (i := 10) (N := some 69) (v := ?_) (a' := ?_) #[T_, T_, T_, T_, T_, T_, T_, T_, F_, F_, T_, F_, F_, F_, F_, F_, F_, F_, F_, F_, F_, F_, F_, F_, F_, F_, F_, F_, F_, F_, F_] rfl rfl (take_ofW HT_.out HW_.out (by kernel_rfl)) (fun _ _ _ h => h) (Or.inl ⟨by rfl, ?_⟩) hHeld ?_ ?_
         rotate_left
         · rintro w' ⟨s0, s1, s2, s3, s4, s5, s6, s7⟩
           go_simp
           with_reducible rfl
         rotate_left
         · simp only [Act.put, List.setIfInBounds_toArray, List.set_cons_zero, List.set_cons_succ, i64_w, i32_w]
           rfl
         refine one_ (i := 8) (N := some 67) #[T_, T_, T_, T_, T_, T_, T_, T_, T_, F_, T_, F_, F_, F_, F_, F_, F_, F_, F_, F_, F_, F_, F_, F_, F_, F_, F_, F_, F_, F_, F_] rfl rfl (one_of HT_.out (by kernel_rfl)) (by decide) (fun K hK => ?_)
         refine goes_ Try.func10 (by kernel_rfl) rfl #[.agg #[.slice Ao104 t253.length co104, .int .i64 t256, .int .i64 t257]] (by rfl) rfl rfl (by (try simp only [List.map_toArray, List.map_cons, List.map_nil]); first | done | rfl | (simp only [List.length_drop, List.length_take]; rfl)) ?_
         with_reducible refine (front_Least.calls _ _ t253 t256 t257 t260 t261 _ ?side1 ?side2 A112.out).mono ?_
         (case side1 => repeat (first | exact (Kd.R_reads' HO255.out).2.2 | (with_reducible refine Kd.C_alloc ?_ _) | (with_reducible refine Kd.C_drewN ?_ _) | (with_reducible refine Kd.C_drew ?_)))
         (case side2 => exact (Kd.R_reads' HO255.out).2.1)
         rintro e w122 ⟨rfl, hb⟩
         refine ⟨_, rfl, ?_⟩
         have n0_ := Aside0.mk (Kd.R_below (rl_ HO_242000) hb)
         have n1_ := Aside0.mk (Kd.R_below (rl_ HO255) hb)
         have n2_ := Aside0.mk (bb_ BK229 hb)
         have n3_ := Aside0.mk (bb_ BK230 hb)
         have n4_ := Aside0.mk (bb_ BK241 hb)
         have n5_ := Aside0.mk (bb_ BK245 hb)
         have n6_ := Aside0.mk (bb_ BK258 hb)
         have n7_ := Aside0.mk (below_step bel_ hb)
         clear HO_242000
         clear HO255
         clear BK229
         clear BK230
         clear BK241
         clear BK245
         clear BK258
         clear HB
         have HO_242000 := n0_
         have HO255 := n1_
         have BK229 := n2_
         have BK230 := n3_
         have BK241 := n4_
         have BK245 := n5_
         have BK258 := n6_
         have HB := n7_
         clear n0_ n1_ n2_ n3_ n4_ n5_ n6_ n7_
         (try clear hb)
         (try clear hb2)
         (try clear hk)
         (try clear hi)
         refine hK.out _ _ ⟨(blk_cell BK241.out 0).trans rfl, (blk_cell BK241.out 1).trans rfl, (blk_cell BK241.out 2).trans rfl, (blk_cell BK258.out 0).trans rfl, (blk_cell BK258.out 1).trans rfl, (blk_cell BK258.out 2).trans rfl, (blk_cell BK245.out 0).trans rfl, (blk_cell BK245.out 1).trans rfl⟩ (fun hHeld => ?_)
         clear hK K
         refine norm_ (a' := ?_) ?_ ?_
         rotate_left
         · show Act.put _ (some 67) _ = _
           simp only [Act.put, List.setIfInBounds_toArray, List.set_cons_zero, List.set_cons_succ, i64_w, i32_w]
           rfl
         refine one_ (i := 9) (N := some 68) #[T_, T_, T_, T_, T_, T_, T_, T_, T_, T_, T_, F_, F_, F_, F_, F_, F_, F_, F_, F_, F_, F_, F_, F_, F_, F_, F_, F_, F_, F_, F_] rfl rfl (one_of HT_.out (by kernel_rfl)) (by decide) (fun K hK => ?_)
         refine goes_ Try.func20 (by kernel_rfl) rfl #[.agg #[.int .i64 t260, .int .i64 t261]] (by rfl) rfl rfl (by (try simp only [List.map_toArray, List.map_cons, List.map_nil]); first | done | rfl | (simp only [List.length_drop, List.length_take]; rfl)) ?_
         with_reducible refine (change_Size.calls t260 t261 t262 _ A113.out).mono ?_
         rintro e w123 ⟨rfl, hb⟩
         refine ⟨_, rfl, ?_⟩
         have n0_ := Aside0.mk (Kd.R_below (rl_ HO_242000) hb)
         have n1_ := Aside0.mk (Kd.R_below (rl_ HO255) hb)
         have n2_ := Aside0.mk (bb_ BK229 hb)
         have n3_ := Aside0.mk (bb_ BK230 hb)
         have n4_ := Aside0.mk (bb_ BK241 hb)
         have n5_ := Aside0.mk (bb_ BK245 hb)
         have n6_ := Aside0.mk (bb_ BK258 hb)
         have n7_ := Aside0.mk (below_step bel_ hb)
         clear HO_242000
         clear HO255
         clear BK229
         clear BK230
         clear BK241
         clear BK245
         clear BK258
         clear HB
         have HO_242000 := n0_
         have HO255 := n1_
         have BK229 := n2_
         have BK230 := n3_
         have BK241 := n4_
         have BK245 := n5_
         have BK258 := n6_
         have HB := n7_
         clear n0_ n1_ n2_ n3_ n4_ n5_ n6_ n7_
         (try clear hb)
         (try clear hb2)
         (try clear hk)
         (try clear hi)
         refine hK.out _ _ ⟨(blk_cell BK241.out 0).trans rfl, (blk_cell BK241.out 1).trans rfl, (blk_cell BK241.out 2).trans rfl, (blk_cell BK258.out 0).trans rfl, (blk_cell BK258.out 1).trans rfl, (blk_cell BK258.out 2).trans rfl, (blk_cell BK245.out 0).trans rfl, (blk_cell BK245.out 1).trans rfl⟩ (fun hHeld => ?_)
         clear hK K
         refine norm_ (a' := ?_) ?_ ?_
         rotate_left
         · show Act.put _ (some 68) _ = _
           simp only [Act.put, List.setIfInBounds_toArray, List.set_cons_zero, List.set_cons_succ, i64_w, i32_w]
           rfl
         refine one_ (i := 11) (N := some 70) #[T_, T_, T_, T_, T_, T_, T_, T_, T_, T_, T_, T_, F_, F_, F_, F_, F_, F_, F_, F_, F_, F_, F_, F_, F_, F_, F_, F_, F_, F_, F_] rfl rfl (one_of HT_.out (by kernel_rfl)) (by decide) (fun K hK => ?_)
         refine goes_ Try.func20 (by kernel_rfl) rfl #[.agg #[.int .i64 t243, .int .i64 t244]] (by rfl) rfl rfl (by (try simp only [List.map_toArray, List.map_cons, List.map_nil]); first | done | rfl | (simp only [List.length_drop, List.length_take]; rfl)) ?_
         with_reducible refine (change_Size.calls t243 t244 t263 _ A114.out).mono ?_
         rintro e w124 ⟨rfl, hb⟩
         refine ⟨_, rfl, ?_⟩
         have n0_ := Aside0.mk (Kd.R_below (rl_ HO_242000) hb)
         have n1_ := Aside0.mk (Kd.R_below (rl_ HO255) hb)
         have n2_ := Aside0.mk (bb_ BK229 hb)
         have n3_ := Aside0.mk (bb_ BK230 hb)
         have n4_ := Aside0.mk (bb_ BK241 hb)
         have n5_ := Aside0.mk (bb_ BK245 hb)
         have n6_ := Aside0.mk (bb_ BK258 hb)
         have n7_ := Aside0.mk (below_step bel_ hb)
         clear HO_242000
         clear HO255
         clear BK229
         clear BK230
         clear BK241
         clear BK245
         clear BK258
         clear HB
         have HO_242000 := n0_
         have HO255 := n1_
         have BK229 := n2_
         have BK230 := n3_
         have BK241 := n4_
         have BK245 := n5_
         have BK258 := n6_
         have HB := n7_
         clear n0_ n1_ n2_ n3_ n4_ n5_ n6_ n7_
         (try clear hb)
         (try clear hb2)
         (try clear hk)
         (try clear hi)
         refine hK.out _ _ ⟨(blk_cell BK241.out 0).trans rfl, (blk_cell BK241.out 1).trans rfl, (blk_cell BK241.out 2).trans rfl, (blk_cell BK258.out 0).trans rfl, (blk_cell BK258.out 1).trans rfl, (blk_cell BK258.out 2).trans rfl, (blk_cell BK245.out 0).trans rfl, (blk_cell BK245.out 1).trans rfl⟩ (fun hHeld => ?_)
         clear hK K
         refine norm_ (a' := ?_) ?_ ?_
         rotate_left
         · show Act.put _ (some 70) _ = _
           simp only [Act.put, List.setIfInBounds_toArray, List.set_cons_zero, List.set_cons_succ, i64_w, i32_w]
           rfl
         refine pure_ (i := 12) (N := some 71) (v := ?_) (a' := ?_) #[T_, T_, T_, T_, T_, T_, T_, T_, T_, T_, T_, T_, T_, F_, F_, F_, F_, F_, F_, F_, F_, F_, F_, F_, F_, F_, F_, F_, F_, F_, F_] rfl rfl (any_of HT_.out (by kernel_rfl)) (fun _ _ _ h => h) (Or.inl ⟨by rfl, ?_⟩) ?_ ?_
         rotate_left
         · intro w'
           go_simp
           with_reducible rfl
         rotate_left
         · simp only [Act.put, List.setIfInBounds_toArray, List.set_cons_zero, List.set_cons_succ, i64_w, i32_w]
           rfl
         refine pure_ (i := 13) (N := some 72) (v := ?_) (a' := ?_) #[T_, T_, T_, T_, T_, T_, T_, T_, T_, T_, T_, T_, T_, T_, F_, F_, F_, F_, F_, F_, F_, F_, F_, F_, F_, F_, F_, F_, F_, F_, F_] rfl rfl (any_of HT_.out (by kernel_rfl)) (fun _ _ _ h => h) (Or.inl ⟨by rfl, ?_⟩) ?_ ?_
         rotate_left
         · intro w'
           go_simp
           with_reducible rfl
         rotate_left
         · simp only [Act.put, List.setIfInBounds_toArray, List.set_cons_zero, List.set_cons_succ, i64_w, i32_w]
           rfl
         refine pure_ (i := 14) (N := some 73) (v := ?_) (a' := ?_) #[T_, T_, T_, T_, T_, T_, T_, T_, T_, T_, T_, T_, T_, T_, T_, F_, F_, F_, F_, F_, F_, F_, F_, F_, F_, F_, F_, F_, F_, F_, F_] rfl rfl (any_of HT_.out (by kernel_rfl)) (fun _ _ _ h => h) (Or.inl ⟨by rfl, ?_⟩) ?_ ?_
         rotate_left
         · intro w'
           go_simp
           with_reducible rfl
         rotate_left
         · simp only [Act.put, List.setIfInBounds_toArray, List.set_cons_zero, List.set_cons_succ, i64_w, i32_w]
           rfl
         refine pure_ (i := 15) (N := some 74) (v := ?_) (a' := ?_) #[T_, T_, T_, T_, T_, T_, T_, T_, T_, T_, T_, T_, T_, T_, T_, T_, F_, F_, F_, F_, F_, F_, F_, F_, F_, F_, F_, F_, F_, F_, F_] rfl rfl (any_of HT_.out (by kernel_rfl)) (fun _ _ _ h => h) (Or.inl ⟨by rfl, ?_⟩) ?_ ?_
         rotate_left
         · intro w'
           go_simp
           with_reducible rfl
         rotate_left
         · simp only [Act.put, List.setIfInBounds_toArray, List.set_cons_zero, List.set_cons_succ, i64_w, i32_w]
           rfl
         refine take_ (i := 16) (N := some 75) (v := ?_) (a' := ?_) #[T_, T_, T_, T_, T_, T_, T_, T_, T_, T_, T_, T_, T_, T_, T_, T_, T_, F_, F_, F_, F_, F_, F_, F_, F_, F_, F_, F_, F_, F_, F_] rfl rfl (take_ofW HT_.out HW_.out (by kernel_rfl)) (fun _ _ _ h => h) (Or.inl ⟨by rfl, ?_⟩) hHeld ?_ ?_
         rotate_left
         · rintro w' ⟨s0, s1, s2, s3, s4, s5, s6, s7⟩
           go_simp
           with_reducible rfl
         rotate_left
         · simp only [Act.put, List.setIfInBounds_toArray, List.set_cons_zero, List.set_cons_succ, i64_w, i32_w]
           rfl
         refine pure_ (i := 17) (N := some 76) (v := ?_) (a' := ?_) #[T_, T_, T_, T_, T_, T_, T_, T_, T_, T_, T_, T_, T_, T_, T_, T_, T_, T_, F_, F_, F_, F_, F_, F_, F_, F_, F_, F_, F_, F_, F_] rfl rfl (any_of HT_.out (by kernel_rfl)) (fun _ _ _ h => h) (Or.inl ⟨by rfl, ?_⟩) ?_ ?_
         rotate_left
         · intro w'
           go_simp
           with_reducible rfl
         rotate_left
         · simp only [Act.put, List.setIfInBounds_toArray, List.set_cons_zero, List.set_cons_succ, i64_w, i32_w]
           rfl
         refine pure_ (i := 18) (N := some 77) (v := ?_) (a' := ?_) #[T_, T_, T_, T_, T_, T_, T_, T_, T_, T_, T_, T_, T_, T_, T_, T_, T_, T_, T_, F_, F_, F_, F_, F_, F_, F_, F_, F_, F_, F_, F_] rfl rfl (any_of HT_.out (by kernel_rfl)) (fun _ _ _ h => h) (Or.inl ⟨by rfl, ?_⟩) ?_ ?_
         rotate_left
         · intro w'
           go_simp
           with_reducible rfl
         rotate_left
         · simp only [Act.put, List.setIfInBounds_toArray, List.set_cons_zero, List.set_cons_succ, i64_w, i32_w]
           rfl
         refine pure_ (i := 19) (N := some 78) (v := ?_) (a' := ?_) #[T_, T_, T_, T_, T_, T_, T_, T_, T_, T_, T_, T_, T_, T_, T_, T_, T_, T_, T_, T_, F_, F_, F_, F_, F_, F_, F_, F_, F_, F_, F_] rfl rfl (any_of HT_.out (by kernel_rfl)) (fun _ _ _ h => h) (Or.inl ⟨by rfl, ?_⟩) ?_ ?_
         rotate_left
         · intro w'
           go_simp
           with_reducible rfl
         rotate_left
         · simp only [Act.put, List.setIfInBounds_toArray, List.set_cons_zero, List.set_cons_succ, i64_w, i32_w]
           rfl
         refine pure_ (i := 20) (N := some 79) (v := ?_) (a' := ?_) #[T_, T_, T_, T_, T_, T_, T_, T_, T_, T_, T_, T_, T_, T_, T_, T_, T_, T_, T_, T_, T_, F_, F_, F_, F_, F_, F_, F_, F_, F_, F_] rfl rfl (any_of HT_.out (by kernel_rfl)) (fun _ _ _ h => h) (Or.inl ⟨by rfl, ?_⟩) ?_ ?_
         rotate_left
         · intro w'
           go_simp
           with_reducible rfl
         rotate_left
         · simp only [Act.put, List.setIfInBounds_toArray, List.set_cons_zero, List.set_cons_succ, i64_w, i32_w]
           rfl
         refine pure_ (i := 21) (N := some 80) (v := ?_) (a' := ?_) #[T_, T_, T_, T_, T_, T_, T_, T_, T_, T_, T_, T_, T_, T_, T_, T_, T_, T_, T_, T_, T_, T_, F_, F_, F_, F_, F_, F_, F_, F_, F_] rfl rfl (any_of HT_.out (by kernel_rfl)) (fun _ _ _ h => h) (Or.inl ⟨by rfl, ?_⟩) ?_ ?_
         rotate_left
         · intro w'
           go_simp
           with_reducible rfl
         rotate_left
         · simp only [Act.put, List.setIfInBounds_toArray, List.set_cons_zero, List.set_cons_succ, i64_w, i32_w]
           rfl
         refine pure_ (i := 22) (N := some 81) (v := ?_) (a' := ?_) #[T_, T_, T_, T_, T_, T_, T_, T_, T_, T_, T_, T_, T_, T_, T_, T_, T_, T_, T_, T_, T_, T_, T_, F_, F_, F_, F_, F_, F_, F_, F_] rfl rfl (any_of HT_.out (by kernel_rfl)) (fun _ _ _ h => h) (Or.inl ⟨by rfl, ?_⟩) ?_ ?_
         rotate_left
         · intro w'
           go_simp
           with_reducible rfl
         rotate_left
         · simp only [Act.put, List.setIfInBounds_toArray, List.set_cons_zero, List.set_cons_succ, i64_w, i32_w]
           rfl
         refine pure_ (i := 23) (N := some 82) (v := ?_) (a' := ?_) #[T_, T_, T_, T_, T_, T_, T_, T_, T_, T_, T_, T_, T_, T_, T_, T_, T_, T_, T_, T_, T_, T_, T_, T_, F_, F_, F_, F_, F_, F_, F_] rfl rfl (any_of HT_.out (by kernel_rfl)) (fun _ _ _ h => h) (Or.inl ⟨by rfl, ?_⟩) ?_ ?_
         rotate_left
         · intro w'
           go_simp
           with_reducible rfl
         rotate_left
         · simp only [Act.put, List.setIfInBounds_toArray, List.set_cons_zero, List.set_cons_succ, i64_w, i32_w]
           rfl
         refine pure_ (i := 24) (N := some 83) (v := ?_) (a' := ?_) #[T_, T_, T_, T_, T_, T_, T_, T_, T_, T_, T_, T_, T_, T_, T_, T_, T_, T_, T_, T_, T_, T_, T_, T_, T_, F_, F_, F_, F_, F_, F_] rfl rfl (any_of HT_.out (by kernel_rfl)) (fun _ _ _ h => h) (Or.inl ⟨by rfl, ?_⟩) ?_ ?_
         rotate_left
         · intro w'
           go_simp
           with_reducible rfl
         rotate_left
         · simp only [Act.put, List.setIfInBounds_toArray, List.set_cons_zero, List.set_cons_succ, i64_w, i32_w]
           rfl
         refine take_ (i := 25) (N := some 84) (v := ?_) (a' := ?_) #[T_, T_, T_, T_, T_, T_, T_, T_, T_, T_, T_, T_, T_, T_, T_, T_, T_, T_, T_, T_, T_, T_, T_, T_, T_, T_, F_, F_, F_, F_, F_] rfl rfl (take_ofW HT_.out HW_.out (by kernel_rfl)) (fun _ _ _ h => h) (Or.inl ⟨by rfl, ?_⟩) hHeld ?_ ?_
         rotate_left
         · rintro w' ⟨s0, s1, s2, s3, s4, s5, s6, s7⟩
           go_simp
           with_reducible rfl
         rotate_left
         · simp only [Act.put, List.setIfInBounds_toArray, List.set_cons_zero, List.set_cons_succ, i64_w, i32_w]
           rfl
         refine take_ (i := 27) (N := some 86) (v := ?_) (a' := ?_) #[T_, T_, T_, T_, T_, T_, T_, T_, T_, T_, T_, T_, T_, T_, T_, T_, T_, T_, T_, T_, T_, T_, T_, T_, T_, T_, F_, T_, F_, F_, F_] rfl rfl (take_ofW HT_.out HW_.out (by kernel_rfl)) (fun _ _ _ h => h) (Or.inl ⟨by rfl, ?_⟩) hHeld ?_ ?_
         rotate_left
         · rintro w' ⟨s0, s1, s2, s3, s4, s5, s6, s7⟩
           go_simp
           with_reducible rfl
         rotate_left
         · simp only [Act.put, List.setIfInBounds_toArray, List.set_cons_zero, List.set_cons_succ, i64_w, i32_w]
           rfl
         refine one_ (i := 26) (N := some 85) #[T_, T_, T_, T_, T_, T_, T_, T_, T_, T_, T_, T_, T_, T_, T_, T_, T_, T_, T_, T_, T_, T_, T_, T_, T_, T_, T_, T_, F_, F_, F_] rfl rfl (one_of HT_.out (by kernel_rfl)) (by decide) (fun K hK => ?_)
         refine goes_ Try.func10 (by kernel_rfl) rfl #[.agg #[.slice Ao104 t253.length co104, .int .i64 t256, .int .i64 t257]] (by rfl) rfl rfl (by (try simp only [List.map_toArray, List.map_cons, List.map_nil]); first | done | rfl | (simp only [List.length_drop, List.length_take]; rfl)) ?_
         with_reducible refine (front_Least.calls _ _ t253 t256 t257 t264 t265 _ ?side1 ?side2 A118.out).mono ?_
         (case side1 => repeat (first | exact (Kd.R_reads' HO255.out).2.2 | (with_reducible refine Kd.C_alloc ?_ _) | (with_reducible refine Kd.C_drewN ?_ _) | (with_reducible refine Kd.C_drew ?_)))
         (case side2 => exact (Kd.R_reads' HO255.out).2.1)
         rintro e w125 ⟨rfl, hb⟩
         refine ⟨_, rfl, ?_⟩
         have n0_ := Aside0.mk (Kd.R_below (rl_ HO_242000) hb)
         have n1_ := Aside0.mk (Kd.R_below (rl_ HO255) hb)
         have n2_ := Aside0.mk (bb_ BK229 hb)
         have n3_ := Aside0.mk (bb_ BK230 hb)
         have n4_ := Aside0.mk (bb_ BK241 hb)
         have n5_ := Aside0.mk (bb_ BK245 hb)
         have n6_ := Aside0.mk (bb_ BK258 hb)
         have n7_ := Aside0.mk (below_step bel_ hb)
         clear HO_242000
         clear HO255
         clear BK229
         clear BK230
         clear BK241
         clear BK245
         clear BK258
         clear HB
         have HO_242000 := n0_
         have HO255 := n1_
         have BK229 := n2_
         have BK230 := n3_
         have BK241 := n4_
         have BK245 := n5_
         have BK258 := n6_
         have HB := n7_
         clear n0_ n1_ n2_ n3_ n4_ n5_ n6_ n7_
         (try clear hb)
         (try clear hb2)
         (try clear hk)
         (try clear hi)
         refine hK.out _ _ ⟨(blk_cell BK241.out 0).trans rfl, (blk_cell BK241.out 1).trans rfl, (blk_cell BK241.out 2).trans rfl, (blk_cell BK258.out 0).trans rfl, (blk_cell BK258.out 1).trans rfl, (blk_cell BK258.out 2).trans rfl, (blk_cell BK245.out 0).trans rfl, (blk_cell BK245.out 1).trans rfl⟩ (fun hHeld => ?_)
         clear hK K
         refine norm_ (a' := ?_) ?_ ?_
         rotate_left
         · show Act.put _ (some 85) _ = _
           simp only [Act.put, List.setIfInBounds_toArray, List.set_cons_zero, List.set_cons_succ, i64_w, i32_w]
           rfl
         refine pure_ (i := 28) (N := some 87) (v := ?_) (a' := ?_) #[T_, T_, T_, T_, T_, T_, T_, T_, T_, T_, T_, T_, T_, T_, T_, T_, T_, T_, T_, T_, T_, T_, T_, T_, T_, T_, T_, T_, T_, F_, F_] rfl rfl (any_of HT_.out (by kernel_rfl)) (fun _ _ _ h => h) (Or.inl ⟨by rfl, ?_⟩) ?_ ?_
         rotate_left
         · intro w'
           go_simp
           with_reducible rfl
         rotate_left
         · simp only [Act.put, List.setIfInBounds_toArray, List.set_cons_zero, List.set_cons_succ, i64_w, i32_w]
           rfl
         refine pure_ (i := 29) (N := some 88) (v := ?_) (a' := ?_) #[T_, T_, T_, T_, T_, T_, T_, T_, T_, T_, T_, T_, T_, T_, T_, T_, T_, T_, T_, T_, T_, T_, T_, T_, T_, T_, T_, T_, T_, T_, F_] rfl rfl (any_of HT_.out (by kernel_rfl)) (fun _ _ _ h => h) (Or.inl ⟨by rfl, ?_⟩) ?_ ?_
         rotate_left
         · intro w'
           go_simp
           with_reducible rfl
         rotate_left
         · simp only [Act.put, List.setIfInBounds_toArray, List.set_cons_zero, List.set_cons_succ, i64_w, i32_w]
           rfl
         refine pure_ (i := 30) (N := some 89) (v := ?_) (a' := ?_) #[T_, T_, T_, T_, T_, T_, T_, T_, T_, T_, T_, T_, T_, T_, T_, T_, T_, T_, T_, T_, T_, T_, T_, T_, T_, T_, T_, T_, T_, T_, T_] rfl rfl (any_of HT_.out (by kernel_rfl)) (fun _ _ _ h => h) (Or.inl ⟨by rfl, ?_⟩) ?_ ?_
         rotate_left
         · intro w'
           go_simp
           with_reducible rfl
         rotate_left
         · simp only [Act.put, List.setIfInBounds_toArray, List.set_cons_zero, List.set_cons_succ, i64_w, i32_w]
           rfl
         refine done_ (done_of HT_.out (by kernel_rfl)) ?_
         try go_wp2
         go_meet
         case rel => exact ⟨_, ((t264 == t243 && (t265 == t244))), (by first | rfl | (simp; done) | (simp [*]; done) | (simp; grind)), H', ⟨by have := HJ5.out; have := HK2.out; have := HK3.out; first | omega | exact Nat.le_refl _⟩, ⟨by (with_reducible repeat (first | apply Kd.R_alloc | apply Kd.R_drewN | apply Kd.R_drew)); exact HO_242000.out⟩, ⟨by (with_reducible repeat (first | apply Kd.R_alloc | apply Kd.R_drewN | apply Kd.R_drew)); exact HO255.out⟩, ⟨blf_⟩, ⟨blf_⟩, ⟨blf_⟩, ⟨blf_⟩, ⟨blf_⟩, ⟨bel_⟩⟩
        case rest =>
         clear HC94
         try clear c1
         try clear c2
         try clear p2
         try clear c10
         try clear c11
         try clear c19
         try clear c20
         try clear c111
         try clear c117
         try clear c117b0
         try clear c117b1
         obtain ⟨kq, x89_93, rfl, HA, HJ93, HO_242000, HO_259000, BK229, BK230, BK241, BK245, BK258, HB⟩ := hcut
         cases kq with
         | zero => exact absurd HA.out (by simp [ropewaylaw16_FrontAims.j3])
         | succ kj93 =>
          have H := HA.out
          clear HA
          simp only [ropewaylaw16_FrontAims.j3] at H
          by_cases c132 : x89_93 = true
          · subst c132
            have H1 : (some false) = some r := by rw [if_pos rfl] at H; exact H
            clear H
            have H := H1
            clear H1
            exact absurd (Option.some.inj H) (by rw [hr1_.out]; decide)
          replace c132 := Bool.eq_false_iff.mpr c132
          subst c132
          have H1 : (ropewaylaw16_FrontAims.l2 kj93 l2 (l2.length : Int) x33_2 t253 (t253.length : Int) 0 t253 t256 t257) = some r := by rw [if_neg (show ¬ (false = true) by decide)] at H; exact H
          clear H
          have H := H1
          clear H1
          have H' := Aside0.mk H
          clear H
          have hnb133 := NB258_229.out
          have hnc133 := NB229_258.out
          have hnb134 := NB258_230.out
          have hnc134 := NB230_258.out
          have hnb135 := NB258_241.out
          have hnc135 := NB241_258.out
          have hnb136 := NB258_245.out
          have hnc136 := NB245_258.out
          have hcz137_0 : wc.cell? ⟨gb258, 0, none⟩ = some (.slice Ao104 t253.length co104) := (blk_cell BK258.out 0).trans rfl
          have hcz137_1 : wc.cell? ⟨gb258, 1, none⟩ = some (.int .i64 t256) := (blk_cell BK258.out 1).trans rfl
          have hcz137_2 : wc.cell? ⟨gb258, 2, none⟩ = some (.int .i64 t257) := (blk_cell BK258.out 2).trans rfl
          have hfz137_0 := blk_frozen BK258.out 0
          have hfz137_1 := blk_frozen BK258.out 1
          have hfz137_2 := blk_frozen BK258.out 2
          go_wp2
          go_loopg [93] kj93 (fun kq v93 w' => ∃ (x93_5 : Int), v93 = .int .i64 x93_5 ∧ Aside0 (ropewaylaw16_FrontAims.l2 kq l2 (l2.length : Int) x33_2 t253 (t253.length : Int) x93_5 t253 t256 t257 = some r) ∧ Aside0 (kq ≤ kj93) ∧ Aside0 (Kd.R k24 24 w' w.heap.size (fun k_ => some k_ ≠ ((.slice Ao37 x242000_2.length co37) : Value).ownBlock ∧ k_ ≠ gb229 ∧ k_ ≠ gb230 ∧ k_ ≠ gb245) (.slice Ao104 t253.length co104) t253) ∧ Aside0 (Kd.R k24 24 w' w.heap.size (fun k_ => some k_ ≠ ((.slice Ao104 t253.length co104) : Value).ownBlock ∧ some k_ ≠ ((.slice Ao104 t253.length co104) : Value).ownBlock ∧ k_ ≠ gb229 ∧ k_ ≠ gb230 ∧ k_ ≠ gb245) (.slice Ao37 x242000_2.length co37) x242000_2) ∧ Aside0 (Kd.R k24 24 w' w.heap.size (fun k_ => some k_ ≠ ((.slice Ao37 x242000_2.length co37) : Value).ownBlock ∧ k_ ≠ gb229 ∧ k_ ≠ gb230 ∧ k_ ≠ gb245) (.slice Ao104 t253.length co104) t253) ∧ Aside0 (w'.heap[gb229]? = some (.cells #[.int .i64 a0_0, .int .i64 a0_1] 24 (0, 0))) ∧ Aside0 (w'.heap[gb230]? = some (.cells #[.int .i64 a1_0, .int .i64 a1_1] 24 (0, 0))) ∧ Aside0 (w'.heap[gb241]? = some (.cells #[(.slice Ao37 x242000_2.length co37), .int .i64 x242001_2, .int .i64 x242002_2] 26 (0, 0))) ∧ Aside0 (w'.heap[gb245]? = some (.cells #[.int .i64 t243, .int .i64 t244] 24 (0, 0))) ∧ Aside0 (w'.heap[gb258]? = some (.cells #[(.slice Ao104 t253.length co104), .int .i64 t256, .int .i64 t257] 26 (0, 0))) ∧ Aside0 (Below w.heap.size w w'))
          case atStart => exact ⟨(0), (by first | rfl | (simp; done) | (simp [*]; done) | (simp; grind)), H', ⟨Nat.le_refl _⟩, ⟨by (with_reducible repeat (first | apply Kd.R_alloc | apply Kd.R_drewN | apply Kd.R_drew)); exact HO_259000.out⟩, ⟨by (with_reducible repeat (first | apply Kd.R_alloc | apply Kd.R_drewN | apply Kd.R_drew)); exact Kd.R_mono HO_242000.out (fun _ hk => ⟨hk.1, ⟨hk.1, ⟨hk.2.1, ⟨hk.2.2.1, hk.2.2.2⟩⟩⟩⟩)⟩, ⟨by (with_reducible repeat (first | apply Kd.R_alloc | apply Kd.R_drewN | apply Kd.R_drew)); exact HO_259000.out⟩, ⟨blf_⟩, ⟨blf_⟩, ⟨blf_⟩, ⟨blf_⟩, ⟨blf_⟩, ⟨bel_⟩⟩
          case round =>
           clear H'
           try clear c1
           try clear c2
           try clear p2
           try clear c10
           try clear c11
           try clear c13
           try clear c19
           try clear c20
           try clear c111
           try clear c117
           try clear c117b0
           try clear c117b1
           try clear c132
           try clear c133
           try clear c134
           try clear c135
           try clear c136
           try clear hcz137_0
           try clear hcz137_1
           try clear hcz137_2
           try clear hfz137_0
           try clear hfz137_1
           try clear hfz137_2
           try clear p2
           obtain ⟨x93_5, rfl, HA, HK5, HO_91, HO_242000, HO_259000, BK229, BK230, BK241, BK245, BK258, HB⟩ := hrel
           cases gk with
           | zero => exact absurd HA.out (by simp [ropewaylaw16_FrontAims.l2])
           | succ k5 =>
            have H := HA.out
            clear HA
            simp only [ropewaylaw16_FrontAims.l2] at H
            by_cases c138 : x93_5 < (t253.length : Int)
            rotate_left
            · rw [if_neg c138] at H
              have c138b0 : decide (x93_5 < (t253.length : Int)) = false := decide_eq_false c138
              clear c138
              replace H := Option.bind_eq_some_iff.mp H
              obtain ⟨⟨t285, t286⟩, A1860, H⟩ := H
              replace H : ((front_Ends.f t253 t256 t257 t285 t286).bind fun t287 => (if t287 = true then (if (t253.length : Int) > 1 then (some false) else (ropewaylaw16_FrontAims.l0 k5 l2 (l2.length : Int) (wrap64 (x33_2 + 1)) t253 t256 t257)) else (ropewaylaw16_FrontAims.l0 k5 l2 (l2.length : Int) (wrap64 (x33_2 + 1)) t253 t256 t257))) = some r := H
              have A186 := Aside0.mk A1860
              clear A1860
              replace H := Option.bind_eq_some_iff.mp H
              obtain ⟨t287, A1870, H⟩ := H
              replace H : (if t287 = true then (if (t253.length : Int) > 1 then (some false) else (ropewaylaw16_FrontAims.l0 k5 l2 (l2.length : Int) (wrap64 (x33_2 + 1)) t253 t256 t257)) else (ropewaylaw16_FrontAims.l0 k5 l2 (l2.length : Int) (wrap64 (x33_2 + 1)) t253 t256 t257)) = some r := H
              have A187 := Aside0.mk A1870
              clear A1870
              by_cases c188 : t287 = true
              rotate_left
              · replace c188 := Bool.eq_false_iff.mpr c188
                subst c188
                have H1 : (ropewaylaw16_FrontAims.l0 k5 l2 (l2.length : Int) (wrap64 (x33_2 + 1)) t253 t256 t257) = some r := by rw [if_neg (show ¬ (false = true) by decide)] at H; exact H
                clear H
                have H := H1
                clear H1
                have H' := Aside0.mk H
                clear H
                try go_wp2
                have n0_ := Aside0.mk (Kd.R_drew HO_91.out)
                have n1_ := Aside0.mk (Kd.R_drew HO_242000.out)
                have n2_ := Aside0.mk (Kd.R_drew HO_259000.out)
                have n3_ := Aside0.mk (blk_drew BK229.out)
                have n4_ := Aside0.mk (blk_drew BK230.out)
                have n5_ := Aside0.mk (blk_drew BK241.out)
                have n6_ := Aside0.mk (blk_drew BK245.out)
                have n7_ := Aside0.mk (blk_drew BK258.out)
                have n8_ := Aside0.mk (below_drew1 HB.out)
                clear HO_91
                clear HO_242000
                clear HO_259000
                clear BK229
                clear BK230
                clear BK241
                clear BK245
                clear BK258
                clear HB
                have HO_91 := n0_
                have HO_242000 := n1_
                have HO_259000 := n2_
                have BK229 := n3_
                have BK230 := n4_
                have BK241 := n5_
                have BK245 := n6_
                have BK258 := n7_
                have HB := n8_
                clear n0_ n1_ n2_ n3_ n4_ n5_ n6_ n7_ n8_
                refine start_ (n := 10) (S := fun w' => w'.cell? ⟨gb258, 0, none⟩ = some (.slice Ao104 t253.length co104) ∧ w'.cell? ⟨gb258, 1, none⟩ = some (.int .i64 t256) ∧ w'.cell? ⟨gb258, 2, none⟩ = some (.int .i64 t257)) (ds := []) #[F_, F_, F_, F_, F_, F_, F_, F_, F_, F_] (by kernel_rfl) rfl rfl ⟨(blk_cell BK258.out 0).trans rfl, (blk_cell BK258.out 1).trans rfl, (blk_cell BK258.out 2).trans rfl⟩ (fun hHeld => ?_); refine with_tabW ropewaylaw16_FrontAims.tab25 ropewaylaw16_FrontAims.bits25 (fun HT_ HW_ => ?_)
                generalize wr.drew = w202 at HO_91 HO_242000 HO_259000 BK229 BK230 BK241 BK245 BK258 HB hHeld ⊢
                refine take_ (i := 0) (N := some 130) (v := ?_) (a' := ?_) #[T_, F_, F_, F_, F_, F_, F_, F_, F_, F_] rfl rfl (take_ofW HT_.out HW_.out (by kernel_rfl)) (fun _ _ _ h => h) (Or.inl ⟨by rfl, ?_⟩) hHeld ?_ ?_
                rotate_left
                · rintro w' ⟨s0, s1, s2⟩
                  go_simp
                  with_reducible rfl
                rotate_left
                · simp only [Act.put, List.setIfInBounds_toArray, List.set_cons_zero, List.set_cons_succ, i64_w, i32_w]
                  rfl
                refine take_ (i := 1) (N := some 131) (v := ?_) (a' := ?_) #[T_, T_, F_, F_, F_, F_, F_, F_, F_, F_] rfl rfl (take_ofW HT_.out HW_.out (by kernel_rfl)) (fun _ _ _ h => h) (Or.inl ⟨by rfl, ?_⟩) hHeld ?_ ?_
                rotate_left
                · rintro w' ⟨s0, s1, s2⟩
                  go_simp
                  with_reducible rfl
                rotate_left
                · simp only [Act.put, List.setIfInBounds_toArray, List.set_cons_zero, List.set_cons_succ, i64_w, i32_w]
                  rfl
                refine one_ (i := 2) (N := some 132) #[T_, T_, T_, F_, F_, F_, F_, F_, F_, F_] rfl rfl (one_of HT_.out (by kernel_rfl)) (by decide) (fun K hK => ?_)
                refine goes_ Try.func10 (by kernel_rfl) rfl #[.agg #[.slice Ao104 t253.length co104, .int .i64 t256, .int .i64 t257]] (by rfl) rfl rfl (by (try simp only [List.map_toArray, List.map_cons, List.map_nil]); first | done | rfl | (simp only [List.length_drop, List.length_take]; rfl)) ?_
                with_reducible refine (front_Least.calls _ _ t253 t256 t257 t285 t286 _ ?side1 ?side2 A186.out).mono ?_
                (case side1 => repeat (first | exact (Kd.R_reads' HO_259000.out).2.2 | (with_reducible refine Kd.C_alloc ?_ _) | (with_reducible refine Kd.C_drewN ?_ _) | (with_reducible refine Kd.C_drew ?_)))
                (case side2 => exact (Kd.R_reads' HO_259000.out).2.1)
                rintro e w203 ⟨rfl, hb⟩
                refine ⟨_, rfl, ?_⟩
                have n0_ := Aside0.mk (Kd.R_below (rl_ HO_91) hb)
                have n1_ := Aside0.mk (Kd.R_below (rl_ HO_242000) hb)
                have n2_ := Aside0.mk (Kd.R_below (rl_ HO_259000) hb)
                have n3_ := Aside0.mk (bb_ BK229 hb)
                have n4_ := Aside0.mk (bb_ BK230 hb)
                have n5_ := Aside0.mk (bb_ BK241 hb)
                have n6_ := Aside0.mk (bb_ BK245 hb)
                have n7_ := Aside0.mk (bb_ BK258 hb)
                have n8_ := Aside0.mk (below_step bel_ hb)
                clear HO_91
                clear HO_242000
                clear HO_259000
                clear BK229
                clear BK230
                clear BK241
                clear BK245
                clear BK258
                clear HB
                have HO_91 := n0_
                have HO_242000 := n1_
                have HO_259000 := n2_
                have BK229 := n3_
                have BK230 := n4_
                have BK241 := n5_
                have BK245 := n6_
                have BK258 := n7_
                have HB := n8_
                clear n0_ n1_ n2_ n3_ n4_ n5_ n6_ n7_ n8_
                (try clear hb)
                (try clear hb2)
                (try clear hk)
                (try clear hi)
                refine hK.out _ _ ⟨(blk_cell BK258.out 0).trans rfl, (blk_cell BK258.out 1).trans rfl, (blk_cell BK258.out 2).trans rfl⟩ (fun hHeld => ?_)
                clear hK K
                refine norm_ (a' := ?_) ?_ ?_
                rotate_left
                · show Act.put _ (some 132) _ = _
                  simp only [Act.put, List.setIfInBounds_toArray, List.set_cons_zero, List.set_cons_succ, i64_w, i32_w]
                  rfl
                refine one_ (i := 3) (N := some 133) #[T_, T_, T_, T_, F_, F_, F_, F_, F_, F_] rfl rfl (one_of HT_.out (by kernel_rfl)) (by decide) (fun K hK => ?_)
                refine goes_ Try.func9 (by kernel_rfl) rfl #[.agg #[.slice Ao104 t253.length co104, .int .i64 t256, .int .i64 t257], .agg #[.int .i64 t285, .int .i64 t286]] (by rfl) rfl rfl (by (try simp only [List.map_toArray, List.map_cons, List.map_nil]); first | done | rfl | (simp only [List.length_drop, List.length_take]; rfl)) ?_
                with_reducible refine (front_Ends.calls _ _ t253 t256 t257 t285 t286 false _ ?side1 ?side2 A187.out).mono ?_
                (case side1 => repeat (first | exact (Kd.R_reads' HO_259000.out).2.2 | (with_reducible refine Kd.C_alloc ?_ _) | (with_reducible refine Kd.C_drewN ?_ _) | (with_reducible refine Kd.C_drew ?_)))
                (case side2 => exact (Kd.R_reads' HO_259000.out).2.1)
                rintro e w204 ⟨rfl, hb⟩
                refine ⟨_, rfl, ?_⟩
                have n0_ := Aside0.mk (Kd.R_below (rl_ HO_91) hb)
                have n1_ := Aside0.mk (Kd.R_below (rl_ HO_242000) hb)
                have n2_ := Aside0.mk (Kd.R_below (rl_ HO_259000) hb)
                have n3_ := Aside0.mk (bb_ BK229 hb)
                have n4_ := Aside0.mk (bb_ BK230 hb)
                have n5_ := Aside0.mk (bb_ BK241 hb)
                have n6_ := Aside0.mk (bb_ BK245 hb)
                have n7_ := Aside0.mk (bb_ BK258 hb)
                have n8_ := Aside0.mk (below_step bel_ hb)
                clear HO_91
                clear HO_242000
                clear HO_259000
                clear BK229
                clear BK230
                clear BK241
                clear BK245
                clear BK258
                clear HB
                have HO_91 := n0_
                have HO_242000 := n1_
                have HO_259000 := n2_
                have BK229 := n3_
                have BK230 := n4_
                have BK241 := n5_
                have BK245 := n6_
                have BK258 := n7_
                have HB := n8_
                clear n0_ n1_ n2_ n3_ n4_ n5_ n6_ n7_ n8_
                (try clear hb)
                (try clear hb2)
                (try clear hk)
                (try clear hi)
                refine hK.out _ _ ⟨(blk_cell BK258.out 0).trans rfl, (blk_cell BK258.out 1).trans rfl, (blk_cell BK258.out 2).trans rfl⟩ (fun hHeld => ?_)
                clear hK K
                refine norm_ (a' := ?_) ?_ ?_
                rotate_left
                · show Act.put _ (some 133) _ = _
                  simp only [Act.put, List.setIfInBounds_toArray, List.set_cons_zero, List.set_cons_succ, i64_w, i32_w]
                  rfl
                refine pure_ (i := 4) (N := some 134) (v := ?_) (a' := ?_) #[T_, T_, T_, T_, T_, F_, F_, F_, F_, F_] rfl rfl (any_of HT_.out (by kernel_rfl)) (fun _ _ _ h => h) (Or.inl ⟨by rfl, ?_⟩) ?_ ?_
                rotate_left
                · intro w'
                  go_simp
                  with_reducible rfl
                rotate_left
                · simp only [Act.put, List.setIfInBounds_toArray, List.set_cons_zero, List.set_cons_succ, i64_w, i32_w]
                  rfl
                refine pure_ (i := 5) (N := some 135) (v := undef) (a' := ?_) #[T_, T_, T_, T_, T_, T_, F_, F_, F_, F_] rfl rfl (any_of HT_.out (by kernel_rfl)) (fun _ _ _ h => h) (Or.inr ⟨by rfl, rfl⟩) ?_ ?_
                rotate_left
                · simp only [Act.put, List.setIfInBounds_toArray, List.set_cons_zero, List.set_cons_succ, i64_w, i32_w]
                  rfl
                refine pure_ (i := 6) (N := some 136) (v := undef) (a' := ?_) #[T_, T_, T_, T_, T_, T_, T_, F_, F_, F_] rfl rfl (any_of HT_.out (by kernel_rfl)) (fun _ _ _ h => h) (Or.inr ⟨by rfl, rfl⟩) ?_ ?_
                rotate_left
                · simp only [Act.put, List.setIfInBounds_toArray, List.set_cons_zero, List.set_cons_succ, i64_w, i32_w]
                  rfl
                refine pure_ (i := 7) (N := some 137) (v := undef) (a' := ?_) #[T_, T_, T_, T_, T_, T_, T_, T_, F_, F_] rfl rfl (any_of HT_.out (by kernel_rfl)) (fun _ _ _ h => h) (Or.inr ⟨by rfl, rfl⟩) ?_ ?_
                rotate_left
                · simp only [Act.put, List.setIfInBounds_toArray, List.set_cons_zero, List.set_cons_succ, i64_w, i32_w]
                  rfl
                refine pure_ (i := 8) (N := some 138) (v := undef) (a' := ?_) #[T_, T_, T_, T_, T_, T_, T_, T_, T_, F_] rfl rfl (any_of HT_.out (by kernel_rfl)) (fun _ _ _ h => h) (Or.inr ⟨by rfl, rfl⟩) ?_ ?_
                rotate_left
                · simp only [Act.put, List.setIfInBounds_toArray, List.set_cons_zero, List.set_cons_succ, i64_w, i32_w]
                  rfl
                refine pure_ (i := 9) (N := some 139) (v := ?_) (a' := ?_) #[T_, T_, T_, T_, T_, T_, T_, T_, T_, T_] rfl rfl (any_of HT_.out (by kernel_rfl)) (fun _ _ _ h => h) (Or.inl ⟨by rfl, ?_⟩) ?_ ?_
                rotate_left
                · intro w'
                  go_simp
                  with_reducible rfl
                rotate_left
                · simp only [Act.put, List.setIfInBounds_toArray, List.set_cons_zero, List.set_cons_succ, i64_w, i32_w]
                  rfl
                refine done_ (done_of HT_.out (by kernel_rfl)) ?_
                have hnb205 := NB258_229.out
                have hnc205 := NB229_258.out
                have hnb206 := NB258_230.out
                have hnc206 := NB230_258.out
                have hnb207 := NB258_241.out
                have hnc207 := NB241_258.out
                have hnb208 := NB258_245.out
                have hnc208 := NB245_258.out
                have hcz209_0 : w204.cell? ⟨gb258, 0, none⟩ = some (.slice Ao104 t253.length co104) := (blk_cell BK258.out 0).trans rfl
                have hcz209_1 : w204.cell? ⟨gb258, 1, none⟩ = some (.int .i64 t256) := (blk_cell BK258.out 1).trans rfl
                have hcz209_2 : w204.cell? ⟨gb258, 2, none⟩ = some (.int .i64 t257) := (blk_cell BK258.out 2).trans rfl
                have hfz209_0 := blk_frozen BK258.out 0
                have hfz209_1 := blk_frozen BK258.out 1
                have hfz209_2 := blk_frozen BK258.out 2
                have hnb210 := NB241_229.out
                have hnc210 := NB229_241.out
                have hnb211 := NB241_230.out
                have hnc211 := NB230_241.out
                have hnb212 := NB241_245.out
                have hnc212 := NB245_241.out
                have hcz213_0 : w204.cell? ⟨gb241, 0, none⟩ = some (.slice Ao37 x242000_2.length co37) := (blk_cell BK241.out 0).trans rfl
                have hcz213_1 : w204.cell? ⟨gb241, 1, none⟩ = some (.int .i64 x242001_2) := (blk_cell BK241.out 1).trans rfl
                have hcz213_2 : w204.cell? ⟨gb241, 2, none⟩ = some (.int .i64 x242002_2) := (blk_cell BK241.out 2).trans rfl
                have hfz213_0 := blk_frozen BK241.out 0
                have hfz213_1 := blk_frozen BK241.out 1
                have hfz213_2 := blk_frozen BK241.out 2
                try go_wp2
                go_roundg k5
                case measure => have := HJ5.out; have := HK2.out; have := HK3.out; have := HJ93.out; have := HK5.out; omega
                case rel => exact ⟨(wrap64 (x33_2 + 1)), (t253), (t256), (t257), (.slice Ao104 t253.length co104), (by first | rfl | (simp; done) | (simp [*]; done) | (simp; grind)), H', ⟨by have := HJ5.out; have := HK2.out; have := HK3.out; have := HJ93.out; have := HK5.out; omega⟩, ⟨by (with_reducible repeat (first | apply Kd.R_alloc | apply Kd.R_drewN | apply Kd.R_drew)); exact Kd.R_mono (Kd.R_far (p := ⟨gb241, 2, none⟩) (Kd.R_far (p := ⟨gb241, 1, none⟩) (Kd.R_far (p := ⟨gb241, 0, none⟩) (Kd.R_types HO_259000.out BK241.out (by decide)) (fun _ hk => hk.2) (.slice Ao104 t253.length co104)) (fun _ hk => hk.2) (.int .i64 t256)) (fun _ hk => hk.2) (.int .i64 t257)) (fun _ hk => ⟨hk.1.2.1, hk.1.2.2.1⟩)⟩, ⟨blf_⟩, ⟨blf_⟩, ⟨by (with_reducible repeat (first | refine blk_drewN ?_ _ | refine blk_drew ?_ | refine blk_alloc ?_ _)); refine blk_put (cs := #[.slice Ao104 t253.length co104, .int .i64 t256, .int .i64 x242002_2]) ?_ 2 _ rfl; (with_reducible repeat (first | refine blk_drewN ?_ _ | refine blk_drew ?_ | refine blk_alloc ?_ _)); refine blk_put (cs := #[.slice Ao104 t253.length co104, .int .i64 x242001_2, .int .i64 x242002_2]) ?_ 1 _ rfl; (with_reducible repeat (first | refine blk_drewN ?_ _ | refine blk_drew ?_ | refine blk_alloc ?_ _)); refine blk_put (cs := #[.slice Ao37 x242000_2.length co37, .int .i64 x242001_2, .int .i64 x242002_2]) ?_ 0 _ rfl; (with_reducible repeat (first | refine blk_drewN ?_ _ | refine blk_drew ?_ | refine blk_alloc ?_ _)); exact BK241.out⟩, ⟨bel_⟩⟩
              subst c188
              have H1 : (if (t253.length : Int) > 1 then (some false) else (ropewaylaw16_FrontAims.l0 k5 l2 (l2.length : Int) (wrap64 (x33_2 + 1)) t253 t256 t257)) = some r := by rw [if_pos rfl] at H; exact H
              clear H
              have H := H1
              clear H1
              by_cases c189 : (t253.length : Int) > 1
              · rw [if_pos c189] at H
                have c189b0 : decide (1 < (t253.length : Int)) = true := decide_eq_true c189
                have c189b1 : decide (1 < t253.length) = true := decide_eq_true (by omega)
                clear c189
                exact absurd (Option.some.inj H) (by rw [hr1_.out]; decide)
              rw [if_neg c189] at H
              have c189b0 : decide (1 < (t253.length : Int)) = false := decide_eq_false c189
              have c189b1 : decide (1 < t253.length) = false := decide_eq_false (by omega)
              clear c189
              have H' := Aside0.mk H
              clear H
              try go_wp2
              have n0_ := Aside0.mk (Kd.R_drew HO_91.out)
              have n1_ := Aside0.mk (Kd.R_drew HO_242000.out)
              have n2_ := Aside0.mk (Kd.R_drew HO_259000.out)
              have n3_ := Aside0.mk (blk_drew BK229.out)
              have n4_ := Aside0.mk (blk_drew BK230.out)
              have n5_ := Aside0.mk (blk_drew BK241.out)
              have n6_ := Aside0.mk (blk_drew BK245.out)
              have n7_ := Aside0.mk (blk_drew BK258.out)
              have n8_ := Aside0.mk (below_drew1 HB.out)
              clear HO_91
              clear HO_242000
              clear HO_259000
              clear BK229
              clear BK230
              clear BK241
              clear BK245
              clear BK258
              clear HB
              have HO_91 := n0_
              have HO_242000 := n1_
              have HO_259000 := n2_
              have BK229 := n3_
              have BK230 := n4_
              have BK241 := n5_
              have BK245 := n6_
              have BK258 := n7_
              have HB := n8_
              clear n0_ n1_ n2_ n3_ n4_ n5_ n6_ n7_ n8_
              refine start_ (n := 10) (S := fun w' => w'.cell? ⟨gb258, 0, none⟩ = some (.slice Ao104 t253.length co104) ∧ w'.cell? ⟨gb258, 1, none⟩ = some (.int .i64 t256) ∧ w'.cell? ⟨gb258, 2, none⟩ = some (.int .i64 t257)) (ds := []) #[F_, F_, F_, F_, F_, F_, F_, F_, F_, F_] (by kernel_rfl) rfl rfl ⟨(blk_cell BK258.out 0).trans rfl, (blk_cell BK258.out 1).trans rfl, (blk_cell BK258.out 2).trans rfl⟩ (fun hHeld => ?_); refine with_tabW ropewaylaw16_FrontAims.tab25 ropewaylaw16_FrontAims.bits25 (fun HT_ HW_ => ?_)
              generalize wr.drew = w190 at HO_91 HO_242000 HO_259000 BK229 BK230 BK241 BK245 BK258 HB hHeld ⊢
              refine take_ (i := 0) (N := some 130) (v := ?_) (a' := ?_) #[T_, F_, F_, F_, F_, F_, F_, F_, F_, F_] rfl rfl (take_ofW HT_.out HW_.out (by kernel_rfl)) (fun _ _ _ h => h) (Or.inl ⟨by rfl, ?_⟩) hHeld ?_ ?_
              rotate_left
              · rintro w' ⟨s0, s1, s2⟩
                go_simp
                with_reducible rfl
              rotate_left
              · simp only [Act.put, List.setIfInBounds_toArray, List.set_cons_zero, List.set_cons_succ, i64_w, i32_w]
                rfl
              refine take_ (i := 1) (N := some 131) (v := ?_) (a' := ?_) #[T_, T_, F_, F_, F_, F_, F_, F_, F_, F_] rfl rfl (take_ofW HT_.out HW_.out (by kernel_rfl)) (fun _ _ _ h => h) (Or.inl ⟨by rfl, ?_⟩) hHeld ?_ ?_
              rotate_left
              · rintro w' ⟨s0, s1, s2⟩
                go_simp
                with_reducible rfl
              rotate_left
              · simp only [Act.put, List.setIfInBounds_toArray, List.set_cons_zero, List.set_cons_succ, i64_w, i32_w]
                rfl
              refine one_ (i := 2) (N := some 132) #[T_, T_, T_, F_, F_, F_, F_, F_, F_, F_] rfl rfl (one_of HT_.out (by kernel_rfl)) (by decide) (fun K hK => ?_)
              refine goes_ Try.func10 (by kernel_rfl) rfl #[.agg #[.slice Ao104 t253.length co104, .int .i64 t256, .int .i64 t257]] (by rfl) rfl rfl (by (try simp only [List.map_toArray, List.map_cons, List.map_nil]); first | done | rfl | (simp only [List.length_drop, List.length_take]; rfl)) ?_
              with_reducible refine (front_Least.calls _ _ t253 t256 t257 t285 t286 _ ?side1 ?side2 A186.out).mono ?_
              (case side1 => repeat (first | exact (Kd.R_reads' HO_259000.out).2.2 | (with_reducible refine Kd.C_alloc ?_ _) | (with_reducible refine Kd.C_drewN ?_ _) | (with_reducible refine Kd.C_drew ?_)))
              (case side2 => exact (Kd.R_reads' HO_259000.out).2.1)
              rintro e w191 ⟨rfl, hb⟩
              refine ⟨_, rfl, ?_⟩
              have n0_ := Aside0.mk (Kd.R_below (rl_ HO_91) hb)
              have n1_ := Aside0.mk (Kd.R_below (rl_ HO_242000) hb)
              have n2_ := Aside0.mk (Kd.R_below (rl_ HO_259000) hb)
              have n3_ := Aside0.mk (bb_ BK229 hb)
              have n4_ := Aside0.mk (bb_ BK230 hb)
              have n5_ := Aside0.mk (bb_ BK241 hb)
              have n6_ := Aside0.mk (bb_ BK245 hb)
              have n7_ := Aside0.mk (bb_ BK258 hb)
              have n8_ := Aside0.mk (below_step bel_ hb)
              clear HO_91
              clear HO_242000
              clear HO_259000
              clear BK229
              clear BK230
              clear BK241
              clear BK245
              clear BK258
              clear HB
              have HO_91 := n0_
              have HO_242000 := n1_
              have HO_259000 := n2_
              have BK229 := n3_
              have BK230 := n4_
              have BK241 := n5_
              have BK245 := n6_
              have BK258 := n7_
              have HB := n8_
              clear n0_ n1_ n2_ n3_ n4_ n5_ n6_ n7_ n8_
              (try clear hb)
              (try clear hb2)
              (try clear hk)
              (try clear hi)
              refine hK.out _ _ ⟨(blk_cell BK258.out 0).trans rfl, (blk_cell BK258.out 1).trans rfl, (blk_cell BK258.out 2).trans rfl⟩ (fun hHeld => ?_)
              clear hK K
              refine norm_ (a' := ?_) ?_ ?_
              rotate_left
              · show Act.put _ (some 132) _ = _
                simp only [Act.put, List.setIfInBounds_toArray, List.set_cons_zero, List.set_cons_succ, i64_w, i32_w]
                rfl
              refine one_ (i := 3) (N := some 133) #[T_, T_, T_, T_, F_, F_, F_, F_, F_, F_] rfl rfl (one_of HT_.out (by kernel_rfl)) (by decide) (fun K hK => ?_)
              refine goes_ Try.func9 (by kernel_rfl) rfl #[.agg #[.slice Ao104 t253.length co104, .int .i64 t256, .int .i64 t257], .agg #[.int .i64 t285, .int .i64 t286]] (by rfl) rfl rfl (by (try simp only [List.map_toArray, List.map_cons, List.map_nil]); first | done | rfl | (simp only [List.length_drop, List.length_take]; rfl)) ?_
              with_reducible refine (front_Ends.calls _ _ t253 t256 t257 t285 t286 true _ ?side1 ?side2 A187.out).mono ?_
              (case side1 => repeat (first | exact (Kd.R_reads' HO_259000.out).2.2 | (with_reducible refine Kd.C_alloc ?_ _) | (with_reducible refine Kd.C_drewN ?_ _) | (with_reducible refine Kd.C_drew ?_)))
              (case side2 => exact (Kd.R_reads' HO_259000.out).2.1)
              rintro e w192 ⟨rfl, hb⟩
              refine ⟨_, rfl, ?_⟩
              have n0_ := Aside0.mk (Kd.R_below (rl_ HO_91) hb)
              have n1_ := Aside0.mk (Kd.R_below (rl_ HO_242000) hb)
              have n2_ := Aside0.mk (Kd.R_below (rl_ HO_259000) hb)
              have n3_ := Aside0.mk (bb_ BK229 hb)
              have n4_ := Aside0.mk (bb_ BK230 hb)
              have n5_ := Aside0.mk (bb_ BK241 hb)
              have n6_ := Aside0.mk (bb_ BK245 hb)
              have n7_ := Aside0.mk (bb_ BK258 hb)
              have n8_ := Aside0.mk (below_step bel_ hb)
              clear HO_91
              clear HO_242000
              clear HO_259000
              clear BK229
              clear BK230
              clear BK241
              clear BK245
              clear BK258
              clear HB
              have HO_91 := n0_
              have HO_242000 := n1_
              have HO_259000 := n2_
              have BK229 := n3_
              have BK230 := n4_
              have BK241 := n5_
              have BK245 := n6_
              have BK258 := n7_
              have HB := n8_
              clear n0_ n1_ n2_ n3_ n4_ n5_ n6_ n7_ n8_
              (try clear hb)
              (try clear hb2)
              (try clear hk)
              (try clear hi)
              refine hK.out _ _ ⟨(blk_cell BK258.out 0).trans rfl, (blk_cell BK258.out 1).trans rfl, (blk_cell BK258.out 2).trans rfl⟩ (fun hHeld => ?_)
              clear hK K
              refine norm_ (a' := ?_) ?_ ?_
              rotate_left
              · show Act.put _ (some 133) _ = _
                simp only [Act.put, List.setIfInBounds_toArray, List.set_cons_zero, List.set_cons_succ, i64_w, i32_w]
                rfl
              refine pure_ (i := 4) (N := some 134) (v := ?_) (a' := ?_) #[T_, T_, T_, T_, T_, F_, F_, F_, F_, F_] rfl rfl (any_of HT_.out (by kernel_rfl)) (fun _ _ _ h => h) (Or.inl ⟨by rfl, ?_⟩) ?_ ?_
              rotate_left
              · intro w'
                go_simp
                with_reducible rfl
              rotate_left
              · simp only [Act.put, List.setIfInBounds_toArray, List.set_cons_zero, List.set_cons_succ, i64_w, i32_w]
                rfl
              refine pure_ (i := 5) (N := some 135) (v := ?_) (a' := ?_) #[T_, T_, T_, T_, T_, T_, F_, F_, F_, F_] rfl rfl (any_of HT_.out (by kernel_rfl)) (fun _ _ _ h => h) (Or.inl ⟨by rfl, ?_⟩) ?_ ?_
              rotate_left
              · intro w'
                go_simp
                with_reducible rfl
              rotate_left
              · simp only [Act.put, List.setIfInBounds_toArray, List.set_cons_zero, List.set_cons_succ, i64_w, i32_w]
                rfl
              refine take_ (i := 6) (N := some 136) (v := ?_) (a' := ?_) #[T_, T_, T_, T_, T_, T_, T_, F_, F_, F_] rfl rfl (take_ofW HT_.out HW_.out (by kernel_rfl)) (fun _ _ _ h => h) (Or.inl ⟨by rfl, ?_⟩) hHeld ?_ ?_
              rotate_left
              · rintro w' ⟨s0, s1, s2⟩
                go_simp
                with_reducible rfl
              rotate_left
              · simp only [Act.put, List.setIfInBounds_toArray, List.set_cons_zero, List.set_cons_succ, i64_w, i32_w]
                rfl
              refine pure_ (i := 7) (N := some 137) (v := ?_) (a' := ?_) #[T_, T_, T_, T_, T_, T_, T_, T_, F_, F_] rfl rfl (any_of HT_.out (by kernel_rfl)) (fun _ _ _ h => h) (Or.inl ⟨by rfl, ?_⟩) ?_ ?_
              rotate_left
              · intro w'
                go_simp
                with_reducible rfl
              rotate_left
              · simp only [Act.put, List.setIfInBounds_toArray, List.set_cons_zero, List.set_cons_succ, i64_w, i32_w]
                rfl
              refine pure_ (i := 8) (N := some 138) (v := ?_) (a' := ?_) #[T_, T_, T_, T_, T_, T_, T_, T_, T_, F_] rfl rfl (any_of HT_.out (by kernel_rfl)) (fun _ _ _ h => h) (Or.inl ⟨by rfl, ?_⟩) ?_ ?_
              rotate_left
              · intro w'
                go_simp
                with_reducible rfl
              rotate_left
              · simp only [Act.put, List.setIfInBounds_toArray, List.set_cons_zero, List.set_cons_succ, i64_w, i32_w]
                rfl
              refine pure_ (i := 9) (N := some 139) (v := ?_) (a' := ?_) #[T_, T_, T_, T_, T_, T_, T_, T_, T_, T_] rfl rfl (any_of HT_.out (by kernel_rfl)) (fun _ _ _ h => h) (Or.inl ⟨by rfl, ?_⟩) ?_ ?_
              rotate_left
              · intro w'
                go_simp
                with_reducible rfl
              rotate_left
              · simp only [Act.put, List.setIfInBounds_toArray, List.set_cons_zero, List.set_cons_succ, i64_w, i32_w]
                rfl
              refine done_ (done_of HT_.out (by kernel_rfl)) ?_
              have hnb193 := NB258_229.out
              have hnc193 := NB229_258.out
              have hnb194 := NB258_230.out
              have hnc194 := NB230_258.out
              have hnb195 := NB258_241.out
              have hnc195 := NB241_258.out
              have hnb196 := NB258_245.out
              have hnc196 := NB245_258.out
              have hcz197_0 : w192.cell? ⟨gb258, 0, none⟩ = some (.slice Ao104 t253.length co104) := (blk_cell BK258.out 0).trans rfl
              have hcz197_1 : w192.cell? ⟨gb258, 1, none⟩ = some (.int .i64 t256) := (blk_cell BK258.out 1).trans rfl
              have hcz197_2 : w192.cell? ⟨gb258, 2, none⟩ = some (.int .i64 t257) := (blk_cell BK258.out 2).trans rfl
              have hfz197_0 := blk_frozen BK258.out 0
              have hfz197_1 := blk_frozen BK258.out 1
              have hfz197_2 := blk_frozen BK258.out 2
              have hnb198 := NB241_229.out
              have hnc198 := NB229_241.out
              have hnb199 := NB241_230.out
              have hnc199 := NB230_241.out
              have hnb200 := NB241_245.out
              have hnc200 := NB245_241.out
              have hcz201_0 : w192.cell? ⟨gb241, 0, none⟩ = some (.slice Ao37 x242000_2.length co37) := (blk_cell BK241.out 0).trans rfl
              have hcz201_1 : w192.cell? ⟨gb241, 1, none⟩ = some (.int .i64 x242001_2) := (blk_cell BK241.out 1).trans rfl
              have hcz201_2 : w192.cell? ⟨gb241, 2, none⟩ = some (.int .i64 x242002_2) := (blk_cell BK241.out 2).trans rfl
              have hfz201_0 := blk_frozen BK241.out 0
              have hfz201_1 := blk_frozen BK241.out 1
              have hfz201_2 := blk_frozen BK241.out 2
              try go_wp2
              go_roundg k5
              case measure => have := HJ5.out; have := HK2.out; have := HK3.out; have := HJ93.out; have := HK5.out; omega
              case rel => exact ⟨(wrap64 (x33_2 + 1)), (t253), (t256), (t257), (.slice Ao104 t253.length co104), (by first | rfl | (simp; done) | (simp [*]; done) | (simp; grind)), H', ⟨by have := HJ5.out; have := HK2.out; have := HK3.out; have := HJ93.out; have := HK5.out; omega⟩, ⟨by (with_reducible repeat (first | apply Kd.R_alloc | apply Kd.R_drewN | apply Kd.R_drew)); exact Kd.R_mono (Kd.R_far (p := ⟨gb241, 2, none⟩) (Kd.R_far (p := ⟨gb241, 1, none⟩) (Kd.R_far (p := ⟨gb241, 0, none⟩) (Kd.R_types HO_259000.out BK241.out (by decide)) (fun _ hk => hk.2) (.slice Ao104 t253.length co104)) (fun _ hk => hk.2) (.int .i64 t256)) (fun _ hk => hk.2) (.int .i64 t257)) (fun _ hk => ⟨hk.1.2.1, hk.1.2.2.1⟩)⟩, ⟨blf_⟩, ⟨blf_⟩, ⟨by (with_reducible repeat (first | refine blk_drewN ?_ _ | refine blk_drew ?_ | refine blk_alloc ?_ _)); refine blk_put (cs := #[.slice Ao104 t253.length co104, .int .i64 t256, .int .i64 x242002_2]) ?_ 2 _ rfl; (with_reducible repeat (first | refine blk_drewN ?_ _ | refine blk_drew ?_ | refine blk_alloc ?_ _)); refine blk_put (cs := #[.slice Ao104 t253.length co104, .int .i64 x242001_2, .int .i64 x242002_2]) ?_ 1 _ rfl; (with_reducible repeat (first | refine blk_drewN ?_ _ | refine blk_drew ?_ | refine blk_alloc ?_ _)); refine blk_put (cs := #[.slice Ao37 x242000_2.length co37, .int .i64 x242001_2, .int .i64 x242002_2]) ?_ 0 _ rfl; (with_reducible repeat (first | refine blk_drewN ?_ _ | refine blk_drew ?_ | refine blk_alloc ?_ _)); exact BK241.out⟩, ⟨bel_⟩⟩
            rw [if_pos c138] at H
            have c138b0 : decide (x93_5 < (t253.length : Int)) = true := decide_eq_true c138
            clear c138
            by_cases c139 : 0 ≤ x93_5
            rotate_left
            · rw [if_neg c139] at H
              exact absurd H (by simp)
            rw [if_pos c139] at H
            have c139b0 : decide (0 ≤ x93_5) = true := decide_eq_true c139
            clear c139
            by_cases c140 : x93_5 < (t253.length : Int)
            rotate_left
            · rw [if_neg c140] at H
              exact absurd H (by simp)
            rw [if_pos c140] at H
            have c140b0 : decide (x93_5 < (t253.length : Int)) = true := decide_eq_true c140
            clear c140
            replace H := Option.bind_eq_some_iff.mp H
            obtain ⟨t268, A1410, H⟩ := H
            replace H : (if t268 = true then (if x93_5 > 0 then (if 0 ≤ (wrap64 (x93_5 - 1)) then (if (wrap64 (x93_5 - 1)) < (t253.length : Int) then ((view_Less.f k5 ((rd_T24 t253 (wrap64 (x93_5 - 1))).f0) ((rd_T24 t253 (wrap64 (x93_5 - 1))).f1) ((rd_T24 t253 x93_5).f0) ((rd_T24 t253 x93_5).f1)).bind fun t270 => (if t270 = true then ((front_Want.f t253 t256 t257 ((rd_T24 t253 x93_5).f0) ((rd_T24 t253 x93_5).f1)).bind fun bt271 => ((change_Join.f k5 (([(⟨(rd_T24 t253 x93_5).f0, (rd_T24 t253 x93_5).f1⟩ : S24), (⟨bt271.1, bt271.2⟩ : S24)] : List (S24)))).bind fun bt276 => (if (!(bt276.1 == t256) || (!(bt276.2 == t257))) = true then (some false) else (ropewaylaw16_FrontAims.l2 k5 l2 (l2.length : Int) x33_2 t253 (t253.length : Int) (wrap64 (x93_5 + 1)) t253 t256 t257)))) else (some false))) else (none)) else (none)) else ((front_Want.f t253 t256 t257 ((rd_T24 t253 x93_5).f0) ((rd_T24 t253 x93_5).f1)).bind fun bt278 => ((change_Join.f k5 (([(⟨(rd_T24 t253 x93_5).f0, (rd_T24 t253 x93_5).f1⟩ : S24), (⟨bt278.1, bt278.2⟩ : S24)] : List (S24)))).bind fun bt283 => (if (!(bt283.1 == t256) || (!(bt283.2 == t257))) = true then (some false) else (ropewaylaw16_FrontAims.l2 k5 l2 (l2.length : Int) x33_2 t253 (t253.length : Int) (wrap64 (x93_5 + 1)) t253 t256 t257))))) else (some false)) = some r := H
            have A141 := Aside0.mk A1410
            clear A1410
            by_cases c142 : t268 = true
            rotate_left
            · replace c142 := Bool.eq_false_iff.mpr c142
              subst c142
              have H1 : (some false) = some r := by rw [if_neg (show ¬ (false = true) by decide)] at H; exact H
              clear H
              have H := H1
              clear H1
              exact absurd (Option.some.inj H) (by rw [hr1_.out]; decide)
            subst c142
            have H1 : (if x93_5 > 0 then (if 0 ≤ (wrap64 (x93_5 - 1)) then (if (wrap64 (x93_5 - 1)) < (t253.length : Int) then ((view_Less.f k5 ((rd_T24 t253 (wrap64 (x93_5 - 1))).f0) ((rd_T24 t253 (wrap64 (x93_5 - 1))).f1) ((rd_T24 t253 x93_5).f0) ((rd_T24 t253 x93_5).f1)).bind fun t270 => (if t270 = true then ((front_Want.f t253 t256 t257 ((rd_T24 t253 x93_5).f0) ((rd_T24 t253 x93_5).f1)).bind fun bt271 => ((change_Join.f k5 (([(⟨(rd_T24 t253 x93_5).f0, (rd_T24 t253 x93_5).f1⟩ : S24), (⟨bt271.1, bt271.2⟩ : S24)] : List (S24)))).bind fun bt276 => (if (!(bt276.1 == t256) || (!(bt276.2 == t257))) = true then (some false) else (ropewaylaw16_FrontAims.l2 k5 l2 (l2.length : Int) x33_2 t253 (t253.length : Int) (wrap64 (x93_5 + 1)) t253 t256 t257)))) else (some false))) else (none)) else (none)) else ((front_Want.f t253 t256 t257 ((rd_T24 t253 x93_5).f0) ((rd_T24 t253 x93_5).f1)).bind fun bt278 => ((change_Join.f k5 (([(⟨(rd_T24 t253 x93_5).f0, (rd_T24 t253 x93_5).f1⟩ : S24), (⟨bt278.1, bt278.2⟩ : S24)] : List (S24)))).bind fun bt283 => (if (!(bt283.1 == t256) || (!(bt283.2 == t257))) = true then (some false) else (ropewaylaw16_FrontAims.l2 k5 l2 (l2.length : Int) x33_2 t253 (t253.length : Int) (wrap64 (x93_5 + 1)) t253 t256 t257))))) = some r := by rw [if_pos rfl] at H; exact H
            clear H
            have H := H1
            clear H1
            by_cases c143 : x93_5 > 0
            rotate_left
            · rw [if_neg c143] at H
              have c143b0 : decide (0 < x93_5) = false := decide_eq_false c143
              clear c143
              replace H := Option.bind_eq_some_iff.mp H
              obtain ⟨⟨t278, t279⟩, A1680, H⟩ := H
              replace H : ((change_Join.f k5 (([(⟨(rd_T24 t253 x93_5).f0, (rd_T24 t253 x93_5).f1⟩ : S24), (⟨t278, t279⟩ : S24)] : List (S24)))).bind fun bt283 => (if (!(bt283.1 == t256) || (!(bt283.2 == t257))) = true then (some false) else (ropewaylaw16_FrontAims.l2 k5 l2 (l2.length : Int) x33_2 t253 (t253.length : Int) (wrap64 (x93_5 + 1)) t253 t256 t257))) = some r := H
              have A168 := Aside0.mk A1680
              clear A1680
              obtain ⟨y280, hy280⟩ : ∃ y_ : List (S24), y_ = (([(⟨(rd_T24 t253 x93_5).f0, (rd_T24 t253 x93_5).f1⟩ : S24), (⟨t278, t279⟩ : S24)] : List (S24))) := ⟨_, rfl⟩
              replace H : ((change_Join.f k5 y280).bind fun bt283 => (if (!(bt283.1 == t256) || (!(bt283.2 == t257))) = true then (some false) else (ropewaylaw16_FrontAims.l2 k5 l2 (l2.length : Int) x33_2 t253 (t253.length : Int) (wrap64 (x93_5 + 1)) t253 t256 t257))) = some r := by first | (rw [hy280]; with_reducible exact H) | (have H2_ := (Option.bind_some _ _).symm.trans H; rw [hy280]; with_reducible exact H2_) | (have H2_ := (Option.bind_some _ _).symm.trans H; with_reducible exact H2_) | with_reducible exact H | (rw [hy280]; exact H) | exact H
              have Ny280 := Aside0.mk hy280
              clear hy280
              replace H := Option.bind_eq_some_iff.mp H
              obtain ⟨⟨t283, t284⟩, A1690, H⟩ := H
              replace H : (if (!(t283 == t256) || (!(t284 == t257))) = true then (some false) else (ropewaylaw16_FrontAims.l2 k5 l2 (l2.length : Int) x33_2 t253 (t253.length : Int) (wrap64 (x93_5 + 1)) t253 t256 t257)) = some r := H
              have A169 := Aside0.mk A1690
              clear A1690
              by_cases c170 : (!(t283 == t256) || (!(t284 == t257))) = true
              · rw [if_pos c170] at H
                have c170b0 : (!(t283 == t256) || (!(t284 == t257))) = true := c170
                clear c170
                exact absurd (Option.some.inj H) (by rw [hr1_.out]; decide)
              rw [if_neg c170] at H
              have c170b0 : (!(t283 == t256) || (!(t284 == t257))) = false := by simpa using c170
              clear c170
              have H' := Aside0.mk H
              clear H
              have p266 : 0 ≤ (x93_5 : Int) := of_decide_eq_true (by first | (with_reducible assumption) | assumption)
              have q266 : x93_5 < (t253.length : Int) := of_decide_eq_true (by first | (with_reducible assumption) | assumption)
              obtain ⟨ad266, e266, hx266_0, hx266_1⟩ := at_T24 (Kd.R_reads' HO_91.out).2.2 x93_5 p266 q266
              cases e266
              replace p266 := eq_true p266
              replace q266 := eq_true q266
              try go_wp2_with (first | ((with_reducible refine gate_dst (N := 15) rfl ?_); (try (refine gate_guard (by rfl) ?_; dsimp only)); refine box_event ?hg (N := 15) ?hd (cs := #[.int .i64 0, .int .i64 0]) (t := 24) ?hr ?_; (case hd => rfl); (case hg => rfl); (case hr => first | (go_simp; done) | (go_simp; rfl)); intro gb267 hg w171 hbox hb; have n0_ := Aside0.mk (Kd.R_below (Kd.R_elderB (rl_ HO_91) gb267 (Nat.le_of_eq hg.symm)) hb); have n1_ := Aside0.mk (Kd.R_below (Kd.R_elderB (rl_ HO_242000) gb267 (Nat.le_of_eq hg.symm)) hb); have n2_ := Aside0.mk (Kd.R_below (Kd.R_elderB (rl_ HO_259000) gb267 (Nat.le_of_eq hg.symm)) hb); have n3_ := Aside0.mk (bb_ BK229 hb); have n4_ := Aside0.mk (bb_ BK230 hb); have n5_ := Aside0.mk (bb_ BK241 hb); have n6_ := Aside0.mk (bb_ BK245 hb); have n7_ := Aside0.mk (bb_ BK258 hb); have n8_ := Aside0.mk (below_step bel_ hb); have n9_ := Aside0.mk (hbox); have n10_ := Aside0.mk (bs_ hg); have n11_ := Aside0.mk (bs_ hg); have n12_ := Aside0.mk (nl_ BK229 hg); have n13_ := Aside0.mk (ng_ BK229 hg); have n14_ := Aside0.mk (nl_ BK230 hg); have n15_ := Aside0.mk (ng_ BK230 hg); have n16_ := Aside0.mk (nl_ BK241 hg); have n17_ := Aside0.mk (ng_ BK241 hg); have n18_ := Aside0.mk (nl_ BK245 hg); have n19_ := Aside0.mk (ng_ BK245 hg); have n20_ := Aside0.mk (nl_ BK258 hg); have n21_ := Aside0.mk (ng_ BK258 hg); clear HO_91; clear HO_242000; clear HO_259000; clear BK229; clear BK230; clear BK241; clear BK245; clear BK258; clear HB; have HO_91 := n0_; have HO_242000 := n1_; have HO_259000 := n2_; have BK229 := n3_; have BK230 := n4_; have BK241 := n5_; have BK245 := n6_; have BK258 := n7_; have HB := n8_; have BK267 := n9_; have GW267 := n10_; have GE267 := n11_; have NB229_267 := n12_; have NB267_229 := n13_; have NB230_267 := n14_; have NB267_230 := n15_; have NB241_267 := n16_; have NB267_241 := n17_; have NB245_267 := n18_; have NB267_245 := n19_; have NB258_267 := n20_; have NB267_258 := n21_; clear n0_ n1_ n2_ n3_ n4_ n5_ n6_ n7_ n8_ n9_ n10_ n11_ n12_ n13_ n14_ n15_ n16_ n17_ n18_ n19_ n20_ n21_; clear hb hbox hg; have hnb172 := NB267_229.out; have hnc172 := NB229_267.out; have hnb173 := NB267_230.out; have hnc173 := NB230_267.out; have hnb174 := NB267_241.out; have hnc174 := NB241_267.out; have hnb175 := NB267_245.out; have hnc175 := NB245_267.out; have hnb176 := NB267_258.out; have hnc176 := NB258_267.out; have hcz177_0 : w171.cell? ⟨gb267, 0, none⟩ = some (.int .i64 0) := (blk_cell BK267.out 0).trans rfl; have hcz177_1 : w171.cell? ⟨gb267, 1, none⟩ = some (.int .i64 0) := (blk_cell BK267.out 1).trans rfl; have hfz177_0 := blk_frozen BK267.out 0; have hfz177_1 := blk_frozen BK267.out 1))
              have n0_ : Aside0 (Kd.R k24 24 ((w171.setCell ⟨gb267, 0, none⟩ (.int .i64 ((rd_T24 t253 x93_5).f0))).setCell ⟨gb267, 1, none⟩ (.int .i64 ((rd_T24 t253 x93_5).f1))) w.heap.size (fun k_ => some k_ ≠ (.slice Ao37 x242000_2.length co37 : Value).ownBlock ∧ k_ ≠ gb229 ∧ k_ ≠ gb230 ∧ k_ ≠ gb245 ∧ k_ ≠ gb267) (.slice (some ad266) t253.length co104) t253) := ⟨by (with_reducible repeat (first | apply Kd.R_alloc | apply Kd.R_drewN | apply Kd.R_drew)); exact Kd.R_mono (Kd.R_far (p := ⟨gb267, 1, none⟩) (Kd.R_far (p := ⟨gb267, 0, none⟩) (Kd.R_mono HO_91.out (fun k_ hk => (⟨hk, hk.2⟩ : _ ∧ k_ ≠ gb267))) (fun _ hk => hk.2) (.int .i64 ((rd_T24 t253 x93_5).f0))) (fun _ hk => hk.2) (.int .i64 ((rd_T24 t253 x93_5).f1))) (fun _ hk => ⟨hk.1.1.1, ⟨hk.1.1.2.1, ⟨hk.1.1.2.2.1, ⟨hk.1.1.2.2.2, hk.1.2⟩⟩⟩⟩)⟩
              have n1_ : Aside0 (Kd.R k24 24 ((w171.setCell ⟨gb267, 0, none⟩ (.int .i64 ((rd_T24 t253 x93_5).f0))).setCell ⟨gb267, 1, none⟩ (.int .i64 ((rd_T24 t253 x93_5).f1))) w.heap.size (fun k_ => some k_ ≠ (.slice (some ad266) t253.length co104 : Value).ownBlock ∧ some k_ ≠ (.slice (some ad266) t253.length co104 : Value).ownBlock ∧ k_ ≠ gb229 ∧ k_ ≠ gb230 ∧ k_ ≠ gb245 ∧ k_ ≠ gb267) (.slice Ao37 x242000_2.length co37) x242000_2) := ⟨by (with_reducible repeat (first | apply Kd.R_alloc | apply Kd.R_drewN | apply Kd.R_drew)); exact Kd.R_mono (Kd.R_far (p := ⟨gb267, 1, none⟩) (Kd.R_far (p := ⟨gb267, 0, none⟩) (Kd.R_mono HO_242000.out (fun k_ hk => (⟨hk, hk.2⟩ : _ ∧ k_ ≠ gb267))) (fun _ hk => hk.2) (.int .i64 ((rd_T24 t253 x93_5).f0))) (fun _ hk => hk.2) (.int .i64 ((rd_T24 t253 x93_5).f1))) (fun _ hk => ⟨hk.1.1.1, ⟨hk.1.1.2.1, ⟨hk.1.1.2.2.1, ⟨hk.1.1.2.2.2.1, ⟨hk.1.1.2.2.2.2, hk.1.2⟩⟩⟩⟩⟩)⟩
              have n2_ : Aside0 (Kd.R k24 24 ((w171.setCell ⟨gb267, 0, none⟩ (.int .i64 ((rd_T24 t253 x93_5).f0))).setCell ⟨gb267, 1, none⟩ (.int .i64 ((rd_T24 t253 x93_5).f1))) w.heap.size (fun k_ => some k_ ≠ (.slice Ao37 x242000_2.length co37 : Value).ownBlock ∧ k_ ≠ gb229 ∧ k_ ≠ gb230 ∧ k_ ≠ gb245 ∧ k_ ≠ gb267) (.slice (some ad266) t253.length co104) t253) := ⟨by (with_reducible repeat (first | apply Kd.R_alloc | apply Kd.R_drewN | apply Kd.R_drew)); exact Kd.R_mono (Kd.R_far (p := ⟨gb267, 1, none⟩) (Kd.R_far (p := ⟨gb267, 0, none⟩) (Kd.R_mono HO_259000.out (fun k_ hk => (⟨hk, hk.2⟩ : _ ∧ k_ ≠ gb267))) (fun _ hk => hk.2) (.int .i64 ((rd_T24 t253 x93_5).f0))) (fun _ hk => hk.2) (.int .i64 ((rd_T24 t253 x93_5).f1))) (fun _ hk => ⟨hk.1.1.1, ⟨hk.1.1.2.1, ⟨hk.1.1.2.2.1, ⟨hk.1.1.2.2.2, hk.1.2⟩⟩⟩⟩)⟩
              have n3_ : Aside0 (((w171.setCell ⟨gb267, 0, none⟩ (.int .i64 ((rd_T24 t253 x93_5).f0))).setCell ⟨gb267, 1, none⟩ (.int .i64 ((rd_T24 t253 x93_5).f1))).heap[gb229]? = some (.cells #[.int .i64 a0_0, .int .i64 a0_1] 24 (0, 0))) := ⟨blf_⟩
              have n4_ : Aside0 (((w171.setCell ⟨gb267, 0, none⟩ (.int .i64 ((rd_T24 t253 x93_5).f0))).setCell ⟨gb267, 1, none⟩ (.int .i64 ((rd_T24 t253 x93_5).f1))).heap[gb230]? = some (.cells #[.int .i64 a1_0, .int .i64 a1_1] 24 (0, 0))) := ⟨blf_⟩
              have n5_ : Aside0 (((w171.setCell ⟨gb267, 0, none⟩ (.int .i64 ((rd_T24 t253 x93_5).f0))).setCell ⟨gb267, 1, none⟩ (.int .i64 ((rd_T24 t253 x93_5).f1))).heap[gb241]? = some (.cells #[.slice Ao37 x242000_2.length co37, .int .i64 x242001_2, .int .i64 x242002_2] 26 (0, 0))) := ⟨blf_⟩
              have n6_ : Aside0 (((w171.setCell ⟨gb267, 0, none⟩ (.int .i64 ((rd_T24 t253 x93_5).f0))).setCell ⟨gb267, 1, none⟩ (.int .i64 ((rd_T24 t253 x93_5).f1))).heap[gb245]? = some (.cells #[.int .i64 t243, .int .i64 t244] 24 (0, 0))) := ⟨blf_⟩
              have n7_ : Aside0 (((w171.setCell ⟨gb267, 0, none⟩ (.int .i64 ((rd_T24 t253 x93_5).f0))).setCell ⟨gb267, 1, none⟩ (.int .i64 ((rd_T24 t253 x93_5).f1))).heap[gb258]? = some (.cells #[.slice (some ad266) t253.length co104, .int .i64 t256, .int .i64 t257] 26 (0, 0))) := ⟨blf_⟩
              have n8_ : Aside0 (((w171.setCell ⟨gb267, 0, none⟩ (.int .i64 ((rd_T24 t253 x93_5).f0))).setCell ⟨gb267, 1, none⟩ (.int .i64 ((rd_T24 t253 x93_5).f1))).heap[gb267]? = some (.cells #[.int .i64 ((rd_T24 t253 x93_5).f0), .int .i64 ((rd_T24 t253 x93_5).f1)] 24 (0, 0))) := ⟨by (with_reducible repeat (first | refine blk_drewN ?_ _ | refine blk_drew ?_ | refine blk_alloc ?_ _)); refine blk_put (cs := #[.int .i64 ((rd_T24 t253 x93_5).f0), .int .i64 0]) ?_ 1 _ rfl; (with_reducible repeat (first | refine blk_drewN ?_ _ | refine blk_drew ?_ | refine blk_alloc ?_ _)); refine blk_put (cs := #[.int .i64 0, .int .i64 0]) ?_ 0 _ rfl; (with_reducible repeat (first | refine blk_drewN ?_ _ | refine blk_drew ?_ | refine blk_alloc ?_ _)); exact BK267.out⟩
              have n9_ : Aside0 (Below w.heap.size w ((w171.setCell ⟨gb267, 0, none⟩ (.int .i64 ((rd_T24 t253 x93_5).f0))).setCell ⟨gb267, 1, none⟩ (.int .i64 ((rd_T24 t253 x93_5).f1)))) := ⟨bel_⟩
              (try clear HO_91)
              (try clear HO_242000)
              (try clear HO_259000)
              (try clear BK229)
              (try clear BK230)
              (try clear BK241)
              (try clear BK245)
              (try clear BK258)
              (try clear BK267)
              (try clear HB)
              generalize ((w171.setCell ⟨gb267, 0, none⟩ (.int .i64 ((rd_T24 t253 x93_5).f0))).setCell ⟨gb267, 1, none⟩ (.int .i64 ((rd_T24 t253 x93_5).f1))) = w178 at n0_ n1_ n2_ n3_ n4_ n5_ n6_ n7_ n8_ n9_ ⊢
              have HO_91 := n0_
              have HO_242000 := n1_
              have HO_259000 := n2_
              have BK229 := n3_
              have BK230 := n4_
              have BK241 := n5_
              have BK245 := n6_
              have BK258 := n7_
              have BK267 := n8_
              have HB := n9_
              clear n0_ n1_ n2_ n3_ n4_ n5_ n6_ n7_ n8_ n9_
              have n0_ := Aside0.mk (Kd.R_drew HO_91.out)
              have n1_ := Aside0.mk (Kd.R_drew HO_242000.out)
              have n2_ := Aside0.mk (Kd.R_drew HO_259000.out)
              have n3_ := Aside0.mk (blk_drew BK229.out)
              have n4_ := Aside0.mk (blk_drew BK230.out)
              have n5_ := Aside0.mk (blk_drew BK241.out)
              have n6_ := Aside0.mk (blk_drew BK245.out)
              have n7_ := Aside0.mk (blk_drew BK258.out)
              have n8_ := Aside0.mk (blk_drew BK267.out)
              have n9_ := Aside0.mk (below_drew1 HB.out)
              clear HO_91
              clear HO_242000
              clear HO_259000
              clear BK229
              clear BK230
              clear BK241
              clear BK245
              clear BK258
              clear BK267
              clear HB
              have HO_91 := n0_
              have HO_242000 := n1_
              have HO_259000 := n2_
              have BK229 := n3_
              have BK230 := n4_
              have BK241 := n5_
              have BK245 := n6_
              have BK258 := n7_
              have BK267 := n8_
              have HB := n9_
              clear n0_ n1_ n2_ n3_ n4_ n5_ n6_ n7_ n8_ n9_
              refine start_ (n := 31) (S := fun w' => w'.cell? ⟨gb267, 0, none⟩ = some (.int .i64 ((rd_T24 t253 x93_5).f0)) ∧ w'.cell? ⟨gb267, 1, none⟩ = some (.int .i64 ((rd_T24 t253 x93_5).f1)) ∧ w'.cell? ⟨gb258, 0, none⟩ = some (.slice (some ad266) t253.length co104) ∧ w'.cell? ⟨gb258, 1, none⟩ = some (.int .i64 t256) ∧ w'.cell? ⟨gb258, 2, none⟩ = some (.int .i64 t257)) (ds := []) #[F_, F_, F_, F_, F_, F_, F_, F_, F_, F_, F_, F_, F_, F_, F_, F_, F_, F_, F_, F_, F_, F_, F_, F_, F_, F_, F_, F_, F_, F_, F_] (by kernel_rfl) rfl rfl ⟨(blk_cell BK267.out 0).trans rfl, (blk_cell BK267.out 1).trans rfl, (blk_cell BK258.out 0).trans rfl, (blk_cell BK258.out 1).trans rfl, (blk_cell BK258.out 2).trans rfl⟩ (fun hHeld => ?_); refine with_tabW ropewaylaw16_FrontAims.tab22 ropewaylaw16_FrontAims.bits22 (fun HT_ HW_ => ?_)
              generalize w178.drew = w179 at HO_91 HO_242000 HO_259000 BK229 BK230 BK241 BK245 BK258 BK267 HB hHeld ⊢
              refine pure_ (i := 1) (N := some 99) (v := ?_) (a' := ?_) #[F_, T_, F_, F_, F_, F_, F_, F_, F_, F_, F_, F_, F_, F_, F_, F_, F_, F_, F_, F_, F_, F_, F_, F_, F_, F_, F_, F_, F_, F_, F_] rfl rfl (any_of HT_.out (by kernel_rfl)) (fun _ _ _ h => h) (Or.inl ⟨by rfl, ?_⟩) ?_ ?_
              rotate_left
              · intro w'
                go_simp
                with_reducible rfl
              rotate_left
              · simp only [Act.put, List.setIfInBounds_toArray, List.set_cons_zero, List.set_cons_succ, i64_w, i32_w]
                rfl
              refine take_ (i := 0) (N := some 98) (v := ?_) (a' := ?_) #[T_, T_, F_, F_, F_, F_, F_, F_, F_, F_, F_, F_, F_, F_, F_, F_, F_, F_, F_, F_, F_, F_, F_, F_, F_, F_, F_, F_, F_, F_, F_] rfl rfl (take_ofW HT_.out HW_.out (by kernel_rfl)) (fun _ _ _ h => h) (Or.inl ⟨by rfl, ?_⟩) hHeld ?_ ?_
              rotate_left
              · rintro w' ⟨s0, s1, s2, s3, s4⟩
                go_simp
                with_reducible rfl
              rotate_left
              · simp only [Act.put, List.setIfInBounds_toArray, List.set_cons_zero, List.set_cons_succ, i64_w, i32_w]
                rfl
              refine take_ (i := 2) (N := some 100) (v := ?_) (a' := ?_) #[T_, T_, T_, F_, F_, F_, F_, F_, F_, F_, F_, F_, F_, F_, F_, F_, F_, F_, F_, F_, F_, F_, F_, F_, F_, F_, F_, F_, F_, F_, F_] rfl rfl (take_ofW HT_.out HW_.out (by kernel_rfl)) (fun _ _ _ h => h) (Or.inl ⟨by rfl, ?_⟩) hHeld ?_ ?_
              rotate_left
              · rintro w' ⟨s0, s1, s2, s3, s4⟩
                go_simp
                with_reducible rfl
              rotate_left
              · simp only [Act.put, List.setIfInBounds_toArray, List.set_cons_zero, List.set_cons_succ, i64_w, i32_w]
                rfl
              refine one_ (i := 3) (N := some 101) #[T_, T_, T_, T_, F_, F_, F_, F_, F_, F_, F_, F_, F_, F_, F_, F_, F_, F_, F_, F_, F_, F_, F_, F_, F_, F_, F_, F_, F_, F_, F_] rfl rfl (one_of HT_.out (by kernel_rfl)) (by decide) (fun K hK => ?_)
              refine goes_ Try.func19 (by kernel_rfl) rfl #[.agg #[.int .i64 ((rd_T24 t253 x93_5).f0), .int .i64 ((rd_T24 t253 x93_5).f1)], .agg #[.int .i64 t256, .int .i64 t257]] (by rfl) rfl rfl (by (try simp only [List.map_toArray, List.map_cons, List.map_nil]); first | done | rfl | (simp only [List.length_drop, List.length_take]; rfl)) ?_
              with_reducible refine (change_Within.calls ((rd_T24 t253 x93_5).f0) ((rd_T24 t253 x93_5).f1) t256 t257 true _ A141.out).mono ?_
              rintro e w180 ⟨rfl, hb⟩
              refine ⟨_, rfl, ?_⟩
              have n0_ := Aside0.mk (Kd.R_below (rl_ HO_91) hb)
              have n1_ := Aside0.mk (Kd.R_below (rl_ HO_242000) hb)
              have n2_ := Aside0.mk (Kd.R_below (rl_ HO_259000) hb)
              have n3_ := Aside0.mk (bb_ BK229 hb)
              have n4_ := Aside0.mk (bb_ BK230 hb)
              have n5_ := Aside0.mk (bb_ BK241 hb)
              have n6_ := Aside0.mk (bb_ BK245 hb)
              have n7_ := Aside0.mk (bb_ BK258 hb)
              have n8_ := Aside0.mk (bb_ BK267 hb)
              have n9_ := Aside0.mk (below_step bel_ hb)
              clear HO_91
              clear HO_242000
              clear HO_259000
              clear BK229
              clear BK230
              clear BK241
              clear BK245
              clear BK258
              clear BK267
              clear HB
              have HO_91 := n0_
              have HO_242000 := n1_
              have HO_259000 := n2_
              have BK229 := n3_
              have BK230 := n4_
              have BK241 := n5_
              have BK245 := n6_
              have BK258 := n7_
              have BK267 := n8_
              have HB := n9_
              clear n0_ n1_ n2_ n3_ n4_ n5_ n6_ n7_ n8_ n9_
              (try clear hb)
              (try clear hb2)
              (try clear hk)
              (try clear hi)
              refine hK.out _ _ ⟨(blk_cell BK267.out 0).trans rfl, (blk_cell BK267.out 1).trans rfl, (blk_cell BK258.out 0).trans rfl, (blk_cell BK258.out 1).trans rfl, (blk_cell BK258.out 2).trans rfl⟩ (fun hHeld => ?_)
              clear hK K
              refine norm_ (a' := ?_) ?_ ?_
              rotate_left
              · show Act.put _ (some 101) _ = _
                simp only [Act.put, List.setIfInBounds_toArray, List.set_cons_zero, List.set_cons_succ, i64_w, i32_w]
                rfl
              refine pure_ (i := 4) (N := some 102) (v := ?_) (a' := ?_) #[T_, T_, T_, T_, T_, F_, F_, F_, F_, F_, F_, F_, F_, F_, F_, F_, F_, F_, F_, F_, F_, F_, F_, F_, F_, F_, F_, F_, F_, F_, F_] rfl rfl (any_of HT_.out (by kernel_rfl)) (fun _ _ _ h => h) (Or.inl ⟨by rfl, ?_⟩) ?_ ?_
              rotate_left
              · intro w'
                go_simp
                with_reducible rfl
              rotate_left
              · simp only [Act.put, List.setIfInBounds_toArray, List.set_cons_zero, List.set_cons_succ, i64_w, i32_w]
                rfl
              refine pure_ (i := 5) (N := some 103) (v := ?_) (a' := ?_) #[T_, T_, T_, T_, T_, T_, F_, F_, F_, F_, F_, F_, F_, F_, F_, F_, F_, F_, F_, F_, F_, F_, F_, F_, F_, F_, F_, F_, F_, F_, F_] rfl rfl (any_of HT_.out (by kernel_rfl)) (fun _ _ _ h => h) (Or.inl ⟨by rfl, ?_⟩) ?_ ?_
              rotate_left
              · intro w'
                go_simp
                with_reducible rfl
              rotate_left
              · simp only [Act.put, List.setIfInBounds_toArray, List.set_cons_zero, List.set_cons_succ, i64_w, i32_w]
                rfl
              refine pure_ (i := 6) (N := some 104) (v := ?_) (a' := ?_) #[T_, T_, T_, T_, T_, T_, T_, F_, F_, F_, F_, F_, F_, F_, F_, F_, F_, F_, F_, F_, F_, F_, F_, F_, F_, F_, F_, F_, F_, F_, F_] rfl rfl (any_of HT_.out (by kernel_rfl)) (fun _ _ _ h => h) (Or.inl ⟨by rfl, ?_⟩) ?_ ?_
              rotate_left
              · intro w'
                go_simp
                with_reducible rfl
              rotate_left
              · simp only [Act.put, List.setIfInBounds_toArray, List.set_cons_zero, List.set_cons_succ, i64_w, i32_w]
                rfl
              refine pure_ (i := 7) (N := some 105) (v := ?_) (a' := ?_) #[T_, T_, T_, T_, T_, T_, T_, T_, F_, F_, F_, F_, F_, F_, F_, F_, F_, F_, F_, F_, F_, F_, F_, F_, F_, F_, F_, F_, F_, F_, F_] rfl rfl (any_of HT_.out (by kernel_rfl)) (fun _ _ _ h => h) (Or.inl ⟨by rfl, ?_⟩) ?_ ?_
              rotate_left
              · intro w'
                go_simp
                with_reducible rfl
              rotate_left
              · simp only [Act.put, List.setIfInBounds_toArray, List.set_cons_zero, List.set_cons_succ, i64_w, i32_w]
                rfl
              refine pure_ (i := 8) (N := some 106) (v := ?_) (a' := ?_) #[T_, T_, T_, T_, T_, T_, T_, T_, T_, F_, F_, F_, F_, F_, F_, F_, F_, F_, F_, F_, F_, F_, F_, F_, F_, F_, F_, F_, F_, F_, F_] rfl rfl (any_of HT_.out (by kernel_rfl)) (fun _ _ _ h => h) (Or.inl ⟨by rfl, ?_⟩) ?_ ?_
              rotate_left
              · intro w'
                go_simp
                with_reducible rfl
              rotate_left
              · simp only [Act.put, List.setIfInBounds_toArray, List.set_cons_zero, List.set_cons_succ, i64_w, i32_w]
                rfl
              refine pure_ (i := 9) (N := some 107) (v := undef) (a' := ?_) #[T_, T_, T_, T_, T_, T_, T_, T_, T_, T_, F_, F_, F_, F_, F_, F_, F_, F_, F_, F_, F_, F_, F_, F_, F_, F_, F_, F_, F_, F_, F_] rfl rfl (any_of HT_.out (by kernel_rfl)) (fun _ _ _ h => h) (Or.inr ⟨by rfl, rfl⟩) ?_ ?_
              rotate_left
              · simp only [Act.put, List.setIfInBounds_toArray, List.set_cons_zero, List.set_cons_succ, i64_w, i32_w]
                rfl
              refine pure_ (i := 10) (N := some 108) (v := undef) (a' := ?_) #[T_, T_, T_, T_, T_, T_, T_, T_, T_, T_, T_, F_, F_, F_, F_, F_, F_, F_, F_, F_, F_, F_, F_, F_, F_, F_, F_, F_, F_, F_, F_] rfl rfl (any_of HT_.out (by kernel_rfl)) (fun _ _ _ h => h) (Or.inr ⟨by rfl, rfl⟩) ?_ ?_
              rotate_left
              · simp only [Act.put, List.setIfInBounds_toArray, List.set_cons_zero, List.set_cons_succ, i64_w, i32_w]
                rfl
              refine pure_ (i := 11) (N := some 109) (v := undef) (a' := ?_) #[T_, T_, T_, T_, T_, T_, T_, T_, T_, T_, T_, T_, F_, F_, F_, F_, F_, F_, F_, F_, F_, F_, F_, F_, F_, F_, F_, F_, F_, F_, F_] rfl rfl (any_of HT_.out (by kernel_rfl)) (fun _ _ _ h => h) (Or.inr ⟨by rfl, rfl⟩) ?_ ?_
              rotate_left
              · simp only [Act.put, List.setIfInBounds_toArray, List.set_cons_zero, List.set_cons_succ, i64_w, i32_w]
                rfl
              refine pure_ (i := 12) (N := some 110) (v := undef) (a' := ?_) #[T_, T_, T_, T_, T_, T_, T_, T_, T_, T_, T_, T_, T_, F_, F_, F_, F_, F_, F_, F_, F_, F_, F_, F_, F_, F_, F_, F_, F_, F_, F_] rfl rfl (any_of HT_.out (by kernel_rfl)) (fun _ _ _ h => h) (Or.inr ⟨by rfl, rfl⟩) ?_ ?_
              rotate_left
              · simp only [Act.put, List.setIfInBounds_toArray, List.set_cons_zero, List.set_cons_succ, i64_w, i32_w]
                rfl
              refine pure_ (i := 13) (N := some 111) (v := undef) (a' := ?_) #[T_, T_, T_, T_, T_, T_, T_, T_, T_, T_, T_, T_, T_, T_, F_, F_, F_, F_, F_, F_, F_, F_, F_, F_, F_, F_, F_, F_, F_, F_, F_] rfl rfl (any_of HT_.out (by kernel_rfl)) (fun _ _ _ h => h) (Or.inr ⟨by rfl, rfl⟩) ?_ ?_
              rotate_left
              · simp only [Act.put, List.setIfInBounds_toArray, List.set_cons_zero, List.set_cons_succ, i64_w, i32_w]
                rfl
              refine pure_ (i := 14) (N := some 112) (v := undef) (a' := ?_) #[T_, T_, T_, T_, T_, T_, T_, T_, T_, T_, T_, T_, T_, T_, T_, F_, F_, F_, F_, F_, F_, F_, F_, F_, F_, F_, F_, F_, F_, F_, F_] rfl rfl (any_of HT_.out (by kernel_rfl)) (fun _ _ _ h => h) (Or.inr ⟨by rfl, rfl⟩) ?_ ?_
              rotate_left
              · simp only [Act.put, List.setIfInBounds_toArray, List.set_cons_zero, List.set_cons_succ, i64_w, i32_w]
                rfl
              refine pure_ (i := 15) (N := some 113) (v := undef) (a' := ?_) #[T_, T_, T_, T_, T_, T_, T_, T_, T_, T_, T_, T_, T_, T_, T_, T_, F_, F_, F_, F_, F_, F_, F_, F_, F_, F_, F_, F_, F_, F_, F_] rfl rfl (any_of HT_.out (by kernel_rfl)) (fun _ _ _ h => h) (Or.inr ⟨by rfl, rfl⟩) ?_ ?_
              rotate_left
              · simp only [Act.put, List.setIfInBounds_toArray, List.set_cons_zero, List.set_cons_succ, i64_w, i32_w]
                rfl
              refine pure_ (i := 16) (N := some 114) (v := undef) (a' := ?_) #[T_, T_, T_, T_, T_, T_, T_, T_, T_, T_, T_, T_, T_, T_, T_, T_, T_, F_, F_, F_, F_, F_, F_, F_, F_, F_, F_, F_, F_, F_, F_] rfl rfl (any_of HT_.out (by kernel_rfl)) (fun _ _ _ h => h) (Or.inr ⟨by rfl, rfl⟩) ?_ ?_
              rotate_left
              · simp only [Act.put, List.setIfInBounds_toArray, List.set_cons_zero, List.set_cons_succ, i64_w, i32_w]
                rfl
              refine pure_ (i := 17) (N := some 115) (v := undef) (a' := ?_) #[T_, T_, T_, T_, T_, T_, T_, T_, T_, T_, T_, T_, T_, T_, T_, T_, T_, T_, F_, F_, F_, F_, F_, F_, F_, F_, F_, F_, F_, F_, F_] rfl rfl (any_of HT_.out (by kernel_rfl)) (fun _ _ _ h => h) (Or.inr ⟨by rfl, rfl⟩) ?_ ?_
              rotate_left
              · simp only [Act.put, List.setIfInBounds_toArray, List.set_cons_zero, List.set_cons_succ, i64_w, i32_w]
                rfl
              refine pure_ (i := 18) (N := some 116) (v := ?_) (a' := ?_) #[T_, T_, T_, T_, T_, T_, T_, T_, T_, T_, T_, T_, T_, T_, T_, T_, T_, T_, T_, F_, F_, F_, F_, F_, F_, F_, F_, F_, F_, F_, F_] rfl rfl (any_of HT_.out (by kernel_rfl)) (fun _ _ _ h => h) (Or.inl ⟨by rfl, ?_⟩) ?_ ?_
              rotate_left
              · intro w'
                go_simp
                with_reducible rfl
              rotate_left
              · simp only [Act.put, List.setIfInBounds_toArray, List.set_cons_zero, List.set_cons_succ, i64_w, i32_w]
                rfl
              refine pure_ (i := 19) (N := some 117) (v := ?_) (a' := ?_) #[T_, T_, T_, T_, T_, T_, T_, T_, T_, T_, T_, T_, T_, T_, T_, T_, T_, T_, T_, T_, F_, F_, F_, F_, F_, F_, F_, F_, F_, F_, F_] rfl rfl (any_of HT_.out (by kernel_rfl)) (fun _ _ _ h => h) (Or.inl ⟨by rfl, ?_⟩) ?_ ?_
              rotate_left
              · intro w'
                go_simp
                with_reducible rfl
              rotate_left
              · simp only [Act.put, List.setIfInBounds_toArray, List.set_cons_zero, List.set_cons_succ, i64_w, i32_w]
                rfl
              refine pure_ (i := 20) (N := some 118) (v := ?_) (a' := ?_) #[T_, T_, T_, T_, T_, T_, T_, T_, T_, T_, T_, T_, T_, T_, T_, T_, T_, T_, T_, T_, T_, F_, F_, F_, F_, F_, F_, F_, F_, F_, F_] rfl rfl (any_of HT_.out (by kernel_rfl)) (fun _ _ _ h => h) (Or.inl ⟨by rfl, ?_⟩) ?_ ?_
              rotate_left
              · intro w'
                go_simp
                with_reducible rfl
              rotate_left
              · simp only [Act.put, List.setIfInBounds_toArray, List.set_cons_zero, List.set_cons_succ, i64_w, i32_w]
                rfl
              refine pure_ (i := 27) (N := some 125) (v := ?_) (a' := ?_) #[T_, T_, T_, T_, T_, T_, T_, T_, T_, T_, T_, T_, T_, T_, T_, T_, T_, T_, T_, T_, T_, F_, F_, F_, F_, F_, F_, T_, F_, F_, F_] rfl rfl (any_of HT_.out (by kernel_rfl)) (fun _ _ _ h => h) (Or.inl ⟨by rfl, ?_⟩) ?_ ?_
              rotate_left
              · intro w'
                go_simp
                with_reducible rfl
              rotate_left
              · simp only [Act.put, List.setIfInBounds_toArray, List.set_cons_zero, List.set_cons_succ, i64_w, i32_w]
                rfl
              refine take_ (i := 21) (N := some 119) (v := ?_) (a' := ?_) #[T_, T_, T_, T_, T_, T_, T_, T_, T_, T_, T_, T_, T_, T_, T_, T_, T_, T_, T_, T_, T_, T_, F_, F_, F_, F_, F_, T_, F_, F_, F_] rfl rfl (take_ofW HT_.out HW_.out (by kernel_rfl)) (fun _ _ _ h => h) (Or.inl ⟨by rfl, ?_⟩) hHeld ?_ ?_
              rotate_left
              · rintro w' ⟨s0, s1, s2, s3, s4⟩
                go_simp
                with_reducible rfl
              rotate_left
              · simp only [Act.put, List.setIfInBounds_toArray, List.set_cons_zero, List.set_cons_succ, i64_w, i32_w]
                rfl
              refine take_ (i := 22) (N := some 120) (v := ?_) (a' := ?_) #[T_, T_, T_, T_, T_, T_, T_, T_, T_, T_, T_, T_, T_, T_, T_, T_, T_, T_, T_, T_, T_, T_, T_, F_, F_, F_, F_, T_, F_, F_, F_] rfl rfl (take_ofW HT_.out HW_.out (by kernel_rfl)) (fun _ _ _ h => h) (Or.inl ⟨by rfl, ?_⟩) hHeld ?_ ?_
              rotate_left
              · rintro w' ⟨s0, s1, s2, s3, s4⟩
                go_simp
                with_reducible rfl
              rotate_left
              · simp only [Act.put, List.setIfInBounds_toArray, List.set_cons_zero, List.set_cons_succ, i64_w, i32_w]
                rfl
              refine take_ (i := 23) (N := some 121) (v := ?_) (a' := ?_) #[T_, T_, T_, T_, T_, T_, T_, T_, T_, T_, T_, T_, T_, T_, T_, T_, T_, T_, T_, T_, T_, T_, T_, T_, F_, F_, F_, T_, F_, F_, F_] rfl rfl (take_ofW HT_.out HW_.out (by kernel_rfl)) (fun _ _ _ h => h) (Or.inl ⟨by rfl, ?_⟩) hHeld ?_ ?_
              rotate_left
              · rintro w' ⟨s0, s1, s2, s3, s4⟩
                go_simp
                with_reducible rfl
              rotate_left
              · simp only [Act.put, List.setIfInBounds_toArray, List.set_cons_zero, List.set_cons_succ, i64_w, i32_w]
                rfl
              refine take_ (i := 28) (N := some 126) (v := ?_) (a' := ?_) #[T_, T_, T_, T_, T_, T_, T_, T_, T_, T_, T_, T_, T_, T_, T_, T_, T_, T_, T_, T_, T_, T_, T_, T_, F_, F_, F_, T_, T_, F_, F_] rfl rfl (take_ofW HT_.out HW_.out (by kernel_rfl)) (fun _ _ _ h => h) (Or.inl ⟨by rfl, ?_⟩) hHeld ?_ ?_
              rotate_left
              · rintro w' ⟨s0, s1, s2, s3, s4⟩
                go_simp
                with_reducible rfl
              rotate_left
              · simp only [Act.put, List.setIfInBounds_toArray, List.set_cons_zero, List.set_cons_succ, i64_w, i32_w]
                rfl
              refine one_ (i := 24) (N := some 122) #[T_, T_, T_, T_, T_, T_, T_, T_, T_, T_, T_, T_, T_, T_, T_, T_, T_, T_, T_, T_, T_, T_, T_, T_, T_, F_, F_, T_, T_, F_, F_] rfl rfl (one_of HT_.out (by kernel_rfl)) (by decide) (fun K hK => ?_)
              refine goes_ Try.func11 (by kernel_rfl) rfl #[.agg #[.slice (some ad266) t253.length co104, .int .i64 t256, .int .i64 t257], .agg #[.int .i64 ((rd_T24 t253 x93_5).f0), .int .i64 ((rd_T24 t253 x93_5).f1)]] (by rfl) rfl rfl (by (try simp only [List.map_toArray, List.map_cons, List.map_nil]); first | done | rfl | (simp only [List.length_drop, List.length_take]; rfl)) ?_
              with_reducible refine (front_Want.calls _ _ t253 t256 t257 ((rd_T24 t253 x93_5).f0) ((rd_T24 t253 x93_5).f1) t278 t279 _ ?side1 ?side2 A168.out).mono ?_
              (case side1 => repeat (first | exact (Kd.R_reads' HO_259000.out).2.2 | (with_reducible refine Kd.C_alloc ?_ _) | (with_reducible refine Kd.C_drewN ?_ _) | (with_reducible refine Kd.C_drew ?_)))
              (case side2 => exact (Kd.R_reads' HO_259000.out).2.1)
              rintro e w181 ⟨rfl, hb⟩
              refine ⟨_, rfl, ?_⟩
              have n0_ := Aside0.mk (Kd.R_below (rl_ HO_91) hb)
              have n1_ := Aside0.mk (Kd.R_below (rl_ HO_242000) hb)
              have n2_ := Aside0.mk (Kd.R_below (rl_ HO_259000) hb)
              have n3_ := Aside0.mk (bb_ BK229 hb)
              have n4_ := Aside0.mk (bb_ BK230 hb)
              have n5_ := Aside0.mk (bb_ BK241 hb)
              have n6_ := Aside0.mk (bb_ BK245 hb)
              have n7_ := Aside0.mk (bb_ BK258 hb)
              have n8_ := Aside0.mk (bb_ BK267 hb)
              have n9_ := Aside0.mk (below_step bel_ hb)
              clear HO_91
              clear HO_242000
              clear HO_259000
              clear BK229
              clear BK230
              clear BK241
              clear BK245
              clear BK258
              clear BK267
              clear HB
              have HO_91 := n0_
              have HO_242000 := n1_
              have HO_259000 := n2_
              have BK229 := n3_
              have BK230 := n4_
              have BK241 := n5_
              have BK245 := n6_
              have BK258 := n7_
              have BK267 := n8_
              have HB := n9_
              clear n0_ n1_ n2_ n3_ n4_ n5_ n6_ n7_ n8_ n9_
              (try clear hb)
              (try clear hb2)
              (try clear hk)
              (try clear hi)
              refine hK.out _ _ ⟨(blk_cell BK267.out 0).trans rfl, (blk_cell BK267.out 1).trans rfl, (blk_cell BK258.out 0).trans rfl, (blk_cell BK258.out 1).trans rfl, (blk_cell BK258.out 2).trans rfl⟩ (fun hHeld => ?_)
              clear hK K
              refine norm_ (a' := ?_) ?_ ?_
              rotate_left
              · show Act.put _ (some 122) _ = _
                simp only [Act.put, List.setIfInBounds_toArray, List.set_cons_zero, List.set_cons_succ, i64_w, i32_w]
                rfl
              refine one_ (i := 25) (N := some 123) #[T_, T_, T_, T_, T_, T_, T_, T_, T_, T_, T_, T_, T_, T_, T_, T_, T_, T_, T_, T_, T_, T_, T_, T_, T_, T_, F_, T_, T_, F_, F_] rfl rfl (one_of HT_.out (by kernel_rfl)) (by decide) (fun K hK => ?_)
              refine Kd.R_lit_step k24 _ 24 ?hg (N := 123) ?hd (xs := ([(⟨(rd_T24 t253 x93_5).f0, (rd_T24 t253 x93_5).f1⟩ : S24), (⟨t278, t279⟩ : S24)] : List (S24))) (inner := [.int .i64 ((rd_T24 t253 x93_5).f0), .int .i64 ((rd_T24 t253 x93_5).f1), .int .i64 t278, .int .i64 t279]) (ok := fun _ => True) (okp := fun _ => True) ?hr ?hp (fun _ hk => hk) trivial (Below.refl _ _) (Nat.le_refl _) (by simp) ?_; (case hd => rfl); (case hg => rfl); (case hr => first | (go_simp; done) | (go_simp; rfl)); (case hp => exact (Reps.c2 (show Kd.M k24 _ _ _ (⟨(rd_T24 t253 x93_5).f0, (rd_T24 t253 x93_5).f1⟩ : S24) [.int .i64 ((rd_T24 t253 x93_5).f0), .int .i64 ((rd_T24 t253 x93_5).f1)] from (k24_mkM _ _ _ (⟨(rd_T24 t253 x93_5).f0, (rd_T24 t253 x93_5).f1⟩ : S24) )) (Reps.c2 (show Kd.M k24 _ _ _ (⟨t278, t279⟩ : S24) [.int .i64 t278, .int .i64 t279] from (k24_mkM _ _ _ (⟨t278, t279⟩ : S24) )) (Reps.none _ _))))
              intro v281 w182 ho183 hb hg_ hnew_
              clear hg_ hnew_
              (first | rw [← Ny280.out] at ho183 | (simp only [Int.reduceToNat] at ho183; rw [← Ny280.out] at ho183))
              have n0_ := Aside0.mk (Kd.R_elder' (rl_ HO_91) (Kd.R_base ho183) hb)
              have n1_ := Aside0.mk (Kd.R_elder' (rl_ HO_242000) (Kd.R_base ho183) hb)
              have n2_ := Aside0.mk (Kd.R_elder' (rl_ HO_259000) (Kd.R_base ho183) hb)
              have n3_ := Aside0.mk (Kd.R_lower (Kd.R_newB (Kd.R_newB (Kd.R_newB (Kd.R_newB (Kd.R_new' (Kd.R_new' (Kd.R_new' ho183 (Kd.R_lt (rl_ HO_91))) (Kd.R_lt (rl_ HO_242000))) (Kd.R_lt (rl_ HO_259000))) (g := gb229) (o := .cells #[.int .i64 a0_0, .int .i64 a0_1] 24 (0, 0)) blk_) (g := gb230) (o := .cells #[.int .i64 a1_0, .int .i64 a1_1] 24 (0, 0)) blk_) (g := gb245) (o := .cells #[.int .i64 t243, .int .i64 t244] 24 (0, 0)) blk_) (g := gb267) (o := .cells #[.int .i64 ((rd_T24 t253 x93_5).f0), .int .i64 ((rd_T24 t253 x93_5).f1)] 24 (0, 0)) blk_) (below_size bel_))
              have n4_ := Aside0.mk (bb_ BK229 hb)
              have n5_ := Aside0.mk (bb_ BK230 hb)
              have n6_ := Aside0.mk (bb_ BK241 hb)
              have n7_ := Aside0.mk (bb_ BK245 hb)
              have n8_ := Aside0.mk (bb_ BK258 hb)
              have n9_ := Aside0.mk (bb_ BK267 hb)
              have n10_ := Aside0.mk (below_step bel_ hb)
              clear HO_91
              clear HO_242000
              clear HO_259000
              clear BK229
              clear BK230
              clear BK241
              clear BK245
              clear BK258
              clear BK267
              clear HB
              have HO_91 := n0_
              have HO_242000 := n1_
              have HO_259000 := n2_
              have HO282 := n3_
              have BK229 := n4_
              have BK230 := n5_
              have BK241 := n6_
              have BK245 := n7_
              have BK258 := n8_
              have BK267 := n9_
              have HB := n10_
              clear n0_ n1_ n2_ n3_ n4_ n5_ n6_ n7_ n8_ n9_ n10_
              clear hb ho183
              obtain ⟨Ao184, co184, eo184⟩ := Kd.R_slice HO282.out
              (first | subst eo184 | (injection eo184 with f1_ f2_ f3_; have f4_ := f1_.symm; have f5_ := f3_.symm; clear f1_ f2_ f3_; subst f4_; subst f5_))
              refine hK.out _ _ ⟨(blk_cell BK267.out 0).trans rfl, (blk_cell BK267.out 1).trans rfl, (blk_cell BK258.out 0).trans rfl, (blk_cell BK258.out 1).trans rfl, (blk_cell BK258.out 2).trans rfl⟩ (fun hHeld => ?_)
              clear hK K
              refine norm_ (a' := ?_) ?_ ?_
              rotate_left
              · show Act.put _ (some 123) _ = _
                simp only [Act.put, List.setIfInBounds_toArray, List.set_cons_zero, List.set_cons_succ, i64_w, i32_w]
                rfl
              refine one_ (i := 26) (N := some 124) #[T_, T_, T_, T_, T_, T_, T_, T_, T_, T_, T_, T_, T_, T_, T_, T_, T_, T_, T_, T_, T_, T_, T_, T_, T_, T_, T_, T_, T_, F_, F_] rfl rfl (one_of HT_.out (by kernel_rfl)) (by decide) (fun K hK => ?_)
              refine goes_ Try.func22 (by kernel_rfl) rfl #[.slice Ao184 y280.length co184] (by rfl) rfl rfl (by (try simp only [List.map_toArray, List.map_cons, List.map_nil]); first | done | rfl | (simp only [List.length_drop, List.length_take]; rfl)) ?_
              with_reducible refine (change_Join.calls k5 _ _ y280 t283 t284 _ ?side1 ?side2 A169.out).mono ?_
              (case side1 => repeat (first | exact (Kd.R_reads' HO282.out).2.2 | (with_reducible refine Kd.C_alloc ?_ _) | (with_reducible refine Kd.C_drewN ?_ _) | (with_reducible refine Kd.C_drew ?_)))
              (case side2 => exact (Kd.R_reads' HO282.out).2.1)
              rintro e w185 ⟨rfl, hb⟩
              refine ⟨_, rfl, ?_⟩
              have n0_ := Aside0.mk (Kd.R_below (rl_ HO_91) hb)
              have n1_ := Aside0.mk (Kd.R_below (rl_ HO_242000) hb)
              have n2_ := Aside0.mk (Kd.R_below (rl_ HO_259000) hb)
              have n3_ := Aside0.mk (Kd.R_below (rl_ HO282) hb)
              have n4_ := Aside0.mk (bb_ BK229 hb)
              have n5_ := Aside0.mk (bb_ BK230 hb)
              have n6_ := Aside0.mk (bb_ BK241 hb)
              have n7_ := Aside0.mk (bb_ BK245 hb)
              have n8_ := Aside0.mk (bb_ BK258 hb)
              have n9_ := Aside0.mk (bb_ BK267 hb)
              have n10_ := Aside0.mk (below_step bel_ hb)
              clear HO_91
              clear HO_242000
              clear HO_259000
              clear HO282
              clear BK229
              clear BK230
              clear BK241
              clear BK245
              clear BK258
              clear BK267
              clear HB
              have HO_91 := n0_
              have HO_242000 := n1_
              have HO_259000 := n2_
              have HO282 := n3_
              have BK229 := n4_
              have BK230 := n5_
              have BK241 := n6_
              have BK245 := n7_
              have BK258 := n8_
              have BK267 := n9_
              have HB := n10_
              clear n0_ n1_ n2_ n3_ n4_ n5_ n6_ n7_ n8_ n9_ n10_
              (try clear hb)
              (try clear hb2)
              (try clear hk)
              (try clear hi)
              refine hK.out _ _ ⟨(blk_cell BK267.out 0).trans rfl, (blk_cell BK267.out 1).trans rfl, (blk_cell BK258.out 0).trans rfl, (blk_cell BK258.out 1).trans rfl, (blk_cell BK258.out 2).trans rfl⟩ (fun hHeld => ?_)
              clear hK K
              refine norm_ (a' := ?_) ?_ ?_
              rotate_left
              · show Act.put _ (some 124) _ = _
                simp only [Act.put, List.setIfInBounds_toArray, List.set_cons_zero, List.set_cons_succ, i64_w, i32_w]
                rfl
              refine pure_ (i := 29) (N := some 127) (v := ?_) (a' := ?_) #[T_, T_, T_, T_, T_, T_, T_, T_, T_, T_, T_, T_, T_, T_, T_, T_, T_, T_, T_, T_, T_, T_, T_, T_, T_, T_, T_, T_, T_, T_, F_] rfl rfl (any_of HT_.out (by kernel_rfl)) (fun _ _ _ h => h) (Or.inl ⟨by rfl, ?_⟩) ?_ ?_
              rotate_left
              · intro w'
                go_simp
                with_reducible rfl
              rotate_left
              · simp only [Act.put, List.setIfInBounds_toArray, List.set_cons_zero, List.set_cons_succ, i64_w, i32_w]
                rfl
              refine pure_ (i := 30) (N := some 128) (v := ?_) (a' := ?_) #[T_, T_, T_, T_, T_, T_, T_, T_, T_, T_, T_, T_, T_, T_, T_, T_, T_, T_, T_, T_, T_, T_, T_, T_, T_, T_, T_, T_, T_, T_, T_] rfl rfl (any_of HT_.out (by kernel_rfl)) (fun _ _ _ h => h) (Or.inl ⟨by rfl, ?_⟩) ?_ ?_
              rotate_left
              · intro w'
                go_simp
                with_reducible rfl
              rotate_left
              · simp only [Act.put, List.setIfInBounds_toArray, List.set_cons_zero, List.set_cons_succ, i64_w, i32_w]
                rfl
              refine done_ (done_of HT_.out (by kernel_rfl)) ?_
              try go_wp2
              go_roundg k5
              case measure => have := HJ5.out; have := HK2.out; have := HK3.out; have := HJ93.out; have := HK5.out; omega
              case rel => exact ⟨(wrap64 (x93_5 + 1)), (by first | rfl | (simp; done) | (simp [*]; done) | (simp; grind)), H', ⟨by have := HJ5.out; have := HK2.out; have := HK3.out; have := HJ93.out; have := HK5.out; omega⟩, ⟨by (with_reducible repeat (first | apply Kd.R_alloc | apply Kd.R_drewN | apply Kd.R_drew)); exact Kd.R_mono HO_91.out (fun _ hk => ⟨hk.1.1, ⟨hk.1.2.1, ⟨hk.1.2.2.1, hk.1.2.2.2.1⟩⟩⟩)⟩, ⟨by (with_reducible repeat (first | apply Kd.R_alloc | apply Kd.R_drewN | apply Kd.R_drew)); exact Kd.R_mono HO_242000.out (fun _ hk => ⟨hk.1.1, ⟨hk.1.2.1, ⟨hk.1.2.2.1, ⟨hk.1.2.2.2.1, hk.1.2.2.2.2.1⟩⟩⟩⟩)⟩, ⟨by (with_reducible repeat (first | apply Kd.R_alloc | apply Kd.R_drewN | apply Kd.R_drew)); exact Kd.R_mono HO_259000.out (fun _ hk => ⟨hk.1.1, ⟨hk.1.2.1, ⟨hk.1.2.2.1, hk.1.2.2.2.1⟩⟩⟩)⟩, ⟨blf_⟩, ⟨blf_⟩, ⟨blf_⟩, ⟨blf_⟩, ⟨blf_⟩, ⟨bel_⟩⟩
            rw [if_pos c143] at H
            have c143b0 : decide (0 < x93_5) = true := decide_eq_true c143
            clear c143
            obtain ⟨ji144, hji144⟩ : ∃ j_ : Int, (wrap64 (x93_5 - 1)) = j_ := ⟨_, rfl⟩
            replace H : (if 0 ≤ (ji144) then (if (ji144) < (t253.length : Int) then ((view_Less.f k5 ((rd_T24 t253 (ji144)).f0) ((rd_T24 t253 (ji144)).f1) ((rd_T24 t253 x93_5).f0) ((rd_T24 t253 x93_5).f1)).bind fun t270 => (if t270 = true then ((front_Want.f t253 t256 t257 ((rd_T24 t253 x93_5).f0) ((rd_T24 t253 x93_5).f1)).bind fun bt271 => ((change_Join.f k5 (([(⟨(rd_T24 t253 x93_5).f0, (rd_T24 t253 x93_5).f1⟩ : S24), (⟨bt271.1, bt271.2⟩ : S24)] : List (S24)))).bind fun bt276 => (if (!(bt276.1 == t256) || (!(bt276.2 == t257))) = true then (some false) else (ropewaylaw16_FrontAims.l2 k5 l2 (l2.length : Int) x33_2 t253 (t253.length : Int) (wrap64 (x93_5 + 1)) t253 t256 t257)))) else (some false))) else (none)) else (none)) = some r := by first | (rw [hji144] at H; exact H) | (simp only [hji144] at H ⊢; exact H)
            (try rw [hji144] at A141)
            have hji144w : (IntKind.i64.wrap (x93_5 - 1)) = ji144 := (i64_w _).trans hji144
            by_cases c145 : 0 ≤ (ji144)
            rotate_left
            · rw [if_neg c145] at H
              exact absurd H (by simp)
            rw [if_pos c145] at H
            have c145b0 : decide (0 ≤ (ji144)) = true := decide_eq_true c145
            clear c145
            by_cases c146 : (ji144) < (t253.length : Int)
            rotate_left
            · rw [if_neg c146] at H
              exact absurd H (by simp)
            rw [if_pos c146] at H
            have c146b0 : decide ((ji144) < (t253.length : Int)) = true := decide_eq_true c146
            clear c146
            replace H := Option.bind_eq_some_iff.mp H
            obtain ⟨t270, A1470, H⟩ := H
            replace H : (if t270 = true then ((front_Want.f t253 t256 t257 ((rd_T24 t253 x93_5).f0) ((rd_T24 t253 x93_5).f1)).bind fun bt271 => ((change_Join.f k5 (([(⟨(rd_T24 t253 x93_5).f0, (rd_T24 t253 x93_5).f1⟩ : S24), (⟨bt271.1, bt271.2⟩ : S24)] : List (S24)))).bind fun bt276 => (if (!(bt276.1 == t256) || (!(bt276.2 == t257))) = true then (some false) else (ropewaylaw16_FrontAims.l2 k5 l2 (l2.length : Int) x33_2 t253 (t253.length : Int) (wrap64 (x93_5 + 1)) t253 t256 t257)))) else (some false)) = some r := H
            have A147 := Aside0.mk A1470
            clear A1470
            by_cases c148 : t270 = true
            rotate_left
            · replace c148 := Bool.eq_false_iff.mpr c148
              subst c148
              have H1 : (some false) = some r := by rw [if_neg (show ¬ (false = true) by decide)] at H; exact H
              clear H
              have H := H1
              clear H1
              exact absurd (Option.some.inj H) (by rw [hr1_.out]; decide)
            subst c148
            have H1 : ((front_Want.f t253 t256 t257 ((rd_T24 t253 x93_5).f0) ((rd_T24 t253 x93_5).f1)).bind fun bt271 => ((change_Join.f k5 (([(⟨(rd_T24 t253 x93_5).f0, (rd_T24 t253 x93_5).f1⟩ : S24), (⟨bt271.1, bt271.2⟩ : S24)] : List (S24)))).bind fun bt276 => (if (!(bt276.1 == t256) || (!(bt276.2 == t257))) = true then (some false) else (ropewaylaw16_FrontAims.l2 k5 l2 (l2.length : Int) x33_2 t253 (t253.length : Int) (wrap64 (x93_5 + 1)) t253 t256 t257)))) = some r := by rw [if_pos rfl] at H; exact H
            clear H
            have H := H1
            clear H1
            replace H := Option.bind_eq_some_iff.mp H
            obtain ⟨⟨t271, t272⟩, A1490, H⟩ := H
            replace H : ((change_Join.f k5 (([(⟨(rd_T24 t253 x93_5).f0, (rd_T24 t253 x93_5).f1⟩ : S24), (⟨t271, t272⟩ : S24)] : List (S24)))).bind fun bt276 => (if (!(bt276.1 == t256) || (!(bt276.2 == t257))) = true then (some false) else (ropewaylaw16_FrontAims.l2 k5 l2 (l2.length : Int) x33_2 t253 (t253.length : Int) (wrap64 (x93_5 + 1)) t253 t256 t257))) = some r := H
            have A149 := Aside0.mk A1490
            clear A1490
            obtain ⟨y273, hy273⟩ : ∃ y_ : List (S24), y_ = (([(⟨(rd_T24 t253 x93_5).f0, (rd_T24 t253 x93_5).f1⟩ : S24), (⟨t271, t272⟩ : S24)] : List (S24))) := ⟨_, rfl⟩
            replace H : ((change_Join.f k5 y273).bind fun bt276 => (if (!(bt276.1 == t256) || (!(bt276.2 == t257))) = true then (some false) else (ropewaylaw16_FrontAims.l2 k5 l2 (l2.length : Int) x33_2 t253 (t253.length : Int) (wrap64 (x93_5 + 1)) t253 t256 t257))) = some r := by first | (rw [hy273]; with_reducible exact H) | (have H2_ := (Option.bind_some _ _).symm.trans H; rw [hy273]; with_reducible exact H2_) | (have H2_ := (Option.bind_some _ _).symm.trans H; with_reducible exact H2_) | with_reducible exact H | (rw [hy273]; exact H) | exact H
            have Ny273 := Aside0.mk hy273
            clear hy273
            replace H := Option.bind_eq_some_iff.mp H
            obtain ⟨⟨t276, t277⟩, A1500, H⟩ := H
            replace H : (if (!(t276 == t256) || (!(t277 == t257))) = true then (some false) else (ropewaylaw16_FrontAims.l2 k5 l2 (l2.length : Int) x33_2 t253 (t253.length : Int) (wrap64 (x93_5 + 1)) t253 t256 t257)) = some r := H
            have A150 := Aside0.mk A1500
            clear A1500
            by_cases c151 : (!(t276 == t256) || (!(t277 == t257))) = true
            · rw [if_pos c151] at H
              have c151b0 : (!(t276 == t256) || (!(t277 == t257))) = true := c151
              clear c151
              exact absurd (Option.some.inj H) (by rw [hr1_.out]; decide)
            rw [if_neg c151] at H
            have c151b0 : (!(t276 == t256) || (!(t277 == t257))) = false := by simpa using c151
            clear c151
            have H' := Aside0.mk H
            clear H
            have p266 : 0 ≤ (x93_5 : Int) := of_decide_eq_true (by first | (with_reducible assumption) | assumption)
            have q266 : x93_5 < (t253.length : Int) := of_decide_eq_true (by first | (with_reducible assumption) | assumption)
            obtain ⟨ad266, e266, hx266_0, hx266_1⟩ := at_T24 (Kd.R_reads' HO_91.out).2.2 x93_5 p266 q266
            cases e266
            replace p266 := eq_true p266
            replace q266 := eq_true q266
            try go_wp2_with (first | ((with_reducible refine gate_dst (N := 15) rfl ?_); (try (refine gate_guard (by rfl) ?_; dsimp only)); refine box_event ?hg (N := 15) ?hd (cs := #[.int .i64 0, .int .i64 0]) (t := 24) ?hr ?_; (case hd => rfl); (case hg => rfl); (case hr => first | (go_simp; done) | (go_simp; rfl)); intro gb267 hg w152 hbox hb; have n0_ := Aside0.mk (Kd.R_below (Kd.R_elderB (rl_ HO_91) gb267 (Nat.le_of_eq hg.symm)) hb); have n1_ := Aside0.mk (Kd.R_below (Kd.R_elderB (rl_ HO_242000) gb267 (Nat.le_of_eq hg.symm)) hb); have n2_ := Aside0.mk (Kd.R_below (Kd.R_elderB (rl_ HO_259000) gb267 (Nat.le_of_eq hg.symm)) hb); have n3_ := Aside0.mk (bb_ BK229 hb); have n4_ := Aside0.mk (bb_ BK230 hb); have n5_ := Aside0.mk (bb_ BK241 hb); have n6_ := Aside0.mk (bb_ BK245 hb); have n7_ := Aside0.mk (bb_ BK258 hb); have n8_ := Aside0.mk (below_step bel_ hb); have n9_ := Aside0.mk (hbox); have n10_ := Aside0.mk (bs_ hg); have n11_ := Aside0.mk (bs_ hg); have n12_ := Aside0.mk (nl_ BK229 hg); have n13_ := Aside0.mk (ng_ BK229 hg); have n14_ := Aside0.mk (nl_ BK230 hg); have n15_ := Aside0.mk (ng_ BK230 hg); have n16_ := Aside0.mk (nl_ BK241 hg); have n17_ := Aside0.mk (ng_ BK241 hg); have n18_ := Aside0.mk (nl_ BK245 hg); have n19_ := Aside0.mk (ng_ BK245 hg); have n20_ := Aside0.mk (nl_ BK258 hg); have n21_ := Aside0.mk (ng_ BK258 hg); clear HO_91; clear HO_242000; clear HO_259000; clear BK229; clear BK230; clear BK241; clear BK245; clear BK258; clear HB; have HO_91 := n0_; have HO_242000 := n1_; have HO_259000 := n2_; have BK229 := n3_; have BK230 := n4_; have BK241 := n5_; have BK245 := n6_; have BK258 := n7_; have HB := n8_; have BK267 := n9_; have GW267 := n10_; have GE267 := n11_; have NB229_267 := n12_; have NB267_229 := n13_; have NB230_267 := n14_; have NB267_230 := n15_; have NB241_267 := n16_; have NB267_241 := n17_; have NB245_267 := n18_; have NB267_245 := n19_; have NB258_267 := n20_; have NB267_258 := n21_; clear n0_ n1_ n2_ n3_ n4_ n5_ n6_ n7_ n8_ n9_ n10_ n11_ n12_ n13_ n14_ n15_ n16_ n17_ n18_ n19_ n20_ n21_; clear hb hbox hg; have hnb153 := NB267_229.out; have hnc153 := NB229_267.out; have hnb154 := NB267_230.out; have hnc154 := NB230_267.out; have hnb155 := NB267_241.out; have hnc155 := NB241_267.out; have hnb156 := NB267_245.out; have hnc156 := NB245_267.out; have hnb157 := NB267_258.out; have hnc157 := NB258_267.out; have hcz158_0 : w152.cell? ⟨gb267, 0, none⟩ = some (.int .i64 0) := (blk_cell BK267.out 0).trans rfl; have hcz158_1 : w152.cell? ⟨gb267, 1, none⟩ = some (.int .i64 0) := (blk_cell BK267.out 1).trans rfl; have hfz158_0 := blk_frozen BK267.out 0; have hfz158_1 := blk_frozen BK267.out 1))
            have n0_ : Aside0 (Kd.R k24 24 ((w152.setCell ⟨gb267, 0, none⟩ (.int .i64 ((rd_T24 t253 x93_5).f0))).setCell ⟨gb267, 1, none⟩ (.int .i64 ((rd_T24 t253 x93_5).f1))) w.heap.size (fun k_ => some k_ ≠ (.slice Ao37 x242000_2.length co37 : Value).ownBlock ∧ k_ ≠ gb229 ∧ k_ ≠ gb230 ∧ k_ ≠ gb245 ∧ k_ ≠ gb267) (.slice (some ad266) t253.length co104) t253) := ⟨by (with_reducible repeat (first | apply Kd.R_alloc | apply Kd.R_drewN | apply Kd.R_drew)); exact Kd.R_mono (Kd.R_far (p := ⟨gb267, 1, none⟩) (Kd.R_far (p := ⟨gb267, 0, none⟩) (Kd.R_mono HO_91.out (fun k_ hk => (⟨hk, hk.2⟩ : _ ∧ k_ ≠ gb267))) (fun _ hk => hk.2) (.int .i64 ((rd_T24 t253 x93_5).f0))) (fun _ hk => hk.2) (.int .i64 ((rd_T24 t253 x93_5).f1))) (fun _ hk => ⟨hk.1.1.1, ⟨hk.1.1.2.1, ⟨hk.1.1.2.2.1, ⟨hk.1.1.2.2.2, hk.1.2⟩⟩⟩⟩)⟩
            have n1_ : Aside0 (Kd.R k24 24 ((w152.setCell ⟨gb267, 0, none⟩ (.int .i64 ((rd_T24 t253 x93_5).f0))).setCell ⟨gb267, 1, none⟩ (.int .i64 ((rd_T24 t253 x93_5).f1))) w.heap.size (fun k_ => some k_ ≠ (.slice (some ad266) t253.length co104 : Value).ownBlock ∧ some k_ ≠ (.slice (some ad266) t253.length co104 : Value).ownBlock ∧ k_ ≠ gb229 ∧ k_ ≠ gb230 ∧ k_ ≠ gb245 ∧ k_ ≠ gb267) (.slice Ao37 x242000_2.length co37) x242000_2) := ⟨by (with_reducible repeat (first | apply Kd.R_alloc | apply Kd.R_drewN | apply Kd.R_drew)); exact Kd.R_mono (Kd.R_far (p := ⟨gb267, 1, none⟩) (Kd.R_far (p := ⟨gb267, 0, none⟩) (Kd.R_mono HO_242000.out (fun k_ hk => (⟨hk, hk.2⟩ : _ ∧ k_ ≠ gb267))) (fun _ hk => hk.2) (.int .i64 ((rd_T24 t253 x93_5).f0))) (fun _ hk => hk.2) (.int .i64 ((rd_T24 t253 x93_5).f1))) (fun _ hk => ⟨hk.1.1.1, ⟨hk.1.1.2.1, ⟨hk.1.1.2.2.1, ⟨hk.1.1.2.2.2.1, ⟨hk.1.1.2.2.2.2, hk.1.2⟩⟩⟩⟩⟩)⟩
            have n2_ : Aside0 (Kd.R k24 24 ((w152.setCell ⟨gb267, 0, none⟩ (.int .i64 ((rd_T24 t253 x93_5).f0))).setCell ⟨gb267, 1, none⟩ (.int .i64 ((rd_T24 t253 x93_5).f1))) w.heap.size (fun k_ => some k_ ≠ (.slice Ao37 x242000_2.length co37 : Value).ownBlock ∧ k_ ≠ gb229 ∧ k_ ≠ gb230 ∧ k_ ≠ gb245 ∧ k_ ≠ gb267) (.slice (some ad266) t253.length co104) t253) := ⟨by (with_reducible repeat (first | apply Kd.R_alloc | apply Kd.R_drewN | apply Kd.R_drew)); exact Kd.R_mono (Kd.R_far (p := ⟨gb267, 1, none⟩) (Kd.R_far (p := ⟨gb267, 0, none⟩) (Kd.R_mono HO_259000.out (fun k_ hk => (⟨hk, hk.2⟩ : _ ∧ k_ ≠ gb267))) (fun _ hk => hk.2) (.int .i64 ((rd_T24 t253 x93_5).f0))) (fun _ hk => hk.2) (.int .i64 ((rd_T24 t253 x93_5).f1))) (fun _ hk => ⟨hk.1.1.1, ⟨hk.1.1.2.1, ⟨hk.1.1.2.2.1, ⟨hk.1.1.2.2.2, hk.1.2⟩⟩⟩⟩)⟩
            have n3_ : Aside0 (((w152.setCell ⟨gb267, 0, none⟩ (.int .i64 ((rd_T24 t253 x93_5).f0))).setCell ⟨gb267, 1, none⟩ (.int .i64 ((rd_T24 t253 x93_5).f1))).heap[gb229]? = some (.cells #[.int .i64 a0_0, .int .i64 a0_1] 24 (0, 0))) := ⟨blf_⟩
            have n4_ : Aside0 (((w152.setCell ⟨gb267, 0, none⟩ (.int .i64 ((rd_T24 t253 x93_5).f0))).setCell ⟨gb267, 1, none⟩ (.int .i64 ((rd_T24 t253 x93_5).f1))).heap[gb230]? = some (.cells #[.int .i64 a1_0, .int .i64 a1_1] 24 (0, 0))) := ⟨blf_⟩
            have n5_ : Aside0 (((w152.setCell ⟨gb267, 0, none⟩ (.int .i64 ((rd_T24 t253 x93_5).f0))).setCell ⟨gb267, 1, none⟩ (.int .i64 ((rd_T24 t253 x93_5).f1))).heap[gb241]? = some (.cells #[.slice Ao37 x242000_2.length co37, .int .i64 x242001_2, .int .i64 x242002_2] 26 (0, 0))) := ⟨blf_⟩
            have n6_ : Aside0 (((w152.setCell ⟨gb267, 0, none⟩ (.int .i64 ((rd_T24 t253 x93_5).f0))).setCell ⟨gb267, 1, none⟩ (.int .i64 ((rd_T24 t253 x93_5).f1))).heap[gb245]? = some (.cells #[.int .i64 t243, .int .i64 t244] 24 (0, 0))) := ⟨blf_⟩
            have n7_ : Aside0 (((w152.setCell ⟨gb267, 0, none⟩ (.int .i64 ((rd_T24 t253 x93_5).f0))).setCell ⟨gb267, 1, none⟩ (.int .i64 ((rd_T24 t253 x93_5).f1))).heap[gb258]? = some (.cells #[.slice (some ad266) t253.length co104, .int .i64 t256, .int .i64 t257] 26 (0, 0))) := ⟨blf_⟩
            have n8_ : Aside0 (((w152.setCell ⟨gb267, 0, none⟩ (.int .i64 ((rd_T24 t253 x93_5).f0))).setCell ⟨gb267, 1, none⟩ (.int .i64 ((rd_T24 t253 x93_5).f1))).heap[gb267]? = some (.cells #[.int .i64 ((rd_T24 t253 x93_5).f0), .int .i64 ((rd_T24 t253 x93_5).f1)] 24 (0, 0))) := ⟨by (with_reducible repeat (first | refine blk_drewN ?_ _ | refine blk_drew ?_ | refine blk_alloc ?_ _)); refine blk_put (cs := #[.int .i64 ((rd_T24 t253 x93_5).f0), .int .i64 0]) ?_ 1 _ rfl; (with_reducible repeat (first | refine blk_drewN ?_ _ | refine blk_drew ?_ | refine blk_alloc ?_ _)); refine blk_put (cs := #[.int .i64 0, .int .i64 0]) ?_ 0 _ rfl; (with_reducible repeat (first | refine blk_drewN ?_ _ | refine blk_drew ?_ | refine blk_alloc ?_ _)); exact BK267.out⟩
            have n9_ : Aside0 (Below w.heap.size w ((w152.setCell ⟨gb267, 0, none⟩ (.int .i64 ((rd_T24 t253 x93_5).f0))).setCell ⟨gb267, 1, none⟩ (.int .i64 ((rd_T24 t253 x93_5).f1)))) := ⟨bel_⟩
            (try clear HO_91)
            (try clear HO_242000)
            (try clear HO_259000)
            (try clear BK229)
            (try clear BK230)
            (try clear BK241)
            (try clear BK245)
            (try clear BK258)
            (try clear BK267)
            (try clear HB)
            generalize ((w152.setCell ⟨gb267, 0, none⟩ (.int .i64 ((rd_T24 t253 x93_5).f0))).setCell ⟨gb267, 1, none⟩ (.int .i64 ((rd_T24 t253 x93_5).f1))) = w159 at n0_ n1_ n2_ n3_ n4_ n5_ n6_ n7_ n8_ n9_ ⊢
            have HO_91 := n0_
            have HO_242000 := n1_
            have HO_259000 := n2_
            have BK229 := n3_
            have BK230 := n4_
            have BK241 := n5_
            have BK245 := n6_
            have BK258 := n7_
            have BK267 := n8_
            have HB := n9_
            clear n0_ n1_ n2_ n3_ n4_ n5_ n6_ n7_ n8_ n9_
            have n0_ := Aside0.mk (Kd.R_drew HO_91.out)
            have n1_ := Aside0.mk (Kd.R_drew HO_242000.out)
            have n2_ := Aside0.mk (Kd.R_drew HO_259000.out)
            have n3_ := Aside0.mk (blk_drew BK229.out)
            have n4_ := Aside0.mk (blk_drew BK230.out)
            have n5_ := Aside0.mk (blk_drew BK241.out)
            have n6_ := Aside0.mk (blk_drew BK245.out)
            have n7_ := Aside0.mk (blk_drew BK258.out)
            have n8_ := Aside0.mk (blk_drew BK267.out)
            have n9_ := Aside0.mk (below_drew1 HB.out)
            clear HO_91
            clear HO_242000
            clear HO_259000
            clear BK229
            clear BK230
            clear BK241
            clear BK245
            clear BK258
            clear BK267
            clear HB
            have HO_91 := n0_
            have HO_242000 := n1_
            have HO_259000 := n2_
            have BK229 := n3_
            have BK230 := n4_
            have BK241 := n5_
            have BK245 := n6_
            have BK258 := n7_
            have BK267 := n8_
            have HB := n9_
            clear n0_ n1_ n2_ n3_ n4_ n5_ n6_ n7_ n8_ n9_
            have p269 : 0 ≤ ((ji144) : Int) := of_decide_eq_true (by first | (with_reducible assumption) | assumption)
            have q269 : (ji144) < (t253.length : Int) := of_decide_eq_true (by first | (with_reducible assumption) | assumption)
            obtain ⟨ad269, e269, hx269_0, hx269_1⟩ := at_T24 (Kd.R_reads' HO_259000.out).2.2 (ji144) p269 q269
            obtain rfl : ad266 = ad269 := (by injection e269)
            replace p269 := eq_true p269
            replace q269 := eq_true q269
            refine start_ (n := 31) (S := fun w' => w'.cell? ⟨gb267, 0, none⟩ = some (.int .i64 ((rd_T24 t253 x93_5).f0)) ∧ w'.cell? ⟨gb267, 1, none⟩ = some (.int .i64 ((rd_T24 t253 x93_5).f1)) ∧ w'.cell? ⟨gb258, 0, none⟩ = some (.slice (some ad266) t253.length co104) ∧ w'.cell? ⟨gb258, 1, none⟩ = some (.int .i64 t256) ∧ w'.cell? ⟨gb258, 2, none⟩ = some (.int .i64 t257) ∧ w'.cell? (ad266.add (((ji144)).toNat * 2)) = some (.int .i64 ((rd_T24 t253 (ji144)).f0)) ∧ w'.cell? ⟨(ad266.add (((ji144)).toNat * 2)).block, (ad266.add (((ji144)).toNat * 2)).off + 1, none⟩ = some (.int .i64 ((rd_T24 t253 (ji144)).f1))) (ds := []) #[F_, F_, F_, F_, F_, F_, F_, F_, F_, F_, F_, F_, F_, F_, F_, F_, F_, F_, F_, F_, F_, F_, F_, F_, F_, F_, F_, F_, F_, F_, F_] (by kernel_rfl) rfl rfl ⟨(blk_cell BK267.out 0).trans rfl, (blk_cell BK267.out 1).trans rfl, (blk_cell BK258.out 0).trans rfl, (blk_cell BK258.out 1).trans rfl, (blk_cell BK258.out 2).trans rfl, hx269_0, hx269_1⟩ (fun hHeld => ?_); refine with_tabW ropewaylaw16_FrontAims.tab22 ropewaylaw16_FrontAims.bits22 (fun HT_ HW_ => ?_)
            generalize w159.drew = w160 at HO_91 HO_242000 HO_259000 BK229 BK230 BK241 BK245 BK258 BK267 HB hx269_0 hx269_1 hHeld ⊢
            refine pure_ (i := 1) (N := some 99) (v := ?_) (a' := ?_) #[F_, T_, F_, F_, F_, F_, F_, F_, F_, F_, F_, F_, F_, F_, F_, F_, F_, F_, F_, F_, F_, F_, F_, F_, F_, F_, F_, F_, F_, F_, F_] rfl rfl (any_of HT_.out (by kernel_rfl)) (fun _ _ _ h => h) (Or.inl ⟨by rfl, ?_⟩) ?_ ?_
            rotate_left
            · intro w'
              go_simp
              with_reducible rfl
            rotate_left
            · simp only [Act.put, List.setIfInBounds_toArray, List.set_cons_zero, List.set_cons_succ, i64_w, i32_w]
              rfl
            refine take_ (i := 0) (N := some 98) (v := ?_) (a' := ?_) #[T_, T_, F_, F_, F_, F_, F_, F_, F_, F_, F_, F_, F_, F_, F_, F_, F_, F_, F_, F_, F_, F_, F_, F_, F_, F_, F_, F_, F_, F_, F_] rfl rfl (take_ofW HT_.out HW_.out (by kernel_rfl)) (fun _ _ _ h => h) (Or.inl ⟨by rfl, ?_⟩) hHeld ?_ ?_
            rotate_left
            · rintro w' ⟨s0, s1, s2, s3, s4, s5, s6⟩
              go_simp
              with_reducible rfl
            rotate_left
            · simp only [Act.put, List.setIfInBounds_toArray, List.set_cons_zero, List.set_cons_succ, i64_w, i32_w]
              rfl
            refine take_ (i := 2) (N := some 100) (v := ?_) (a' := ?_) #[T_, T_, T_, F_, F_, F_, F_, F_, F_, F_, F_, F_, F_, F_, F_, F_, F_, F_, F_, F_, F_, F_, F_, F_, F_, F_, F_, F_, F_, F_, F_] rfl rfl (take_ofW HT_.out HW_.out (by kernel_rfl)) (fun _ _ _ h => h) (Or.inl ⟨by rfl, ?_⟩) hHeld ?_ ?_
            rotate_left
            · rintro w' ⟨s0, s1, s2, s3, s4, s5, s6⟩
              go_simp
              with_reducible rfl
            rotate_left
            · simp only [Act.put, List.setIfInBounds_toArray, List.set_cons_zero, List.set_cons_succ, i64_w, i32_w]
              rfl
            refine one_ (i := 3) (N := some 101) #[T_, T_, T_, T_, F_, F_, F_, F_, F_, F_, F_, F_, F_, F_, F_, F_, F_, F_, F_, F_, F_, F_, F_, F_, F_, F_, F_, F_, F_, F_, F_] rfl rfl (one_of HT_.out (by kernel_rfl)) (by decide) (fun K hK => ?_)
            refine goes_ Try.func19 (by kernel_rfl) rfl #[.agg #[.int .i64 ((rd_T24 t253 x93_5).f0), .int .i64 ((rd_T24 t253 x93_5).f1)], .agg #[.int .i64 t256, .int .i64 t257]] (by rfl) rfl rfl (by (try simp only [List.map_toArray, List.map_cons, List.map_nil]); first | done | rfl | (simp only [List.length_drop, List.length_take]; rfl)) ?_
            with_reducible refine (change_Within.calls ((rd_T24 t253 x93_5).f0) ((rd_T24 t253 x93_5).f1) t256 t257 true _ A141.out).mono ?_
            rintro e w161 ⟨rfl, hb⟩
            have HS5_ := (hb.cell (World.block_lt_of_cell? _ _ (hHeld.2.2.2.2.2.1))).trans (hHeld.2.2.2.2.2.1)
            have HS6_ := (hb.cell (World.block_lt_of_cell? _ _ (hHeld.2.2.2.2.2.2))).trans (hHeld.2.2.2.2.2.2)
            refine ⟨_, rfl, ?_⟩
            have n0_ := Aside0.mk (Kd.R_below (rl_ HO_91) hb)
            have n1_ := Aside0.mk (Kd.R_below (rl_ HO_242000) hb)
            have n2_ := Aside0.mk (Kd.R_below (rl_ HO_259000) hb)
            have n3_ := Aside0.mk (bb_ BK229 hb)
            have n4_ := Aside0.mk (bb_ BK230 hb)
            have n5_ := Aside0.mk (bb_ BK241 hb)
            have n6_ := Aside0.mk (bb_ BK245 hb)
            have n7_ := Aside0.mk (bb_ BK258 hb)
            have n8_ := Aside0.mk (bb_ BK267 hb)
            have n9_ := Aside0.mk (below_step bel_ hb)
            clear HO_91
            clear HO_242000
            clear HO_259000
            clear BK229
            clear BK230
            clear BK241
            clear BK245
            clear BK258
            clear BK267
            clear HB
            have HO_91 := n0_
            have HO_242000 := n1_
            have HO_259000 := n2_
            have BK229 := n3_
            have BK230 := n4_
            have BK241 := n5_
            have BK245 := n6_
            have BK258 := n7_
            have BK267 := n8_
            have HB := n9_
            clear n0_ n1_ n2_ n3_ n4_ n5_ n6_ n7_ n8_ n9_
            (try clear hb)
            (try clear hb2)
            (try clear hk)
            (try clear hi)
            refine hK.out _ _ ⟨(blk_cell BK267.out 0).trans rfl, (blk_cell BK267.out 1).trans rfl, (blk_cell BK258.out 0).trans rfl, (blk_cell BK258.out 1).trans rfl, (blk_cell BK258.out 2).trans rfl, HS5_, HS6_⟩ (fun hHeld => ?_)
            clear hK K
            refine norm_ (a' := ?_) ?_ ?_
            rotate_left
            · show Act.put _ (some 101) _ = _
              simp only [Act.put, List.setIfInBounds_toArray, List.set_cons_zero, List.set_cons_succ, i64_w, i32_w]
              rfl
            refine pure_ (i := 4) (N := some 102) (v := ?_) (a' := ?_) #[T_, T_, T_, T_, T_, F_, F_, F_, F_, F_, F_, F_, F_, F_, F_, F_, F_, F_, F_, F_, F_, F_, F_, F_, F_, F_, F_, F_, F_, F_, F_] rfl rfl (any_of HT_.out (by kernel_rfl)) (fun _ _ _ h => h) (Or.inl ⟨by rfl, ?_⟩) ?_ ?_
            rotate_left
            · intro w'
              go_simp
              with_reducible rfl
            rotate_left
            · simp only [Act.put, List.setIfInBounds_toArray, List.set_cons_zero, List.set_cons_succ, i64_w, i32_w]
              rfl
            refine pure_ (i := 5) (N := some 103) (v := ?_) (a' := ?_) #[T_, T_, T_, T_, T_, T_, F_, F_, F_, F_, F_, F_, F_, F_, F_, F_, F_, F_, F_, F_, F_, F_, F_, F_, F_, F_, F_, F_, F_, F_, F_] rfl rfl (any_of HT_.out (by kernel_rfl)) (fun _ _ _ h => h) (Or.inl ⟨by rfl, ?_⟩) ?_ ?_
            rotate_left
            · intro w'
              go_simp
              with_reducible rfl
            rotate_left
            · simp only [Act.put, List.setIfInBounds_toArray, List.set_cons_zero, List.set_cons_succ, i64_w, i32_w]
              rfl
            refine pure_ (i := 6) (N := some 104) (v := ?_) (a' := ?_) #[T_, T_, T_, T_, T_, T_, T_, F_, F_, F_, F_, F_, F_, F_, F_, F_, F_, F_, F_, F_, F_, F_, F_, F_, F_, F_, F_, F_, F_, F_, F_] rfl rfl (any_of HT_.out (by kernel_rfl)) (fun _ _ _ h => h) (Or.inl ⟨by rfl, ?_⟩) ?_ ?_
            rotate_left
            · intro w'
              go_simp
              with_reducible rfl
            rotate_left
            · simp only [Act.put, List.setIfInBounds_toArray, List.set_cons_zero, List.set_cons_succ, i64_w, i32_w]
              rfl
            refine pure_ (i := 7) (N := some 105) (v := ?_) (a' := ?_) #[T_, T_, T_, T_, T_, T_, T_, T_, F_, F_, F_, F_, F_, F_, F_, F_, F_, F_, F_, F_, F_, F_, F_, F_, F_, F_, F_, F_, F_, F_, F_] rfl rfl (any_of HT_.out (by kernel_rfl)) (fun _ _ _ h => h) (Or.inl ⟨by rfl, ?_⟩) ?_ ?_
            rotate_left
            · intro w'
              go_simp
              with_reducible rfl
            rotate_left
            · simp only [Act.put, List.setIfInBounds_toArray, List.set_cons_zero, List.set_cons_succ, i64_w, i32_w]
              rfl
            refine pure_ (i := 8) (N := some 106) (v := ?_) (a' := ?_) #[T_, T_, T_, T_, T_, T_, T_, T_, T_, F_, F_, F_, F_, F_, F_, F_, F_, F_, F_, F_, F_, F_, F_, F_, F_, F_, F_, F_, F_, F_, F_] rfl rfl (any_of HT_.out (by kernel_rfl)) (fun _ _ _ h => h) (Or.inl ⟨by rfl, ?_⟩) ?_ ?_
            rotate_left
            · intro w'
              go_simp
              with_reducible rfl
            rotate_left
            · simp only [Act.put, List.setIfInBounds_toArray, List.set_cons_zero, List.set_cons_succ, i64_w, i32_w]
              rfl
            refine pure_ (i := 9) (N := some 107) (v := ?_) (a' := ?_) #[T_, T_, T_, T_, T_, T_, T_, T_, T_, T_, F_, F_, F_, F_, F_, F_, F_, F_, F_, F_, F_, F_, F_, F_, F_, F_, F_, F_, F_, F_, F_] rfl rfl (any_of HT_.out (by kernel_rfl)) (fun _ _ _ h => h) (Or.inl ⟨by rfl, ?_⟩) ?_ ?_
            rotate_left
            · intro w'
              go_simp
              with_reducible rfl
            rotate_left
            · simp only [Act.put, List.setIfInBounds_toArray, List.set_cons_zero, List.set_cons_succ, i64_w, i32_w]
              rfl
            refine pure_ (i := 11) (N := some 109) (v := ?_) (a' := ?_) #[T_, T_, T_, T_, T_, T_, T_, T_, T_, T_, F_, T_, F_, F_, F_, F_, F_, F_, F_, F_, F_, F_, F_, F_, F_, F_, F_, F_, F_, F_, F_] rfl rfl (any_of HT_.out (by kernel_rfl)) (fun _ _ _ h => h) (Or.inl ⟨by rfl, ?_⟩) ?_ ?_
            rotate_left
            · intro w'
              go_simp
              with_reducible rfl
            rotate_left
            · simp only [Act.put, List.setIfInBounds_toArray, List.set_cons_zero, List.set_cons_succ, i64_w, i32_w]
              rfl
            refine pure_ (i := 12) (N := some 110) (v := ?_) (a' := ?_) #[T_, T_, T_, T_, T_, T_, T_, T_, T_, T_, F_, T_, T_, F_, F_, F_, F_, F_, F_, F_, F_, F_, F_, F_, F_, F_, F_, F_, F_, F_, F_] rfl rfl (any_of HT_.out (by kernel_rfl)) (fun _ _ _ h => h) (Or.inl ⟨by rfl, ?_⟩) ?_ ?_
            rotate_left
            · intro w'
              go_simp
              with_reducible rfl
            rotate_left
            · simp only [Act.put, List.setIfInBounds_toArray, List.set_cons_zero, List.set_cons_succ, i64_w, i32_w]
              rfl
            refine take_ (i := 10) (N := some 108) (v := ?_) (a' := ?_) #[T_, T_, T_, T_, T_, T_, T_, T_, T_, T_, T_, T_, T_, F_, F_, F_, F_, F_, F_, F_, F_, F_, F_, F_, F_, F_, F_, F_, F_, F_, F_] rfl rfl (take_ofW HT_.out HW_.out (by kernel_rfl)) (fun _ _ _ h => h) (Or.inl ⟨by rfl, ?_⟩) hHeld ?_ ?_
            rotate_left
            · rintro w' ⟨s0, s1, s2, s3, s4, s5, s6⟩
              go_simp
              with_reducible rfl
            rotate_left
            · simp only [Act.put, List.setIfInBounds_toArray, List.set_cons_zero, List.set_cons_succ, i64_w, i32_w]
              rfl
            refine pure_ (i := 13) (N := some 111) (v := ?_) (a' := ?_) #[T_, T_, T_, T_, T_, T_, T_, T_, T_, T_, T_, T_, T_, T_, F_, F_, F_, F_, F_, F_, F_, F_, F_, F_, F_, F_, F_, F_, F_, F_, F_] rfl rfl (any_of HT_.out (by kernel_rfl)) (fun _ _ _ h => h) (Or.inl ⟨by rfl, ?_⟩) ?_ ?_
            rotate_left
            · intro w'
              go_simp
              with_reducible rfl
            rotate_left
            · simp only [Act.put, List.setIfInBounds_toArray, List.set_cons_zero, List.set_cons_succ, i64_w, i32_w]
              rfl
            refine take_ (i := 14) (N := some 112) (v := ?_) (a' := ?_) #[T_, T_, T_, T_, T_, T_, T_, T_, T_, T_, T_, T_, T_, T_, T_, F_, F_, F_, F_, F_, F_, F_, F_, F_, F_, F_, F_, F_, F_, F_, F_] rfl rfl (take_ofW HT_.out HW_.out (by kernel_rfl)) (fun _ _ _ h => h) (Or.inl ⟨by rfl, ?_⟩) hHeld ?_ ?_
            rotate_left
            · rintro w' ⟨s0, s1, s2, s3, s4, s5, s6⟩
              go_simp
              with_reducible rfl
            rotate_left
            · simp only [Act.put, List.setIfInBounds_toArray, List.set_cons_zero, List.set_cons_succ, i64_w, i32_w]
              rfl
            refine take_ (i := 15) (N := some 113) (v := ?_) (a' := ?_) #[T_, T_, T_, T_, T_, T_, T_, T_, T_, T_, T_, T_, T_, T_, T_, T_, F_, F_, F_, F_, F_, F_, F_, F_, F_, F_, F_, F_, F_, F_, F_] rfl rfl (take_ofW HT_.out HW_.out (by kernel_rfl)) (fun _ _ _ h => h) (Or.inl ⟨by rfl, ?_⟩) hHeld ?_ ?_
            rotate_left
            · rintro w' ⟨s0, s1, s2, s3, s4, s5, s6⟩
              go_simp
              with_reducible rfl
            rotate_left
            · simp only [Act.put, List.setIfInBounds_toArray, List.set_cons_zero, List.set_cons_succ, i64_w, i32_w]
              rfl
            refine one_ (i := 16) (N := some 114) #[T_, T_, T_, T_, T_, T_, T_, T_, T_, T_, T_, T_, T_, T_, T_, T_, T_, F_, F_, F_, F_, F_, F_, F_, F_, F_, F_, F_, F_, F_, F_] rfl rfl (one_of HT_.out (by kernel_rfl)) (by decide) (fun K hK => ?_)
            refine goes_ Try.func21 (by kernel_rfl) rfl #[.agg #[.int .i64 ((rd_T24 t253 (ji144)).f0), .int .i64 ((rd_T24 t253 (ji144)).f1)], .agg #[.int .i64 ((rd_T24 t253 x93_5).f0), .int .i64 ((rd_T24 t253 x93_5).f1)]] (by rfl) rfl rfl (by (try simp only [List.map_toArray, List.map_cons, List.map_nil]); first | done | (simp only [hji144]; rfl) | rfl | (simp only [List.length_drop, List.length_take]; rfl)) ?_
            with_reducible refine (view_Less.calls k5 ((rd_T24 t253 (ji144)).f0) ((rd_T24 t253 (ji144)).f1) ((rd_T24 t253 x93_5).f0) ((rd_T24 t253 x93_5).f1) true _ A147.out).mono ?_
            rintro e w162 ⟨rfl, hb⟩
            have HS5_ := (hb.cell (World.block_lt_of_cell? _ _ (hHeld.2.2.2.2.2.1))).trans (hHeld.2.2.2.2.2.1)
            have HS6_ := (hb.cell (World.block_lt_of_cell? _ _ (hHeld.2.2.2.2.2.2))).trans (hHeld.2.2.2.2.2.2)
            refine ⟨_, rfl, ?_⟩
            have n0_ := Aside0.mk (Kd.R_below (rl_ HO_91) hb)
            have n1_ := Aside0.mk (Kd.R_below (rl_ HO_242000) hb)
            have n2_ := Aside0.mk (Kd.R_below (rl_ HO_259000) hb)
            have n3_ := Aside0.mk (bb_ BK229 hb)
            have n4_ := Aside0.mk (bb_ BK230 hb)
            have n5_ := Aside0.mk (bb_ BK241 hb)
            have n6_ := Aside0.mk (bb_ BK245 hb)
            have n7_ := Aside0.mk (bb_ BK258 hb)
            have n8_ := Aside0.mk (bb_ BK267 hb)
            have n9_ := Aside0.mk (below_step bel_ hb)
            clear HO_91
            clear HO_242000
            clear HO_259000
            clear BK229
            clear BK230
            clear BK241
            clear BK245
            clear BK258
            clear BK267
            clear HB
            have HO_91 := n0_
            have HO_242000 := n1_
            have HO_259000 := n2_
            have BK229 := n3_
            have BK230 := n4_
            have BK241 := n5_
            have BK245 := n6_
            have BK258 := n7_
            have BK267 := n8_
            have HB := n9_
            clear n0_ n1_ n2_ n3_ n4_ n5_ n6_ n7_ n8_ n9_
            (try clear hb)
            (try clear hb2)
            (try clear hk)
            (try clear hi)
            refine hK.out _ _ ⟨(blk_cell BK267.out 0).trans rfl, (blk_cell BK267.out 1).trans rfl, (blk_cell BK258.out 0).trans rfl, (blk_cell BK258.out 1).trans rfl, (blk_cell BK258.out 2).trans rfl, HS5_, HS6_⟩ (fun hHeld => ?_)
            clear hK K
            refine norm_ (a' := ?_) ?_ ?_
            rotate_left
            · show Act.put _ (some 114) _ = _
              simp only [Act.put, List.setIfInBounds_toArray, List.set_cons_zero, List.set_cons_succ, i64_w, i32_w]
              rfl
            refine pure_ (i := 17) (N := some 115) (v := ?_) (a' := ?_) #[T_, T_, T_, T_, T_, T_, T_, T_, T_, T_, T_, T_, T_, T_, T_, T_, T_, T_, F_, F_, F_, F_, F_, F_, F_, F_, F_, F_, F_, F_, F_] rfl rfl (any_of HT_.out (by kernel_rfl)) (fun _ _ _ h => h) (Or.inl ⟨by rfl, ?_⟩) ?_ ?_
            rotate_left
            · intro w'
              go_simp
              with_reducible rfl
            rotate_left
            · simp only [Act.put, List.setIfInBounds_toArray, List.set_cons_zero, List.set_cons_succ, i64_w, i32_w]
              rfl
            refine pure_ (i := 18) (N := some 116) (v := ?_) (a' := ?_) #[T_, T_, T_, T_, T_, T_, T_, T_, T_, T_, T_, T_, T_, T_, T_, T_, T_, T_, T_, F_, F_, F_, F_, F_, F_, F_, F_, F_, F_, F_, F_] rfl rfl (any_of HT_.out (by kernel_rfl)) (fun _ _ _ h => h) (Or.inl ⟨by rfl, ?_⟩) ?_ ?_
            rotate_left
            · intro w'
              go_simp
              with_reducible rfl
            rotate_left
            · simp only [Act.put, List.setIfInBounds_toArray, List.set_cons_zero, List.set_cons_succ, i64_w, i32_w]
              rfl
            refine pure_ (i := 19) (N := some 117) (v := ?_) (a' := ?_) #[T_, T_, T_, T_, T_, T_, T_, T_, T_, T_, T_, T_, T_, T_, T_, T_, T_, T_, T_, T_, F_, F_, F_, F_, F_, F_, F_, F_, F_, F_, F_] rfl rfl (any_of HT_.out (by kernel_rfl)) (fun _ _ _ h => h) (Or.inl ⟨by rfl, ?_⟩) ?_ ?_
            rotate_left
            · intro w'
              go_simp
              with_reducible rfl
            rotate_left
            · simp only [Act.put, List.setIfInBounds_toArray, List.set_cons_zero, List.set_cons_succ, i64_w, i32_w]
              rfl
            refine pure_ (i := 20) (N := some 118) (v := ?_) (a' := ?_) #[T_, T_, T_, T_, T_, T_, T_, T_, T_, T_, T_, T_, T_, T_, T_, T_, T_, T_, T_, T_, T_, F_, F_, F_, F_, F_, F_, F_, F_, F_, F_] rfl rfl (any_of HT_.out (by kernel_rfl)) (fun _ _ _ h => h) (Or.inl ⟨by rfl, ?_⟩) ?_ ?_
            rotate_left
            · intro w'
              go_simp
              with_reducible rfl
            rotate_left
            · simp only [Act.put, List.setIfInBounds_toArray, List.set_cons_zero, List.set_cons_succ, i64_w, i32_w]
              rfl
            refine pure_ (i := 27) (N := some 125) (v := ?_) (a' := ?_) #[T_, T_, T_, T_, T_, T_, T_, T_, T_, T_, T_, T_, T_, T_, T_, T_, T_, T_, T_, T_, T_, F_, F_, F_, F_, F_, F_, T_, F_, F_, F_] rfl rfl (any_of HT_.out (by kernel_rfl)) (fun _ _ _ h => h) (Or.inl ⟨by rfl, ?_⟩) ?_ ?_
            rotate_left
            · intro w'
              go_simp
              with_reducible rfl
            rotate_left
            · simp only [Act.put, List.setIfInBounds_toArray, List.set_cons_zero, List.set_cons_succ, i64_w, i32_w]
              rfl
            refine take_ (i := 21) (N := some 119) (v := ?_) (a' := ?_) #[T_, T_, T_, T_, T_, T_, T_, T_, T_, T_, T_, T_, T_, T_, T_, T_, T_, T_, T_, T_, T_, T_, F_, F_, F_, F_, F_, T_, F_, F_, F_] rfl rfl (take_ofW HT_.out HW_.out (by kernel_rfl)) (fun _ _ _ h => h) (Or.inl ⟨by rfl, ?_⟩) hHeld ?_ ?_
            rotate_left
            · rintro w' ⟨s0, s1, s2, s3, s4, s5, s6⟩
              go_simp
              with_reducible rfl
            rotate_left
            · simp only [Act.put, List.setIfInBounds_toArray, List.set_cons_zero, List.set_cons_succ, i64_w, i32_w]
              rfl
            refine take_ (i := 22) (N := some 120) (v := ?_) (a' := ?_) #[T_, T_, T_, T_, T_, T_, T_, T_, T_, T_, T_, T_, T_, T_, T_, T_, T_, T_, T_, T_, T_, T_, T_, F_, F_, F_, F_, T_, F_, F_, F_] rfl rfl (take_ofW HT_.out HW_.out (by kernel_rfl)) (fun _ _ _ h => h) (Or.inl ⟨by rfl, ?_⟩) hHeld ?_ ?_
            rotate_left
            · rintro w' ⟨s0, s1, s2, s3, s4, s5, s6⟩
              go_simp
              with_reducible rfl
            rotate_left
            · simp only [Act.put, List.setIfInBounds_toArray, List.set_cons_zero, List.set_cons_succ, i64_w, i32_w]
              rfl
            refine take_ (i := 23) (N := some 121) (v := ?_) (a' := ?_) #[T_, T_, T_, T_, T_, T_, T_, T_, T_, T_, T_, T_, T_, T_, T_, T_, T_, T_, T_, T_, T_, T_, T_, T_, F_, F_, F_, T_, F_, F_, F_] rfl rfl (take_ofW HT_.out HW_.out (by kernel_rfl)) (fun _ _ _ h => h) (Or.inl ⟨by rfl, ?_⟩) hHeld ?_ ?_
            rotate_left
            · rintro w' ⟨s0, s1, s2, s3, s4, s5, s6⟩
              go_simp
              with_reducible rfl
            rotate_left
            · simp only [Act.put, List.setIfInBounds_toArray, List.set_cons_zero, List.set_cons_succ, i64_w, i32_w]
              rfl
            refine take_ (i := 28) (N := some 126) (v := ?_) (a' := ?_) #[T_, T_, T_, T_, T_, T_, T_, T_, T_, T_, T_, T_, T_, T_, T_, T_, T_, T_, T_, T_, T_, T_, T_, T_, F_, F_, F_, T_, T_, F_, F_] rfl rfl (take_ofW HT_.out HW_.out (by kernel_rfl)) (fun _ _ _ h => h) (Or.inl ⟨by rfl, ?_⟩) hHeld ?_ ?_
            rotate_left
            · rintro w' ⟨s0, s1, s2, s3, s4, s5, s6⟩
              go_simp
              with_reducible rfl
            rotate_left
            · simp only [Act.put, List.setIfInBounds_toArray, List.set_cons_zero, List.set_cons_succ, i64_w, i32_w]
              rfl
            refine one_ (i := 24) (N := some 122) #[T_, T_, T_, T_, T_, T_, T_, T_, T_, T_, T_, T_, T_, T_, T_, T_, T_, T_, T_, T_, T_, T_, T_, T_, T_, F_, F_, T_, T_, F_, F_] rfl rfl (one_of HT_.out (by kernel_rfl)) (by decide) (fun K hK => ?_)
            refine goes_ Try.func11 (by kernel_rfl) rfl #[.agg #[.slice (some ad266) t253.length co104, .int .i64 t256, .int .i64 t257], .agg #[.int .i64 ((rd_T24 t253 x93_5).f0), .int .i64 ((rd_T24 t253 x93_5).f1)]] (by rfl) rfl rfl (by (try simp only [List.map_toArray, List.map_cons, List.map_nil]); first | done | rfl | (simp only [List.length_drop, List.length_take]; rfl)) ?_
            with_reducible refine (front_Want.calls _ _ t253 t256 t257 ((rd_T24 t253 x93_5).f0) ((rd_T24 t253 x93_5).f1) t271 t272 _ ?side1 ?side2 A149.out).mono ?_
            (case side1 => repeat (first | exact (Kd.R_reads' HO_259000.out).2.2 | (with_reducible refine Kd.C_alloc ?_ _) | (with_reducible refine Kd.C_drewN ?_ _) | (with_reducible refine Kd.C_drew ?_)))
            (case side2 => exact (Kd.R_reads' HO_259000.out).2.1)
            rintro e w163 ⟨rfl, hb⟩
            have HS5_ := (hb.cell (World.block_lt_of_cell? _ _ (hHeld.2.2.2.2.2.1))).trans (hHeld.2.2.2.2.2.1)
            have HS6_ := (hb.cell (World.block_lt_of_cell? _ _ (hHeld.2.2.2.2.2.2))).trans (hHeld.2.2.2.2.2.2)
            refine ⟨_, rfl, ?_⟩
            have n0_ := Aside0.mk (Kd.R_below (rl_ HO_91) hb)
            have n1_ := Aside0.mk (Kd.R_below (rl_ HO_242000) hb)
            have n2_ := Aside0.mk (Kd.R_below (rl_ HO_259000) hb)
            have n3_ := Aside0.mk (bb_ BK229 hb)
            have n4_ := Aside0.mk (bb_ BK230 hb)
            have n5_ := Aside0.mk (bb_ BK241 hb)
            have n6_ := Aside0.mk (bb_ BK245 hb)
            have n7_ := Aside0.mk (bb_ BK258 hb)
            have n8_ := Aside0.mk (bb_ BK267 hb)
            have n9_ := Aside0.mk (below_step bel_ hb)
            clear HO_91
            clear HO_242000
            clear HO_259000
            clear BK229
            clear BK230
            clear BK241
            clear BK245
            clear BK258
            clear BK267
            clear HB
            have HO_91 := n0_
            have HO_242000 := n1_
            have HO_259000 := n2_
            have BK229 := n3_
            have BK230 := n4_
            have BK241 := n5_
            have BK245 := n6_
            have BK258 := n7_
            have BK267 := n8_
            have HB := n9_
            clear n0_ n1_ n2_ n3_ n4_ n5_ n6_ n7_ n8_ n9_
            (try clear hb)
            (try clear hb2)
            (try clear hk)
            (try clear hi)
            refine hK.out _ _ ⟨(blk_cell BK267.out 0).trans rfl, (blk_cell BK267.out 1).trans rfl, (blk_cell BK258.out 0).trans rfl, (blk_cell BK258.out 1).trans rfl, (blk_cell BK258.out 2).trans rfl, HS5_, HS6_⟩ (fun hHeld => ?_)
            clear hK K
            refine norm_ (a' := ?_) ?_ ?_
            rotate_left
            · show Act.put _ (some 122) _ = _
              simp only [Act.put, List.setIfInBounds_toArray, List.set_cons_zero, List.set_cons_succ, i64_w, i32_w]
              rfl
            refine one_ (i := 25) (N := some 123) #[T_, T_, T_, T_, T_, T_, T_, T_, T_, T_, T_, T_, T_, T_, T_, T_, T_, T_, T_, T_, T_, T_, T_, T_, T_, T_, F_, T_, T_, F_, F_] rfl rfl (one_of HT_.out (by kernel_rfl)) (by decide) (fun K hK => ?_)
            refine Kd.R_lit_step k24 _ 24 ?hg (N := 123) ?hd (xs := ([(⟨(rd_T24 t253 x93_5).f0, (rd_T24 t253 x93_5).f1⟩ : S24), (⟨t271, t272⟩ : S24)] : List (S24))) (inner := [.int .i64 ((rd_T24 t253 x93_5).f0), .int .i64 ((rd_T24 t253 x93_5).f1), .int .i64 t271, .int .i64 t272]) (ok := fun _ => True) (okp := fun _ => True) ?hr ?hp (fun _ hk => hk) trivial (Below.refl _ _) (Nat.le_refl _) (by simp) ?_; (case hd => rfl); (case hg => rfl); (case hr => first | (go_simp; done) | (go_simp; rfl)); (case hp => exact (Reps.c2 (show Kd.M k24 _ _ _ (⟨(rd_T24 t253 x93_5).f0, (rd_T24 t253 x93_5).f1⟩ : S24) [.int .i64 ((rd_T24 t253 x93_5).f0), .int .i64 ((rd_T24 t253 x93_5).f1)] from (k24_mkM _ _ _ (⟨(rd_T24 t253 x93_5).f0, (rd_T24 t253 x93_5).f1⟩ : S24) )) (Reps.c2 (show Kd.M k24 _ _ _ (⟨t271, t272⟩ : S24) [.int .i64 t271, .int .i64 t272] from (k24_mkM _ _ _ (⟨t271, t272⟩ : S24) )) (Reps.none _ _))))
            intro v274 w164 ho165 hb hg_ hnew_
            have HS5_ := (hb.cell (World.block_lt_of_cell? _ _ (hHeld.2.2.2.2.2.1))).trans (hHeld.2.2.2.2.2.1)
            have HS6_ := (hb.cell (World.block_lt_of_cell? _ _ (hHeld.2.2.2.2.2.2))).trans (hHeld.2.2.2.2.2.2)
            clear hg_ hnew_
            (first | rw [← Ny273.out] at ho165 | (simp only [Int.reduceToNat] at ho165; rw [← Ny273.out] at ho165))
            have n0_ := Aside0.mk (Kd.R_elder' (rl_ HO_91) (Kd.R_base ho165) hb)
            have n1_ := Aside0.mk (Kd.R_elder' (rl_ HO_242000) (Kd.R_base ho165) hb)
            have n2_ := Aside0.mk (Kd.R_elder' (rl_ HO_259000) (Kd.R_base ho165) hb)
            have n3_ := Aside0.mk (Kd.R_lower (Kd.R_newB (Kd.R_newB (Kd.R_newB (Kd.R_newB (Kd.R_new' (Kd.R_new' (Kd.R_new' ho165 (Kd.R_lt (rl_ HO_91))) (Kd.R_lt (rl_ HO_242000))) (Kd.R_lt (rl_ HO_259000))) (g := gb229) (o := .cells #[.int .i64 a0_0, .int .i64 a0_1] 24 (0, 0)) blk_) (g := gb230) (o := .cells #[.int .i64 a1_0, .int .i64 a1_1] 24 (0, 0)) blk_) (g := gb245) (o := .cells #[.int .i64 t243, .int .i64 t244] 24 (0, 0)) blk_) (g := gb267) (o := .cells #[.int .i64 ((rd_T24 t253 x93_5).f0), .int .i64 ((rd_T24 t253 x93_5).f1)] 24 (0, 0)) blk_) (below_size bel_))
            have n4_ := Aside0.mk (bb_ BK229 hb)
            have n5_ := Aside0.mk (bb_ BK230 hb)
            have n6_ := Aside0.mk (bb_ BK241 hb)
            have n7_ := Aside0.mk (bb_ BK245 hb)
            have n8_ := Aside0.mk (bb_ BK258 hb)
            have n9_ := Aside0.mk (bb_ BK267 hb)
            have n10_ := Aside0.mk (below_step bel_ hb)
            clear HO_91
            clear HO_242000
            clear HO_259000
            clear BK229
            clear BK230
            clear BK241
            clear BK245
            clear BK258
            clear BK267
            clear HB
            have HO_91 := n0_
            have HO_242000 := n1_
            have HO_259000 := n2_
            have HO275 := n3_
            have BK229 := n4_
            have BK230 := n5_
            have BK241 := n6_
            have BK245 := n7_
            have BK258 := n8_
            have BK267 := n9_
            have HB := n10_
            clear n0_ n1_ n2_ n3_ n4_ n5_ n6_ n7_ n8_ n9_ n10_
            clear hb ho165
            obtain ⟨Ao166, co166, eo166⟩ := Kd.R_slice HO275.out
            (first | subst eo166 | (injection eo166 with f1_ f2_ f3_; have f4_ := f1_.symm; have f5_ := f3_.symm; clear f1_ f2_ f3_; subst f4_; subst f5_))
            refine hK.out _ _ ⟨(blk_cell BK267.out 0).trans rfl, (blk_cell BK267.out 1).trans rfl, (blk_cell BK258.out 0).trans rfl, (blk_cell BK258.out 1).trans rfl, (blk_cell BK258.out 2).trans rfl, HS5_, HS6_⟩ (fun hHeld => ?_)
            clear hK K
            refine norm_ (a' := ?_) ?_ ?_
            rotate_left
            · show Act.put _ (some 123) _ = _
              simp only [Act.put, List.setIfInBounds_toArray, List.set_cons_zero, List.set_cons_succ, i64_w, i32_w]
              rfl
            refine one_ (i := 26) (N := some 124) #[T_, T_, T_, T_, T_, T_, T_, T_, T_, T_, T_, T_, T_, T_, T_, T_, T_, T_, T_, T_, T_, T_, T_, T_, T_, T_, T_, T_, T_, F_, F_] rfl rfl (one_of HT_.out (by kernel_rfl)) (by decide) (fun K hK => ?_)
            refine goes_ Try.func22 (by kernel_rfl) rfl #[.slice Ao166 y273.length co166] (by rfl) rfl rfl (by (try simp only [List.map_toArray, List.map_cons, List.map_nil]); first | done | rfl | (simp only [List.length_drop, List.length_take]; rfl)) ?_
            with_reducible refine (change_Join.calls k5 _ _ y273 t276 t277 _ ?side1 ?side2 A150.out).mono ?_
            (case side1 => repeat (first | exact (Kd.R_reads' HO275.out).2.2 | (with_reducible refine Kd.C_alloc ?_ _) | (with_reducible refine Kd.C_drewN ?_ _) | (with_reducible refine Kd.C_drew ?_)))
            (case side2 => exact (Kd.R_reads' HO275.out).2.1)
            rintro e w167 ⟨rfl, hb⟩
            have HS5_ := (hb.cell (World.block_lt_of_cell? _ _ (hHeld.2.2.2.2.2.1))).trans (hHeld.2.2.2.2.2.1)
            have HS6_ := (hb.cell (World.block_lt_of_cell? _ _ (hHeld.2.2.2.2.2.2))).trans (hHeld.2.2.2.2.2.2)
            refine ⟨_, rfl, ?_⟩
            have n0_ := Aside0.mk (Kd.R_below (rl_ HO_91) hb)
            have n1_ := Aside0.mk (Kd.R_below (rl_ HO_242000) hb)
            have n2_ := Aside0.mk (Kd.R_below (rl_ HO_259000) hb)
            have n3_ := Aside0.mk (Kd.R_below (rl_ HO275) hb)
            have n4_ := Aside0.mk (bb_ BK229 hb)
            have n5_ := Aside0.mk (bb_ BK230 hb)
            have n6_ := Aside0.mk (bb_ BK241 hb)
            have n7_ := Aside0.mk (bb_ BK245 hb)
            have n8_ := Aside0.mk (bb_ BK258 hb)
            have n9_ := Aside0.mk (bb_ BK267 hb)
            have n10_ := Aside0.mk (below_step bel_ hb)
            clear HO_91
            clear HO_242000
            clear HO_259000
            clear HO275
            clear BK229
            clear BK230
            clear BK241
            clear BK245
            clear BK258
            clear BK267
            clear HB
            have HO_91 := n0_
            have HO_242000 := n1_
            have HO_259000 := n2_
            have HO275 := n3_
            have BK229 := n4_
            have BK230 := n5_
            have BK241 := n6_
            have BK245 := n7_
            have BK258 := n8_
            have BK267 := n9_
            have HB := n10_
            clear n0_ n1_ n2_ n3_ n4_ n5_ n6_ n7_ n8_ n9_ n10_
            (try clear hb)
            (try clear hb2)
            (try clear hk)
            (try clear hi)
            refine hK.out _ _ ⟨(blk_cell BK267.out 0).trans rfl, (blk_cell BK267.out 1).trans rfl, (blk_cell BK258.out 0).trans rfl, (blk_cell BK258.out 1).trans rfl, (blk_cell BK258.out 2).trans rfl, HS5_, HS6_⟩ (fun hHeld => ?_)
            clear hK K
            refine norm_ (a' := ?_) ?_ ?_
            rotate_left
            · show Act.put _ (some 124) _ = _
              simp only [Act.put, List.setIfInBounds_toArray, List.set_cons_zero, List.set_cons_succ, i64_w, i32_w]
              rfl
            refine pure_ (i := 29) (N := some 127) (v := ?_) (a' := ?_) #[T_, T_, T_, T_, T_, T_, T_, T_, T_, T_, T_, T_, T_, T_, T_, T_, T_, T_, T_, T_, T_, T_, T_, T_, T_, T_, T_, T_, T_, T_, F_] rfl rfl (any_of HT_.out (by kernel_rfl)) (fun _ _ _ h => h) (Or.inl ⟨by rfl, ?_⟩) ?_ ?_
            rotate_left
            · intro w'
              go_simp
              with_reducible rfl
            rotate_left
            · simp only [Act.put, List.setIfInBounds_toArray, List.set_cons_zero, List.set_cons_succ, i64_w, i32_w]
              rfl
            refine pure_ (i := 30) (N := some 128) (v := ?_) (a' := ?_) #[T_, T_, T_, T_, T_, T_, T_, T_, T_, T_, T_, T_, T_, T_, T_, T_, T_, T_, T_, T_, T_, T_, T_, T_, T_, T_, T_, T_, T_, T_, T_] rfl rfl (any_of HT_.out (by kernel_rfl)) (fun _ _ _ h => h) (Or.inl ⟨by rfl, ?_⟩) ?_ ?_
            rotate_left
            · intro w'
              go_simp
              with_reducible rfl
            rotate_left
            · simp only [Act.put, List.setIfInBounds_toArray, List.set_cons_zero, List.set_cons_succ, i64_w, i32_w]
              rfl
            refine done_ (done_of HT_.out (by kernel_rfl)) ?_
            try go_wp2
            go_roundg k5
            case measure => have := HJ5.out; have := HK2.out; have := HK3.out; have := HJ93.out; have := HK5.out; omega
            case rel => exact ⟨(wrap64 (x93_5 + 1)), (by first | rfl | (simp; done) | (simp [*]; done) | (simp; grind)), H', ⟨by have := HJ5.out; have := HK2.out; have := HK3.out; have := HJ93.out; have := HK5.out; omega⟩, ⟨by (with_reducible repeat (first | apply Kd.R_alloc | apply Kd.R_drewN | apply Kd.R_drew)); exact Kd.R_mono HO_91.out (fun _ hk => ⟨hk.1.1, ⟨hk.1.2.1, ⟨hk.1.2.2.1, hk.1.2.2.2.1⟩⟩⟩)⟩, ⟨by (with_reducible repeat (first | apply Kd.R_alloc | apply Kd.R_drewN | apply Kd.R_drew)); exact Kd.R_mono HO_242000.out (fun _ hk => ⟨hk.1.1, ⟨hk.1.2.1, ⟨hk.1.2.2.1, ⟨hk.1.2.2.2.1, hk.1.2.2.2.2.1⟩⟩⟩⟩)⟩, ⟨by (with_reducible repeat (first | apply Kd.R_alloc | apply Kd.R_drewN | apply Kd.R_drew)); exact Kd.R_mono HO_259000.out (fun _ hk => ⟨hk.1.1, ⟨hk.1.2.1, ⟨hk.1.2.2.1, hk.1.2.2.2.1⟩⟩⟩)⟩, ⟨blf_⟩, ⟨blf_⟩, ⟨blf_⟩, ⟨blf_⟩, ⟨blf_⟩, ⟨bel_⟩⟩
/-- THE ONE PURE STATEMENT of ropewaylaw16_FrontAims. -/
def ropewaylaw16_FrontAims.Pure : Prop := ∀ (a0_0 : Int) (a0_1 : Int) (a1_0 : Int) (a1_1 : Int) (l2 : List (List (S24))), (Lit.int .i64 a0_0).wf = true → (Lit.int .i64 a0_1).wf = true → (Lit.int .i64 a1_0).wf = true → (Lit.int .i64 a1_1).wf = true → (l2.length ≤ maxLen ∧ l2.length * 24 ≤ 140737488351232 ∧ ∀ y0 ∈ l2, (y0.length ≤ maxLen ∧ y0.length * 16 ≤ 140737488351232 ∧ ∀ y1 ∈ y0, ((Lit.int .i64 y1.f0).wf = true ∧ (Lit.int .i64 y1.f1).wf = true))) → ∃ k, ropewaylaw16_FrontAims.f k a0_0 a0_1 a1_0 a1_1 l2 = some true

end Go.Proofs.Ytjfmhahlmnnacaa.PFrontAims
