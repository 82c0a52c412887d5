/- Written by a program of this session (wip/tool/px.py) over the kit's print: what the code that the law PastSources reaches computes, function by function, and the law's row. -/
import Derived.Test.YtmenkbdaabjojaaPPastSourcesx0
import Derived.Test.YtmenkbdaabjojaaPPastSourcesx2
import Derived.Test.YtmenkbdaabjojaaPPastSourcesx3
import Derived.Test.YtmenkbdaabjojaaPPastSourcesx5
namespace Go.Proofs.Ytmenkbdaabjojaa.PPastSources
open Go.RowKit Go.Proofs.YtmenkbdaabjojaaX Go.Proofs.YtmenkbdaabjojaaW.PrintWords Go.Proofs.YtmenkbdaabjojaaW.PrintLast Go.Proofs.YtmenkbdaabjojaaW.PrintMore
open List renaming setIfInBounds_toArray → zS, set_cons_zero → zZ, set_cons_succ → zC
open Go.Proofs.YtmenkbdaabjojaaW.PrintWords renaming blk_drewN → zN, blk_drew → zD, blk_alloc → zA, blk_cell → zL, blk_frozen → zF, below_step → zB
open Go.Proofs.YtmenkbdaabjojaaW.PrintWords.Aside0 renaming mk → zM
attribute [local go_sem] max2_int min2_int max_two min_two max_three min_three max_four min_four   -- for this text's walks alone
set_option linter.unusedVariables false
set_option linter.unusedSimpArgs false

attribute [local go_sem] px_store_float px_neg_float px_call40
attribute [local go_sem high] eqA29
/-! ### past_pair: function 26 -/
mutual
def past_pair.j0 : Nat → Bool → Int → Int → Int → Int → Int → Nat → Int → Int → Int → Int → Int → Int → Int → Int → Nat → Int → Int → Int → Int → Int → Nat → Int → Int → Int → Int → Int → Int → Int → Int → Nat → Int → Int → Int → Nat → Int → Int → Int → Nat → Option (Bool)
  | 0, _, _, _, _, _, _, _, _, _, _, _, _, _, _, _, _, _, _, _, _, _, _, _, _, _, _, _, _, _, _, _, _, _, _, _, _, _, _, _ => none
  | k + 1, x7, x147000, x147001, x147002, x147003, x147004, x147005, x147006, x147007, x147008, x147009, x147010, x147011, x147012, x147013, x147014, x148000, x148001, x148002, x148003, x148004, x148005, x148006, x148007, x148008, x148009, x148010, x148011, x148012, x148013, x148014, x149000, x149001, x149002, x149003, x150000, x150001, x150002, x150003 => if x7 = true then (past_pair.j1 k (x149001 == x150001 && (x149002 == x150002)) x147000 x147001 x147002 x147003 x147004 x147005 x147006 x147007 x147008 x147009 x147010 x147011 x147012 x147013 x147014 x148000 x148001 x148002 x148003 x148004 x148005 x148006 x148007 x148008 x148009 x148010 x148011 x148012 x148013 x148014 x149000 x149001 x149002 x149003 x150000 x150001 x150002 x150003) else (past_pair.j1 k false x147000 x147001 x147002 x147003 x147004 x147005 x147006 x147007 x147008 x147009 x147010 x147011 x147012 x147013 x147014 x148000 x148001 x148002 x148003 x148004 x148005 x148006 x148007 x148008 x148009 x148010 x148011 x148012 x148013 x148014 x149000 x149001 x149002 x149003 x150000 x150001 x150002 x150003)
def past_pair.j1 : Nat → Bool → Int → Int → Int → Int → Int → Nat → Int → Int → Int → Int → Int → Int → Int → Int → Nat → Int → Int → Int → Int → Int → Nat → Int → Int → Int → Int → Int → Int → Int → Int → Nat → Int → Int → Int → Nat → Int → Int → Int → Nat → Option (Bool)
  | 0, _, _, _, _, _, _, _, _, _, _, _, _, _, _, _, _, _, _, _, _, _, _, _, _, _, _, _, _, _, _, _, _, _, _, _, _, _, _, _ => none
  | k + 1, x24, x147000, x147001, x147002, x147003, x147004, x147005, x147006, x147007, x147008, x147009, x147010, x147011, x147012, x147013, x147014, x148000, x148001, x148002, x148003, x148004, x148005, x148006, x148007, x148008, x148009, x148010, x148011, x148012, x148013, x148014, x149000, x149001, x149002, x149003, x150000, x150001, x150002, x150003 => if x24 = true then (some false) else (if x147004 = x148004 then (if (x149001 == x150001 && (x149002 == x150002)) = true then ((num_Same.f x149003 x150003).bind fun t150 => (past_pair.j2 k (!t150) x147000 x147001 x147002 x147003 x147004 x147005 x147006 x147007 x147008 x147009 x147010 x147011 x147012 x147013 x147014 x148000 x148001 x148002 x148003 x148004 x148005 x148006 x148007 x148008 x148009 x148010 x148011 x148012 x148013 x148014 x149000 x149001 x149002 x149003 x150000 x150001 x150002 x150003)) else (past_pair.j2 k false x147000 x147001 x147002 x147003 x147004 x147005 x147006 x147007 x147008 x147009 x147010 x147011 x147012 x147013 x147014 x148000 x148001 x148002 x148003 x148004 x148005 x148006 x148007 x148008 x148009 x148010 x148011 x148012 x148013 x148014 x149000 x149001 x149002 x149003 x150000 x150001 x150002 x150003)) else (some true))
def past_pair.j2 : Nat → Bool → Int → Int → Int → Int → Int → Nat → Int → Int → Int → Int → Int → Int → Int → Int → Nat → Int → Int → Int → Int → Int → Nat → Int → Int → Int → Int → Int → Int → Int → Int → Nat → Int → Int → Int → Nat → Int → Int → Int → Nat → Option (Bool)
  | 0, _, _, _, _, _, _, _, _, _, _, _, _, _, _, _, _, _, _, _, _, _, _, _, _, _, _, _, _, _, _, _, _, _, _, _, _, _, _, _ => none
  | k + 1, x41, x147000, x147001, x147002, x147003, x147004, x147005, x147006, x147007, x147008, x147009, x147010, x147011, x147012, x147013, x147014, x148000, x148001, x148002, x148003, x148004, x148005, x148006, x148007, x148008, x148009, x148010, x148011, x148012, x148013, x148014, x149000, x149001, x149002, x149003, x150000, x150001, x150002, x150003 => if x41 = true then (some false) else ((past_Before.f x147000 x147001 x147002 x147003 x147004 x147005 x147006 x147007 x147008 x147009 x147010 x147011 x147012 x147013 x147014 x148000 x148001 x148002 x148003 x148004 x148005 x148006 x148007 x148008 x148009 x148010 x148011 x148012 x148013 x148014).bind fun t151 => (if t151 = true then ((tag_Less.f k x149001 x149002 x150001 x150002).bind fun t152 => (if t152 = true then (some true) else (if (x149001 == x150001 && (x149002 == x150002)) = true then (some (x148003 != 1)) else (some false)))) else (some true)))
end
def past_pair.f (k : Nat) (a0_0 : Int) (a0_1 : Int) (a0_2 : Int) (a0_3 : Int) (a0_4 : Int) (a0_5 : Nat) (a0_6 : Int) (a0_7 : Int) (a0_8 : Int) (a0_9 : Int) (a0_10 : Int) (a0_11 : Int) (a0_12 : Int) (a0_13 : Int) (a0_14 : Nat) (a1_0 : Int) (a1_1 : Int) (a1_2 : Int) (a1_3 : Int) (a1_4 : Int) (a1_5 : Nat) (a1_6 : Int) (a1_7 : Int) (a1_8 : Int) (a1_9 : Int) (a1_10 : Int) (a1_11 : Int) (a1_12 : Int) (a1_13 : Int) (a1_14 : Nat) : Option (Bool) := if a0_3 = 1 then (past_pair.j0 k (a1_3 == 1) a0_0 a0_1 a0_2 a0_3 a0_4 a0_5 a0_6 a0_7 a0_8 a0_9 a0_10 a0_11 a0_12 a0_13 a0_14 a1_0 a1_1 a1_2 a1_3 a1_4 a1_5 a1_6 a1_7 a1_8 a1_9 a1_10 a1_11 a1_12 a1_13 a1_14 a0_11 a0_12 a0_13 a0_14 a1_11 a1_12 a1_13 a1_14) else (past_pair.j0 k false a0_0 a0_1 a0_2 a0_3 a0_4 a0_5 a0_6 a0_7 a0_8 a0_9 a0_10 a0_11 a0_12 a0_13 a0_14 a1_0 a1_1 a1_2 a1_3 a1_4 a1_5 a1_6 a1_7 a1_8 a1_9 a1_10 a1_11 a1_12 a1_13 a1_14 a0_11 a0_12 a0_13 a0_14 a1_11 a1_12 a1_13 a1_14)
theorem past_pair.mono_l : ∀ k, (∀ y0 y1 y2 y3 y4 y5 y6 y7 y8 y9 y10 y11 y12 y13 y14 y15 y16 y17 y18 y19 y20 y21 y22 y23 y24 y25 y26 y27 y28 y29 y30 y31 y32 y33 y34 y35 y36 y37 y38, LeO (past_pair.j0 k y0 y1 y2 y3 y4 y5 y6 y7 y8 y9 y10 y11 y12 y13 y14 y15 y16 y17 y18 y19 y20 y21 y22 y23 y24 y25 y26 y27 y28 y29 y30 y31 y32 y33 y34 y35 y36 y37 y38) (past_pair.j0 (k + 1) y0 y1 y2 y3 y4 y5 y6 y7 y8 y9 y10 y11 y12 y13 y14 y15 y16 y17 y18 y19 y20 y21 y22 y23 y24 y25 y26 y27 y28 y29 y30 y31 y32 y33 y34 y35 y36 y37 y38)) ∧ (∀ y0 y1 y2 y3 y4 y5 y6 y7 y8 y9 y10 y11 y12 y13 y14 y15 y16 y17 y18 y19 y20 y21 y22 y23 y24 y25 y26 y27 y28 y29 y30 y31 y32 y33 y34 y35 y36 y37 y38, LeO (past_pair.j1 k y0 y1 y2 y3 y4 y5 y6 y7 y8 y9 y10 y11 y12 y13 y14 y15 y16 y17 y18 y19 y20 y21 y22 y23 y24 y25 y26 y27 y28 y29 y30 y31 y32 y33 y34 y35 y36 y37 y38) (past_pair.j1 (k + 1) y0 y1 y2 y3 y4 y5 y6 y7 y8 y9 y10 y11 y12 y13 y14 y15 y16 y17 y18 y19 y20 y21 y22 y23 y24 y25 y26 y27 y28 y29 y30 y31 y32 y33 y34 y35 y36 y37 y38)) ∧ (∀ y0 y1 y2 y3 y4 y5 y6 y7 y8 y9 y10 y11 y12 y13 y14 y15 y16 y17 y18 y19 y20 y21 y22 y23 y24 y25 y26 y27 y28 y29 y30 y31 y32 y33 y34 y35 y36 y37 y38, LeO (past_pair.j2 k y0 y1 y2 y3 y4 y5 y6 y7 y8 y9 y10 y11 y12 y13 y14 y15 y16 y17 y18 y19 y20 y21 y22 y23 y24 y25 y26 y27 y28 y29 y30 y31 y32 y33 y34 y35 y36 y37 y38) (past_pair.j2 (k + 1) y0 y1 y2 y3 y4 y5 y6 y7 y8 y9 y10 y11 y12 y13 y14 y15 y16 y17 y18 y19 y20 y21 y22 y23 y24 y25 y26 y27 y28 y29 y30 y31 y32 y33 y34 y35 y36 y37 y38))
  | 0 => ⟨fun _ _ _ _ _ _ _ _ _ _ _ _ _ _ _ _ _ _ _ _ _ _ _ _ _ _ _ _ _ _ _ _ _ _ _ _ _ _ _ r h => by simp [past_pair.j0] at h, fun _ _ _ _ _ _ _ _ _ _ _ _ _ _ _ _ _ _ _ _ _ _ _ _ _ _ _ _ _ _ _ _ _ _ _ _ _ _ _ r h => by simp [past_pair.j1] at h, fun _ _ _ _ _ _ _ _ _ _ _ _ _ _ _ _ _ _ _ _ _ _ _ _ _ _ _ _ _ _ _ _ _ _ _ _ _ _ _ r h => by simp [past_pair.j2] at h⟩
  | k + 1 => by
    obtain ⟨ih0, ih1, ih2⟩ := past_pair.mono_l k
    refine ⟨?_, ?_, ?_⟩
    · intro y0 y1 y2 y3 y4 y5 y6 y7 y8 y9 y10 y11 y12 y13 y14 y15 y16 y17 y18 y19 y20 y21 y22 y23 y24 y25 y26 y27 y28 y29 y30 y31 y32 y33 y34 y35 y36 y37 y38
      unfold past_pair.j0
      repeat' first
      | (with_reducible exact ih0 _ _ _ _ _ _ _ _ _ _ _ _ _ _ _ _ _ _ _ _ _ _ _ _ _ _ _ _ _ _ _ _ _ _ _ _ _ _ _)
      | (with_reducible exact ih1 _ _ _ _ _ _ _ _ _ _ _ _ _ _ _ _ _ _ _ _ _ _ _ _ _ _ _ _ _ _ _ _ _ _ _ _ _ _ _)
      | (with_reducible exact ih2 _ _ _ _ _ _ _ _ _ _ _ _ _ _ _ _ _ _ _ _ _ _ _ _ _ _ _ _ _ _ _ _ _ _ _ _ _ _ _)
      | (with_reducible exact tag_Less.mono _ _ _ _ _)
      | (with_reducible exact LeO.refl _)
      | (with_reducible exact LeO.none _)
      | (with_reducible refine LeO.ite ?_ ?_)
      | (with_reducible refine LeO.bind ?_ (fun _ => ?_))
      | exact ih0 _ _ _ _ _ _ _ _ _ _ _ _ _ _ _ _ _ _ _ _ _ _ _ _ _ _ _ _ _ _ _ _ _ _ _ _ _ _ _
      | exact ih1 _ _ _ _ _ _ _ _ _ _ _ _ _ _ _ _ _ _ _ _ _ _ _ _ _ _ _ _ _ _ _ _ _ _ _ _ _ _ _
      | exact ih2 _ _ _ _ _ _ _ _ _ _ _ _ _ _ _ _ _ _ _ _ _ _ _ _ _ _ _ _ _ _ _ _ _ _ _ _ _ _ _
      | exact tag_Less.mono _ _ _ _ _
      | exact LeO.none _
      | refine LeO.ite ?_ ?_
      | refine LeO.bind ?_ (fun _ => ?_)
    · intro y0 y1 y2 y3 y4 y5 y6 y7 y8 y9 y10 y11 y12 y13 y14 y15 y16 y17 y18 y19 y20 y21 y22 y23 y24 y25 y26 y27 y28 y29 y30 y31 y32 y33 y34 y35 y36 y37 y38
      unfold past_pair.j1
      repeat' first
      | (with_reducible exact ih0 _ _ _ _ _ _ _ _ _ _ _ _ _ _ _ _ _ _ _ _ _ _ _ _ _ _ _ _ _ _ _ _ _ _ _ _ _ _ _)
      | (with_reducible exact ih1 _ _ _ _ _ _ _ _ _ _ _ _ _ _ _ _ _ _ _ _ _ _ _ _ _ _ _ _ _ _ _ _ _ _ _ _ _ _ _)
      | (with_reducible exact ih2 _ _ _ _ _ _ _ _ _ _ _ _ _ _ _ _ _ _ _ _ _ _ _ _ _ _ _ _ _ _ _ _ _ _ _ _ _ _ _)
      | (with_reducible exact tag_Less.mono _ _ _ _ _)
      | (with_reducible exact LeO.refl _)
      | (with_reducible exact LeO.none _)
      | (with_reducible refine LeO.ite ?_ ?_)
      | (with_reducible refine LeO.bind ?_ (fun _ => ?_))
      | exact ih0 _ _ _ _ _ _ _ _ _ _ _ _ _ _ _ _ _ _ _ _ _ _ _ _ _ _ _ _ _ _ _ _ _ _ _ _ _ _ _
      | exact ih1 _ _ _ _ _ _ _ _ _ _ _ _ _ _ _ _ _ _ _ _ _ _ _ _ _ _ _ _ _ _ _ _ _ _ _ _ _ _ _
      | exact ih2 _ _ _ _ _ _ _ _ _ _ _ _ _ _ _ _ _ _ _ _ _ _ _ _ _ _ _ _ _ _ _ _ _ _ _ _ _ _ _
      | exact tag_Less.mono _ _ _ _ _
      | exact LeO.none _
      | refine LeO.ite ?_ ?_
      | refine LeO.bind ?_ (fun _ => ?_)
    · intro y0 y1 y2 y3 y4 y5 y6 y7 y8 y9 y10 y11 y12 y13 y14 y15 y16 y17 y18 y19 y20 y21 y22 y23 y24 y25 y26 y27 y28 y29 y30 y31 y32 y33 y34 y35 y36 y37 y38
      unfold past_pair.j2
      repeat' first
      | (with_reducible exact ih0 _ _ _ _ _ _ _ _ _ _ _ _ _ _ _ _ _ _ _ _ _ _ _ _ _ _ _ _ _ _ _ _ _ _ _ _ _ _ _)
      | (with_reducible exact ih1 _ _ _ _ _ _ _ _ _ _ _ _ _ _ _ _ _ _ _ _ _ _ _ _ _ _ _ _ _ _ _ _ _ _ _ _ _ _ _)
      | (with_reducible exact ih2 _ _ _ _ _ _ _ _ _ _ _ _ _ _ _ _ _ _ _ _ _ _ _ _ _ _ _ _ _ _ _ _ _ _ _ _ _ _ _)
      | (with_reducible exact tag_Less.mono _ _ _ _ _)
      | (with_reducible exact LeO.refl _)
      | (with_reducible exact LeO.none _)
      | (with_reducible refine LeO.ite ?_ ?_)
      | (with_reducible refine LeO.bind ?_ (fun _ => ?_))
      | exact ih0 _ _ _ _ _ _ _ _ _ _ _ _ _ _ _ _ _ _ _ _ _ _ _ _ _ _ _ _ _ _ _ _ _ _ _ _ _ _ _
      | exact ih1 _ _ _ _ _ _ _ _ _ _ _ _ _ _ _ _ _ _ _ _ _ _ _ _ _ _ _ _ _ _ _ _ _ _ _ _ _ _ _
      | exact ih2 _ _ _ _ _ _ _ _ _ _ _ _ _ _ _ _ _ _ _ _ _ _ _ _ _ _ _ _ _ _ _ _ _ _ _ _ _ _ _
      | exact tag_Less.mono _ _ _ _ _
      | exact LeO.none _
      | refine LeO.ite ?_ ?_
      | refine LeO.bind ?_ (fun _ => ?_)
theorem past_pair.mono : ∀ a0 a1 a2 a3 a4 a5 a6 a7 a8 a9 a10 a11 a12 a13 a14 a15 a16 a17 a18 a19 a20 a21 a22 a23 a24 a25 a26 a27 a28 a29 k, LeO (past_pair.f k a0 a1 a2 a3 a4 a5 a6 a7 a8 a9 a10 a11 a12 a13 a14 a15 a16 a17 a18 a19 a20 a21 a22 a23 a24 a25 a26 a27 a28 a29) (past_pair.f (k + 1) a0 a1 a2 a3 a4 a5 a6 a7 a8 a9 a10 a11 a12 a13 a14 a15 a16 a17 a18 a19 a20 a21 a22 a23 a24 a25 a26 a27 a28 a29) := by
  intro a0 a1 a2 a3 a4 a5 a6 a7 a8 a9 a10 a11 a12 a13 a14 a15 a16 a17 a18 a19 a20 a21 a22 a23 a24 a25 a26 a27 a28 a29 k
  obtain ⟨ih0, ih1, ih2⟩ := past_pair.mono_l k
  unfold past_pair.f
  repeat' first
      | (with_reducible exact ih0 _ _ _ _ _ _ _ _ _ _ _ _ _ _ _ _ _ _ _ _ _ _ _ _ _ _ _ _ _ _ _ _ _ _ _ _ _ _ _)
      | (with_reducible exact ih1 _ _ _ _ _ _ _ _ _ _ _ _ _ _ _ _ _ _ _ _ _ _ _ _ _ _ _ _ _ _ _ _ _ _ _ _ _ _ _)
      | (with_reducible exact ih2 _ _ _ _ _ _ _ _ _ _ _ _ _ _ _ _ _ _ _ _ _ _ _ _ _ _ _ _ _ _ _ _ _ _ _ _ _ _ _)
      | (with_reducible exact tag_Less.mono _ _ _ _ _)
      | (with_reducible exact LeO.refl _)
      | (with_reducible exact LeO.none _)
      | (with_reducible refine LeO.ite ?_ ?_)
      | (with_reducible refine LeO.bind ?_ (fun _ => ?_))
      | exact ih0 _ _ _ _ _ _ _ _ _ _ _ _ _ _ _ _ _ _ _ _ _ _ _ _ _ _ _ _ _ _ _ _ _ _ _ _ _ _ _
      | exact ih1 _ _ _ _ _ _ _ _ _ _ _ _ _ _ _ _ _ _ _ _ _ _ _ _ _ _ _ _ _ _ _ _ _ _ _ _ _ _ _
      | exact ih2 _ _ _ _ _ _ _ _ _ _ _ _ _ _ _ _ _ _ _ _ _ _ _ _ _ _ _ _ _ _ _ _ _ _ _ _ _ _ _
      | exact tag_Less.mono _ _ _ _ _
      | exact LeO.none _
      | refine LeO.ite ?_ ?_
      | refine LeO.bind ?_ (fun _ => ?_)
def past_pair.T1 : Bool × List (List Nat × List Nat) := (true, [([], []), ([0], [0]), ([1], [1]), ([], []), ([3], [3]), ([4], [4]), ([], []), ([], []), ([6, 2, 0, 1, 2, 6, 7], [2, 6]), ([7, 5, 8, 0, 1, 2, 3, 4, 5, 6, 7, 8], [5, 7])])
def past_pair.B1 : List Nat := [0, 1, 3, 0, 8, 24, 0, 0, 199, 511]
theorem past_pair.tab1 : rtab .any (opsOf Try.f26 1) = past_pair.T1 := by kernel_rfl
theorem past_pair.bits1 : waitsOk past_pair.T1.2 past_pair.B1 = true := by kernel_rfl
set_option maxHeartbeats 8000000 in
set_option maxRecDepth 100000 in
theorem past_pair.calls (k : Nat) (a0_0 : Int) (a0_1 : Int) (a0_2 : Int) (a0_3 : Int) (a0_4 : Int) (a0_5 : Nat) (a0_6 : Int) (a0_7 : Int) (a0_8 : Int) (a0_9 : Int) (a0_10 : Int) (a0_11 : Int) (a0_12 : Int) (a0_13 : Int) (a0_14 : Nat) (a1_0 : Int) (a1_1 : Int) (a1_2 : Int) (a1_3 : Int) (a1_4 : Int) (a1_5 : Nat) (a1_6 : Int) (a1_7 : Int) (a1_8 : Int) (a1_9 : Int) (a1_10 : Int) (a1_11 : Int) (a1_12 : Int) (a1_13 : Int) (a1_14 : Nat) (r : Bool) (w : World) (h : past_pair.f k a0_0 a0_1 a0_2 a0_3 a0_4 a0_5 a0_6 a0_7 a0_8 a0_9 a0_10 a0_11 a0_12 a0_13 a0_14 a1_0 a1_1 a1_2 a1_3 a1_4 a1_5 a1_6 a1_7 a1_8 a1_9 a1_10 a1_11 a1_12 a1_13 a1_14 = some r) :
    Calls Try.prog 26 #[.agg #[.int .i64 a0_0, .int .i64 a0_1, .int .i64 a0_2, .int .i64 a0_3, .int .i64 a0_4, .float .f64 a0_5, .int .i64 a0_6, .int .i64 a0_7, .int .i64 a0_8, .int .i64 a0_9, .int .i64 a0_10, .int .i64 a0_11, .int .i64 a0_12, .int .i64 a0_13, .float .f64 a0_14], .agg #[.int .i64 a1_0, .int .i64 a1_1, .int .i64 a1_2, .int .i64 a1_3, .int .i64 a1_4, .float .f64 a1_5, .int .i64 a1_6, .int .i64 a1_7, .int .i64 a1_8, .int .i64 a1_9, .int .i64 a1_10, .int .i64 a1_11, .int .i64 a1_12, .int .i64 a1_13, .float .f64 a1_14]] w fun e w' => e = .returned (.bool r) ∧ Below w.heap.size w w' := by
  have hu35 := Try.underlying35
  have hu31 := Try.underlying31
  have hu29 := Try.underlying29
  have HB := zM (Below.refl w.heap.size w)
  have H : (if a0_3 = 1 then (past_pair.j0 k (a1_3 == 1) a0_0 a0_1 a0_2 a0_3 a0_4 a0_5 a0_6 a0_7 a0_8 a0_9 a0_10 a0_11 a0_12 a0_13 a0_14 a1_0 a1_1 a1_2 a1_3 a1_4 a1_5 a1_6 a1_7 a1_8 a1_9 a1_10 a1_11 a1_12 a1_13 a1_14 a0_11 a0_12 a0_13 a0_14 a1_11 a1_12 a1_13 a1_14) else (past_pair.j0 k false a0_0 a0_1 a0_2 a0_3 a0_4 a0_5 a0_6 a0_7 a0_8 a0_9 a0_10 a0_11 a0_12 a0_13 a0_14 a1_0 a1_1 a1_2 a1_3 a1_4 a1_5 a1_6 a1_7 a1_8 a1_9 a1_10 a1_11 a1_12 a1_13 a1_14 a0_11 a0_12 a0_13 a0_14 a1_11 a1_12 a1_13 a1_14)) = some r := h
  clear h
  have HC3 := zM H
  clear H
  go_enter Try.func26, Try.ntmps26
  try go_wp2_with (first | ((with_reducible refine gld_ (t := 35) ?_); (try (refine gate_guard (by rfl) ?_; dsimp only)); first | refine wl15_ rfl 35 _ rfl rfl Try.underlying35 rfl (by kernel_rfl) ?_ | refine wlr15_ rfl 35 _ rfl rfl Try.underlying35 rfl (by kernel_rfl) ?_) | ((with_reducible refine gst_ (t := 35) ?_); refine ws15_ rfl 35 _ _ rfl rfl rfl (by kernel_rfl) ?_) | ((with_reducible refine gate_dst (N := 2) rfl ?_); refine box_event ?hg (N := 2) ?hd (cs := #[.int .i64 a0_0, .int .i64 a0_1, .int .i64 a0_2, .int .i64 a0_3, .int .i64 a0_4, .float .f64 a0_5, .int .i64 a0_6, .int .i64 a0_7, .int .i64 a0_8, .int .i64 a0_9, .int .i64 a0_10, .int .i64 a0_11, .int .i64 a0_12, .int .i64 a0_13, .float .f64 a0_14]) (t := 35) ?hr ?_; (case hd => rfl); (case hg => rfl); (case hr => first | (go_simp; done) | (go_simp; rfl)); intro gb146 hg w4 hbox hb; have BK146 := zM (hbox); have GW146 := zM (bs_ hg); have GE146 := zM (bs_ hg); replace HB := zM (zB bel_ hb); clear hb hbox hg) | ((with_reducible refine gate_dst (N := 3) rfl ?_); refine box_event ?hg (N := 3) ?hd (cs := #[.int .i64 a1_0, .int .i64 a1_1, .int .i64 a1_2, .int .i64 a1_3, .int .i64 a1_4, .float .f64 a1_5, .int .i64 a1_6, .int .i64 a1_7, .int .i64 a1_8, .int .i64 a1_9, .int .i64 a1_10, .int .i64 a1_11, .int .i64 a1_12, .int .i64 a1_13, .float .f64 a1_14]) (t := 35) ?hr ?_; (case hd => rfl); (case hg => rfl); (case hr => first | (go_simp; done) | (go_simp; rfl)); intro gb147 hg w5 hbox hb; have BK147 := zM (hbox); have GW147 := zM (bs_ hg); have GE147 := zM (bs_ hg); replace HB := zM (zB bel_ hb); have NB146_147 := zM (nl_ BK146 hg); have NB147_146 := zM (ng_ BK146 hg); replace BK146 := zM (bb_ BK146 hb); clear hb hbox hg))
  replace BK146 := zM (zD BK146.out)
  replace BK147 := zM (zD BK147.out)
  replace HB := zM (below_drew1 HB.out)
  refine start_ (n := 10) (S := fun w' => w'.cell? ⟨gb146, 0, none⟩ = some (.int .i64 a0_0) ∧ w'.cell? ⟨gb146, 1, none⟩ = some (.int .i64 a0_1) ∧ w'.cell? ⟨gb146, 2, none⟩ = some (.int .i64 a0_2) ∧ w'.cell? ⟨gb146, 3, none⟩ = some (.int .i64 a0_3) ∧ w'.cell? ⟨gb146, 4, none⟩ = some (.int .i64 a0_4) ∧ w'.cell? ⟨gb146, 5, none⟩ = some (.float .f64 a0_5) ∧ w'.cell? ⟨gb146, 6, none⟩ = some (.int .i64 a0_6) ∧ w'.cell? ⟨gb146, 7, none⟩ = some (.int .i64 a0_7) ∧ w'.cell? ⟨gb146, 8, none⟩ = some (.int .i64 a0_8) ∧ w'.cell? ⟨gb146, 9, none⟩ = some (.int .i64 a0_9) ∧ w'.cell? ⟨gb146, 10, none⟩ = some (.int .i64 a0_10) ∧ w'.cell? ⟨gb146, 11, none⟩ = some (.int .i64 a0_11) ∧ w'.cell? ⟨gb146, 12, none⟩ = some (.int .i64 a0_12) ∧ w'.cell? ⟨gb146, 13, none⟩ = some (.int .i64 a0_13) ∧ w'.cell? ⟨gb146, 14, none⟩ = some (.float .f64 a0_14) ∧ w'.cell? ⟨gb147, 0, none⟩ = some (.int .i64 a1_0) ∧ w'.cell? ⟨gb147, 1, none⟩ = some (.int .i64 a1_1) ∧ w'.cell? ⟨gb147, 2, none⟩ = some (.int .i64 a1_2) ∧ w'.cell? ⟨gb147, 3, none⟩ = some (.int .i64 a1_3) ∧ w'.cell? ⟨gb147, 4, none⟩ = some (.int .i64 a1_4) ∧ w'.cell? ⟨gb147, 5, none⟩ = some (.float .f64 a1_5) ∧ w'.cell? ⟨gb147, 6, none⟩ = some (.int .i64 a1_6) ∧ w'.cell? ⟨gb147, 7, none⟩ = some (.int .i64 a1_7) ∧ w'.cell? ⟨gb147, 8, none⟩ = some (.int .i64 a1_8) ∧ w'.cell? ⟨gb147, 9, none⟩ = some (.int .i64 a1_9) ∧ w'.cell? ⟨gb147, 10, none⟩ = some (.int .i64 a1_10) ∧ w'.cell? ⟨gb147, 11, none⟩ = some (.int .i64 a1_11) ∧ w'.cell? ⟨gb147, 12, none⟩ = some (.int .i64 a1_12) ∧ w'.cell? ⟨gb147, 13, none⟩ = some (.int .i64 a1_13) ∧ w'.cell? ⟨gb147, 14, none⟩ = some (.float .f64 a1_14)) (ds := []) #[F_, F_, F_, F_, F_, F_, F_, F_, F_, F_] (by kernel_rfl) rfl rfl ⟨(zL BK146.out 0).trans rfl, (zL BK146.out 1).trans rfl, (zL BK146.out 2).trans rfl, (zL BK146.out 3).trans rfl, (zL BK146.out 4).trans rfl, (zL BK146.out 5).trans rfl, (zL BK146.out 6).trans rfl, (zL BK146.out 7).trans rfl, (zL BK146.out 8).trans rfl, (zL BK146.out 9).trans rfl, (zL BK146.out 10).trans rfl, (zL BK146.out 11).trans rfl, (zL BK146.out 12).trans rfl, (zL BK146.out 13).trans rfl, (zL BK146.out 14).trans rfl, (zL BK147.out 0).trans rfl, (zL BK147.out 1).trans rfl, (zL BK147.out 2).trans rfl, (zL BK147.out 3).trans rfl, (zL BK147.out 4).trans rfl, (zL BK147.out 5).trans rfl, (zL BK147.out 6).trans rfl, (zL BK147.out 7).trans rfl, (zL BK147.out 8).trans rfl, (zL BK147.out 9).trans rfl, (zL BK147.out 10).trans rfl, (zL BK147.out 11).trans rfl, (zL BK147.out 12).trans rfl, (zL BK147.out 13).trans rfl, (zL BK147.out 14).trans rfl⟩ (fun hHeld => ?_); refine with_tabW past_pair.tab1 past_pair.bits1 (fun HT_ HW_ => ?_)
  generalize w5.drew = w6 at BK146 BK147 HB hHeld ⊢
  refine pure_ (i := 0) (N := some 8) (v := ?_) (a' := ?_) #[T_, F_, F_, F_, F_, F_, F_, F_, F_, F_] rfl rfl (any_of HT_.out (by kernel_rfl)) (fun _ _ _ h => h) (Or.inl ⟨by rfl, ?_⟩) ?_ ?_
  rotate_left
  · intro w'
    go_simp
    with_reducible rfl
  rotate_left
  · simp only [Act.put, zS, zZ, zC, i64_w, i32_w]
    rfl
  refine pure_ (i := 1) (N := some 9) (v := ?_) (a' := ?_) #[T_, T_, F_, F_, F_, F_, F_, F_, F_, F_] rfl rfl (any_of HT_.out (by kernel_rfl)) (fun _ _ _ h => h) (Or.inl ⟨by rfl, ?_⟩) ?_ ?_
  rotate_left
  · intro w'
    go_simp
    with_reducible rfl
  rotate_left
  · simp only [Act.put, zS, zZ, zC, i64_w, i32_w]
    rfl
  refine pure_ (i := 3) (N := some 11) (v := ?_) (a' := ?_) #[T_, T_, F_, T_, F_, F_, F_, F_, F_, F_] rfl rfl (any_of HT_.out (by kernel_rfl)) (fun _ _ _ h => h) (Or.inl ⟨by rfl, ?_⟩) ?_ ?_
  rotate_left
  · intro w'
    go_simp
    with_reducible rfl
  rotate_left
  · simp only [Act.put, zS, zZ, zC, i64_w, i32_w]
    rfl
  refine pure_ (i := 4) (N := some 12) (v := ?_) (a' := ?_) #[T_, T_, F_, T_, T_, F_, F_, F_, F_, F_] rfl rfl (any_of HT_.out (by kernel_rfl)) (fun _ _ _ h => h) (Or.inl ⟨by rfl, ?_⟩) ?_ ?_
  rotate_left
  · intro w'
    go_simp
    with_reducible rfl
  rotate_left
  · simp only [Act.put, zS, zZ, zC, i64_w, i32_w]
    rfl
  refine take_ (i := 2) (N := some 10) (v := ?_) (a' := ?_) #[T_, T_, T_, T_, T_, F_, F_, F_, F_, F_] rfl rfl (take_ofW HT_.out HW_.out (by kernel_rfl)) (fun _ _ _ h => h) (Or.inl ⟨by rfl, ?_⟩) hHeld ?_ ?_
  rotate_left
  · rintro w' ⟨s0, s1, s2, s3, s4, s5, s6, s7, s8, s9, s10, s11, s12, s13, s14, s15, s16, s17, s18, s19, s20, s21, s22, s23, s24, s25, s26, s27, s28, s29⟩
    go_simp
    with_reducible rfl
  rotate_left
  · simp only [Act.put, zS, zZ, zC, i64_w, i32_w]
    rfl
  refine take_ (i := 5) (N := some 13) (v := ?_) (a' := ?_) #[T_, T_, T_, T_, T_, T_, F_, F_, F_, F_] rfl rfl (take_ofW HT_.out HW_.out (by kernel_rfl)) (fun _ _ _ h => h) (Or.inl ⟨by rfl, ?_⟩) hHeld ?_ ?_
  rotate_left
  · rintro w' ⟨s0, s1, s2, s3, s4, s5, s6, s7, s8, s9, s10, s11, s12, s13, s14, s15, s16, s17, s18, s19, s20, s21, s22, s23, s24, s25, s26, s27, s28, s29⟩
    go_simp
    with_reducible rfl
  rotate_left
  · simp only [Act.put, zS, zZ, zC, i64_w, i32_w]
    rfl
  refine join_ (σ := Nat × Nat) 2 #[T_, T_, T_, T_, T_, T_, T_, T_, F_, F_] (fun s_ => [(5, .pointer (some ⟨s_.1, 0, none⟩)), (6, .pointer (some ⟨s_.2, 0, none⟩))]) (fun s_ w' => (w'.cell? ⟨gb146, 0, none⟩ = some (.int .i64 a0_0) ∧ w'.cell? ⟨gb146, 1, none⟩ = some (.int .i64 a0_1) ∧ w'.cell? ⟨gb146, 2, none⟩ = some (.int .i64 a0_2) ∧ w'.cell? ⟨gb146, 3, none⟩ = some (.int .i64 a0_3) ∧ w'.cell? ⟨gb146, 4, none⟩ = some (.int .i64 a0_4) ∧ w'.cell? ⟨gb146, 5, none⟩ = some (.float .f64 a0_5) ∧ w'.cell? ⟨gb146, 6, none⟩ = some (.int .i64 a0_6) ∧ w'.cell? ⟨gb146, 7, none⟩ = some (.int .i64 a0_7) ∧ w'.cell? ⟨gb146, 8, none⟩ = some (.int .i64 a0_8) ∧ w'.cell? ⟨gb146, 9, none⟩ = some (.int .i64 a0_9) ∧ w'.cell? ⟨gb146, 10, none⟩ = some (.int .i64 a0_10) ∧ w'.cell? ⟨gb146, 11, none⟩ = some (.int .i64 a0_11) ∧ w'.cell? ⟨gb146, 12, none⟩ = some (.int .i64 a0_12) ∧ w'.cell? ⟨gb146, 13, none⟩ = some (.int .i64 a0_13) ∧ w'.cell? ⟨gb146, 14, none⟩ = some (.float .f64 a0_14) ∧ w'.cell? ⟨gb147, 0, none⟩ = some (.int .i64 a1_0) ∧ w'.cell? ⟨gb147, 1, none⟩ = some (.int .i64 a1_1) ∧ w'.cell? ⟨gb147, 2, none⟩ = some (.int .i64 a1_2) ∧ w'.cell? ⟨gb147, 3, none⟩ = some (.int .i64 a1_3) ∧ w'.cell? ⟨gb147, 4, none⟩ = some (.int .i64 a1_4) ∧ w'.cell? ⟨gb147, 5, none⟩ = some (.float .f64 a1_5) ∧ w'.cell? ⟨gb147, 6, none⟩ = some (.int .i64 a1_6) ∧ w'.cell? ⟨gb147, 7, none⟩ = some (.int .i64 a1_7) ∧ w'.cell? ⟨gb147, 8, none⟩ = some (.int .i64 a1_8) ∧ w'.cell? ⟨gb147, 9, none⟩ = some (.int .i64 a1_9) ∧ w'.cell? ⟨gb147, 10, none⟩ = some (.int .i64 a1_10) ∧ w'.cell? ⟨gb147, 11, none⟩ = some (.int .i64 a1_11) ∧ w'.cell? ⟨gb147, 12, none⟩ = some (.int .i64 a1_12) ∧ w'.cell? ⟨gb147, 13, none⟩ = some (.int .i64 a1_13) ∧ w'.cell? ⟨gb147, 14, none⟩ = some (.float .f64 a1_14)) ∧ (w'.heap[gb146]? = some (.cells #[.int .i64 a0_0, .int .i64 a0_1, .int .i64 a0_2, .int .i64 a0_3, .int .i64 a0_4, .float .f64 a0_5, .int .i64 a0_6, .int .i64 a0_7, .int .i64 a0_8, .int .i64 a0_9, .int .i64 a0_10, .int .i64 a0_11, .int .i64 a0_12, .int .i64 a0_13, .float .f64 a0_14] 35 (0, 0))) ∧ (w'.heap[gb147]? = some (.cells #[.int .i64 a1_0, .int .i64 a1_1, .int .i64 a1_2, .int .i64 a1_3, .int .i64 a1_4, .float .f64 a1_5, .int .i64 a1_6, .int .i64 a1_7, .int .i64 a1_8, .int .i64 a1_9, .int .i64 a1_10, .int .i64 a1_11, .int .i64 a1_12, .int .i64 a1_13, .float .f64 a1_14] 35 (0, 0))) ∧ (w'.heap[s_.1]? = some (.cells #[.int .i64 0, .int .i64 0, .int .i64 0, .float .f64 0] 31 (0, 0))) ∧ (w'.heap[s_.2]? = some (.cells #[.int .i64 0, .int .i64 0, .int .i64 0, .float .f64 0] 31 (0, 0))) ∧ (w.heap.size ≤ s_.1) ∧ (w.heap.size ≤ s_.1) ∧ (gb146 ≠ s_.1) ∧ (s_.1 ≠ gb146) ∧ (gb147 ≠ s_.1) ∧ (s_.1 ≠ gb147) ∧ (s_.2 ≠ s_.1) ∧ (s_.1 ≠ s_.2) ∧ (w.heap.size ≤ s_.2) ∧ (w.heap.size ≤ s_.2) ∧ (gb146 ≠ s_.2) ∧ (s_.2 ≠ gb146) ∧ (gb147 ≠ s_.2) ∧ (s_.2 ≠ gb147) ∧ (Below w.heap.size w w')) ?_ ?_
  rotate_left
  · intro hCont
    refine two_ (i := 6) (j := 7) (Ni := some 5) (Nj := some 6) #[T_, T_, T_, T_, T_, T_, T_, F_, F_, F_] #[T_, T_, T_, T_, T_, T_, F_, T_, F_, F_] rfl rfl rfl rfl (two_of HT_.out (by kernel_rfl)) (by decide) (by decide) (fun K hK => ?_) (fun K hK => ?_)
    · skip
      refine box_step ?hg (N := 5) ?hd (cs := #[.int .i64 0, .int .i64 0, .int .i64 0, .float .f64 0]) (t := 31) ?hr ?_; (case hd => rfl); (case hg => rfl); (case hr => first | (go_simp; done) | (go_simp; rfl))
      intro gb148 hg w7 hbox hb
      have BK148 := zM (hbox)
      have GW148 := zM (bs_ hg)
      have GE148 := zM (bs_ hg)
      replace HB := zM (zB bel_ hb)
      have NB146_148 := zM (nl_ BK146 hg)
      have NB148_146 := zM (ng_ BK146 hg)
      replace BK146 := zM (bb_ BK146 hb)
      have NB147_148 := zM (nl_ BK147 hg)
      have NB148_147 := zM (ng_ BK147 hg)
      replace BK147 := zM (bb_ BK147 hb)
      clear hb hbox hg
      refine hK.out _ _ ⟨(zL BK146.out 0).trans rfl, (zL BK146.out 1).trans rfl, (zL BK146.out 2).trans rfl, (zL BK146.out 3).trans rfl, (zL BK146.out 4).trans rfl, (zL BK146.out 5).trans rfl, (zL BK146.out 6).trans rfl, (zL BK146.out 7).trans rfl, (zL BK146.out 8).trans rfl, (zL BK146.out 9).trans rfl, (zL BK146.out 10).trans rfl, (zL BK146.out 11).trans rfl, (zL BK146.out 12).trans rfl, (zL BK146.out 13).trans rfl, (zL BK146.out 14).trans rfl, (zL BK147.out 0).trans rfl, (zL BK147.out 1).trans rfl, (zL BK147.out 2).trans rfl, (zL BK147.out 3).trans rfl, (zL BK147.out 4).trans rfl, (zL BK147.out 5).trans rfl, (zL BK147.out 6).trans rfl, (zL BK147.out 7).trans rfl, (zL BK147.out 8).trans rfl, (zL BK147.out 9).trans rfl, (zL BK147.out 10).trans rfl, (zL BK147.out 11).trans rfl, (zL BK147.out 12).trans rfl, (zL BK147.out 13).trans rfl, (zL BK147.out 14).trans rfl⟩ (fun hHeld => ?_)
      clear hK K
      refine norm_ (a' := ?_) ?_ ?_
      rotate_left
      · show Act.put _ (some 5) _ = _
        simp only [Act.put, zS, zZ, zC, i64_w, i32_w]
        rfl
      refine one_ (i := 7) (N := some 6) #[T_, T_, T_, T_, T_, T_, T_, T_, F_, F_] rfl rfl (one_of HT_.out (by kernel_rfl)) (by decide) (fun K hK => ?_)
      refine box_step ?hg (N := 6) ?hd (cs := #[.int .i64 0, .int .i64 0, .int .i64 0, .float .f64 0]) (t := 31) ?hr ?_; (case hd => rfl); (case hg => rfl); (case hr => first | (go_simp; done) | (go_simp; rfl))
      intro gb149 hg w8 hbox hb
      have BK149 := zM (hbox)
      have GW149 := zM (bs_ hg)
      have GE149 := zM (bs_ hg)
      replace HB := zM (zB bel_ hb)
      have NB146_149 := zM (nl_ BK146 hg)
      have NB149_146 := zM (ng_ BK146 hg)
      replace BK146 := zM (bb_ BK146 hb)
      have NB147_149 := zM (nl_ BK147 hg)
      have NB149_147 := zM (ng_ BK147 hg)
      replace BK147 := zM (bb_ BK147 hb)
      have NB148_149 := zM (nl_ BK148 hg)
      have NB149_148 := zM (ng_ BK148 hg)
      replace BK148 := zM (bb_ BK148 hb)
      clear hb hbox hg
      refine hK.out _ _ ⟨(zL BK146.out 0).trans rfl, (zL BK146.out 1).trans rfl, (zL BK146.out 2).trans rfl, (zL BK146.out 3).trans rfl, (zL BK146.out 4).trans rfl, (zL BK146.out 5).trans rfl, (zL BK146.out 6).trans rfl, (zL BK146.out 7).trans rfl, (zL BK146.out 8).trans rfl, (zL BK146.out 9).trans rfl, (zL BK146.out 10).trans rfl, (zL BK146.out 11).trans rfl, (zL BK146.out 12).trans rfl, (zL BK146.out 13).trans rfl, (zL BK146.out 14).trans rfl, (zL BK147.out 0).trans rfl, (zL BK147.out 1).trans rfl, (zL BK147.out 2).trans rfl, (zL BK147.out 3).trans rfl, (zL BK147.out 4).trans rfl, (zL BK147.out 5).trans rfl, (zL BK147.out 6).trans rfl, (zL BK147.out 7).trans rfl, (zL BK147.out 8).trans rfl, (zL BK147.out 9).trans rfl, (zL BK147.out 10).trans rfl, (zL BK147.out 11).trans rfl, (zL BK147.out 12).trans rfl, (zL BK147.out 13).trans rfl, (zL BK147.out 14).trans rfl⟩ (fun hHeld => ?_)
      clear hK K
      refine norm_ (a' := ?_) ?_ ?_
      rotate_left
      · show Act.put _ (some 6) _ = _
        simp only [Act.put, zS, zZ, zC, i64_w, i32_w]
        rfl
      exact norm_ (by simp only [putAll, Act.put, zS, zZ, zC]) (hCont (gb148, gb149) _ ⟨hHeld, blk_, blk_, blk_, blk_, GW148.out, GE148.out, NB146_148.out, NB148_146.out, NB147_148.out, NB148_147.out, NB149_148.out, NB148_149.out, GW149.out, GE149.out, NB146_149.out, NB149_146.out, NB147_149.out, NB149_147.out, bel_⟩)
    skip
    refine box_step ?hg (N := 6) ?hd (cs := #[.int .i64 0, .int .i64 0, .int .i64 0, .float .f64 0]) (t := 31) ?hr ?_; (case hd => rfl); (case hg => rfl); (case hr => first | (go_simp; done) | (go_simp; rfl))
    intro gb149 hg w7 hbox hb
    have BK149 := zM (hbox)
    have GW149 := zM (bs_ hg)
    have GE149 := zM (bs_ hg)
    replace HB := zM (zB bel_ hb)
    have NB146_149 := zM (nl_ BK146 hg)
    have NB149_146 := zM (ng_ BK146 hg)
    replace BK146 := zM (bb_ BK146 hb)
    have NB147_149 := zM (nl_ BK147 hg)
    have NB149_147 := zM (ng_ BK147 hg)
    replace BK147 := zM (bb_ BK147 hb)
    clear hb hbox hg
    refine hK.out _ _ ⟨(zL BK146.out 0).trans rfl, (zL BK146.out 1).trans rfl, (zL BK146.out 2).trans rfl, (zL BK146.out 3).trans rfl, (zL BK146.out 4).trans rfl, (zL BK146.out 5).trans rfl, (zL BK146.out 6).trans rfl, (zL BK146.out 7).trans rfl, (zL BK146.out 8).trans rfl, (zL BK146.out 9).trans rfl, (zL BK146.out 10).trans rfl, (zL BK146.out 11).trans rfl, (zL BK146.out 12).trans rfl, (zL BK146.out 13).trans rfl, (zL BK146.out 14).trans rfl, (zL BK147.out 0).trans rfl, (zL BK147.out 1).trans rfl, (zL BK147.out 2).trans rfl, (zL BK147.out 3).trans rfl, (zL BK147.out 4).trans rfl, (zL BK147.out 5).trans rfl, (zL BK147.out 6).trans rfl, (zL BK147.out 7).trans rfl, (zL BK147.out 8).trans rfl, (zL BK147.out 9).trans rfl, (zL BK147.out 10).trans rfl, (zL BK147.out 11).trans rfl, (zL BK147.out 12).trans rfl, (zL BK147.out 13).trans rfl, (zL BK147.out 14).trans rfl⟩ (fun hHeld => ?_)
    clear hK K
    refine norm_ (a' := ?_) ?_ ?_
    rotate_left
    · show Act.put _ (some 6) _ = _
      simp only [Act.put, zS, zZ, zC, i64_w, i32_w]
      rfl
    refine one_ (i := 6) (N := some 5) #[T_, T_, T_, T_, T_, T_, T_, T_, F_, F_] rfl rfl (one_of HT_.out (by kernel_rfl)) (by decide) (fun K hK => ?_)
    refine box_step ?hg (N := 5) ?hd (cs := #[.int .i64 0, .int .i64 0, .int .i64 0, .float .f64 0]) (t := 31) ?hr ?_; (case hd => rfl); (case hg => rfl); (case hr => first | (go_simp; done) | (go_simp; rfl))
    intro gb148 hg w8 hbox hb
    have BK148 := zM (hbox)
    have GW148 := zM (bs_ hg)
    have GE148 := zM (bs_ hg)
    replace HB := zM (zB bel_ hb)
    have NB146_148 := zM (nl_ BK146 hg)
    have NB148_146 := zM (ng_ BK146 hg)
    replace BK146 := zM (bb_ BK146 hb)
    have NB147_148 := zM (nl_ BK147 hg)
    have NB148_147 := zM (ng_ BK147 hg)
    replace BK147 := zM (bb_ BK147 hb)
    have NB149_148 := zM (nl_ BK149 hg)
    have NB148_149 := zM (ng_ BK149 hg)
    replace BK149 := zM (bb_ BK149 hb)
    clear hb hbox hg
    refine hK.out _ _ ⟨(zL BK146.out 0).trans rfl, (zL BK146.out 1).trans rfl, (zL BK146.out 2).trans rfl, (zL BK146.out 3).trans rfl, (zL BK146.out 4).trans rfl, (zL BK146.out 5).trans rfl, (zL BK146.out 6).trans rfl, (zL BK146.out 7).trans rfl, (zL BK146.out 8).trans rfl, (zL BK146.out 9).trans rfl, (zL BK146.out 10).trans rfl, (zL BK146.out 11).trans rfl, (zL BK146.out 12).trans rfl, (zL BK146.out 13).trans rfl, (zL BK146.out 14).trans rfl, (zL BK147.out 0).trans rfl, (zL BK147.out 1).trans rfl, (zL BK147.out 2).trans rfl, (zL BK147.out 3).trans rfl, (zL BK147.out 4).trans rfl, (zL BK147.out 5).trans rfl, (zL BK147.out 6).trans rfl, (zL BK147.out 7).trans rfl, (zL BK147.out 8).trans rfl, (zL BK147.out 9).trans rfl, (zL BK147.out 10).trans rfl, (zL BK147.out 11).trans rfl, (zL BK147.out 12).trans rfl, (zL BK147.out 13).trans rfl, (zL BK147.out 14).trans rfl⟩ (fun hHeld => ?_)
    clear hK K
    refine norm_ (a' := ?_) ?_ ?_
    rotate_left
    · show Act.put _ (some 5) _ = _
      simp only [Act.put, zS, zZ, zC, i64_w, i32_w]
      rfl
    exact norm_ (by simp only [putAll, Act.put, zS, zZ, zC]) (hCont (gb148, gb149) _ ⟨hHeld, blk_, blk_, blk_, blk_, GW148.out, GE148.out, NB146_148.out, NB148_146.out, NB147_148.out, NB148_147.out, NB149_148.out, NB148_149.out, GW149.out, GE149.out, NB146_149.out, NB149_146.out, NB147_149.out, NB149_147.out, bel_⟩)
  rintro ⟨gb148, gb149⟩ w9 ⟨hS_, h0_, h1_, h2_, h3_, h4_, h5_, h6_, h7_, h8_, h9_, h10_, h11_, h12_, h13_, h14_, h15_, h16_, h17_, h18_⟩
  replace BK146 : Aside0 (w9.heap[gb146]? = some (.cells #[.int .i64 a0_0, .int .i64 a0_1, .int .i64 a0_2, .int .i64 a0_3, .int .i64 a0_4, .float .f64 a0_5, .int .i64 a0_6, .int .i64 a0_7, .int .i64 a0_8, .int .i64 a0_9, .int .i64 a0_10, .int .i64 a0_11, .int .i64 a0_12, .int .i64 a0_13, .float .f64 a0_14] 35 (0, 0))) := ⟨h0_⟩
  replace BK147 : Aside0 (w9.heap[gb147]? = some (.cells #[.int .i64 a1_0, .int .i64 a1_1, .int .i64 a1_2, .int .i64 a1_3, .int .i64 a1_4, .float .f64 a1_5, .int .i64 a1_6, .int .i64 a1_7, .int .i64 a1_8, .int .i64 a1_9, .int .i64 a1_10, .int .i64 a1_11, .int .i64 a1_12, .int .i64 a1_13, .float .f64 a1_14] 35 (0, 0))) := ⟨h1_⟩
  have BK148 : Aside0 (w9.heap[gb148]? = some (.cells #[.int .i64 0, .int .i64 0, .int .i64 0, .float .f64 0] 31 (0, 0))) := ⟨h2_⟩
  have BK149 : Aside0 (w9.heap[gb149]? = some (.cells #[.int .i64 0, .int .i64 0, .int .i64 0, .float .f64 0] 31 (0, 0))) := ⟨h3_⟩
  have GW148 : Aside0 (w.heap.size ≤ gb148) := ⟨h4_⟩
  have GE148 : Aside0 (w.heap.size ≤ gb148) := ⟨h5_⟩
  have NB146_148 : Aside0 (gb146 ≠ gb148) := ⟨h6_⟩
  have NB148_146 : Aside0 (gb148 ≠ gb146) := ⟨h7_⟩
  have NB147_148 : Aside0 (gb147 ≠ gb148) := ⟨h8_⟩
  have NB148_147 : Aside0 (gb148 ≠ gb147) := ⟨h9_⟩
  have NB149_148 : Aside0 (gb149 ≠ gb148) := ⟨h10_⟩
  have NB148_149 : Aside0 (gb148 ≠ gb149) := ⟨h11_⟩
  have GW149 : Aside0 (w.heap.size ≤ gb149) := ⟨h12_⟩
  have GE149 : Aside0 (w.heap.size ≤ gb149) := ⟨h13_⟩
  have NB146_149 : Aside0 (gb146 ≠ gb149) := ⟨h14_⟩
  have NB149_146 : Aside0 (gb149 ≠ gb146) := ⟨h15_⟩
  have NB147_149 : Aside0 (gb147 ≠ gb149) := ⟨h16_⟩
  have NB149_147 : Aside0 (gb149 ≠ gb147) := ⟨h17_⟩
  replace HB : Aside0 (Below w.heap.size w w9) := ⟨h18_⟩
  clear h0_ h1_ h2_ h3_ h4_ h5_ h6_ h7_ h8_ h9_ h10_ h11_ h12_ h13_ h14_ h15_ h16_ h17_ h18_
  have hHeld : w9.cell? ⟨gb146, 0, none⟩ = some (.int .i64 a0_0) ∧ w9.cell? ⟨gb146, 1, none⟩ = some (.int .i64 a0_1) ∧ w9.cell? ⟨gb146, 2, none⟩ = some (.int .i64 a0_2) ∧ w9.cell? ⟨gb146, 3, none⟩ = some (.int .i64 a0_3) ∧ w9.cell? ⟨gb146, 4, none⟩ = some (.int .i64 a0_4) ∧ w9.cell? ⟨gb146, 5, none⟩ = some (.float .f64 a0_5) ∧ w9.cell? ⟨gb146, 6, none⟩ = some (.int .i64 a0_6) ∧ w9.cell? ⟨gb146, 7, none⟩ = some (.int .i64 a0_7) ∧ w9.cell? ⟨gb146, 8, none⟩ = some (.int .i64 a0_8) ∧ w9.cell? ⟨gb146, 9, none⟩ = some (.int .i64 a0_9) ∧ w9.cell? ⟨gb146, 10, none⟩ = some (.int .i64 a0_10) ∧ w9.cell? ⟨gb146, 11, none⟩ = some (.int .i64 a0_11) ∧ w9.cell? ⟨gb146, 12, none⟩ = some (.int .i64 a0_12) ∧ w9.cell? ⟨gb146, 13, none⟩ = some (.int .i64 a0_13) ∧ w9.cell? ⟨gb146, 14, none⟩ = some (.float .f64 a0_14) ∧ w9.cell? ⟨gb147, 0, none⟩ = some (.int .i64 a1_0) ∧ w9.cell? ⟨gb147, 1, none⟩ = some (.int .i64 a1_1) ∧ w9.cell? ⟨gb147, 2, none⟩ = some (.int .i64 a1_2) ∧ w9.cell? ⟨gb147, 3, none⟩ = some (.int .i64 a1_3) ∧ w9.cell? ⟨gb147, 4, none⟩ = some (.int .i64 a1_4) ∧ w9.cell? ⟨gb147, 5, none⟩ = some (.float .f64 a1_5) ∧ w9.cell? ⟨gb147, 6, none⟩ = some (.int .i64 a1_6) ∧ w9.cell? ⟨gb147, 7, none⟩ = some (.int .i64 a1_7) ∧ w9.cell? ⟨gb147, 8, none⟩ = some (.int .i64 a1_8) ∧ w9.cell? ⟨gb147, 9, none⟩ = some (.int .i64 a1_9) ∧ w9.cell? ⟨gb147, 10, none⟩ = some (.int .i64 a1_10) ∧ w9.cell? ⟨gb147, 11, none⟩ = some (.int .i64 a1_11) ∧ w9.cell? ⟨gb147, 12, none⟩ = some (.int .i64 a1_12) ∧ w9.cell? ⟨gb147, 13, none⟩ = some (.int .i64 a1_13) ∧ w9.cell? ⟨gb147, 14, none⟩ = some (.float .f64 a1_14) := hS_
  refine norm_ (a' := ?_) ?_ ?_
  rotate_left
  · simp only [putAll, Act.put, zS, zZ, zC]
    rfl
  refine one_ (i := 8) (N := none) #[T_, T_, T_, T_, T_, T_, T_, T_, T_, F_] rfl rfl (one_of HT_.out (by kernel_rfl)) (by decide) (fun K hK => ?_)
  have hs10 : w9.cell? ⟨gb148, 0, none⟩ = some (.int .i64 0) := (zL BK148.out 0).trans rfl
  have hfs10 := zF BK148.out 0
  have hns10_0 := NB146_148.out
  have hns10_1 := NB147_148.out
  have hns10_3 := NB149_148.out
  have hms10_0 := NB148_146.out
  have hms10_1 := NB148_147.out
  have hms10_3 := NB148_149.out
  have hs11 : w9.cell? ⟨gb148, 1, none⟩ = some (.int .i64 0) := (zL BK148.out 1).trans rfl
  have hfs11 := zF BK148.out 1
  have hns11_0 := NB146_148.out
  have hns11_1 := NB147_148.out
  have hns11_3 := NB149_148.out
  have hms11_0 := NB148_146.out
  have hms11_1 := NB148_147.out
  have hms11_3 := NB148_149.out
  have hs12 : w9.cell? ⟨gb148, 2, none⟩ = some (.int .i64 0) := (zL BK148.out 2).trans rfl
  have hfs12 := zF BK148.out 2
  have hns12_0 := NB146_148.out
  have hns12_1 := NB147_148.out
  have hns12_3 := NB149_148.out
  have hms12_0 := NB148_146.out
  have hms12_1 := NB148_147.out
  have hms12_3 := NB148_149.out
  have hs13 : w9.cell? ⟨gb148, 3, none⟩ = some (.float .f64 0) := (zL BK148.out 3).trans rfl
  have hfs13 := zF BK148.out 3
  have hns13_0 := NB146_148.out
  have hns13_1 := NB147_148.out
  have hns13_3 := NB149_148.out
  have hms13_0 := NB148_146.out
  have hms13_1 := NB148_147.out
  have hms13_3 := NB148_149.out
  refine skip_ (w1 := ?_) (by rfl) rfl ?_ ?_
  rotate_left
  · go_simp
    rfl
  refine hK.out _ _ ⟨((cell_far (p := ⟨gb148, _, none⟩) NB146_148.out _).trans (((cell_far (p := ⟨gb148, _, none⟩) NB146_148.out _).trans (((cell_far (p := ⟨gb148, _, none⟩) NB146_148.out _).trans (((cell_far (p := ⟨gb148, _, none⟩) NB146_148.out _).trans (hHeld.1)))))))), ((cell_far (p := ⟨gb148, _, none⟩) NB146_148.out _).trans (((cell_far (p := ⟨gb148, _, none⟩) NB146_148.out _).trans (((cell_far (p := ⟨gb148, _, none⟩) NB146_148.out _).trans (((cell_far (p := ⟨gb148, _, none⟩) NB146_148.out _).trans (hHeld.2.1)))))))), ((cell_far (p := ⟨gb148, _, none⟩) NB146_148.out _).trans (((cell_far (p := ⟨gb148, _, none⟩) NB146_148.out _).trans (((cell_far (p := ⟨gb148, _, none⟩) NB146_148.out _).trans (((cell_far (p := ⟨gb148, _, none⟩) NB146_148.out _).trans (hHeld.2.2.1)))))))), ((cell_far (p := ⟨gb148, _, none⟩) NB146_148.out _).trans (((cell_far (p := ⟨gb148, _, none⟩) NB146_148.out _).trans (((cell_far (p := ⟨gb148, _, none⟩) NB146_148.out _).trans (((cell_far (p := ⟨gb148, _, none⟩) NB146_148.out _).trans (hHeld.2.2.2.1)))))))), ((cell_far (p := ⟨gb148, _, none⟩) NB146_148.out _).trans (((cell_far (p := ⟨gb148, _, none⟩) NB146_148.out _).trans (((cell_far (p := ⟨gb148, _, none⟩) NB146_148.out _).trans (((cell_far (p := ⟨gb148, _, none⟩) NB146_148.out _).trans (hHeld.2.2.2.2.1)))))))), ((cell_far (p := ⟨gb148, _, none⟩) NB146_148.out _).trans (((cell_far (p := ⟨gb148, _, none⟩) NB146_148.out _).trans (((cell_far (p := ⟨gb148, _, none⟩) NB146_148.out _).trans (((cell_far (p := ⟨gb148, _, none⟩) NB146_148.out _).trans (hHeld.2.2.2.2.2.1)))))))), ((cell_far (p := ⟨gb148, _, none⟩) NB146_148.out _).trans (((cell_far (p := ⟨gb148, _, none⟩) NB146_148.out _).trans (((cell_far (p := ⟨gb148, _, none⟩) NB146_148.out _).trans (((cell_far (p := ⟨gb148, _, none⟩) NB146_148.out _).trans (hHeld.2.2.2.2.2.2.1)))))))), ((cell_far (p := ⟨gb148, _, none⟩) NB146_148.out _).trans (((cell_far (p := ⟨gb148, _, none⟩) NB146_148.out _).trans (((cell_far (p := ⟨gb148, _, none⟩) NB146_148.out _).trans (((cell_far (p := ⟨gb148, _, none⟩) NB146_148.out _).trans (hHeld.2.2.2.2.2.2.2.1)))))))), ((cell_far (p := ⟨gb148, _, none⟩) NB146_148.out _).trans (((cell_far (p := ⟨gb148, _, none⟩) NB146_148.out _).trans (((cell_far (p := ⟨gb148, _, none⟩) NB146_148.out _).trans (((cell_far (p := ⟨gb148, _, none⟩) NB146_148.out _).trans (hHeld.2.2.2.2.2.2.2.2.1)))))))), ((cell_far (p := ⟨gb148, _, none⟩) NB146_148.out _).trans (((cell_far (p := ⟨gb148, _, none⟩) NB146_148.out _).trans (((cell_far (p := ⟨gb148, _, none⟩) NB146_148.out _).trans (((cell_far (p := ⟨gb148, _, none⟩) NB146_148.out _).trans (hHeld.2.2.2.2.2.2.2.2.2.1)))))))), ((cell_far (p := ⟨gb148, _, none⟩) NB146_148.out _).trans (((cell_far (p := ⟨gb148, _, none⟩) NB146_148.out _).trans (((cell_far (p := ⟨gb148, _, none⟩) NB146_148.out _).trans (((cell_far (p := ⟨gb148, _, none⟩) NB146_148.out _).trans (hHeld.2.2.2.2.2.2.2.2.2.2.1)))))))), ((cell_far (p := ⟨gb148, _, none⟩) NB146_148.out _).trans (((cell_far (p := ⟨gb148, _, none⟩) NB146_148.out _).trans (((cell_far (p := ⟨gb148, _, none⟩) NB146_148.out _).trans (((cell_far (p := ⟨gb148, _, none⟩) NB146_148.out _).trans (hHeld.2.2.2.2.2.2.2.2.2.2.2.1)))))))), ((cell_far (p := ⟨gb148, _, none⟩) NB146_148.out _).trans (((cell_far (p := ⟨gb148, _, none⟩) NB146_148.out _).trans (((cell_far (p := ⟨gb148, _, none⟩) NB146_148.out _).trans (((cell_far (p := ⟨gb148, _, none⟩) NB146_148.out _).trans (hHeld.2.2.2.2.2.2.2.2.2.2.2.2.1)))))))), ((cell_far (p := ⟨gb148, _, none⟩) NB146_148.out _).trans (((cell_far (p := ⟨gb148, _, none⟩) NB146_148.out _).trans (((cell_far (p := ⟨gb148, _, none⟩) NB146_148.out _).trans (((cell_far (p := ⟨gb148, _, none⟩) NB146_148.out _).trans (hHeld.2.2.2.2.2.2.2.2.2.2.2.2.2.1)))))))), ((cell_far (p := ⟨gb148, _, none⟩) NB146_148.out _).trans (((cell_far (p := ⟨gb148, _, none⟩) NB146_148.out _).trans (((cell_far (p := ⟨gb148, _, none⟩) NB146_148.out _).trans (((cell_far (p := ⟨gb148, _, none⟩) NB146_148.out _).trans (hHeld.2.2.2.2.2.2.2.2.2.2.2.2.2.2.1)))))))), ((cell_far (p := ⟨gb148, _, none⟩) NB147_148.out _).trans (((cell_far (p := ⟨gb148, _, none⟩) NB147_148.out _).trans (((cell_far (p := ⟨gb148, _, none⟩) NB147_148.out _).trans (((cell_far (p := ⟨gb148, _, none⟩) NB147_148.out _).trans (hHeld.2.2.2.2.2.2.2.2.2.2.2.2.2.2.2.1)))))))), ((cell_far (p := ⟨gb148, _, none⟩) NB147_148.out _).trans (((cell_far (p := ⟨gb148, _, none⟩) NB147_148.out _).trans (((cell_far (p := ⟨gb148, _, none⟩) NB147_148.out _).trans (((cell_far (p := ⟨gb148, _, none⟩) NB147_148.out _).trans (hHeld.2.2.2.2.2.2.2.2.2.2.2.2.2.2.2.2.1)))))))), ((cell_far (p := ⟨gb148, _, none⟩) NB147_148.out _).trans (((cell_far (p := ⟨gb148, _, none⟩) NB147_148.out _).trans (((cell_far (p := ⟨gb148, _, none⟩) NB147_148.out _).trans (((cell_far (p := ⟨gb148, _, none⟩) NB147_148.out _).trans (hHeld.2.2.2.2.2.2.2.2.2.2.2.2.2.2.2.2.2.1)))))))), ((cell_far (p := ⟨gb148, _, none⟩) NB147_148.out _).trans (((cell_far (p := ⟨gb148, _, none⟩) NB147_148.out _).trans (((cell_far (p := ⟨gb148, _, none⟩) NB147_148.out _).trans (((cell_far (p := ⟨gb148, _, none⟩) NB147_148.out _).trans (hHeld.2.2.2.2.2.2.2.2.2.2.2.2.2.2.2.2.2.2.1)))))))), ((cell_far (p := ⟨gb148, _, none⟩) NB147_148.out _).trans (((cell_far (p := ⟨gb148, _, none⟩) NB147_148.out _).trans (((cell_far (p := ⟨gb148, _, none⟩) NB147_148.out _).trans (((cell_far (p := ⟨gb148, _, none⟩) NB147_148.out _).trans (hHeld.2.2.2.2.2.2.2.2.2.2.2.2.2.2.2.2.2.2.2.1)))))))), ((cell_far (p := ⟨gb148, _, none⟩) NB147_148.out _).trans (((cell_far (p := ⟨gb148, _, none⟩) NB147_148.out _).trans (((cell_far (p := ⟨gb148, _, none⟩) NB147_148.out _).trans (((cell_far (p := ⟨gb148, _, none⟩) NB147_148.out _).trans (hHeld.2.2.2.2.2.2.2.2.2.2.2.2.2.2.2.2.2.2.2.2.1)))))))), ((cell_far (p := ⟨gb148, _, none⟩) NB147_148.out _).trans (((cell_far (p := ⟨gb148, _, none⟩) NB147_148.out _).trans (((cell_far (p := ⟨gb148, _, none⟩) NB147_148.out _).trans (((cell_far (p := ⟨gb148, _, none⟩) NB147_148.out _).trans (hHeld.2.2.2.2.2.2.2.2.2.2.2.2.2.2.2.2.2.2.2.2.2.1)))))))), ((cell_far (p := ⟨gb148, _, none⟩) NB147_148.out _).trans (((cell_far (p := ⟨gb148, _, none⟩) NB147_148.out _).trans (((cell_far (p := ⟨gb148, _, none⟩) NB147_148.out _).trans (((cell_far (p := ⟨gb148, _, none⟩) NB147_148.out _).trans (hHeld.2.2.2.2.2.2.2.2.2.2.2.2.2.2.2.2.2.2.2.2.2.2.1)))))))), ((cell_far (p := ⟨gb148, _, none⟩) NB147_148.out _).trans (((cell_far (p := ⟨gb148, _, none⟩) NB147_148.out _).trans (((cell_far (p := ⟨gb148, _, none⟩) NB147_148.out _).trans (((cell_far (p := ⟨gb148, _, none⟩) NB147_148.out _).trans (hHeld.2.2.2.2.2.2.2.2.2.2.2.2.2.2.2.2.2.2.2.2.2.2.2.1)))))))), ((cell_far (p := ⟨gb148, _, none⟩) NB147_148.out _).trans (((cell_far (p := ⟨gb148, _, none⟩) NB147_148.out _).trans (((cell_far (p := ⟨gb148, _, none⟩) NB147_148.out _).trans (((cell_far (p := ⟨gb148, _, none⟩) NB147_148.out _).trans (hHeld.2.2.2.2.2.2.2.2.2.2.2.2.2.2.2.2.2.2.2.2.2.2.2.2.1)))))))), ((cell_far (p := ⟨gb148, _, none⟩) NB147_148.out _).trans (((cell_far (p := ⟨gb148, _, none⟩) NB147_148.out _).trans (((cell_far (p := ⟨gb148, _, none⟩) NB147_148.out _).trans (((cell_far (p := ⟨gb148, _, none⟩) NB147_148.out _).trans (hHeld.2.2.2.2.2.2.2.2.2.2.2.2.2.2.2.2.2.2.2.2.2.2.2.2.2.1)))))))), ((cell_far (p := ⟨gb148, _, none⟩) NB147_148.out _).trans (((cell_far (p := ⟨gb148, _, none⟩) NB147_148.out _).trans (((cell_far (p := ⟨gb148, _, none⟩) NB147_148.out _).trans (((cell_far (p := ⟨gb148, _, none⟩) NB147_148.out _).trans (hHeld.2.2.2.2.2.2.2.2.2.2.2.2.2.2.2.2.2.2.2.2.2.2.2.2.2.2.1)))))))), ((cell_far (p := ⟨gb148, _, none⟩) NB147_148.out _).trans (((cell_far (p := ⟨gb148, _, none⟩) NB147_148.out _).trans (((cell_far (p := ⟨gb148, _, none⟩) NB147_148.out _).trans (((cell_far (p := ⟨gb148, _, none⟩) NB147_148.out _).trans (hHeld.2.2.2.2.2.2.2.2.2.2.2.2.2.2.2.2.2.2.2.2.2.2.2.2.2.2.2.1)))))))), ((cell_far (p := ⟨gb148, _, none⟩) NB147_148.out _).trans (((cell_far (p := ⟨gb148, _, none⟩) NB147_148.out _).trans (((cell_far (p := ⟨gb148, _, none⟩) NB147_148.out _).trans (((cell_far (p := ⟨gb148, _, none⟩) NB147_148.out _).trans (hHeld.2.2.2.2.2.2.2.2.2.2.2.2.2.2.2.2.2.2.2.2.2.2.2.2.2.2.2.2.1)))))))), ((cell_far (p := ⟨gb148, _, none⟩) NB147_148.out _).trans (((cell_far (p := ⟨gb148, _, none⟩) NB147_148.out _).trans (((cell_far (p := ⟨gb148, _, none⟩) NB147_148.out _).trans (((cell_far (p := ⟨gb148, _, none⟩) NB147_148.out _).trans (hHeld.2.2.2.2.2.2.2.2.2.2.2.2.2.2.2.2.2.2.2.2.2.2.2.2.2.2.2.2.2))))))))⟩ (fun hHeld => ?_)
  clear hK K
  refine one_ (i := 9) (N := none) #[T_, T_, T_, T_, T_, T_, T_, T_, T_, T_] rfl rfl (one_of HT_.out (by kernel_rfl)) (by decide) (fun K hK => ?_)
  have hs14 : w9.cell? ⟨gb149, 0, none⟩ = some (.int .i64 0) := (zL BK149.out 0).trans rfl
  have hfs14 := zF BK149.out 0
  have hns14_0 := NB146_149.out
  have hns14_1 := NB147_149.out
  have hns14_2 := NB148_149.out
  have hms14_0 := NB149_146.out
  have hms14_1 := NB149_147.out
  have hms14_2 := NB149_148.out
  have hs15 : w9.cell? ⟨gb149, 1, none⟩ = some (.int .i64 0) := (zL BK149.out 1).trans rfl
  have hfs15 := zF BK149.out 1
  have hns15_0 := NB146_149.out
  have hns15_1 := NB147_149.out
  have hns15_2 := NB148_149.out
  have hms15_0 := NB149_146.out
  have hms15_1 := NB149_147.out
  have hms15_2 := NB149_148.out
  have hs16 : w9.cell? ⟨gb149, 2, none⟩ = some (.int .i64 0) := (zL BK149.out 2).trans rfl
  have hfs16 := zF BK149.out 2
  have hns16_0 := NB146_149.out
  have hns16_1 := NB147_149.out
  have hns16_2 := NB148_149.out
  have hms16_0 := NB149_146.out
  have hms16_1 := NB149_147.out
  have hms16_2 := NB149_148.out
  have hs17 : w9.cell? ⟨gb149, 3, none⟩ = some (.float .f64 0) := (zL BK149.out 3).trans rfl
  have hfs17 := zF BK149.out 3
  have hns17_0 := NB146_149.out
  have hns17_1 := NB147_149.out
  have hns17_2 := NB148_149.out
  have hms17_0 := NB149_146.out
  have hms17_1 := NB149_147.out
  have hms17_2 := NB149_148.out
  refine skip_ (w1 := ?_) (by rfl) rfl ?_ ?_
  rotate_left
  · go_simp
    rfl
  refine hK.out _ _ ⟨((cell_far (p := ⟨gb149, _, none⟩) NB146_149.out _).trans (((cell_far (p := ⟨gb149, _, none⟩) NB146_149.out _).trans (((cell_far (p := ⟨gb149, _, none⟩) NB146_149.out _).trans (((cell_far (p := ⟨gb149, _, none⟩) NB146_149.out _).trans (hHeld.1)))))))), ((cell_far (p := ⟨gb149, _, none⟩) NB146_149.out _).trans (((cell_far (p := ⟨gb149, _, none⟩) NB146_149.out _).trans (((cell_far (p := ⟨gb149, _, none⟩) NB146_149.out _).trans (((cell_far (p := ⟨gb149, _, none⟩) NB146_149.out _).trans (hHeld.2.1)))))))), ((cell_far (p := ⟨gb149, _, none⟩) NB146_149.out _).trans (((cell_far (p := ⟨gb149, _, none⟩) NB146_149.out _).trans (((cell_far (p := ⟨gb149, _, none⟩) NB146_149.out _).trans (((cell_far (p := ⟨gb149, _, none⟩) NB146_149.out _).trans (hHeld.2.2.1)))))))), ((cell_far (p := ⟨gb149, _, none⟩) NB146_149.out _).trans (((cell_far (p := ⟨gb149, _, none⟩) NB146_149.out _).trans (((cell_far (p := ⟨gb149, _, none⟩) NB146_149.out _).trans (((cell_far (p := ⟨gb149, _, none⟩) NB146_149.out _).trans (hHeld.2.2.2.1)))))))), ((cell_far (p := ⟨gb149, _, none⟩) NB146_149.out _).trans (((cell_far (p := ⟨gb149, _, none⟩) NB146_149.out _).trans (((cell_far (p := ⟨gb149, _, none⟩) NB146_149.out _).trans (((cell_far (p := ⟨gb149, _, none⟩) NB146_149.out _).trans (hHeld.2.2.2.2.1)))))))), ((cell_far (p := ⟨gb149, _, none⟩) NB146_149.out _).trans (((cell_far (p := ⟨gb149, _, none⟩) NB146_149.out _).trans (((cell_far (p := ⟨gb149, _, none⟩) NB146_149.out _).trans (((cell_far (p := ⟨gb149, _, none⟩) NB146_149.out _).trans (hHeld.2.2.2.2.2.1)))))))), ((cell_far (p := ⟨gb149, _, none⟩) NB146_149.out _).trans (((cell_far (p := ⟨gb149, _, none⟩) NB146_149.out _).trans (((cell_far (p := ⟨gb149, _, none⟩) NB146_149.out _).trans (((cell_far (p := ⟨gb149, _, none⟩) NB146_149.out _).trans (hHeld.2.2.2.2.2.2.1)))))))), ((cell_far (p := ⟨gb149, _, none⟩) NB146_149.out _).trans (((cell_far (p := ⟨gb149, _, none⟩) NB146_149.out _).trans (((cell_far (p := ⟨gb149, _, none⟩) NB146_149.out _).trans (((cell_far (p := ⟨gb149, _, none⟩) NB146_149.out _).trans (hHeld.2.2.2.2.2.2.2.1)))))))), ((cell_far (p := ⟨gb149, _, none⟩) NB146_149.out _).trans (((cell_far (p := ⟨gb149, _, none⟩) NB146_149.out _).trans (((cell_far (p := ⟨gb149, _, none⟩) NB146_149.out _).trans (((cell_far (p := ⟨gb149, _, none⟩) NB146_149.out _).trans (hHeld.2.2.2.2.2.2.2.2.1)))))))), ((cell_far (p := ⟨gb149, _, none⟩) NB146_149.out _).trans (((cell_far (p := ⟨gb149, _, none⟩) NB146_149.out _).trans (((cell_far (p := ⟨gb149, _, none⟩) NB146_149.out _).trans (((cell_far (p := ⟨gb149, _, none⟩) NB146_149.out _).trans (hHeld.2.2.2.2.2.2.2.2.2.1)))))))), ((cell_far (p := ⟨gb149, _, none⟩) NB146_149.out _).trans (((cell_far (p := ⟨gb149, _, none⟩) NB146_149.out _).trans (((cell_far (p := ⟨gb149, _, none⟩) NB146_149.out _).trans (((cell_far (p := ⟨gb149, _, none⟩) NB146_149.out _).trans (hHeld.2.2.2.2.2.2.2.2.2.2.1)))))))), ((cell_far (p := ⟨gb149, _, none⟩) NB146_149.out _).trans (((cell_far (p := ⟨gb149, _, none⟩) NB146_149.out _).trans (((cell_far (p := ⟨gb149, _, none⟩) NB146_149.out _).trans (((cell_far (p := ⟨gb149, _, none⟩) NB146_149.out _).trans (hHeld.2.2.2.2.2.2.2.2.2.2.2.1)))))))), ((cell_far (p := ⟨gb149, _, none⟩) NB146_149.out _).trans (((cell_far (p := ⟨gb149, _, none⟩) NB146_149.out _).trans (((cell_far (p := ⟨gb149, _, none⟩) NB146_149.out _).trans (((cell_far (p := ⟨gb149, _, none⟩) NB146_149.out _).trans (hHeld.2.2.2.2.2.2.2.2.2.2.2.2.1)))))))), ((cell_far (p := ⟨gb149, _, none⟩) NB146_149.out _).trans (((cell_far (p := ⟨gb149, _, none⟩) NB146_149.out _).trans (((cell_far (p := ⟨gb149, _, none⟩) NB146_149.out _).trans (((cell_far (p := ⟨gb149, _, none⟩) NB146_149.out _).trans (hHeld.2.2.2.2.2.2.2.2.2.2.2.2.2.1)))))))), ((cell_far (p := ⟨gb149, _, none⟩) NB146_149.out _).trans (((cell_far (p := ⟨gb149, _, none⟩) NB146_149.out _).trans (((cell_far (p := ⟨gb149, _, none⟩) NB146_149.out _).trans (((cell_far (p := ⟨gb149, _, none⟩) NB146_149.out _).trans (hHeld.2.2.2.2.2.2.2.2.2.2.2.2.2.2.1)))))))), ((cell_far (p := ⟨gb149, _, none⟩) NB147_149.out _).trans (((cell_far (p := ⟨gb149, _, none⟩) NB147_149.out _).trans (((cell_far (p := ⟨gb149, _, none⟩) NB147_149.out _).trans (((cell_far (p := ⟨gb149, _, none⟩) NB147_149.out _).trans (hHeld.2.2.2.2.2.2.2.2.2.2.2.2.2.2.2.1)))))))), ((cell_far (p := ⟨gb149, _, none⟩) NB147_149.out _).trans (((cell_far (p := ⟨gb149, _, none⟩) NB147_149.out _).trans (((cell_far (p := ⟨gb149, _, none⟩) NB147_149.out _).trans (((cell_far (p := ⟨gb149, _, none⟩) NB147_149.out _).trans (hHeld.2.2.2.2.2.2.2.2.2.2.2.2.2.2.2.2.1)))))))), ((cell_far (p := ⟨gb149, _, none⟩) NB147_149.out _).trans (((cell_far (p := ⟨gb149, _, none⟩) NB147_149.out _).trans (((cell_far (p := ⟨gb149, _, none⟩) NB147_149.out _).trans (((cell_far (p := ⟨gb149, _, none⟩) NB147_149.out _).trans (hHeld.2.2.2.2.2.2.2.2.2.2.2.2.2.2.2.2.2.1)))))))), ((cell_far (p := ⟨gb149, _, none⟩) NB147_149.out _).trans (((cell_far (p := ⟨gb149, _, none⟩) NB147_149.out _).trans (((cell_far (p := ⟨gb149, _, none⟩) NB147_149.out _).trans (((cell_far (p := ⟨gb149, _, none⟩) NB147_149.out _).trans (hHeld.2.2.2.2.2.2.2.2.2.2.2.2.2.2.2.2.2.2.1)))))))), ((cell_far (p := ⟨gb149, _, none⟩) NB147_149.out _).trans (((cell_far (p := ⟨gb149, _, none⟩) NB147_149.out _).trans (((cell_far (p := ⟨gb149, _, none⟩) NB147_149.out _).trans (((cell_far (p := ⟨gb149, _, none⟩) NB147_149.out _).trans (hHeld.2.2.2.2.2.2.2.2.2.2.2.2.2.2.2.2.2.2.2.1)))))))), ((cell_far (p := ⟨gb149, _, none⟩) NB147_149.out _).trans (((cell_far (p := ⟨gb149, _, none⟩) NB147_149.out _).trans (((cell_far (p := ⟨gb149, _, none⟩) NB147_149.out _).trans (((cell_far (p := ⟨gb149, _, none⟩) NB147_149.out _).trans (hHeld.2.2.2.2.2.2.2.2.2.2.2.2.2.2.2.2.2.2.2.2.1)))))))), ((cell_far (p := ⟨gb149, _, none⟩) NB147_149.out _).trans (((cell_far (p := ⟨gb149, _, none⟩) NB147_149.out _).trans (((cell_far (p := ⟨gb149, _, none⟩) NB147_149.out _).trans (((cell_far (p := ⟨gb149, _, none⟩) NB147_149.out _).trans (hHeld.2.2.2.2.2.2.2.2.2.2.2.2.2.2.2.2.2.2.2.2.2.1)))))))), ((cell_far (p := ⟨gb149, _, none⟩) NB147_149.out _).trans (((cell_far (p := ⟨gb149, _, none⟩) NB147_149.out _).trans (((cell_far (p := ⟨gb149, _, none⟩) NB147_149.out _).trans (((cell_far (p := ⟨gb149, _, none⟩) NB147_149.out _).trans (hHeld.2.2.2.2.2.2.2.2.2.2.2.2.2.2.2.2.2.2.2.2.2.2.1)))))))), ((cell_far (p := ⟨gb149, _, none⟩) NB147_149.out _).trans (((cell_far (p := ⟨gb149, _, none⟩) NB147_149.out _).trans (((cell_far (p := ⟨gb149, _, none⟩) NB147_149.out _).trans (((cell_far (p := ⟨gb149, _, none⟩) NB147_149.out _).trans (hHeld.2.2.2.2.2.2.2.2.2.2.2.2.2.2.2.2.2.2.2.2.2.2.2.1)))))))), ((cell_far (p := ⟨gb149, _, none⟩) NB147_149.out _).trans (((cell_far (p := ⟨gb149, _, none⟩) NB147_149.out _).trans (((cell_far (p := ⟨gb149, _, none⟩) NB147_149.out _).trans (((cell_far (p := ⟨gb149, _, none⟩) NB147_149.out _).trans (hHeld.2.2.2.2.2.2.2.2.2.2.2.2.2.2.2.2.2.2.2.2.2.2.2.2.1)))))))), ((cell_far (p := ⟨gb149, _, none⟩) NB147_149.out _).trans (((cell_far (p := ⟨gb149, _, none⟩) NB147_149.out _).trans (((cell_far (p := ⟨gb149, _, none⟩) NB147_149.out _).trans (((cell_far (p := ⟨gb149, _, none⟩) NB147_149.out _).trans (hHeld.2.2.2.2.2.2.2.2.2.2.2.2.2.2.2.2.2.2.2.2.2.2.2.2.2.1)))))))), ((cell_far (p := ⟨gb149, _, none⟩) NB147_149.out _).trans (((cell_far (p := ⟨gb149, _, none⟩) NB147_149.out _).trans (((cell_far (p := ⟨gb149, _, none⟩) NB147_149.out _).trans (((cell_far (p := ⟨gb149, _, none⟩) NB147_149.out _).trans (hHeld.2.2.2.2.2.2.2.2.2.2.2.2.2.2.2.2.2.2.2.2.2.2.2.2.2.2.1)))))))), ((cell_far (p := ⟨gb149, _, none⟩) NB147_149.out _).trans (((cell_far (p := ⟨gb149, _, none⟩) NB147_149.out _).trans (((cell_far (p := ⟨gb149, _, none⟩) NB147_149.out _).trans (((cell_far (p := ⟨gb149, _, none⟩) NB147_149.out _).trans (hHeld.2.2.2.2.2.2.2.2.2.2.2.2.2.2.2.2.2.2.2.2.2.2.2.2.2.2.2.1)))))))), ((cell_far (p := ⟨gb149, _, none⟩) NB147_149.out _).trans (((cell_far (p := ⟨gb149, _, none⟩) NB147_149.out _).trans (((cell_far (p := ⟨gb149, _, none⟩) NB147_149.out _).trans (((cell_far (p := ⟨gb149, _, none⟩) NB147_149.out _).trans (hHeld.2.2.2.2.2.2.2.2.2.2.2.2.2.2.2.2.2.2.2.2.2.2.2.2.2.2.2.2.1)))))))), ((cell_far (p := ⟨gb149, _, none⟩) NB147_149.out _).trans (((cell_far (p := ⟨gb149, _, none⟩) NB147_149.out _).trans (((cell_far (p := ⟨gb149, _, none⟩) NB147_149.out _).trans (((cell_far (p := ⟨gb149, _, none⟩) NB147_149.out _).trans (hHeld.2.2.2.2.2.2.2.2.2.2.2.2.2.2.2.2.2.2.2.2.2.2.2.2.2.2.2.2.2))))))))⟩ (fun hHeld => ?_)
  clear hK K
  refine done_ (done_of HT_.out (by kernel_rfl)) ?_
  go_upto_region 2 with (fail)
  go_cut [7] (fun v7 wc => ∃ (kq : Nat) (x7_2 : Bool), v7 = .bool x7_2 ∧ Aside0 (past_pair.j0 kq x7_2 a0_0 a0_1 a0_2 a0_3 a0_4 a0_5 a0_6 a0_7 a0_8 a0_9 a0_10 a0_11 a0_12 a0_13 a0_14 a1_0 a1_1 a1_2 a1_3 a1_4 a1_5 a1_6 a1_7 a1_8 a1_9 a1_10 a1_11 a1_12 a1_13 a1_14 a0_11 a0_12 a0_13 a0_14 a1_11 a1_12 a1_13 a1_14 = some r) ∧ Aside0 (kq ≤ k) ∧ Aside0 (wc.heap[gb146]? = some (.cells #[.int .i64 a0_0, .int .i64 a0_1, .int .i64 a0_2, .int .i64 a0_3, .int .i64 a0_4, .float .f64 a0_5, .int .i64 a0_6, .int .i64 a0_7, .int .i64 a0_8, .int .i64 a0_9, .int .i64 a0_10, .int .i64 a0_11, .int .i64 a0_12, .int .i64 a0_13, .float .f64 a0_14] 35 (0, 0))) ∧ Aside0 (wc.heap[gb147]? = some (.cells #[.int .i64 a1_0, .int .i64 a1_1, .int .i64 a1_2, .int .i64 a1_3, .int .i64 a1_4, .float .f64 a1_5, .int .i64 a1_6, .int .i64 a1_7, .int .i64 a1_8, .int .i64 a1_9, .int .i64 a1_10, .int .i64 a1_11, .int .i64 a1_12, .int .i64 a1_13, .float .f64 a1_14] 35 (0, 0))) ∧ Aside0 (wc.heap[gb148]? = some (.cells #[.int .i64 a0_11, .int .i64 a0_12, .int .i64 a0_13, .float .f64 a0_14] 31 (0, 0))) ∧ Aside0 (wc.heap[gb149]? = some (.cells #[.int .i64 a1_11, .int .i64 a1_12, .int .i64 a1_13, .float .f64 a1_14] 31 (0, 0))) ∧ Aside0 (Below w.heap.size w wc))
  case first =>
   have H := HC3.out
   clear HC3
   by_cases c18 : a0_3 = 1
   rotate_left
   · rw [if_neg c18] at H
     have c18b0 : (a0_3 == 1) = false := beq_eq_false_iff_ne.mpr c18
     have c18b1 : (a0_3 != 1) = true := bne_iff_ne.mpr c18
     (first | rw [c18b0] | (simp only [i64_w, i32_w]; rw [c18b0]) | skip)
     have H' := zM H
     clear H
     have hnb26 := NB146_147.out
     have hnc26 := NB147_146.out
     have hnb27 := NB146_148.out
     have hnc27 := NB148_146.out
     have hnb28 := NB146_149.out
     have hnc28 := NB149_146.out
     obtain ⟨hcz29_0, hcz29_1, hcz29_2, hcz29_3, hcz29_4, hcz29_5, hcz29_6, hcz29_7, hcz29_8, hcz29_9, hcz29_10, hcz29_11, hcz29_12, hcz29_13, hcz29_14⟩ := r15_ BK146.out
     obtain ⟨hfz29_0, hfz29_1, hfz29_2, hfz29_3, hfz29_4, hfz29_5, hfz29_6, hfz29_7, hfz29_8, hfz29_9, hfz29_10, hfz29_11, hfz29_12, hfz29_13, hfz29_14⟩ := f15_ BK146.out
     go_wp2
     go_meet
     case rel => exact ⟨_, (false), (by first | rfl | (simp; done) | (simp [*]; done) | (simp; grind)), H', ⟨by first | omega | exact Nat.le_refl _⟩, ⟨blf_⟩, ⟨blf_⟩, ⟨by (with_reducible repeat (first | refine zN ?_ _ | refine zD ?_ | refine zA ?_ _)); refine blk_far ?_ NB148_149.out _; (with_reducible repeat (first | refine zN ?_ _ | refine zD ?_ | refine zA ?_ _)); refine blk_far ?_ NB148_149.out _; (with_reducible repeat (first | refine zN ?_ _ | refine zD ?_ | refine zA ?_ _)); refine blk_far ?_ NB148_149.out _; (with_reducible repeat (first | refine zN ?_ _ | refine zD ?_ | refine zA ?_ _)); refine blk_far ?_ NB148_149.out _; (with_reducible repeat (first | refine zN ?_ _ | refine zD ?_ | refine zA ?_ _)); refine blk_put (cs := #[.int .i64 a0_11, .int .i64 a0_12, .int .i64 a0_13, .float .f64 0]) ?_ 3 _ rfl; (with_reducible repeat (first | refine zN ?_ _ | refine zD ?_ | refine zA ?_ _)); refine blk_put (cs := #[.int .i64 a0_11, .int .i64 a0_12, .int .i64 0, .float .f64 0]) ?_ 2 _ rfl; (with_reducible repeat (first | refine zN ?_ _ | refine zD ?_ | refine zA ?_ _)); refine blk_put (cs := #[.int .i64 a0_11, .int .i64 0, .int .i64 0, .float .f64 0]) ?_ 1 _ rfl; (with_reducible repeat (first | refine zN ?_ _ | refine zD ?_ | refine zA ?_ _)); refine blk_put (cs := #[.int .i64 0, .int .i64 0, .int .i64 0, .float .f64 0]) ?_ 0 _ rfl; (with_reducible repeat (first | refine zN ?_ _ | refine zD ?_ | refine zA ?_ _)); exact BK148.out⟩, ⟨by (with_reducible repeat (first | refine zN ?_ _ | refine zD ?_ | refine zA ?_ _)); refine blk_put (cs := #[.int .i64 a1_11, .int .i64 a1_12, .int .i64 a1_13, .float .f64 0]) ?_ 3 _ rfl; (with_reducible repeat (first | refine zN ?_ _ | refine zD ?_ | refine zA ?_ _)); refine blk_put (cs := #[.int .i64 a1_11, .int .i64 a1_12, .int .i64 0, .float .f64 0]) ?_ 2 _ rfl; (with_reducible repeat (first | refine zN ?_ _ | refine zD ?_ | refine zA ?_ _)); refine blk_put (cs := #[.int .i64 a1_11, .int .i64 0, .int .i64 0, .float .f64 0]) ?_ 1 _ rfl; (with_reducible repeat (first | refine zN ?_ _ | refine zD ?_ | refine zA ?_ _)); refine blk_put (cs := #[.int .i64 0, .int .i64 0, .int .i64 0, .float .f64 0]) ?_ 0 _ rfl; (with_reducible repeat (first | refine zN ?_ _ | refine zD ?_ | refine zA ?_ _)); refine blk_far ?_ NB149_148.out _; (with_reducible repeat (first | refine zN ?_ _ | refine zD ?_ | refine zA ?_ _)); refine blk_far ?_ NB149_148.out _; (with_reducible repeat (first | refine zN ?_ _ | refine zD ?_ | refine zA ?_ _)); refine blk_far ?_ NB149_148.out _; (with_reducible repeat (first | refine zN ?_ _ | refine zD ?_ | refine zA ?_ _)); refine blk_far ?_ NB149_148.out _; (with_reducible repeat (first | refine zN ?_ _ | refine zD ?_ | refine zA ?_ _)); exact BK149.out⟩, ⟨bel_⟩⟩
   rw [if_pos c18] at H
   have c18b0 : (a0_3 == 1) = true := beq_iff_eq.mpr c18
   have c18b1 : (a0_3 != 1) = false := bne_eq_false_iff_eq.mpr c18
   clear c18
   (first | rw [c18b0] | (simp only [i64_w, i32_w]; rw [c18b0]) | skip)
   have H' := zM H
   clear H
   have hnb19 := NB146_147.out
   have hnc19 := NB147_146.out
   have hnb20 := NB146_148.out
   have hnc20 := NB148_146.out
   have hnb21 := NB146_149.out
   have hnc21 := NB149_146.out
   obtain ⟨hcz22_0, hcz22_1, hcz22_2, hcz22_3, hcz22_4, hcz22_5, hcz22_6, hcz22_7, hcz22_8, hcz22_9, hcz22_10, hcz22_11, hcz22_12, hcz22_13, hcz22_14⟩ := r15_ BK146.out
   obtain ⟨hfz22_0, hfz22_1, hfz22_2, hfz22_3, hfz22_4, hfz22_5, hfz22_6, hfz22_7, hfz22_8, hfz22_9, hfz22_10, hfz22_11, hfz22_12, hfz22_13, hfz22_14⟩ := f15_ BK146.out
   have hnb23 := NB147_148.out
   have hnc23 := NB148_147.out
   have hnb24 := NB147_149.out
   have hnc24 := NB149_147.out
   obtain ⟨hcz25_0, hcz25_1, hcz25_2, hcz25_3, hcz25_4, hcz25_5, hcz25_6, hcz25_7, hcz25_8, hcz25_9, hcz25_10, hcz25_11, hcz25_12, hcz25_13, hcz25_14⟩ := r15_ BK147.out
   obtain ⟨hfz25_0, hfz25_1, hfz25_2, hfz25_3, hfz25_4, hfz25_5, hfz25_6, hfz25_7, hfz25_8, hfz25_9, hfz25_10, hfz25_11, hfz25_12, hfz25_13, hfz25_14⟩ := f15_ BK147.out
   go_wp2
   go_meet
   case rel => exact ⟨_, ((a1_3 == 1)), (by first | rfl | (simp; done) | (simp [*]; done) | (simp; grind)), H', ⟨by first | omega | exact Nat.le_refl _⟩, ⟨blf_⟩, ⟨blf_⟩, ⟨by (with_reducible repeat (first | refine zN ?_ _ | refine zD ?_ | refine zA ?_ _)); refine blk_far ?_ NB148_149.out _; (with_reducible repeat (first | refine zN ?_ _ | refine zD ?_ | refine zA ?_ _)); refine blk_far ?_ NB148_149.out _; (with_reducible repeat (first | refine zN ?_ _ | refine zD ?_ | refine zA ?_ _)); refine blk_far ?_ NB148_149.out _; (with_reducible repeat (first | refine zN ?_ _ | refine zD ?_ | refine zA ?_ _)); refine blk_far ?_ NB148_149.out _; (with_reducible repeat (first | refine zN ?_ _ | refine zD ?_ | refine zA ?_ _)); refine blk_put (cs := #[.int .i64 a0_11, .int .i64 a0_12, .int .i64 a0_13, .float .f64 0]) ?_ 3 _ rfl; (with_reducible repeat (first | refine zN ?_ _ | refine zD ?_ | refine zA ?_ _)); refine blk_put (cs := #[.int .i64 a0_11, .int .i64 a0_12, .int .i64 0, .float .f64 0]) ?_ 2 _ rfl; (with_reducible repeat (first | refine zN ?_ _ | refine zD ?_ | refine zA ?_ _)); refine blk_put (cs := #[.int .i64 a0_11, .int .i64 0, .int .i64 0, .float .f64 0]) ?_ 1 _ rfl; (with_reducible repeat (first | refine zN ?_ _ | refine zD ?_ | refine zA ?_ _)); refine blk_put (cs := #[.int .i64 0, .int .i64 0, .int .i64 0, .float .f64 0]) ?_ 0 _ rfl; (with_reducible repeat (first | refine zN ?_ _ | refine zD ?_ | refine zA ?_ _)); exact BK148.out⟩, ⟨by (with_reducible repeat (first | refine zN ?_ _ | refine zD ?_ | refine zA ?_ _)); refine blk_put (cs := #[.int .i64 a1_11, .int .i64 a1_12, .int .i64 a1_13, .float .f64 0]) ?_ 3 _ rfl; (with_reducible repeat (first | refine zN ?_ _ | refine zD ?_ | refine zA ?_ _)); refine blk_put (cs := #[.int .i64 a1_11, .int .i64 a1_12, .int .i64 0, .float .f64 0]) ?_ 2 _ rfl; (with_reducible repeat (first | refine zN ?_ _ | refine zD ?_ | refine zA ?_ _)); refine blk_put (cs := #[.int .i64 a1_11, .int .i64 0, .int .i64 0, .float .f64 0]) ?_ 1 _ rfl; (with_reducible repeat (first | refine zN ?_ _ | refine zD ?_ | refine zA ?_ _)); refine blk_put (cs := #[.int .i64 0, .int .i64 0, .int .i64 0, .float .f64 0]) ?_ 0 _ rfl; (with_reducible repeat (first | refine zN ?_ _ | refine zD ?_ | refine zA ?_ _)); refine blk_far ?_ NB149_148.out _; (with_reducible repeat (first | refine zN ?_ _ | refine zD ?_ | refine zA ?_ _)); refine blk_far ?_ NB149_148.out _; (with_reducible repeat (first | refine zN ?_ _ | refine zD ?_ | refine zA ?_ _)); refine blk_far ?_ NB149_148.out _; (with_reducible repeat (first | refine zN ?_ _ | refine zD ?_ | refine zA ?_ _)); refine blk_far ?_ NB149_148.out _; (with_reducible repeat (first | refine zN ?_ _ | refine zD ?_ | refine zA ?_ _)); exact BK149.out⟩, ⟨bel_⟩⟩
  case rest =>
   clear HC3
   try clear c1
   try clear c2
   try clear p2
   try clear c18
   try clear c18b0
   try clear c18b1
   try clear c19
   try clear c20
   try clear c21
   try clear c23
   try clear c24
   try clear c26
   try clear c27
   try clear c28
   try clear hcz22_0
   try clear hcz22_1
   try clear hcz22_10
   try clear hcz22_11
   try clear hcz22_12
   try clear hcz22_13
   try clear hcz22_14
   try clear hcz22_2
   try clear hcz22_3
   try clear hcz22_4
   try clear hcz22_5
   try clear hcz22_6
   try clear hcz22_7
   try clear hcz22_8
   try clear hcz22_9
   try clear hcz25_0
   try clear hcz25_1
   try clear hcz25_10
   try clear hcz25_11
   try clear hcz25_12
   try clear hcz25_13
   try clear hcz25_14
   try clear hcz25_2
   try clear hcz25_3
   try clear hcz25_4
   try clear hcz25_5
   try clear hcz25_6
   try clear hcz25_7
   try clear hcz25_8
   try clear hcz25_9
   try clear hcz29_0
   try clear hcz29_1
   try clear hcz29_10
   try clear hcz29_11
   try clear hcz29_12
   try clear hcz29_13
   try clear hcz29_14
   try clear hcz29_2
   try clear hcz29_3
   try clear hcz29_4
   try clear hcz29_5
   try clear hcz29_6
   try clear hcz29_7
   try clear hcz29_8
   try clear hcz29_9
   try clear hfz22_0
   try clear hfz22_1
   try clear hfz22_10
   try clear hfz22_11
   try clear hfz22_12
   try clear hfz22_13
   try clear hfz22_14
   try clear hfz22_2
   try clear hfz22_3
   try clear hfz22_4
   try clear hfz22_5
   try clear hfz22_6
   try clear hfz22_7
   try clear hfz22_8
   try clear hfz22_9
   try clear hfz25_0
   try clear hfz25_1
   try clear hfz25_10
   try clear hfz25_11
   try clear hfz25_12
   try clear hfz25_13
   try clear hfz25_14
   try clear hfz25_2
   try clear hfz25_3
   try clear hfz25_4
   try clear hfz25_5
   try clear hfz25_6
   try clear hfz25_7
   try clear hfz25_8
   try clear hfz25_9
   try clear hfz29_0
   try clear hfz29_1
   try clear hfz29_10
   try clear hfz29_11
   try clear hfz29_12
   try clear hfz29_13
   try clear hfz29_14
   try clear hfz29_2
   try clear hfz29_3
   try clear hfz29_4
   try clear hfz29_5
   try clear hfz29_6
   try clear hfz29_7
   try clear hfz29_8
   try clear hfz29_9
   obtain ⟨kq, x7_2, rfl, HA, HJ2, BK146, BK147, BK148, BK149, HB⟩ := hcut
   cases kq with
   | zero => exact absurd HA.out (by simp [past_pair.j0])
   | succ kj2 =>
    have H := HA.out
    clear HA
    simp only [past_pair.j0] at H
    have HC30 := zM H
    clear H
    go_upto_region 3 with (fail)
    go_cut [24] (fun v24 wc => ∃ (kq : Nat) (x24_29 : Bool), v24 = .bool x24_29 ∧ Aside0 (past_pair.j1 kq x24_29 a0_0 a0_1 a0_2 a0_3 a0_4 a0_5 a0_6 a0_7 a0_8 a0_9 a0_10 a0_11 a0_12 a0_13 a0_14 a1_0 a1_1 a1_2 a1_3 a1_4 a1_5 a1_6 a1_7 a1_8 a1_9 a1_10 a1_11 a1_12 a1_13 a1_14 a0_11 a0_12 a0_13 a0_14 a1_11 a1_12 a1_13 a1_14 = some r) ∧ Aside0 (kq ≤ kj2) ∧ Aside0 (wc.heap[gb146]? = some (.cells #[.int .i64 a0_0, .int .i64 a0_1, .int .i64 a0_2, .int .i64 a0_3, .int .i64 a0_4, .float .f64 a0_5, .int .i64 a0_6, .int .i64 a0_7, .int .i64 a0_8, .int .i64 a0_9, .int .i64 a0_10, .int .i64 a0_11, .int .i64 a0_12, .int .i64 a0_13, .float .f64 a0_14] 35 (0, 0))) ∧ Aside0 (wc.heap[gb147]? = some (.cells #[.int .i64 a1_0, .int .i64 a1_1, .int .i64 a1_2, .int .i64 a1_3, .int .i64 a1_4, .float .f64 a1_5, .int .i64 a1_6, .int .i64 a1_7, .int .i64 a1_8, .int .i64 a1_9, .int .i64 a1_10, .int .i64 a1_11, .int .i64 a1_12, .int .i64 a1_13, .float .f64 a1_14] 35 (0, 0))) ∧ Aside0 (wc.heap[gb148]? = some (.cells #[.int .i64 a0_11, .int .i64 a0_12, .int .i64 a0_13, .float .f64 a0_14] 31 (0, 0))) ∧ Aside0 (wc.heap[gb149]? = some (.cells #[.int .i64 a1_11, .int .i64 a1_12, .int .i64 a1_13, .float .f64 a1_14] 31 (0, 0))) ∧ Aside0 (Below w.heap.size w wc))
    case first =>
     have H := HC30.out
     clear HC30
     by_cases c31 : x7_2 = true
     rotate_left
     · replace c31 := Bool.eq_false_iff.mpr c31
       subst c31
       have H1 : (past_pair.j1 kj2 false a0_0 a0_1 a0_2 a0_3 a0_4 a0_5 a0_6 a0_7 a0_8 a0_9 a0_10 a0_11 a0_12 a0_13 a0_14 a1_0 a1_1 a1_2 a1_3 a1_4 a1_5 a1_6 a1_7 a1_8 a1_9 a1_10 a1_11 a1_12 a1_13 a1_14 a0_11 a0_12 a0_13 a0_14 a1_11 a1_12 a1_13 a1_14) = some r := by rw [if_neg (show ¬ (false = true) by decide)] at H; exact H
       clear H
       have H := H1
       clear H1
       have H' := zM H
       clear H
       go_wp2
       go_meet
       case rel => exact ⟨_, (false), (by first | rfl | (simp; done) | (simp [*]; done) | (simp; grind)), H', ⟨by have := HJ2.out; first | omega | exact Nat.le_refl _⟩, ⟨blf_⟩, ⟨blf_⟩, ⟨blf_⟩, ⟨blf_⟩, ⟨bel_⟩⟩
     subst c31
     have H1 : (past_pair.j1 kj2 (a0_12 == a1_12 && (a0_13 == a1_13)) a0_0 a0_1 a0_2 a0_3 a0_4 a0_5 a0_6 a0_7 a0_8 a0_9 a0_10 a0_11 a0_12 a0_13 a0_14 a1_0 a1_1 a1_2 a1_3 a1_4 a1_5 a1_6 a1_7 a1_8 a1_9 a1_10 a1_11 a1_12 a1_13 a1_14 a0_11 a0_12 a0_13 a0_14 a1_11 a1_12 a1_13 a1_14) = some r := by rw [if_pos rfl] at H; exact H
     clear H
     have H := H1
     clear H1
     have H' := zM H
     clear H
     have hnb32 := NB148_146.out
     have hnc32 := NB146_148.out
     have hnb33 := NB148_147.out
     have hnc33 := NB147_148.out
     have hnb34 := NB148_149.out
     have hnc34 := NB149_148.out
     obtain ⟨hcz35_0, hcz35_1, hcz35_2, hcz35_3⟩ := r4_ BK148.out
     obtain ⟨hfz35_0, hfz35_1, hfz35_2, hfz35_3⟩ := f4_ BK148.out
     have hnb36 := NB149_146.out
     have hnc36 := NB146_149.out
     have hnb37 := NB149_147.out
     have hnc37 := NB147_149.out
     obtain ⟨hcz38_0, hcz38_1, hcz38_2, hcz38_3⟩ := r4_ BK149.out
     obtain ⟨hfz38_0, hfz38_1, hfz38_2, hfz38_3⟩ := f4_ BK149.out
     go_wp2
     go_meet
     case rel => exact ⟨_, ((a0_12 == a1_12 && (a0_13 == a1_13))), (by first | rfl | (simp; done) | (simp [*]; done) | (simp; grind)), H', ⟨by have := HJ2.out; first | omega | exact Nat.le_refl _⟩, ⟨blf_⟩, ⟨blf_⟩, ⟨blf_⟩, ⟨blf_⟩, ⟨bel_⟩⟩
    case rest =>
     clear HC30
     try clear c1
     try clear c2
     try clear p2
     try clear c3
     try clear c18
     try clear c18b0
     try clear c18b1
     try clear c19
     try clear c20
     try clear c21
     try clear c23
     try clear c24
     try clear c26
     try clear c27
     try clear c28
     try clear c31
     try clear c32
     try clear c33
     try clear c34
     try clear c36
     try clear c37
     try clear hcz22_0
     try clear hcz22_1
     try clear hcz22_10
     try clear hcz22_11
     try clear hcz22_12
     try clear hcz22_13
     try clear hcz22_14
     try clear hcz22_2
     try clear hcz22_3
     try clear hcz22_4
     try clear hcz22_5
     try clear hcz22_6
     try clear hcz22_7
     try clear hcz22_8
     try clear hcz22_9
     try clear hcz25_0
     try clear hcz25_1
     try clear hcz25_10
     try clear hcz25_11
     try clear hcz25_12
     try clear hcz25_13
     try clear hcz25_14
     try clear hcz25_2
     try clear hcz25_3
     try clear hcz25_4
     try clear hcz25_5
     try clear hcz25_6
     try clear hcz25_7
     try clear hcz25_8
     try clear hcz25_9
     try clear hcz29_0
     try clear hcz29_1
     try clear hcz29_10
     try clear hcz29_11
     try clear hcz29_12
     try clear hcz29_13
     try clear hcz29_14
     try clear hcz29_2
     try clear hcz29_3
     try clear hcz29_4
     try clear hcz29_5
     try clear hcz29_6
     try clear hcz29_7
     try clear hcz29_8
     try clear hcz29_9
     try clear hcz35_0
     try clear hcz35_1
     try clear hcz35_2
     try clear hcz35_3
     try clear hcz38_0
     try clear hcz38_1
     try clear hcz38_2
     try clear hcz38_3
     try clear hfz22_0
     try clear hfz22_1
     try clear hfz22_10
     try clear hfz22_11
     try clear hfz22_12
     try clear hfz22_13
     try clear hfz22_14
     try clear hfz22_2
     try clear hfz22_3
     try clear hfz22_4
     try clear hfz22_5
     try clear hfz22_6
     try clear hfz22_7
     try clear hfz22_8
     try clear hfz22_9
     try clear hfz25_0
     try clear hfz25_1
     try clear hfz25_10
     try clear hfz25_11
     try clear hfz25_12
     try clear hfz25_13
     try clear hfz25_14
     try clear hfz25_2
     try clear hfz25_3
     try clear hfz25_4
     try clear hfz25_5
     try clear hfz25_6
     try clear hfz25_7
     try clear hfz25_8
     try clear hfz25_9
     try clear hfz29_0
     try clear hfz29_1
     try clear hfz29_10
     try clear hfz29_11
     try clear hfz29_12
     try clear hfz29_13
     try clear hfz29_14
     try clear hfz29_2
     try clear hfz29_3
     try clear hfz29_4
     try clear hfz29_5
     try clear hfz29_6
     try clear hfz29_7
     try clear hfz29_8
     try clear hfz29_9
     try clear hfz35_0
     try clear hfz35_1
     try clear hfz35_2
     try clear hfz35_3
     try clear hfz38_0
     try clear hfz38_1
     try clear hfz38_2
     try clear hfz38_3
     try clear p2
     obtain ⟨kq, x24_29, rfl, HA, HJ29, BK146, BK147, BK148, BK149, HB⟩ := hcut
     cases kq with
     | zero => exact absurd HA.out (by simp [past_pair.j1])
     | succ kj29 =>
      have H := HA.out
      clear HA
      simp only [past_pair.j1] at H
      by_cases c39 : x24_29 = true
      · subst c39
        have H1 : (some false) = some r := by rw [if_pos rfl] at H; exact H
        clear H
        have H := H1
        clear H1
        obtain rfl := Option.some.inj H
        go_wp2
        go_ret
        exact ⟨by first | rfl | (simp [errW_none, errW_some] <;> rfl) | (simp [*, errW_none, errW_some] <;> rfl), bel_⟩
      replace c39 := Bool.eq_false_iff.mpr c39
      subst c39
      have H1 : (if a0_4 = a1_4 then (if (a0_12 == a1_12 && (a0_13 == a1_13)) = true then ((num_Same.f a0_14 a1_14).bind fun t150 => (past_pair.j2 kj29 (!t150) a0_0 a0_1 a0_2 a0_3 a0_4 a0_5 a0_6 a0_7 a0_8 a0_9 a0_10 a0_11 a0_12 a0_13 a0_14 a1_0 a1_1 a1_2 a1_3 a1_4 a1_5 a1_6 a1_7 a1_8 a1_9 a1_10 a1_11 a1_12 a1_13 a1_14 a0_11 a0_12 a0_13 a0_14 a1_11 a1_12 a1_13 a1_14)) else (past_pair.j2 kj29 false a0_0 a0_1 a0_2 a0_3 a0_4 a0_5 a0_6 a0_7 a0_8 a0_9 a0_10 a0_11 a0_12 a0_13 a0_14 a1_0 a1_1 a1_2 a1_3 a1_4 a1_5 a1_6 a1_7 a1_8 a1_9 a1_10 a1_11 a1_12 a1_13 a1_14 a0_11 a0_12 a0_13 a0_14 a1_11 a1_12 a1_13 a1_14)) else (some true)) = some r := by rw [if_neg (show ¬ (false = true) by decide)] at H; exact H
      clear H
      have H := H1
      clear H1
      by_cases c40 : a0_4 = a1_4
      rotate_left
      · rw [if_neg c40] at H
        have c40b0 : (a0_4 == a1_4) = false := beq_eq_false_iff_ne.mpr c40
        have c40b1 : (a0_4 != a1_4) = true := bne_iff_ne.mpr c40
        obtain rfl := Option.some.inj H
        have hnb120 := NB146_147.out
        have hnc120 := NB147_146.out
        have hnb121 := NB146_148.out
        have hnc121 := NB148_146.out
        have hnb122 := NB146_149.out
        have hnc122 := NB149_146.out
        obtain ⟨hcz123_0, hcz123_1, hcz123_2, hcz123_3, hcz123_4, hcz123_5, hcz123_6, hcz123_7, hcz123_8, hcz123_9, hcz123_10, hcz123_11, hcz123_12, hcz123_13, hcz123_14⟩ := r15_ BK146.out
        obtain ⟨hfz123_0, hfz123_1, hfz123_2, hfz123_3, hfz123_4, hfz123_5, hfz123_6, hfz123_7, hfz123_8, hfz123_9, hfz123_10, hfz123_11, hfz123_12, hfz123_13, hfz123_14⟩ := f15_ BK146.out
        have hnb124 := NB147_148.out
        have hnc124 := NB148_147.out
        have hnb125 := NB147_149.out
        have hnc125 := NB149_147.out
        obtain ⟨hcz126_0, hcz126_1, hcz126_2, hcz126_3, hcz126_4, hcz126_5, hcz126_6, hcz126_7, hcz126_8, hcz126_9, hcz126_10, hcz126_11, hcz126_12, hcz126_13, hcz126_14⟩ := r15_ BK147.out
        obtain ⟨hfz126_0, hfz126_1, hfz126_2, hfz126_3, hfz126_4, hfz126_5, hfz126_6, hfz126_7, hfz126_8, hfz126_9, hfz126_10, hfz126_11, hfz126_12, hfz126_13, hfz126_14⟩ := f15_ BK147.out
        go_wp2
        go_ret
        exact ⟨by first | rfl | (simp [errW_none, errW_some] <;> rfl) | (simp [*, errW_none, errW_some] <;> rfl), bel_⟩
      rw [if_pos c40] at H
      have c40b0 : (a0_4 == a1_4) = true := beq_iff_eq.mpr c40
      have c40b1 : (a0_4 != a1_4) = false := bne_eq_false_iff_eq.mpr c40
      clear c40
      have HC41 := zM H
      clear H
      have hnb42 := NB146_147.out
      have hnc42 := NB147_146.out
      have hnb43 := NB146_148.out
      have hnc43 := NB148_146.out
      have hnb44 := NB146_149.out
      have hnc44 := NB149_146.out
      obtain ⟨hcz45_0, hcz45_1, hcz45_2, hcz45_3, hcz45_4, hcz45_5, hcz45_6, hcz45_7, hcz45_8, hcz45_9, hcz45_10, hcz45_11, hcz45_12, hcz45_13, hcz45_14⟩ := r15_ BK146.out
      obtain ⟨hfz45_0, hfz45_1, hfz45_2, hfz45_3, hfz45_4, hfz45_5, hfz45_6, hfz45_7, hfz45_8, hfz45_9, hfz45_10, hfz45_11, hfz45_12, hfz45_13, hfz45_14⟩ := f15_ BK146.out
      have hnb46 := NB147_148.out
      have hnc46 := NB148_147.out
      have hnb47 := NB147_149.out
      have hnc47 := NB149_147.out
      obtain ⟨hcz48_0, hcz48_1, hcz48_2, hcz48_3, hcz48_4, hcz48_5, hcz48_6, hcz48_7, hcz48_8, hcz48_9, hcz48_10, hcz48_11, hcz48_12, hcz48_13, hcz48_14⟩ := r15_ BK147.out
      obtain ⟨hfz48_0, hfz48_1, hfz48_2, hfz48_3, hfz48_4, hfz48_5, hfz48_6, hfz48_7, hfz48_8, hfz48_9, hfz48_10, hfz48_11, hfz48_12, hfz48_13, hfz48_14⟩ := f15_ BK147.out
      go_upto_region 7 with (fail)
      go_cut [41] (fun v41 wc => ∃ (kq : Nat) (x41_40 : Bool), v41 = .bool x41_40 ∧ Aside0 (past_pair.j2 kq x41_40 a0_0 a0_1 a0_2 a0_3 a0_4 a0_5 a0_6 a0_7 a0_8 a0_9 a0_10 a0_11 a0_12 a0_13 a0_14 a1_0 a1_1 a1_2 a1_3 a1_4 a1_5 a1_6 a1_7 a1_8 a1_9 a1_10 a1_11 a1_12 a1_13 a1_14 a0_11 a0_12 a0_13 a0_14 a1_11 a1_12 a1_13 a1_14 = some r) ∧ Aside0 (kq ≤ kj29) ∧ Aside0 (wc.heap[gb146]? = some (.cells #[.int .i64 a0_0, .int .i64 a0_1, .int .i64 a0_2, .int .i64 a0_3, .int .i64 a0_4, .float .f64 a0_5, .int .i64 a0_6, .int .i64 a0_7, .int .i64 a0_8, .int .i64 a0_9, .int .i64 a0_10, .int .i64 a0_11, .int .i64 a0_12, .int .i64 a0_13, .float .f64 a0_14] 35 (0, 0))) ∧ Aside0 (wc.heap[gb147]? = some (.cells #[.int .i64 a1_0, .int .i64 a1_1, .int .i64 a1_2, .int .i64 a1_3, .int .i64 a1_4, .float .f64 a1_5, .int .i64 a1_6, .int .i64 a1_7, .int .i64 a1_8, .int .i64 a1_9, .int .i64 a1_10, .int .i64 a1_11, .int .i64 a1_12, .int .i64 a1_13, .float .f64 a1_14] 35 (0, 0))) ∧ Aside0 (wc.heap[gb148]? = some (.cells #[.int .i64 a0_11, .int .i64 a0_12, .int .i64 a0_13, .float .f64 a0_14] 31 (0, 0))) ∧ Aside0 (wc.heap[gb149]? = some (.cells #[.int .i64 a1_11, .int .i64 a1_12, .int .i64 a1_13, .float .f64 a1_14] 31 (0, 0))) ∧ Aside0 (Below w.heap.size w wc))
      case first =>
       have H := HC41.out
       clear HC41
       by_cases c49 : (a0_12 == a1_12 && (a0_13 == a1_13)) = true
       rotate_left
       · rw [if_neg c49] at H
         have c49b0 : (a0_12 == a1_12 && (a0_13 == a1_13)) = false := by simpa using c49
         (try (have c49b1 : decide (a0_12 = a1_12 && (a0_13 == a1_13)) = false := by simpa using c49))
         (try (have c49b2 : (a0_12 == a1_12 && (a0_13 == a1_13)) = false := by simpa using c49))
         (try (have c49b3 : ¬ (a0_12 = a1_12 && (a0_13 == a1_13)) := by simpa using c49))
         clear c49
         (first | rw [c49b0] | (simp only [i64_w, i32_w]; rw [c49b0]) | skip)
         have H' := zM H
         clear H
         have hnb58 := NB148_146.out
         have hnc58 := NB146_148.out
         have hnb59 := NB148_147.out
         have hnc59 := NB147_148.out
         have hnb60 := NB148_149.out
         have hnc60 := NB149_148.out
         obtain ⟨hcz61_0, hcz61_1, hcz61_2, hcz61_3⟩ := r4_ BK148.out
         obtain ⟨hfz61_0, hfz61_1, hfz61_2, hfz61_3⟩ := f4_ BK148.out
         have hnb62 := NB149_146.out
         have hnc62 := NB146_149.out
         have hnb63 := NB149_147.out
         have hnc63 := NB147_149.out
         obtain ⟨hcz64_0, hcz64_1, hcz64_2, hcz64_3⟩ := r4_ BK149.out
         obtain ⟨hfz64_0, hfz64_1, hfz64_2, hfz64_3⟩ := f4_ BK149.out
         go_wp2
         go_meet
         case rel => exact ⟨_, (false), (by first | rfl | (simp; done) | (simp [*]; done) | (simp; grind)), H', ⟨by have := HJ2.out; have := HJ29.out; first | omega | exact Nat.le_refl _⟩, ⟨blf_⟩, ⟨blf_⟩, ⟨blf_⟩, ⟨blf_⟩, ⟨bel_⟩⟩
       rw [if_pos c49] at H
       have c49b0 : (a0_12 == a1_12 && (a0_13 == a1_13)) = true := c49
       (try (have c49b1 : decide (a0_12 = a1_12 && (a0_13 == a1_13)) = true := by simpa using c49))
       (try (have c49b2 : (a0_12 == a1_12 && (a0_13 == a1_13)) = true := by simpa using c49))
       clear c49
       (first | rw [c49b0] | (simp only [i64_w, i32_w]; rw [c49b0]) | skip)
       replace H := Option.bind_eq_some_iff.mp H
       obtain ⟨t150, A500, H⟩ := H
       replace H : (past_pair.j2 kj29 (!t150) a0_0 a0_1 a0_2 a0_3 a0_4 a0_5 a0_6 a0_7 a0_8 a0_9 a0_10 a0_11 a0_12 a0_13 a0_14 a1_0 a1_1 a1_2 a1_3 a1_4 a1_5 a1_6 a1_7 a1_8 a1_9 a1_10 a1_11 a1_12 a1_13 a1_14 a0_11 a0_12 a0_13 a0_14 a1_11 a1_12 a1_13 a1_14) = some r := H
       have A50 := zM A500
       clear A500
       have H' := zM H
       clear H
       have hnb51 := NB148_146.out
       have hnc51 := NB146_148.out
       have hnb52 := NB148_147.out
       have hnc52 := NB147_148.out
       have hnb53 := NB148_149.out
       have hnc53 := NB149_148.out
       obtain ⟨hcz54_0, hcz54_1, hcz54_2, hcz54_3⟩ := r4_ BK148.out
       obtain ⟨hfz54_0, hfz54_1, hfz54_2, hfz54_3⟩ := f4_ BK148.out
       have hnb55 := NB149_146.out
       have hnc55 := NB146_149.out
       have hnb56 := NB149_147.out
       have hnc56 := NB147_149.out
       obtain ⟨hcz57_0, hcz57_1, hcz57_2, hcz57_3⟩ := r4_ BK149.out
       obtain ⟨hfz57_0, hfz57_1, hfz57_2, hfz57_3⟩ := f4_ BK149.out
       go_wp2_with (first | (go_at_call 41; (with_reducible refine (num_Same.calls a0_14 a1_14 t150 _ A50.out).mono ?_); rintro e w' ⟨rfl, ⟨nd, rfl⟩⟩))
       go_meet
       case rel => exact ⟨_, (!t150), (by first | rfl | (simp; done) | (simp [*]; done) | (simp; grind)), H', ⟨by have := HJ2.out; have := HJ29.out; first | omega | exact Nat.le_refl _⟩, ⟨blf_⟩, ⟨blf_⟩, ⟨blf_⟩, ⟨blf_⟩, ⟨bel_⟩⟩
      case rest =>
       clear HC41
       try clear c1
       try clear c2
       try clear p2
       try clear c3
       try clear c4
       try clear c5
       try clear c6
       try clear c18
       try clear c18b0
       try clear c18b1
       try clear c19
       try clear c20
       try clear c21
       try clear c23
       try clear c24
       try clear c26
       try clear c27
       try clear c28
       try clear c31
       try clear c32
       try clear c33
       try clear c34
       try clear c36
       try clear c37
       try clear c39
       try clear c40
       try clear c40b0
       try clear c40b1
       try clear c42
       try clear c43
       try clear c44
       try clear c46
       try clear c47
       try clear c49
       try clear c49b0
       try clear c49b1
       try clear c49b2
       try clear c51
       try clear c52
       try clear c53
       try clear c55
       try clear c56
       try clear c58
       try clear c59
       try clear c60
       try clear c62
       try clear c63
       try clear hcz22_0
       try clear hcz22_1
       try clear hcz22_10
       try clear hcz22_11
       try clear hcz22_12
       try clear hcz22_13
       try clear hcz22_14
       try clear hcz22_2
       try clear hcz22_3
       try clear hcz22_4
       try clear hcz22_5
       try clear hcz22_6
       try clear hcz22_7
       try clear hcz22_8
       try clear hcz22_9
       try clear hcz25_0
       try clear hcz25_1
       try clear hcz25_10
       try clear hcz25_11
       try clear hcz25_12
       try clear hcz25_13
       try clear hcz25_14
       try clear hcz25_2
       try clear hcz25_3
       try clear hcz25_4
       try clear hcz25_5
       try clear hcz25_6
       try clear hcz25_7
       try clear hcz25_8
       try clear hcz25_9
       try clear hcz29_0
       try clear hcz29_1
       try clear hcz29_10
       try clear hcz29_11
       try clear hcz29_12
       try clear hcz29_13
       try clear hcz29_14
       try clear hcz29_2
       try clear hcz29_3
       try clear hcz29_4
       try clear hcz29_5
       try clear hcz29_6
       try clear hcz29_7
       try clear hcz29_8
       try clear hcz29_9
       try clear hcz35_0
       try clear hcz35_1
       try clear hcz35_2
       try clear hcz35_3
       try clear hcz38_0
       try clear hcz38_1
       try clear hcz38_2
       try clear hcz38_3
       try clear hcz45_0
       try clear hcz45_1
       try clear hcz45_10
       try clear hcz45_11
       try clear hcz45_12
       try clear hcz45_13
       try clear hcz45_14
       try clear hcz45_2
       try clear hcz45_3
       try clear hcz45_4
       try clear hcz45_5
       try clear hcz45_6
       try clear hcz45_7
       try clear hcz45_8
       try clear hcz45_9
       try clear hcz48_0
       try clear hcz48_1
       try clear hcz48_10
       try clear hcz48_11
       try clear hcz48_12
       try clear hcz48_13
       try clear hcz48_14
       try clear hcz48_2
       try clear hcz48_3
       try clear hcz48_4
       try clear hcz48_5
       try clear hcz48_6
       try clear hcz48_7
       try clear hcz48_8
       try clear hcz48_9
       try clear hcz54_0
       try clear hcz54_1
       try clear hcz54_2
       try clear hcz54_3
       try clear hcz57_0
       try clear hcz57_1
       try clear hcz57_2
       try clear hcz57_3
       try clear hcz61_0
       try clear hcz61_1
       try clear hcz61_2
       try clear hcz61_3
       try clear hcz64_0
       try clear hcz64_1
       try clear hcz64_2
       try clear hcz64_3
       try clear hfz22_0
       try clear hfz22_1
       try clear hfz22_10
       try clear hfz22_11
       try clear hfz22_12
       try clear hfz22_13
       try clear hfz22_14
       try clear hfz22_2
       try clear hfz22_3
       try clear hfz22_4
       try clear hfz22_5
       try clear hfz22_6
       try clear hfz22_7
       try clear hfz22_8
       try clear hfz22_9
       try clear hfz25_0
       try clear hfz25_1
       try clear hfz25_10
       try clear hfz25_11
       try clear hfz25_12
       try clear hfz25_13
       try clear hfz25_14
       try clear hfz25_2
       try clear hfz25_3
       try clear hfz25_4
       try clear hfz25_5
       try clear hfz25_6
       try clear hfz25_7
       try clear hfz25_8
       try clear hfz25_9
       try clear hfz29_0
       try clear hfz29_1
       try clear hfz29_10
       try clear hfz29_11
       try clear hfz29_12
       try clear hfz29_13
       try clear hfz29_14
       try clear hfz29_2
       try clear hfz29_3
       try clear hfz29_4
       try clear hfz29_5
       try clear hfz29_6
       try clear hfz29_7
       try clear hfz29_8
       try clear hfz29_9
       try clear hfz35_0
       try clear hfz35_1
       try clear hfz35_2
       try clear hfz35_3
       try clear hfz38_0
       try clear hfz38_1
       try clear hfz38_2
       try clear hfz38_3
       try clear hfz45_0
       try clear hfz45_1
       try clear hfz45_10
       try clear hfz45_11
       try clear hfz45_12
       try clear hfz45_13
       try clear hfz45_14
       try clear hfz45_2
       try clear hfz45_3
       try clear hfz45_4
       try clear hfz45_5
       try clear hfz45_6
       try clear hfz45_7
       try clear hfz45_8
       try clear hfz45_9
       try clear hfz48_0
       try clear hfz48_1
       try clear hfz48_10
       try clear hfz48_11
       try clear hfz48_12
       try clear hfz48_13
       try clear hfz48_14
       try clear hfz48_2
       try clear hfz48_3
       try clear hfz48_4
       try clear hfz48_5
       try clear hfz48_6
       try clear hfz48_7
       try clear hfz48_8
       try clear hfz48_9
       try clear hfz54_0
       try clear hfz54_1
       try clear hfz54_2
       try clear hfz54_3
       try clear hfz57_0
       try clear hfz57_1
       try clear hfz57_2
       try clear hfz57_3
       try clear hfz61_0
       try clear hfz61_1
       try clear hfz61_2
       try clear hfz61_3
       try clear hfz64_0
       try clear hfz64_1
       try clear hfz64_2
       try clear hfz64_3
       try clear p2
       obtain ⟨kq, x41_40, rfl, HA, HJ40, BK146, BK147, BK148, BK149, HB⟩ := hcut
       cases kq with
       | zero => exact absurd HA.out (by simp [past_pair.j2])
       | succ kj40 =>
        have H := HA.out
        clear HA
        simp only [past_pair.j2] at H
        by_cases c65 : x41_40 = true
        · subst c65
          have H1 : (some false) = some r := by rw [if_pos rfl] at H; exact H
          clear H
          have H := H1
          clear H1
          obtain rfl := Option.some.inj H
          go_wp2
          go_ret
          exact ⟨by first | rfl | (simp [errW_none, errW_some] <;> rfl) | (simp [*, errW_none, errW_some] <;> rfl), bel_⟩
        replace c65 := Bool.eq_false_iff.mpr c65
        subst c65
        have H1 : ((past_Before.f a0_0 a0_1 a0_2 a0_3 a0_4 a0_5 a0_6 a0_7 a0_8 a0_9 a0_10 a0_11 a0_12 a0_13 a0_14 a1_0 a1_1 a1_2 a1_3 a1_4 a1_5 a1_6 a1_7 a1_8 a1_9 a1_10 a1_11 a1_12 a1_13 a1_14).bind fun t151 => (if t151 = true then ((tag_Less.f kj40 a0_12 a0_13 a1_12 a1_13).bind fun t152 => (if t152 = true then (some true) else (if (a0_12 == a1_12 && (a0_13 == a1_13)) = true then (some (a1_3 != 1)) else (some false)))) else (some true))) = some r := by rw [if_neg (show ¬ (false = true) by decide)] at H; exact H
        clear H
        have H := H1
        clear H1
        replace H := Option.bind_eq_some_iff.mp H
        obtain ⟨t151, A660, H⟩ := H
        replace H : (if t151 = true then ((tag_Less.f kj40 a0_12 a0_13 a1_12 a1_13).bind fun t152 => (if t152 = true then (some true) else (if (a0_12 == a1_12 && (a0_13 == a1_13)) = true then (some (a1_3 != 1)) else (some false)))) else (some true)) = some r := H
        have A66 := zM A660
        clear A660
        by_cases c67 : t151 = true
        rotate_left
        · replace c67 := Bool.eq_false_iff.mpr c67
          subst c67
          have H1 : (some true) = some r := by rw [if_neg (show ¬ (false = true) by decide)] at H; exact H
          clear H
          have H := H1
          clear H1
          obtain rfl := Option.some.inj H
          have hnb112 := NB146_147.out
          have hnc112 := NB147_146.out
          have hnb113 := NB146_148.out
          have hnc113 := NB148_146.out
          have hnb114 := NB146_149.out
          have hnc114 := NB149_146.out
          obtain ⟨hcz115_0, hcz115_1, hcz115_2, hcz115_3, hcz115_4, hcz115_5, hcz115_6, hcz115_7, hcz115_8, hcz115_9, hcz115_10, hcz115_11, hcz115_12, hcz115_13, hcz115_14⟩ := r15_ BK146.out
          obtain ⟨hfz115_0, hfz115_1, hfz115_2, hfz115_3, hfz115_4, hfz115_5, hfz115_6, hfz115_7, hfz115_8, hfz115_9, hfz115_10, hfz115_11, hfz115_12, hfz115_13, hfz115_14⟩ := f15_ BK146.out
          have hnb116 := NB147_148.out
          have hnc116 := NB148_147.out
          have hnb117 := NB147_149.out
          have hnc117 := NB149_147.out
          obtain ⟨hcz118_0, hcz118_1, hcz118_2, hcz118_3, hcz118_4, hcz118_5, hcz118_6, hcz118_7, hcz118_8, hcz118_9, hcz118_10, hcz118_11, hcz118_12, hcz118_13, hcz118_14⟩ := r15_ BK147.out
          obtain ⟨hfz118_0, hfz118_1, hfz118_2, hfz118_3, hfz118_4, hfz118_5, hfz118_6, hfz118_7, hfz118_8, hfz118_9, hfz118_10, hfz118_11, hfz118_12, hfz118_13, hfz118_14⟩ := f15_ BK147.out
          go_wp2_with (first | ((with_reducible refine gld_ (t := 35) ?_); (try (refine gate_guard (by rfl) ?_; dsimp only)); first | refine wl15_ rfl 35 _ rfl rfl Try.underlying35 rfl (by kernel_rfl) ?_ | refine wlr15_ rfl 35 _ rfl rfl Try.underlying35 rfl (by kernel_rfl) ?_) | ((with_reducible refine gst_ (t := 35) ?_); refine ws15_ rfl 35 _ _ rfl rfl rfl (by kernel_rfl) ?_) | ((with_reducible refine gate_callee (f := 12) rfl ?_); refine goL_ (some 58) Try.func12 #[.agg #[.int .i64 a0_0, .int .i64 a0_1, .int .i64 a0_2, .int .i64 a0_3, .int .i64 a0_4, .float .f64 a0_5, .int .i64 a0_6, .int .i64 a0_7, .int .i64 a0_8, .int .i64 a0_9, .int .i64 a0_10, .int .i64 a0_11, .int .i64 a0_12, .int .i64 a0_13, .float .f64 a0_14], .agg #[.int .i64 a1_0, .int .i64 a1_1, .int .i64 a1_2, .int .i64 a1_3, .int .i64 a1_4, .float .f64 a1_5, .int .i64 a1_6, .int .i64 a1_7, .int .i64 a1_8, .int .i64 a1_9, .int .i64 a1_10, .int .i64 a1_11, .int .i64 a1_12, .int .i64 a1_13, .float .f64 a1_14]] ?_; (with_reducible refine (past_Before.calls a0_0 a0_1 a0_2 a0_3 a0_4 a0_5 a0_6 a0_7 a0_8 a0_9 a0_10 a0_11 a0_12 a0_13 a0_14 a1_0 a1_1 a1_2 a1_3 a1_4 a1_5 a1_6 a1_7 a1_8 a1_9 a1_10 a1_11 a1_12 a1_13 a1_14 false _ A66.out).mono ?_); rintro e w119 ⟨rfl, hb⟩; refine ⟨_, rfl, ?_⟩; replace BK146 := zM (bb_ BK146 hb); replace BK147 := zM (bb_ BK147 hb); replace BK148 := zM (bb_ BK148 hb); replace BK149 := zM (bb_ BK149 hb); replace HB := zM (zB bel_ hb); (try clear hb); (try clear hb2); (try clear hk); (try clear hi)))
          go_ret
          exact ⟨by first | rfl | (simp [errW_none, errW_some] <;> rfl) | (simp [*, errW_none, errW_some] <;> rfl), bel_⟩
        subst c67
        have H1 : ((tag_Less.f kj40 a0_12 a0_13 a1_12 a1_13).bind fun t152 => (if t152 = true then (some true) else (if (a0_12 == a1_12 && (a0_13 == a1_13)) = true then (some (a1_3 != 1)) else (some false)))) = some r := by rw [if_pos rfl] at H; exact H
        clear H
        have H := H1
        clear H1
        replace H := Option.bind_eq_some_iff.mp H
        obtain ⟨t152, A680, H⟩ := H
        replace H : (if t152 = true then (some true) else (if (a0_12 == a1_12 && (a0_13 == a1_13)) = true then (some (a1_3 != 1)) else (some false))) = some r := H
        have A68 := zM A680
        clear A680
        by_cases c69 : t152 = true
        · subst c69
          have H1 : (some true) = some r := by rw [if_pos rfl] at H; exact H
          clear H
          have H := H1
          clear H1
          obtain rfl := Option.some.inj H
          have hnb70 := NB146_147.out
          have hnc70 := NB147_146.out
          have hnb71 := NB146_148.out
          have hnc71 := NB148_146.out
          have hnb72 := NB146_149.out
          have hnc72 := NB149_146.out
          obtain ⟨hcz73_0, hcz73_1, hcz73_2, hcz73_3, hcz73_4, hcz73_5, hcz73_6, hcz73_7, hcz73_8, hcz73_9, hcz73_10, hcz73_11, hcz73_12, hcz73_13, hcz73_14⟩ := r15_ BK146.out
          obtain ⟨hfz73_0, hfz73_1, hfz73_2, hfz73_3, hfz73_4, hfz73_5, hfz73_6, hfz73_7, hfz73_8, hfz73_9, hfz73_10, hfz73_11, hfz73_12, hfz73_13, hfz73_14⟩ := f15_ BK146.out
          have hnb74 := NB147_148.out
          have hnc74 := NB148_147.out
          have hnb75 := NB147_149.out
          have hnc75 := NB149_147.out
          obtain ⟨hcz76_0, hcz76_1, hcz76_2, hcz76_3, hcz76_4, hcz76_5, hcz76_6, hcz76_7, hcz76_8, hcz76_9, hcz76_10, hcz76_11, hcz76_12, hcz76_13, hcz76_14⟩ := r15_ BK147.out
          obtain ⟨hfz76_0, hfz76_1, hfz76_2, hfz76_3, hfz76_4, hfz76_5, hfz76_6, hfz76_7, hfz76_8, hfz76_9, hfz76_10, hfz76_11, hfz76_12, hfz76_13, hfz76_14⟩ := f15_ BK147.out
          go_wp2_with (first | ((with_reducible refine gld_ (t := 35) ?_); (try (refine gate_guard (by rfl) ?_; dsimp only)); first | refine wl15_ rfl 35 _ rfl rfl Try.underlying35 rfl (by kernel_rfl) ?_ | refine wlr15_ rfl 35 _ rfl rfl Try.underlying35 rfl (by kernel_rfl) ?_) | ((with_reducible refine gst_ (t := 35) ?_); refine ws15_ rfl 35 _ _ rfl rfl rfl (by kernel_rfl) ?_) | ((with_reducible refine gate_callee (f := 12) rfl ?_); refine goL_ (some 58) Try.func12 #[.agg #[.int .i64 a0_0, .int .i64 a0_1, .int .i64 a0_2, .int .i64 a0_3, .int .i64 a0_4, .float .f64 a0_5, .int .i64 a0_6, .int .i64 a0_7, .int .i64 a0_8, .int .i64 a0_9, .int .i64 a0_10, .int .i64 a0_11, .int .i64 a0_12, .int .i64 a0_13, .float .f64 a0_14], .agg #[.int .i64 a1_0, .int .i64 a1_1, .int .i64 a1_2, .int .i64 a1_3, .int .i64 a1_4, .float .f64 a1_5, .int .i64 a1_6, .int .i64 a1_7, .int .i64 a1_8, .int .i64 a1_9, .int .i64 a1_10, .int .i64 a1_11, .int .i64 a1_12, .int .i64 a1_13, .float .f64 a1_14]] ?_; (with_reducible refine (past_Before.calls a0_0 a0_1 a0_2 a0_3 a0_4 a0_5 a0_6 a0_7 a0_8 a0_9 a0_10 a0_11 a0_12 a0_13 a0_14 a1_0 a1_1 a1_2 a1_3 a1_4 a1_5 a1_6 a1_7 a1_8 a1_9 a1_10 a1_11 a1_12 a1_13 a1_14 true _ A66.out).mono ?_); rintro e w77 ⟨rfl, hb⟩; refine ⟨_, rfl, ?_⟩; replace BK146 := zM (bb_ BK146 hb); replace BK147 := zM (bb_ BK147 hb); replace BK148 := zM (bb_ BK148 hb); replace BK149 := zM (bb_ BK149 hb); replace HB := zM (zB bel_ hb); (try clear hb); (try clear hb2); (try clear hk); (try clear hi); have hnb78 := NB148_149.out; have hnc78 := NB149_148.out; obtain ⟨hcz79_0, hcz79_1, hcz79_2, hcz79_3⟩ := r4_ BK148.out; obtain ⟨hfz79_0, hfz79_1, hfz79_2, hfz79_3⟩ := f4_ BK148.out; obtain ⟨hcz80_0, hcz80_1, hcz80_2, hcz80_3⟩ := r4_ BK149.out; obtain ⟨hfz80_0, hfz80_1, hfz80_2, hfz80_3⟩ := f4_ BK149.out) | ((with_reducible refine gate_callee (f := 43) rfl ?_); refine goL_ (some 64) Try.func43 #[.agg #[.int .i64 a0_12, .int .i64 a0_13], .agg #[.int .i64 a1_12, .int .i64 a1_13]] ?_; (with_reducible refine (tag_Less.calls kj40 a0_12 a0_13 a1_12 a1_13 true _ A68.out).mono ?_); rintro e w81 ⟨rfl, hb⟩; refine ⟨_, rfl, ?_⟩; replace BK146 := zM (bb_ BK146 hb); replace BK147 := zM (bb_ BK147 hb); replace BK148 := zM (bb_ BK148 hb); replace BK149 := zM (bb_ BK149 hb); replace HB := zM (zB bel_ hb); (try clear hb); (try clear hb2); (try clear hk); (try clear hi)))
          go_ret
          exact ⟨by first | rfl | (simp [errW_none, errW_some] <;> rfl) | (simp [*, errW_none, errW_some] <;> rfl), bel_⟩
        replace c69 := Bool.eq_false_iff.mpr c69
        subst c69
        have H1 : (if (a0_12 == a1_12 && (a0_13 == a1_13)) = true then (some (a1_3 != 1)) else (some false)) = some r := by rw [if_neg (show ¬ (false = true) by decide)] at H; exact H
        clear H
        have H := H1
        clear H1
        by_cases c82 : (a0_12 == a1_12 && (a0_13 == a1_13)) = true
        rotate_left
        · rw [if_neg c82] at H
          have c82b0 : (a0_12 == a1_12 && (a0_13 == a1_13)) = false := by simpa using c82
          (try (have c82b1 : decide (a0_12 = a1_12 && (a0_13 == a1_13)) = false := by simpa using c82))
          (try (have c82b2 : (a0_12 == a1_12 && (a0_13 == a1_13)) = false := by simpa using c82))
          (try (have c82b3 : ¬ (a0_12 = a1_12 && (a0_13 == a1_13)) := by simpa using c82))
          clear c82
          obtain rfl := Option.some.inj H
          have hnb98 := NB146_147.out
          have hnc98 := NB147_146.out
          have hnb99 := NB146_148.out
          have hnc99 := NB148_146.out
          have hnb100 := NB146_149.out
          have hnc100 := NB149_146.out
          obtain ⟨hcz101_0, hcz101_1, hcz101_2, hcz101_3, hcz101_4, hcz101_5, hcz101_6, hcz101_7, hcz101_8, hcz101_9, hcz101_10, hcz101_11, hcz101_12, hcz101_13, hcz101_14⟩ := r15_ BK146.out
          obtain ⟨hfz101_0, hfz101_1, hfz101_2, hfz101_3, hfz101_4, hfz101_5, hfz101_6, hfz101_7, hfz101_8, hfz101_9, hfz101_10, hfz101_11, hfz101_12, hfz101_13, hfz101_14⟩ := f15_ BK146.out
          have hnb102 := NB147_148.out
          have hnc102 := NB148_147.out
          have hnb103 := NB147_149.out
          have hnc103 := NB149_147.out
          obtain ⟨hcz104_0, hcz104_1, hcz104_2, hcz104_3, hcz104_4, hcz104_5, hcz104_6, hcz104_7, hcz104_8, hcz104_9, hcz104_10, hcz104_11, hcz104_12, hcz104_13, hcz104_14⟩ := r15_ BK147.out
          obtain ⟨hfz104_0, hfz104_1, hfz104_2, hfz104_3, hfz104_4, hfz104_5, hfz104_6, hfz104_7, hfz104_8, hfz104_9, hfz104_10, hfz104_11, hfz104_12, hfz104_13, hfz104_14⟩ := f15_ BK147.out
          go_wp2_with (first | ((with_reducible refine gld_ (t := 35) ?_); (try (refine gate_guard (by rfl) ?_; dsimp only)); first | refine wl15_ rfl 35 _ rfl rfl Try.underlying35 rfl (by kernel_rfl) ?_ | refine wlr15_ rfl 35 _ rfl rfl Try.underlying35 rfl (by kernel_rfl) ?_) | ((with_reducible refine gst_ (t := 35) ?_); refine ws15_ rfl 35 _ _ rfl rfl rfl (by kernel_rfl) ?_) | ((with_reducible refine gate_callee (f := 12) rfl ?_); refine goL_ (some 58) Try.func12 #[.agg #[.int .i64 a0_0, .int .i64 a0_1, .int .i64 a0_2, .int .i64 a0_3, .int .i64 a0_4, .float .f64 a0_5, .int .i64 a0_6, .int .i64 a0_7, .int .i64 a0_8, .int .i64 a0_9, .int .i64 a0_10, .int .i64 a0_11, .int .i64 a0_12, .int .i64 a0_13, .float .f64 a0_14], .agg #[.int .i64 a1_0, .int .i64 a1_1, .int .i64 a1_2, .int .i64 a1_3, .int .i64 a1_4, .float .f64 a1_5, .int .i64 a1_6, .int .i64 a1_7, .int .i64 a1_8, .int .i64 a1_9, .int .i64 a1_10, .int .i64 a1_11, .int .i64 a1_12, .int .i64 a1_13, .float .f64 a1_14]] ?_; (with_reducible refine (past_Before.calls a0_0 a0_1 a0_2 a0_3 a0_4 a0_5 a0_6 a0_7 a0_8 a0_9 a0_10 a0_11 a0_12 a0_13 a0_14 a1_0 a1_1 a1_2 a1_3 a1_4 a1_5 a1_6 a1_7 a1_8 a1_9 a1_10 a1_11 a1_12 a1_13 a1_14 true _ A66.out).mono ?_); rintro e w105 ⟨rfl, hb⟩; refine ⟨_, rfl, ?_⟩; replace BK146 := zM (bb_ BK146 hb); replace BK147 := zM (bb_ BK147 hb); replace BK148 := zM (bb_ BK148 hb); replace BK149 := zM (bb_ BK149 hb); replace HB := zM (zB bel_ hb); (try clear hb); (try clear hb2); (try clear hk); (try clear hi); have hnb106 := NB148_149.out; have hnc106 := NB149_148.out; obtain ⟨hcz107_0, hcz107_1, hcz107_2, hcz107_3⟩ := r4_ BK148.out; obtain ⟨hfz107_0, hfz107_1, hfz107_2, hfz107_3⟩ := f4_ BK148.out; obtain ⟨hcz108_0, hcz108_1, hcz108_2, hcz108_3⟩ := r4_ BK149.out; obtain ⟨hfz108_0, hfz108_1, hfz108_2, hfz108_3⟩ := f4_ BK149.out) | ((with_reducible refine gate_callee (f := 43) rfl ?_); refine goL_ (some 64) Try.func43 #[.agg #[.int .i64 a0_12, .int .i64 a0_13], .agg #[.int .i64 a1_12, .int .i64 a1_13]] ?_; (with_reducible refine (tag_Less.calls kj40 a0_12 a0_13 a1_12 a1_13 false _ A68.out).mono ?_); rintro e w109 ⟨rfl, hb⟩; refine ⟨_, rfl, ?_⟩; replace BK146 := zM (bb_ BK146 hb); replace BK147 := zM (bb_ BK147 hb); replace BK148 := zM (bb_ BK148 hb); replace BK149 := zM (bb_ BK149 hb); replace HB := zM (zB bel_ hb); (try clear hb); (try clear hb2); (try clear hk); (try clear hi); obtain ⟨hcz110_0, hcz110_1, hcz110_2, hcz110_3⟩ := r4_ BK148.out; obtain ⟨hfz110_0, hfz110_1, hfz110_2, hfz110_3⟩ := f4_ BK148.out; obtain ⟨hcz111_0, hcz111_1, hcz111_2, hcz111_3⟩ := r4_ BK149.out; obtain ⟨hfz111_0, hfz111_1, hfz111_2, hfz111_3⟩ := f4_ BK149.out))
          go_ret
          exact ⟨by first | rfl | (simp [errW_none, errW_some] <;> rfl) | (simp [*, errW_none, errW_some] <;> rfl), bel_⟩
        rw [if_pos c82] at H
        have c82b0 : (a0_12 == a1_12 && (a0_13 == a1_13)) = true := c82
        (try (have c82b1 : decide (a0_12 = a1_12 && (a0_13 == a1_13)) = true := by simpa using c82))
        (try (have c82b2 : (a0_12 == a1_12 && (a0_13 == a1_13)) = true := by simpa using c82))
        clear c82
        obtain rfl := Option.some.inj H
        have hnb83 := NB146_147.out
        have hnc83 := NB147_146.out
        have hnb84 := NB146_148.out
        have hnc84 := NB148_146.out
        have hnb85 := NB146_149.out
        have hnc85 := NB149_146.out
        obtain ⟨hcz86_0, hcz86_1, hcz86_2, hcz86_3, hcz86_4, hcz86_5, hcz86_6, hcz86_7, hcz86_8, hcz86_9, hcz86_10, hcz86_11, hcz86_12, hcz86_13, hcz86_14⟩ := r15_ BK146.out
        obtain ⟨hfz86_0, hfz86_1, hfz86_2, hfz86_3, hfz86_4, hfz86_5, hfz86_6, hfz86_7, hfz86_8, hfz86_9, hfz86_10, hfz86_11, hfz86_12, hfz86_13, hfz86_14⟩ := f15_ BK146.out
        have hnb87 := NB147_148.out
        have hnc87 := NB148_147.out
        have hnb88 := NB147_149.out
        have hnc88 := NB149_147.out
        obtain ⟨hcz89_0, hcz89_1, hcz89_2, hcz89_3, hcz89_4, hcz89_5, hcz89_6, hcz89_7, hcz89_8, hcz89_9, hcz89_10, hcz89_11, hcz89_12, hcz89_13, hcz89_14⟩ := r15_ BK147.out
        obtain ⟨hfz89_0, hfz89_1, hfz89_2, hfz89_3, hfz89_4, hfz89_5, hfz89_6, hfz89_7, hfz89_8, hfz89_9, hfz89_10, hfz89_11, hfz89_12, hfz89_13, hfz89_14⟩ := f15_ BK147.out
        go_wp2_with (first | ((with_reducible refine gld_ (t := 35) ?_); (try (refine gate_guard (by rfl) ?_; dsimp only)); first | refine wl15_ rfl 35 _ rfl rfl Try.underlying35 rfl (by kernel_rfl) ?_ | refine wlr15_ rfl 35 _ rfl rfl Try.underlying35 rfl (by kernel_rfl) ?_) | ((with_reducible refine gst_ (t := 35) ?_); refine ws15_ rfl 35 _ _ rfl rfl rfl (by kernel_rfl) ?_) | ((with_reducible refine gate_callee (f := 12) rfl ?_); refine goL_ (some 58) Try.func12 #[.agg #[.int .i64 a0_0, .int .i64 a0_1, .int .i64 a0_2, .int .i64 a0_3, .int .i64 a0_4, .float .f64 a0_5, .int .i64 a0_6, .int .i64 a0_7, .int .i64 a0_8, .int .i64 a0_9, .int .i64 a0_10, .int .i64 a0_11, .int .i64 a0_12, .int .i64 a0_13, .float .f64 a0_14], .agg #[.int .i64 a1_0, .int .i64 a1_1, .int .i64 a1_2, .int .i64 a1_3, .int .i64 a1_4, .float .f64 a1_5, .int .i64 a1_6, .int .i64 a1_7, .int .i64 a1_8, .int .i64 a1_9, .int .i64 a1_10, .int .i64 a1_11, .int .i64 a1_12, .int .i64 a1_13, .float .f64 a1_14]] ?_; (with_reducible refine (past_Before.calls a0_0 a0_1 a0_2 a0_3 a0_4 a0_5 a0_6 a0_7 a0_8 a0_9 a0_10 a0_11 a0_12 a0_13 a0_14 a1_0 a1_1 a1_2 a1_3 a1_4 a1_5 a1_6 a1_7 a1_8 a1_9 a1_10 a1_11 a1_12 a1_13 a1_14 true _ A66.out).mono ?_); rintro e w90 ⟨rfl, hb⟩; refine ⟨_, rfl, ?_⟩; replace BK146 := zM (bb_ BK146 hb); replace BK147 := zM (bb_ BK147 hb); replace BK148 := zM (bb_ BK148 hb); replace BK149 := zM (bb_ BK149 hb); replace HB := zM (zB bel_ hb); (try clear hb); (try clear hb2); (try clear hk); (try clear hi); have hnb91 := NB148_149.out; have hnc91 := NB149_148.out; obtain ⟨hcz92_0, hcz92_1, hcz92_2, hcz92_3⟩ := r4_ BK148.out; obtain ⟨hfz92_0, hfz92_1, hfz92_2, hfz92_3⟩ := f4_ BK148.out; obtain ⟨hcz93_0, hcz93_1, hcz93_2, hcz93_3⟩ := r4_ BK149.out; obtain ⟨hfz93_0, hfz93_1, hfz93_2, hfz93_3⟩ := f4_ BK149.out) | ((with_reducible refine gate_callee (f := 43) rfl ?_); refine goL_ (some 64) Try.func43 #[.agg #[.int .i64 a0_12, .int .i64 a0_13], .agg #[.int .i64 a1_12, .int .i64 a1_13]] ?_; (with_reducible refine (tag_Less.calls kj40 a0_12 a0_13 a1_12 a1_13 false _ A68.out).mono ?_); rintro e w94 ⟨rfl, hb⟩; refine ⟨_, rfl, ?_⟩; replace BK146 := zM (bb_ BK146 hb); replace BK147 := zM (bb_ BK147 hb); replace BK148 := zM (bb_ BK148 hb); replace BK149 := zM (bb_ BK149 hb); replace HB := zM (zB bel_ hb); (try clear hb); (try clear hb2); (try clear hk); (try clear hi); obtain ⟨hcz95_0, hcz95_1, hcz95_2, hcz95_3⟩ := r4_ BK148.out; obtain ⟨hfz95_0, hfz95_1, hfz95_2, hfz95_3⟩ := f4_ BK148.out; obtain ⟨hcz96_0, hcz96_1, hcz96_2, hcz96_3⟩ := r4_ BK149.out; obtain ⟨hfz96_0, hfz96_1, hfz96_2, hfz96_3⟩ := f4_ BK149.out; obtain ⟨hcz97_0, hcz97_1, hcz97_2, hcz97_3, hcz97_4, hcz97_5, hcz97_6, hcz97_7, hcz97_8, hcz97_9, hcz97_10, hcz97_11, hcz97_12, hcz97_13, hcz97_14⟩ := r15_ BK147.out; obtain ⟨hfz97_0, hfz97_1, hfz97_2, hfz97_3, hfz97_4, hfz97_5, hfz97_6, hfz97_7, hfz97_8, hfz97_9, hfz97_10, hfz97_11, hfz97_12, hfz97_13, hfz97_14⟩ := f15_ BK147.out))
        go_ret
        exact ⟨by first | rfl | (simp [errW_none, errW_some] <;> rfl) | (simp [*, errW_none, errW_some] <;> rfl), bel_⟩
end Go.Proofs.Ytmenkbdaabjojaa.PPastSources
