/- Written by a program of this session (wip/tool/px.py) over the kit's print: what the code that the law RoundAlone reaches computes, function by function, and the law's row. -/
import Derived.Test.YtmgiaappokkjfaaPRoundAlonex0
import Derived.Test.YtmgiaappokkjfaaPRoundAlonex4
import Derived.Test.YtmgiaappokkjfaaPRoundAlonex8
import Derived.Test.YtmgiaappokkjfaaPRoundAlonex9
import Derived.Test.YtmgiaappokkjfaaPRoundAlonex10
import Derived.Test.YtmgiaappokkjfaaPRoundAlonex12
import Derived.Test.YtmgiaappokkjfaaPRoundAlonex13
import Derived.Test.YtmgiaappokkjfaaPRoundAlonex18
namespace Go.Proofs.Ytmgiaappokkjfaa.PRoundAlone
open Go.RowKit Go.Proofs.YtmgiaappokkjfaaX Go.Proofs.YtmgiaappokkjfaaW.PrintWords Go.Proofs.YtmgiaappokkjfaaW.PrintLast Go.Proofs.YtmgiaappokkjfaaW.PrintMore
open List renaming setIfInBounds_toArray → zS, set_cons_zero → zZ, set_cons_succ → zC
open Go.Proofs.YtmgiaappokkjfaaW.PrintWords renaming blk_drewN → zN, blk_drew → zD, blk_alloc → zA, blk_cell → zL, blk_frozen → zF, below_step → zB
open Go.Proofs.YtmgiaappokkjfaaW.PrintWords.Aside0 renaming mk → zM
attribute [local go_sem] max2_int min2_int max_two min_two max_three min_three max_four min_four   -- for this text's walks alone
set_option linter.unusedVariables false
set_option linter.unusedSimpArgs false

attribute [local go_sem] px_store_float px_neg_float px_call84
attribute [local go_sem] px_eqarr67 px_nilq24 px_nilq25
/-! ### ropewaylaw14_RoundAlone: function 6 -/
mutual
def ropewaylaw14_RoundAlone.j0 : Nat → Int → Bool → Int → Int → Int → Int → Int → Int → Int → List (S43) → List (S48) → Int → Int → Int → Int → Int → Int → Int → List (S43) → List (S48) → Option (Bool)
  | 0, _, _, _, _, _, _, _, _, _, _, _, _, _, _, _, _, _, _, _, _ => none
  | k + 1, x1, x27, x419000, x419001, x419002, x419003, x419004, x419005, x419006, x419007, x419008, x420000, x420001, x420002, x420003, x420004, x420005, x420006, x420007, x420008 => if x27 = true then (some true) else (if 0 ≤ x1 then ((msg_Copy.f x419000 x419001 x419002 x419003 x419004 (shl .i64 1 x1) 0 x419007 x419008).bind fun bt424 => ((round_Round_Done.f k bt424.1 bt424.2.1 bt424.2.2.1 bt424.2.2.2.1 bt424.2.2.2.2.1 bt424.2.2.2.2.2.1 bt424.2.2.2.2.2.2.1 bt424.2.2.2.2.2.2.2.1 bt424.2.2.2.2.2.2.2.2 false false false false false false ([] : List (S43)) ([] : List (S48))).bind fun t438 => (if t438 = true then (ropewaylaw14_RoundAlone.j1 k x1 true x420000 x420001 x420002 x420003 x420004 x420005 x420006 x420007 x420008 bt424.1 bt424.2.1 bt424.2.2.1 bt424.2.2.2.1 bt424.2.2.2.2.1 bt424.2.2.2.2.2.1 bt424.2.2.2.2.2.2.1 bt424.2.2.2.2.2.2.2.1 bt424.2.2.2.2.2.2.2.2 false false false false false false) else ((round_Round_Asks.f k bt424.1 bt424.2.1 bt424.2.2.1 bt424.2.2.2.1 bt424.2.2.2.2.1 bt424.2.2.2.2.2.1 bt424.2.2.2.2.2.2.1 bt424.2.2.2.2.2.2.2.1 bt424.2.2.2.2.2.2.2.2 false false false false false false ([] : List (S43)) ([] : List (S48))).bind fun t439 => (if (t439.length : Int) = 1 then ((round_Round_Asks.f k bt424.1 bt424.2.1 bt424.2.2.1 bt424.2.2.2.1 bt424.2.2.2.2.1 bt424.2.2.2.2.2.1 bt424.2.2.2.2.2.2.1 bt424.2.2.2.2.2.2.2.1 bt424.2.2.2.2.2.2.2.2 false false false false false false ([] : List (S43)) ([] : List (S48))).bind fun t442 => (if 0 < (t442.length : Int) then (ropewaylaw14_RoundAlone.j1 k x1 (((rd_T27 t442 0).f2) != x1) x420000 x420001 x420002 x420003 x420004 x420005 x420006 x420007 x420008 bt424.1 bt424.2.1 bt424.2.2.1 bt424.2.2.2.1 bt424.2.2.2.2.1 bt424.2.2.2.2.2.1 bt424.2.2.2.2.2.2.1 bt424.2.2.2.2.2.2.2.1 bt424.2.2.2.2.2.2.2.2 false false false false false false) else (none))) else (ropewaylaw14_RoundAlone.j1 k x1 true x420000 x420001 x420002 x420003 x420004 x420005 x420006 x420007 x420008 bt424.1 bt424.2.1 bt424.2.2.1 bt424.2.2.2.1 bt424.2.2.2.2.1 bt424.2.2.2.2.2.1 bt424.2.2.2.2.2.2.1 bt424.2.2.2.2.2.2.2.1 bt424.2.2.2.2.2.2.2.2 false false false false false false)))))) else (none))
def ropewaylaw14_RoundAlone.j1 : Nat → Int → Bool → Int → Int → Int → Int → Int → Int → Int → List (S43) → List (S48) → Int → Int → Int → Int → Int → Int → Int → List (S43) → List (S48) → Bool → Bool → Bool → Bool → Bool → Bool → Option (Bool)
  | 0, _, _, _, _, _, _, _, _, _, _, _, _, _, _, _, _, _, _, _, _, _, _, _, _, _, _ => none
  | k + 1, x1, x50, x420000, x420001, x420002, x420003, x420004, x420005, x420006, x420007, x420008, x438000, x438001, x438002, x438003, x438004, x438005, x438006, x438007, x438008, x438009, x438010, x438011, x438012, x438013, x438014 => if x50 = true then (some false) else ((view_In.f x438005 x438006 x420001).bind fun t447 => (if t447 = true then (if 0 ≤ x420001 then (if x420001 < 6 then (if rdOf false [x438009, x438010, x438011, x438012, x438013, x438014] x420001 = true then (ropewaylaw14_RoundAlone.j2 k x1 false x420000 x420001 x420002 x420003 x420004 x420005 x420006 x420007 x420008 x438000 x438001 x438002 x438003 x438004 x438005 x438006 x438007 x438008 x438009 x438010 x438011 x438012 x438013 x438014 ([] : List (S43)) ([] : List (S48))) else ((round_Round_to.f x438000 x438001 x438002 x438003 x438004 x438005 x438006 x438007 x438008 x438009 x438010 x438011 x438012 x438013 x438014 ([] : List (S43)) ([] : List (S48)) x420001).bind fun bt448 => ((msg_Answers.f bt448.1 bt448.2.1 bt448.2.2.1 bt448.2.2.2.1 bt448.2.2.2.2.1 bt448.2.2.2.2.2.1 bt448.2.2.2.2.2.2.1 bt448.2.2.2.2.2.2.2.1 bt448.2.2.2.2.2.2.2.2 x420000 x420001 x420002 x420003 x420004 x420005 x420006 x420007 x420008).bind fun t461 => (if t461 = true then ((cells_Merge.f k ([] : List (S43)) x420007).bind fun t462 => ((book_Merge.f k ([] : List (S48)) x420008).bind fun t465 => (ropewaylaw14_RoundAlone.j2 k x1 true x420000 x420001 x420002 x420003 x420004 x420005 x420006 x420007 x420008 x438000 x438001 x438002 x438003 x438004 x438005 x438006 x438007 x438008 (stA x420001 0 true x438009) (stA x420001 1 true x438010) (stA x420001 2 true x438011) (stA x420001 3 true x438012) (stA x420001 4 true x438013) (stA x420001 5 true x438014) t462 t465))) else (ropewaylaw14_RoundAlone.j2 k x1 false x420000 x420001 x420002 x420003 x420004 x420005 x420006 x420007 x420008 x438000 x438001 x438002 x438003 x438004 x438005 x438006 x438007 x438008 x438009 x438010 x438011 x438012 x438013 x438014 ([] : List (S43)) ([] : List (S48))))))) else (none)) else (none)) else (ropewaylaw14_RoundAlone.j2 k x1 false x420000 x420001 x420002 x420003 x420004 x420005 x420006 x420007 x420008 x438000 x438001 x438002 x438003 x438004 x438005 x438006 x438007 x438008 x438009 x438010 x438011 x438012 x438013 x438014 ([] : List (S43)) ([] : List (S48)))))
def ropewaylaw14_RoundAlone.j2 : Nat → Int → Bool → Int → Int → Int → Int → Int → Int → Int → List (S43) → List (S48) → Int → Int → Int → Int → Int → Int → Int → List (S43) → List (S48) → Bool → Bool → Bool → Bool → Bool → Bool → List (S43) → List (S48) → Option (Bool)
  | 0, _, _, _, _, _, _, _, _, _, _, _, _, _, _, _, _, _, _, _, _, _, _, _, _, _, _, _, _ => none
  | k + 1, x1, x8, x420000, x420001, x420002, x420003, x420004, x420005, x420006, x420007, x420008, x438000, x438001, x438002, x438003, x438004, x438005, x438006, x438007, x438008, x438009, x438010, x438011, x438012, x438013, x438014, x438015, x438016 => if x8 = true then (if x420001 = x1 then ((round_Round_Done.f k x438000 x438001 x438002 x438003 x438004 x438005 x438006 x438007 x438008 x438009 x438010 x438011 x438012 x438013 x438014 x438015 x438016).bind fun t475 => (if t475 = true then ((round_Round_Asks.f k x438000 x438001 x438002 x438003 x438004 x438005 x438006 x438007 x438008 x438009 x438010 x438011 x438012 x438013 x438014 x438015 x438016).bind fun t476 => (if (t476.length : Int) = 0 then ((round_Round_Book.f x438000 x438001 x438002 x438003 x438004 x438005 x438006 x438007 x438008 x438009 x438010 x438011 x438012 x438013 x438014 x438015 x438016).bind fun t479 => ((ropewayref07_Same.f k t479 x420008).bind fun t482 => (if t482 = true then ((round_Round_Cells.f x438000 x438001 x438002 x438003 x438004 x438005 x438006 x438007 x438008 x438009 x438010 x438011 x438012 x438013 x438014 x438015 x438016).bind fun t483 => ((ropewayref10_Same.f k t483 x420007).bind fun t486 => (some t486))) else (some false)))) else (some false))) else (some false))) else (some false)) else ((round_Round_Who.f k x438000 x438001 x438002 x438003 x438004 x438005 x438006 x438007 x438008 x438009 x438010 x438011 x438012 x438013 x438014 x438015 x438016).bind fun t468 => (if (t468.length : Int) = 0 then ((round_Round_Asks.f k x438000 x438001 x438002 x438003 x438004 x438005 x438006 x438007 x438008 x438009 x438010 x438011 x438012 x438013 x438014 x438015 x438016).bind fun t471 => (if (t471.length : Int) = 1 then ((round_Round_Done.f k x438000 x438001 x438002 x438003 x438004 x438005 x438006 x438007 x438008 x438009 x438010 x438011 x438012 x438013 x438014 x438015 x438016).bind fun t474 => (some (!t474))) else (some false))) else (some false)))
end
def ropewaylaw14_RoundAlone.f (k : Nat) (a0_0 : Int) (a0_1 : Int) (a0_2 : Int) (a0_3 : Int) (a0_4 : Int) (a0_5 : Int) (a0_6 : Int) (l0_7 : List (S43)) (l0_8 : List (S48)) (a1 : Int) (a2_0 : Int) (a2_1 : Int) (a2_2 : Int) (a2_3 : Int) (a2_4 : Int) (a2_5 : Int) (a2_6 : Int) (l2_7 : List (S43)) (l2_8 : List (S48)) : Option (Bool) := (ropewaylaw14_roundAlive.f k).bind fun t420 => (if t420 = true then (if a1 < 0 then (ropewaylaw14_RoundAlone.j0 k a1 true a0_0 a0_1 0 a0_3 a0_4 a0_5 a0_6 l0_7 l0_8 a2_0 a2_1 a2_2 a2_3 a2_4 a2_5 a2_6 l2_7 l2_8) else (if a1 > 5 then (ropewaylaw14_RoundAlone.j0 k a1 true a0_0 a0_1 0 a0_3 a0_4 a0_5 a0_6 l0_7 l0_8 a2_0 a2_1 a2_2 a2_3 a2_4 a2_5 a2_6 l2_7 l2_8) else ((ropewayref11_Right.f k a0_0 a0_1 0 a0_3 a0_4 a0_5 a0_6 l0_7 l0_8).bind fun t421 => (if t421 = true then ((ropewayref11_Right.f k a2_0 a2_1 a2_2 a2_3 a2_4 a2_5 a2_6 l2_7 l2_8).bind fun t422 => (ropewaylaw14_RoundAlone.j0 k a1 (!t422) a0_0 a0_1 0 a0_3 a0_4 a0_5 a0_6 l0_7 l0_8 a2_0 a2_1 a2_2 a2_3 a2_4 a2_5 a2_6 l2_7 l2_8)) else (ropewaylaw14_RoundAlone.j0 k a1 true a0_0 a0_1 0 a0_3 a0_4 a0_5 a0_6 l0_7 l0_8 a2_0 a2_1 a2_2 a2_3 a2_4 a2_5 a2_6 l2_7 l2_8))))) else (some false))
theorem ropewaylaw14_RoundAlone.mono_l : ∀ k, (∀ y0 y1 y2 y3 y4 y5 y6 y7 y8 y9 y10 y11 y12 y13 y14 y15 y16 y17 y18 y19, LeO (ropewaylaw14_RoundAlone.j0 k y0 y1 y2 y3 y4 y5 y6 y7 y8 y9 y10 y11 y12 y13 y14 y15 y16 y17 y18 y19) (ropewaylaw14_RoundAlone.j0 (k + 1) y0 y1 y2 y3 y4 y5 y6 y7 y8 y9 y10 y11 y12 y13 y14 y15 y16 y17 y18 y19)) ∧ (∀ y0 y1 y2 y3 y4 y5 y6 y7 y8 y9 y10 y11 y12 y13 y14 y15 y16 y17 y18 y19 y20 y21 y22 y23 y24 y25, LeO (ropewaylaw14_RoundAlone.j1 k y0 y1 y2 y3 y4 y5 y6 y7 y8 y9 y10 y11 y12 y13 y14 y15 y16 y17 y18 y19 y20 y21 y22 y23 y24 y25) (ropewaylaw14_RoundAlone.j1 (k + 1) y0 y1 y2 y3 y4 y5 y6 y7 y8 y9 y10 y11 y12 y13 y14 y15 y16 y17 y18 y19 y20 y21 y22 y23 y24 y25)) ∧ (∀ y0 y1 y2 y3 y4 y5 y6 y7 y8 y9 y10 y11 y12 y13 y14 y15 y16 y17 y18 y19 y20 y21 y22 y23 y24 y25 y26 y27, LeO (ropewaylaw14_RoundAlone.j2 k y0 y1 y2 y3 y4 y5 y6 y7 y8 y9 y10 y11 y12 y13 y14 y15 y16 y17 y18 y19 y20 y21 y22 y23 y24 y25 y26 y27) (ropewaylaw14_RoundAlone.j2 (k + 1) y0 y1 y2 y3 y4 y5 y6 y7 y8 y9 y10 y11 y12 y13 y14 y15 y16 y17 y18 y19 y20 y21 y22 y23 y24 y25 y26 y27))
  | 0 => ⟨fun _ _ _ _ _ _ _ _ _ _ _ _ _ _ _ _ _ _ _ _ r h => by simp [ropewaylaw14_RoundAlone.j0] at h, fun _ _ _ _ _ _ _ _ _ _ _ _ _ _ _ _ _ _ _ _ _ _ _ _ _ _ r h => by simp [ropewaylaw14_RoundAlone.j1] at h, fun _ _ _ _ _ _ _ _ _ _ _ _ _ _ _ _ _ _ _ _ _ _ _ _ _ _ _ _ r h => by simp [ropewaylaw14_RoundAlone.j2] at h⟩
  | k + 1 => by
    obtain ⟨ih0, ih1, ih2⟩ := ropewaylaw14_RoundAlone.mono_l k
    refine ⟨?_, ?_, ?_⟩
    · intro y0 y1 y2 y3 y4 y5 y6 y7 y8 y9 y10 y11 y12 y13 y14 y15 y16 y17 y18 y19
      unfold ropewaylaw14_RoundAlone.j0
      repeat' first
      | (with_reducible exact ih0 _ _ _ _ _ _ _ _ _ _ _ _ _ _ _ _ _ _ _ _)
      | (with_reducible exact ih1 _ _ _ _ _ _ _ _ _ _ _ _ _ _ _ _ _ _ _ _ _ _ _ _ _ _)
      | (with_reducible exact ih2 _ _ _ _ _ _ _ _ _ _ _ _ _ _ _ _ _ _ _ _ _ _ _ _ _ _ _ _)
      | (with_reducible exact book_Merge.mono _ _ _)
      | (with_reducible exact cells_Merge.mono _ _ _)
      | (with_reducible exact ropewaylaw14_roundAlive.mono _)
      | (with_reducible exact ropewayref07_Same.mono _ _ _)
      | (with_reducible exact ropewayref10_Same.mono _ _ _)
      | (with_reducible exact ropewayref11_Right.mono _ _ _ _ _ _ _ _ _ _)
      | (with_reducible exact round_Round_Asks.mono _ _ _ _ _ _ _ _ _ _ _ _ _ _ _ _ _ _)
      | (with_reducible exact round_Round_Done.mono _ _ _ _ _ _ _ _ _ _ _ _ _ _ _ _ _ _)
      | (with_reducible exact round_Round_Who.mono _ _ _ _ _ _ _ _ _ _ _ _ _ _ _ _ _ _)
      | (with_reducible exact LeO.refl _)
      | (with_reducible exact LeO.none _)
      | (with_reducible refine LeO.ite ?_ ?_)
      | (with_reducible refine LeO.bind ?_ (fun _ => ?_))
      | exact ih0 _ _ _ _ _ _ _ _ _ _ _ _ _ _ _ _ _ _ _ _
      | exact ih1 _ _ _ _ _ _ _ _ _ _ _ _ _ _ _ _ _ _ _ _ _ _ _ _ _ _
      | exact ih2 _ _ _ _ _ _ _ _ _ _ _ _ _ _ _ _ _ _ _ _ _ _ _ _ _ _ _ _
      | exact book_Merge.mono _ _ _
      | exact cells_Merge.mono _ _ _
      | exact ropewaylaw14_roundAlive.mono _
      | exact ropewayref07_Same.mono _ _ _
      | exact ropewayref10_Same.mono _ _ _
      | exact ropewayref11_Right.mono _ _ _ _ _ _ _ _ _ _
      | exact round_Round_Asks.mono _ _ _ _ _ _ _ _ _ _ _ _ _ _ _ _ _ _
      | exact round_Round_Done.mono _ _ _ _ _ _ _ _ _ _ _ _ _ _ _ _ _ _
      | exact round_Round_Who.mono _ _ _ _ _ _ _ _ _ _ _ _ _ _ _ _ _ _
      | exact LeO.none _
      | refine LeO.ite ?_ ?_
      | refine LeO.bind ?_ (fun _ => ?_)
    · intro y0 y1 y2 y3 y4 y5 y6 y7 y8 y9 y10 y11 y12 y13 y14 y15 y16 y17 y18 y19 y20 y21 y22 y23 y24 y25
      unfold ropewaylaw14_RoundAlone.j1
      repeat' first
      | (with_reducible exact ih0 _ _ _ _ _ _ _ _ _ _ _ _ _ _ _ _ _ _ _ _)
      | (with_reducible exact ih1 _ _ _ _ _ _ _ _ _ _ _ _ _ _ _ _ _ _ _ _ _ _ _ _ _ _)
      | (with_reducible exact ih2 _ _ _ _ _ _ _ _ _ _ _ _ _ _ _ _ _ _ _ _ _ _ _ _ _ _ _ _)
      | (with_reducible exact book_Merge.mono _ _ _)
      | (with_reducible exact cells_Merge.mono _ _ _)
      | (with_reducible exact ropewaylaw14_roundAlive.mono _)
      | (with_reducible exact ropewayref07_Same.mono _ _ _)
      | (with_reducible exact ropewayref10_Same.mono _ _ _)
      | (with_reducible exact ropewayref11_Right.mono _ _ _ _ _ _ _ _ _ _)
      | (with_reducible exact round_Round_Asks.mono _ _ _ _ _ _ _ _ _ _ _ _ _ _ _ _ _ _)
      | (with_reducible exact round_Round_Done.mono _ _ _ _ _ _ _ _ _ _ _ _ _ _ _ _ _ _)
      | (with_reducible exact round_Round_Who.mono _ _ _ _ _ _ _ _ _ _ _ _ _ _ _ _ _ _)
      | (with_reducible exact LeO.refl _)
      | (with_reducible exact LeO.none _)
      | (with_reducible refine LeO.ite ?_ ?_)
      | (with_reducible refine LeO.bind ?_ (fun _ => ?_))
      | exact ih0 _ _ _ _ _ _ _ _ _ _ _ _ _ _ _ _ _ _ _ _
      | exact ih1 _ _ _ _ _ _ _ _ _ _ _ _ _ _ _ _ _ _ _ _ _ _ _ _ _ _
      | exact ih2 _ _ _ _ _ _ _ _ _ _ _ _ _ _ _ _ _ _ _ _ _ _ _ _ _ _ _ _
      | exact book_Merge.mono _ _ _
      | exact cells_Merge.mono _ _ _
      | exact ropewaylaw14_roundAlive.mono _
      | exact ropewayref07_Same.mono _ _ _
      | exact ropewayref10_Same.mono _ _ _
      | exact ropewayref11_Right.mono _ _ _ _ _ _ _ _ _ _
      | exact round_Round_Asks.mono _ _ _ _ _ _ _ _ _ _ _ _ _ _ _ _ _ _
      | exact round_Round_Done.mono _ _ _ _ _ _ _ _ _ _ _ _ _ _ _ _ _ _
      | exact round_Round_Who.mono _ _ _ _ _ _ _ _ _ _ _ _ _ _ _ _ _ _
      | exact LeO.none _
      | refine LeO.ite ?_ ?_
      | refine LeO.bind ?_ (fun _ => ?_)
    · intro y0 y1 y2 y3 y4 y5 y6 y7 y8 y9 y10 y11 y12 y13 y14 y15 y16 y17 y18 y19 y20 y21 y22 y23 y24 y25 y26 y27
      unfold ropewaylaw14_RoundAlone.j2
      repeat' first
      | (with_reducible exact ih0 _ _ _ _ _ _ _ _ _ _ _ _ _ _ _ _ _ _ _ _)
      | (with_reducible exact ih1 _ _ _ _ _ _ _ _ _ _ _ _ _ _ _ _ _ _ _ _ _ _ _ _ _ _)
      | (with_reducible exact ih2 _ _ _ _ _ _ _ _ _ _ _ _ _ _ _ _ _ _ _ _ _ _ _ _ _ _ _ _)
      | (with_reducible exact book_Merge.mono _ _ _)
      | (with_reducible exact cells_Merge.mono _ _ _)
      | (with_reducible exact ropewaylaw14_roundAlive.mono _)
      | (with_reducible exact ropewayref07_Same.mono _ _ _)
      | (with_reducible exact ropewayref10_Same.mono _ _ _)
      | (with_reducible exact ropewayref11_Right.mono _ _ _ _ _ _ _ _ _ _)
      | (with_reducible exact round_Round_Asks.mono _ _ _ _ _ _ _ _ _ _ _ _ _ _ _ _ _ _)
      | (with_reducible exact round_Round_Done.mono _ _ _ _ _ _ _ _ _ _ _ _ _ _ _ _ _ _)
      | (with_reducible exact round_Round_Who.mono _ _ _ _ _ _ _ _ _ _ _ _ _ _ _ _ _ _)
      | (with_reducible exact LeO.refl _)
      | (with_reducible exact LeO.none _)
      | (with_reducible refine LeO.ite ?_ ?_)
      | (with_reducible refine LeO.bind ?_ (fun _ => ?_))
      | exact ih0 _ _ _ _ _ _ _ _ _ _ _ _ _ _ _ _ _ _ _ _
      | exact ih1 _ _ _ _ _ _ _ _ _ _ _ _ _ _ _ _ _ _ _ _ _ _ _ _ _ _
      | exact ih2 _ _ _ _ _ _ _ _ _ _ _ _ _ _ _ _ _ _ _ _ _ _ _ _ _ _ _ _
      | exact book_Merge.mono _ _ _
      | exact cells_Merge.mono _ _ _
      | exact ropewaylaw14_roundAlive.mono _
      | exact ropewayref07_Same.mono _ _ _
      | exact ropewayref10_Same.mono _ _ _
      | exact ropewayref11_Right.mono _ _ _ _ _ _ _ _ _ _
      | exact round_Round_Asks.mono _ _ _ _ _ _ _ _ _ _ _ _ _ _ _ _ _ _
      | exact round_Round_Done.mono _ _ _ _ _ _ _ _ _ _ _ _ _ _ _ _ _ _
      | exact round_Round_Who.mono _ _ _ _ _ _ _ _ _ _ _ _ _ _ _ _ _ _
      | exact LeO.none _
      | refine LeO.ite ?_ ?_
      | refine LeO.bind ?_ (fun _ => ?_)
theorem ropewaylaw14_RoundAlone.mono : ∀ a0 a1 a2 a3 a4 a5 a6 a7 a8 a9 a10 a11 a12 a13 a14 a15 a16 a17 a18 k, LeO (ropewaylaw14_RoundAlone.f k a0 a1 a2 a3 a4 a5 a6 a7 a8 a9 a10 a11 a12 a13 a14 a15 a16 a17 a18) (ropewaylaw14_RoundAlone.f (k + 1) a0 a1 a2 a3 a4 a5 a6 a7 a8 a9 a10 a11 a12 a13 a14 a15 a16 a17 a18) := by
  intro a0 a1 a2 a3 a4 a5 a6 a7 a8 a9 a10 a11 a12 a13 a14 a15 a16 a17 a18 k
  obtain ⟨ih0, ih1, ih2⟩ := ropewaylaw14_RoundAlone.mono_l k
  unfold ropewaylaw14_RoundAlone.f
  repeat' first
      | (with_reducible exact ih0 _ _ _ _ _ _ _ _ _ _ _ _ _ _ _ _ _ _ _ _)
      | (with_reducible exact ih1 _ _ _ _ _ _ _ _ _ _ _ _ _ _ _ _ _ _ _ _ _ _ _ _ _ _)
      | (with_reducible exact ih2 _ _ _ _ _ _ _ _ _ _ _ _ _ _ _ _ _ _ _ _ _ _ _ _ _ _ _ _)
      | (with_reducible exact book_Merge.mono _ _ _)
      | (with_reducible exact cells_Merge.mono _ _ _)
      | (with_reducible exact ropewaylaw14_roundAlive.mono _)
      | (with_reducible exact ropewayref07_Same.mono _ _ _)
      | (with_reducible exact ropewayref10_Same.mono _ _ _)
      | (with_reducible exact ropewayref11_Right.mono _ _ _ _ _ _ _ _ _ _)
      | (with_reducible exact round_Round_Asks.mono _ _ _ _ _ _ _ _ _ _ _ _ _ _ _ _ _ _)
      | (with_reducible exact round_Round_Done.mono _ _ _ _ _ _ _ _ _ _ _ _ _ _ _ _ _ _)
      | (with_reducible exact round_Round_Who.mono _ _ _ _ _ _ _ _ _ _ _ _ _ _ _ _ _ _)
      | (with_reducible exact LeO.refl _)
      | (with_reducible exact LeO.none _)
      | (with_reducible refine LeO.ite ?_ ?_)
      | (with_reducible refine LeO.bind ?_ (fun _ => ?_))
      | exact ih0 _ _ _ _ _ _ _ _ _ _ _ _ _ _ _ _ _ _ _ _
      | exact ih1 _ _ _ _ _ _ _ _ _ _ _ _ _ _ _ _ _ _ _ _ _ _ _ _ _ _
      | exact ih2 _ _ _ _ _ _ _ _ _ _ _ _ _ _ _ _ _ _ _ _ _ _ _ _ _ _ _ _
      | exact book_Merge.mono _ _ _
      | exact cells_Merge.mono _ _ _
      | exact ropewaylaw14_roundAlive.mono _
      | exact ropewayref07_Same.mono _ _ _
      | exact ropewayref10_Same.mono _ _ _
      | exact ropewayref11_Right.mono _ _ _ _ _ _ _ _ _ _
      | exact round_Round_Asks.mono _ _ _ _ _ _ _ _ _ _ _ _ _ _ _ _ _ _
      | exact round_Round_Done.mono _ _ _ _ _ _ _ _ _ _ _ _ _ _ _ _ _ _
      | exact round_Round_Who.mono _ _ _ _ _ _ _ _ _ _ _ _ _ _ _ _ _ _
      | exact LeO.none _
      | refine LeO.ite ?_ ?_
      | refine LeO.bind ?_ (fun _ => ?_)
def ropewaylaw14_RoundAlone.T13 : Bool × List (List Nat × List Nat) := (true, [([], []), ([0], [0]), ([], []), ([1, 2], [1, 2]), ([3], [3]), ([4], [4]), ([5, 4, 4], [4, 5]), ([4, 6], [4, 6]), ([7, 6], [7]), ([8], [8]), ([9, 8, 8], [8, 9]), ([10, 8], [8, 10]), ([11, 8], [8, 11]), ([8, 12], [8, 12]), ([13, 10], [13]), ([14], [14]), ([15, 14, 14], [14, 15]), ([14], [14]), ([17, 14], [14, 17]), ([16, 18, 16, 14], [14, 16, 18]), ([14, 19], [14, 19]), ([20, 19], [20]), ([21], [21]), ([22, 21, 21], [21, 22]), ([21], [21]), ([24, 21], [21, 24]), ([23, 25, 23, 21], [21, 23, 25]), ([21, 26], [21, 26]), ([27, 26, 0, 1, 2, 3, 4, 5, 6, 7, 8, 9, 10, 11, 12, 13, 14, 15, 16, 17, 18, 19, 20, 21, 22, 23, 24, 25, 26, 27], [27])])
def ropewaylaw14_RoundAlone.B13 : List Nat := [0, 1, 0, 7, 15, 31, 63, 127, 255, 511, 1023, 2047, 4095, 8191, 16383, 32767, 65535, 32767, 163839, 524287, 1048575, 2097151, 4194303, 8388607, 4194303, 20971519, 67108863, 134217727, 268435455]
theorem ropewaylaw14_RoundAlone.tab13 : rtab .any (opsOf Try.f6 13) = ropewaylaw14_RoundAlone.T13 := by kernel_rfl
theorem ropewaylaw14_RoundAlone.bits13 : waitsOk ropewaylaw14_RoundAlone.T13.2 ropewaylaw14_RoundAlone.B13 = true := by kernel_rfl
set_option maxHeartbeats 8000000 in
set_option maxRecDepth 100000 in
theorem ropewaylaw14_RoundAlone.calls (k : Nat) (a0_0 : Int) (a0_1 : Int) (a0_2 : Int) (a0_3 : Int) (a0_4 : Int) (a0_5 : Int) (a0_6 : Int) (A0_7 : Option Addr) (c0_7 : Nat) (l0_7 : List (S43)) (A0_8 : Option Addr) (c0_8 : Nat) (l0_8 : List (S48)) (a1 : Int) (a2_0 : Int) (a2_1 : Int) (a2_2 : Int) (a2_3 : Int) (a2_4 : Int) (a2_5 : Int) (a2_6 : Int) (A2_7 : Option Addr) (c2_7 : Nat) (l2_7 : List (S43)) (A2_8 : Option Addr) (c2_8 : Nat) (l2_8 : List (S48)) (r : Bool) (w : World) (hr0_7 : Kd.C k43 w A0_7 l0_7.length l0_7) (hc0_7 : l0_7.length ≤ c0_7) (hr0_8 : Kd.C k48 w A0_8 l0_8.length l0_8) (hc0_8 : l0_8.length ≤ c0_8) (hr2_7 : Kd.C k43 w A2_7 l2_7.length l2_7) (hc2_7 : l2_7.length ≤ c2_7) (hr2_8 : Kd.C k48 w A2_8 l2_8.length l2_8) (hc2_8 : l2_8.length ≤ c2_8) (hr1_ : Aside0 (r = true)) (h : ropewaylaw14_RoundAlone.f k a0_0 a0_1 a0_2 a0_3 a0_4 a0_5 a0_6 l0_7 l0_8 a1 a2_0 a2_1 a2_2 a2_3 a2_4 a2_5 a2_6 l2_7 l2_8 = some r) :
    Calls Try.prog 6 #[.agg #[.int .i64 a0_0, .int .i64 a0_1, .int .i64 a0_2, .int .i64 a0_3, .int .i64 a0_4, .int .i64 a0_5, .int .i64 a0_6, .slice A0_7 l0_7.length c0_7, .slice A0_8 l0_8.length c0_8], .int .i64 a1, .agg #[.int .i64 a2_0, .int .i64 a2_1, .int .i64 a2_2, .int .i64 a2_3, .int .i64 a2_4, .int .i64 a2_5, .int .i64 a2_6, .slice A2_7 l2_7.length c2_7, .slice A2_8 l2_8.length c2_8]] w fun e w' => e = .returned (.bool r) ∧ Below w.heap.size w w' := by
  have hu27 := Try.underlying27
  have hu23 := Try.underlying23
  have HR0_7 := zM hr0_7
  have HC0_7 := zM hc0_7
  clear hr0_7 hc0_7
  have HR0_8 := zM hr0_8
  have HC0_8 := zM hc0_8
  clear hr0_8 hc0_8
  have HR2_7 := zM hr2_7
  have HC2_7 := zM hc2_7
  clear hr2_7 hc2_7
  have HR2_8 := zM hr2_8
  have HC2_8 := zM hc2_8
  clear hr2_8 hc2_8
  have HB := zM (Below.refl w.heap.size w)
  have H : ((ropewaylaw14_roundAlive.f k).bind fun t420 => (if t420 = true then (if a1 < 0 then (ropewaylaw14_RoundAlone.j0 k a1 true a0_0 a0_1 0 a0_3 a0_4 a0_5 a0_6 l0_7 l0_8 a2_0 a2_1 a2_2 a2_3 a2_4 a2_5 a2_6 l2_7 l2_8) else (if a1 > 5 then (ropewaylaw14_RoundAlone.j0 k a1 true a0_0 a0_1 0 a0_3 a0_4 a0_5 a0_6 l0_7 l0_8 a2_0 a2_1 a2_2 a2_3 a2_4 a2_5 a2_6 l2_7 l2_8) else ((ropewayref11_Right.f k a0_0 a0_1 0 a0_3 a0_4 a0_5 a0_6 l0_7 l0_8).bind fun t421 => (if t421 = true then ((ropewayref11_Right.f k a2_0 a2_1 a2_2 a2_3 a2_4 a2_5 a2_6 l2_7 l2_8).bind fun t422 => (ropewaylaw14_RoundAlone.j0 k a1 (!t422) a0_0 a0_1 0 a0_3 a0_4 a0_5 a0_6 l0_7 l0_8 a2_0 a2_1 a2_2 a2_3 a2_4 a2_5 a2_6 l2_7 l2_8)) else (ropewaylaw14_RoundAlone.j0 k a1 true a0_0 a0_1 0 a0_3 a0_4 a0_5 a0_6 l0_7 l0_8 a2_0 a2_1 a2_2 a2_3 a2_4 a2_5 a2_6 l2_7 l2_8))))) else (some false))) = some r := h
  clear h
  go_enter Try.func6, Try.ntmps6
  have tk5 : True := trivial
  have tk7 : True := trivial
  go_upto_region 1 with (first | ((with_reducible refine gate_dst (N := 3) rfl ?_); clear tk5; (try (refine gate_guard (by rfl) ?_; dsimp only)); refine box_event ?hg (N := 3) ?hd (cs := #[.int .i64 a0_0, .int .i64 a0_1, .int .i64 a0_2, .int .i64 a0_3, .int .i64 a0_4, .int .i64 a0_5, .int .i64 a0_6, .slice A0_7 l0_7.length c0_7, .slice A0_8 l0_8.length c0_8]) (t := 27) ?hr ?_; (case hd => rfl); (case hg => rfl); (case hr => first | (go_simp; done) | (go_simp; rfl)); intro gb418 hg w4 hbox hb; have BK418 := zM (hbox); have GW418 := zM (bs_ hg); have GE418 := zM (bs_ hg); replace HB := zM (zB bel_ hb); clear hb hbox hg) | ((with_reducible refine gate_dst (N := 5) rfl ?_); clear tk7; (try (refine gate_guard (by rfl) ?_; dsimp only)); refine box_event ?hg (N := 5) ?hd (cs := #[.int .i64 a2_0, .int .i64 a2_1, .int .i64 a2_2, .int .i64 a2_3, .int .i64 a2_4, .int .i64 a2_5, .int .i64 a2_6, .slice A2_7 l2_7.length c2_7, .slice A2_8 l2_8.length c2_8]) (t := 27) ?hr ?_; (case hd => rfl); (case hg => rfl); (case hr => first | (go_simp; done) | (go_simp; rfl)); intro gb419 hg w6 hbox hb; have BK419 := zM (hbox); have GW419 := zM (bs_ hg); have GE419 := zM (bs_ hg); replace HB := zM (zB bel_ hb); have NB418_419 := zM (nl_ BK418 hg); have NB419_418 := zM (ng_ BK418 hg); replace BK418 := zM (bb_ BK418 hb); clear hb hbox hg))
  replace H := Option.bind_eq_some_iff.mp H
  obtain ⟨t420, A80, H⟩ := H
  replace H : (if t420 = true then (if a1 < 0 then (ropewaylaw14_RoundAlone.j0 k a1 true a0_0 a0_1 0 a0_3 a0_4 a0_5 a0_6 l0_7 l0_8 a2_0 a2_1 a2_2 a2_3 a2_4 a2_5 a2_6 l2_7 l2_8) else (if a1 > 5 then (ropewaylaw14_RoundAlone.j0 k a1 true a0_0 a0_1 0 a0_3 a0_4 a0_5 a0_6 l0_7 l0_8 a2_0 a2_1 a2_2 a2_3 a2_4 a2_5 a2_6 l2_7 l2_8) else ((ropewayref11_Right.f k a0_0 a0_1 0 a0_3 a0_4 a0_5 a0_6 l0_7 l0_8).bind fun t421 => (if t421 = true then ((ropewayref11_Right.f k a2_0 a2_1 a2_2 a2_3 a2_4 a2_5 a2_6 l2_7 l2_8).bind fun t422 => (ropewaylaw14_RoundAlone.j0 k a1 (!t422) a0_0 a0_1 0 a0_3 a0_4 a0_5 a0_6 l0_7 l0_8 a2_0 a2_1 a2_2 a2_3 a2_4 a2_5 a2_6 l2_7 l2_8)) else (ropewaylaw14_RoundAlone.j0 k a1 true a0_0 a0_1 0 a0_3 a0_4 a0_5 a0_6 l0_7 l0_8 a2_0 a2_1 a2_2 a2_3 a2_4 a2_5 a2_6 l2_7 l2_8))))) else (some false)) = some r := H
  have A8 := zM A80
  clear A80
  by_cases c9 : t420 = true
  rotate_left
  · replace c9 := Bool.eq_false_iff.mpr c9
    subst c9
    have H1 : (some false) = some r := by rw [if_neg (show ¬ (false = true) by decide)] at H; exact H
    clear H
    have H := H1
    clear H1
    have tk193 : True := trivial
    go_upto_region 2 with (first | ((with_reducible refine gate_callee (f := 9) rfl ?_); clear tk193; refine goL_ (some 9) Try.func9 #[] ?_; (with_reducible refine (ropewaylaw14_roundAlive.calls k  false _ A8.out).mono ?_); rintro e w192 ⟨rfl, hb⟩; refine ⟨_, rfl, ?_⟩; replace BK418 := zM (bb_ BK418 hb); replace BK419 := zM (bb_ BK419 hb); replace HB := zM (zB bel_ hb); (try clear hb); (try clear hi)))
    exact absurd (Option.some.inj H) (by rw [hr1_.out]; decide)
  subst c9
  have H1 : (if a1 < 0 then (ropewaylaw14_RoundAlone.j0 k a1 true a0_0 a0_1 0 a0_3 a0_4 a0_5 a0_6 l0_7 l0_8 a2_0 a2_1 a2_2 a2_3 a2_4 a2_5 a2_6 l2_7 l2_8) else (if a1 > 5 then (ropewaylaw14_RoundAlone.j0 k a1 true a0_0 a0_1 0 a0_3 a0_4 a0_5 a0_6 l0_7 l0_8 a2_0 a2_1 a2_2 a2_3 a2_4 a2_5 a2_6 l2_7 l2_8) else ((ropewayref11_Right.f k a0_0 a0_1 0 a0_3 a0_4 a0_5 a0_6 l0_7 l0_8).bind fun t421 => (if t421 = true then ((ropewayref11_Right.f k a2_0 a2_1 a2_2 a2_3 a2_4 a2_5 a2_6 l2_7 l2_8).bind fun t422 => (ropewaylaw14_RoundAlone.j0 k a1 (!t422) a0_0 a0_1 0 a0_3 a0_4 a0_5 a0_6 l0_7 l0_8 a2_0 a2_1 a2_2 a2_3 a2_4 a2_5 a2_6 l2_7 l2_8)) else (ropewaylaw14_RoundAlone.j0 k a1 true a0_0 a0_1 0 a0_3 a0_4 a0_5 a0_6 l0_7 l0_8 a2_0 a2_1 a2_2 a2_3 a2_4 a2_5 a2_6 l2_7 l2_8))))) = some r := by rw [if_pos rfl] at H; exact H
  clear H
  have H := H1
  clear H1
  have tk11 : True := trivial
  go_upto_region 3 with (first | ((with_reducible refine gate_callee (f := 9) rfl ?_); clear tk11; refine goL_ (some 9) Try.func9 #[] ?_; (with_reducible refine (ropewaylaw14_roundAlive.calls k  true _ A8.out).mono ?_); rintro e w10 ⟨rfl, hb⟩; refine ⟨_, rfl, ?_⟩; replace BK418 := zM (bb_ BK418 hb); replace BK419 := zM (bb_ BK419 hb); replace HB := zM (zB bel_ hb); (try clear hb); (try clear hi)))
  have hnb12 := NB418_419.out
  have hnc12 := NB419_418.out
  obtain ⟨hcz13_0, hcz13_1, hcz13_2, hcz13_3, hcz13_4, hcz13_5, hcz13_6, hcz13_7, hcz13_8⟩ := r9_ BK418.out
  obtain ⟨hfz13_0, hfz13_1, hfz13_2, hfz13_3, hfz13_4, hfz13_5, hfz13_6, hfz13_7, hfz13_8⟩ := f9_ BK418.out
  have tk15 : True := trivial
  go_upto_region 4 with (first | ((with_reducible refine gate_store (t := 3) (p := 11) rfl ?_); clear tk15; refine store_event (t := 3) (p := 11) (v := ?vo_w14) (w1 := (w10.setCell ⟨gb418, 2, none⟩ (.int .i64 0))) ?hg ?ho ?hn ?hr ?_; (case ho => rfl); (case hg => rfl); (case hn => rfl); (case hr => first | (go_simp; done) | (go_simp; rfl)); intro w14 hw; replace BK419 : Aside0 (w14.heap[gb419]? = some (.cells #[.int .i64 a2_0, .int .i64 a2_1, .int .i64 a2_2, .int .i64 a2_3, .int .i64 a2_4, .int .i64 a2_5, .int .i64 a2_6, .slice A2_7 l2_7.length c2_7, .slice A2_8 l2_8.length c2_8] 27 (0, 0))) := ⟨(by rw [hw]; exact blf_)⟩; replace BK418 : Aside0 (w14.heap[gb418]? = some (.cells #[.int .i64 a0_0, .int .i64 a0_1, .int .i64 0, .int .i64 a0_3, .int .i64 a0_4, .int .i64 a0_5, .int .i64 a0_6, .slice A0_7 l0_7.length c0_7, .slice A0_8 l0_8.length c0_8] 27 (0, 0))) := ⟨(by rw [hw]; exact (by (with_reducible repeat (first | refine zN ?_ _ | refine zD ?_ | refine zA ?_ _)); refine blk_put (cs := #[.int .i64 a0_0, .int .i64 a0_1, .int .i64 a0_2, .int .i64 a0_3, .int .i64 a0_4, .int .i64 a0_5, .int .i64 a0_6, .slice A0_7 l0_7.length c0_7, .slice A0_8 l0_8.length c0_8]) ?_ 2 _ rfl; (with_reducible repeat (first | refine zN ?_ _ | refine zD ?_ | refine zA ?_ _)); exact BK418.out))⟩; replace HB : Aside0 (Below w.heap.size w w14) := ⟨(by rw [hw]; exact bel_)⟩; clear hw))
  have HC16 := zM H
  clear H
  go_upto_region 4 with (fail)
  (try simp only [Act.put, zS, zZ, zC])
  go_cut [27] (fun v27 wc => ∃ (kq : Nat) (x27_15 : Bool), v27 = .bool x27_15 ∧ Aside0 (ropewaylaw14_RoundAlone.j0 kq a1 x27_15 a0_0 a0_1 0 a0_3 a0_4 a0_5 a0_6 l0_7 l0_8 a2_0 a2_1 a2_2 a2_3 a2_4 a2_5 a2_6 l2_7 l2_8 = some r) ∧ Aside0 (kq ≤ k) ∧ Aside0 (wc.heap[gb418]? = some (.cells #[.int .i64 a0_0, .int .i64 a0_1, .int .i64 0, .int .i64 a0_3, .int .i64 a0_4, .int .i64 a0_5, .int .i64 a0_6, (.slice A0_7 l0_7.length c0_7), (.slice A0_8 l0_8.length c0_8)] 27 (0, 0))) ∧ Aside0 (wc.heap[gb419]? = some (.cells #[.int .i64 a2_0, .int .i64 a2_1, .int .i64 a2_2, .int .i64 a2_3, .int .i64 a2_4, .int .i64 a2_5, .int .i64 a2_6, (.slice A2_7 l2_7.length c2_7), (.slice A2_8 l2_8.length c2_8)] 27 (0, 0))) ∧ Aside0 (Below w.heap.size w wc))
  case first =>
   have H := HC16.out
   clear HC16
   by_cases c17 : a1 < 0
   · rw [if_pos c17] at H
     have c17b0 : decide (a1 < 0) = true := decide_eq_true c17
     clear c17
     (first | rw [c17b0] | (simp only [i64_w, i32_w]; rw [c17b0]) | skip)
     have H' := zM H
     clear H
     go_wp2
     go_meet
     case rel => exact ⟨_, (true), (by first | rfl | (simp; done) | (simp [*]; done) | (simp; grind)), H', ⟨by first | omega | exact Nat.le_refl _⟩, ⟨blf_⟩, ⟨blf_⟩, ⟨bel_⟩⟩
   rw [if_neg c17] at H
   have c17b0 : decide (a1 < 0) = false := decide_eq_false c17
   clear c17
   (first | rw [c17b0] | (simp only [i64_w, i32_w]; rw [c17b0]) | skip)
   by_cases c18 : a1 > 5
   · rw [if_pos c18] at H
     have c18b0 : decide (5 < a1) = true := decide_eq_true c18
     clear c18
     have H' := zM H
     clear H
     go_wp2
     go_meet
     case rel => exact ⟨_, (true), (by first | rfl | (simp; done) | (simp [*]; done) | (simp; grind)), H', ⟨by first | omega | exact Nat.le_refl _⟩, ⟨blf_⟩, ⟨blf_⟩, ⟨bel_⟩⟩
   rw [if_neg c18] at H
   have c18b0 : decide (5 < a1) = false := decide_eq_false c18
   clear c18
   replace H := Option.bind_eq_some_iff.mp H
   obtain ⟨t421, A190, H⟩ := H
   replace H : (if t421 = true then ((ropewayref11_Right.f k a2_0 a2_1 a2_2 a2_3 a2_4 a2_5 a2_6 l2_7 l2_8).bind fun t422 => (ropewaylaw14_RoundAlone.j0 k a1 (!t422) a0_0 a0_1 0 a0_3 a0_4 a0_5 a0_6 l0_7 l0_8 a2_0 a2_1 a2_2 a2_3 a2_4 a2_5 a2_6 l2_7 l2_8)) else (ropewaylaw14_RoundAlone.j0 k a1 true a0_0 a0_1 0 a0_3 a0_4 a0_5 a0_6 l0_7 l0_8 a2_0 a2_1 a2_2 a2_3 a2_4 a2_5 a2_6 l2_7 l2_8)) = some r := H
   have A19 := zM A190
   clear A190
   by_cases c20 : t421 = true
   rotate_left
   · replace c20 := Bool.eq_false_iff.mpr c20
     subst c20
     have H1 : (ropewaylaw14_RoundAlone.j0 k a1 true a0_0 a0_1 0 a0_3 a0_4 a0_5 a0_6 l0_7 l0_8 a2_0 a2_1 a2_2 a2_3 a2_4 a2_5 a2_6 l2_7 l2_8) = some r := by rw [if_neg (show ¬ (false = true) by decide)] at H; exact H
     clear H
     have H := H1
     clear H1
     have H' := zM H
     clear H
     have hnb29 := NB418_419.out
     have hnc29 := NB419_418.out
     obtain ⟨hcz30_0, hcz30_1, hcz30_2, hcz30_3, hcz30_4, hcz30_5, hcz30_6, hcz30_7, hcz30_8⟩ := r9_ BK418.out
     obtain ⟨hfz30_0, hfz30_1, hfz30_2, hfz30_3, hfz30_4, hfz30_5, hfz30_6, hfz30_7, hfz30_8⟩ := f9_ BK418.out
     have tk32 : True := trivial
     go_wp2_with (first | (go_at_call 31; (with_reducible refine (ropewayref11_Right.calls k a0_0 a0_1 0 a0_3 a0_4 a0_5 a0_6 _ _ l0_7 _ _ l0_8 false _ ?side1 ?side2 ?side3 ?side4 A19.out).mono ?_); (case side1 => repeat (first | exact (Kd.C_below HR0_7.out HB.out) | (with_reducible refine Kd.C_alloc ?_ _) | (with_reducible refine Kd.C_drewN ?_ _) | (with_reducible refine Kd.C_drew ?_))); (case side2 => exact HC0_7.out); (case side3 => repeat (first | exact (Kd.C_below HR0_8.out HB.out) | (with_reducible refine Kd.C_alloc ?_ _) | (with_reducible refine Kd.C_drewN ?_ _) | (with_reducible refine Kd.C_drew ?_))); (case side4 => exact HC0_8.out); clear tk32; rintro e w31 ⟨rfl, hb⟩; replace BK418 := zM (bb_ BK418 hb); replace BK419 := zM (bb_ BK419 hb); replace HB := zM (zB bel_ hb); (try clear hb); (try clear hi)))
     go_meet
     case rel => exact ⟨_, (true), (by first | rfl | (simp; done) | (simp [*]; done) | (simp; grind)), H', ⟨by first | omega | exact Nat.le_refl _⟩, ⟨blf_⟩, ⟨blf_⟩, ⟨bel_⟩⟩
   subst c20
   have H1 : ((ropewayref11_Right.f k a2_0 a2_1 a2_2 a2_3 a2_4 a2_5 a2_6 l2_7 l2_8).bind fun t422 => (ropewaylaw14_RoundAlone.j0 k a1 (!t422) a0_0 a0_1 0 a0_3 a0_4 a0_5 a0_6 l0_7 l0_8 a2_0 a2_1 a2_2 a2_3 a2_4 a2_5 a2_6 l2_7 l2_8)) = some r := by rw [if_pos rfl] at H; exact H
   clear H
   have H := H1
   clear H1
   replace H := Option.bind_eq_some_iff.mp H
   obtain ⟨t422, A210, H⟩ := H
   replace H : (ropewaylaw14_RoundAlone.j0 k a1 (!t422) a0_0 a0_1 0 a0_3 a0_4 a0_5 a0_6 l0_7 l0_8 a2_0 a2_1 a2_2 a2_3 a2_4 a2_5 a2_6 l2_7 l2_8) = some r := H
   have A21 := zM A210
   clear A210
   have H' := zM H
   clear H
   have hnb22 := NB418_419.out
   have hnc22 := NB419_418.out
   obtain ⟨hcz23_0, hcz23_1, hcz23_2, hcz23_3, hcz23_4, hcz23_5, hcz23_6, hcz23_7, hcz23_8⟩ := r9_ BK418.out
   obtain ⟨hfz23_0, hfz23_1, hfz23_2, hfz23_3, hfz23_4, hfz23_5, hfz23_6, hfz23_7, hfz23_8⟩ := f9_ BK418.out
   have tk25 : True := trivial
   have tk28 : True := trivial
   go_wp2_with (first | (go_at_call 31; (with_reducible refine (ropewayref11_Right.calls k a0_0 a0_1 0 a0_3 a0_4 a0_5 a0_6 _ _ l0_7 _ _ l0_8 true _ ?side1 ?side2 ?side3 ?side4 A19.out).mono ?_); (case side1 => repeat (first | exact (Kd.C_below HR0_7.out HB.out) | (with_reducible refine Kd.C_alloc ?_ _) | (with_reducible refine Kd.C_drewN ?_ _) | (with_reducible refine Kd.C_drew ?_))); (case side2 => exact HC0_7.out); (case side3 => repeat (first | exact (Kd.C_below HR0_8.out HB.out) | (with_reducible refine Kd.C_alloc ?_ _) | (with_reducible refine Kd.C_drewN ?_ _) | (with_reducible refine Kd.C_drew ?_))); (case side4 => exact HC0_8.out); clear tk25; rintro e w24 ⟨rfl, hb⟩; replace BK418 := zM (bb_ BK418 hb); replace BK419 := zM (bb_ BK419 hb); replace HB := zM (zB bel_ hb); (try clear hb); obtain ⟨hcz26_0, hcz26_1, hcz26_2, hcz26_3, hcz26_4, hcz26_5, hcz26_6, hcz26_7, hcz26_8⟩ := r9_ BK419.out; obtain ⟨hfz26_0, hfz26_1, hfz26_2, hfz26_3, hfz26_4, hfz26_5, hfz26_6, hfz26_7, hfz26_8⟩ := f9_ BK419.out) | (go_at_call 31; (with_reducible refine (ropewayref11_Right.calls k a2_0 a2_1 a2_2 a2_3 a2_4 a2_5 a2_6 _ _ l2_7 _ _ l2_8 t422 _ ?side1 ?side2 ?side3 ?side4 A21.out).mono ?_); (case side1 => repeat (first | exact (Kd.C_below HR2_7.out HB.out) | (with_reducible refine Kd.C_alloc ?_ _) | (with_reducible refine Kd.C_drewN ?_ _) | (with_reducible refine Kd.C_drew ?_))); (case side2 => exact HC2_7.out); (case side3 => repeat (first | exact (Kd.C_below HR2_8.out HB.out) | (with_reducible refine Kd.C_alloc ?_ _) | (with_reducible refine Kd.C_drewN ?_ _) | (with_reducible refine Kd.C_drew ?_))); (case side4 => exact HC2_8.out); clear tk28; rintro e w27 ⟨rfl, hb⟩; replace BK418 := zM (bb_ BK418 hb); replace BK419 := zM (bb_ BK419 hb); replace HB := zM (zB bel_ hb); (try clear hb); (try clear hi)))
   go_meet
   case rel => exact ⟨_, (!t422), (by first | rfl | (simp; done) | (simp [*]; done) | (simp; grind)), H', ⟨by first | omega | exact Nat.le_refl _⟩, ⟨blf_⟩, ⟨blf_⟩, ⟨bel_⟩⟩
  case rest =>
   clear HC16
   try clear c9
   try clear c17
   try clear c17b0
   try clear c18
   try clear c18b0
   try clear c20
   try clear hcz13_0
   try clear hcz13_1
   try clear hcz13_2
   try clear hcz13_3
   try clear hcz13_4
   try clear hcz13_5
   try clear hcz13_6
   try clear hcz13_7
   try clear hcz13_8
   try clear hcz23_0
   try clear hcz23_1
   try clear hcz23_2
   try clear hcz23_3
   try clear hcz23_4
   try clear hcz23_5
   try clear hcz23_6
   try clear hcz23_7
   try clear hcz23_8
   try clear hcz26_0
   try clear hcz26_1
   try clear hcz26_2
   try clear hcz26_3
   try clear hcz26_4
   try clear hcz26_5
   try clear hcz26_6
   try clear hcz26_7
   try clear hcz26_8
   try clear hcz30_0
   try clear hcz30_1
   try clear hcz30_2
   try clear hcz30_3
   try clear hcz30_4
   try clear hcz30_5
   try clear hcz30_6
   try clear hcz30_7
   try clear hcz30_8
   try clear hfz13_0
   try clear hfz13_1
   try clear hfz13_2
   try clear hfz13_3
   try clear hfz13_4
   try clear hfz13_5
   try clear hfz13_6
   try clear hfz13_7
   try clear hfz13_8
   try clear hfz23_0
   try clear hfz23_1
   try clear hfz23_2
   try clear hfz23_3
   try clear hfz23_4
   try clear hfz23_5
   try clear hfz23_6
   try clear hfz23_7
   try clear hfz23_8
   try clear hfz26_0
   try clear hfz26_1
   try clear hfz26_2
   try clear hfz26_3
   try clear hfz26_4
   try clear hfz26_5
   try clear hfz26_6
   try clear hfz26_7
   try clear hfz26_8
   try clear hfz30_0
   try clear hfz30_1
   try clear hfz30_2
   try clear hfz30_3
   try clear hfz30_4
   try clear hfz30_5
   try clear hfz30_6
   try clear hfz30_7
   try clear hfz30_8
   obtain ⟨kq, x27_15, rfl, HA, HJ15, BK418, BK419, HB⟩ := hcut
   cases kq with
   | zero => exact absurd HA.out (by simp [ropewaylaw14_RoundAlone.j0])
   | succ kj15 =>
    have H := HA.out
    clear HA
    simp only [ropewaylaw14_RoundAlone.j0] at H
    by_cases c33 : x27_15 = true
    · subst c33
      have H1 : (some true) = some r := by rw [if_pos rfl] at H; exact H
      clear H
      have H := H1
      clear H1
      obtain rfl := Option.some.inj H
      go_wp2
      go_ret
      exact ⟨by first | rfl | (simp [errW_none, errW_some] <;> rfl) | (simp [*, errW_none, errW_some] <;> rfl), bel_⟩
    replace c33 := Bool.eq_false_iff.mpr c33
    subst c33
    have H1 : (if 0 ≤ a1 then ((msg_Copy.f a0_0 a0_1 0 a0_3 a0_4 (shl .i64 1 a1) 0 l0_7 l0_8).bind fun bt424 => ((round_Round_Done.f kj15 bt424.1 bt424.2.1 bt424.2.2.1 bt424.2.2.2.1 bt424.2.2.2.2.1 bt424.2.2.2.2.2.1 bt424.2.2.2.2.2.2.1 bt424.2.2.2.2.2.2.2.1 bt424.2.2.2.2.2.2.2.2 false false false false false false ([] : List (S43)) ([] : List (S48))).bind fun t438 => (if t438 = true then (ropewaylaw14_RoundAlone.j1 kj15 a1 true a2_0 a2_1 a2_2 a2_3 a2_4 a2_5 a2_6 l2_7 l2_8 bt424.1 bt424.2.1 bt424.2.2.1 bt424.2.2.2.1 bt424.2.2.2.2.1 bt424.2.2.2.2.2.1 bt424.2.2.2.2.2.2.1 bt424.2.2.2.2.2.2.2.1 bt424.2.2.2.2.2.2.2.2 false false false false false false) else ((round_Round_Asks.f kj15 bt424.1 bt424.2.1 bt424.2.2.1 bt424.2.2.2.1 bt424.2.2.2.2.1 bt424.2.2.2.2.2.1 bt424.2.2.2.2.2.2.1 bt424.2.2.2.2.2.2.2.1 bt424.2.2.2.2.2.2.2.2 false false false false false false ([] : List (S43)) ([] : List (S48))).bind fun t439 => (if (t439.length : Int) = 1 then ((round_Round_Asks.f kj15 bt424.1 bt424.2.1 bt424.2.2.1 bt424.2.2.2.1 bt424.2.2.2.2.1 bt424.2.2.2.2.2.1 bt424.2.2.2.2.2.2.1 bt424.2.2.2.2.2.2.2.1 bt424.2.2.2.2.2.2.2.2 false false false false false false ([] : List (S43)) ([] : List (S48))).bind fun t442 => (if 0 < (t442.length : Int) then (ropewaylaw14_RoundAlone.j1 kj15 a1 (((rd_T27 t442 0).f2) != a1) a2_0 a2_1 a2_2 a2_3 a2_4 a2_5 a2_6 l2_7 l2_8 bt424.1 bt424.2.1 bt424.2.2.1 bt424.2.2.2.1 bt424.2.2.2.2.1 bt424.2.2.2.2.2.1 bt424.2.2.2.2.2.2.1 bt424.2.2.2.2.2.2.2.1 bt424.2.2.2.2.2.2.2.2 false false false false false false) else (none))) else (ropewaylaw14_RoundAlone.j1 kj15 a1 true a2_0 a2_1 a2_2 a2_3 a2_4 a2_5 a2_6 l2_7 l2_8 bt424.1 bt424.2.1 bt424.2.2.1 bt424.2.2.2.1 bt424.2.2.2.2.1 bt424.2.2.2.2.2.1 bt424.2.2.2.2.2.2.1 bt424.2.2.2.2.2.2.2.1 bt424.2.2.2.2.2.2.2.2 false false false false false false)))))) else (none)) = some r := by rw [if_neg (show ¬ (false = true) by decide)] at H; exact H
    clear H
    have H := H1
    clear H1
    by_cases c34 : 0 ≤ a1
    rotate_left
    · rw [if_neg c34] at H
      exact absurd H (by simp)
    rw [if_pos c34] at H
    have c34b0 := eq_true c34
    have c34b1 : decide (0 ≤ a1) = true := decide_eq_true c34
    clear c34
    obtain ⟨ji35, hji35⟩ : ∃ j_ : Int, (shl .i64 1 a1) = j_ := ⟨_, rfl⟩
    replace H : ((msg_Copy.f a0_0 a0_1 0 a0_3 a0_4 (ji35) 0 l0_7 l0_8).bind fun bt424 => ((round_Round_Done.f kj15 bt424.1 bt424.2.1 bt424.2.2.1 bt424.2.2.2.1 bt424.2.2.2.2.1 bt424.2.2.2.2.2.1 bt424.2.2.2.2.2.2.1 bt424.2.2.2.2.2.2.2.1 bt424.2.2.2.2.2.2.2.2 false false false false false false ([] : List (S43)) ([] : List (S48))).bind fun t438 => (if t438 = true then (ropewaylaw14_RoundAlone.j1 kj15 a1 true a2_0 a2_1 a2_2 a2_3 a2_4 a2_5 a2_6 l2_7 l2_8 bt424.1 bt424.2.1 bt424.2.2.1 bt424.2.2.2.1 bt424.2.2.2.2.1 bt424.2.2.2.2.2.1 bt424.2.2.2.2.2.2.1 bt424.2.2.2.2.2.2.2.1 bt424.2.2.2.2.2.2.2.2 false false false false false false) else ((round_Round_Asks.f kj15 bt424.1 bt424.2.1 bt424.2.2.1 bt424.2.2.2.1 bt424.2.2.2.2.1 bt424.2.2.2.2.2.1 bt424.2.2.2.2.2.2.1 bt424.2.2.2.2.2.2.2.1 bt424.2.2.2.2.2.2.2.2 false false false false false false ([] : List (S43)) ([] : List (S48))).bind fun t439 => (if (t439.length : Int) = 1 then ((round_Round_Asks.f kj15 bt424.1 bt424.2.1 bt424.2.2.1 bt424.2.2.2.1 bt424.2.2.2.2.1 bt424.2.2.2.2.2.1 bt424.2.2.2.2.2.2.1 bt424.2.2.2.2.2.2.2.1 bt424.2.2.2.2.2.2.2.2 false false false false false false ([] : List (S43)) ([] : List (S48))).bind fun t442 => (if 0 < (t442.length : Int) then (ropewaylaw14_RoundAlone.j1 kj15 a1 (((rd_T27 t442 0).f2) != a1) a2_0 a2_1 a2_2 a2_3 a2_4 a2_5 a2_6 l2_7 l2_8 bt424.1 bt424.2.1 bt424.2.2.1 bt424.2.2.2.1 bt424.2.2.2.2.1 bt424.2.2.2.2.2.1 bt424.2.2.2.2.2.2.1 bt424.2.2.2.2.2.2.2.1 bt424.2.2.2.2.2.2.2.2 false false false false false false) else (none))) else (ropewaylaw14_RoundAlone.j1 kj15 a1 true a2_0 a2_1 a2_2 a2_3 a2_4 a2_5 a2_6 l2_7 l2_8 bt424.1 bt424.2.1 bt424.2.2.1 bt424.2.2.2.1 bt424.2.2.2.2.1 bt424.2.2.2.2.2.1 bt424.2.2.2.2.2.2.1 bt424.2.2.2.2.2.2.2.1 bt424.2.2.2.2.2.2.2.2 false false false false false false)))))) = some r := by first | (rw [hji35] at H; exact H) | (simp only [hji35] at H ⊢; exact H)
    have hji35_ : (IntKind.i64.wrap (1 * 2 ^ min a1.toNat 64)) = ji35 := hji35
    have hji35z : a1 ≤ 64 → (IntKind.i64.wrap (1 * 2 ^ a1.toNat)) = ji35 := shl_small hji35
    have hji35u : (IntKind.i64.wrap (2 ^ min a1.toNat 64)) = ji35 := by have h_ := hji35_; rw [Int.one_mul] at h_; exact h_
    have hji35v : a1 ≤ 64 → (IntKind.i64.wrap (2 ^ a1.toNat)) = ji35 := fun hle_ => by have h_ := hji35z hle_; rw [Int.one_mul] at h_; exact h_
    have hji35y : (wrap64 (1 * 2 ^ min a1.toNat 64)) = ji35 := (i64_w _).symm.trans hji35_
    have hji35x : a1 ≤ 64 → (wrap64 (1 * 2 ^ a1.toNat)) = ji35 := fun h_ => (i64_w _).symm.trans (hji35z h_)
    have hnb36 := NB418_419.out
    have hnc36 := NB419_418.out
    obtain ⟨hcz37_0, hcz37_1, hcz37_2, hcz37_3, hcz37_4, hcz37_5, hcz37_6, hcz37_7, hcz37_8⟩ := r9_ BK418.out
    obtain ⟨hfz37_0, hfz37_1, hfz37_2, hfz37_3, hfz37_4, hfz37_5, hfz37_6, hfz37_7, hfz37_8⟩ := f9_ BK418.out
    have tk39 : True := trivial
    go_upto_region 7 with (first | ((with_reducible refine gate_store (t := 23) (p := 31) rfl ?_); clear tk39; refine store_event (t := 23) (p := 31) (v := ?vo_w38) (w1 := ((wc.setCell ⟨gb418, 5, none⟩ (.int .i64 ji35)).setCell ⟨gb418, 6, none⟩ (.int .i64 0))) ?hg ?ho ?hn ?hr ?_; (case ho => rfl); (case hg => rfl); (case hn => rfl); (case hr => first | (go_simp; done) | (go_simp; rfl)); intro w38 hw; replace BK419 : Aside0 (w38.heap[gb419]? = some (.cells #[.int .i64 a2_0, .int .i64 a2_1, .int .i64 a2_2, .int .i64 a2_3, .int .i64 a2_4, .int .i64 a2_5, .int .i64 a2_6, .slice A2_7 l2_7.length c2_7, .slice A2_8 l2_8.length c2_8] 27 (0, 0))) := ⟨(by rw [hw]; exact blf_)⟩; replace BK418 : Aside0 (w38.heap[gb418]? = some (.cells #[.int .i64 a0_0, .int .i64 a0_1, .int .i64 0, .int .i64 a0_3, .int .i64 a0_4, .int .i64 ji35, .int .i64 0, .slice A0_7 l0_7.length c0_7, .slice A0_8 l0_8.length c0_8] 27 (0, 0))) := ⟨(by rw [hw]; exact (by (with_reducible repeat (first | refine zN ?_ _ | refine zD ?_ | refine zA ?_ _)); refine blk_put (cs := #[.int .i64 a0_0, .int .i64 a0_1, .int .i64 0, .int .i64 a0_3, .int .i64 a0_4, .int .i64 ji35, .int .i64 a0_6, .slice A0_7 l0_7.length c0_7, .slice A0_8 l0_8.length c0_8]) ?_ 6 _ rfl; (with_reducible repeat (first | refine zN ?_ _ | refine zD ?_ | refine zA ?_ _)); refine blk_put (cs := #[.int .i64 a0_0, .int .i64 a0_1, .int .i64 0, .int .i64 a0_3, .int .i64 a0_4, .int .i64 a0_5, .int .i64 a0_6, .slice A0_7 l0_7.length c0_7, .slice A0_8 l0_8.length c0_8]) ?_ 5 _ rfl; (with_reducible repeat (first | refine zN ?_ _ | refine zD ?_ | refine zA ?_ _)); exact BK418.out))⟩; replace HB : Aside0 (Below w.heap.size w w38) := ⟨(by rw [hw]; exact bel_)⟩; clear hw))
    replace H := Option.bind_eq_some_iff.mp H
    obtain ⟨⟨t424, t425, t426, t427, t428, t429, t430, t431, t434⟩, A400, H⟩ := H
    replace H : ((round_Round_Done.f kj15 t424 t425 t426 t427 t428 t429 t430 t431 t434 false false false false false false ([] : List (S43)) ([] : List (S48))).bind fun t438 => (if t438 = true then (ropewaylaw14_RoundAlone.j1 kj15 a1 true a2_0 a2_1 a2_2 a2_3 a2_4 a2_5 a2_6 l2_7 l2_8 t424 t425 t426 t427 t428 t429 t430 t431 t434 false false false false false false) else ((round_Round_Asks.f kj15 t424 t425 t426 t427 t428 t429 t430 t431 t434 false false false false false false ([] : List (S43)) ([] : List (S48))).bind fun t439 => (if (t439.length : Int) = 1 then ((round_Round_Asks.f kj15 t424 t425 t426 t427 t428 t429 t430 t431 t434 false false false false false false ([] : List (S43)) ([] : List (S48))).bind fun t442 => (if 0 < (t442.length : Int) then (ropewaylaw14_RoundAlone.j1 kj15 a1 (((rd_T27 t442 0).f2) != a1) a2_0 a2_1 a2_2 a2_3 a2_4 a2_5 a2_6 l2_7 l2_8 t424 t425 t426 t427 t428 t429 t430 t431 t434 false false false false false false) else (none))) else (ropewaylaw14_RoundAlone.j1 kj15 a1 true a2_0 a2_1 a2_2 a2_3 a2_4 a2_5 a2_6 l2_7 l2_8 t424 t425 t426 t427 t428 t429 t430 t431 t434 false false false false false false))))) = some r := H
    have A40 := zM A400
    clear A400
    have hnb41 := NB418_419.out
    have hnc41 := NB419_418.out
    obtain ⟨hcz42_0, hcz42_1, hcz42_2, hcz42_3, hcz42_4, hcz42_5, hcz42_6, hcz42_7, hcz42_8⟩ := r9_ BK418.out
    obtain ⟨hfz42_0, hfz42_1, hfz42_2, hfz42_3, hfz42_4, hfz42_5, hfz42_6, hfz42_7, hfz42_8⟩ := f9_ BK418.out
    have tk43 : True := trivial
    have tk45 : True := trivial
    have tk50 : True := trivial
    have tk54 : True := trivial
    have tk55 : True := trivial
    go_upto_region 8 with (first | ((with_reducible refine gate_callee (f := 11) rfl ?_); clear tk43; refine goL_ (some 33) Try.func11 #[.agg #[.int .i64 a0_0, .int .i64 a0_1, .int .i64 0, .int .i64 a0_3, .int .i64 a0_4, .int .i64 ji35, .int .i64 0, .slice A0_7 l0_7.length c0_7, .slice A0_8 l0_8.length c0_8]] ?_; go_enter Try.func11, Try.ntmps11) | ((with_reducible refine gate_dst (N := 1) rfl ?_); clear tk45; (try (refine gate_guard (by rfl) ?_; dsimp only)); refine box_event ?hg (N := 1) ?hd (cs := #[.int .i64 a0_0, .int .i64 a0_1, .int .i64 0, .int .i64 a0_3, .int .i64 a0_4, .int .i64 ji35, .int .i64 0, .slice A0_7 l0_7.length c0_7, .slice A0_8 l0_8.length c0_8]) (t := 27) ?hr ?_; (case hd => rfl); (case hg => rfl); (case hr => first | (go_simp; done) | (go_simp; rfl)); intro gb423 hg w44 hbox hb; have BK423 := zM (hbox); have GW423 := zM (bs_ hg); have GE423 := zM (bs_ hg); replace HB := zM (zB bel_ hb); have NB418_423 := zM (nl_ BK418 hg); have NB423_418 := zM (ng_ BK418 hg); replace BK418 := zM (bb_ BK418 hb); have NB419_423 := zM (nl_ BK419 hg); have NB423_419 := zM (ng_ BK419 hg); replace BK419 := zM (bb_ BK419 hb); clear hb hbox hg; have hnb46 := NB423_418.out; have hnc46 := NB418_423.out; have hnb47 := NB423_419.out; have hnc47 := NB419_423.out; obtain ⟨hcz48_0, hcz48_1, hcz48_2, hcz48_3, hcz48_4, hcz48_5, hcz48_6, hcz48_7, hcz48_8⟩ := r9_ BK423.out; obtain ⟨hfz48_0, hfz48_1, hfz48_2, hfz48_3, hfz48_4, hfz48_5, hfz48_6, hfz48_7, hfz48_8⟩ := f9_ BK423.out) | ((with_reducible refine gate_callee (f := 39) rfl ?_); clear tk50; refine goesL_ (some 4) rfl rfl Try.func39 (by kernel_rfl) rfl #[.agg #[.int .i64 a0_0, .int .i64 a0_1, .int .i64 0, .int .i64 a0_3, .int .i64 a0_4, .int .i64 ji35, .int .i64 0, .slice A0_7 l0_7.length c0_7, .slice A0_8 l0_8.length c0_8]] rfl (by (try simp only [List.map_toArray, List.map_cons, List.map_nil]); first | done | (simp only [hji35]; rfl) | rfl | (simp only [List.length_drop, List.length_take]; rfl)) ?_; (with_reducible refine (msg_Copy.calls a0_0 a0_1 0 a0_3 a0_4 ji35 0 _ _ l0_7 _ _ l0_8 t424 t425 t426 t427 t428 t429 t430 t431 t434 _ ?side1 ?side2 ?side3 ?side4 A40.out).mono ?_); (case side1 => repeat (first | exact (Kd.C_below HR0_7.out HB.out) | (with_reducible refine Kd.C_alloc ?_ _) | (with_reducible refine Kd.C_drewN ?_ _) | (with_reducible refine Kd.C_drew ?_))); (case side2 => exact HC0_7.out); (case side3 => repeat (first | exact (Kd.C_below HR0_8.out HB.out) | (with_reducible refine Kd.C_alloc ?_ _) | (with_reducible refine Kd.C_drewN ?_ _) | (with_reducible refine Kd.C_drew ?_))); (case side4 => exact HC0_8.out); rintro e w49 ⟨v432, v435, rfl, ho0, ho1, hb⟩; refine ⟨_, rfl, ?_⟩; have HO433 := zM (Kd.R_lower ho0 (below_size bel_)); have HO436 := zM (Kd.R_lower ho1 (below_size bel_)); replace BK418 := zM (bb_ BK418 hb); replace BK419 := zM (bb_ BK419 hb); replace BK423 := zM (bb_ BK423 hb); replace HB := zM (zB bel_ hb); (try clear hb); (try clear ho0); (try clear ho1); obtain ⟨Ao51, co51, eo51⟩ := Kd.R_slice HO436.out; subst eo51; obtain ⟨Ao52, co52, eo52⟩ := Kd.R_slice HO433.out; subst eo52) | ((with_reducible refine gate_dst (N := 6) rfl ?_); clear tk54; (try (refine gate_guard (by rfl) ?_; dsimp only)); refine box_event ?hg (N := 6) ?hd (cs := #[.int .i64 t424, .int .i64 t425, .int .i64 t426, .int .i64 t427, .int .i64 t428, .int .i64 t429, .int .i64 t430, .slice Ao52 t431.length co52, .slice Ao51 t434.length co51, .bool false, .bool false, .bool false, .bool false, .bool false, .bool false, .slice none 0 0, .slice none 0 0]) (t := 71) ?hr ?_; (case hd => rfl); (case hg => rfl); (case hr => first | (go_simp; done) | (go_simp; rfl)); intro gb437 hg w53 hbox hb; replace HO433 := zM (Kd.R_below (rl_ HO433) hb); replace HO436 := zM (Kd.R_below (rl_ HO436) hb); have BK437 := zM (hbox); have GW437 := zM (bs_ hg); have GE437 := zM (bs_ hg); replace HB := zM (zB bel_ hb); have NB418_437 := zM (nl_ BK418 hg); have NB437_418 := zM (ng_ BK418 hg); replace BK418 := zM (bb_ BK418 hb); have NB419_437 := zM (nl_ BK419 hg); have NB437_419 := zM (ng_ BK419 hg); replace BK419 := zM (bb_ BK419 hb); have NB423_437 := zM (nl_ BK423 hg); have NB437_423 := zM (ng_ BK423 hg); replace BK423 := zM (bb_ BK423 hb); clear hb hbox hg) | (clear tk55; (first | go_ret | go_ret2 | go_ret3 | go_end0); with_reducible refine inl_back_ ?_))
    try clear hcz48_0
    try clear hcz48_1
    try clear hcz48_2
    try clear hcz48_3
    try clear hcz48_4
    try clear hcz48_5
    try clear hcz48_6
    try clear hcz48_7
    try clear hcz48_8
    try clear hfz48_0
    try clear hfz48_1
    try clear hfz48_2
    try clear hfz48_3
    try clear hfz48_4
    try clear hfz48_5
    try clear hfz48_6
    try clear hfz48_7
    try clear hfz48_8
    try clear hnb46
    try clear hnb47
    try clear hnc46
    try clear hnc47
    have HC56 := zM H
    clear H
    go_upto_region 8 with (fail)
    (try simp only [Act.put, zS, zZ, zC])
    go_cut [50] (fun v50 wc => ∃ (kq : Nat) (x50_55 : Bool) (x438000_55 : Int) (x438001_55 : Int) (x438002_55 : Int) (x438003_55 : Int) (x438004_55 : Int) (x438005_55 : Int) (x438006_55 : Int) (x438009_55 : Bool) (x438010_55 : Bool) (x438011_55 : Bool) (x438012_55 : Bool) (x438013_55 : Bool) (x438014_55 : Bool), v50 = .bool x50_55 ∧ Aside0 (ropewaylaw14_RoundAlone.j1 kq a1 x50_55 a2_0 a2_1 a2_2 a2_3 a2_4 a2_5 a2_6 l2_7 l2_8 x438000_55 x438001_55 x438002_55 x438003_55 x438004_55 x438005_55 x438006_55 t431 t434 x438009_55 x438010_55 x438011_55 x438012_55 x438013_55 x438014_55 = some r) ∧ Aside0 (kq ≤ kj15) ∧ Aside0 (Kd.R k43 43 wc w.heap.size (fun _ => True) (.slice Ao52 t431.length co52) t431) ∧ Aside0 (Kd.R k48 48 wc w.heap.size (fun _ => True) (.slice Ao51 t434.length co51) t434) ∧ Aside0 (wc.heap[gb418]? = some (.cells #[.int .i64 a0_0, .int .i64 a0_1, .int .i64 0, .int .i64 a0_3, .int .i64 a0_4, .int .i64 ji35, .int .i64 0, (.slice A0_7 l0_7.length c0_7), (.slice A0_8 l0_8.length c0_8)] 27 (0, 0))) ∧ Aside0 (wc.heap[gb419]? = some (.cells #[.int .i64 a2_0, .int .i64 a2_1, .int .i64 a2_2, .int .i64 a2_3, .int .i64 a2_4, .int .i64 a2_5, .int .i64 a2_6, (.slice A2_7 l2_7.length c2_7), (.slice A2_8 l2_8.length c2_8)] 27 (0, 0))) ∧ Aside0 (wc.heap[gb423]? = some (.cells #[.int .i64 a0_0, .int .i64 a0_1, .int .i64 0, .int .i64 a0_3, .int .i64 a0_4, .int .i64 ji35, .int .i64 0, (.slice A0_7 l0_7.length c0_7), (.slice A0_8 l0_8.length c0_8)] 27 (0, 0))) ∧ Aside0 (wc.heap[gb437]? = some (.cells #[.int .i64 x438000_55, .int .i64 x438001_55, .int .i64 x438002_55, .int .i64 x438003_55, .int .i64 x438004_55, .int .i64 x438005_55, .int .i64 x438006_55, (.slice Ao52 t431.length co52), (.slice Ao51 t434.length co51), .bool x438009_55, .bool x438010_55, .bool x438011_55, .bool x438012_55, .bool x438013_55, .bool x438014_55, (.slice none 0 0), (.slice none 0 0)] 71 (0, 0))) ∧ Aside0 (Below w.heap.size w wc))
    case first =>
     have H := HC56.out
     clear HC56
     replace H := Option.bind_eq_some_iff.mp H
     obtain ⟨t438, A570, H⟩ := H
     replace H : (if t438 = true then (ropewaylaw14_RoundAlone.j1 kj15 a1 true a2_0 a2_1 a2_2 a2_3 a2_4 a2_5 a2_6 l2_7 l2_8 t424 t425 t426 t427 t428 t429 t430 t431 t434 false false false false false false) else ((round_Round_Asks.f kj15 t424 t425 t426 t427 t428 t429 t430 t431 t434 false false false false false false ([] : List (S43)) ([] : List (S48))).bind fun t439 => (if (t439.length : Int) = 1 then ((round_Round_Asks.f kj15 t424 t425 t426 t427 t428 t429 t430 t431 t434 false false false false false false ([] : List (S43)) ([] : List (S48))).bind fun t442 => (if 0 < (t442.length : Int) then (ropewaylaw14_RoundAlone.j1 kj15 a1 (((rd_T27 t442 0).f2) != a1) a2_0 a2_1 a2_2 a2_3 a2_4 a2_5 a2_6 l2_7 l2_8 t424 t425 t426 t427 t428 t429 t430 t431 t434 false false false false false false) else (none))) else (ropewaylaw14_RoundAlone.j1 kj15 a1 true a2_0 a2_1 a2_2 a2_3 a2_4 a2_5 a2_6 l2_7 l2_8 t424 t425 t426 t427 t428 t429 t430 t431 t434 false false false false false false)))) = some r := H
     have A57 := zM A570
     clear A570
     by_cases c58 : t438 = true
     · subst c58
       have H1 : (ropewaylaw14_RoundAlone.j1 kj15 a1 true a2_0 a2_1 a2_2 a2_3 a2_4 a2_5 a2_6 l2_7 l2_8 t424 t425 t426 t427 t428 t429 t430 t431 t434 false false false false false false) = some r := by rw [if_pos rfl] at H; exact H
       clear H
       have H := H1
       clear H1
       have H' := zM H
       clear H
       have tk60 : True := trivial
       go_wp2_with (first | ((with_reducible refine gate_callee (f := 13) rfl ?_); clear tk60; refine goL_ (some 35) Try.func13 #[.pointer (some ⟨gb437, 0, none⟩)] ?_; (with_reducible refine calls_of_args (args' := #[.pointer (some ⟨gb437, 0, none⟩)]) rfl ?_); (refine (round_Round_Done.calls kj15 gb437 t424 t425 t426 t427 t428 t429 t430 Ao52 co52 t431 Ao51 co51 t434 false false false false false false none 0 ([] : List (S43)) none 0 ([] : List (S48)) true _ ?side1 ?side2 ?side3 ?side4 ?side5 ?side6 ?side7 ?side8 ?side9 A57.out).mono ?_); (case side1 => repeat (first | exact (Kd.R_reads' HO433.out).2.2 | (with_reducible refine Kd.C_alloc ?_ _) | (with_reducible refine Kd.C_drewN ?_ _) | (with_reducible refine Kd.C_drew ?_))); (case side2 => exact (Kd.R_reads' HO433.out).2.1); (case side3 => repeat (first | exact (Kd.R_reads' HO436.out).2.2 | (with_reducible refine Kd.C_alloc ?_ _) | (with_reducible refine Kd.C_drewN ?_ _) | (with_reducible refine Kd.C_drew ?_))); (case side4 => exact (Kd.R_reads' HO436.out).2.1); (case side5 => exact Kd.C_nil _ _); (case side6 => exact Nat.le_refl _); (case side7 => exact Kd.C_nil _ _); (case side8 => exact Nat.le_refl _); (case side9 => exact blf_); rintro e w59 ⟨rfl, hb⟩; refine ⟨_, rfl, ?_⟩; replace HO433 := zM (Kd.R_below (rl_ HO433) hb); replace HO436 := zM (Kd.R_below (rl_ HO436) hb); replace BK418 := zM (bb_ BK418 hb); replace BK419 := zM (bb_ BK419 hb); replace BK423 := zM (bb_ BK423 hb); replace BK437 := zM (bb_ BK437 hb); replace HB := zM (zB bel_ hb); (try clear hb); (try clear hi)))
       go_meet
       case rel => exact ⟨_, (true), (t424), (t425), (t426), (t427), (t428), (t429), (t430), (false), (false), (false), (false), (false), (false), (by first | rfl | (simp; done) | (simp [*]; done) | (simp; grind)), H', ⟨by have := HJ15.out; first | omega | exact Nat.le_refl _⟩, ⟨by (with_reducible repeat (first | apply Kd.R_alloc | apply Kd.R_drewN | apply Kd.R_drew)); exact HO433.out⟩, ⟨by (with_reducible repeat (first | apply Kd.R_alloc | apply Kd.R_drewN | apply Kd.R_drew)); exact HO436.out⟩, ⟨blf_⟩, ⟨blf_⟩, ⟨blf_⟩, ⟨blf_⟩, ⟨bel_⟩⟩
     replace c58 := Bool.eq_false_iff.mpr c58
     subst c58
     have H1 : ((round_Round_Asks.f kj15 t424 t425 t426 t427 t428 t429 t430 t431 t434 false false false false false false ([] : List (S43)) ([] : List (S48))).bind fun t439 => (if (t439.length : Int) = 1 then ((round_Round_Asks.f kj15 t424 t425 t426 t427 t428 t429 t430 t431 t434 false false false false false false ([] : List (S43)) ([] : List (S48))).bind fun t442 => (if 0 < (t442.length : Int) then (ropewaylaw14_RoundAlone.j1 kj15 a1 (((rd_T27 t442 0).f2) != a1) a2_0 a2_1 a2_2 a2_3 a2_4 a2_5 a2_6 l2_7 l2_8 t424 t425 t426 t427 t428 t429 t430 t431 t434 false false false false false false) else (none))) else (ropewaylaw14_RoundAlone.j1 kj15 a1 true a2_0 a2_1 a2_2 a2_3 a2_4 a2_5 a2_6 l2_7 l2_8 t424 t425 t426 t427 t428 t429 t430 t431 t434 false false false false false false))) = some r := by rw [if_neg (show ¬ (false = true) by decide)] at H; exact H
     clear H
     have H := H1
     clear H1
     replace H := Option.bind_eq_some_iff.mp H
     obtain ⟨t439, A610, H⟩ := H
     replace H : (if (t439.length : Int) = 1 then ((round_Round_Asks.f kj15 t424 t425 t426 t427 t428 t429 t430 t431 t434 false false false false false false ([] : List (S43)) ([] : List (S48))).bind fun t442 => (if 0 < (t442.length : Int) then (ropewaylaw14_RoundAlone.j1 kj15 a1 (((rd_T27 t442 0).f2) != a1) a2_0 a2_1 a2_2 a2_3 a2_4 a2_5 a2_6 l2_7 l2_8 t424 t425 t426 t427 t428 t429 t430 t431 t434 false false false false false false) else (none))) else (ropewaylaw14_RoundAlone.j1 kj15 a1 true a2_0 a2_1 a2_2 a2_3 a2_4 a2_5 a2_6 l2_7 l2_8 t424 t425 t426 t427 t428 t429 t430 t431 t434 false false false false false false)) = some r := H
     have A61 := zM A610
     clear A610
     by_cases c62 : (t439.length : Int) = 1
     rotate_left
     · rw [if_neg c62] at H
       have c62b0 : ((t439.length : Int) == 1) = false := beq_eq_false_iff_ne.mpr c62
       have c62b1 : ((t439.length : Int) != 1) = true := bne_iff_ne.mpr c62
       (first | rw [c62b0] | (simp only [i64_w, i32_w]; rw [c62b0]) | skip)
       have H' := zM H
       clear H
       have tk74 : True := trivial
       have tk76 : True := trivial
       go_wp2_with (first | ((with_reducible refine gate_callee (f := 13) rfl ?_); clear tk74; refine goL_ (some 35) Try.func13 #[.pointer (some ⟨gb437, 0, none⟩)] ?_; (with_reducible refine calls_of_args (args' := #[.pointer (some ⟨gb437, 0, none⟩)]) rfl ?_); (refine (round_Round_Done.calls kj15 gb437 t424 t425 t426 t427 t428 t429 t430 Ao52 co52 t431 Ao51 co51 t434 false false false false false false none 0 ([] : List (S43)) none 0 ([] : List (S48)) false _ ?side1 ?side2 ?side3 ?side4 ?side5 ?side6 ?side7 ?side8 ?side9 A57.out).mono ?_); (case side1 => repeat (first | exact (Kd.R_reads' HO433.out).2.2 | (with_reducible refine Kd.C_alloc ?_ _) | (with_reducible refine Kd.C_drewN ?_ _) | (with_reducible refine Kd.C_drew ?_))); (case side2 => exact (Kd.R_reads' HO433.out).2.1); (case side3 => repeat (first | exact (Kd.R_reads' HO436.out).2.2 | (with_reducible refine Kd.C_alloc ?_ _) | (with_reducible refine Kd.C_drewN ?_ _) | (with_reducible refine Kd.C_drew ?_))); (case side4 => exact (Kd.R_reads' HO436.out).2.1); (case side5 => exact Kd.C_nil _ _); (case side6 => exact Nat.le_refl _); (case side7 => exact Kd.C_nil _ _); (case side8 => exact Nat.le_refl _); (case side9 => exact blf_); rintro e w73 ⟨rfl, hb⟩; refine ⟨_, rfl, ?_⟩; replace HO433 := zM (Kd.R_below (rl_ HO433) hb); replace HO436 := zM (Kd.R_below (rl_ HO436) hb); replace BK418 := zM (bb_ BK418 hb); replace BK419 := zM (bb_ BK419 hb); replace BK423 := zM (bb_ BK423 hb); replace BK437 := zM (bb_ BK437 hb); replace HB := zM (zB bel_ hb); (try clear hb); (try clear hi)) | (go_at_call 15; (with_reducible refine calls_of_args (args' := #[.pointer (some ⟨gb437, 0, none⟩)]) rfl ?_); (refine (round_Round_Asks.calls kj15 gb437 t424 t425 t426 t427 t428 t429 t430 Ao52 co52 t431 Ao51 co51 t434 false false false false false false none 0 ([] : List (S43)) none 0 ([] : List (S48)) t439 _ ?side1 ?side2 ?side3 ?side4 ?side5 ?side6 ?side7 ?side8 ?side9 A61.out).mono ?_); (case side1 => repeat (first | exact (Kd.R_reads' HO433.out).2.2 | (with_reducible refine Kd.C_alloc ?_ _) | (with_reducible refine Kd.C_drewN ?_ _) | (with_reducible refine Kd.C_drew ?_))); (case side2 => exact (Kd.R_reads' HO433.out).2.1); (case side3 => repeat (first | exact (Kd.R_reads' HO436.out).2.2 | (with_reducible refine Kd.C_alloc ?_ _) | (with_reducible refine Kd.C_drewN ?_ _) | (with_reducible refine Kd.C_drew ?_))); (case side4 => exact (Kd.R_reads' HO436.out).2.1); (case side5 => exact Kd.C_nil _ _); (case side6 => exact Nat.le_refl _); (case side7 => exact Kd.C_nil _ _); (case side8 => exact Nat.le_refl _); (case side9 => exact blf_); clear tk76; rintro e w75 ⟨v440, rfl, ho0, hb⟩; have HO441 := zM (Kd.S_lower (Kd.S_newB (Kd.S_newB (Kd.S_newB (Kd.S_new' (Kd.S_new' ho0 (Kd.R_lt (rl_ HO433))) (Kd.R_lt (rl_ HO436))) (g := gb418) (o := .cells #[.int .i64 a0_0, .int .i64 a0_1, .int .i64 0, .int .i64 a0_3, .int .i64 a0_4, .int .i64 ji35, .int .i64 0, .slice A0_7 l0_7.length c0_7, .slice A0_8 l0_8.length c0_8] 27 (0, 0)) blk_) (g := gb419) (o := .cells #[.int .i64 a2_0, .int .i64 a2_1, .int .i64 a2_2, .int .i64 a2_3, .int .i64 a2_4, .int .i64 a2_5, .int .i64 a2_6, .slice A2_7 l2_7.length c2_7, .slice A2_8 l2_8.length c2_8] 27 (0, 0)) blk_) (g := gb423) (o := .cells #[.int .i64 a0_0, .int .i64 a0_1, .int .i64 0, .int .i64 a0_3, .int .i64 a0_4, .int .i64 ji35, .int .i64 0, .slice A0_7 l0_7.length c0_7, .slice A0_8 l0_8.length c0_8] 27 (0, 0)) blk_) (below_size bel_)); replace HO433 := zM (Kd.R_below (rl_ HO433) hb); replace HO436 := zM (Kd.R_below (rl_ HO436) hb); replace BK418 := zM (bb_ BK418 hb); replace BK419 := zM (bb_ BK419 hb); replace BK423 := zM (bb_ BK423 hb); replace BK437 := zM (bb_ BK437 hb); replace HB := zM (zB bel_ hb); (try clear hb); (try clear ho0); obtain ⟨Ao77, co77, eo77⟩ := Kd.S_slice HO441.out; subst eo77))
       go_meet
       case rel => exact ⟨_, (true), (t424), (t425), (t426), (t427), (t428), (t429), (t430), (false), (false), (false), (false), (false), (false), (by first | rfl | (simp; done) | (simp [*]; done) | (simp; grind)), H', ⟨by have := HJ15.out; first | omega | exact Nat.le_refl _⟩, ⟨by (with_reducible repeat (first | apply Kd.R_alloc | apply Kd.R_drewN | apply Kd.R_drew)); exact HO433.out⟩, ⟨by (with_reducible repeat (first | apply Kd.R_alloc | apply Kd.R_drewN | apply Kd.R_drew)); exact HO436.out⟩, ⟨blf_⟩, ⟨blf_⟩, ⟨blf_⟩, ⟨blf_⟩, ⟨bel_⟩⟩
     rw [if_pos c62] at H
     have c62b0 : ((t439.length : Int) == 1) = true := beq_iff_eq.mpr c62
     have c62b1 : ((t439.length : Int) != 1) = false := bne_eq_false_iff_eq.mpr c62
     clear c62
     (first | rw [c62b0] | (simp only [i64_w, i32_w]; rw [c62b0]) | skip)
     replace H := Option.bind_eq_some_iff.mp H
     obtain ⟨t442, A630, H⟩ := H
     replace H : (if 0 < (t442.length : Int) then (ropewaylaw14_RoundAlone.j1 kj15 a1 (((rd_T27 t442 0).f2) != a1) a2_0 a2_1 a2_2 a2_3 a2_4 a2_5 a2_6 l2_7 l2_8 t424 t425 t426 t427 t428 t429 t430 t431 t434 false false false false false false) else (none)) = some r := H
     have A63 := zM A630
     clear A630
     by_cases c64 : 0 < (t442.length : Int)
     rotate_left
     · rw [if_neg c64] at H
       exact absurd H (by simp)
     rw [if_pos c64] at H
     have c64b0 : decide (0 < (t442.length : Int)) = true := decide_eq_true c64
     have c64b1 : decide (0 < t442.length) = true := decide_eq_true (by omega)
     clear c64
     have H' := zM H
     clear H
     have tk66 : True := trivial
     have tk68 : True := trivial
     have tk71 : True := trivial
     go_wp2_with (first | ((with_reducible refine gate_callee (f := 13) rfl ?_); clear tk66; refine goL_ (some 35) Try.func13 #[.pointer (some ⟨gb437, 0, none⟩)] ?_; (with_reducible refine calls_of_args (args' := #[.pointer (some ⟨gb437, 0, none⟩)]) rfl ?_); (refine (round_Round_Done.calls kj15 gb437 t424 t425 t426 t427 t428 t429 t430 Ao52 co52 t431 Ao51 co51 t434 false false false false false false none 0 ([] : List (S43)) none 0 ([] : List (S48)) false _ ?side1 ?side2 ?side3 ?side4 ?side5 ?side6 ?side7 ?side8 ?side9 A57.out).mono ?_); (case side1 => repeat (first | exact (Kd.R_reads' HO433.out).2.2 | (with_reducible refine Kd.C_alloc ?_ _) | (with_reducible refine Kd.C_drewN ?_ _) | (with_reducible refine Kd.C_drew ?_))); (case side2 => exact (Kd.R_reads' HO433.out).2.1); (case side3 => repeat (first | exact (Kd.R_reads' HO436.out).2.2 | (with_reducible refine Kd.C_alloc ?_ _) | (with_reducible refine Kd.C_drewN ?_ _) | (with_reducible refine Kd.C_drew ?_))); (case side4 => exact (Kd.R_reads' HO436.out).2.1); (case side5 => exact Kd.C_nil _ _); (case side6 => exact Nat.le_refl _); (case side7 => exact Kd.C_nil _ _); (case side8 => exact Nat.le_refl _); (case side9 => exact blf_); rintro e w65 ⟨rfl, hb⟩; refine ⟨_, rfl, ?_⟩; replace HO433 := zM (Kd.R_below (rl_ HO433) hb); replace HO436 := zM (Kd.R_below (rl_ HO436) hb); replace BK418 := zM (bb_ BK418 hb); replace BK419 := zM (bb_ BK419 hb); replace BK423 := zM (bb_ BK423 hb); replace BK437 := zM (bb_ BK437 hb); replace HB := zM (zB bel_ hb); (try clear hb); (try clear hi)) | (go_at_call 15; (with_reducible refine calls_of_args (args' := #[.pointer (some ⟨gb437, 0, none⟩)]) rfl ?_); (refine (round_Round_Asks.calls kj15 gb437 t424 t425 t426 t427 t428 t429 t430 Ao52 co52 t431 Ao51 co51 t434 false false false false false false none 0 ([] : List (S43)) none 0 ([] : List (S48)) t439 _ ?side1 ?side2 ?side3 ?side4 ?side5 ?side6 ?side7 ?side8 ?side9 A61.out).mono ?_); (case side1 => repeat (first | exact (Kd.R_reads' HO433.out).2.2 | (with_reducible refine Kd.C_alloc ?_ _) | (with_reducible refine Kd.C_drewN ?_ _) | (with_reducible refine Kd.C_drew ?_))); (case side2 => exact (Kd.R_reads' HO433.out).2.1); (case side3 => repeat (first | exact (Kd.R_reads' HO436.out).2.2 | (with_reducible refine Kd.C_alloc ?_ _) | (with_reducible refine Kd.C_drewN ?_ _) | (with_reducible refine Kd.C_drew ?_))); (case side4 => exact (Kd.R_reads' HO436.out).2.1); (case side5 => exact Kd.C_nil _ _); (case side6 => exact Nat.le_refl _); (case side7 => exact Kd.C_nil _ _); (case side8 => exact Nat.le_refl _); (case side9 => exact blf_); clear tk68; rintro e w67 ⟨v440, rfl, ho0, hb⟩; have HO441 := zM (Kd.S_lower (Kd.S_newB (Kd.S_newB (Kd.S_newB (Kd.S_new' (Kd.S_new' ho0 (Kd.R_lt (rl_ HO433))) (Kd.R_lt (rl_ HO436))) (g := gb418) (o := .cells #[.int .i64 a0_0, .int .i64 a0_1, .int .i64 0, .int .i64 a0_3, .int .i64 a0_4, .int .i64 ji35, .int .i64 0, .slice A0_7 l0_7.length c0_7, .slice A0_8 l0_8.length c0_8] 27 (0, 0)) blk_) (g := gb419) (o := .cells #[.int .i64 a2_0, .int .i64 a2_1, .int .i64 a2_2, .int .i64 a2_3, .int .i64 a2_4, .int .i64 a2_5, .int .i64 a2_6, .slice A2_7 l2_7.length c2_7, .slice A2_8 l2_8.length c2_8] 27 (0, 0)) blk_) (g := gb423) (o := .cells #[.int .i64 a0_0, .int .i64 a0_1, .int .i64 0, .int .i64 a0_3, .int .i64 a0_4, .int .i64 ji35, .int .i64 0, .slice A0_7 l0_7.length c0_7, .slice A0_8 l0_8.length c0_8] 27 (0, 0)) blk_) (below_size bel_)); replace HO433 := zM (Kd.R_below (rl_ HO433) hb); replace HO436 := zM (Kd.R_below (rl_ HO436) hb); replace BK418 := zM (bb_ BK418 hb); replace BK419 := zM (bb_ BK419 hb); replace BK423 := zM (bb_ BK423 hb); replace BK437 := zM (bb_ BK437 hb); replace HB := zM (zB bel_ hb); (try clear hb); (try clear ho0); obtain ⟨Ao69, co69, eo69⟩ := Kd.S_slice HO441.out; subst eo69) | (go_at_call 15; (with_reducible refine calls_of_args (args' := #[.pointer (some ⟨gb437, 0, none⟩)]) rfl ?_); (refine (round_Round_Asks.calls kj15 gb437 t424 t425 t426 t427 t428 t429 t430 Ao52 co52 t431 Ao51 co51 t434 false false false false false false none 0 ([] : List (S43)) none 0 ([] : List (S48)) t442 _ ?side1 ?side2 ?side3 ?side4 ?side5 ?side6 ?side7 ?side8 ?side9 A63.out).mono ?_); (case side1 => repeat (first | exact (Kd.R_reads' HO433.out).2.2 | (with_reducible refine Kd.C_alloc ?_ _) | (with_reducible refine Kd.C_drewN ?_ _) | (with_reducible refine Kd.C_drew ?_))); (case side2 => exact (Kd.R_reads' HO433.out).2.1); (case side3 => repeat (first | exact (Kd.R_reads' HO436.out).2.2 | (with_reducible refine Kd.C_alloc ?_ _) | (with_reducible refine Kd.C_drewN ?_ _) | (with_reducible refine Kd.C_drew ?_))); (case side4 => exact (Kd.R_reads' HO436.out).2.1); (case side5 => exact Kd.C_nil _ _); (case side6 => exact Nat.le_refl _); (case side7 => exact Kd.C_nil _ _); (case side8 => exact Nat.le_refl _); (case side9 => exact blf_); clear tk71; rintro e w70 ⟨v443, rfl, ho0, hb⟩; have HO444 := zM (Kd.S_lower (Kd.S_newB (Kd.S_newB (Kd.S_newB (Kd.S_new' (Kd.S_new' (Kd.S_new' ho0 (Kd.R_lt (rl_ HO433))) (Kd.R_lt (rl_ HO436))) (Kd.S_lt (by (with_reducible repeat (first | apply Kd.S_alloc | apply Kd.S_drewN | apply Kd.S_drew)); exact HO441.out))) (g := gb418) (o := .cells #[.int .i64 a0_0, .int .i64 a0_1, .int .i64 0, .int .i64 a0_3, .int .i64 a0_4, .int .i64 ji35, .int .i64 0, .slice A0_7 l0_7.length c0_7, .slice A0_8 l0_8.length c0_8] 27 (0, 0)) blk_) (g := gb419) (o := .cells #[.int .i64 a2_0, .int .i64 a2_1, .int .i64 a2_2, .int .i64 a2_3, .int .i64 a2_4, .int .i64 a2_5, .int .i64 a2_6, .slice A2_7 l2_7.length c2_7, .slice A2_8 l2_8.length c2_8] 27 (0, 0)) blk_) (g := gb423) (o := .cells #[.int .i64 a0_0, .int .i64 a0_1, .int .i64 0, .int .i64 a0_3, .int .i64 a0_4, .int .i64 ji35, .int .i64 0, .slice A0_7 l0_7.length c0_7, .slice A0_8 l0_8.length c0_8] 27 (0, 0)) blk_) (below_size bel_)); replace HO433 := zM (Kd.R_below (rl_ HO433) hb); replace HO436 := zM (Kd.R_below (rl_ HO436) hb); replace HO441 := zM (Kd.S_elder' (by (with_reducible repeat (first | apply Kd.S_alloc | apply Kd.S_drewN | apply Kd.S_drew)); exact HO441.out) (Kd.S_base ho0) hb); replace BK418 := zM (bb_ BK418 hb); replace BK419 := zM (bb_ BK419 hb); replace BK423 := zM (bb_ BK423 hb); replace BK437 := zM (bb_ BK437 hb); replace HB := zM (zB bel_ hb); (try clear hb); (try clear ho0); obtain ⟨Ao72, co72, eo72⟩ := Kd.S_slice HO444.out; subst eo72; have p445 : 0 ≤ (0 : Int) := (by omega); have q445 : 0 < (t442.length : Int) := of_decide_eq_true (by first | (with_reducible assumption) | assumption); obtain ⟨ad445, A445_7, c445_7, A445_8, c445_8, e445, hx445_0, hx445_1, hx445_2, hx445_3, hx445_4, hx445_5, hx445_6, hx445_7, hx445_8, hl445_7, hi445_7, hl445_8, hi445_8⟩ := at_T27 (Kd.S_reads' HO444.out).2.2 0 p445 q445; cases e445; obtain ⟨ce445, hce445, hMe445, hcc445⟩ := Kd.S_get HO444.out z27 0 p445 (by first | exact q445 | exact of_decide_eq_true (by first | (with_reducible assumption) | assumption) | (have e_ := (Kd.S_reads' HO444.out).1; omega)); obtain ⟨ve445_7, ve445_8, rfl, ge445_7, ge445_8⟩ := k27_openM hMe445; have hv445_7 := hcc445 7 _ rfl; rw [add_field _ _ 7 (by omega)] at hv445_7; replace hv445_7 := Option.some.inj (hv445_7.symm.trans hx445_7); rw [hv445_7] at ge445_7; have HL445_7 := zM (show Kd.R k43 43 _ _ _ _ ((rd_T27 t442 0).f6) from ge445_7); clear hv445_7 ge445_7; have hv445_8 := hcc445 8 _ rfl; rw [add_field _ _ 8 (by omega)] at hv445_8; replace hv445_8 := Option.some.inj (hv445_8.symm.trans hx445_8); rw [hv445_8] at ge445_8; have HL445_8 := zM (show Kd.R k48 48 _ _ _ _ ((rd_T27 t442 0).f7) from ge445_8); clear hv445_8 ge445_8; clear hcc445 hce445; have qi445 : (0 < t442.length) = True := eq_true (by omega); (try rw [show ((0 : Int)).toNat = 0 from rfl] at hx445_0); (try rw [show 0 * 9 = 0 from rfl] at hx445_0); (try rw [Addr.add_zero'] at hx445_0); (try rw [show ((0 : Int)).toNat = 0 from rfl] at hx445_1); (try rw [show 0 * 9 = 0 from rfl] at hx445_1); (try rw [Addr.add_zero'] at hx445_1); (try rw [show ((0 : Int)).toNat = 0 from rfl] at hx445_2); (try rw [show 0 * 9 = 0 from rfl] at hx445_2); (try rw [Addr.add_zero'] at hx445_2); (try rw [show ((0 : Int)).toNat = 0 from rfl] at hx445_3); (try rw [show 0 * 9 = 0 from rfl] at hx445_3); (try rw [Addr.add_zero'] at hx445_3); (try rw [show ((0 : Int)).toNat = 0 from rfl] at hx445_4); (try rw [show 0 * 9 = 0 from rfl] at hx445_4); (try rw [Addr.add_zero'] at hx445_4); (try rw [show ((0 : Int)).toNat = 0 from rfl] at hx445_5); (try rw [show 0 * 9 = 0 from rfl] at hx445_5); (try rw [Addr.add_zero'] at hx445_5); (try rw [show ((0 : Int)).toNat = 0 from rfl] at hx445_6); (try rw [show 0 * 9 = 0 from rfl] at hx445_6); (try rw [Addr.add_zero'] at hx445_6); (try rw [show ((0 : Int)).toNat = 0 from rfl] at hx445_7); (try rw [show 0 * 9 = 0 from rfl] at hx445_7); (try rw [Addr.add_zero'] at hx445_7); (try rw [show ((0 : Int)).toNat = 0 from rfl] at hx445_8); (try rw [show 0 * 9 = 0 from rfl] at hx445_8); (try rw [Addr.add_zero'] at hx445_8); have HR445_7 := zM hi445_7; have HC445_7 := zM hl445_7; clear hi445_7 hl445_7; have HR445_8 := zM hi445_8; have HC445_8 := zM hl445_8; clear hi445_8 hl445_8; replace p445 := eq_true p445; replace q445 := eq_true q445))
     go_meet
     case rel => exact ⟨_, ((((rd_T27 t442 0).f2) != a1)), (t424), (t425), (t426), (t427), (t428), (t429), (t430), (false), (false), (false), (false), (false), (false), (by first | rfl | (simp; done) | (simp [*]; done) | (simp; grind)), H', ⟨by have := HJ15.out; first | omega | exact Nat.le_refl _⟩, ⟨by (with_reducible repeat (first | apply Kd.R_alloc | apply Kd.R_drewN | apply Kd.R_drew)); exact HO433.out⟩, ⟨by (with_reducible repeat (first | apply Kd.R_alloc | apply Kd.R_drewN | apply Kd.R_drew)); exact HO436.out⟩, ⟨blf_⟩, ⟨blf_⟩, ⟨blf_⟩, ⟨blf_⟩, ⟨bel_⟩⟩
    case rest =>
     clear HC56
     try clear c9
     try clear c17
     try clear c17b0
     try clear c18
     try clear c18b0
     try clear c20
     try clear c33
     try clear c34
     try clear c34b0
     try clear c34b1
     try clear c58
     try clear c62
     try clear c62b0
     try clear c62b1
     try clear c64
     try clear c64b0
     try clear c64b1
     try clear hcz13_0
     try clear hcz13_1
     try clear hcz13_2
     try clear hcz13_3
     try clear hcz13_4
     try clear hcz13_5
     try clear hcz13_6
     try clear hcz13_7
     try clear hcz13_8
     try clear hcz23_0
     try clear hcz23_1
     try clear hcz23_2
     try clear hcz23_3
     try clear hcz23_4
     try clear hcz23_5
     try clear hcz23_6
     try clear hcz23_7
     try clear hcz23_8
     try clear hcz26_0
     try clear hcz26_1
     try clear hcz26_2
     try clear hcz26_3
     try clear hcz26_4
     try clear hcz26_5
     try clear hcz26_6
     try clear hcz26_7
     try clear hcz26_8
     try clear hcz30_0
     try clear hcz30_1
     try clear hcz30_2
     try clear hcz30_3
     try clear hcz30_4
     try clear hcz30_5
     try clear hcz30_6
     try clear hcz30_7
     try clear hcz30_8
     try clear hcz37_0
     try clear hcz37_1
     try clear hcz37_2
     try clear hcz37_3
     try clear hcz37_4
     try clear hcz37_5
     try clear hcz37_6
     try clear hcz37_7
     try clear hcz37_8
     try clear hcz42_0
     try clear hcz42_1
     try clear hcz42_2
     try clear hcz42_3
     try clear hcz42_4
     try clear hcz42_5
     try clear hcz42_6
     try clear hcz42_7
     try clear hcz42_8
     try clear hcz48_0
     try clear hcz48_1
     try clear hcz48_2
     try clear hcz48_3
     try clear hcz48_4
     try clear hcz48_5
     try clear hcz48_6
     try clear hcz48_7
     try clear hcz48_8
     try clear hfz13_0
     try clear hfz13_1
     try clear hfz13_2
     try clear hfz13_3
     try clear hfz13_4
     try clear hfz13_5
     try clear hfz13_6
     try clear hfz13_7
     try clear hfz13_8
     try clear hfz23_0
     try clear hfz23_1
     try clear hfz23_2
     try clear hfz23_3
     try clear hfz23_4
     try clear hfz23_5
     try clear hfz23_6
     try clear hfz23_7
     try clear hfz23_8
     try clear hfz26_0
     try clear hfz26_1
     try clear hfz26_2
     try clear hfz26_3
     try clear hfz26_4
     try clear hfz26_5
     try clear hfz26_6
     try clear hfz26_7
     try clear hfz26_8
     try clear hfz30_0
     try clear hfz30_1
     try clear hfz30_2
     try clear hfz30_3
     try clear hfz30_4
     try clear hfz30_5
     try clear hfz30_6
     try clear hfz30_7
     try clear hfz30_8
     try clear hfz37_0
     try clear hfz37_1
     try clear hfz37_2
     try clear hfz37_3
     try clear hfz37_4
     try clear hfz37_5
     try clear hfz37_6
     try clear hfz37_7
     try clear hfz37_8
     try clear hfz42_0
     try clear hfz42_1
     try clear hfz42_2
     try clear hfz42_3
     try clear hfz42_4
     try clear hfz42_5
     try clear hfz42_6
     try clear hfz42_7
     try clear hfz42_8
     try clear hfz48_0
     try clear hfz48_1
     try clear hfz48_2
     try clear hfz48_3
     try clear hfz48_4
     try clear hfz48_5
     try clear hfz48_6
     try clear hfz48_7
     try clear hfz48_8
     try clear hx445_0
     try clear hx445_1
     try clear hx445_2
     try clear hx445_3
     try clear hx445_4
     try clear hx445_5
     try clear hx445_6
     try clear hx445_7
     try clear hx445_8
     try clear p445
     try clear q445
     obtain ⟨kq, x50_55, x438000_55, x438001_55, x438002_55, x438003_55, x438004_55, x438005_55, x438006_55, x438009_55, x438010_55, x438011_55, x438012_55, x438013_55, x438014_55, rfl, HA, HJ55, HO_438007, HO_438008, BK418, BK419, BK423, BK437, HB⟩ := hcut
     cases kq with
     | zero => exact absurd HA.out (by simp [ropewaylaw14_RoundAlone.j1])
     | succ kj55 =>
      have H := HA.out
      clear HA
      simp only [ropewaylaw14_RoundAlone.j1] at H
      by_cases c78 : x50_55 = true
      · subst c78
        have H1 : (some false) = some r := by rw [if_pos rfl] at H; exact H
        clear H
        have H := H1
        clear H1
        exact absurd (Option.some.inj H) (by rw [hr1_.out]; decide)
      replace c78 := Bool.eq_false_iff.mpr c78
      subst c78
      have H1 : ((view_In.f x438005_55 x438006_55 a2_1).bind fun t447 => (if t447 = true then (if 0 ≤ a2_1 then (if a2_1 < 6 then (if rdOf false [x438009_55, x438010_55, x438011_55, x438012_55, x438013_55, x438014_55] a2_1 = true then (ropewaylaw14_RoundAlone.j2 kj55 a1 false a2_0 a2_1 a2_2 a2_3 a2_4 a2_5 a2_6 l2_7 l2_8 x438000_55 x438001_55 x438002_55 x438003_55 x438004_55 x438005_55 x438006_55 t431 t434 x438009_55 x438010_55 x438011_55 x438012_55 x438013_55 x438014_55 ([] : List (S43)) ([] : List (S48))) else ((round_Round_to.f x438000_55 x438001_55 x438002_55 x438003_55 x438004_55 x438005_55 x438006_55 t431 t434 x438009_55 x438010_55 x438011_55 x438012_55 x438013_55 x438014_55 ([] : List (S43)) ([] : List (S48)) a2_1).bind fun bt448 => ((msg_Answers.f bt448.1 bt448.2.1 bt448.2.2.1 bt448.2.2.2.1 bt448.2.2.2.2.1 bt448.2.2.2.2.2.1 bt448.2.2.2.2.2.2.1 bt448.2.2.2.2.2.2.2.1 bt448.2.2.2.2.2.2.2.2 a2_0 a2_1 a2_2 a2_3 a2_4 a2_5 a2_6 l2_7 l2_8).bind fun t461 => (if t461 = true then ((cells_Merge.f kj55 ([] : List (S43)) l2_7).bind fun t462 => ((book_Merge.f kj55 ([] : List (S48)) l2_8).bind fun t465 => (ropewaylaw14_RoundAlone.j2 kj55 a1 true a2_0 a2_1 a2_2 a2_3 a2_4 a2_5 a2_6 l2_7 l2_8 x438000_55 x438001_55 x438002_55 x438003_55 x438004_55 x438005_55 x438006_55 t431 t434 (stA a2_1 0 true x438009_55) (stA a2_1 1 true x438010_55) (stA a2_1 2 true x438011_55) (stA a2_1 3 true x438012_55) (stA a2_1 4 true x438013_55) (stA a2_1 5 true x438014_55) t462 t465))) else (ropewaylaw14_RoundAlone.j2 kj55 a1 false a2_0 a2_1 a2_2 a2_3 a2_4 a2_5 a2_6 l2_7 l2_8 x438000_55 x438001_55 x438002_55 x438003_55 x438004_55 x438005_55 x438006_55 t431 t434 x438009_55 x438010_55 x438011_55 x438012_55 x438013_55 x438014_55 ([] : List (S43)) ([] : List (S48))))))) else (none)) else (none)) else (ropewaylaw14_RoundAlone.j2 kj55 a1 false a2_0 a2_1 a2_2 a2_3 a2_4 a2_5 a2_6 l2_7 l2_8 x438000_55 x438001_55 x438002_55 x438003_55 x438004_55 x438005_55 x438006_55 t431 t434 x438009_55 x438010_55 x438011_55 x438012_55 x438013_55 x438014_55 ([] : List (S43)) ([] : List (S48))))) = some r := by rw [if_neg (show ¬ (false = true) by decide)] at H; exact H
      clear H
      have H := H1
      clear H1
      have HC79 := zM H
      clear H
      go_upto_region 10 with (fail)
      (try simp only [Act.put, zS, zZ, zC])
      go_cut [8] (fun v8 wc => ∃ (kq : Nat) (x8_78 : Bool) (x438000_78 : Int) (x438001_78 : Int) (x438002_78 : Int) (x438003_78 : Int) (x438004_78 : Int) (x438005_78 : Int) (x438006_78 : Int) (x438009_78 : Bool) (x438010_78 : Bool) (x438011_78 : Bool) (x438012_78 : Bool) (x438013_78 : Bool) (x438014_78 : Bool) (x438015_78 : List (S43)) (x438016_78 : List (S48)) (u438015 : Value) (u438016 : Value), v8 = .bool x8_78 ∧ Aside0 (ropewaylaw14_RoundAlone.j2 kq a1 x8_78 a2_0 a2_1 a2_2 a2_3 a2_4 a2_5 a2_6 l2_7 l2_8 x438000_78 x438001_78 x438002_78 x438003_78 x438004_78 x438005_78 x438006_78 t431 t434 x438009_78 x438010_78 x438011_78 x438012_78 x438013_78 x438014_78 x438015_78 x438016_78 = some r) ∧ Aside0 (kq ≤ kj55) ∧ Aside0 (Kd.R k43 43 wc w.heap.size (fun k_ => some k_ ≠ (u438015 : Value).ownBlock) (.slice Ao52 t431.length co52) t431) ∧ Aside0 (Kd.R k48 48 wc w.heap.size (fun k_ => some k_ ≠ (u438016 : Value).ownBlock) (.slice Ao51 t434.length co51) t434) ∧ Aside0 (Kd.R k43 43 wc w.heap.size (fun k_ => some k_ ≠ ((.slice Ao52 t431.length co52) : Value).ownBlock) u438015 x438015_78) ∧ Aside0 (Kd.R k48 48 wc w.heap.size (fun k_ => some k_ ≠ ((.slice Ao51 t434.length co51) : Value).ownBlock) u438016 x438016_78) ∧ Aside0 (wc.heap[gb418]? = some (.cells #[.int .i64 a0_0, .int .i64 a0_1, .int .i64 0, .int .i64 a0_3, .int .i64 a0_4, .int .i64 ji35, .int .i64 0, (.slice A0_7 l0_7.length c0_7), (.slice A0_8 l0_8.length c0_8)] 27 (0, 0))) ∧ Aside0 (wc.heap[gb419]? = some (.cells #[.int .i64 a2_0, .int .i64 a2_1, .int .i64 a2_2, .int .i64 a2_3, .int .i64 a2_4, .int .i64 a2_5, .int .i64 a2_6, (.slice A2_7 l2_7.length c2_7), (.slice A2_8 l2_8.length c2_8)] 27 (0, 0))) ∧ Aside0 (wc.heap[gb423]? = some (.cells #[.int .i64 a0_0, .int .i64 a0_1, .int .i64 0, .int .i64 a0_3, .int .i64 a0_4, .int .i64 ji35, .int .i64 0, (.slice A0_7 l0_7.length c0_7), (.slice A0_8 l0_8.length c0_8)] 27 (0, 0))) ∧ Aside0 (wc.heap[gb437]? = some (.cells #[.int .i64 x438000_78, .int .i64 x438001_78, .int .i64 x438002_78, .int .i64 x438003_78, .int .i64 x438004_78, .int .i64 x438005_78, .int .i64 x438006_78, (.slice Ao52 t431.length co52), (.slice Ao51 t434.length co51), .bool x438009_78, .bool x438010_78, .bool x438011_78, .bool x438012_78, .bool x438013_78, .bool x438014_78, u438015, u438016] 71 (0, 0))) ∧ Aside0 (Below w.heap.size w wc))
      case first =>
       have H := HC79.out
       clear HC79
       replace H := Option.bind_eq_some_iff.mp H
       obtain ⟨t447, A800, H⟩ := H
       replace H : (if t447 = true then (if 0 ≤ a2_1 then (if a2_1 < 6 then (if rdOf false [x438009_55, x438010_55, x438011_55, x438012_55, x438013_55, x438014_55] a2_1 = true then (ropewaylaw14_RoundAlone.j2 kj55 a1 false a2_0 a2_1 a2_2 a2_3 a2_4 a2_5 a2_6 l2_7 l2_8 x438000_55 x438001_55 x438002_55 x438003_55 x438004_55 x438005_55 x438006_55 t431 t434 x438009_55 x438010_55 x438011_55 x438012_55 x438013_55 x438014_55 ([] : List (S43)) ([] : List (S48))) else ((round_Round_to.f x438000_55 x438001_55 x438002_55 x438003_55 x438004_55 x438005_55 x438006_55 t431 t434 x438009_55 x438010_55 x438011_55 x438012_55 x438013_55 x438014_55 ([] : List (S43)) ([] : List (S48)) a2_1).bind fun bt448 => ((msg_Answers.f bt448.1 bt448.2.1 bt448.2.2.1 bt448.2.2.2.1 bt448.2.2.2.2.1 bt448.2.2.2.2.2.1 bt448.2.2.2.2.2.2.1 bt448.2.2.2.2.2.2.2.1 bt448.2.2.2.2.2.2.2.2 a2_0 a2_1 a2_2 a2_3 a2_4 a2_5 a2_6 l2_7 l2_8).bind fun t461 => (if t461 = true then ((cells_Merge.f kj55 ([] : List (S43)) l2_7).bind fun t462 => ((book_Merge.f kj55 ([] : List (S48)) l2_8).bind fun t465 => (ropewaylaw14_RoundAlone.j2 kj55 a1 true a2_0 a2_1 a2_2 a2_3 a2_4 a2_5 a2_6 l2_7 l2_8 x438000_55 x438001_55 x438002_55 x438003_55 x438004_55 x438005_55 x438006_55 t431 t434 (stA a2_1 0 true x438009_55) (stA a2_1 1 true x438010_55) (stA a2_1 2 true x438011_55) (stA a2_1 3 true x438012_55) (stA a2_1 4 true x438013_55) (stA a2_1 5 true x438014_55) t462 t465))) else (ropewaylaw14_RoundAlone.j2 kj55 a1 false a2_0 a2_1 a2_2 a2_3 a2_4 a2_5 a2_6 l2_7 l2_8 x438000_55 x438001_55 x438002_55 x438003_55 x438004_55 x438005_55 x438006_55 t431 t434 x438009_55 x438010_55 x438011_55 x438012_55 x438013_55 x438014_55 ([] : List (S43)) ([] : List (S48))))))) else (none)) else (none)) else (ropewaylaw14_RoundAlone.j2 kj55 a1 false a2_0 a2_1 a2_2 a2_3 a2_4 a2_5 a2_6 l2_7 l2_8 x438000_55 x438001_55 x438002_55 x438003_55 x438004_55 x438005_55 x438006_55 t431 t434 x438009_55 x438010_55 x438011_55 x438012_55 x438013_55 x438014_55 ([] : List (S43)) ([] : List (S48)))) = some r := H
       have A80 := zM A800
       clear A800
       by_cases c81 : t447 = true
       rotate_left
       · replace c81 := Bool.eq_false_iff.mpr c81
         subst c81
         have H1 : (ropewaylaw14_RoundAlone.j2 kj55 a1 false a2_0 a2_1 a2_2 a2_3 a2_4 a2_5 a2_6 l2_7 l2_8 x438000_55 x438001_55 x438002_55 x438003_55 x438004_55 x438005_55 x438006_55 t431 t434 x438009_55 x438010_55 x438011_55 x438012_55 x438013_55 x438014_55 ([] : List (S43)) ([] : List (S48))) = some r := by rw [if_neg (show ¬ (false = true) by decide)] at H; exact H
         clear H
         have H := H1
         clear H1
         have H' := zM H
         clear H
         have hnb145 := NB419_418.out
         have hnc145 := NB418_419.out
         have hnb146 := NB419_423.out
         have hnc146 := NB423_419.out
         have hnb147 := NB419_437.out
         have hnc147 := NB437_419.out
         obtain ⟨hcz148_0, hcz148_1, hcz148_2, hcz148_3, hcz148_4, hcz148_5, hcz148_6, hcz148_7, hcz148_8⟩ := r9_ BK419.out
         obtain ⟨hfz148_0, hfz148_1, hfz148_2, hfz148_3, hfz148_4, hfz148_5, hfz148_6, hfz148_7, hfz148_8⟩ := f9_ BK419.out
         have tk149 : True := trivial
         have tk151 : True := trivial
         try go_wp2_with (first | ((with_reducible refine gate_callee (f := 12) rfl ?_); clear tk149; refine goL_ (some 53) Try.func12 #[.pointer (some ⟨gb437, 0, none⟩), .agg #[.int .i64 a2_0, .int .i64 a2_1, .int .i64 a2_2, .int .i64 a2_3, .int .i64 a2_4, .int .i64 a2_5, .int .i64 a2_6, .slice A2_7 l2_7.length c2_7, .slice A2_8 l2_8.length c2_8]] ?_; go_enter Try.func12, Try.ntmps12) | ((with_reducible refine gate_dst (N := 3) rfl ?_); clear tk151; (try (refine gate_guard (by rfl) ?_; dsimp only)); refine box_event ?hg (N := 3) ?hd (cs := #[.int .i64 a2_0, .int .i64 a2_1, .int .i64 a2_2, .int .i64 a2_3, .int .i64 a2_4, .int .i64 a2_5, .int .i64 a2_6, .slice A2_7 l2_7.length c2_7, .slice A2_8 l2_8.length c2_8]) (t := 27) ?hr ?_; (case hd => rfl); (case hg => rfl); (case hr => first | (go_simp; done) | (go_simp; rfl)); intro gb446 hg w150 hbox hb; replace HO_438007 := zM (Kd.R_below (rl_ HO_438007) hb); replace HO_438008 := zM (Kd.R_below (rl_ HO_438008) hb); have BK446 := zM (hbox); have GW446 := zM (bs_ hg); have GE446 := zM (bs_ hg); replace HB := zM (zB bel_ hb); have NB418_446 := zM (nl_ BK418 hg); have NB446_418 := zM (ng_ BK418 hg); replace BK418 := zM (bb_ BK418 hb); have NB419_446 := zM (nl_ BK419 hg); have NB446_419 := zM (ng_ BK419 hg); replace BK419 := zM (bb_ BK419 hb); have NB423_446 := zM (nl_ BK423 hg); have NB446_423 := zM (ng_ BK423 hg); replace BK423 := zM (bb_ BK423 hb); have NB437_446 := zM (nl_ BK437 hg); have NB446_437 := zM (ng_ BK437 hg); replace BK437 := zM (bb_ BK437 hb); clear hb hbox hg))
         replace HO_438007 := zM (Kd.R_drew HO_438007.out)
         replace HO_438008 := zM (Kd.R_drew HO_438008.out)
         replace BK418 := zM (zD BK418.out)
         replace BK419 := zM (zD BK419.out)
         replace BK423 := zM (zD BK423.out)
         replace BK437 := zM (zD BK437.out)
         replace BK446 := zM (zD BK446.out)
         replace HB := zM (below_drew1 HB.out)
         refine start_ (n := 27) (S := fun w' => w'.cell? ⟨gb437, 0, none⟩ = some (.int .i64 x438000_55) ∧ w'.cell? ⟨gb437, 1, none⟩ = some (.int .i64 x438001_55) ∧ w'.cell? ⟨gb437, 2, none⟩ = some (.int .i64 x438002_55) ∧ w'.cell? ⟨gb437, 3, none⟩ = some (.int .i64 x438003_55) ∧ w'.cell? ⟨gb437, 4, none⟩ = some (.int .i64 x438004_55) ∧ w'.cell? ⟨gb437, 5, none⟩ = some (.int .i64 x438005_55) ∧ w'.cell? ⟨gb437, 6, none⟩ = some (.int .i64 x438006_55) ∧ w'.cell? ⟨gb437, 7, none⟩ = some (.slice Ao52 t431.length co52) ∧ w'.cell? ⟨gb437, 8, none⟩ = some (.slice Ao51 t434.length co51) ∧ w'.cell? ⟨gb437, 9, none⟩ = some (.bool x438009_55) ∧ w'.cell? ⟨gb437, 10, none⟩ = some (.bool x438010_55) ∧ w'.cell? ⟨gb437, 11, none⟩ = some (.bool x438011_55) ∧ w'.cell? ⟨gb437, 12, none⟩ = some (.bool x438012_55) ∧ w'.cell? ⟨gb437, 13, none⟩ = some (.bool x438013_55) ∧ w'.cell? ⟨gb437, 14, none⟩ = some (.bool x438014_55) ∧ w'.cell? ⟨gb437, 15, none⟩ = some (.slice none 0 0) ∧ w'.cell? ⟨gb437, 16, none⟩ = some (.slice none 0 0) ∧ w'.cell? ⟨gb446, 0, none⟩ = some (.int .i64 a2_0) ∧ w'.cell? ⟨gb446, 1, none⟩ = some (.int .i64 a2_1) ∧ w'.cell? ⟨gb446, 2, none⟩ = some (.int .i64 a2_2) ∧ w'.cell? ⟨gb446, 3, none⟩ = some (.int .i64 a2_3) ∧ w'.cell? ⟨gb446, 4, none⟩ = some (.int .i64 a2_4) ∧ w'.cell? ⟨gb446, 5, none⟩ = some (.int .i64 a2_5) ∧ w'.cell? ⟨gb446, 6, none⟩ = some (.int .i64 a2_6) ∧ w'.cell? ⟨gb446, 7, none⟩ = some (.slice A2_7 l2_7.length c2_7) ∧ w'.cell? ⟨gb446, 8, none⟩ = some (.slice A2_8 l2_8.length c2_8)) (ds := []) #[F_, F_, F_, F_, F_, F_, F_, F_, F_, F_, F_, F_, F_, F_, F_, F_, F_, F_, F_, F_, F_, F_, F_, F_, F_, F_, F_] (by kernel_rfl) rfl rfl ⟨(zL BK437.out 0).trans rfl, (zL BK437.out 1).trans rfl, (zL BK437.out 2).trans rfl, (zL BK437.out 3).trans rfl, (zL BK437.out 4).trans rfl, (zL BK437.out 5).trans rfl, (zL BK437.out 6).trans rfl, (zL BK437.out 7).trans rfl, (zL BK437.out 8).trans rfl, (zL BK437.out 9).trans rfl, (zL BK437.out 10).trans rfl, (zL BK437.out 11).trans rfl, (zL BK437.out 12).trans rfl, (zL BK437.out 13).trans rfl, (zL BK437.out 14).trans rfl, (zL BK437.out 15).trans rfl, (zL BK437.out 16).trans rfl, (zL BK446.out 0).trans rfl, (zL BK446.out 1).trans rfl, (zL BK446.out 2).trans rfl, (zL BK446.out 3).trans rfl, (zL BK446.out 4).trans rfl, (zL BK446.out 5).trans rfl, (zL BK446.out 6).trans rfl, (zL BK446.out 7).trans rfl, (zL BK446.out 8).trans rfl⟩ (fun hHeld => ?_)
         generalize w150.drew = w152 at HO_438007 HO_438008 BK418 BK419 BK423 BK437 BK446 HB hHeld ⊢
         refine pu_ 0 5 (dm_ 27 1) ?_
         refine pu_ 1 6 (dm_ 27 3) ?_
         refine pu_ 2 7 (dm_ 27 7) ?_
         refine pu_ 3 8 (dm_ 27 15) ?_
         refine pu_ 5 10 (dm_ 27 47) ?_
         refine tk_ hHeld 4 9 (dm_ 27 63) ?_
         refine tk_ hHeld 6 11 (dm_ 27 127) ?_
         refine one_ (i := 7) (N := some 12) (dm_ 27 255) rfl rfl (by kernel_rfl) (by decide) (fun K hK => ?_)
         refine goes_ Try.func37 (by kernel_rfl) rfl #[.agg #[.int .i64 x438005_55, .int .i64 x438006_55], .int .i64 a2_1] (by rfl) rfl rfl (by (try simp only [List.map_toArray, List.map_cons, List.map_nil]); first | done | rfl | (simp only [List.length_drop, List.length_take]; rfl)) ?_
         with_reducible refine (view_In.calls x438005_55 x438006_55 a2_1 false _ A80.out).mono ?_
         rintro e w153 ⟨rfl, hb⟩
         refine ⟨_, rfl, ?_⟩
         replace HO_438007 := zM (Kd.R_below (rl_ HO_438007) hb)
         replace HO_438008 := zM (Kd.R_below (rl_ HO_438008) hb)
         replace BK418 := zM (bb_ BK418 hb)
         replace BK419 := zM (bb_ BK419 hb)
         replace BK423 := zM (bb_ BK423 hb)
         replace BK437 := zM (bb_ BK437 hb)
         replace BK446 := zM (bb_ BK446 hb)
         replace HB := zM (zB bel_ hb)
         (try clear hb)
         (try clear hb2)
         (try clear hk)
         (try clear hi)
         refine hK.out _ _ ⟨(zL BK437.out 0).trans rfl, (zL BK437.out 1).trans rfl, (zL BK437.out 2).trans rfl, (zL BK437.out 3).trans rfl, (zL BK437.out 4).trans rfl, (zL BK437.out 5).trans rfl, (zL BK437.out 6).trans rfl, (zL BK437.out 7).trans rfl, (zL BK437.out 8).trans rfl, (zL BK437.out 9).trans rfl, (zL BK437.out 10).trans rfl, (zL BK437.out 11).trans rfl, (zL BK437.out 12).trans rfl, (zL BK437.out 13).trans rfl, (zL BK437.out 14).trans rfl, (zL BK437.out 15).trans rfl, (zL BK437.out 16).trans rfl, (zL BK446.out 0).trans rfl, (zL BK446.out 1).trans rfl, (zL BK446.out 2).trans rfl, (zL BK446.out 3).trans rfl, (zL BK446.out 4).trans rfl, (zL BK446.out 5).trans rfl, (zL BK446.out 6).trans rfl, (zL BK446.out 7).trans rfl, (zL BK446.out 8).trans rfl⟩ (fun hHeld => ?_)
         clear hK K
         refine norm_ (a' := ?_) ?_ ?_
         rotate_left
         · show Act.put _ (some 12) _ = _
           simp only [Act.put, zS, zZ, zC, i64_w, i32_w]
           rfl
         refine pu_ 8 13 (dm_ 27 511) ?_
         refine pu_ 9 14 (dm_ 27 1023) ?_
         refine pz_ 10 15 (dm_ 27 2047) ?_
         refine pz_ 11 16 (dm_ 27 4095) ?_
         refine pz_ 12 17 (dm_ 27 8191) ?_
         refine pz_ 13 18 (dm_ 27 16383) ?_
         refine pz_ 14 19 (dm_ 27 32767) ?_
         refine pz_ 15 20 (dm_ 27 65535) ?_
         refine pz_ 16 21 (dm_ 27 131071) ?_
         refine pu_ 17 22 (dm_ 27 262143) ?_
         refine pu_ 18 23 (dm_ 27 524287) ?_
         refine pz_ 19 24 (dm_ 27 1048575) ?_
         refine pz_ 20 25 (dm_ 27 2097151) ?_
         refine pz_ 21 26 (dm_ 27 4194303) ?_
         refine pz_ 22 27 (dm_ 27 8388607) ?_
         refine pz_ 23 28 (dm_ 27 16777215) ?_
         refine pz_ 24 29 (dm_ 27 33554431) ?_
         refine pz_ 25 30 (dm_ 27 67108863) ?_
         refine pu_ 26 31 (dm_ 27 134217727) ?_
         refine done_ (by kernel_rfl) ?_
         have tk154 : True := trivial
         try go_wp2_with (first | (clear tk154; (first | go_ret | go_ret2 | go_ret3 | go_end0); with_reducible refine inl_back_ ?_))
         go_meet
         case rel => exact ⟨_, (false), (x438000_55), (x438001_55), (x438002_55), (x438003_55), (x438004_55), (x438005_55), (x438006_55), (x438009_55), (x438010_55), (x438011_55), (x438012_55), (x438013_55), (x438014_55), (([] : List (S43))), (([] : List (S48))), (.slice none 0 0), (.slice none 0 0), (by first | rfl | (simp; done) | (simp [*]; done) | (simp; grind)), H', ⟨by have := HJ15.out; have := HJ55.out; first | omega | exact Nat.le_refl _⟩, ⟨by (with_reducible repeat (first | apply Kd.R_alloc | apply Kd.R_drewN | apply Kd.R_drew)); exact Kd.R_mono HO_438007.out (fun _ hk => (by simp [Value.ownBlock]))⟩, ⟨by (with_reducible repeat (first | apply Kd.R_alloc | apply Kd.R_drewN | apply Kd.R_drew)); exact Kd.R_mono HO_438008.out (fun _ hk => (by simp [Value.ownBlock]))⟩, ⟨by first | exact Kd.R_nil _ _ _ _ _ | exact Kd.N_nil _ _ _ _ _ | exact Kd.V_nil _ _ _ _ _ | exact Kd.Q_nil _ _ _ _ _ | exact Kd.S_nil _ _ _ _ _⟩, ⟨by first | exact Kd.R_nil _ _ _ _ _ | exact Kd.N_nil _ _ _ _ _ | exact Kd.V_nil _ _ _ _ _ | exact Kd.Q_nil _ _ _ _ _ | exact Kd.S_nil _ _ _ _ _⟩, ⟨blf_⟩, ⟨blf_⟩, ⟨blf_⟩, ⟨blf_⟩, ⟨bel_⟩⟩
       subst c81
       have H1 : (if 0 ≤ a2_1 then (if a2_1 < 6 then (if rdOf false [x438009_55, x438010_55, x438011_55, x438012_55, x438013_55, x438014_55] a2_1 = true then (ropewaylaw14_RoundAlone.j2 kj55 a1 false a2_0 a2_1 a2_2 a2_3 a2_4 a2_5 a2_6 l2_7 l2_8 x438000_55 x438001_55 x438002_55 x438003_55 x438004_55 x438005_55 x438006_55 t431 t434 x438009_55 x438010_55 x438011_55 x438012_55 x438013_55 x438014_55 ([] : List (S43)) ([] : List (S48))) else ((round_Round_to.f x438000_55 x438001_55 x438002_55 x438003_55 x438004_55 x438005_55 x438006_55 t431 t434 x438009_55 x438010_55 x438011_55 x438012_55 x438013_55 x438014_55 ([] : List (S43)) ([] : List (S48)) a2_1).bind fun bt448 => ((msg_Answers.f bt448.1 bt448.2.1 bt448.2.2.1 bt448.2.2.2.1 bt448.2.2.2.2.1 bt448.2.2.2.2.2.1 bt448.2.2.2.2.2.2.1 bt448.2.2.2.2.2.2.2.1 bt448.2.2.2.2.2.2.2.2 a2_0 a2_1 a2_2 a2_3 a2_4 a2_5 a2_6 l2_7 l2_8).bind fun t461 => (if t461 = true then ((cells_Merge.f kj55 ([] : List (S43)) l2_7).bind fun t462 => ((book_Merge.f kj55 ([] : List (S48)) l2_8).bind fun t465 => (ropewaylaw14_RoundAlone.j2 kj55 a1 true a2_0 a2_1 a2_2 a2_3 a2_4 a2_5 a2_6 l2_7 l2_8 x438000_55 x438001_55 x438002_55 x438003_55 x438004_55 x438005_55 x438006_55 t431 t434 (stA a2_1 0 true x438009_55) (stA a2_1 1 true x438010_55) (stA a2_1 2 true x438011_55) (stA a2_1 3 true x438012_55) (stA a2_1 4 true x438013_55) (stA a2_1 5 true x438014_55) t462 t465))) else (ropewaylaw14_RoundAlone.j2 kj55 a1 false a2_0 a2_1 a2_2 a2_3 a2_4 a2_5 a2_6 l2_7 l2_8 x438000_55 x438001_55 x438002_55 x438003_55 x438004_55 x438005_55 x438006_55 t431 t434 x438009_55 x438010_55 x438011_55 x438012_55 x438013_55 x438014_55 ([] : List (S43)) ([] : List (S48))))))) else (none)) else (none)) = some r := by rw [if_pos rfl] at H; exact H
       clear H
       have H := H1
       clear H1
       by_cases c82 : 0 ≤ a2_1
       rotate_left
       · rw [if_neg c82] at H
         exact absurd H (by simp)
       rw [if_pos c82] at H
       have c82b0 : decide (0 ≤ a2_1) = true := decide_eq_true c82
       clear c82
       (first | rw [c82b0] | (simp only [i64_w, i32_w]; rw [c82b0]) | skip)
       by_cases c83 : a2_1 < 6
       rotate_left
       · rw [if_neg c83] at H
         exact absurd H (by simp)
       rw [if_pos c83] at H
       have c83b0 : decide (a2_1 < 6) = true := decide_eq_true c83
       clear c83
       obtain ⟨bq84, hbq84⟩ : ∃ b_ : Bool, b_ = (rdOf false [x438009_55, x438010_55, x438011_55, x438012_55, x438013_55, x438014_55] a2_1) := ⟨_, rfl⟩
       replace H : (if bq84 = true then (ropewaylaw14_RoundAlone.j2 kj55 a1 false a2_0 a2_1 a2_2 a2_3 a2_4 a2_5 a2_6 l2_7 l2_8 x438000_55 x438001_55 x438002_55 x438003_55 x438004_55 x438005_55 x438006_55 t431 t434 x438009_55 x438010_55 x438011_55 x438012_55 x438013_55 x438014_55 ([] : List (S43)) ([] : List (S48))) else ((round_Round_to.f x438000_55 x438001_55 x438002_55 x438003_55 x438004_55 x438005_55 x438006_55 t431 t434 x438009_55 x438010_55 x438011_55 x438012_55 x438013_55 x438014_55 ([] : List (S43)) ([] : List (S48)) a2_1).bind fun bt448 => ((msg_Answers.f bt448.1 bt448.2.1 bt448.2.2.1 bt448.2.2.2.1 bt448.2.2.2.2.1 bt448.2.2.2.2.2.1 bt448.2.2.2.2.2.2.1 bt448.2.2.2.2.2.2.2.1 bt448.2.2.2.2.2.2.2.2 a2_0 a2_1 a2_2 a2_3 a2_4 a2_5 a2_6 l2_7 l2_8).bind fun t461 => (if t461 = true then ((cells_Merge.f kj55 ([] : List (S43)) l2_7).bind fun t462 => ((book_Merge.f kj55 ([] : List (S48)) l2_8).bind fun t465 => (ropewaylaw14_RoundAlone.j2 kj55 a1 true a2_0 a2_1 a2_2 a2_3 a2_4 a2_5 a2_6 l2_7 l2_8 x438000_55 x438001_55 x438002_55 x438003_55 x438004_55 x438005_55 x438006_55 t431 t434 (stA a2_1 0 true x438009_55) (stA a2_1 1 true x438010_55) (stA a2_1 2 true x438011_55) (stA a2_1 3 true x438012_55) (stA a2_1 4 true x438013_55) (stA a2_1 5 true x438014_55) t462 t465))) else (ropewaylaw14_RoundAlone.j2 kj55 a1 false a2_0 a2_1 a2_2 a2_3 a2_4 a2_5 a2_6 l2_7 l2_8 x438000_55 x438001_55 x438002_55 x438003_55 x438004_55 x438005_55 x438006_55 t431 t434 x438009_55 x438010_55 x438011_55 x438012_55 x438013_55 x438014_55 ([] : List (S43)) ([] : List (S48))))))) = some r := by rw [← hbq84] at H; exact H
       have Nbq84 := zM hbq84
       clear hbq84
       by_cases c85 : bq84 = true
       · subst c85
         have H1 : (ropewaylaw14_RoundAlone.j2 kj55 a1 false a2_0 a2_1 a2_2 a2_3 a2_4 a2_5 a2_6 l2_7 l2_8 x438000_55 x438001_55 x438002_55 x438003_55 x438004_55 x438005_55 x438006_55 t431 t434 x438009_55 x438010_55 x438011_55 x438012_55 x438013_55 x438014_55 ([] : List (S43)) ([] : List (S48))) = some r := by rw [if_pos rfl] at H; exact H
         clear H
         have H := H1
         clear H1
         have H' := zM H
         clear H
         have hnb86 := NB419_418.out
         have hnc86 := NB418_419.out
         have hnb87 := NB419_423.out
         have hnc87 := NB423_419.out
         have hnb88 := NB419_437.out
         have hnc88 := NB437_419.out
         obtain ⟨hcz89_0, hcz89_1, hcz89_2, hcz89_3, hcz89_4, hcz89_5, hcz89_6, hcz89_7, hcz89_8⟩ := r9_ BK419.out
         obtain ⟨hfz89_0, hfz89_1, hfz89_2, hfz89_3, hfz89_4, hfz89_5, hfz89_6, hfz89_7, hfz89_8⟩ := f9_ BK419.out
         have tk90 : True := trivial
         have tk92 : True := trivial
         try go_wp2_with (first | ((with_reducible refine gate_callee (f := 12) rfl ?_); clear tk90; refine goL_ (some 53) Try.func12 #[.pointer (some ⟨gb437, 0, none⟩), .agg #[.int .i64 a2_0, .int .i64 a2_1, .int .i64 a2_2, .int .i64 a2_3, .int .i64 a2_4, .int .i64 a2_5, .int .i64 a2_6, .slice A2_7 l2_7.length c2_7, .slice A2_8 l2_8.length c2_8]] ?_; go_enter Try.func12, Try.ntmps12) | ((with_reducible refine gate_dst (N := 3) rfl ?_); clear tk92; (try (refine gate_guard (by rfl) ?_; dsimp only)); refine box_event ?hg (N := 3) ?hd (cs := #[.int .i64 a2_0, .int .i64 a2_1, .int .i64 a2_2, .int .i64 a2_3, .int .i64 a2_4, .int .i64 a2_5, .int .i64 a2_6, .slice A2_7 l2_7.length c2_7, .slice A2_8 l2_8.length c2_8]) (t := 27) ?hr ?_; (case hd => rfl); (case hg => rfl); (case hr => first | (go_simp; done) | (go_simp; rfl)); intro gb446 hg w91 hbox hb; replace HO_438007 := zM (Kd.R_below (rl_ HO_438007) hb); replace HO_438008 := zM (Kd.R_below (rl_ HO_438008) hb); have BK446 := zM (hbox); have GW446 := zM (bs_ hg); have GE446 := zM (bs_ hg); replace HB := zM (zB bel_ hb); have NB418_446 := zM (nl_ BK418 hg); have NB446_418 := zM (ng_ BK418 hg); replace BK418 := zM (bb_ BK418 hb); have NB419_446 := zM (nl_ BK419 hg); have NB446_419 := zM (ng_ BK419 hg); replace BK419 := zM (bb_ BK419 hb); have NB423_446 := zM (nl_ BK423 hg); have NB446_423 := zM (ng_ BK423 hg); replace BK423 := zM (bb_ BK423 hb); have NB437_446 := zM (nl_ BK437 hg); have NB446_437 := zM (ng_ BK437 hg); replace BK437 := zM (bb_ BK437 hb); clear hb hbox hg))
         replace HO_438007 := zM (Kd.R_drew HO_438007.out)
         replace HO_438008 := zM (Kd.R_drew HO_438008.out)
         replace BK418 := zM (zD BK418.out)
         replace BK419 := zM (zD BK419.out)
         replace BK423 := zM (zD BK423.out)
         replace BK437 := zM (zD BK437.out)
         replace BK446 := zM (zD BK446.out)
         replace HB := zM (below_drew1 HB.out)
         have pd95 : 0 ≤ (a2_1 : Int) := (of_decide_eq_true (by first | (with_reducible assumption) | assumption))
         have qd95 : (a2_1 : Int) < 6 := (of_decide_eq_true (by first | (with_reducible assumption) | assumption))
         replace pd95 := eq_true pd95
         replace qd95 := eq_true qd95
         refine start_ (n := 27) (S := fun w' => w'.cell? ⟨gb437, 0, none⟩ = some (.int .i64 x438000_55) ∧ w'.cell? ⟨gb437, 1, none⟩ = some (.int .i64 x438001_55) ∧ w'.cell? ⟨gb437, 2, none⟩ = some (.int .i64 x438002_55) ∧ w'.cell? ⟨gb437, 3, none⟩ = some (.int .i64 x438003_55) ∧ w'.cell? ⟨gb437, 4, none⟩ = some (.int .i64 x438004_55) ∧ w'.cell? ⟨gb437, 5, none⟩ = some (.int .i64 x438005_55) ∧ w'.cell? ⟨gb437, 6, none⟩ = some (.int .i64 x438006_55) ∧ w'.cell? ⟨gb437, 7, none⟩ = some (.slice Ao52 t431.length co52) ∧ w'.cell? ⟨gb437, 8, none⟩ = some (.slice Ao51 t434.length co51) ∧ w'.cell? ⟨gb437, 9, none⟩ = some (.bool x438009_55) ∧ w'.cell? ⟨gb437, 10, none⟩ = some (.bool x438010_55) ∧ w'.cell? ⟨gb437, 11, none⟩ = some (.bool x438011_55) ∧ w'.cell? ⟨gb437, 12, none⟩ = some (.bool x438012_55) ∧ w'.cell? ⟨gb437, 13, none⟩ = some (.bool x438013_55) ∧ w'.cell? ⟨gb437, 14, none⟩ = some (.bool x438014_55) ∧ w'.cell? ⟨gb437, 15, none⟩ = some (.slice none 0 0) ∧ w'.cell? ⟨gb437, 16, none⟩ = some (.slice none 0 0) ∧ w'.cell? ⟨gb446, 0, none⟩ = some (.int .i64 a2_0) ∧ w'.cell? ⟨gb446, 1, none⟩ = some (.int .i64 a2_1) ∧ w'.cell? ⟨gb446, 2, none⟩ = some (.int .i64 a2_2) ∧ w'.cell? ⟨gb446, 3, none⟩ = some (.int .i64 a2_3) ∧ w'.cell? ⟨gb446, 4, none⟩ = some (.int .i64 a2_4) ∧ w'.cell? ⟨gb446, 5, none⟩ = some (.int .i64 a2_5) ∧ w'.cell? ⟨gb446, 6, none⟩ = some (.int .i64 a2_6) ∧ w'.cell? ⟨gb446, 7, none⟩ = some (.slice A2_7 l2_7.length c2_7) ∧ w'.cell? ⟨gb446, 8, none⟩ = some (.slice A2_8 l2_8.length c2_8) ∧ w'.cell? ⟨gb437, 9 + (a2_1 : Int).toNat, none⟩ = some (.bool (true))) (ds := []) #[F_, F_, F_, F_, F_, F_, F_, F_, F_, F_, F_, F_, F_, F_, F_, F_, F_, F_, F_, F_, F_, F_, F_, F_, F_, F_, F_] (by kernel_rfl) rfl rfl ⟨(zL BK437.out 0).trans rfl, (zL BK437.out 1).trans rfl, (zL BK437.out 2).trans rfl, (zL BK437.out 3).trans rfl, (zL BK437.out 4).trans rfl, (zL BK437.out 5).trans rfl, (zL BK437.out 6).trans rfl, (zL BK437.out 7).trans rfl, (zL BK437.out 8).trans rfl, (zL BK437.out 9).trans rfl, (zL BK437.out 10).trans rfl, (zL BK437.out 11).trans rfl, (zL BK437.out 12).trans rfl, (zL BK437.out 13).trans rfl, (zL BK437.out 14).trans rfl, (zL BK437.out 15).trans rfl, (zL BK437.out 16).trans rfl, (zL BK446.out 0).trans rfl, (zL BK446.out 1).trans rfl, (zL BK446.out 2).trans rfl, (zL BK446.out 3).trans rfl, (zL BK446.out 4).trans rfl, (zL BK446.out 5).trans rfl, (zL BK446.out 6).trans rfl, (zL BK446.out 7).trans rfl, (zL BK446.out 8).trans rfl, (arrCo (o := 9) BK437.out rfl rfl rfl rfl rfl rfl a2_1 (of_eq_true pd95) (of_eq_true qd95)).trans (congrArg (fun z_ => some (Value.bool z_)) Nbq84.out.symm)⟩ (fun hHeld => ?_)
         generalize w91.drew = w93 at HO_438007 HO_438008 BK418 BK419 BK423 BK437 BK446 HB hHeld ⊢
         refine pu_ 0 5 (dm_ 27 1) ?_
         refine pu_ 1 6 (dm_ 27 3) ?_
         refine pu_ 2 7 (dm_ 27 7) ?_
         refine pu_ 3 8 (dm_ 27 15) ?_
         refine pu_ 5 10 (dm_ 27 47) ?_
         refine tk_ hHeld 4 9 (dm_ 27 63) ?_
         refine tk_ hHeld 6 11 (dm_ 27 127) ?_
         refine one_ (i := 7) (N := some 12) (dm_ 27 255) rfl rfl (by kernel_rfl) (by decide) (fun K hK => ?_)
         refine goes_ Try.func37 (by kernel_rfl) rfl #[.agg #[.int .i64 x438005_55, .int .i64 x438006_55], .int .i64 a2_1] (by rfl) rfl rfl (by (try simp only [List.map_toArray, List.map_cons, List.map_nil]); first | done | rfl | (simp only [List.length_drop, List.length_take]; rfl)) ?_
         with_reducible refine (view_In.calls x438005_55 x438006_55 a2_1 true _ A80.out).mono ?_
         rintro e w94 ⟨rfl, hb⟩
         refine ⟨_, rfl, ?_⟩
         replace HO_438007 := zM (Kd.R_below (rl_ HO_438007) hb)
         replace HO_438008 := zM (Kd.R_below (rl_ HO_438008) hb)
         replace BK418 := zM (bb_ BK418 hb)
         replace BK419 := zM (bb_ BK419 hb)
         replace BK423 := zM (bb_ BK423 hb)
         replace BK437 := zM (bb_ BK437 hb)
         replace BK446 := zM (bb_ BK446 hb)
         replace HB := zM (zB bel_ hb)
         (try clear hb)
         (try clear hb2)
         (try clear hk)
         (try clear hi)
         refine hK.out _ _ ⟨(zL BK437.out 0).trans rfl, (zL BK437.out 1).trans rfl, (zL BK437.out 2).trans rfl, (zL BK437.out 3).trans rfl, (zL BK437.out 4).trans rfl, (zL BK437.out 5).trans rfl, (zL BK437.out 6).trans rfl, (zL BK437.out 7).trans rfl, (zL BK437.out 8).trans rfl, (zL BK437.out 9).trans rfl, (zL BK437.out 10).trans rfl, (zL BK437.out 11).trans rfl, (zL BK437.out 12).trans rfl, (zL BK437.out 13).trans rfl, (zL BK437.out 14).trans rfl, (zL BK437.out 15).trans rfl, (zL BK437.out 16).trans rfl, (zL BK446.out 0).trans rfl, (zL BK446.out 1).trans rfl, (zL BK446.out 2).trans rfl, (zL BK446.out 3).trans rfl, (zL BK446.out 4).trans rfl, (zL BK446.out 5).trans rfl, (zL BK446.out 6).trans rfl, (zL BK446.out 7).trans rfl, (zL BK446.out 8).trans rfl, (arrCo (o := 9) BK437.out rfl rfl rfl rfl rfl rfl a2_1 (of_eq_true pd95) (of_eq_true qd95)).trans (congrArg (fun z_ => some (Value.bool z_)) Nbq84.out.symm)⟩ (fun hHeld => ?_)
         clear hK K
         refine norm_ (a' := ?_) ?_ ?_
         rotate_left
         · show Act.put _ (some 12) _ = _
           simp only [Act.put, zS, zZ, zC, i64_w, i32_w]
           rfl
         refine pu_ 8 13 (dm_ 27 511) ?_
         refine pu_ 9 14 (dm_ 27 1023) ?_
         refine pu_ 10 15 (dm_ 27 2047) ?_
         refine pu_ 11 16 (dm_ 27 4095) ?_
         refine pu_ 13 18 (dm_ 27 12287) ?_
         refine pu_ 14 19 (dm_ 27 28671) ?_
         refine tk_ hHeld 12 17 (dm_ 27 32767) ?_
         refine pu_ 15 20 (dm_ 27 65535) ?_
         refine tk_ hHeld 16 21 (dm_ 27 131071) ?_
         refine pu_ 17 22 (dm_ 27 262143) ?_
         refine pu_ 18 23 (dm_ 27 524287) ?_
         refine pz_ 19 24 (dm_ 27 1048575) ?_
         refine pz_ 20 25 (dm_ 27 2097151) ?_
         refine pz_ 21 26 (dm_ 27 4194303) ?_
         refine pz_ 22 27 (dm_ 27 8388607) ?_
         refine pz_ 23 28 (dm_ 27 16777215) ?_
         refine pz_ 24 29 (dm_ 27 33554431) ?_
         refine pz_ 25 30 (dm_ 27 67108863) ?_
         refine pu_ 26 31 (dm_ 27 134217727) ?_
         refine done_ (by kernel_rfl) ?_
         have tk96 : True := trivial
         try go_wp2_with (first | (clear tk96; (first | go_ret | go_ret2 | go_ret3 | go_end0); with_reducible refine inl_back_ ?_))
         go_meet
         case rel => exact ⟨_, (false), (x438000_55), (x438001_55), (x438002_55), (x438003_55), (x438004_55), (x438005_55), (x438006_55), (x438009_55), (x438010_55), (x438011_55), (x438012_55), (x438013_55), (x438014_55), (([] : List (S43))), (([] : List (S48))), (.slice none 0 0), (.slice none 0 0), (by first | rfl | (simp; done) | (simp [*]; done) | (simp; grind)), H', ⟨by have := HJ15.out; have := HJ55.out; first | omega | exact Nat.le_refl _⟩, ⟨by (with_reducible repeat (first | apply Kd.R_alloc | apply Kd.R_drewN | apply Kd.R_drew)); exact Kd.R_mono HO_438007.out (fun _ hk => (by simp [Value.ownBlock]))⟩, ⟨by (with_reducible repeat (first | apply Kd.R_alloc | apply Kd.R_drewN | apply Kd.R_drew)); exact Kd.R_mono HO_438008.out (fun _ hk => (by simp [Value.ownBlock]))⟩, ⟨by first | exact Kd.R_nil _ _ _ _ _ | exact Kd.N_nil _ _ _ _ _ | exact Kd.V_nil _ _ _ _ _ | exact Kd.Q_nil _ _ _ _ _ | exact Kd.S_nil _ _ _ _ _⟩, ⟨by first | exact Kd.R_nil _ _ _ _ _ | exact Kd.N_nil _ _ _ _ _ | exact Kd.V_nil _ _ _ _ _ | exact Kd.Q_nil _ _ _ _ _ | exact Kd.S_nil _ _ _ _ _⟩, ⟨blf_⟩, ⟨blf_⟩, ⟨blf_⟩, ⟨blf_⟩, ⟨bel_⟩⟩
       replace c85 := Bool.eq_false_iff.mpr c85
       subst c85
       have H1 : ((round_Round_to.f x438000_55 x438001_55 x438002_55 x438003_55 x438004_55 x438005_55 x438006_55 t431 t434 x438009_55 x438010_55 x438011_55 x438012_55 x438013_55 x438014_55 ([] : List (S43)) ([] : List (S48)) a2_1).bind fun bt448 => ((msg_Answers.f bt448.1 bt448.2.1 bt448.2.2.1 bt448.2.2.2.1 bt448.2.2.2.2.1 bt448.2.2.2.2.2.1 bt448.2.2.2.2.2.2.1 bt448.2.2.2.2.2.2.2.1 bt448.2.2.2.2.2.2.2.2 a2_0 a2_1 a2_2 a2_3 a2_4 a2_5 a2_6 l2_7 l2_8).bind fun t461 => (if t461 = true then ((cells_Merge.f kj55 ([] : List (S43)) l2_7).bind fun t462 => ((book_Merge.f kj55 ([] : List (S48)) l2_8).bind fun t465 => (ropewaylaw14_RoundAlone.j2 kj55 a1 true a2_0 a2_1 a2_2 a2_3 a2_4 a2_5 a2_6 l2_7 l2_8 x438000_55 x438001_55 x438002_55 x438003_55 x438004_55 x438005_55 x438006_55 t431 t434 (stA a2_1 0 true x438009_55) (stA a2_1 1 true x438010_55) (stA a2_1 2 true x438011_55) (stA a2_1 3 true x438012_55) (stA a2_1 4 true x438013_55) (stA a2_1 5 true x438014_55) t462 t465))) else (ropewaylaw14_RoundAlone.j2 kj55 a1 false a2_0 a2_1 a2_2 a2_3 a2_4 a2_5 a2_6 l2_7 l2_8 x438000_55 x438001_55 x438002_55 x438003_55 x438004_55 x438005_55 x438006_55 t431 t434 x438009_55 x438010_55 x438011_55 x438012_55 x438013_55 x438014_55 ([] : List (S43)) ([] : List (S48)))))) = some r := by rw [if_neg (show ¬ (false = true) by decide)] at H; exact H
       clear H
       have H := H1
       clear H1
       replace H := Option.bind_eq_some_iff.mp H
       obtain ⟨⟨t448, t449, t450, t451, t452, t453, t454, t455, t458⟩, A970, H⟩ := H
       replace H : ((msg_Answers.f t448 t449 t450 t451 t452 t453 t454 t455 t458 a2_0 a2_1 a2_2 a2_3 a2_4 a2_5 a2_6 l2_7 l2_8).bind fun t461 => (if t461 = true then ((cells_Merge.f kj55 ([] : List (S43)) l2_7).bind fun t462 => ((book_Merge.f kj55 ([] : List (S48)) l2_8).bind fun t465 => (ropewaylaw14_RoundAlone.j2 kj55 a1 true a2_0 a2_1 a2_2 a2_3 a2_4 a2_5 a2_6 l2_7 l2_8 x438000_55 x438001_55 x438002_55 x438003_55 x438004_55 x438005_55 x438006_55 t431 t434 (stA a2_1 0 true x438009_55) (stA a2_1 1 true x438010_55) (stA a2_1 2 true x438011_55) (stA a2_1 3 true x438012_55) (stA a2_1 4 true x438013_55) (stA a2_1 5 true x438014_55) t462 t465))) else (ropewaylaw14_RoundAlone.j2 kj55 a1 false a2_0 a2_1 a2_2 a2_3 a2_4 a2_5 a2_6 l2_7 l2_8 x438000_55 x438001_55 x438002_55 x438003_55 x438004_55 x438005_55 x438006_55 t431 t434 x438009_55 x438010_55 x438011_55 x438012_55 x438013_55 x438014_55 ([] : List (S43)) ([] : List (S48))))) = some r := H
       have A97 := zM A970
       clear A970
       replace H := Option.bind_eq_some_iff.mp H
       obtain ⟨t461, A980, H⟩ := H
       replace H : (if t461 = true then ((cells_Merge.f kj55 ([] : List (S43)) l2_7).bind fun t462 => ((book_Merge.f kj55 ([] : List (S48)) l2_8).bind fun t465 => (ropewaylaw14_RoundAlone.j2 kj55 a1 true a2_0 a2_1 a2_2 a2_3 a2_4 a2_5 a2_6 l2_7 l2_8 x438000_55 x438001_55 x438002_55 x438003_55 x438004_55 x438005_55 x438006_55 t431 t434 (stA a2_1 0 true x438009_55) (stA a2_1 1 true x438010_55) (stA a2_1 2 true x438011_55) (stA a2_1 3 true x438012_55) (stA a2_1 4 true x438013_55) (stA a2_1 5 true x438014_55) t462 t465))) else (ropewaylaw14_RoundAlone.j2 kj55 a1 false a2_0 a2_1 a2_2 a2_3 a2_4 a2_5 a2_6 l2_7 l2_8 x438000_55 x438001_55 x438002_55 x438003_55 x438004_55 x438005_55 x438006_55 t431 t434 x438009_55 x438010_55 x438011_55 x438012_55 x438013_55 x438014_55 ([] : List (S43)) ([] : List (S48)))) = some r := H
       have A98 := zM A980
       clear A980
       by_cases c99 : t461 = true
       rotate_left
       · replace c99 := Bool.eq_false_iff.mpr c99
         subst c99
         have H1 : (ropewaylaw14_RoundAlone.j2 kj55 a1 false a2_0 a2_1 a2_2 a2_3 a2_4 a2_5 a2_6 l2_7 l2_8 x438000_55 x438001_55 x438002_55 x438003_55 x438004_55 x438005_55 x438006_55 t431 t434 x438009_55 x438010_55 x438011_55 x438012_55 x438013_55 x438014_55 ([] : List (S43)) ([] : List (S48))) = some r := by rw [if_neg (show ¬ (false = true) by decide)] at H; exact H
         clear H
         have H := H1
         clear H1
         have H' := zM H
         clear H
         have hnb130 := NB419_418.out
         have hnc130 := NB418_419.out
         have hnb131 := NB419_423.out
         have hnc131 := NB423_419.out
         have hnb132 := NB419_437.out
         have hnc132 := NB437_419.out
         obtain ⟨hcz133_0, hcz133_1, hcz133_2, hcz133_3, hcz133_4, hcz133_5, hcz133_6, hcz133_7, hcz133_8⟩ := r9_ BK419.out
         obtain ⟨hfz133_0, hfz133_1, hfz133_2, hfz133_3, hfz133_4, hfz133_5, hfz133_6, hfz133_7, hfz133_8⟩ := f9_ BK419.out
         have tk134 : True := trivial
         have tk136 : True := trivial
         try go_wp2_with (first | ((with_reducible refine gate_callee (f := 12) rfl ?_); clear tk134; refine goL_ (some 53) Try.func12 #[.pointer (some ⟨gb437, 0, none⟩), .agg #[.int .i64 a2_0, .int .i64 a2_1, .int .i64 a2_2, .int .i64 a2_3, .int .i64 a2_4, .int .i64 a2_5, .int .i64 a2_6, .slice A2_7 l2_7.length c2_7, .slice A2_8 l2_8.length c2_8]] ?_; go_enter Try.func12, Try.ntmps12) | ((with_reducible refine gate_dst (N := 3) rfl ?_); clear tk136; (try (refine gate_guard (by rfl) ?_; dsimp only)); refine box_event ?hg (N := 3) ?hd (cs := #[.int .i64 a2_0, .int .i64 a2_1, .int .i64 a2_2, .int .i64 a2_3, .int .i64 a2_4, .int .i64 a2_5, .int .i64 a2_6, .slice A2_7 l2_7.length c2_7, .slice A2_8 l2_8.length c2_8]) (t := 27) ?hr ?_; (case hd => rfl); (case hg => rfl); (case hr => first | (go_simp; done) | (go_simp; rfl)); intro gb446 hg w135 hbox hb; replace HO_438007 := zM (Kd.R_below (rl_ HO_438007) hb); replace HO_438008 := zM (Kd.R_below (rl_ HO_438008) hb); have BK446 := zM (hbox); have GW446 := zM (bs_ hg); have GE446 := zM (bs_ hg); replace HB := zM (zB bel_ hb); have NB418_446 := zM (nl_ BK418 hg); have NB446_418 := zM (ng_ BK418 hg); replace BK418 := zM (bb_ BK418 hb); have NB419_446 := zM (nl_ BK419 hg); have NB446_419 := zM (ng_ BK419 hg); replace BK419 := zM (bb_ BK419 hb); have NB423_446 := zM (nl_ BK423 hg); have NB446_423 := zM (ng_ BK423 hg); replace BK423 := zM (bb_ BK423 hb); have NB437_446 := zM (nl_ BK437 hg); have NB446_437 := zM (ng_ BK437 hg); replace BK437 := zM (bb_ BK437 hb); clear hb hbox hg))
         replace HO_438007 := zM (Kd.R_drew HO_438007.out)
         replace HO_438008 := zM (Kd.R_drew HO_438008.out)
         replace BK418 := zM (zD BK418.out)
         replace BK419 := zM (zD BK419.out)
         replace BK423 := zM (zD BK423.out)
         replace BK437 := zM (zD BK437.out)
         replace BK446 := zM (zD BK446.out)
         replace HB := zM (below_drew1 HB.out)
         have pd139 : 0 ≤ (a2_1 : Int) := (of_decide_eq_true (by first | (with_reducible assumption) | assumption))
         have qd139 : (a2_1 : Int) < 6 := (of_decide_eq_true (by first | (with_reducible assumption) | assumption))
         replace pd139 := eq_true pd139
         replace qd139 := eq_true qd139
         refine start_ (n := 27) (S := fun w' => w'.cell? ⟨gb437, 0, none⟩ = some (.int .i64 x438000_55) ∧ w'.cell? ⟨gb437, 1, none⟩ = some (.int .i64 x438001_55) ∧ w'.cell? ⟨gb437, 2, none⟩ = some (.int .i64 x438002_55) ∧ w'.cell? ⟨gb437, 3, none⟩ = some (.int .i64 x438003_55) ∧ w'.cell? ⟨gb437, 4, none⟩ = some (.int .i64 x438004_55) ∧ w'.cell? ⟨gb437, 5, none⟩ = some (.int .i64 x438005_55) ∧ w'.cell? ⟨gb437, 6, none⟩ = some (.int .i64 x438006_55) ∧ w'.cell? ⟨gb437, 7, none⟩ = some (.slice Ao52 t431.length co52) ∧ w'.cell? ⟨gb437, 8, none⟩ = some (.slice Ao51 t434.length co51) ∧ w'.cell? ⟨gb437, 9, none⟩ = some (.bool x438009_55) ∧ w'.cell? ⟨gb437, 10, none⟩ = some (.bool x438010_55) ∧ w'.cell? ⟨gb437, 11, none⟩ = some (.bool x438011_55) ∧ w'.cell? ⟨gb437, 12, none⟩ = some (.bool x438012_55) ∧ w'.cell? ⟨gb437, 13, none⟩ = some (.bool x438013_55) ∧ w'.cell? ⟨gb437, 14, none⟩ = some (.bool x438014_55) ∧ w'.cell? ⟨gb437, 15, none⟩ = some (.slice none 0 0) ∧ w'.cell? ⟨gb437, 16, none⟩ = some (.slice none 0 0) ∧ w'.cell? ⟨gb446, 0, none⟩ = some (.int .i64 a2_0) ∧ w'.cell? ⟨gb446, 1, none⟩ = some (.int .i64 a2_1) ∧ w'.cell? ⟨gb446, 2, none⟩ = some (.int .i64 a2_2) ∧ w'.cell? ⟨gb446, 3, none⟩ = some (.int .i64 a2_3) ∧ w'.cell? ⟨gb446, 4, none⟩ = some (.int .i64 a2_4) ∧ w'.cell? ⟨gb446, 5, none⟩ = some (.int .i64 a2_5) ∧ w'.cell? ⟨gb446, 6, none⟩ = some (.int .i64 a2_6) ∧ w'.cell? ⟨gb446, 7, none⟩ = some (.slice A2_7 l2_7.length c2_7) ∧ w'.cell? ⟨gb446, 8, none⟩ = some (.slice A2_8 l2_8.length c2_8) ∧ w'.cell? ⟨gb437, 9 + (a2_1 : Int).toNat, none⟩ = some (.bool (false))) (ds := []) #[F_, F_, F_, F_, F_, F_, F_, F_, F_, F_, F_, F_, F_, F_, F_, F_, F_, F_, F_, F_, F_, F_, F_, F_, F_, F_, F_] (by kernel_rfl) rfl rfl ⟨(zL BK437.out 0).trans rfl, (zL BK437.out 1).trans rfl, (zL BK437.out 2).trans rfl, (zL BK437.out 3).trans rfl, (zL BK437.out 4).trans rfl, (zL BK437.out 5).trans rfl, (zL BK437.out 6).trans rfl, (zL BK437.out 7).trans rfl, (zL BK437.out 8).trans rfl, (zL BK437.out 9).trans rfl, (zL BK437.out 10).trans rfl, (zL BK437.out 11).trans rfl, (zL BK437.out 12).trans rfl, (zL BK437.out 13).trans rfl, (zL BK437.out 14).trans rfl, (zL BK437.out 15).trans rfl, (zL BK437.out 16).trans rfl, (zL BK446.out 0).trans rfl, (zL BK446.out 1).trans rfl, (zL BK446.out 2).trans rfl, (zL BK446.out 3).trans rfl, (zL BK446.out 4).trans rfl, (zL BK446.out 5).trans rfl, (zL BK446.out 6).trans rfl, (zL BK446.out 7).trans rfl, (zL BK446.out 8).trans rfl, (arrCo (o := 9) BK437.out rfl rfl rfl rfl rfl rfl a2_1 (of_eq_true pd139) (of_eq_true qd139)).trans (congrArg (fun z_ => some (Value.bool z_)) Nbq84.out.symm)⟩ (fun hHeld => ?_)
         generalize w135.drew = w137 at HO_438007 HO_438008 BK418 BK419 BK423 BK437 BK446 HB hHeld ⊢
         refine pu_ 0 5 (dm_ 27 1) ?_
         refine pu_ 1 6 (dm_ 27 3) ?_
         refine pu_ 2 7 (dm_ 27 7) ?_
         refine pu_ 3 8 (dm_ 27 15) ?_
         refine pu_ 5 10 (dm_ 27 47) ?_
         refine tk_ hHeld 4 9 (dm_ 27 63) ?_
         refine tk_ hHeld 6 11 (dm_ 27 127) ?_
         refine one_ (i := 7) (N := some 12) (dm_ 27 255) rfl rfl (by kernel_rfl) (by decide) (fun K hK => ?_)
         refine goes_ Try.func37 (by kernel_rfl) rfl #[.agg #[.int .i64 x438005_55, .int .i64 x438006_55], .int .i64 a2_1] (by rfl) rfl rfl (by (try simp only [List.map_toArray, List.map_cons, List.map_nil]); first | done | rfl | (simp only [List.length_drop, List.length_take]; rfl)) ?_
         with_reducible refine (view_In.calls x438005_55 x438006_55 a2_1 true _ A80.out).mono ?_
         rintro e w138 ⟨rfl, hb⟩
         refine ⟨_, rfl, ?_⟩
         replace HO_438007 := zM (Kd.R_below (rl_ HO_438007) hb)
         replace HO_438008 := zM (Kd.R_below (rl_ HO_438008) hb)
         replace BK418 := zM (bb_ BK418 hb)
         replace BK419 := zM (bb_ BK419 hb)
         replace BK423 := zM (bb_ BK423 hb)
         replace BK437 := zM (bb_ BK437 hb)
         replace BK446 := zM (bb_ BK446 hb)
         replace HB := zM (zB bel_ hb)
         (try clear hb)
         (try clear hb2)
         (try clear hk)
         (try clear hi)
         refine hK.out _ _ ⟨(zL BK437.out 0).trans rfl, (zL BK437.out 1).trans rfl, (zL BK437.out 2).trans rfl, (zL BK437.out 3).trans rfl, (zL BK437.out 4).trans rfl, (zL BK437.out 5).trans rfl, (zL BK437.out 6).trans rfl, (zL BK437.out 7).trans rfl, (zL BK437.out 8).trans rfl, (zL BK437.out 9).trans rfl, (zL BK437.out 10).trans rfl, (zL BK437.out 11).trans rfl, (zL BK437.out 12).trans rfl, (zL BK437.out 13).trans rfl, (zL BK437.out 14).trans rfl, (zL BK437.out 15).trans rfl, (zL BK437.out 16).trans rfl, (zL BK446.out 0).trans rfl, (zL BK446.out 1).trans rfl, (zL BK446.out 2).trans rfl, (zL BK446.out 3).trans rfl, (zL BK446.out 4).trans rfl, (zL BK446.out 5).trans rfl, (zL BK446.out 6).trans rfl, (zL BK446.out 7).trans rfl, (zL BK446.out 8).trans rfl, (arrCo (o := 9) BK437.out rfl rfl rfl rfl rfl rfl a2_1 (of_eq_true pd139) (of_eq_true qd139)).trans (congrArg (fun z_ => some (Value.bool z_)) Nbq84.out.symm)⟩ (fun hHeld => ?_)
         clear hK K
         refine norm_ (a' := ?_) ?_ ?_
         rotate_left
         · show Act.put _ (some 12) _ = _
           simp only [Act.put, zS, zZ, zC, i64_w, i32_w]
           rfl
         refine pu_ 8 13 (dm_ 27 511) ?_
         refine pu_ 9 14 (dm_ 27 1023) ?_
         refine pu_ 10 15 (dm_ 27 2047) ?_
         refine pu_ 11 16 (dm_ 27 4095) ?_
         refine pu_ 13 18 (dm_ 27 12287) ?_
         refine pu_ 14 19 (dm_ 27 28671) ?_
         refine tk_ hHeld 12 17 (dm_ 27 32767) ?_
         refine pu_ 15 20 (dm_ 27 65535) ?_
         refine tk_ hHeld 16 21 (dm_ 27 131071) ?_
         refine pu_ 17 22 (dm_ 27 262143) ?_
         refine pu_ 18 23 (dm_ 27 524287) ?_
         refine pu_ 19 24 (dm_ 27 1048575) ?_
         refine pu_ 20 25 (dm_ 27 2097151) ?_
         refine tk_ hHeld 21 26 (dm_ 27 4194303) ?_
         refine tk_ hHeld 23 28 (dm_ 27 12582911) ?_
         refine one_ (i := 22) (N := some 27) (dm_ 27 16777215) rfl rfl (by kernel_rfl) (by decide) (fun K hK => ?_)
         refine goes_ Try.func41 (by kernel_rfl) rfl #[.pointer (some ⟨gb437, 0, none⟩), .int .i64 a2_1] (by rfl) rfl rfl (by (try simp only [List.map_toArray, List.map_cons, List.map_nil]); first | done | rfl | (simp only [List.length_drop, List.length_take]; rfl)) ?_
         refine (round_Round_to.calls gb437 x438000_55 x438001_55 x438002_55 x438003_55 x438004_55 x438005_55 x438006_55 Ao52 co52 t431 Ao51 co51 t434 x438009_55 x438010_55 x438011_55 x438012_55 x438013_55 x438014_55 none 0 ([] : List (S43)) none 0 ([] : List (S48)) a2_1 t448 t449 t450 t451 t452 t453 t454 t455 t458 _ ?side1 ?side2 ?side3 ?side4 ?side5 ?side6 ?side7 ?side8 ?side9 A97.out).mono ?_
         (case side1 => repeat (first | exact (Kd.R_reads' HO_438007.out).2.2 | (with_reducible refine Kd.C_alloc ?_ _) | (with_reducible refine Kd.C_drewN ?_ _) | (with_reducible refine Kd.C_drew ?_)))
         (case side2 => exact (Kd.R_reads' HO_438007.out).2.1)
         (case side3 => repeat (first | exact (Kd.R_reads' HO_438008.out).2.2 | (with_reducible refine Kd.C_alloc ?_ _) | (with_reducible refine Kd.C_drewN ?_ _) | (with_reducible refine Kd.C_drew ?_)))
         (case side4 => exact (Kd.R_reads' HO_438008.out).2.1)
         (case side5 => exact Kd.C_nil _ _)
         (case side6 => exact Nat.le_refl _)
         (case side7 => exact Kd.C_nil _ _)
         (case side8 => exact Nat.le_refl _)
         (case side9 => exact blf_)
         rintro e w140 ⟨v456, v459, rfl, ho0, ho1, hb⟩
         refine ⟨_, rfl, ?_⟩
         have HO457 := zM (Kd.R_lower (Kd.R_new' ho0 (Kd.R_lt (rl_ HO_438007))) (below_size bel_))
         replace HO_438007 := zM (Kd.R_elder' (rl_ HO_438007) (Kd.R_base ho0) hb)
         have HO460 := zM (Kd.R_lower (Kd.R_new' ho1 (Kd.R_lt (rl_ HO_438008))) (below_size bel_))
         replace HO_438008 := zM (Kd.R_elder' (rl_ HO_438008) (Kd.R_base ho1) hb)
         replace BK418 := zM (bb_ BK418 hb)
         replace BK419 := zM (bb_ BK419 hb)
         replace BK423 := zM (bb_ BK423 hb)
         replace BK437 := zM (bb_ BK437 hb)
         replace BK446 := zM (bb_ BK446 hb)
         replace HB := zM (zB bel_ hb)
         (try clear hb)
         (try clear hb2)
         (try clear hk)
         (try clear hi)
         (try clear ho0)
         (try clear ho1)
         obtain ⟨Ao141, co141, eo141⟩ := Kd.R_slice HO457.out
         (first | subst eo141 | (injection eo141 with f1_ f2_ f3_; have f4_ := f1_.symm; have f5_ := f3_.symm; clear f1_ f2_ f3_; subst f4_; subst f5_))
         obtain ⟨Ao142, co142, eo142⟩ := Kd.R_slice HO460.out
         (first | subst eo142 | (injection eo142 with f1_ f2_ f3_; have f4_ := f1_.symm; have f5_ := f3_.symm; clear f1_ f2_ f3_; subst f4_; subst f5_))
         refine hK.out _ _ ⟨(zL BK437.out 0).trans rfl, (zL BK437.out 1).trans rfl, (zL BK437.out 2).trans rfl, (zL BK437.out 3).trans rfl, (zL BK437.out 4).trans rfl, (zL BK437.out 5).trans rfl, (zL BK437.out 6).trans rfl, (zL BK437.out 7).trans rfl, (zL BK437.out 8).trans rfl, (zL BK437.out 9).trans rfl, (zL BK437.out 10).trans rfl, (zL BK437.out 11).trans rfl, (zL BK437.out 12).trans rfl, (zL BK437.out 13).trans rfl, (zL BK437.out 14).trans rfl, (zL BK437.out 15).trans rfl, (zL BK437.out 16).trans rfl, (zL BK446.out 0).trans rfl, (zL BK446.out 1).trans rfl, (zL BK446.out 2).trans rfl, (zL BK446.out 3).trans rfl, (zL BK446.out 4).trans rfl, (zL BK446.out 5).trans rfl, (zL BK446.out 6).trans rfl, (zL BK446.out 7).trans rfl, (zL BK446.out 8).trans rfl, (arrCo (o := 9) BK437.out rfl rfl rfl rfl rfl rfl a2_1 (of_eq_true pd139) (of_eq_true qd139)).trans (congrArg (fun z_ => some (Value.bool z_)) Nbq84.out.symm)⟩ (fun hHeld => ?_)
         clear hK K
         refine norm_ (a' := ?_) ?_ ?_
         rotate_left
         · show Act.put _ (some 27) _ = _
           simp only [Act.put, zS, zZ, zC, i64_w, i32_w]
           rfl
         refine one_ (i := 24) (N := some 29) (dm_ 27 33554431) rfl rfl (by kernel_rfl) (by decide) (fun K hK => ?_)
         refine goes_ Try.func40 (by kernel_rfl) rfl #[.agg #[.int .i64 t448, .int .i64 t449, .int .i64 t450, .int .i64 t451, .int .i64 t452, .int .i64 t453, .int .i64 t454, .slice Ao141 t455.length co141, .slice Ao142 t458.length co142], .agg #[.int .i64 a2_0, .int .i64 a2_1, .int .i64 a2_2, .int .i64 a2_3, .int .i64 a2_4, .int .i64 a2_5, .int .i64 a2_6, .slice A2_7 l2_7.length c2_7, .slice A2_8 l2_8.length c2_8]] (by rfl) rfl rfl (by (try simp only [List.map_toArray, List.map_cons, List.map_nil]); first | done | rfl | (simp only [List.length_drop, List.length_take]; rfl)) ?_
         with_reducible refine (msg_Answers.calls t448 t449 t450 t451 t452 t453 t454 _ _ t455 _ _ t458 a2_0 a2_1 a2_2 a2_3 a2_4 a2_5 a2_6 _ _ l2_7 _ _ l2_8 false _ ?side1 ?side2 ?side3 ?side4 ?side5 ?side6 ?side7 ?side8 A98.out).mono ?_
         (case side1 => repeat (first | exact (Kd.R_reads' HO457.out).2.2 | (with_reducible refine Kd.C_alloc ?_ _) | (with_reducible refine Kd.C_drewN ?_ _) | (with_reducible refine Kd.C_drew ?_)))
         (case side2 => exact (Kd.R_reads' HO457.out).2.1)
         (case side3 => repeat (first | exact (Kd.R_reads' HO460.out).2.2 | (with_reducible refine Kd.C_alloc ?_ _) | (with_reducible refine Kd.C_drewN ?_ _) | (with_reducible refine Kd.C_drew ?_)))
         (case side4 => exact (Kd.R_reads' HO460.out).2.1)
         (case side5 => repeat (first | exact (Kd.C_below HR2_7.out HB.out) | (with_reducible refine Kd.C_alloc ?_ _) | (with_reducible refine Kd.C_drewN ?_ _) | (with_reducible refine Kd.C_drew ?_)))
         (case side6 => exact HC2_7.out)
         (case side7 => repeat (first | exact (Kd.C_below HR2_8.out HB.out) | (with_reducible refine Kd.C_alloc ?_ _) | (with_reducible refine Kd.C_drewN ?_ _) | (with_reducible refine Kd.C_drew ?_)))
         (case side8 => exact HC2_8.out)
         rintro e w143 ⟨rfl, hb⟩
         refine ⟨_, rfl, ?_⟩
         replace HO_438007 := zM (Kd.R_below (rl_ HO_438007) hb)
         replace HO_438008 := zM (Kd.R_below (rl_ HO_438008) hb)
         replace HO457 := zM (Kd.R_below (rl_ HO457) hb)
         replace HO460 := zM (Kd.R_below (rl_ HO460) hb)
         replace BK418 := zM (bb_ BK418 hb)
         replace BK419 := zM (bb_ BK419 hb)
         replace BK423 := zM (bb_ BK423 hb)
         replace BK437 := zM (bb_ BK437 hb)
         replace BK446 := zM (bb_ BK446 hb)
         replace HB := zM (zB bel_ hb)
         (try clear hb)
         (try clear hb2)
         (try clear hk)
         (try clear hi)
         refine hK.out _ _ ⟨(zL BK437.out 0).trans rfl, (zL BK437.out 1).trans rfl, (zL BK437.out 2).trans rfl, (zL BK437.out 3).trans rfl, (zL BK437.out 4).trans rfl, (zL BK437.out 5).trans rfl, (zL BK437.out 6).trans rfl, (zL BK437.out 7).trans rfl, (zL BK437.out 8).trans rfl, (zL BK437.out 9).trans rfl, (zL BK437.out 10).trans rfl, (zL BK437.out 11).trans rfl, (zL BK437.out 12).trans rfl, (zL BK437.out 13).trans rfl, (zL BK437.out 14).trans rfl, (zL BK437.out 15).trans rfl, (zL BK437.out 16).trans rfl, (zL BK446.out 0).trans rfl, (zL BK446.out 1).trans rfl, (zL BK446.out 2).trans rfl, (zL BK446.out 3).trans rfl, (zL BK446.out 4).trans rfl, (zL BK446.out 5).trans rfl, (zL BK446.out 6).trans rfl, (zL BK446.out 7).trans rfl, (zL BK446.out 8).trans rfl, (arrCo (o := 9) BK437.out rfl rfl rfl rfl rfl rfl a2_1 (of_eq_true pd139) (of_eq_true qd139)).trans (congrArg (fun z_ => some (Value.bool z_)) Nbq84.out.symm)⟩ (fun hHeld => ?_)
         clear hK K
         refine norm_ (a' := ?_) ?_ ?_
         rotate_left
         · show Act.put _ (some 29) _ = _
           simp only [Act.put, zS, zZ, zC, i64_w, i32_w]
           rfl
         refine pu_ 25 30 (dm_ 27 67108863) ?_
         refine pu_ 26 31 (dm_ 27 134217727) ?_
         refine done_ (by kernel_rfl) ?_
         have tk144 : True := trivial
         try go_wp2_with (first | (clear tk144; (first | go_ret | go_ret2 | go_ret3 | go_end0); with_reducible refine inl_back_ ?_))
         go_meet
         case rel => exact ⟨_, (false), (x438000_55), (x438001_55), (x438002_55), (x438003_55), (x438004_55), (x438005_55), (x438006_55), (x438009_55), (x438010_55), (x438011_55), (x438012_55), (x438013_55), (x438014_55), (([] : List (S43))), (([] : List (S48))), (.slice none 0 0), (.slice none 0 0), (by first | rfl | (simp; done) | (simp [*]; done) | (simp; grind)), H', ⟨by have := HJ15.out; have := HJ55.out; first | omega | exact Nat.le_refl _⟩, ⟨by (with_reducible repeat (first | apply Kd.R_alloc | apply Kd.R_drewN | apply Kd.R_drew)); exact Kd.R_mono HO_438007.out (fun _ hk => (by simp [Value.ownBlock]))⟩, ⟨by (with_reducible repeat (first | apply Kd.R_alloc | apply Kd.R_drewN | apply Kd.R_drew)); exact Kd.R_mono HO_438008.out (fun _ hk => (by simp [Value.ownBlock]))⟩, ⟨by first | exact Kd.R_nil _ _ _ _ _ | exact Kd.N_nil _ _ _ _ _ | exact Kd.V_nil _ _ _ _ _ | exact Kd.Q_nil _ _ _ _ _ | exact Kd.S_nil _ _ _ _ _⟩, ⟨by first | exact Kd.R_nil _ _ _ _ _ | exact Kd.N_nil _ _ _ _ _ | exact Kd.V_nil _ _ _ _ _ | exact Kd.Q_nil _ _ _ _ _ | exact Kd.S_nil _ _ _ _ _⟩, ⟨blf_⟩, ⟨blf_⟩, ⟨blf_⟩, ⟨blf_⟩, ⟨bel_⟩⟩
       subst c99
       have H1 : ((cells_Merge.f kj55 ([] : List (S43)) l2_7).bind fun t462 => ((book_Merge.f kj55 ([] : List (S48)) l2_8).bind fun t465 => (ropewaylaw14_RoundAlone.j2 kj55 a1 true a2_0 a2_1 a2_2 a2_3 a2_4 a2_5 a2_6 l2_7 l2_8 x438000_55 x438001_55 x438002_55 x438003_55 x438004_55 x438005_55 x438006_55 t431 t434 (stA a2_1 0 true x438009_55) (stA a2_1 1 true x438010_55) (stA a2_1 2 true x438011_55) (stA a2_1 3 true x438012_55) (stA a2_1 4 true x438013_55) (stA a2_1 5 true x438014_55) t462 t465))) = some r := by rw [if_pos rfl] at H; exact H
       clear H
       have H := H1
       clear H1
       replace H := Option.bind_eq_some_iff.mp H
       obtain ⟨t462, A1000, H⟩ := H
       replace H : ((book_Merge.f kj55 ([] : List (S48)) l2_8).bind fun t465 => (ropewaylaw14_RoundAlone.j2 kj55 a1 true a2_0 a2_1 a2_2 a2_3 a2_4 a2_5 a2_6 l2_7 l2_8 x438000_55 x438001_55 x438002_55 x438003_55 x438004_55 x438005_55 x438006_55 t431 t434 (stA a2_1 0 true x438009_55) (stA a2_1 1 true x438010_55) (stA a2_1 2 true x438011_55) (stA a2_1 3 true x438012_55) (stA a2_1 4 true x438013_55) (stA a2_1 5 true x438014_55) t462 t465)) = some r := H
       have A100 := zM A1000
       clear A1000
       replace H := Option.bind_eq_some_iff.mp H
       obtain ⟨t465, A1010, H⟩ := H
       replace H : (ropewaylaw14_RoundAlone.j2 kj55 a1 true a2_0 a2_1 a2_2 a2_3 a2_4 a2_5 a2_6 l2_7 l2_8 x438000_55 x438001_55 x438002_55 x438003_55 x438004_55 x438005_55 x438006_55 t431 t434 (stA a2_1 0 true x438009_55) (stA a2_1 1 true x438010_55) (stA a2_1 2 true x438011_55) (stA a2_1 3 true x438012_55) (stA a2_1 4 true x438013_55) (stA a2_1 5 true x438014_55) t462 t465) = some r := H
       have A101 := zM A1010
       clear A1010
       have H' := zM H
       clear H
       have hnb102 := NB419_418.out
       have hnc102 := NB418_419.out
       have hnb103 := NB419_423.out
       have hnc103 := NB423_419.out
       have hnb104 := NB419_437.out
       have hnc104 := NB437_419.out
       obtain ⟨hcz105_0, hcz105_1, hcz105_2, hcz105_3, hcz105_4, hcz105_5, hcz105_6, hcz105_7, hcz105_8⟩ := r9_ BK419.out
       obtain ⟨hfz105_0, hfz105_1, hfz105_2, hfz105_3, hfz105_4, hfz105_5, hfz105_6, hfz105_7, hfz105_8⟩ := f9_ BK419.out
       have tk106 : True := trivial
       have tk108 : True := trivial
       try go_wp2_with (first | ((with_reducible refine gate_callee (f := 12) rfl ?_); clear tk106; refine goL_ (some 53) Try.func12 #[.pointer (some ⟨gb437, 0, none⟩), .agg #[.int .i64 a2_0, .int .i64 a2_1, .int .i64 a2_2, .int .i64 a2_3, .int .i64 a2_4, .int .i64 a2_5, .int .i64 a2_6, .slice A2_7 l2_7.length c2_7, .slice A2_8 l2_8.length c2_8]] ?_; go_enter Try.func12, Try.ntmps12) | ((with_reducible refine gate_dst (N := 3) rfl ?_); clear tk108; (try (refine gate_guard (by rfl) ?_; dsimp only)); refine box_event ?hg (N := 3) ?hd (cs := #[.int .i64 a2_0, .int .i64 a2_1, .int .i64 a2_2, .int .i64 a2_3, .int .i64 a2_4, .int .i64 a2_5, .int .i64 a2_6, .slice A2_7 l2_7.length c2_7, .slice A2_8 l2_8.length c2_8]) (t := 27) ?hr ?_; (case hd => rfl); (case hg => rfl); (case hr => first | (go_simp; done) | (go_simp; rfl)); intro gb446 hg w107 hbox hb; replace HO_438007 := zM (Kd.R_below (rl_ HO_438007) hb); replace HO_438008 := zM (Kd.R_below (rl_ HO_438008) hb); have BK446 := zM (hbox); have GW446 := zM (bs_ hg); have GE446 := zM (bs_ hg); replace HB := zM (zB bel_ hb); have NB418_446 := zM (nl_ BK418 hg); have NB446_418 := zM (ng_ BK418 hg); replace BK418 := zM (bb_ BK418 hb); have NB419_446 := zM (nl_ BK419 hg); have NB446_419 := zM (ng_ BK419 hg); replace BK419 := zM (bb_ BK419 hb); have NB423_446 := zM (nl_ BK423 hg); have NB446_423 := zM (ng_ BK423 hg); replace BK423 := zM (bb_ BK423 hb); have NB437_446 := zM (nl_ BK437 hg); have NB446_437 := zM (ng_ BK437 hg); replace BK437 := zM (bb_ BK437 hb); clear hb hbox hg))
       replace HO_438007 := zM (Kd.R_drew HO_438007.out)
       replace HO_438008 := zM (Kd.R_drew HO_438008.out)
       replace BK418 := zM (zD BK418.out)
       replace BK419 := zM (zD BK419.out)
       replace BK423 := zM (zD BK423.out)
       replace BK437 := zM (zD BK437.out)
       replace BK446 := zM (zD BK446.out)
       replace HB := zM (below_drew1 HB.out)
       have pd111 : 0 ≤ (a2_1 : Int) := (of_decide_eq_true (by first | (with_reducible assumption) | assumption))
       have qd111 : (a2_1 : Int) < 6 := (of_decide_eq_true (by first | (with_reducible assumption) | assumption))
       replace pd111 := eq_true pd111
       replace qd111 := eq_true qd111
       refine start_ (n := 27) (S := fun w' => w'.cell? ⟨gb437, 0, none⟩ = some (.int .i64 x438000_55) ∧ w'.cell? ⟨gb437, 1, none⟩ = some (.int .i64 x438001_55) ∧ w'.cell? ⟨gb437, 2, none⟩ = some (.int .i64 x438002_55) ∧ w'.cell? ⟨gb437, 3, none⟩ = some (.int .i64 x438003_55) ∧ w'.cell? ⟨gb437, 4, none⟩ = some (.int .i64 x438004_55) ∧ w'.cell? ⟨gb437, 5, none⟩ = some (.int .i64 x438005_55) ∧ w'.cell? ⟨gb437, 6, none⟩ = some (.int .i64 x438006_55) ∧ w'.cell? ⟨gb437, 7, none⟩ = some (.slice Ao52 t431.length co52) ∧ w'.cell? ⟨gb437, 8, none⟩ = some (.slice Ao51 t434.length co51) ∧ w'.cell? ⟨gb437, 9, none⟩ = some (.bool x438009_55) ∧ w'.cell? ⟨gb437, 10, none⟩ = some (.bool x438010_55) ∧ w'.cell? ⟨gb437, 11, none⟩ = some (.bool x438011_55) ∧ w'.cell? ⟨gb437, 12, none⟩ = some (.bool x438012_55) ∧ w'.cell? ⟨gb437, 13, none⟩ = some (.bool x438013_55) ∧ w'.cell? ⟨gb437, 14, none⟩ = some (.bool x438014_55) ∧ w'.cell? ⟨gb437, 15, none⟩ = some (.slice none 0 0) ∧ w'.cell? ⟨gb437, 16, none⟩ = some (.slice none 0 0) ∧ w'.cell? ⟨gb446, 0, none⟩ = some (.int .i64 a2_0) ∧ w'.cell? ⟨gb446, 1, none⟩ = some (.int .i64 a2_1) ∧ w'.cell? ⟨gb446, 2, none⟩ = some (.int .i64 a2_2) ∧ w'.cell? ⟨gb446, 3, none⟩ = some (.int .i64 a2_3) ∧ w'.cell? ⟨gb446, 4, none⟩ = some (.int .i64 a2_4) ∧ w'.cell? ⟨gb446, 5, none⟩ = some (.int .i64 a2_5) ∧ w'.cell? ⟨gb446, 6, none⟩ = some (.int .i64 a2_6) ∧ w'.cell? ⟨gb446, 7, none⟩ = some (.slice A2_7 l2_7.length c2_7) ∧ w'.cell? ⟨gb446, 8, none⟩ = some (.slice A2_8 l2_8.length c2_8) ∧ w'.cell? ⟨gb437, 9 + (a2_1 : Int).toNat, none⟩ = some (.bool (false))) (ds := []) #[F_, F_, F_, F_, F_, F_, F_, F_, F_, F_, F_, F_, F_, F_, F_, F_, F_, F_, F_, F_, F_, F_, F_, F_, F_, F_, F_] (by kernel_rfl) rfl rfl ⟨(zL BK437.out 0).trans rfl, (zL BK437.out 1).trans rfl, (zL BK437.out 2).trans rfl, (zL BK437.out 3).trans rfl, (zL BK437.out 4).trans rfl, (zL BK437.out 5).trans rfl, (zL BK437.out 6).trans rfl, (zL BK437.out 7).trans rfl, (zL BK437.out 8).trans rfl, (zL BK437.out 9).trans rfl, (zL BK437.out 10).trans rfl, (zL BK437.out 11).trans rfl, (zL BK437.out 12).trans rfl, (zL BK437.out 13).trans rfl, (zL BK437.out 14).trans rfl, (zL BK437.out 15).trans rfl, (zL BK437.out 16).trans rfl, (zL BK446.out 0).trans rfl, (zL BK446.out 1).trans rfl, (zL BK446.out 2).trans rfl, (zL BK446.out 3).trans rfl, (zL BK446.out 4).trans rfl, (zL BK446.out 5).trans rfl, (zL BK446.out 6).trans rfl, (zL BK446.out 7).trans rfl, (zL BK446.out 8).trans rfl, (arrCo (o := 9) BK437.out rfl rfl rfl rfl rfl rfl a2_1 (of_eq_true pd111) (of_eq_true qd111)).trans (congrArg (fun z_ => some (Value.bool z_)) Nbq84.out.symm)⟩ (fun hHeld => ?_)
       generalize w107.drew = w109 at HO_438007 HO_438008 BK418 BK419 BK423 BK437 BK446 HB hHeld ⊢
       refine pu_ 0 5 (dm_ 27 1) ?_
       refine pu_ 1 6 (dm_ 27 3) ?_
       refine pu_ 2 7 (dm_ 27 7) ?_
       refine pu_ 3 8 (dm_ 27 15) ?_
       refine pu_ 5 10 (dm_ 27 47) ?_
       refine tk_ hHeld 4 9 (dm_ 27 63) ?_
       refine tk_ hHeld 6 11 (dm_ 27 127) ?_
       refine one_ (i := 7) (N := some 12) (dm_ 27 255) rfl rfl (by kernel_rfl) (by decide) (fun K hK => ?_)
       refine goes_ Try.func37 (by kernel_rfl) rfl #[.agg #[.int .i64 x438005_55, .int .i64 x438006_55], .int .i64 a2_1] (by rfl) rfl rfl (by (try simp only [List.map_toArray, List.map_cons, List.map_nil]); first | done | rfl | (simp only [List.length_drop, List.length_take]; rfl)) ?_
       with_reducible refine (view_In.calls x438005_55 x438006_55 a2_1 true _ A80.out).mono ?_
       rintro e w110 ⟨rfl, hb⟩
       refine ⟨_, rfl, ?_⟩
       replace HO_438007 := zM (Kd.R_below (rl_ HO_438007) hb)
       replace HO_438008 := zM (Kd.R_below (rl_ HO_438008) hb)
       replace BK418 := zM (bb_ BK418 hb)
       replace BK419 := zM (bb_ BK419 hb)
       replace BK423 := zM (bb_ BK423 hb)
       replace BK437 := zM (bb_ BK437 hb)
       replace BK446 := zM (bb_ BK446 hb)
       replace HB := zM (zB bel_ hb)
       (try clear hb)
       (try clear hb2)
       (try clear hk)
       (try clear hi)
       refine hK.out _ _ ⟨(zL BK437.out 0).trans rfl, (zL BK437.out 1).trans rfl, (zL BK437.out 2).trans rfl, (zL BK437.out 3).trans rfl, (zL BK437.out 4).trans rfl, (zL BK437.out 5).trans rfl, (zL BK437.out 6).trans rfl, (zL BK437.out 7).trans rfl, (zL BK437.out 8).trans rfl, (zL BK437.out 9).trans rfl, (zL BK437.out 10).trans rfl, (zL BK437.out 11).trans rfl, (zL BK437.out 12).trans rfl, (zL BK437.out 13).trans rfl, (zL BK437.out 14).trans rfl, (zL BK437.out 15).trans rfl, (zL BK437.out 16).trans rfl, (zL BK446.out 0).trans rfl, (zL BK446.out 1).trans rfl, (zL BK446.out 2).trans rfl, (zL BK446.out 3).trans rfl, (zL BK446.out 4).trans rfl, (zL BK446.out 5).trans rfl, (zL BK446.out 6).trans rfl, (zL BK446.out 7).trans rfl, (zL BK446.out 8).trans rfl, (arrCo (o := 9) BK437.out rfl rfl rfl rfl rfl rfl a2_1 (of_eq_true pd111) (of_eq_true qd111)).trans (congrArg (fun z_ => some (Value.bool z_)) Nbq84.out.symm)⟩ (fun hHeld => ?_)
       clear hK K
       refine norm_ (a' := ?_) ?_ ?_
       rotate_left
       · show Act.put _ (some 12) _ = _
         simp only [Act.put, zS, zZ, zC, i64_w, i32_w]
         rfl
       refine pu_ 8 13 (dm_ 27 511) ?_
       refine pu_ 9 14 (dm_ 27 1023) ?_
       refine pu_ 10 15 (dm_ 27 2047) ?_
       refine pu_ 11 16 (dm_ 27 4095) ?_
       refine pu_ 13 18 (dm_ 27 12287) ?_
       refine pu_ 14 19 (dm_ 27 28671) ?_
       refine tk_ hHeld 12 17 (dm_ 27 32767) ?_
       refine pu_ 15 20 (dm_ 27 65535) ?_
       refine tk_ hHeld 16 21 (dm_ 27 131071) ?_
       refine pu_ 17 22 (dm_ 27 262143) ?_
       refine pu_ 18 23 (dm_ 27 524287) ?_
       refine pu_ 19 24 (dm_ 27 1048575) ?_
       refine pu_ 20 25 (dm_ 27 2097151) ?_
       refine tk_ hHeld 21 26 (dm_ 27 4194303) ?_
       refine tk_ hHeld 23 28 (dm_ 27 12582911) ?_
       refine one_ (i := 22) (N := some 27) (dm_ 27 16777215) rfl rfl (by kernel_rfl) (by decide) (fun K hK => ?_)
       refine goes_ Try.func41 (by kernel_rfl) rfl #[.pointer (some ⟨gb437, 0, none⟩), .int .i64 a2_1] (by rfl) rfl rfl (by (try simp only [List.map_toArray, List.map_cons, List.map_nil]); first | done | rfl | (simp only [List.length_drop, List.length_take]; rfl)) ?_
       refine (round_Round_to.calls gb437 x438000_55 x438001_55 x438002_55 x438003_55 x438004_55 x438005_55 x438006_55 Ao52 co52 t431 Ao51 co51 t434 x438009_55 x438010_55 x438011_55 x438012_55 x438013_55 x438014_55 none 0 ([] : List (S43)) none 0 ([] : List (S48)) a2_1 t448 t449 t450 t451 t452 t453 t454 t455 t458 _ ?side1 ?side2 ?side3 ?side4 ?side5 ?side6 ?side7 ?side8 ?side9 A97.out).mono ?_
       (case side1 => repeat (first | exact (Kd.R_reads' HO_438007.out).2.2 | (with_reducible refine Kd.C_alloc ?_ _) | (with_reducible refine Kd.C_drewN ?_ _) | (with_reducible refine Kd.C_drew ?_)))
       (case side2 => exact (Kd.R_reads' HO_438007.out).2.1)
       (case side3 => repeat (first | exact (Kd.R_reads' HO_438008.out).2.2 | (with_reducible refine Kd.C_alloc ?_ _) | (with_reducible refine Kd.C_drewN ?_ _) | (with_reducible refine Kd.C_drew ?_)))
       (case side4 => exact (Kd.R_reads' HO_438008.out).2.1)
       (case side5 => exact Kd.C_nil _ _)
       (case side6 => exact Nat.le_refl _)
       (case side7 => exact Kd.C_nil _ _)
       (case side8 => exact Nat.le_refl _)
       (case side9 => exact blf_)
       rintro e w112 ⟨v456, v459, rfl, ho0, ho1, hb⟩
       refine ⟨_, rfl, ?_⟩
       have HO457 := zM (Kd.R_lower (Kd.R_new' ho0 (Kd.R_lt (rl_ HO_438007))) (below_size bel_))
       replace HO_438007 := zM (Kd.R_elder' (rl_ HO_438007) (Kd.R_base ho0) hb)
       have HO460 := zM (Kd.R_lower (Kd.R_new' ho1 (Kd.R_lt (rl_ HO_438008))) (below_size bel_))
       replace HO_438008 := zM (Kd.R_elder' (rl_ HO_438008) (Kd.R_base ho1) hb)
       replace BK418 := zM (bb_ BK418 hb)
       replace BK419 := zM (bb_ BK419 hb)
       replace BK423 := zM (bb_ BK423 hb)
       replace BK437 := zM (bb_ BK437 hb)
       replace BK446 := zM (bb_ BK446 hb)
       replace HB := zM (zB bel_ hb)
       (try clear hb)
       (try clear hb2)
       (try clear hk)
       (try clear hi)
       (try clear ho0)
       (try clear ho1)
       obtain ⟨Ao113, co113, eo113⟩ := Kd.R_slice HO457.out
       (first | subst eo113 | (injection eo113 with f1_ f2_ f3_; have f4_ := f1_.symm; have f5_ := f3_.symm; clear f1_ f2_ f3_; subst f4_; subst f5_))
       obtain ⟨Ao114, co114, eo114⟩ := Kd.R_slice HO460.out
       (first | subst eo114 | (injection eo114 with f1_ f2_ f3_; have f4_ := f1_.symm; have f5_ := f3_.symm; clear f1_ f2_ f3_; subst f4_; subst f5_))
       refine hK.out _ _ ⟨(zL BK437.out 0).trans rfl, (zL BK437.out 1).trans rfl, (zL BK437.out 2).trans rfl, (zL BK437.out 3).trans rfl, (zL BK437.out 4).trans rfl, (zL BK437.out 5).trans rfl, (zL BK437.out 6).trans rfl, (zL BK437.out 7).trans rfl, (zL BK437.out 8).trans rfl, (zL BK437.out 9).trans rfl, (zL BK437.out 10).trans rfl, (zL BK437.out 11).trans rfl, (zL BK437.out 12).trans rfl, (zL BK437.out 13).trans rfl, (zL BK437.out 14).trans rfl, (zL BK437.out 15).trans rfl, (zL BK437.out 16).trans rfl, (zL BK446.out 0).trans rfl, (zL BK446.out 1).trans rfl, (zL BK446.out 2).trans rfl, (zL BK446.out 3).trans rfl, (zL BK446.out 4).trans rfl, (zL BK446.out 5).trans rfl, (zL BK446.out 6).trans rfl, (zL BK446.out 7).trans rfl, (zL BK446.out 8).trans rfl, (arrCo (o := 9) BK437.out rfl rfl rfl rfl rfl rfl a2_1 (of_eq_true pd111) (of_eq_true qd111)).trans (congrArg (fun z_ => some (Value.bool z_)) Nbq84.out.symm)⟩ (fun hHeld => ?_)
       clear hK K
       refine norm_ (a' := ?_) ?_ ?_
       rotate_left
       · show Act.put _ (some 27) _ = _
         simp only [Act.put, zS, zZ, zC, i64_w, i32_w]
         rfl
       refine one_ (i := 24) (N := some 29) (dm_ 27 33554431) rfl rfl (by kernel_rfl) (by decide) (fun K hK => ?_)
       refine goes_ Try.func40 (by kernel_rfl) rfl #[.agg #[.int .i64 t448, .int .i64 t449, .int .i64 t450, .int .i64 t451, .int .i64 t452, .int .i64 t453, .int .i64 t454, .slice Ao113 t455.length co113, .slice Ao114 t458.length co114], .agg #[.int .i64 a2_0, .int .i64 a2_1, .int .i64 a2_2, .int .i64 a2_3, .int .i64 a2_4, .int .i64 a2_5, .int .i64 a2_6, .slice A2_7 l2_7.length c2_7, .slice A2_8 l2_8.length c2_8]] (by rfl) rfl rfl (by (try simp only [List.map_toArray, List.map_cons, List.map_nil]); first | done | rfl | (simp only [List.length_drop, List.length_take]; rfl)) ?_
       with_reducible refine (msg_Answers.calls t448 t449 t450 t451 t452 t453 t454 _ _ t455 _ _ t458 a2_0 a2_1 a2_2 a2_3 a2_4 a2_5 a2_6 _ _ l2_7 _ _ l2_8 true _ ?side1 ?side2 ?side3 ?side4 ?side5 ?side6 ?side7 ?side8 A98.out).mono ?_
       (case side1 => repeat (first | exact (Kd.R_reads' HO457.out).2.2 | (with_reducible refine Kd.C_alloc ?_ _) | (with_reducible refine Kd.C_drewN ?_ _) | (with_reducible refine Kd.C_drew ?_)))
       (case side2 => exact (Kd.R_reads' HO457.out).2.1)
       (case side3 => repeat (first | exact (Kd.R_reads' HO460.out).2.2 | (with_reducible refine Kd.C_alloc ?_ _) | (with_reducible refine Kd.C_drewN ?_ _) | (with_reducible refine Kd.C_drew ?_)))
       (case side4 => exact (Kd.R_reads' HO460.out).2.1)
       (case side5 => repeat (first | exact (Kd.C_below HR2_7.out HB.out) | (with_reducible refine Kd.C_alloc ?_ _) | (with_reducible refine Kd.C_drewN ?_ _) | (with_reducible refine Kd.C_drew ?_)))
       (case side6 => exact HC2_7.out)
       (case side7 => repeat (first | exact (Kd.C_below HR2_8.out HB.out) | (with_reducible refine Kd.C_alloc ?_ _) | (with_reducible refine Kd.C_drewN ?_ _) | (with_reducible refine Kd.C_drew ?_)))
       (case side8 => exact HC2_8.out)
       rintro e w115 ⟨rfl, hb⟩
       refine ⟨_, rfl, ?_⟩
       replace HO_438007 := zM (Kd.R_below (rl_ HO_438007) hb)
       replace HO_438008 := zM (Kd.R_below (rl_ HO_438008) hb)
       replace HO457 := zM (Kd.R_below (rl_ HO457) hb)
       replace HO460 := zM (Kd.R_below (rl_ HO460) hb)
       replace BK418 := zM (bb_ BK418 hb)
       replace BK419 := zM (bb_ BK419 hb)
       replace BK423 := zM (bb_ BK423 hb)
       replace BK437 := zM (bb_ BK437 hb)
       replace BK446 := zM (bb_ BK446 hb)
       replace HB := zM (zB bel_ hb)
       (try clear hb)
       (try clear hb2)
       (try clear hk)
       (try clear hi)
       refine hK.out _ _ ⟨(zL BK437.out 0).trans rfl, (zL BK437.out 1).trans rfl, (zL BK437.out 2).trans rfl, (zL BK437.out 3).trans rfl, (zL BK437.out 4).trans rfl, (zL BK437.out 5).trans rfl, (zL BK437.out 6).trans rfl, (zL BK437.out 7).trans rfl, (zL BK437.out 8).trans rfl, (zL BK437.out 9).trans rfl, (zL BK437.out 10).trans rfl, (zL BK437.out 11).trans rfl, (zL BK437.out 12).trans rfl, (zL BK437.out 13).trans rfl, (zL BK437.out 14).trans rfl, (zL BK437.out 15).trans rfl, (zL BK437.out 16).trans rfl, (zL BK446.out 0).trans rfl, (zL BK446.out 1).trans rfl, (zL BK446.out 2).trans rfl, (zL BK446.out 3).trans rfl, (zL BK446.out 4).trans rfl, (zL BK446.out 5).trans rfl, (zL BK446.out 6).trans rfl, (zL BK446.out 7).trans rfl, (zL BK446.out 8).trans rfl, (arrCo (o := 9) BK437.out rfl rfl rfl rfl rfl rfl a2_1 (of_eq_true pd111) (of_eq_true qd111)).trans (congrArg (fun z_ => some (Value.bool z_)) Nbq84.out.symm)⟩ (fun hHeld => ?_)
       clear hK K
       refine norm_ (a' := ?_) ?_ ?_
       rotate_left
       · show Act.put _ (some 29) _ = _
         simp only [Act.put, zS, zZ, zC, i64_w, i32_w]
         rfl
       refine pu_ 25 30 (dm_ 27 67108863) ?_
       refine pu_ 26 31 (dm_ 27 134217727) ?_
       refine done_ (by kernel_rfl) ?_
       try go_wp2
       replace HO_438007 := zM (Kd.R_drew HO_438007.out)
       replace HO_438008 := zM (Kd.R_drew HO_438008.out)
       replace HO457 := zM (Kd.R_drew HO457.out)
       replace HO460 := zM (Kd.R_drew HO460.out)
       replace BK418 := zM (zD BK418.out)
       replace BK419 := zM (zD BK419.out)
       replace BK423 := zM (zD BK423.out)
       replace BK437 := zM (zD BK437.out)
       replace BK446 := zM (zD BK446.out)
       replace HB := zM (below_drew1 HB.out)
       have pd117 : 0 ≤ (a2_1 : Int) := (of_decide_eq_true (by first | (with_reducible assumption) | assumption))
       have qd117 : (a2_1 : Int) < 6 := (of_decide_eq_true (by first | (with_reducible assumption) | assumption))
       replace pd117 := eq_true pd117
       replace qd117 := eq_true qd117
       refine start_ (n := 7) (S := fun w' => w'.cell? ⟨gb446, 0, none⟩ = some (.int .i64 a2_0) ∧ w'.cell? ⟨gb446, 1, none⟩ = some (.int .i64 a2_1) ∧ w'.cell? ⟨gb446, 2, none⟩ = some (.int .i64 a2_2) ∧ w'.cell? ⟨gb446, 3, none⟩ = some (.int .i64 a2_3) ∧ w'.cell? ⟨gb446, 4, none⟩ = some (.int .i64 a2_4) ∧ w'.cell? ⟨gb446, 5, none⟩ = some (.int .i64 a2_5) ∧ w'.cell? ⟨gb446, 6, none⟩ = some (.int .i64 a2_6) ∧ w'.cell? ⟨gb446, 7, none⟩ = some (.slice A2_7 l2_7.length c2_7) ∧ w'.cell? ⟨gb446, 8, none⟩ = some (.slice A2_8 l2_8.length c2_8)) (ds := []) #[F_, F_, F_, F_, F_, F_, F_] (by kernel_rfl) rfl rfl ⟨(zL BK446.out 0).trans rfl, (zL BK446.out 1).trans rfl, (zL BK446.out 2).trans rfl, (zL BK446.out 3).trans rfl, (zL BK446.out 4).trans rfl, (zL BK446.out 5).trans rfl, (zL BK446.out 6).trans rfl, (zL BK446.out 7).trans rfl, (zL BK446.out 8).trans rfl⟩ (fun hHeld => ?_)
       generalize w115.drew = w116 at HO_438007 HO_438008 HO457 HO460 BK418 BK419 BK423 BK437 BK446 HB hHeld ⊢
       refine pu_ 0 32 (dm_ 7 1) ?_
       refine pu_ 1 33 (dm_ 7 3) ?_
       refine pu_ 3 35 (dm_ 7 11) ?_
       refine pu_ 4 36 (dm_ 7 27) ?_
       refine tk_ hHeld 2 34 (dm_ 7 31) ?_
       refine pu_ 5 37 (dm_ 7 63) ?_
       refine one_ (i := 6) (N := none) (dm_ 7 127) rfl rfl (by kernel_rfl) (by decide) (fun K hK => ?_)
       have hs118 : w116.cell? ⟨gb437, 9 + (a2_1 : Int).toNat, none⟩ = some (.bool (rdOf false [x438009_55, x438010_55, x438011_55, x438012_55, x438013_55, x438014_55] a2_1)) := arrCo (o := 9) BK437.out rfl rfl rfl rfl rfl rfl a2_1 (of_eq_true pd117) (of_eq_true qd117)
       have hfs118 := zF BK437.out (9 + (a2_1 : Int).toNat)
       have hns118_0 := NB418_437.out
       have hns118_1 := NB419_437.out
       have hns118_2 := NB423_437.out
       have hns118_4 := NB446_437.out
       have hms118_0 := NB437_418.out
       have hms118_1 := NB437_419.out
       have hms118_2 := NB437_423.out
       have hms118_4 := NB437_446.out
       refine skip_ (w1 := ?_) (by rfl) rfl ?_ ?_
       rotate_left
       · go_simp
         rfl
       refine hK.out _ _ ⟨((cell_far (p := ⟨gb437, _, none⟩) NB446_437.out _).trans (hHeld.1)), ((cell_far (p := ⟨gb437, _, none⟩) NB446_437.out _).trans (hHeld.2.1)), ((cell_far (p := ⟨gb437, _, none⟩) NB446_437.out _).trans (hHeld.2.2.1)), ((cell_far (p := ⟨gb437, _, none⟩) NB446_437.out _).trans (hHeld.2.2.2.1)), ((cell_far (p := ⟨gb437, _, none⟩) NB446_437.out _).trans (hHeld.2.2.2.2.1)), ((cell_far (p := ⟨gb437, _, none⟩) NB446_437.out _).trans (hHeld.2.2.2.2.2.1)), ((cell_far (p := ⟨gb437, _, none⟩) NB446_437.out _).trans (hHeld.2.2.2.2.2.2.1)), ((cell_far (p := ⟨gb437, _, none⟩) NB446_437.out _).trans (hHeld.2.2.2.2.2.2.2.1)), ((cell_far (p := ⟨gb437, _, none⟩) NB446_437.out _).trans (hHeld.2.2.2.2.2.2.2.2))⟩ (fun hHeld => ?_)
       clear hK K
       refine done_ (by kernel_rfl) ?_
       try go_wp2
       have n0_ : Aside0 (Kd.R k43 43 (w116.setCell ⟨gb437, 9 + (a2_1 : Int).toNat, none⟩ (.bool true)) w.heap.size (fun k_ => some k_ ≠ (.slice Ao113 t455.length co113 : Value).ownBlock) (.slice Ao52 t431.length co52) t431) := ⟨by (with_reducible repeat (first | apply Kd.R_alloc | apply Kd.R_drewN | apply Kd.R_drew)); exact Kd.R_mono (Kd.R_far (p := ⟨gb437, 9 + (a2_1 : Int).toNat, none⟩) (Kd.R_types HO_438007.out BK437.out (by decide)) (fun _ hk => hk.2) (.bool true)) (fun _ hk => hk.1.2)⟩
       have n1_ : Aside0 (Kd.R k48 48 (w116.setCell ⟨gb437, 9 + (a2_1 : Int).toNat, none⟩ (.bool true)) w.heap.size (fun k_ => some k_ ≠ (.slice Ao114 t458.length co114 : Value).ownBlock) (.slice Ao51 t434.length co51) t434) := ⟨by (with_reducible repeat (first | apply Kd.R_alloc | apply Kd.R_drewN | apply Kd.R_drew)); exact Kd.R_mono (Kd.R_far (p := ⟨gb437, 9 + (a2_1 : Int).toNat, none⟩) (Kd.R_types HO_438008.out BK437.out (by decide)) (fun _ hk => hk.2) (.bool true)) (fun _ hk => hk.1.2)⟩
       have n2_ : Aside0 (Kd.R k43 43 (w116.setCell ⟨gb437, 9 + (a2_1 : Int).toNat, none⟩ (.bool true)) w.heap.size (fun k_ => some k_ ≠ (.slice Ao52 t431.length co52 : Value).ownBlock) (.slice Ao113 t455.length co113) t455) := ⟨by (with_reducible repeat (first | apply Kd.R_alloc | apply Kd.R_drewN | apply Kd.R_drew)); exact Kd.R_mono (Kd.R_far (p := ⟨gb437, 9 + (a2_1 : Int).toNat, none⟩) (Kd.R_types HO457.out BK437.out (by decide)) (fun _ hk => hk.2) (.bool true)) (fun _ hk => hk.1.2)⟩
       have n3_ : Aside0 (Kd.R k48 48 (w116.setCell ⟨gb437, 9 + (a2_1 : Int).toNat, none⟩ (.bool true)) w.heap.size (fun k_ => some k_ ≠ (.slice Ao51 t434.length co51 : Value).ownBlock) (.slice Ao114 t458.length co114) t458) := ⟨by (with_reducible repeat (first | apply Kd.R_alloc | apply Kd.R_drewN | apply Kd.R_drew)); exact Kd.R_mono (Kd.R_far (p := ⟨gb437, 9 + (a2_1 : Int).toNat, none⟩) (Kd.R_types HO460.out BK437.out (by decide)) (fun _ hk => hk.2) (.bool true)) (fun _ hk => hk.1.2)⟩
       have n4_ : Aside0 ((w116.setCell ⟨gb437, 9 + (a2_1 : Int).toNat, none⟩ (.bool true)).heap[gb418]? = some (.cells #[.int .i64 a0_0, .int .i64 a0_1, .int .i64 0, .int .i64 a0_3, .int .i64 a0_4, .int .i64 ji35, .int .i64 0, .slice A0_7 l0_7.length c0_7, .slice A0_8 l0_8.length c0_8] 27 (0, 0))) := ⟨blf_⟩
       have n5_ : Aside0 ((w116.setCell ⟨gb437, 9 + (a2_1 : Int).toNat, none⟩ (.bool true)).heap[gb419]? = some (.cells #[.int .i64 a2_0, .int .i64 a2_1, .int .i64 a2_2, .int .i64 a2_3, .int .i64 a2_4, .int .i64 a2_5, .int .i64 a2_6, .slice A2_7 l2_7.length c2_7, .slice A2_8 l2_8.length c2_8] 27 (0, 0))) := ⟨blf_⟩
       have n6_ : Aside0 ((w116.setCell ⟨gb437, 9 + (a2_1 : Int).toNat, none⟩ (.bool true)).heap[gb423]? = some (.cells #[.int .i64 a0_0, .int .i64 a0_1, .int .i64 0, .int .i64 a0_3, .int .i64 a0_4, .int .i64 ji35, .int .i64 0, .slice A0_7 l0_7.length c0_7, .slice A0_8 l0_8.length c0_8] 27 (0, 0))) := ⟨blf_⟩
       have n7_ : Aside0 ((w116.setCell ⟨gb437, 9 + (a2_1 : Int).toNat, none⟩ (.bool true)).heap[gb437]? = some (.cells #[.int .i64 x438000_55, .int .i64 x438001_55, .int .i64 x438002_55, .int .i64 x438003_55, .int .i64 x438004_55, .int .i64 x438005_55, .int .i64 x438006_55, .slice Ao52 t431.length co52, .slice Ao51 t434.length co51, .bool (stA a2_1 0 true x438009_55), .bool (stA a2_1 1 true x438010_55), .bool (stA a2_1 2 true x438011_55), .bool (stA a2_1 3 true x438012_55), .bool (stA a2_1 4 true x438013_55), .bool (stA a2_1 5 true x438014_55), .slice none 0 0, .slice none 0 0] 71 (0, 0))) := ⟨by (with_reducible repeat (first | refine zN ?_ _ | refine zD ?_ | refine zA ?_ _)); refine arrPo (o := 9) (cs := #[.int .i64 x438000_55, .int .i64 x438001_55, .int .i64 x438002_55, .int .i64 x438003_55, .int .i64 x438004_55, .int .i64 x438005_55, .int .i64 x438006_55, .slice Ao52 t431.length co52, .slice Ao51 t434.length co51, .bool x438009_55, .bool x438010_55, .bool x438011_55, .bool x438012_55, .bool x438013_55, .bool x438014_55, .slice none 0 0, .slice none 0 0]) ?_ a2_1 true (of_decide_eq_true (by first | (with_reducible assumption) | assumption)) (of_decide_eq_true (by first | (with_reducible assumption) | assumption)) (fun e_ => by subst e_; rfl) (fun e_ => by subst e_; rfl) (fun e_ => by subst e_; rfl) (fun e_ => by subst e_; rfl) (fun e_ => by subst e_; rfl) (fun e_ => by subst e_; rfl); (with_reducible repeat (first | refine zN ?_ _ | refine zD ?_ | refine zA ?_ _)); exact BK437.out⟩
       have n8_ : Aside0 ((w116.setCell ⟨gb437, 9 + (a2_1 : Int).toNat, none⟩ (.bool true)).heap[gb446]? = some (.cells #[.int .i64 a2_0, .int .i64 a2_1, .int .i64 a2_2, .int .i64 a2_3, .int .i64 a2_4, .int .i64 a2_5, .int .i64 a2_6, .slice A2_7 l2_7.length c2_7, .slice A2_8 l2_8.length c2_8] 27 (0, 0))) := ⟨blf_⟩
       have n9_ : Aside0 (Below w.heap.size w (w116.setCell ⟨gb437, 9 + (a2_1 : Int).toNat, none⟩ (.bool true))) := ⟨bel_⟩
       (try clear HO_438007)
       (try clear HO_438008)
       (try clear HO457)
       (try clear HO460)
       (try clear BK418)
       (try clear BK419)
       (try clear BK423)
       (try clear BK437)
       (try clear BK446)
       (try clear HB)
       generalize (w116.setCell ⟨gb437, 9 + (a2_1 : Int).toNat, none⟩ (.bool true)) = w119 at n0_ n1_ n2_ n3_ n4_ n5_ n6_ n7_ n8_ n9_ ⊢
       have HO_438007 := n0_
       have HO_438008 := n1_
       have HO457 := n2_
       have HO460 := n3_
       have BK418 := n4_
       have BK419 := n5_
       have BK423 := n6_
       have BK437 := n7_
       have BK446 := n8_
       have HB := n9_
       clear n0_ n1_ n2_ n3_ n4_ n5_ n6_ n7_ n8_ n9_
       replace HO_438007 := zM (Kd.R_drew HO_438007.out)
       replace HO_438008 := zM (Kd.R_drew HO_438008.out)
       replace HO457 := zM (Kd.R_drew HO457.out)
       replace HO460 := zM (Kd.R_drew HO460.out)
       replace BK418 := zM (zD BK418.out)
       replace BK419 := zM (zD BK419.out)
       replace BK423 := zM (zD BK423.out)
       replace BK437 := zM (zD BK437.out)
       replace BK446 := zM (zD BK446.out)
       replace HB := zM (below_drew1 HB.out)
       refine start_ (n := 11) (S := fun w' => w'.cell? ⟨gb437, 0, none⟩ = some (.int .i64 x438000_55) ∧ w'.cell? ⟨gb437, 1, none⟩ = some (.int .i64 x438001_55) ∧ w'.cell? ⟨gb437, 2, none⟩ = some (.int .i64 x438002_55) ∧ w'.cell? ⟨gb437, 3, none⟩ = some (.int .i64 x438003_55) ∧ w'.cell? ⟨gb437, 4, none⟩ = some (.int .i64 x438004_55) ∧ w'.cell? ⟨gb437, 5, none⟩ = some (.int .i64 x438005_55) ∧ w'.cell? ⟨gb437, 6, none⟩ = some (.int .i64 x438006_55) ∧ w'.cell? ⟨gb437, 7, none⟩ = some (.slice Ao52 t431.length co52) ∧ w'.cell? ⟨gb437, 8, none⟩ = some (.slice Ao51 t434.length co51) ∧ w'.cell? ⟨gb437, 9, none⟩ = some (.bool (stA a2_1 0 true x438009_55)) ∧ w'.cell? ⟨gb437, 10, none⟩ = some (.bool (stA a2_1 1 true x438010_55)) ∧ w'.cell? ⟨gb437, 11, none⟩ = some (.bool (stA a2_1 2 true x438011_55)) ∧ w'.cell? ⟨gb437, 12, none⟩ = some (.bool (stA a2_1 3 true x438012_55)) ∧ w'.cell? ⟨gb437, 13, none⟩ = some (.bool (stA a2_1 4 true x438013_55)) ∧ w'.cell? ⟨gb437, 14, none⟩ = some (.bool (stA a2_1 5 true x438014_55)) ∧ w'.cell? ⟨gb437, 15, none⟩ = some (.slice none 0 0) ∧ w'.cell? ⟨gb437, 16, none⟩ = some (.slice none 0 0) ∧ w'.cell? ⟨gb446, 0, none⟩ = some (.int .i64 a2_0) ∧ w'.cell? ⟨gb446, 1, none⟩ = some (.int .i64 a2_1) ∧ w'.cell? ⟨gb446, 2, none⟩ = some (.int .i64 a2_2) ∧ w'.cell? ⟨gb446, 3, none⟩ = some (.int .i64 a2_3) ∧ w'.cell? ⟨gb446, 4, none⟩ = some (.int .i64 a2_4) ∧ w'.cell? ⟨gb446, 5, none⟩ = some (.int .i64 a2_5) ∧ w'.cell? ⟨gb446, 6, none⟩ = some (.int .i64 a2_6) ∧ w'.cell? ⟨gb446, 7, none⟩ = some (.slice A2_7 l2_7.length c2_7) ∧ w'.cell? ⟨gb446, 8, none⟩ = some (.slice A2_8 l2_8.length c2_8)) (ds := [10]) #[F_, F_, F_, F_, F_, F_, F_, F_, F_, F_, F_] (by kernel_rfl) rfl rfl ⟨(zL BK437.out 0).trans rfl, (zL BK437.out 1).trans rfl, (zL BK437.out 2).trans rfl, (zL BK437.out 3).trans rfl, (zL BK437.out 4).trans rfl, (zL BK437.out 5).trans rfl, (zL BK437.out 6).trans rfl, (zL BK437.out 7).trans rfl, (zL BK437.out 8).trans rfl, (zL BK437.out 9).trans rfl, (zL BK437.out 10).trans rfl, (zL BK437.out 11).trans rfl, (zL BK437.out 12).trans rfl, (zL BK437.out 13).trans rfl, (zL BK437.out 14).trans rfl, (zL BK437.out 15).trans rfl, (zL BK437.out 16).trans rfl, (zL BK446.out 0).trans rfl, (zL BK446.out 1).trans rfl, (zL BK446.out 2).trans rfl, (zL BK446.out 3).trans rfl, (zL BK446.out 4).trans rfl, (zL BK446.out 5).trans rfl, (zL BK446.out 6).trans rfl, (zL BK446.out 7).trans rfl, (zL BK446.out 8).trans rfl⟩ (fun hHeld => ?_)
       generalize w119.drew = w120 at HO_438007 HO_438008 HO457 HO460 BK418 BK419 BK423 BK437 BK446 HB hHeld ⊢
       refine pu_ 0 38 (dm_ 11 1) ?_
       refine pu_ 1 39 (dm_ 11 3) ?_
       refine pu_ 2 40 (dm_ 11 7) ?_
       refine pu_ 3 41 (dm_ 11 15) ?_
       refine pu_ 5 43 (dm_ 11 47) ?_
       refine tk_ hHeld 4 42 (dm_ 11 63) ?_
       refine tk_ hHeld 6 44 (dm_ 11 127) ?_
       refine one_ (i := 7) (N := some 45) (dm_ 11 255) rfl rfl (by kernel_rfl) (by decide) (fun K hK => ?_)
       refine goes_ Try.func42 (by kernel_rfl) rfl #[.slice none 0 0, .slice A2_7 l2_7.length c2_7] (by rfl) rfl rfl (by (try simp only [List.map_toArray, List.map_cons, List.map_nil]); first | done | rfl | (simp only [List.length_drop, List.length_take]; rfl)) ?_
       refine (cells_Merge.calls kj55 (fun k_ => False) _ _ ([] : List (S43)) _ _ l2_7 t462 _ ?side1 ?side2 ?side3 A100.out).mono ?_
       (case side1 => exact Kd.V_nil _ _ _ _ _)
       (case side2 => repeat (first | exact (Kd.C_below HR2_7.out HB.out) | (with_reducible refine Kd.C_alloc ?_ _) | (with_reducible refine Kd.C_drewN ?_ _) | (with_reducible refine Kd.C_drew ?_)))
       (case side3 => exact HC2_7.out)
       rintro e w121 ⟨v463, rfl, ho0, hb⟩
       refine ⟨_, rfl, ?_⟩
       replace HO_438008 := zM (Kd.R_below (rl_ HO_438008) hb)
       replace HO460 := zM (Kd.R_below (rl_ HO460) hb)
       have HO464 := zM (Kd.R_lower (Kd.R_new' (Kd.R_new' (Kd.R_mono (ok' := fun k_ => True) ho0 (fun _ hk_ => trivial)) (Kd.R_lt (rl_ HO_438007))) (Kd.R_lt (rl_ HO457))) (below_size bel_))
       replace HO_438007 := zM (Kd.R_elder' (rl_ HO_438007) (Kd.R_base ho0) hb)
       replace HO457 := zM (Kd.R_elder' (rl_ HO457) (Kd.R_base ho0) hb)
       replace BK418 := zM (bb_ BK418 hb)
       replace BK419 := zM (bb_ BK419 hb)
       replace BK423 := zM (bb_ BK423 hb)
       replace BK437 := zM (bb_ BK437 hb)
       replace BK446 := zM (bb_ BK446 hb)
       replace HB := zM (zB bel_ hb)
       (try clear hb)
       (try clear hb2)
       (try clear hk)
       (try clear hi)
       (try clear ho0)
       obtain ⟨Ao122, co122, eo122⟩ := Kd.R_slice HO464.out
       (first | subst eo122 | (injection eo122 with f1_ f2_ f3_; have f4_ := f1_.symm; have f5_ := f3_.symm; clear f1_ f2_ f3_; subst f4_; subst f5_))
       refine hK.out _ _ ⟨(zL BK437.out 0).trans rfl, (zL BK437.out 1).trans rfl, (zL BK437.out 2).trans rfl, (zL BK437.out 3).trans rfl, (zL BK437.out 4).trans rfl, (zL BK437.out 5).trans rfl, (zL BK437.out 6).trans rfl, (zL BK437.out 7).trans rfl, (zL BK437.out 8).trans rfl, (zL BK437.out 9).trans rfl, (zL BK437.out 10).trans rfl, (zL BK437.out 11).trans rfl, (zL BK437.out 12).trans rfl, (zL BK437.out 13).trans rfl, (zL BK437.out 14).trans rfl, (zL BK437.out 15).trans rfl, (zL BK437.out 16).trans rfl, (zL BK446.out 0).trans rfl, (zL BK446.out 1).trans rfl, (zL BK446.out 2).trans rfl, (zL BK446.out 3).trans rfl, (zL BK446.out 4).trans rfl, (zL BK446.out 5).trans rfl, (zL BK446.out 6).trans rfl, (zL BK446.out 7).trans rfl, (zL BK446.out 8).trans rfl⟩ (fun hHeld => ?_)
       clear hK K
       refine norm_ (a' := ?_) ?_ ?_
       rotate_left
       · show Act.put _ (some 45) _ = _
         simp only [Act.put, zS, zZ, zC, i64_w, i32_w]
         rfl
       refine pu_ 8 46 (dm_ 11 511) ?_
       refine pu_ 9 47 (dm_ 11 1023) ?_
       refine last_ (i := 10) (N := none) #[T_, T_, T_, T_, T_, T_, T_, T_, T_, T_, T_] rfl rfl (by kernel_rfl) (by decide) (fun K hK => ?_)
       have hs123 : w121.cell? ⟨gb437, 15, none⟩ = some (.slice none 0 0) := (zL BK437.out 15).trans rfl
       have hfs123 := zF BK437.out 15
       have hns123_0 := NB418_437.out
       have hns123_1 := NB419_437.out
       have hns123_2 := NB423_437.out
       have hns123_4 := NB446_437.out
       have hms123_0 := NB437_418.out
       have hms123_1 := NB437_419.out
       have hms123_2 := NB437_423.out
       have hms123_4 := NB437_446.out
       refine skip_ (w1 := ?_) (by rfl) rfl ?_ ?_
       rotate_left
       · go_simp
         rfl
       refine hK.out _ _ ?_
       clear hK K
       refine done_ (by kernel_rfl) ?_
       try go_wp2
       have n0_ : Aside0 (Kd.R k43 43 (w121.setCell ⟨gb437, 15, none⟩ (.slice Ao122 t462.length co122)) w.heap.size (fun k_ => some k_ ≠ (.slice Ao113 t455.length co113 : Value).ownBlock ∧ some k_ ≠ (.slice Ao122 t462.length co122 : Value).ownBlock) (.slice Ao52 t431.length co52) t431) := ⟨by (with_reducible repeat (first | apply Kd.R_alloc | apply Kd.R_drewN | apply Kd.R_drew)); exact Kd.R_mono (Kd.R_far (p := ⟨gb437, 15, none⟩) (Kd.R_types HO_438007.out BK437.out (by decide)) (fun _ hk => hk.2) (.slice Ao122 t462.length co122)) (fun _ hk => ⟨hk.1.1, hk.1.2⟩)⟩
       have n1_ : Aside0 (Kd.R k48 48 (w121.setCell ⟨gb437, 15, none⟩ (.slice Ao122 t462.length co122)) w.heap.size (fun k_ => some k_ ≠ (.slice Ao114 t458.length co114 : Value).ownBlock) (.slice Ao51 t434.length co51) t434) := ⟨by (with_reducible repeat (first | apply Kd.R_alloc | apply Kd.R_drewN | apply Kd.R_drew)); exact Kd.R_mono (Kd.R_far (p := ⟨gb437, 15, none⟩) (Kd.R_types HO_438008.out BK437.out (by decide)) (fun _ hk => hk.2) (.slice Ao122 t462.length co122)) (fun _ hk => hk.1)⟩
       have n2_ : Aside0 (Kd.R k43 43 (w121.setCell ⟨gb437, 15, none⟩ (.slice Ao122 t462.length co122)) w.heap.size (fun k_ => some k_ ≠ (.slice Ao52 t431.length co52 : Value).ownBlock ∧ some k_ ≠ (.slice Ao122 t462.length co122 : Value).ownBlock) (.slice Ao113 t455.length co113) t455) := ⟨by (with_reducible repeat (first | apply Kd.R_alloc | apply Kd.R_drewN | apply Kd.R_drew)); exact Kd.R_mono (Kd.R_far (p := ⟨gb437, 15, none⟩) (Kd.R_types HO457.out BK437.out (by decide)) (fun _ hk => hk.2) (.slice Ao122 t462.length co122)) (fun _ hk => ⟨hk.1.1, hk.1.2⟩)⟩
       have n3_ : Aside0 (Kd.R k48 48 (w121.setCell ⟨gb437, 15, none⟩ (.slice Ao122 t462.length co122)) w.heap.size (fun k_ => some k_ ≠ (.slice Ao51 t434.length co51 : Value).ownBlock) (.slice Ao114 t458.length co114) t458) := ⟨by (with_reducible repeat (first | apply Kd.R_alloc | apply Kd.R_drewN | apply Kd.R_drew)); exact Kd.R_mono (Kd.R_far (p := ⟨gb437, 15, none⟩) (Kd.R_types HO460.out BK437.out (by decide)) (fun _ hk => hk.2) (.slice Ao122 t462.length co122)) (fun _ hk => hk.1)⟩
       have n4_ : Aside0 (Kd.R k43 43 (w121.setCell ⟨gb437, 15, none⟩ (.slice Ao122 t462.length co122)) w.heap.size (fun k_ => some k_ ≠ (.slice Ao52 t431.length co52 : Value).ownBlock ∧ some k_ ≠ (.slice Ao113 t455.length co113 : Value).ownBlock) (.slice Ao122 t462.length co122) t462) := ⟨by (with_reducible repeat (first | apply Kd.R_alloc | apply Kd.R_drewN | apply Kd.R_drew)); exact Kd.R_mono (Kd.R_far (p := ⟨gb437, 15, none⟩) (Kd.R_types HO464.out BK437.out (by decide)) (fun _ hk => hk.2) (.slice Ao122 t462.length co122)) (fun _ hk => ⟨hk.1.1.2, hk.1.2⟩)⟩
       have n5_ : Aside0 ((w121.setCell ⟨gb437, 15, none⟩ (.slice Ao122 t462.length co122)).heap[gb418]? = some (.cells #[.int .i64 a0_0, .int .i64 a0_1, .int .i64 0, .int .i64 a0_3, .int .i64 a0_4, .int .i64 ji35, .int .i64 0, .slice A0_7 l0_7.length c0_7, .slice A0_8 l0_8.length c0_8] 27 (0, 0))) := ⟨blf_⟩
       have n6_ : Aside0 ((w121.setCell ⟨gb437, 15, none⟩ (.slice Ao122 t462.length co122)).heap[gb419]? = some (.cells #[.int .i64 a2_0, .int .i64 a2_1, .int .i64 a2_2, .int .i64 a2_3, .int .i64 a2_4, .int .i64 a2_5, .int .i64 a2_6, .slice A2_7 l2_7.length c2_7, .slice A2_8 l2_8.length c2_8] 27 (0, 0))) := ⟨blf_⟩
       have n7_ : Aside0 ((w121.setCell ⟨gb437, 15, none⟩ (.slice Ao122 t462.length co122)).heap[gb423]? = some (.cells #[.int .i64 a0_0, .int .i64 a0_1, .int .i64 0, .int .i64 a0_3, .int .i64 a0_4, .int .i64 ji35, .int .i64 0, .slice A0_7 l0_7.length c0_7, .slice A0_8 l0_8.length c0_8] 27 (0, 0))) := ⟨blf_⟩
       have n8_ : Aside0 ((w121.setCell ⟨gb437, 15, none⟩ (.slice Ao122 t462.length co122)).heap[gb437]? = some (.cells #[.int .i64 x438000_55, .int .i64 x438001_55, .int .i64 x438002_55, .int .i64 x438003_55, .int .i64 x438004_55, .int .i64 x438005_55, .int .i64 x438006_55, .slice Ao52 t431.length co52, .slice Ao51 t434.length co51, .bool (stA a2_1 0 true x438009_55), .bool (stA a2_1 1 true x438010_55), .bool (stA a2_1 2 true x438011_55), .bool (stA a2_1 3 true x438012_55), .bool (stA a2_1 4 true x438013_55), .bool (stA a2_1 5 true x438014_55), .slice Ao122 t462.length co122, .slice none 0 0] 71 (0, 0))) := ⟨by (with_reducible repeat (first | refine zN ?_ _ | refine zD ?_ | refine zA ?_ _)); refine blk_put (cs := #[.int .i64 x438000_55, .int .i64 x438001_55, .int .i64 x438002_55, .int .i64 x438003_55, .int .i64 x438004_55, .int .i64 x438005_55, .int .i64 x438006_55, .slice Ao52 t431.length co52, .slice Ao51 t434.length co51, .bool (stA a2_1 0 true x438009_55), .bool (stA a2_1 1 true x438010_55), .bool (stA a2_1 2 true x438011_55), .bool (stA a2_1 3 true x438012_55), .bool (stA a2_1 4 true x438013_55), .bool (stA a2_1 5 true x438014_55), .slice none 0 0, .slice none 0 0]) ?_ 15 _ rfl; (with_reducible repeat (first | refine zN ?_ _ | refine zD ?_ | refine zA ?_ _)); exact BK437.out⟩
       have n9_ : Aside0 ((w121.setCell ⟨gb437, 15, none⟩ (.slice Ao122 t462.length co122)).heap[gb446]? = some (.cells #[.int .i64 a2_0, .int .i64 a2_1, .int .i64 a2_2, .int .i64 a2_3, .int .i64 a2_4, .int .i64 a2_5, .int .i64 a2_6, .slice A2_7 l2_7.length c2_7, .slice A2_8 l2_8.length c2_8] 27 (0, 0))) := ⟨blf_⟩
       have n10_ : Aside0 (Below w.heap.size w (w121.setCell ⟨gb437, 15, none⟩ (.slice Ao122 t462.length co122))) := ⟨bel_⟩
       (try clear HO_438007)
       (try clear HO_438008)
       (try clear HO457)
       (try clear HO460)
       (try clear HO464)
       (try clear BK418)
       (try clear BK419)
       (try clear BK423)
       (try clear BK437)
       (try clear BK446)
       (try clear HB)
       generalize (w121.setCell ⟨gb437, 15, none⟩ (.slice Ao122 t462.length co122)) = w124 at n0_ n1_ n2_ n3_ n4_ n5_ n6_ n7_ n8_ n9_ n10_ ⊢
       have HO_438007 := n0_
       have HO_438008 := n1_
       have HO457 := n2_
       have HO460 := n3_
       have HO464 := n4_
       have BK418 := n5_
       have BK419 := n6_
       have BK423 := n7_
       have BK437 := n8_
       have BK446 := n9_
       have HB := n10_
       clear n0_ n1_ n2_ n3_ n4_ n5_ n6_ n7_ n8_ n9_ n10_
       replace HO_438007 := zM (Kd.R_drew HO_438007.out)
       replace HO_438008 := zM (Kd.R_drew HO_438008.out)
       replace HO457 := zM (Kd.R_drew HO457.out)
       replace HO460 := zM (Kd.R_drew HO460.out)
       replace HO464 := zM (Kd.R_drew HO464.out)
       replace BK418 := zM (zD BK418.out)
       replace BK419 := zM (zD BK419.out)
       replace BK423 := zM (zD BK423.out)
       replace BK437 := zM (zD BK437.out)
       replace BK446 := zM (zD BK446.out)
       replace HB := zM (below_drew1 HB.out)
       refine start_ (n := 11) (S := fun w' => w'.cell? ⟨gb437, 0, none⟩ = some (.int .i64 x438000_55) ∧ w'.cell? ⟨gb437, 1, none⟩ = some (.int .i64 x438001_55) ∧ w'.cell? ⟨gb437, 2, none⟩ = some (.int .i64 x438002_55) ∧ w'.cell? ⟨gb437, 3, none⟩ = some (.int .i64 x438003_55) ∧ w'.cell? ⟨gb437, 4, none⟩ = some (.int .i64 x438004_55) ∧ w'.cell? ⟨gb437, 5, none⟩ = some (.int .i64 x438005_55) ∧ w'.cell? ⟨gb437, 6, none⟩ = some (.int .i64 x438006_55) ∧ w'.cell? ⟨gb437, 7, none⟩ = some (.slice Ao52 t431.length co52) ∧ w'.cell? ⟨gb437, 8, none⟩ = some (.slice Ao51 t434.length co51) ∧ w'.cell? ⟨gb437, 9, none⟩ = some (.bool (stA a2_1 0 true x438009_55)) ∧ w'.cell? ⟨gb437, 10, none⟩ = some (.bool (stA a2_1 1 true x438010_55)) ∧ w'.cell? ⟨gb437, 11, none⟩ = some (.bool (stA a2_1 2 true x438011_55)) ∧ w'.cell? ⟨gb437, 12, none⟩ = some (.bool (stA a2_1 3 true x438012_55)) ∧ w'.cell? ⟨gb437, 13, none⟩ = some (.bool (stA a2_1 4 true x438013_55)) ∧ w'.cell? ⟨gb437, 14, none⟩ = some (.bool (stA a2_1 5 true x438014_55)) ∧ w'.cell? ⟨gb437, 15, none⟩ = some (.slice Ao122 t462.length co122) ∧ w'.cell? ⟨gb437, 16, none⟩ = some (.slice none 0 0) ∧ w'.cell? ⟨gb446, 0, none⟩ = some (.int .i64 a2_0) ∧ w'.cell? ⟨gb446, 1, none⟩ = some (.int .i64 a2_1) ∧ w'.cell? ⟨gb446, 2, none⟩ = some (.int .i64 a2_2) ∧ w'.cell? ⟨gb446, 3, none⟩ = some (.int .i64 a2_3) ∧ w'.cell? ⟨gb446, 4, none⟩ = some (.int .i64 a2_4) ∧ w'.cell? ⟨gb446, 5, none⟩ = some (.int .i64 a2_5) ∧ w'.cell? ⟨gb446, 6, none⟩ = some (.int .i64 a2_6) ∧ w'.cell? ⟨gb446, 7, none⟩ = some (.slice A2_7 l2_7.length c2_7) ∧ w'.cell? ⟨gb446, 8, none⟩ = some (.slice A2_8 l2_8.length c2_8)) (ds := [10]) #[F_, F_, F_, F_, F_, F_, F_, F_, F_, F_, F_] (by kernel_rfl) rfl rfl ⟨(zL BK437.out 0).trans rfl, (zL BK437.out 1).trans rfl, (zL BK437.out 2).trans rfl, (zL BK437.out 3).trans rfl, (zL BK437.out 4).trans rfl, (zL BK437.out 5).trans rfl, (zL BK437.out 6).trans rfl, (zL BK437.out 7).trans rfl, (zL BK437.out 8).trans rfl, (zL BK437.out 9).trans rfl, (zL BK437.out 10).trans rfl, (zL BK437.out 11).trans rfl, (zL BK437.out 12).trans rfl, (zL BK437.out 13).trans rfl, (zL BK437.out 14).trans rfl, (zL BK437.out 15).trans rfl, (zL BK437.out 16).trans rfl, (zL BK446.out 0).trans rfl, (zL BK446.out 1).trans rfl, (zL BK446.out 2).trans rfl, (zL BK446.out 3).trans rfl, (zL BK446.out 4).trans rfl, (zL BK446.out 5).trans rfl, (zL BK446.out 6).trans rfl, (zL BK446.out 7).trans rfl, (zL BK446.out 8).trans rfl⟩ (fun hHeld => ?_)
       generalize w124.drew = w125 at HO_438007 HO_438008 HO457 HO460 HO464 BK418 BK419 BK423 BK437 BK446 HB hHeld ⊢
       refine pu_ 0 48 (dm_ 11 1) ?_
       refine pu_ 1 49 (dm_ 11 3) ?_
       refine pu_ 2 50 (dm_ 11 7) ?_
       refine pu_ 3 51 (dm_ 11 15) ?_
       refine pu_ 5 53 (dm_ 11 47) ?_
       refine tk_ hHeld 4 52 (dm_ 11 63) ?_
       refine tk_ hHeld 6 54 (dm_ 11 127) ?_
       refine one_ (i := 7) (N := some 55) (dm_ 11 255) rfl rfl (by kernel_rfl) (by decide) (fun K hK => ?_)
       refine goes_ Try.func43 (by kernel_rfl) rfl #[.slice none 0 0, .slice A2_8 l2_8.length c2_8] (by rfl) rfl rfl (by (try simp only [List.map_toArray, List.map_cons, List.map_nil]); first | done | rfl | (simp only [List.length_drop, List.length_take]; rfl)) ?_
       refine (book_Merge.calls kj55 _ _ ([] : List (S48)) _ _ l2_8 t465 _ ?side1 ?side2 ?side3 ?side4 A101.out).mono ?_
       (case side1 => exact Kd.C_nil _ _)
       (case side2 => exact Nat.le_refl _)
       (case side3 => repeat (first | exact (Kd.C_below HR2_8.out HB.out) | (with_reducible refine Kd.C_alloc ?_ _) | (with_reducible refine Kd.C_drewN ?_ _) | (with_reducible refine Kd.C_drew ?_)))
       (case side4 => exact HC2_8.out)
       rintro e w126 ⟨v466, rfl, ho0, hb⟩
       refine ⟨_, rfl, ?_⟩
       replace HO_438007 := zM (Kd.R_below (rl_ HO_438007) hb)
       replace HO457 := zM (Kd.R_below (rl_ HO457) hb)
       replace HO464 := zM (Kd.R_below (rl_ HO464) hb)
       have HO467 := zM (Kd.R_lower (Kd.R_new' (Kd.R_new' ho0 (Kd.R_lt (rl_ HO_438008))) (Kd.R_lt (rl_ HO460))) (below_size bel_))
       replace HO_438008 := zM (Kd.R_elder' (rl_ HO_438008) (Kd.R_base ho0) hb)
       replace HO460 := zM (Kd.R_elder' (rl_ HO460) (Kd.R_base ho0) hb)
       replace BK418 := zM (bb_ BK418 hb)
       replace BK419 := zM (bb_ BK419 hb)
       replace BK423 := zM (bb_ BK423 hb)
       replace BK437 := zM (bb_ BK437 hb)
       replace BK446 := zM (bb_ BK446 hb)
       replace HB := zM (zB bel_ hb)
       (try clear hb)
       (try clear hb2)
       (try clear hk)
       (try clear hi)
       (try clear ho0)
       obtain ⟨Ao127, co127, eo127⟩ := Kd.R_slice HO467.out
       (first | subst eo127 | (injection eo127 with f1_ f2_ f3_; have f4_ := f1_.symm; have f5_ := f3_.symm; clear f1_ f2_ f3_; subst f4_; subst f5_))
       refine hK.out _ _ ⟨(zL BK437.out 0).trans rfl, (zL BK437.out 1).trans rfl, (zL BK437.out 2).trans rfl, (zL BK437.out 3).trans rfl, (zL BK437.out 4).trans rfl, (zL BK437.out 5).trans rfl, (zL BK437.out 6).trans rfl, (zL BK437.out 7).trans rfl, (zL BK437.out 8).trans rfl, (zL BK437.out 9).trans rfl, (zL BK437.out 10).trans rfl, (zL BK437.out 11).trans rfl, (zL BK437.out 12).trans rfl, (zL BK437.out 13).trans rfl, (zL BK437.out 14).trans rfl, (zL BK437.out 15).trans rfl, (zL BK437.out 16).trans rfl, (zL BK446.out 0).trans rfl, (zL BK446.out 1).trans rfl, (zL BK446.out 2).trans rfl, (zL BK446.out 3).trans rfl, (zL BK446.out 4).trans rfl, (zL BK446.out 5).trans rfl, (zL BK446.out 6).trans rfl, (zL BK446.out 7).trans rfl, (zL BK446.out 8).trans rfl⟩ (fun hHeld => ?_)
       clear hK K
       refine norm_ (a' := ?_) ?_ ?_
       rotate_left
       · show Act.put _ (some 55) _ = _
         simp only [Act.put, zS, zZ, zC, i64_w, i32_w]
         rfl
       refine pu_ 8 56 (dm_ 11 511) ?_
       refine pu_ 9 57 (dm_ 11 1023) ?_
       refine last_ (i := 10) (N := none) #[T_, T_, T_, T_, T_, T_, T_, T_, T_, T_, T_] rfl rfl (by kernel_rfl) (by decide) (fun K hK => ?_)
       have hs128 : w126.cell? ⟨gb437, 16, none⟩ = some (.slice none 0 0) := (zL BK437.out 16).trans rfl
       have hfs128 := zF BK437.out 16
       have hns128_0 := NB418_437.out
       have hns128_1 := NB419_437.out
       have hns128_2 := NB423_437.out
       have hns128_4 := NB446_437.out
       have hms128_0 := NB437_418.out
       have hms128_1 := NB437_419.out
       have hms128_2 := NB437_423.out
       have hms128_4 := NB437_446.out
       refine skip_ (w1 := ?_) (by rfl) rfl ?_ ?_
       rotate_left
       · go_simp
         rfl
       refine hK.out _ _ ?_
       clear hK K
       refine done_ (by kernel_rfl) ?_
       have tk129 : True := trivial
       try go_wp2_with (first | (clear tk129; (first | go_ret | go_ret2 | go_ret3 | go_end0); with_reducible refine inl_back_ ?_))
       go_meet
       case rel => exact ⟨_, (true), (x438000_55), (x438001_55), (x438002_55), (x438003_55), (x438004_55), (x438005_55), (x438006_55), (stA a2_1 0 true x438009_55), (stA a2_1 1 true x438010_55), (stA a2_1 2 true x438011_55), (stA a2_1 3 true x438012_55), (stA a2_1 4 true x438013_55), (stA a2_1 5 true x438014_55), (t462), (t465), (.slice Ao122 t462.length co122), (.slice Ao127 t465.length co127), (by first | rfl | (simp; done) | (simp [*]; done) | (simp; grind)), H', ⟨by have := HJ15.out; have := HJ55.out; first | omega | exact Nat.le_refl _⟩, ⟨by (with_reducible repeat (first | apply Kd.R_alloc | apply Kd.R_drewN | apply Kd.R_drew)); exact Kd.R_mono (Kd.R_far (p := ⟨gb437, 16, none⟩) (Kd.R_types HO_438007.out BK437.out (by decide)) (fun _ hk => hk.2) (.slice Ao127 t465.length co127)) (fun _ hk => hk.1.2)⟩, ⟨by (with_reducible repeat (first | apply Kd.R_alloc | apply Kd.R_drewN | apply Kd.R_drew)); exact Kd.R_mono (Kd.R_far (p := ⟨gb437, 16, none⟩) (Kd.R_types HO_438008.out BK437.out (by decide)) (fun _ hk => hk.2) (.slice Ao127 t465.length co127)) (fun _ hk => hk.1.2)⟩, ⟨by (with_reducible repeat (first | apply Kd.R_alloc | apply Kd.R_drewN | apply Kd.R_drew)); exact Kd.R_mono (Kd.R_far (p := ⟨gb437, 16, none⟩) (Kd.R_types HO464.out BK437.out (by decide)) (fun _ hk => hk.2) (.slice Ao127 t465.length co127)) (fun _ hk => hk.1.1)⟩, ⟨by (with_reducible repeat (first | apply Kd.R_alloc | apply Kd.R_drewN | apply Kd.R_drew)); exact Kd.R_mono (Kd.R_far (p := ⟨gb437, 16, none⟩) (Kd.R_types HO467.out BK437.out (by decide)) (fun _ hk => hk.2) (.slice Ao127 t465.length co127)) (fun _ hk => hk.1.1.2)⟩, ⟨blf_⟩, ⟨blf_⟩, ⟨blf_⟩, ⟨by (with_reducible repeat (first | refine zN ?_ _ | refine zD ?_ | refine zA ?_ _)); refine blk_put (cs := #[.int .i64 x438000_55, .int .i64 x438001_55, .int .i64 x438002_55, .int .i64 x438003_55, .int .i64 x438004_55, .int .i64 x438005_55, .int .i64 x438006_55, .slice Ao52 t431.length co52, .slice Ao51 t434.length co51, .bool (stA a2_1 0 true x438009_55), .bool (stA a2_1 1 true x438010_55), .bool (stA a2_1 2 true x438011_55), .bool (stA a2_1 3 true x438012_55), .bool (stA a2_1 4 true x438013_55), .bool (stA a2_1 5 true x438014_55), .slice Ao122 t462.length co122, .slice none 0 0]) ?_ 16 _ rfl; (with_reducible repeat (first | refine zN ?_ _ | refine zD ?_ | refine zA ?_ _)); exact BK437.out⟩, ⟨bel_⟩⟩
      case rest =>
       clear HC79
       try clear c81
       try clear c82
       try clear c83
       try clear hcz148_0
       try clear hcz148_1
       try clear hcz148_2
       try clear hcz148_3
       try clear hcz148_4
       try clear hcz148_5
       try clear hcz148_6
       try clear hcz148_7
       try clear hcz148_8
       try clear hfz148_0
       try clear hfz148_1
       try clear hfz148_2
       try clear hfz148_3
       try clear hfz148_4
       try clear hfz148_5
       try clear hfz148_6
       try clear hfz148_7
       try clear hfz148_8
       obtain ⟨kq, x8_78, x438000_78, x438001_78, x438002_78, x438003_78, x438004_78, x438005_78, x438006_78, x438009_78, x438010_78, x438011_78, x438012_78, x438013_78, x438014_78, x438015_78, x438016_78, u438015, u438016, rfl, HA, HJ78, HO_438007, HO_438008, HO_438015, HO_438016, BK418, BK419, BK423, BK437, HB⟩ := hcut
       cases kq with
       | zero => exact absurd HA.out (by simp [ropewaylaw14_RoundAlone.j2])
       | succ kj78 =>
        have H := HA.out
        clear HA
        simp only [ropewaylaw14_RoundAlone.j2] at H
        by_cases c155 : x8_78 = true
        rotate_left
        · replace c155 := Bool.eq_false_iff.mpr c155
          subst c155
          have H1 : ((round_Round_Who.f kj78 x438000_78 x438001_78 x438002_78 x438003_78 x438004_78 x438005_78 x438006_78 t431 t434 x438009_78 x438010_78 x438011_78 x438012_78 x438013_78 x438014_78 x438015_78 x438016_78).bind fun t468 => (if (t468.length : Int) = 0 then ((round_Round_Asks.f kj78 x438000_78 x438001_78 x438002_78 x438003_78 x438004_78 x438005_78 x438006_78 t431 t434 x438009_78 x438010_78 x438011_78 x438012_78 x438013_78 x438014_78 x438015_78 x438016_78).bind fun t471 => (if (t471.length : Int) = 1 then ((round_Round_Done.f kj78 x438000_78 x438001_78 x438002_78 x438003_78 x438004_78 x438005_78 x438006_78 t431 t434 x438009_78 x438010_78 x438011_78 x438012_78 x438013_78 x438014_78 x438015_78 x438016_78).bind fun t474 => (some (!t474))) else (some false))) else (some false))) = some r := by rw [if_neg (show ¬ (false = true) by decide)] at H; exact H
          clear H
          have H := H1
          clear H1
          replace H := Option.bind_eq_some_iff.mp H
          obtain ⟨t468, A1770, H⟩ := H
          replace H : (if (t468.length : Int) = 0 then ((round_Round_Asks.f kj78 x438000_78 x438001_78 x438002_78 x438003_78 x438004_78 x438005_78 x438006_78 t431 t434 x438009_78 x438010_78 x438011_78 x438012_78 x438013_78 x438014_78 x438015_78 x438016_78).bind fun t471 => (if (t471.length : Int) = 1 then ((round_Round_Done.f kj78 x438000_78 x438001_78 x438002_78 x438003_78 x438004_78 x438005_78 x438006_78 t431 t434 x438009_78 x438010_78 x438011_78 x438012_78 x438013_78 x438014_78 x438015_78 x438016_78).bind fun t474 => (some (!t474))) else (some false))) else (some false)) = some r := H
          have A177 := zM A1770
          clear A1770
          by_cases c178 : (t468.length : Int) = 0
          rotate_left
          · rw [if_neg c178] at H
            have c178b0 : ((t468.length : Int) == 0) = false := beq_eq_false_iff_ne.mpr c178
            have c178b1 : ((t468.length : Int) != 0) = true := bne_iff_ne.mpr c178
            have c178b2 : ¬ (t468 = []) := fun h_ => c178 (by rw [h_]; rfl)
            exact absurd (Option.some.inj H) (by rw [hr1_.out]; decide)
          rw [if_pos c178] at H
          have c178b0 : ((t468.length : Int) == 0) = true := beq_iff_eq.mpr c178
          have c178b1 : ((t468.length : Int) != 0) = false := bne_eq_false_iff_eq.mpr c178
          clear c178
          replace H := Option.bind_eq_some_iff.mp H
          obtain ⟨t471, A1790, H⟩ := H
          replace H : (if (t471.length : Int) = 1 then ((round_Round_Done.f kj78 x438000_78 x438001_78 x438002_78 x438003_78 x438004_78 x438005_78 x438006_78 t431 t434 x438009_78 x438010_78 x438011_78 x438012_78 x438013_78 x438014_78 x438015_78 x438016_78).bind fun t474 => (some (!t474))) else (some false)) = some r := H
          have A179 := zM A1790
          clear A1790
          by_cases c180 : (t471.length : Int) = 1
          rotate_left
          · rw [if_neg c180] at H
            have c180b0 : ((t471.length : Int) == 1) = false := beq_eq_false_iff_ne.mpr c180
            have c180b1 : ((t471.length : Int) != 1) = true := bne_iff_ne.mpr c180
            exact absurd (Option.some.inj H) (by rw [hr1_.out]; decide)
          rw [if_pos c180] at H
          have c180b0 : ((t471.length : Int) == 1) = true := beq_iff_eq.mpr c180
          have c180b1 : ((t471.length : Int) != 1) = false := bne_eq_false_iff_eq.mpr c180
          clear c180
          replace H := Option.bind_eq_some_iff.mp H
          obtain ⟨t474, A1810, H⟩ := H
          replace H : (some (!t474)) = some r := H
          have A181 := zM A1810
          clear A1810
          obtain rfl := Option.some.inj H
          obtain ⟨Ao182, co182, eo182⟩ := Kd.R_slice HO_438015.out
          subst eo182
          obtain ⟨Ao183, co183, eo183⟩ := Kd.R_slice HO_438016.out
          subst eo183
          have tk185 : True := trivial
          have tk188 : True := trivial
          have tk191 : True := trivial
          go_wp2_with (first | ((with_reducible refine gate_callee (f := 14) rfl ?_); clear tk185; refine goL_ (some 57) Try.func14 #[.pointer (some ⟨gb437, 0, none⟩)] ?_; (with_reducible refine (round_Round_Who.calls kj78 gb437 x438000_78 x438001_78 x438002_78 x438003_78 x438004_78 x438005_78 x438006_78 Ao52 co52 t431 Ao51 co51 t434 x438009_78 x438010_78 x438011_78 x438012_78 x438013_78 x438014_78 Ao182 co182 x438015_78 Ao183 co183 x438016_78 t468 _ ?side1 ?side2 ?side3 ?side4 ?side5 ?side6 ?side7 ?side8 ?side9 A177.out).mono ?_); (case side1 => repeat (first | exact (Kd.R_reads' HO_438007.out).2.2 | (with_reducible refine Kd.C_alloc ?_ _) | (with_reducible refine Kd.C_drewN ?_ _) | (with_reducible refine Kd.C_drew ?_))); (case side2 => exact (Kd.R_reads' HO_438007.out).2.1); (case side3 => repeat (first | exact (Kd.R_reads' HO_438008.out).2.2 | (with_reducible refine Kd.C_alloc ?_ _) | (with_reducible refine Kd.C_drewN ?_ _) | (with_reducible refine Kd.C_drew ?_))); (case side4 => exact (Kd.R_reads' HO_438008.out).2.1); (case side5 => repeat (first | exact (Kd.R_reads' HO_438015.out).2.2 | (with_reducible refine Kd.C_alloc ?_ _) | (with_reducible refine Kd.C_drewN ?_ _) | (with_reducible refine Kd.C_drew ?_))); (case side6 => exact (Kd.R_reads' HO_438015.out).2.1); (case side7 => repeat (first | exact (Kd.R_reads' HO_438016.out).2.2 | (with_reducible refine Kd.C_alloc ?_ _) | (with_reducible refine Kd.C_drewN ?_ _) | (with_reducible refine Kd.C_drew ?_))); (case side8 => exact (Kd.R_reads' HO_438016.out).2.1); (case side9 => exact blf_); rintro e w184 ⟨v469, rfl, ho0, hb⟩; refine ⟨_, rfl, ?_⟩; replace HO_438007 := zM (Kd.R_below (rl_ HO_438007) hb); replace HO_438008 := zM (Kd.R_below (rl_ HO_438008) hb); replace HO_438015 := zM (Kd.R_below (rl_ HO_438015) hb); replace HO_438016 := zM (Kd.R_below (rl_ HO_438016) hb); have HO470 := zM (Kd.R_lower ho0 (below_size bel_)); replace BK418 := zM (bb_ BK418 hb); replace BK419 := zM (bb_ BK419 hb); replace BK423 := zM (bb_ BK423 hb); replace BK437 := zM (bb_ BK437 hb); replace HB := zM (zB bel_ hb); (try clear hb); (try clear ho0); obtain ⟨Ao186, co186, eo186⟩ := Kd.R_slice HO470.out; subst eo186) | (go_at_call 15; (with_reducible refine (round_Round_Asks.calls kj78 gb437 x438000_78 x438001_78 x438002_78 x438003_78 x438004_78 x438005_78 x438006_78 Ao52 co52 t431 Ao51 co51 t434 x438009_78 x438010_78 x438011_78 x438012_78 x438013_78 x438014_78 Ao182 co182 x438015_78 Ao183 co183 x438016_78 t471 _ ?side1 ?side2 ?side3 ?side4 ?side5 ?side6 ?side7 ?side8 ?side9 A179.out).mono ?_); (case side1 => repeat (first | exact (Kd.R_reads' HO_438007.out).2.2 | (with_reducible refine Kd.C_alloc ?_ _) | (with_reducible refine Kd.C_drewN ?_ _) | (with_reducible refine Kd.C_drew ?_))); (case side2 => exact (Kd.R_reads' HO_438007.out).2.1); (case side3 => repeat (first | exact (Kd.R_reads' HO_438008.out).2.2 | (with_reducible refine Kd.C_alloc ?_ _) | (with_reducible refine Kd.C_drewN ?_ _) | (with_reducible refine Kd.C_drew ?_))); (case side4 => exact (Kd.R_reads' HO_438008.out).2.1); (case side5 => repeat (first | exact (Kd.R_reads' HO_438015.out).2.2 | (with_reducible refine Kd.C_alloc ?_ _) | (with_reducible refine Kd.C_drewN ?_ _) | (with_reducible refine Kd.C_drew ?_))); (case side6 => exact (Kd.R_reads' HO_438015.out).2.1); (case side7 => repeat (first | exact (Kd.R_reads' HO_438016.out).2.2 | (with_reducible refine Kd.C_alloc ?_ _) | (with_reducible refine Kd.C_drewN ?_ _) | (with_reducible refine Kd.C_drew ?_))); (case side8 => exact (Kd.R_reads' HO_438016.out).2.1); (case side9 => exact blf_); clear tk188; rintro e w187 ⟨v472, rfl, ho0, hb⟩; replace HO470 := zM (Kd.R_below (rl_ HO470) hb); have HO473 := zM (Kd.S_lower (Kd.S_newB (Kd.S_newB (Kd.S_newB (Kd.S_new' (Kd.S_new' (Kd.S_new' (Kd.S_new' ho0 (Kd.R_lt (rl_ HO_438007))) (Kd.R_lt (rl_ HO_438008))) (Kd.R_lt (rl_ HO_438015))) (Kd.R_lt (rl_ HO_438016))) (g := gb418) (o := .cells #[.int .i64 a0_0, .int .i64 a0_1, .int .i64 0, .int .i64 a0_3, .int .i64 a0_4, .int .i64 ji35, .int .i64 0, .slice A0_7 l0_7.length c0_7, .slice A0_8 l0_8.length c0_8] 27 (0, 0)) blk_) (g := gb419) (o := .cells #[.int .i64 a2_0, .int .i64 a2_1, .int .i64 a2_2, .int .i64 a2_3, .int .i64 a2_4, .int .i64 a2_5, .int .i64 a2_6, .slice A2_7 l2_7.length c2_7, .slice A2_8 l2_8.length c2_8] 27 (0, 0)) blk_) (g := gb423) (o := .cells #[.int .i64 a0_0, .int .i64 a0_1, .int .i64 0, .int .i64 a0_3, .int .i64 a0_4, .int .i64 ji35, .int .i64 0, .slice A0_7 l0_7.length c0_7, .slice A0_8 l0_8.length c0_8] 27 (0, 0)) blk_) (below_size bel_)); replace HO_438007 := zM (Kd.R_below (rl_ HO_438007) hb); replace HO_438008 := zM (Kd.R_below (rl_ HO_438008) hb); replace HO_438015 := zM (Kd.R_below (rl_ HO_438015) hb); replace HO_438016 := zM (Kd.R_below (rl_ HO_438016) hb); replace BK418 := zM (bb_ BK418 hb); replace BK419 := zM (bb_ BK419 hb); replace BK423 := zM (bb_ BK423 hb); replace BK437 := zM (bb_ BK437 hb); replace HB := zM (zB bel_ hb); (try clear hb); (try clear ho0); obtain ⟨Ao189, co189, eo189⟩ := Kd.S_slice HO473.out; subst eo189) | (go_at_call 13; (with_reducible refine (round_Round_Done.calls kj78 gb437 x438000_78 x438001_78 x438002_78 x438003_78 x438004_78 x438005_78 x438006_78 Ao52 co52 t431 Ao51 co51 t434 x438009_78 x438010_78 x438011_78 x438012_78 x438013_78 x438014_78 Ao182 co182 x438015_78 Ao183 co183 x438016_78 t474 _ ?side1 ?side2 ?side3 ?side4 ?side5 ?side6 ?side7 ?side8 ?side9 A181.out).mono ?_); (case side1 => repeat (first | exact (Kd.R_reads' HO_438007.out).2.2 | (with_reducible refine Kd.C_alloc ?_ _) | (with_reducible refine Kd.C_drewN ?_ _) | (with_reducible refine Kd.C_drew ?_))); (case side2 => exact (Kd.R_reads' HO_438007.out).2.1); (case side3 => repeat (first | exact (Kd.R_reads' HO_438008.out).2.2 | (with_reducible refine Kd.C_alloc ?_ _) | (with_reducible refine Kd.C_drewN ?_ _) | (with_reducible refine Kd.C_drew ?_))); (case side4 => exact (Kd.R_reads' HO_438008.out).2.1); (case side5 => repeat (first | exact (Kd.R_reads' HO_438015.out).2.2 | (with_reducible refine Kd.C_alloc ?_ _) | (with_reducible refine Kd.C_drewN ?_ _) | (with_reducible refine Kd.C_drew ?_))); (case side6 => exact (Kd.R_reads' HO_438015.out).2.1); (case side7 => repeat (first | exact (Kd.R_reads' HO_438016.out).2.2 | (with_reducible refine Kd.C_alloc ?_ _) | (with_reducible refine Kd.C_drewN ?_ _) | (with_reducible refine Kd.C_drew ?_))); (case side8 => exact (Kd.R_reads' HO_438016.out).2.1); (case side9 => exact blf_); clear tk191; rintro e w190 ⟨rfl, hb⟩; replace HO_438007 := zM (Kd.R_below (rl_ HO_438007) hb); replace HO_438008 := zM (Kd.R_below (rl_ HO_438008) hb); replace HO_438015 := zM (Kd.R_below (rl_ HO_438015) hb); replace HO_438016 := zM (Kd.R_below (rl_ HO_438016) hb); replace HO470 := zM (Kd.R_below (rl_ HO470) hb); replace HO473 := zM (Kd.S_below (by (with_reducible repeat (first | apply Kd.S_alloc | apply Kd.S_drewN | apply Kd.S_drew)); exact HO473.out) hb); replace BK418 := zM (bb_ BK418 hb); replace BK419 := zM (bb_ BK419 hb); replace BK423 := zM (bb_ BK423 hb); replace BK437 := zM (bb_ BK437 hb); replace HB := zM (zB bel_ hb); (try clear hb); (try clear hi)))
          go_ret
          exact ⟨by first | rfl | (simp [errW_none, errW_some] <;> rfl) | (simp only [← hji35]; first | rfl | (simp [errW_none, errW_some] <;> rfl)) | (simp [*, errW_none, errW_some] <;> rfl), bel_⟩
        subst c155
        have H1 : (if a2_1 = a1 then ((round_Round_Done.f kj78 x438000_78 x438001_78 x438002_78 x438003_78 x438004_78 x438005_78 x438006_78 t431 t434 x438009_78 x438010_78 x438011_78 x438012_78 x438013_78 x438014_78 x438015_78 x438016_78).bind fun t475 => (if t475 = true then ((round_Round_Asks.f kj78 x438000_78 x438001_78 x438002_78 x438003_78 x438004_78 x438005_78 x438006_78 t431 t434 x438009_78 x438010_78 x438011_78 x438012_78 x438013_78 x438014_78 x438015_78 x438016_78).bind fun t476 => (if (t476.length : Int) = 0 then ((round_Round_Book.f x438000_78 x438001_78 x438002_78 x438003_78 x438004_78 x438005_78 x438006_78 t431 t434 x438009_78 x438010_78 x438011_78 x438012_78 x438013_78 x438014_78 x438015_78 x438016_78).bind fun t479 => ((ropewayref07_Same.f kj78 t479 l2_8).bind fun t482 => (if t482 = true then ((round_Round_Cells.f x438000_78 x438001_78 x438002_78 x438003_78 x438004_78 x438005_78 x438006_78 t431 t434 x438009_78 x438010_78 x438011_78 x438012_78 x438013_78 x438014_78 x438015_78 x438016_78).bind fun t483 => ((ropewayref10_Same.f kj78 t483 l2_7).bind fun t486 => (some t486))) else (some false)))) else (some false))) else (some false))) else (some false)) = some r := by rw [if_pos rfl] at H; exact H
        clear H
        have H := H1
        clear H1
        by_cases c156 : a2_1 = a1
        rotate_left
        · rw [if_neg c156] at H
          have c156b0 : (a2_1 == a1) = false := beq_eq_false_iff_ne.mpr c156
          have c156b1 : (a2_1 != a1) = true := bne_iff_ne.mpr c156
          exact absurd (Option.some.inj H) (by rw [hr1_.out]; decide)
        rw [if_pos c156] at H
        have c156b0 : (a2_1 == a1) = true := beq_iff_eq.mpr c156
        have c156b1 : (a2_1 != a1) = false := bne_eq_false_iff_eq.mpr c156
        clear c156
        replace H := Option.bind_eq_some_iff.mp H
        obtain ⟨t475, A1570, H⟩ := H
        replace H : (if t475 = true then ((round_Round_Asks.f kj78 x438000_78 x438001_78 x438002_78 x438003_78 x438004_78 x438005_78 x438006_78 t431 t434 x438009_78 x438010_78 x438011_78 x438012_78 x438013_78 x438014_78 x438015_78 x438016_78).bind fun t476 => (if (t476.length : Int) = 0 then ((round_Round_Book.f x438000_78 x438001_78 x438002_78 x438003_78 x438004_78 x438005_78 x438006_78 t431 t434 x438009_78 x438010_78 x438011_78 x438012_78 x438013_78 x438014_78 x438015_78 x438016_78).bind fun t479 => ((ropewayref07_Same.f kj78 t479 l2_8).bind fun t482 => (if t482 = true then ((round_Round_Cells.f x438000_78 x438001_78 x438002_78 x438003_78 x438004_78 x438005_78 x438006_78 t431 t434 x438009_78 x438010_78 x438011_78 x438012_78 x438013_78 x438014_78 x438015_78 x438016_78).bind fun t483 => ((ropewayref10_Same.f kj78 t483 l2_7).bind fun t486 => (some t486))) else (some false)))) else (some false))) else (some false)) = some r := H
        have A157 := zM A1570
        clear A1570
        by_cases c158 : t475 = true
        rotate_left
        · replace c158 := Bool.eq_false_iff.mpr c158
          subst c158
          have H1 : (some false) = some r := by rw [if_neg (show ¬ (false = true) by decide)] at H; exact H
          clear H
          have H := H1
          clear H1
          exact absurd (Option.some.inj H) (by rw [hr1_.out]; decide)
        subst c158
        have H1 : ((round_Round_Asks.f kj78 x438000_78 x438001_78 x438002_78 x438003_78 x438004_78 x438005_78 x438006_78 t431 t434 x438009_78 x438010_78 x438011_78 x438012_78 x438013_78 x438014_78 x438015_78 x438016_78).bind fun t476 => (if (t476.length : Int) = 0 then ((round_Round_Book.f x438000_78 x438001_78 x438002_78 x438003_78 x438004_78 x438005_78 x438006_78 t431 t434 x438009_78 x438010_78 x438011_78 x438012_78 x438013_78 x438014_78 x438015_78 x438016_78).bind fun t479 => ((ropewayref07_Same.f kj78 t479 l2_8).bind fun t482 => (if t482 = true then ((round_Round_Cells.f x438000_78 x438001_78 x438002_78 x438003_78 x438004_78 x438005_78 x438006_78 t431 t434 x438009_78 x438010_78 x438011_78 x438012_78 x438013_78 x438014_78 x438015_78 x438016_78).bind fun t483 => ((ropewayref10_Same.f kj78 t483 l2_7).bind fun t486 => (some t486))) else (some false)))) else (some false))) = some r := by rw [if_pos rfl] at H; exact H
        clear H
        have H := H1
        clear H1
        replace H := Option.bind_eq_some_iff.mp H
        obtain ⟨t476, A1590, H⟩ := H
        replace H : (if (t476.length : Int) = 0 then ((round_Round_Book.f x438000_78 x438001_78 x438002_78 x438003_78 x438004_78 x438005_78 x438006_78 t431 t434 x438009_78 x438010_78 x438011_78 x438012_78 x438013_78 x438014_78 x438015_78 x438016_78).bind fun t479 => ((ropewayref07_Same.f kj78 t479 l2_8).bind fun t482 => (if t482 = true then ((round_Round_Cells.f x438000_78 x438001_78 x438002_78 x438003_78 x438004_78 x438005_78 x438006_78 t431 t434 x438009_78 x438010_78 x438011_78 x438012_78 x438013_78 x438014_78 x438015_78 x438016_78).bind fun t483 => ((ropewayref10_Same.f kj78 t483 l2_7).bind fun t486 => (some t486))) else (some false)))) else (some false)) = some r := H
        have A159 := zM A1590
        clear A1590
        by_cases c160 : (t476.length : Int) = 0
        rotate_left
        · rw [if_neg c160] at H
          have c160b0 : ((t476.length : Int) == 0) = false := beq_eq_false_iff_ne.mpr c160
          have c160b1 : ((t476.length : Int) != 0) = true := bne_iff_ne.mpr c160
          have c160b2 : ¬ (t476 = []) := fun h_ => c160 (by rw [h_]; rfl)
          exact absurd (Option.some.inj H) (by rw [hr1_.out]; decide)
        rw [if_pos c160] at H
        have c160b0 : ((t476.length : Int) == 0) = true := beq_iff_eq.mpr c160
        have c160b1 : ((t476.length : Int) != 0) = false := bne_eq_false_iff_eq.mpr c160
        clear c160
        replace H := Option.bind_eq_some_iff.mp H
        obtain ⟨t479, A1610, H⟩ := H
        replace H : ((ropewayref07_Same.f kj78 t479 l2_8).bind fun t482 => (if t482 = true then ((round_Round_Cells.f x438000_78 x438001_78 x438002_78 x438003_78 x438004_78 x438005_78 x438006_78 t431 t434 x438009_78 x438010_78 x438011_78 x438012_78 x438013_78 x438014_78 x438015_78 x438016_78).bind fun t483 => ((ropewayref10_Same.f kj78 t483 l2_7).bind fun t486 => (some t486))) else (some false))) = some r := H
        have A161 := zM A1610
        clear A1610
        replace H := Option.bind_eq_some_iff.mp H
        obtain ⟨t482, A1620, H⟩ := H
        replace H : (if t482 = true then ((round_Round_Cells.f x438000_78 x438001_78 x438002_78 x438003_78 x438004_78 x438005_78 x438006_78 t431 t434 x438009_78 x438010_78 x438011_78 x438012_78 x438013_78 x438014_78 x438015_78 x438016_78).bind fun t483 => ((ropewayref10_Same.f kj78 t483 l2_7).bind fun t486 => (some t486))) else (some false)) = some r := H
        have A162 := zM A1620
        clear A1620
        by_cases c163 : t482 = true
        rotate_left
        · replace c163 := Bool.eq_false_iff.mpr c163
          subst c163
          have H1 : (some false) = some r := by rw [if_neg (show ¬ (false = true) by decide)] at H; exact H
          clear H
          have H := H1
          clear H1
          exact absurd (Option.some.inj H) (by rw [hr1_.out]; decide)
        subst c163
        have H1 : ((round_Round_Cells.f x438000_78 x438001_78 x438002_78 x438003_78 x438004_78 x438005_78 x438006_78 t431 t434 x438009_78 x438010_78 x438011_78 x438012_78 x438013_78 x438014_78 x438015_78 x438016_78).bind fun t483 => ((ropewayref10_Same.f kj78 t483 l2_7).bind fun t486 => (some t486))) = some r := by rw [if_pos rfl] at H; exact H
        clear H
        have H := H1
        clear H1
        replace H := Option.bind_eq_some_iff.mp H
        obtain ⟨t483, A1640, H⟩ := H
        replace H : ((ropewayref10_Same.f kj78 t483 l2_7).bind fun t486 => (some t486)) = some r := H
        have A164 := zM A1640
        clear A1640
        replace H := Option.bind_eq_some_iff.mp H
        obtain ⟨t486, A1650, H⟩ := H
        replace H : (some t486) = some r := H
        have A165 := zM A1650
        clear A1650
        obtain rfl := Option.some.inj H
        try go_wp2
        replace HO_438007 := zM (Kd.R_drew HO_438007.out)
        replace HO_438008 := zM (Kd.R_drew HO_438008.out)
        replace HO_438015 := zM (Kd.R_drew HO_438015.out)
        replace HO_438016 := zM (Kd.R_drew HO_438016.out)
        replace BK418 := zM (zD BK418.out)
        replace BK419 := zM (zD BK419.out)
        replace BK423 := zM (zD BK423.out)
        replace BK437 := zM (zD BK437.out)
        replace HB := zM (below_drew1 HB.out)
        obtain ⟨Ao167, co167, eo167⟩ := Kd.R_slice HO_438015.out
        (first | subst eo167 | (injection eo167 with f1_ f2_ f3_; have f4_ := f1_.symm; have f5_ := f3_.symm; clear f1_ f2_ f3_; subst f4_; subst f5_))
        obtain ⟨Ao168, co168, eo168⟩ := Kd.R_slice HO_438016.out
        (first | subst eo168 | (injection eo168 with f1_ f2_ f3_; have f4_ := f1_.symm; have f5_ := f3_.symm; clear f1_ f2_ f3_; subst f4_; subst f5_))
        refine start_ (n := 29) (S := fun w' => w'.cell? ⟨gb419, 0, none⟩ = some (.int .i64 a2_0) ∧ w'.cell? ⟨gb419, 1, none⟩ = some (.int .i64 a2_1) ∧ w'.cell? ⟨gb419, 2, none⟩ = some (.int .i64 a2_2) ∧ w'.cell? ⟨gb419, 3, none⟩ = some (.int .i64 a2_3) ∧ w'.cell? ⟨gb419, 4, none⟩ = some (.int .i64 a2_4) ∧ w'.cell? ⟨gb419, 5, none⟩ = some (.int .i64 a2_5) ∧ w'.cell? ⟨gb419, 6, none⟩ = some (.int .i64 a2_6) ∧ w'.cell? ⟨gb419, 7, none⟩ = some (.slice A2_7 l2_7.length c2_7) ∧ w'.cell? ⟨gb419, 8, none⟩ = some (.slice A2_8 l2_8.length c2_8)) (ds := []) #[F_, F_, F_, F_, F_, F_, F_, F_, F_, F_, F_, F_, F_, F_, F_, F_, F_, F_, F_, F_, F_, F_, F_, F_, F_, F_, F_, F_, F_] (by kernel_rfl) rfl rfl ⟨(zL BK419.out 0).trans rfl, (zL BK419.out 1).trans rfl, (zL BK419.out 2).trans rfl, (zL BK419.out 3).trans rfl, (zL BK419.out 4).trans rfl, (zL BK419.out 5).trans rfl, (zL BK419.out 6).trans rfl, (zL BK419.out 7).trans rfl, (zL BK419.out 8).trans rfl⟩ (fun hHeld => ?_); refine with_tabW ropewaylaw14_RoundAlone.tab13 ropewaylaw14_RoundAlone.bits13 (fun HT_ HW_ => ?_)
        generalize wc.drew = w166 at HO_438007 HO_438008 HO_438015 HO_438016 BK418 BK419 BK423 BK437 HB hHeld ⊢
        refine put_ HT_ 0 71 (dm_ 29 1) ?_
        refine put_ HT_ 2 73 (dm_ 29 5) ?_
        refine tkt_ HT_ HW_ hHeld 1 72 (dm_ 29 7) ?_
        refine put_ HT_ 3 74 (dm_ 29 15) ?_
        refine put_ HT_ 4 75 (dm_ 29 31) ?_
        refine put_ HT_ 5 76 (dm_ 29 63) ?_
        refine one_ (i := 6) (N := some 77) (dm_ 29 127) rfl rfl (one_of HT_.out (by kernel_rfl)) (by decide) (fun K hK => ?_)
        refine goes_ Try.func13 (by kernel_rfl) rfl #[.pointer (some ⟨gb437, 0, none⟩)] (by rfl) rfl rfl (by (try simp only [List.map_toArray, List.map_cons, List.map_nil]); first | done | rfl | (simp only [List.length_drop, List.length_take]; rfl)) ?_
        with_reducible refine (round_Round_Done.calls kj78 gb437 x438000_78 x438001_78 x438002_78 x438003_78 x438004_78 x438005_78 x438006_78 Ao52 co52 t431 Ao51 co51 t434 x438009_78 x438010_78 x438011_78 x438012_78 x438013_78 x438014_78 Ao167 co167 x438015_78 Ao168 co168 x438016_78 true _ ?side1 ?side2 ?side3 ?side4 ?side5 ?side6 ?side7 ?side8 ?side9 A157.out).mono ?_
        (case side1 => repeat (first | exact (Kd.R_reads' HO_438007.out).2.2 | (with_reducible refine Kd.C_alloc ?_ _) | (with_reducible refine Kd.C_drewN ?_ _) | (with_reducible refine Kd.C_drew ?_)))
        (case side2 => exact (Kd.R_reads' HO_438007.out).2.1)
        (case side3 => repeat (first | exact (Kd.R_reads' HO_438008.out).2.2 | (with_reducible refine Kd.C_alloc ?_ _) | (with_reducible refine Kd.C_drewN ?_ _) | (with_reducible refine Kd.C_drew ?_)))
        (case side4 => exact (Kd.R_reads' HO_438008.out).2.1)
        (case side5 => repeat (first | exact (Kd.R_reads' HO_438015.out).2.2 | (with_reducible refine Kd.C_alloc ?_ _) | (with_reducible refine Kd.C_drewN ?_ _) | (with_reducible refine Kd.C_drew ?_)))
        (case side6 => exact (Kd.R_reads' HO_438015.out).2.1)
        (case side7 => repeat (first | exact (Kd.R_reads' HO_438016.out).2.2 | (with_reducible refine Kd.C_alloc ?_ _) | (with_reducible refine Kd.C_drewN ?_ _) | (with_reducible refine Kd.C_drew ?_)))
        (case side8 => exact (Kd.R_reads' HO_438016.out).2.1)
        (case side9 => exact blf_)
        rintro e w169 ⟨rfl, hb⟩
        refine ⟨_, rfl, ?_⟩
        replace HO_438007 := zM (Kd.R_below (rl_ HO_438007) hb)
        replace HO_438008 := zM (Kd.R_below (rl_ HO_438008) hb)
        replace HO_438015 := zM (Kd.R_below (rl_ HO_438015) hb)
        replace HO_438016 := zM (Kd.R_below (rl_ HO_438016) hb)
        replace BK418 := zM (bb_ BK418 hb)
        replace BK419 := zM (bb_ BK419 hb)
        replace BK423 := zM (bb_ BK423 hb)
        replace BK437 := zM (bb_ BK437 hb)
        replace HB := zM (zB bel_ hb)
        (try clear hb)
        (try clear hb2)
        (try clear hk)
        (try clear hi)
        refine hK.out _ _ ⟨(zL BK419.out 0).trans rfl, (zL BK419.out 1).trans rfl, (zL BK419.out 2).trans rfl, (zL BK419.out 3).trans rfl, (zL BK419.out 4).trans rfl, (zL BK419.out 5).trans rfl, (zL BK419.out 6).trans rfl, (zL BK419.out 7).trans rfl, (zL BK419.out 8).trans rfl⟩ (fun hHeld => ?_)
        clear hK K
        refine norm_ (a' := ?_) ?_ ?_
        rotate_left
        · show Act.put _ (some 77) _ = _
          simp only [Act.put, zS, zZ, zC, i64_w, i32_w]
          rfl
        refine put_ HT_ 7 78 (dm_ 29 255) ?_
        refine put_ HT_ 8 79 (dm_ 29 511) ?_
        refine put_ HT_ 9 80 (dm_ 29 1023) ?_
        refine one_ (i := 10) (N := some 81) (dm_ 29 2047) rfl rfl (one_of HT_.out (by kernel_rfl)) (by decide) (fun K hK => ?_)
        refine goes_ Try.func15 (by kernel_rfl) rfl #[.pointer (some ⟨gb437, 0, none⟩)] (by rfl) rfl rfl (by (try simp only [List.map_toArray, List.map_cons, List.map_nil]); first | done | rfl | (simp only [List.length_drop, List.length_take]; rfl)) ?_
        with_reducible refine (round_Round_Asks.calls kj78 gb437 x438000_78 x438001_78 x438002_78 x438003_78 x438004_78 x438005_78 x438006_78 Ao52 co52 t431 Ao51 co51 t434 x438009_78 x438010_78 x438011_78 x438012_78 x438013_78 x438014_78 Ao167 co167 x438015_78 Ao168 co168 x438016_78 t476 _ ?side1 ?side2 ?side3 ?side4 ?side5 ?side6 ?side7 ?side8 ?side9 A159.out).mono ?_
        (case side1 => repeat (first | exact (Kd.R_reads' HO_438007.out).2.2 | (with_reducible refine Kd.C_alloc ?_ _) | (with_reducible refine Kd.C_drewN ?_ _) | (with_reducible refine Kd.C_drew ?_)))
        (case side2 => exact (Kd.R_reads' HO_438007.out).2.1)
        (case side3 => repeat (first | exact (Kd.R_reads' HO_438008.out).2.2 | (with_reducible refine Kd.C_alloc ?_ _) | (with_reducible refine Kd.C_drewN ?_ _) | (with_reducible refine Kd.C_drew ?_)))
        (case side4 => exact (Kd.R_reads' HO_438008.out).2.1)
        (case side5 => repeat (first | exact (Kd.R_reads' HO_438015.out).2.2 | (with_reducible refine Kd.C_alloc ?_ _) | (with_reducible refine Kd.C_drewN ?_ _) | (with_reducible refine Kd.C_drew ?_)))
        (case side6 => exact (Kd.R_reads' HO_438015.out).2.1)
        (case side7 => repeat (first | exact (Kd.R_reads' HO_438016.out).2.2 | (with_reducible refine Kd.C_alloc ?_ _) | (with_reducible refine Kd.C_drewN ?_ _) | (with_reducible refine Kd.C_drew ?_)))
        (case side8 => exact (Kd.R_reads' HO_438016.out).2.1)
        (case side9 => exact blf_)
        rintro e w170 ⟨v477, rfl, ho0, hb⟩
        refine ⟨_, rfl, ?_⟩
        have HO478 := zM (Kd.S_lower (Kd.S_newB (Kd.S_newB (Kd.S_newB (Kd.S_new' (Kd.S_new' (Kd.S_new' (Kd.S_new' ho0 (Kd.R_lt (rl_ HO_438007))) (Kd.R_lt (rl_ HO_438008))) (Kd.R_lt (rl_ HO_438015))) (Kd.R_lt (rl_ HO_438016))) (g := gb418) (o := .cells #[.int .i64 a0_0, .int .i64 a0_1, .int .i64 0, .int .i64 a0_3, .int .i64 a0_4, .int .i64 ji35, .int .i64 0, .slice A0_7 l0_7.length c0_7, .slice A0_8 l0_8.length c0_8] 27 (0, 0)) blk_) (g := gb419) (o := .cells #[.int .i64 a2_0, .int .i64 a2_1, .int .i64 a2_2, .int .i64 a2_3, .int .i64 a2_4, .int .i64 a2_5, .int .i64 a2_6, .slice A2_7 l2_7.length c2_7, .slice A2_8 l2_8.length c2_8] 27 (0, 0)) blk_) (g := gb423) (o := .cells #[.int .i64 a0_0, .int .i64 a0_1, .int .i64 0, .int .i64 a0_3, .int .i64 a0_4, .int .i64 ji35, .int .i64 0, .slice A0_7 l0_7.length c0_7, .slice A0_8 l0_8.length c0_8] 27 (0, 0)) blk_) (below_size bel_))
        replace HO_438007 := zM (Kd.R_below (rl_ HO_438007) hb)
        replace HO_438008 := zM (Kd.R_below (rl_ HO_438008) hb)
        replace HO_438015 := zM (Kd.R_below (rl_ HO_438015) hb)
        replace HO_438016 := zM (Kd.R_below (rl_ HO_438016) hb)
        replace BK418 := zM (bb_ BK418 hb)
        replace BK419 := zM (bb_ BK419 hb)
        replace BK423 := zM (bb_ BK423 hb)
        replace BK437 := zM (bb_ BK437 hb)
        replace HB := zM (zB bel_ hb)
        (try clear hb)
        (try clear hb2)
        (try clear hk)
        (try clear hi)
        (try clear ho0)
        obtain ⟨Ao171, co171, eo171⟩ := Kd.S_slice HO478.out
        (first | subst eo171 | (injection eo171 with f1_ f2_ f3_; have f4_ := f1_.symm; have f5_ := f3_.symm; clear f1_ f2_ f3_; subst f4_; subst f5_))
        refine hK.out _ _ ⟨(zL BK419.out 0).trans rfl, (zL BK419.out 1).trans rfl, (zL BK419.out 2).trans rfl, (zL BK419.out 3).trans rfl, (zL BK419.out 4).trans rfl, (zL BK419.out 5).trans rfl, (zL BK419.out 6).trans rfl, (zL BK419.out 7).trans rfl, (zL BK419.out 8).trans rfl⟩ (fun hHeld => ?_)
        clear hK K
        refine norm_ (a' := ?_) ?_ ?_
        rotate_left
        · show Act.put _ (some 81) _ = _
          simp only [Act.put, zS, zZ, zC, i64_w, i32_w]
          rfl
        refine put_ HT_ 11 82 (dm_ 29 4095) ?_
        refine put_ HT_ 12 83 (dm_ 29 8191) ?_
        refine put_ HT_ 13 84 (dm_ 29 16383) ?_
        refine put_ HT_ 14 85 (dm_ 29 32767) ?_
        refine put_ HT_ 15 86 (dm_ 29 65535) ?_
        refine put_ HT_ 17 88 (dm_ 29 196607) ?_
        refine tkt_ HT_ HW_ hHeld 18 89 (dm_ 29 458751) ?_
        refine one_ (i := 16) (N := some 87) (dm_ 29 524287) rfl rfl (one_of HT_.out (by kernel_rfl)) (by decide) (fun K hK => ?_)
        refine goes_ Try.func19 (by kernel_rfl) rfl #[.pointer (some ⟨gb437, 0, none⟩)] (by rfl) rfl rfl (by (try simp only [List.map_toArray, List.map_cons, List.map_nil]); first | done | rfl | (simp only [List.length_drop, List.length_take]; rfl)) ?_
        with_reducible refine (round_Round_Book.calls gb437 x438000_78 x438001_78 x438002_78 x438003_78 x438004_78 x438005_78 x438006_78 Ao52 co52 t431 Ao51 co51 t434 x438009_78 x438010_78 x438011_78 x438012_78 x438013_78 x438014_78 Ao167 co167 x438015_78 Ao168 co168 x438016_78 t479 _ ?side1 ?side2 ?side3 ?side4 ?side5 ?side6 ?side7 ?side8 ?side9 A161.out).mono ?_
        (case side1 => repeat (first | exact (Kd.R_reads' HO_438007.out).2.2 | (with_reducible refine Kd.C_alloc ?_ _) | (with_reducible refine Kd.C_drewN ?_ _) | (with_reducible refine Kd.C_drew ?_)))
        (case side2 => exact (Kd.R_reads' HO_438007.out).2.1)
        (case side3 => repeat (first | exact (Kd.R_reads' HO_438008.out).2.2 | (with_reducible refine Kd.C_alloc ?_ _) | (with_reducible refine Kd.C_drewN ?_ _) | (with_reducible refine Kd.C_drew ?_)))
        (case side4 => exact (Kd.R_reads' HO_438008.out).2.1)
        (case side5 => repeat (first | exact (Kd.R_reads' HO_438015.out).2.2 | (with_reducible refine Kd.C_alloc ?_ _) | (with_reducible refine Kd.C_drewN ?_ _) | (with_reducible refine Kd.C_drew ?_)))
        (case side6 => exact (Kd.R_reads' HO_438015.out).2.1)
        (case side7 => repeat (first | exact (Kd.R_reads' HO_438016.out).2.2 | (with_reducible refine Kd.C_alloc ?_ _) | (with_reducible refine Kd.C_drewN ?_ _) | (with_reducible refine Kd.C_drew ?_)))
        (case side8 => exact (Kd.R_reads' HO_438016.out).2.1)
        (case side9 => exact blf_)
        rintro e w172 ⟨v480, rfl, ho0, hb⟩
        refine ⟨_, rfl, ?_⟩
        replace HO_438007 := zM (Kd.R_below (rl_ HO_438007) hb)
        replace HO_438015 := zM (Kd.R_below (rl_ HO_438015) hb)
        replace HO478 := zM (Kd.S_elder' (by (with_reducible repeat (first | apply Kd.S_alloc | apply Kd.S_drewN | apply Kd.S_drew)); exact HO478.out) (Kd.R_base ho0) hb)
        have HO481 := zM (Kd.R_lower (Kd.R_new' (Kd.R_new' ho0 (Kd.R_lt (rl_ HO_438008))) (Kd.R_lt (rl_ HO_438016))) (below_size bel_))
        replace HO_438008 := zM (Kd.R_elder' (rl_ HO_438008) (Kd.R_base ho0) hb)
        replace HO_438016 := zM (Kd.R_elder' (rl_ HO_438016) (Kd.R_base ho0) hb)
        replace BK418 := zM (bb_ BK418 hb)
        replace BK419 := zM (bb_ BK419 hb)
        replace BK423 := zM (bb_ BK423 hb)
        replace BK437 := zM (bb_ BK437 hb)
        replace HB := zM (zB bel_ hb)
        (try clear hb)
        (try clear hb2)
        (try clear hk)
        (try clear hi)
        (try clear ho0)
        obtain ⟨Ao173, co173, eo173⟩ := Kd.R_slice HO481.out
        (first | subst eo173 | (injection eo173 with f1_ f2_ f3_; have f4_ := f1_.symm; have f5_ := f3_.symm; clear f1_ f2_ f3_; subst f4_; subst f5_))
        refine hK.out _ _ ⟨(zL BK419.out 0).trans rfl, (zL BK419.out 1).trans rfl, (zL BK419.out 2).trans rfl, (zL BK419.out 3).trans rfl, (zL BK419.out 4).trans rfl, (zL BK419.out 5).trans rfl, (zL BK419.out 6).trans rfl, (zL BK419.out 7).trans rfl, (zL BK419.out 8).trans rfl⟩ (fun hHeld => ?_)
        clear hK K
        refine norm_ (a' := ?_) ?_ ?_
        rotate_left
        · show Act.put _ (some 87) _ = _
          simp only [Act.put, zS, zZ, zC, i64_w, i32_w]
          rfl
        refine one_ (i := 19) (N := some 90) (dm_ 29 1048575) rfl rfl (one_of HT_.out (by kernel_rfl)) (by decide) (fun K hK => ?_)
        refine goes_ Try.func29 (by kernel_rfl) rfl #[.slice Ao173 t479.length co173, .slice A2_8 l2_8.length c2_8] (by rfl) rfl rfl (by (try simp only [List.map_toArray, List.map_cons, List.map_nil]); first | done | rfl | (simp only [List.length_drop, List.length_take]; rfl)) ?_
        with_reducible refine (ropewayref07_Same.calls kj78 _ _ t479 _ _ l2_8 true _ ?side1 ?side2 ?side3 ?side4 A162.out).mono ?_
        (case side1 => repeat (first | exact (Kd.R_reads' HO481.out).2.2 | (with_reducible refine Kd.C_alloc ?_ _) | (with_reducible refine Kd.C_drewN ?_ _) | (with_reducible refine Kd.C_drew ?_)))
        (case side2 => exact (Kd.R_reads' HO481.out).2.1)
        (case side3 => repeat (first | exact (Kd.C_below HR2_8.out HB.out) | (with_reducible refine Kd.C_alloc ?_ _) | (with_reducible refine Kd.C_drewN ?_ _) | (with_reducible refine Kd.C_drew ?_)))
        (case side4 => exact HC2_8.out)
        rintro e w174 ⟨rfl, hb⟩
        refine ⟨_, rfl, ?_⟩
        replace HO_438007 := zM (Kd.R_below (rl_ HO_438007) hb)
        replace HO_438008 := zM (Kd.R_below (rl_ HO_438008) hb)
        replace HO_438015 := zM (Kd.R_below (rl_ HO_438015) hb)
        replace HO_438016 := zM (Kd.R_below (rl_ HO_438016) hb)
        replace HO478 := zM (Kd.S_below (by (with_reducible repeat (first | apply Kd.S_alloc | apply Kd.S_drewN | apply Kd.S_drew)); exact HO478.out) hb)
        replace HO481 := zM (Kd.R_below (rl_ HO481) hb)
        replace BK418 := zM (bb_ BK418 hb)
        replace BK419 := zM (bb_ BK419 hb)
        replace BK423 := zM (bb_ BK423 hb)
        replace BK437 := zM (bb_ BK437 hb)
        replace HB := zM (zB bel_ hb)
        (try clear hb)
        (try clear hb2)
        (try clear hk)
        (try clear hi)
        refine hK.out _ _ ⟨(zL BK419.out 0).trans rfl, (zL BK419.out 1).trans rfl, (zL BK419.out 2).trans rfl, (zL BK419.out 3).trans rfl, (zL BK419.out 4).trans rfl, (zL BK419.out 5).trans rfl, (zL BK419.out 6).trans rfl, (zL BK419.out 7).trans rfl, (zL BK419.out 8).trans rfl⟩ (fun hHeld => ?_)
        clear hK K
        refine norm_ (a' := ?_) ?_ ?_
        rotate_left
        · show Act.put _ (some 90) _ = _
          simp only [Act.put, zS, zZ, zC, i64_w, i32_w]
          rfl
        refine put_ HT_ 20 91 (dm_ 29 2097151) ?_
        refine put_ HT_ 21 92 (dm_ 29 4194303) ?_
        refine put_ HT_ 22 93 (dm_ 29 8388607) ?_
        refine put_ HT_ 24 95 (dm_ 29 25165823) ?_
        refine tkt_ HT_ HW_ hHeld 25 96 (dm_ 29 58720255) ?_
        refine one_ (i := 23) (N := some 94) (dm_ 29 67108863) rfl rfl (one_of HT_.out (by kernel_rfl)) (by decide) (fun K hK => ?_)
        refine goes_ Try.func18 (by kernel_rfl) rfl #[.pointer (some ⟨gb437, 0, none⟩)] (by rfl) rfl rfl (by (try simp only [List.map_toArray, List.map_cons, List.map_nil]); first | done | rfl | (simp only [List.length_drop, List.length_take]; rfl)) ?_
        with_reducible refine (round_Round_Cells.calls gb437 x438000_78 x438001_78 x438002_78 x438003_78 x438004_78 x438005_78 x438006_78 Ao52 co52 t431 Ao51 co51 t434 x438009_78 x438010_78 x438011_78 x438012_78 x438013_78 x438014_78 Ao167 co167 x438015_78 Ao168 co168 x438016_78 t483 _ ?side1 ?side2 ?side3 ?side4 ?side5 ?side6 ?side7 ?side8 ?side9 A164.out).mono ?_
        (case side1 => repeat (first | exact (Kd.R_reads' HO_438007.out).2.2 | (with_reducible refine Kd.C_alloc ?_ _) | (with_reducible refine Kd.C_drewN ?_ _) | (with_reducible refine Kd.C_drew ?_)))
        (case side2 => exact (Kd.R_reads' HO_438007.out).2.1)
        (case side3 => repeat (first | exact (Kd.R_reads' HO_438008.out).2.2 | (with_reducible refine Kd.C_alloc ?_ _) | (with_reducible refine Kd.C_drewN ?_ _) | (with_reducible refine Kd.C_drew ?_)))
        (case side4 => exact (Kd.R_reads' HO_438008.out).2.1)
        (case side5 => repeat (first | exact (Kd.R_reads' HO_438015.out).2.2 | (with_reducible refine Kd.C_alloc ?_ _) | (with_reducible refine Kd.C_drewN ?_ _) | (with_reducible refine Kd.C_drew ?_)))
        (case side6 => exact (Kd.R_reads' HO_438015.out).2.1)
        (case side7 => repeat (first | exact (Kd.R_reads' HO_438016.out).2.2 | (with_reducible refine Kd.C_alloc ?_ _) | (with_reducible refine Kd.C_drewN ?_ _) | (with_reducible refine Kd.C_drew ?_)))
        (case side8 => exact (Kd.R_reads' HO_438016.out).2.1)
        (case side9 => exact blf_)
        rintro e w175 ⟨v484, rfl, ho0, hb⟩
        refine ⟨_, rfl, ?_⟩
        replace HO_438008 := zM (Kd.R_below (rl_ HO_438008) hb)
        replace HO_438016 := zM (Kd.R_below (rl_ HO_438016) hb)
        replace HO478 := zM (Kd.S_elder' (by (with_reducible repeat (first | apply Kd.S_alloc | apply Kd.S_drewN | apply Kd.S_drew)); exact HO478.out) (Kd.R_base ho0) hb)
        replace HO481 := zM (Kd.R_below (rl_ HO481) hb)
        have HO485 := zM (Kd.R_lower (Kd.R_new' (Kd.R_new' ho0 (Kd.R_lt (rl_ HO_438007))) (Kd.R_lt (rl_ HO_438015))) (below_size bel_))
        replace HO_438007 := zM (Kd.R_elder' (rl_ HO_438007) (Kd.R_base ho0) hb)
        replace HO_438015 := zM (Kd.R_elder' (rl_ HO_438015) (Kd.R_base ho0) hb)
        replace BK418 := zM (bb_ BK418 hb)
        replace BK419 := zM (bb_ BK419 hb)
        replace BK423 := zM (bb_ BK423 hb)
        replace BK437 := zM (bb_ BK437 hb)
        replace HB := zM (zB bel_ hb)
        (try clear hb)
        (try clear hb2)
        (try clear hk)
        (try clear hi)
        (try clear ho0)
        obtain ⟨Ao176, co176, eo176⟩ := Kd.R_slice HO485.out
        (first | subst eo176 | (injection eo176 with f1_ f2_ f3_; have f4_ := f1_.symm; have f5_ := f3_.symm; clear f1_ f2_ f3_; subst f4_; subst f5_))
        refine hK.out _ _ ⟨(zL BK419.out 0).trans rfl, (zL BK419.out 1).trans rfl, (zL BK419.out 2).trans rfl, (zL BK419.out 3).trans rfl, (zL BK419.out 4).trans rfl, (zL BK419.out 5).trans rfl, (zL BK419.out 6).trans rfl, (zL BK419.out 7).trans rfl, (zL BK419.out 8).trans rfl⟩ (fun hHeld => ?_)
        clear hK K
        refine norm_ (a' := ?_) ?_ ?_
        rotate_left
        · show Act.put _ (some 94) _ = _
          simp only [Act.put, zS, zZ, zC, i64_w, i32_w]
          rfl
        refine one_ (i := 26) (N := some 97) (dm_ 29 134217727) rfl rfl (one_of HT_.out (by kernel_rfl)) (by decide) (fun K hK => ?_)
        refine goes_ Try.func27 (by kernel_rfl) rfl #[.slice Ao176 t483.length co176, .slice A2_7 l2_7.length c2_7] (by rfl) rfl rfl (by (try simp only [List.map_toArray, List.map_cons, List.map_nil]); first | done | rfl | (simp only [List.length_drop, List.length_take]; rfl)) ?_
        with_reducible refine (ropewayref10_Same.calls kj78 _ _ t483 _ _ l2_7 t486 _ ?side1 ?side2 ?side3 ?side4 A165.out).mono ?_
        (case side1 => repeat (first | exact (Kd.R_reads' HO485.out).2.2 | (with_reducible refine Kd.C_alloc ?_ _) | (with_reducible refine Kd.C_drewN ?_ _) | (with_reducible refine Kd.C_drew ?_)))
        (case side2 => exact (Kd.R_reads' HO485.out).2.1)
        (case side3 => repeat (first | exact (Kd.C_below HR2_7.out HB.out) | (with_reducible refine Kd.C_alloc ?_ _) | (with_reducible refine Kd.C_drewN ?_ _) | (with_reducible refine Kd.C_drew ?_)))
        (case side4 => exact HC2_7.out)
        rintro e w' ⟨rfl, ⟨nd, rfl⟩⟩
        refine ⟨_, rfl, ?_⟩
        refine hK.out _ _ ⟨(zL BK419.out 0).trans rfl, (zL BK419.out 1).trans rfl, (zL BK419.out 2).trans rfl, (zL BK419.out 3).trans rfl, (zL BK419.out 4).trans rfl, (zL BK419.out 5).trans rfl, (zL BK419.out 6).trans rfl, (zL BK419.out 7).trans rfl, (zL BK419.out 8).trans rfl⟩ (fun hHeld => ?_)
        clear hK K
        refine norm_ (a' := ?_) ?_ ?_
        rotate_left
        · show Act.put _ (some 97) _ = _
          simp only [Act.put, zS, zZ, zC, i64_w, i32_w]
          rfl
        refine put_ HT_ 27 98 (dm_ 29 268435455) ?_
        refine put_ HT_ 28 6 (dm_ 29 536870911) ?_
        refine done_ (done_of HT_.out (by kernel_rfl)) ?_
        try go_wp2
        go_ret
        exact ⟨by first | rfl | (simp [errW_none, errW_some] <;> rfl) | (simp only [← hji35]; first | rfl | (simp [errW_none, errW_some] <;> rfl)) | (simp [*, errW_none, errW_some] <;> rfl), bel_⟩
/-- THE ONE PURE STATEMENT of ropewaylaw14_RoundAlone. -/
def ropewaylaw14_RoundAlone.Pure : Prop := ∀ (a0_0 : Int) (a0_1 : Int) (a0_2 : Int) (a0_3 : Int) (a0_4 : Int) (a0_5 : Int) (a0_6 : Int) (l0_7 : List (S43)) (l0_8 : List (S48)) (a1 : Int) (a2_0 : Int) (a2_1 : Int) (a2_2 : Int) (a2_3 : Int) (a2_4 : Int) (a2_5 : Int) (a2_6 : Int) (l2_7 : List (S43)) (l2_8 : List (S48)), (Lit.int .i64 a0_0).wf = true → (Lit.int .i64 a0_1).wf = true → (Lit.int .i64 a0_2).wf = true → (Lit.int .i64 a0_3).wf = true → (Lit.int .i64 a0_4).wf = true → (Lit.int .i64 a0_5).wf = true → (Lit.int .i64 a0_6).wf = true → (l0_7.length ≤ maxLen ∧ l0_7.length * 24 ≤ 140737488351232 ∧ ∀ y0 ∈ l0_7, ((Lit.int .i64 y0.f0).wf = true ∧ ((Lit.int .i64 y0.f1.f0).wf = true ∧ (Lit.int .i64 y0.f1.f1).wf = true))) → (l0_8.length ≤ maxLen ∧ l0_8.length * 32 ≤ 140737488351232 ∧ ∀ y0 ∈ l0_8, ((Lit.int .i64 y0.f0).wf = true ∧ ((Lit.int .i64 y0.f1.f0).wf = true ∧ (Lit.int .i64 y0.f1.f1).wf = true) ∧ y0.f2 < 18446744073709551616)) → (Lit.int .i64 a1).wf = true → (Lit.int .i64 a2_0).wf = true → (Lit.int .i64 a2_1).wf = true → (Lit.int .i64 a2_2).wf = true → (Lit.int .i64 a2_3).wf = true → (Lit.int .i64 a2_4).wf = true → (Lit.int .i64 a2_5).wf = true → (Lit.int .i64 a2_6).wf = true → (l2_7.length ≤ maxLen ∧ l2_7.length * 24 ≤ 140737488351232 ∧ ∀ y0 ∈ l2_7, ((Lit.int .i64 y0.f0).wf = true ∧ ((Lit.int .i64 y0.f1.f0).wf = true ∧ (Lit.int .i64 y0.f1.f1).wf = true))) → (l2_8.length ≤ maxLen ∧ l2_8.length * 32 ≤ 140737488351232 ∧ ∀ y0 ∈ l2_8, ((Lit.int .i64 y0.f0).wf = true ∧ ((Lit.int .i64 y0.f1.f0).wf = true ∧ (Lit.int .i64 y0.f1.f1).wf = true) ∧ y0.f2 < 18446744073709551616)) → ∃ k, ropewaylaw14_RoundAlone.f k a0_0 a0_1 a0_2 a0_3 a0_4 a0_5 a0_6 l0_7 l0_8 a1 a2_0 a2_1 a2_2 a2_3 a2_4 a2_5 a2_6 l2_7 l2_8 = some true

end Go.Proofs.Ytmgiaappokkjfaa.PRoundAlone
