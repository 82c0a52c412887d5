/- Written by a program of this session (wip/tool/px.py) over the kit's print: what the code that the law RoundStays reaches computes, function by function, and the law's row. -/
import Derived.Test.YtmgiaappokkjfaaPRoundStaysx0
import Derived.Test.YtmgiaappokkjfaaPRoundStaysx2
import Derived.Test.YtmgiaappokkjfaaPRoundStaysx6
import Derived.Test.YtmgiaappokkjfaaPRoundStaysx7
import Derived.Test.YtmgiaappokkjfaaPRoundStaysx8
import Derived.Test.YtmgiaappokkjfaaPRoundStaysx9
namespace Go.Proofs.Ytmgiaappokkjfaa.PRoundStays
open Go.RowKit Go.Proofs.YtmgiaappokkjfaaX Go.Proofs.YtmgiaappokkjfaaW.PrintWords Go.Proofs.YtmgiaappokkjfaaW.PrintLast Go.Proofs.YtmgiaappokkjfaaW.PrintMore
open List renaming setIfInBounds_toArray → zS, set_cons_zero → zZ, set_cons_succ → zC
open Go.Proofs.YtmgiaappokkjfaaW.PrintWords renaming blk_drewN → zN, blk_drew → zD, blk_alloc → zA, blk_cell → zL, blk_frozen → zF, below_step → zB
open Go.Proofs.YtmgiaappokkjfaaW.PrintWords.Aside0 renaming mk → zM
attribute [local go_sem] max2_int min2_int max_two min_two max_three min_three max_four min_four   -- for this text's walks alone
set_option linter.unusedVariables false
set_option linter.unusedSimpArgs false

attribute [local go_sem] px_store_float px_neg_float
attribute [local go_sem] px_eqarr67 px_nilq24 px_nilq25
/-! ### ropewaylaw14_roundAlive: function 9 -/
mutual
def ropewaylaw14_roundAlive.j0 : Nat → Bool → Int → Int → Int → Int → Int → Int → Int → List (S43) → List (S48) → Bool → Bool → Bool → Bool → Bool → Bool → Option (Bool)
  | 0, _, _, _, _, _, _, _, _, _, _, _, _, _, _, _, _ => none
  | k + 1, x16, x322000, x322001, x322002, x322003, x322004, x322005, x322006, x322007, x322008, x322009, x322010, x322011, x322012, x322013, x322014 => if x16 = true then (some false) else ((view_In.f x322005 x322006 2).bind fun t328 => (if t328 = true then (if x322011 = true then (ropewaylaw14_roundAlive.j1 k true x322000 x322001 x322002 x322003 x322004 x322005 x322006 x322007 x322008 x322009 x322010 x322011 x322012 x322013 x322014 ([] : List (S43)) ([] : List (S48)) 6 2 1 1 4 7 0) else ((round_Round_to.f x322000 x322001 x322002 x322003 x322004 x322005 x322006 x322007 x322008 x322009 x322010 x322011 x322012 x322013 x322014 ([] : List (S43)) ([] : List (S48)) 2).bind fun bt329 => ((msg_Answers.f bt329.1 bt329.2.1 bt329.2.2.1 bt329.2.2.2.1 bt329.2.2.2.2.1 bt329.2.2.2.2.2.1 bt329.2.2.2.2.2.2.1 bt329.2.2.2.2.2.2.2.1 bt329.2.2.2.2.2.2.2.2 6 2 1 1 4 7 0 ([] : List (S43)) ([] : List (S48))).bind fun t342 => (if t342 = true then ((cells_Merge.f k ([] : List (S43)) ([] : List (S43))).bind fun t343 => ((book_Merge.f k ([] : List (S48)) ([] : List (S48))).bind fun t346 => ((view_In.f x322005 x322006 2).bind fun t350 => (if t350 = true then ((round_Round_Done.f k x322000 x322001 x322002 x322003 x322004 x322005 x322006 x322007 x322008 x322009 x322010 true x322012 x322013 x322014 t343 t346).bind fun t351 => (if t351 = true then (ropewaylaw14_roundAlive.j1 k true x322000 x322001 x322002 x322003 x322004 x322005 x322006 x322007 x322008 x322009 x322010 true x322012 x322013 x322014 t343 t346 6 2 1 1 4 7 0) else ((round_Round_Asks.f k x322000 x322001 x322002 x322003 x322004 x322005 x322006 x322007 x322008 x322009 x322010 true x322012 x322013 x322014 t343 t346).bind fun t352 => (ropewaylaw14_roundAlive.j1 k ((t352.length : Int) != 2) x322000 x322001 x322002 x322003 x322004 x322005 x322006 x322007 x322008 x322009 x322010 true x322012 x322013 x322014 t343 t346 6 2 1 1 4 7 0)))) else (none))))) else (ropewaylaw14_roundAlive.j1 k true x322000 x322001 x322002 x322003 x322004 x322005 x322006 x322007 x322008 x322009 x322010 x322011 x322012 x322013 x322014 ([] : List (S43)) ([] : List (S48)) 6 2 1 1 4 7 0))))) else (ropewaylaw14_roundAlive.j1 k true x322000 x322001 x322002 x322003 x322004 x322005 x322006 x322007 x322008 x322009 x322010 x322011 x322012 x322013 x322014 ([] : List (S43)) ([] : List (S48)) 6 2 1 1 4 7 0)))
def ropewaylaw14_roundAlive.j1 : Nat → Bool → Int → Int → Int → Int → Int → Int → Int → List (S43) → List (S48) → Bool → Bool → Bool → Bool → Bool → Bool → List (S43) → List (S48) → Int → Int → Int → Int → Int → Int → Int → Option (Bool)
  | 0, _, _, _, _, _, _, _, _, _, _, _, _, _, _, _, _, _, _, _, _, _, _, _, _, _ => none
  | k + 1, x37, x322000, x322001, x322002, x322003, x322004, x322005, x322006, x322007, x322008, x322009, x322010, x322011, x322012, x322013, x322014, x322015, x322016, x327000, x327001, x327002, x327003, x327004, x327005, x327006 => if x37 = true then (some false) else ((view_In.f x322005 x322006 0).bind fun t356 => (if t356 = true then (if x322009 = true then (some false) else ((round_Round_to.f x322000 x322001 x322002 x322003 x322004 x322005 x322006 x322007 x322008 x322009 x322010 x322011 x322012 x322013 x322014 x322015 x322016 0).bind fun bt357 => ((msg_Answers.f bt357.1 bt357.2.1 bt357.2.2.1 bt357.2.2.2.1 bt357.2.2.2.2.1 bt357.2.2.2.2.2.1 bt357.2.2.2.2.2.2.1 bt357.2.2.2.2.2.2.2.1 bt357.2.2.2.2.2.2.2.2 x327000 0 x327002 x327003 x327004 x327005 x327006 ([] : List (S43)) ([] : List (S48))).bind fun t370 => (if t370 = true then ((cells_Merge.f k x322015 ([] : List (S43))).bind fun t371 => ((book_Merge.f k x322016 ([] : List (S48))).bind fun t374 => ((round_Round_Done.f k x322000 x322001 x322002 x322003 x322004 x322005 x322006 x322007 x322008 true x322010 x322011 x322012 x322013 x322014 t371 t374).bind fun t377 => (if t377 = true then ((round_Round_Who.f k x322000 x322001 x322002 x322003 x322004 x322005 x322006 x322007 x322008 true x322010 x322011 x322012 x322013 x322014 t371 t374).bind fun t378 => ((ropewayref02_SameInts.f k t378 (([0, 2] : List Int))).bind fun t384 => (some t384))) else (some false))))) else (some false))))) else (some false)))
end
def ropewaylaw14_roundAlive.f (k : Nat)  : Option (Bool) := (ropewaylaw14_ask.f).bind fun bt294 => ((msg_Copy.f bt294.1 bt294.2.1 bt294.2.2.1 bt294.2.2.2.1 bt294.2.2.2.2.1 bt294.2.2.2.2.2.1 bt294.2.2.2.2.2.2.1 bt294.2.2.2.2.2.2.2.1 bt294.2.2.2.2.2.2.2.2).bind fun bt308 => ((round_Round_Asks.f k bt308.1 bt308.2.1 bt308.2.2.1 bt308.2.2.2.1 bt308.2.2.2.2.1 bt308.2.2.2.2.2.1 bt308.2.2.2.2.2.2.1 bt308.2.2.2.2.2.2.2.1 bt308.2.2.2.2.2.2.2.2 false false false false false false ([] : List (S43)) ([] : List (S48))).bind fun t322 => (if (t322.length : Int) = 3 then ((round_Round_Done.f k bt308.1 bt308.2.1 bt308.2.2.1 bt308.2.2.2.1 bt308.2.2.2.2.1 bt308.2.2.2.2.2.1 bt308.2.2.2.2.2.2.1 bt308.2.2.2.2.2.2.2.1 bt308.2.2.2.2.2.2.2.2 false false false false false false ([] : List (S43)) ([] : List (S48))).bind fun t325 => (ropewaylaw14_roundAlive.j0 k t325 bt308.1 bt308.2.1 bt308.2.2.1 bt308.2.2.2.1 bt308.2.2.2.2.1 bt308.2.2.2.2.2.1 bt308.2.2.2.2.2.2.1 bt308.2.2.2.2.2.2.2.1 bt308.2.2.2.2.2.2.2.2 false false false false false false)) else (ropewaylaw14_roundAlive.j0 k true bt308.1 bt308.2.1 bt308.2.2.1 bt308.2.2.2.1 bt308.2.2.2.2.1 bt308.2.2.2.2.2.1 bt308.2.2.2.2.2.2.1 bt308.2.2.2.2.2.2.2.1 bt308.2.2.2.2.2.2.2.2 false false false false false false))))
theorem ropewaylaw14_roundAlive.mono_l : ∀ k, (∀ y0 y1 y2 y3 y4 y5 y6 y7 y8 y9 y10 y11 y12 y13 y14 y15, LeO (ropewaylaw14_roundAlive.j0 k y0 y1 y2 y3 y4 y5 y6 y7 y8 y9 y10 y11 y12 y13 y14 y15) (ropewaylaw14_roundAlive.j0 (k + 1) y0 y1 y2 y3 y4 y5 y6 y7 y8 y9 y10 y11 y12 y13 y14 y15)) ∧ (∀ y0 y1 y2 y3 y4 y5 y6 y7 y8 y9 y10 y11 y12 y13 y14 y15 y16 y17 y18 y19 y20 y21 y22 y23 y24, LeO (ropewaylaw14_roundAlive.j1 k y0 y1 y2 y3 y4 y5 y6 y7 y8 y9 y10 y11 y12 y13 y14 y15 y16 y17 y18 y19 y20 y21 y22 y23 y24) (ropewaylaw14_roundAlive.j1 (k + 1) y0 y1 y2 y3 y4 y5 y6 y7 y8 y9 y10 y11 y12 y13 y14 y15 y16 y17 y18 y19 y20 y21 y22 y23 y24))
  | 0 => ⟨fun _ _ _ _ _ _ _ _ _ _ _ _ _ _ _ _ r h => by simp [ropewaylaw14_roundAlive.j0] at h, fun _ _ _ _ _ _ _ _ _ _ _ _ _ _ _ _ _ _ _ _ _ _ _ _ _ r h => by simp [ropewaylaw14_roundAlive.j1] at h⟩
  | k + 1 => by
    obtain ⟨ih0, ih1⟩ := ropewaylaw14_roundAlive.mono_l k
    refine ⟨?_, ?_⟩
    · intro y0 y1 y2 y3 y4 y5 y6 y7 y8 y9 y10 y11 y12 y13 y14 y15
      unfold ropewaylaw14_roundAlive.j0
      repeat' first
      | (with_reducible exact ih0 _ _ _ _ _ _ _ _ _ _ _ _ _ _ _ _)
      | (with_reducible exact ih1 _ _ _ _ _ _ _ _ _ _ _ _ _ _ _ _ _ _ _ _ _ _ _ _ _)
      | (with_reducible exact book_Merge.mono _ _ _)
      | (with_reducible exact cells_Merge.mono _ _ _)
      | (with_reducible exact ropewayref02_SameInts.mono _ _ _)
      | (with_reducible exact round_Round_Asks.mono _ _ _ _ _ _ _ _ _ _ _ _ _ _ _ _ _ _)
      | (with_reducible exact round_Round_Done.mono _ _ _ _ _ _ _ _ _ _ _ _ _ _ _ _ _ _)
      | (with_reducible exact round_Round_Who.mono _ _ _ _ _ _ _ _ _ _ _ _ _ _ _ _ _ _)
      | (with_reducible exact LeO.refl _)
      | (with_reducible exact LeO.none _)
      | (with_reducible refine LeO.ite ?_ ?_)
      | (with_reducible refine LeO.bind ?_ (fun _ => ?_))
      | exact ih0 _ _ _ _ _ _ _ _ _ _ _ _ _ _ _ _
      | exact ih1 _ _ _ _ _ _ _ _ _ _ _ _ _ _ _ _ _ _ _ _ _ _ _ _ _
      | exact book_Merge.mono _ _ _
      | exact cells_Merge.mono _ _ _
      | exact ropewayref02_SameInts.mono _ _ _
      | exact round_Round_Asks.mono _ _ _ _ _ _ _ _ _ _ _ _ _ _ _ _ _ _
      | exact round_Round_Done.mono _ _ _ _ _ _ _ _ _ _ _ _ _ _ _ _ _ _
      | exact round_Round_Who.mono _ _ _ _ _ _ _ _ _ _ _ _ _ _ _ _ _ _
      | exact LeO.none _
      | refine LeO.ite ?_ ?_
      | refine LeO.bind ?_ (fun _ => ?_)
    · intro y0 y1 y2 y3 y4 y5 y6 y7 y8 y9 y10 y11 y12 y13 y14 y15 y16 y17 y18 y19 y20 y21 y22 y23 y24
      unfold ropewaylaw14_roundAlive.j1
      repeat' first
      | (with_reducible exact ih0 _ _ _ _ _ _ _ _ _ _ _ _ _ _ _ _)
      | (with_reducible exact ih1 _ _ _ _ _ _ _ _ _ _ _ _ _ _ _ _ _ _ _ _ _ _ _ _ _)
      | (with_reducible exact book_Merge.mono _ _ _)
      | (with_reducible exact cells_Merge.mono _ _ _)
      | (with_reducible exact ropewayref02_SameInts.mono _ _ _)
      | (with_reducible exact round_Round_Asks.mono _ _ _ _ _ _ _ _ _ _ _ _ _ _ _ _ _ _)
      | (with_reducible exact round_Round_Done.mono _ _ _ _ _ _ _ _ _ _ _ _ _ _ _ _ _ _)
      | (with_reducible exact round_Round_Who.mono _ _ _ _ _ _ _ _ _ _ _ _ _ _ _ _ _ _)
      | (with_reducible exact LeO.refl _)
      | (with_reducible exact LeO.none _)
      | (with_reducible refine LeO.ite ?_ ?_)
      | (with_reducible refine LeO.bind ?_ (fun _ => ?_))
      | exact ih0 _ _ _ _ _ _ _ _ _ _ _ _ _ _ _ _
      | exact ih1 _ _ _ _ _ _ _ _ _ _ _ _ _ _ _ _ _ _ _ _ _ _ _ _ _
      | exact book_Merge.mono _ _ _
      | exact cells_Merge.mono _ _ _
      | exact ropewayref02_SameInts.mono _ _ _
      | exact round_Round_Asks.mono _ _ _ _ _ _ _ _ _ _ _ _ _ _ _ _ _ _
      | exact round_Round_Done.mono _ _ _ _ _ _ _ _ _ _ _ _ _ _ _ _ _ _
      | exact round_Round_Who.mono _ _ _ _ _ _ _ _ _ _ _ _ _ _ _ _ _ _
      | exact LeO.none _
      | refine LeO.ite ?_ ?_
      | refine LeO.bind ?_ (fun _ => ?_)
theorem ropewaylaw14_roundAlive.mono : ∀ k, LeO (ropewaylaw14_roundAlive.f k ) (ropewaylaw14_roundAlive.f (k + 1) ) := by
  intro  k
  obtain ⟨ih0, ih1⟩ := ropewaylaw14_roundAlive.mono_l k
  unfold ropewaylaw14_roundAlive.f
  repeat' first
      | (with_reducible exact ih0 _ _ _ _ _ _ _ _ _ _ _ _ _ _ _ _)
      | (with_reducible exact ih1 _ _ _ _ _ _ _ _ _ _ _ _ _ _ _ _ _ _ _ _ _ _ _ _ _)
      | (with_reducible exact book_Merge.mono _ _ _)
      | (with_reducible exact cells_Merge.mono _ _ _)
      | (with_reducible exact ropewayref02_SameInts.mono _ _ _)
      | (with_reducible exact round_Round_Asks.mono _ _ _ _ _ _ _ _ _ _ _ _ _ _ _ _ _ _)
      | (with_reducible exact round_Round_Done.mono _ _ _ _ _ _ _ _ _ _ _ _ _ _ _ _ _ _)
      | (with_reducible exact round_Round_Who.mono _ _ _ _ _ _ _ _ _ _ _ _ _ _ _ _ _ _)
      | (with_reducible exact LeO.refl _)
      | (with_reducible exact LeO.none _)
      | (with_reducible refine LeO.ite ?_ ?_)
      | (with_reducible refine LeO.bind ?_ (fun _ => ?_))
      | exact ih0 _ _ _ _ _ _ _ _ _ _ _ _ _ _ _ _
      | exact ih1 _ _ _ _ _ _ _ _ _ _ _ _ _ _ _ _ _ _ _ _ _ _ _ _ _
      | exact book_Merge.mono _ _ _
      | exact cells_Merge.mono _ _ _
      | exact ropewayref02_SameInts.mono _ _ _
      | exact round_Round_Asks.mono _ _ _ _ _ _ _ _ _ _ _ _ _ _ _ _ _ _
      | exact round_Round_Done.mono _ _ _ _ _ _ _ _ _ _ _ _ _ _ _ _ _ _
      | exact round_Round_Who.mono _ _ _ _ _ _ _ _ _ _ _ _ _ _ _ _ _ _
      | exact LeO.none _
      | refine LeO.ite ?_ ?_
      | refine LeO.bind ?_ (fun _ => ?_)
set_option maxHeartbeats 8000000 in
set_option maxRecDepth 100000 in
theorem ropewaylaw14_roundAlive.calls (k : Nat)  (r : Bool) (w : World) (h : ropewaylaw14_roundAlive.f k  = some r) :
    Calls Try.prog 9 #[] w fun e w' => e = .returned (.bool r) ∧ Below w.heap.size w w' := by
  have hu23 := Try.underlying23
  have hu27 := Try.underlying27
  have HB := zM (Below.refl w.heap.size w)
  have hr1_ := zM (det_ ropewaylaw14_roundAlive.mono h (show ropewaylaw14_roundAlive.f 60 = some true by decide +kernel) : r = true)
  have H : ((ropewaylaw14_ask.f).bind fun bt294 => ((msg_Copy.f bt294.1 bt294.2.1 bt294.2.2.1 bt294.2.2.2.1 bt294.2.2.2.2.1 bt294.2.2.2.2.2.1 bt294.2.2.2.2.2.2.1 bt294.2.2.2.2.2.2.2.1 bt294.2.2.2.2.2.2.2.2).bind fun bt308 => ((round_Round_Asks.f k bt308.1 bt308.2.1 bt308.2.2.1 bt308.2.2.2.1 bt308.2.2.2.2.1 bt308.2.2.2.2.2.1 bt308.2.2.2.2.2.2.1 bt308.2.2.2.2.2.2.2.1 bt308.2.2.2.2.2.2.2.2 false false false false false false ([] : List (S43)) ([] : List (S48))).bind fun t322 => (if (t322.length : Int) = 3 then ((round_Round_Done.f k bt308.1 bt308.2.1 bt308.2.2.1 bt308.2.2.2.1 bt308.2.2.2.2.1 bt308.2.2.2.2.2.1 bt308.2.2.2.2.2.2.1 bt308.2.2.2.2.2.2.2.1 bt308.2.2.2.2.2.2.2.2 false false false false false false ([] : List (S43)) ([] : List (S48))).bind fun t325 => (ropewaylaw14_roundAlive.j0 k t325 bt308.1 bt308.2.1 bt308.2.2.1 bt308.2.2.2.1 bt308.2.2.2.2.1 bt308.2.2.2.2.2.1 bt308.2.2.2.2.2.2.1 bt308.2.2.2.2.2.2.2.1 bt308.2.2.2.2.2.2.2.2 false false false false false false)) else (ropewaylaw14_roundAlive.j0 k true bt308.1 bt308.2.1 bt308.2.2.1 bt308.2.2.2.1 bt308.2.2.2.2.1 bt308.2.2.2.2.2.1 bt308.2.2.2.2.2.2.1 bt308.2.2.2.2.2.2.2.1 bt308.2.2.2.2.2.2.2.2 false false false false false false))))) = some r := h
  clear h
  replace H := Option.bind_eq_some_iff.mp H
  obtain ⟨⟨t294, t295, t296, t297, t298, t299, t300, t301, t304⟩, A10, H⟩ := H
  replace H : ((msg_Copy.f t294 t295 t296 t297 t298 t299 t300 t301 t304).bind fun bt308 => ((round_Round_Asks.f k bt308.1 bt308.2.1 bt308.2.2.1 bt308.2.2.2.1 bt308.2.2.2.2.1 bt308.2.2.2.2.2.1 bt308.2.2.2.2.2.2.1 bt308.2.2.2.2.2.2.2.1 bt308.2.2.2.2.2.2.2.2 false false false false false false ([] : List (S43)) ([] : List (S48))).bind fun t322 => (if (t322.length : Int) = 3 then ((round_Round_Done.f k bt308.1 bt308.2.1 bt308.2.2.1 bt308.2.2.2.1 bt308.2.2.2.2.1 bt308.2.2.2.2.2.1 bt308.2.2.2.2.2.2.1 bt308.2.2.2.2.2.2.2.1 bt308.2.2.2.2.2.2.2.2 false false false false false false ([] : List (S43)) ([] : List (S48))).bind fun t325 => (ropewaylaw14_roundAlive.j0 k t325 bt308.1 bt308.2.1 bt308.2.2.1 bt308.2.2.2.1 bt308.2.2.2.2.1 bt308.2.2.2.2.2.1 bt308.2.2.2.2.2.2.1 bt308.2.2.2.2.2.2.2.1 bt308.2.2.2.2.2.2.2.2 false false false false false false)) else (ropewaylaw14_roundAlive.j0 k true bt308.1 bt308.2.1 bt308.2.2.1 bt308.2.2.2.1 bt308.2.2.2.2.1 bt308.2.2.2.2.2.1 bt308.2.2.2.2.2.2.1 bt308.2.2.2.2.2.2.2.1 bt308.2.2.2.2.2.2.2.2 false false false false false false)))) = some r := H
  have A1 := zM A10
  clear A10
  replace H := Option.bind_eq_some_iff.mp H
  obtain ⟨⟨t308, t309, t310, t311, t312, t313, t314, t315, t318⟩, A20, H⟩ := H
  replace H : ((round_Round_Asks.f k t308 t309 t310 t311 t312 t313 t314 t315 t318 false false false false false false ([] : List (S43)) ([] : List (S48))).bind fun t322 => (if (t322.length : Int) = 3 then ((round_Round_Done.f k t308 t309 t310 t311 t312 t313 t314 t315 t318 false false false false false false ([] : List (S43)) ([] : List (S48))).bind fun t325 => (ropewaylaw14_roundAlive.j0 k t325 t308 t309 t310 t311 t312 t313 t314 t315 t318 false false false false false false)) else (ropewaylaw14_roundAlive.j0 k true t308 t309 t310 t311 t312 t313 t314 t315 t318 false false false false false false))) = some r := H
  have A2 := zM A20
  clear A20
  have HC3 := zM H
  clear H
  go_enter Try.func9, Try.ntmps9
  have tk5 : True := trivial
  have tk8 : True := trivial
  have tk10 : True := trivial
  have tk13 : True := trivial
  have tk17 : True := trivial
  have tk18 : True := trivial
  go_upto_region 2 with (first | ((with_reducible refine gate_callee (f := 17) rfl ?_); clear tk5; refine goL_ (some 3) Try.func17 #[] ?_; (with_reducible refine (ropewaylaw14_ask.calls  t294 t295 t296 t297 t298 t299 t300 t301 t304 _ A1.out).mono ?_); rintro e w4 ⟨v302, v305, rfl, ho0, ho1, hb⟩; refine ⟨_, rfl, ?_⟩; have HO303 := zM (Kd.R_lower ho0 (below_size bel_)); have HO306 := zM (Kd.R_lower ho1 (below_size bel_)); replace HB := zM (zB bel_ hb); (try clear hb); (try clear ho0); (try clear ho1); obtain ⟨Ao6, co6, eo6⟩ := Kd.R_slice HO303.out; subst eo6; obtain ⟨Ao7, co7, eo7⟩ := Kd.R_slice HO306.out; subst eo7) | ((with_reducible refine gate_callee (f := 11) rfl ?_); clear tk8; refine goL_ (some 4) Try.func11 #[.agg #[.int .i64 t294, .int .i64 t295, .int .i64 t296, .int .i64 t297, .int .i64 t298, .int .i64 t299, .int .i64 t300, .slice Ao6 t301.length co6, .slice Ao7 t304.length co7]] ?_; go_enter Try.func11, Try.ntmps11) | ((with_reducible refine gate_dst (N := 1) rfl ?_); clear tk10; (try (refine gate_guard (by rfl) ?_; dsimp only)); refine box_event ?hg (N := 1) ?hd (cs := #[.int .i64 t294, .int .i64 t295, .int .i64 t296, .int .i64 t297, .int .i64 t298, .int .i64 t299, .int .i64 t300, .slice Ao6 t301.length co6, .slice Ao7 t304.length co7]) (t := 27) ?hr ?_; (case hd => rfl); (case hg => rfl); (case hr => first | (go_simp; done) | (go_simp; rfl)); intro gb307 hg w9 hbox hb; replace HO303 := zM (Kd.R_below (rl_ HO303) hb); replace HO306 := zM (Kd.R_below (rl_ HO306) hb); have BK307 := zM (hbox); have GW307 := zM (bs_ hg); have GE307 := zM (bs_ hg); replace HB := zM (zB bel_ hb); clear hb hbox hg; obtain ⟨hcz11_0, hcz11_1, hcz11_2, hcz11_3, hcz11_4, hcz11_5, hcz11_6, hcz11_7, hcz11_8⟩ := r9_ BK307.out; obtain ⟨hfz11_0, hfz11_1, hfz11_2, hfz11_3, hfz11_4, hfz11_5, hfz11_6, hfz11_7, hfz11_8⟩ := f9_ BK307.out) | ((with_reducible refine gate_callee (f := 39) rfl ?_); clear tk13; refine goL_ (some 4) Try.func39 #[.agg #[.int .i64 t294, .int .i64 t295, .int .i64 t296, .int .i64 t297, .int .i64 t298, .int .i64 t299, .int .i64 t300, .slice Ao6 t301.length co6, .slice Ao7 t304.length co7]] ?_; (with_reducible refine (msg_Copy.calls t294 t295 t296 t297 t298 t299 t300 _ _ t301 _ _ t304 t308 t309 t310 t311 t312 t313 t314 t315 t318 _ ?side1 ?side2 ?side3 ?side4 A2.out).mono ?_); (case side1 => repeat (first | exact (Kd.R_reads' HO303.out).2.2 | (with_reducible refine Kd.C_alloc ?_ _) | (with_reducible refine Kd.C_drewN ?_ _) | (with_reducible refine Kd.C_drew ?_))); (case side2 => exact (Kd.R_reads' HO303.out).2.1); (case side3 => repeat (first | exact (Kd.R_reads' HO306.out).2.2 | (with_reducible refine Kd.C_alloc ?_ _) | (with_reducible refine Kd.C_drewN ?_ _) | (with_reducible refine Kd.C_drew ?_))); (case side4 => exact (Kd.R_reads' HO306.out).2.1); rintro e w12 ⟨v316, v319, rfl, ho0, ho1, hb⟩; refine ⟨_, rfl, ?_⟩; have HO317 := zM (Kd.R_lower (Kd.R_new' ho0 (Kd.R_lt (rl_ HO303))) (below_size bel_)); replace HO303 := zM (Kd.R_elder' (rl_ HO303) (Kd.R_base ho0) hb); have HO320 := zM (Kd.R_lower (Kd.R_new' ho1 (Kd.R_lt (rl_ HO306))) (below_size bel_)); replace HO306 := zM (Kd.R_elder' (rl_ HO306) (Kd.R_base ho1) hb); replace BK307 := zM (bb_ BK307 hb); replace HB := zM (zB bel_ hb); (try clear hb); (try clear ho0); (try clear ho1); obtain ⟨Ao14, co14, eo14⟩ := Kd.R_slice HO320.out; subst eo14; obtain ⟨Ao15, co15, eo15⟩ := Kd.R_slice HO317.out; subst eo15) | ((with_reducible refine gate_dst (N := 6) rfl ?_); clear tk17; (try (refine gate_guard (by rfl) ?_; dsimp only)); refine box_event ?hg (N := 6) ?hd (cs := #[.int .i64 t308, .int .i64 t309, .int .i64 t310, .int .i64 t311, .int .i64 t312, .int .i64 t313, .int .i64 t314, .slice Ao15 t315.length co15, .slice Ao14 t318.length co14, .bool false, .bool false, .bool false, .bool false, .bool false, .bool false, .slice none 0 0, .slice none 0 0]) (t := 71) ?hr ?_; (case hd => rfl); (case hg => rfl); (case hr => first | (go_simp; done) | (go_simp; rfl)); intro gb321 hg w16 hbox hb; replace HO303 := zM (Kd.R_below (rl_ HO303) hb); replace HO306 := zM (Kd.R_below (rl_ HO306) hb); replace HO317 := zM (Kd.R_below (rl_ HO317) hb); replace HO320 := zM (Kd.R_below (rl_ HO320) hb); have BK321 := zM (hbox); have GW321 := zM (bs_ hg); have GE321 := zM (bs_ hg); replace HB := zM (zB bel_ hb); have NB307_321 := zM (nl_ BK307 hg); have NB321_307 := zM (ng_ BK307 hg); replace BK307 := zM (bb_ BK307 hb); clear hb hbox hg) | (clear tk18; (first | go_ret | go_ret2 | go_ret3 | go_end0); with_reducible refine inl_back_ ?_))
  (try simp only [Act.put, zS, zZ, zC])
  go_cut [16] (fun v16 wc => ∃ (kq : Nat) (x16_2 : Bool) (x322000_2 : Int) (x322001_2 : Int) (x322002_2 : Int) (x322003_2 : Int) (x322004_2 : Int) (x322005_2 : Int) (x322006_2 : Int) (x322009_2 : Bool) (x322010_2 : Bool) (x322011_2 : Bool) (x322012_2 : Bool) (x322013_2 : Bool) (x322014_2 : Bool), v16 = .bool x16_2 ∧ Aside0 (ropewaylaw14_roundAlive.j0 kq x16_2 x322000_2 x322001_2 x322002_2 x322003_2 x322004_2 x322005_2 x322006_2 t315 t318 x322009_2 x322010_2 x322011_2 x322012_2 x322013_2 x322014_2 = some r) ∧ Aside0 (kq ≤ k) ∧ Aside0 (Kd.R k43 43 wc w.heap.size (fun k_ => some k_ ≠ ((.slice Ao15 t315.length co15) : Value).ownBlock) (.slice Ao6 t301.length co6) t301) ∧ Aside0 (Kd.R k48 48 wc w.heap.size (fun k_ => some k_ ≠ ((.slice Ao14 t318.length co14) : Value).ownBlock) (.slice Ao7 t304.length co7) t304) ∧ Aside0 (Kd.R k43 43 wc w.heap.size (fun k_ => some k_ ≠ ((.slice Ao6 t301.length co6) : Value).ownBlock) (.slice Ao15 t315.length co15) t315) ∧ Aside0 (Kd.R k48 48 wc w.heap.size (fun k_ => some k_ ≠ ((.slice Ao7 t304.length co7) : Value).ownBlock) (.slice Ao14 t318.length co14) t318) ∧ Aside0 (wc.heap[gb307]? = some (.cells #[.int .i64 t294, .int .i64 t295, .int .i64 t296, .int .i64 t297, .int .i64 t298, .int .i64 t299, .int .i64 t300, (.slice Ao6 t301.length co6), (.slice Ao7 t304.length co7)] 27 (0, 0))) ∧ Aside0 (wc.heap[gb321]? = some (.cells #[.int .i64 x322000_2, .int .i64 x322001_2, .int .i64 x322002_2, .int .i64 x322003_2, .int .i64 x322004_2, .int .i64 x322005_2, .int .i64 x322006_2, (.slice Ao15 t315.length co15), (.slice Ao14 t318.length co14), .bool x322009_2, .bool x322010_2, .bool x322011_2, .bool x322012_2, .bool x322013_2, .bool x322014_2, (.slice none 0 0), (.slice none 0 0)] 71 (0, 0))) ∧ Aside0 (Below w.heap.size w wc))
  case first =>
   have H := HC3.out
   clear HC3
   replace H := Option.bind_eq_some_iff.mp H
   obtain ⟨t322, A190, H⟩ := H
   replace H : (if (t322.length : Int) = 3 then ((round_Round_Done.f k t308 t309 t310 t311 t312 t313 t314 t315 t318 false false false false false false ([] : List (S43)) ([] : List (S48))).bind fun t325 => (ropewaylaw14_roundAlive.j0 k t325 t308 t309 t310 t311 t312 t313 t314 t315 t318 false false false false false false)) else (ropewaylaw14_roundAlive.j0 k true t308 t309 t310 t311 t312 t313 t314 t315 t318 false false false false false false)) = some r := H
   have A19 := zM A190
   clear A190
   by_cases c20 : (t322.length : Int) = 3
   rotate_left
   · rw [if_neg c20] at H
     have c20b0 : ((t322.length : Int) == 3) = false := beq_eq_false_iff_ne.mpr c20
     have c20b1 : ((t322.length : Int) != 3) = true := bne_iff_ne.mpr c20
     (first | rw [c20b0] | (simp only [i64_w, i32_w]; rw [c20b0]) | skip)
     have hr1 := hr1_.out
     subst hr1
     (cases k) <;> simp [ropewaylaw14_roundAlive.j0] at H
   rw [if_pos c20] at H
   have c20b0 : ((t322.length : Int) == 3) = true := beq_iff_eq.mpr c20
   have c20b1 : ((t322.length : Int) != 3) = false := bne_eq_false_iff_eq.mpr c20
   clear c20
   (first | rw [c20b0] | (simp only [i64_w, i32_w]; rw [c20b0]) | skip)
   replace H := Option.bind_eq_some_iff.mp H
   obtain ⟨t325, A210, H⟩ := H
   replace H : (ropewaylaw14_roundAlive.j0 k t325 t308 t309 t310 t311 t312 t313 t314 t315 t318 false false false false false false) = some r := H
   have A21 := zM A210
   clear A210
   have H' := zM H
   clear H
   have tk23 : True := trivial
   have tk26 : True := trivial
   go_wp2_with (first | (go_at_call 15; (with_reducible refine calls_of_args (args' := #[.pointer (some ⟨gb321, 0, none⟩)]) rfl ?_); (refine (round_Round_Asks.calls k gb321 t308 t309 t310 t311 t312 t313 t314 Ao15 co15 t315 Ao14 co14 t318 false false false false false false none 0 ([] : List (S43)) none 0 ([] : List (S48)) t322 _ ?side1 ?side2 ?side3 ?side4 ?side5 ?side6 ?side7 ?side8 ?side9 A19.out).mono ?_); (case side1 => repeat (first | exact (Kd.R_reads' HO317.out).2.2 | (with_reducible refine Kd.C_alloc ?_ _) | (with_reducible refine Kd.C_drewN ?_ _) | (with_reducible refine Kd.C_drew ?_))); (case side2 => exact (Kd.R_reads' HO317.out).2.1); (case side3 => repeat (first | exact (Kd.R_reads' HO320.out).2.2 | (with_reducible refine Kd.C_alloc ?_ _) | (with_reducible refine Kd.C_drewN ?_ _) | (with_reducible refine Kd.C_drew ?_))); (case side4 => exact (Kd.R_reads' HO320.out).2.1); (case side5 => exact Kd.C_nil _ _); (case side6 => exact Nat.le_refl _); (case side7 => exact Kd.C_nil _ _); (case side8 => exact Nat.le_refl _); (case side9 => exact blf_); clear tk23; rintro e w22 ⟨v323, rfl, ho0, hb⟩; have HO324 := zM (Kd.S_lower (Kd.S_newB (Kd.S_new' (Kd.S_new' (Kd.S_new' (Kd.S_new' ho0 (Kd.R_lt (rl_ HO303))) (Kd.R_lt (rl_ HO306))) (Kd.R_lt (rl_ HO317))) (Kd.R_lt (rl_ HO320))) (g := gb307) (o := .cells #[.int .i64 t294, .int .i64 t295, .int .i64 t296, .int .i64 t297, .int .i64 t298, .int .i64 t299, .int .i64 t300, .slice Ao6 t301.length co6, .slice Ao7 t304.length co7] 27 (0, 0)) blk_) (below_size bel_)); replace HO303 := zM (Kd.R_below (rl_ HO303) hb); replace HO306 := zM (Kd.R_below (rl_ HO306) hb); replace HO317 := zM (Kd.R_below (rl_ HO317) hb); replace HO320 := zM (Kd.R_below (rl_ HO320) hb); replace BK307 := zM (bb_ BK307 hb); replace BK321 := zM (bb_ BK321 hb); replace HB := zM (zB bel_ hb); (try clear hb); (try clear ho0); obtain ⟨Ao24, co24, eo24⟩ := Kd.S_slice HO324.out; subst eo24) | (go_at_call 13; (with_reducible refine calls_of_args (args' := #[.pointer (some ⟨gb321, 0, none⟩)]) rfl ?_); (refine (round_Round_Done.calls k gb321 t308 t309 t310 t311 t312 t313 t314 Ao15 co15 t315 Ao14 co14 t318 false false false false false false none 0 ([] : List (S43)) none 0 ([] : List (S48)) t325 _ ?side1 ?side2 ?side3 ?side4 ?side5 ?side6 ?side7 ?side8 ?side9 A21.out).mono ?_); (case side1 => repeat (first | exact (Kd.R_reads' HO317.out).2.2 | (with_reducible refine Kd.C_alloc ?_ _) | (with_reducible refine Kd.C_drewN ?_ _) | (with_reducible refine Kd.C_drew ?_))); (case side2 => exact (Kd.R_reads' HO317.out).2.1); (case side3 => repeat (first | exact (Kd.R_reads' HO320.out).2.2 | (with_reducible refine Kd.C_alloc ?_ _) | (with_reducible refine Kd.C_drewN ?_ _) | (with_reducible refine Kd.C_drew ?_))); (case side4 => exact (Kd.R_reads' HO320.out).2.1); (case side5 => exact Kd.C_nil _ _); (case side6 => exact Nat.le_refl _); (case side7 => exact Kd.C_nil _ _); (case side8 => exact Nat.le_refl _); (case side9 => exact blf_); clear tk26; rintro e w25 ⟨rfl, hb⟩; replace HO303 := zM (Kd.R_below (rl_ HO303) hb); replace HO306 := zM (Kd.R_below (rl_ HO306) hb); replace HO317 := zM (Kd.R_below (rl_ HO317) hb); replace HO320 := zM (Kd.R_below (rl_ HO320) hb); replace HO324 := zM (Kd.S_below (by (with_reducible repeat (first | apply Kd.S_alloc | apply Kd.S_drewN | apply Kd.S_drew)); exact HO324.out) hb); replace BK307 := zM (bb_ BK307 hb); replace BK321 := zM (bb_ BK321 hb); replace HB := zM (zB bel_ hb); (try clear hb); (try clear hi)))
   go_meet
   case rel => exact ⟨_, (t325), (t308), (t309), (t310), (t311), (t312), (t313), (t314), (false), (false), (false), (false), (false), (false), (by first | rfl | (simp; done) | (simp [*]; done) | (simp; grind)), H', ⟨by first | omega | exact Nat.le_refl _⟩, ⟨by (with_reducible repeat (first | apply Kd.R_alloc | apply Kd.R_drewN | apply Kd.R_drew)); exact Kd.R_mono HO303.out (fun _ hk => hk.2)⟩, ⟨by (with_reducible repeat (first | apply Kd.R_alloc | apply Kd.R_drewN | apply Kd.R_drew)); exact Kd.R_mono HO306.out (fun _ hk => hk.2)⟩, ⟨by (with_reducible repeat (first | apply Kd.R_alloc | apply Kd.R_drewN | apply Kd.R_drew)); exact Kd.R_mono HO317.out (fun _ hk => hk.2)⟩, ⟨by (with_reducible repeat (first | apply Kd.R_alloc | apply Kd.R_drewN | apply Kd.R_drew)); exact Kd.R_mono HO320.out (fun _ hk => hk.2)⟩, ⟨blf_⟩, ⟨blf_⟩, ⟨bel_⟩⟩
  case rest =>
   clear HC3
   try clear c20
   try clear c20b0
   try clear c20b1
   try clear hcz11_0
   try clear hcz11_1
   try clear hcz11_2
   try clear hcz11_3
   try clear hcz11_4
   try clear hcz11_5
   try clear hcz11_6
   try clear hcz11_7
   try clear hcz11_8
   try clear hfz11_0
   try clear hfz11_1
   try clear hfz11_2
   try clear hfz11_3
   try clear hfz11_4
   try clear hfz11_5
   try clear hfz11_6
   try clear hfz11_7
   try clear hfz11_8
   obtain ⟨kq, x16_2, x322000_2, x322001_2, x322002_2, x322003_2, x322004_2, x322005_2, x322006_2, x322009_2, x322010_2, x322011_2, x322012_2, x322013_2, x322014_2, rfl, HA, HJ2, HO_308007, HO_308008, HO_322007, HO_322008, BK307, BK321, HB⟩ := hcut
   cases kq with
   | zero => exact absurd HA.out (by simp [ropewaylaw14_roundAlive.j0])
   | succ kj2 =>
    have H := HA.out
    clear HA
    simp only [ropewaylaw14_roundAlive.j0] at H
    by_cases c27 : x16_2 = true
    · subst c27
      have H1 : (some false) = some r := by rw [if_pos rfl] at H; exact H
      clear H
      have H := H1
      clear H1
      exact absurd (Option.some.inj H) (by rw [hr1_.out]; decide)
    replace c27 := Bool.eq_false_iff.mpr c27
    subst c27
    have H1 : ((view_In.f x322005_2 x322006_2 2).bind fun t328 => (if t328 = true then (if x322011_2 = true then (ropewaylaw14_roundAlive.j1 kj2 true x322000_2 x322001_2 x322002_2 x322003_2 x322004_2 x322005_2 x322006_2 t315 t318 x322009_2 x322010_2 x322011_2 x322012_2 x322013_2 x322014_2 ([] : List (S43)) ([] : List (S48)) 6 2 1 1 4 7 0) else ((round_Round_to.f x322000_2 x322001_2 x322002_2 x322003_2 x322004_2 x322005_2 x322006_2 t315 t318 x322009_2 x322010_2 x322011_2 x322012_2 x322013_2 x322014_2 ([] : List (S43)) ([] : List (S48)) 2).bind fun bt329 => ((msg_Answers.f bt329.1 bt329.2.1 bt329.2.2.1 bt329.2.2.2.1 bt329.2.2.2.2.1 bt329.2.2.2.2.2.1 bt329.2.2.2.2.2.2.1 bt329.2.2.2.2.2.2.2.1 bt329.2.2.2.2.2.2.2.2 6 2 1 1 4 7 0 ([] : List (S43)) ([] : List (S48))).bind fun t342 => (if t342 = true then ((cells_Merge.f kj2 ([] : List (S43)) ([] : List (S43))).bind fun t343 => ((book_Merge.f kj2 ([] : List (S48)) ([] : List (S48))).bind fun t346 => ((view_In.f x322005_2 x322006_2 2).bind fun t350 => (if t350 = true then ((round_Round_Done.f kj2 x322000_2 x322001_2 x322002_2 x322003_2 x322004_2 x322005_2 x322006_2 t315 t318 x322009_2 x322010_2 true x322012_2 x322013_2 x322014_2 t343 t346).bind fun t351 => (if t351 = true then (ropewaylaw14_roundAlive.j1 kj2 true x322000_2 x322001_2 x322002_2 x322003_2 x322004_2 x322005_2 x322006_2 t315 t318 x322009_2 x322010_2 true x322012_2 x322013_2 x322014_2 t343 t346 6 2 1 1 4 7 0) else ((round_Round_Asks.f kj2 x322000_2 x322001_2 x322002_2 x322003_2 x322004_2 x322005_2 x322006_2 t315 t318 x322009_2 x322010_2 true x322012_2 x322013_2 x322014_2 t343 t346).bind fun t352 => (ropewaylaw14_roundAlive.j1 kj2 ((t352.length : Int) != 2) x322000_2 x322001_2 x322002_2 x322003_2 x322004_2 x322005_2 x322006_2 t315 t318 x322009_2 x322010_2 true x322012_2 x322013_2 x322014_2 t343 t346 6 2 1 1 4 7 0)))) else (none))))) else (ropewaylaw14_roundAlive.j1 kj2 true x322000_2 x322001_2 x322002_2 x322003_2 x322004_2 x322005_2 x322006_2 t315 t318 x322009_2 x322010_2 x322011_2 x322012_2 x322013_2 x322014_2 ([] : List (S43)) ([] : List (S48)) 6 2 1 1 4 7 0))))) else (ropewaylaw14_roundAlive.j1 kj2 true x322000_2 x322001_2 x322002_2 x322003_2 x322004_2 x322005_2 x322006_2 t315 t318 x322009_2 x322010_2 x322011_2 x322012_2 x322013_2 x322014_2 ([] : List (S43)) ([] : List (S48)) 6 2 1 1 4 7 0))) = some r := by rw [if_neg (show ¬ (false = true) by decide)] at H; exact H
    clear H
    have H := H1
    clear H1
    have HC28 := zM H
    clear H
    have tk30 : True := trivial
    go_upto_region 5 with (first | ((with_reducible refine gate_dst (N := 2) rfl ?_); clear tk30; (try (refine gate_guard (by rfl) ?_; dsimp only)); refine box_event ?hg (N := 2) ?hd (cs := #[.int .i64 0, .int .i64 0, .int .i64 0, .int .i64 0, .int .i64 0, .int .i64 0, .int .i64 0, .slice none 0 0, .slice none 0 0]) (t := 27) ?hr ?_; (case hd => rfl); (case hg => rfl); (case hr => first | (go_simp; done) | (go_simp; rfl)); intro gb326 hg w29 hbox hb; replace HO_308007 := zM (Kd.R_below (rl_ HO_308007) hb); replace HO_308008 := zM (Kd.R_below (rl_ HO_308008) hb); replace HO_322007 := zM (Kd.R_below (rl_ HO_322007) hb); replace HO_322008 := zM (Kd.R_below (rl_ HO_322008) hb); have BK326 := zM (hbox); have GW326 := zM (bs_ hg); have GE326 := zM (bs_ hg); replace HB := zM (zB bel_ hb); have NB307_326 := zM (nl_ BK307 hg); have NB326_307 := zM (ng_ BK307 hg); replace BK307 := zM (bb_ BK307 hb); have NB321_326 := zM (nl_ BK321 hg); have NB326_321 := zM (ng_ BK321 hg); replace BK321 := zM (bb_ BK321 hb); clear hb hbox hg; have hnb31 := NB326_307.out; have hnc31 := NB307_326.out; have hnb32 := NB326_321.out; have hnc32 := NB321_326.out; obtain ⟨hcz33_0, hcz33_1, hcz33_2, hcz33_3, hcz33_4, hcz33_5, hcz33_6, hcz33_7, hcz33_8⟩ := r9_ BK326.out; obtain ⟨hfz33_0, hfz33_1, hfz33_2, hfz33_3, hfz33_4, hfz33_5, hfz33_6, hfz33_7, hfz33_8⟩ := f9_ BK326.out))
    (try simp only [Act.put, zS, zZ, zC])
    go_cut [37] (fun v37 wc => ∃ (kq : Nat) (x37_27 : Bool) (x322000_27 : Int) (x322001_27 : Int) (x322002_27 : Int) (x322003_27 : Int) (x322004_27 : Int) (x322005_27 : Int) (x322006_27 : Int) (x322009_27 : Bool) (x322010_27 : Bool) (x322011_27 : Bool) (x322012_27 : Bool) (x322013_27 : Bool) (x322014_27 : Bool) (x322015_27 : List (S43)) (x322016_27 : List (S48)) (u322015 : Value) (u322016 : Value), v37 = .bool x37_27 ∧ Aside0 (ropewaylaw14_roundAlive.j1 kq x37_27 x322000_27 x322001_27 x322002_27 x322003_27 x322004_27 x322005_27 x322006_27 t315 t318 x322009_27 x322010_27 x322011_27 x322012_27 x322013_27 x322014_27 x322015_27 x322016_27 6 2 1 1 4 7 0 = some r) ∧ Aside0 (kq ≤ kj2) ∧ Aside0 (Kd.R k43 43 wc w.heap.size (fun k_ => some k_ ≠ ((.slice Ao15 t315.length co15) : Value).ownBlock ∧ some k_ ≠ (u322015 : Value).ownBlock) (.slice Ao6 t301.length co6) t301) ∧ Aside0 (Kd.R k48 48 wc w.heap.size (fun k_ => some k_ ≠ ((.slice Ao14 t318.length co14) : Value).ownBlock ∧ some k_ ≠ (u322016 : Value).ownBlock) (.slice Ao7 t304.length co7) t304) ∧ Aside0 (Kd.R k43 43 wc w.heap.size (fun k_ => some k_ ≠ ((.slice Ao6 t301.length co6) : Value).ownBlock ∧ some k_ ≠ (u322015 : Value).ownBlock) (.slice Ao15 t315.length co15) t315) ∧ Aside0 (Kd.R k48 48 wc w.heap.size (fun k_ => some k_ ≠ ((.slice Ao7 t304.length co7) : Value).ownBlock ∧ some k_ ≠ (u322016 : Value).ownBlock) (.slice Ao14 t318.length co14) t318) ∧ Aside0 (Kd.R k43 43 wc w.heap.size (fun k_ => some k_ ≠ ((.slice Ao6 t301.length co6) : Value).ownBlock ∧ some k_ ≠ ((.slice Ao15 t315.length co15) : Value).ownBlock) u322015 x322015_27) ∧ Aside0 (Kd.R k48 48 wc w.heap.size (fun k_ => some k_ ≠ ((.slice Ao7 t304.length co7) : Value).ownBlock ∧ some k_ ≠ ((.slice Ao14 t318.length co14) : Value).ownBlock) u322016 x322016_27) ∧ Aside0 (wc.heap[gb307]? = some (.cells #[.int .i64 t294, .int .i64 t295, .int .i64 t296, .int .i64 t297, .int .i64 t298, .int .i64 t299, .int .i64 t300, (.slice Ao6 t301.length co6), (.slice Ao7 t304.length co7)] 27 (0, 0))) ∧ Aside0 (wc.heap[gb321]? = some (.cells #[.int .i64 x322000_27, .int .i64 x322001_27, .int .i64 x322002_27, .int .i64 x322003_27, .int .i64 x322004_27, .int .i64 x322005_27, .int .i64 x322006_27, (.slice Ao15 t315.length co15), (.slice Ao14 t318.length co14), .bool x322009_27, .bool x322010_27, .bool x322011_27, .bool x322012_27, .bool x322013_27, .bool x322014_27, u322015, u322016] 71 (0, 0))) ∧ Aside0 (wc.heap[gb326]? = some (.cells #[.int .i64 6, .int .i64 2, .int .i64 1, .int .i64 1, .int .i64 4, .int .i64 7, .int .i64 0, (.slice none 0 0), (.slice none 0 0)] 27 (0, 0))) ∧ Aside0 (Below w.heap.size w wc))
    case first =>
     have H := HC28.out
     clear HC28
     replace H := Option.bind_eq_some_iff.mp H
     obtain ⟨t328, A340, H⟩ := H
     replace H : (if t328 = true then (if x322011_2 = true then (ropewaylaw14_roundAlive.j1 kj2 true x322000_2 x322001_2 x322002_2 x322003_2 x322004_2 x322005_2 x322006_2 t315 t318 x322009_2 x322010_2 x322011_2 x322012_2 x322013_2 x322014_2 ([] : List (S43)) ([] : List (S48)) 6 2 1 1 4 7 0) else ((round_Round_to.f x322000_2 x322001_2 x322002_2 x322003_2 x322004_2 x322005_2 x322006_2 t315 t318 x322009_2 x322010_2 x322011_2 x322012_2 x322013_2 x322014_2 ([] : List (S43)) ([] : List (S48)) 2).bind fun bt329 => ((msg_Answers.f bt329.1 bt329.2.1 bt329.2.2.1 bt329.2.2.2.1 bt329.2.2.2.2.1 bt329.2.2.2.2.2.1 bt329.2.2.2.2.2.2.1 bt329.2.2.2.2.2.2.2.1 bt329.2.2.2.2.2.2.2.2 6 2 1 1 4 7 0 ([] : List (S43)) ([] : List (S48))).bind fun t342 => (if t342 = true then ((cells_Merge.f kj2 ([] : List (S43)) ([] : List (S43))).bind fun t343 => ((book_Merge.f kj2 ([] : List (S48)) ([] : List (S48))).bind fun t346 => ((view_In.f x322005_2 x322006_2 2).bind fun t350 => (if t350 = true then ((round_Round_Done.f kj2 x322000_2 x322001_2 x322002_2 x322003_2 x322004_2 x322005_2 x322006_2 t315 t318 x322009_2 x322010_2 true x322012_2 x322013_2 x322014_2 t343 t346).bind fun t351 => (if t351 = true then (ropewaylaw14_roundAlive.j1 kj2 true x322000_2 x322001_2 x322002_2 x322003_2 x322004_2 x322005_2 x322006_2 t315 t318 x322009_2 x322010_2 true x322012_2 x322013_2 x322014_2 t343 t346 6 2 1 1 4 7 0) else ((round_Round_Asks.f kj2 x322000_2 x322001_2 x322002_2 x322003_2 x322004_2 x322005_2 x322006_2 t315 t318 x322009_2 x322010_2 true x322012_2 x322013_2 x322014_2 t343 t346).bind fun t352 => (ropewaylaw14_roundAlive.j1 kj2 ((t352.length : Int) != 2) x322000_2 x322001_2 x322002_2 x322003_2 x322004_2 x322005_2 x322006_2 t315 t318 x322009_2 x322010_2 true x322012_2 x322013_2 x322014_2 t343 t346 6 2 1 1 4 7 0)))) else (none))))) else (ropewaylaw14_roundAlive.j1 kj2 true x322000_2 x322001_2 x322002_2 x322003_2 x322004_2 x322005_2 x322006_2 t315 t318 x322009_2 x322010_2 x322011_2 x322012_2 x322013_2 x322014_2 ([] : List (S43)) ([] : List (S48)) 6 2 1 1 4 7 0))))) else (ropewaylaw14_roundAlive.j1 kj2 true x322000_2 x322001_2 x322002_2 x322003_2 x322004_2 x322005_2 x322006_2 t315 t318 x322009_2 x322010_2 x322011_2 x322012_2 x322013_2 x322014_2 ([] : List (S43)) ([] : List (S48)) 6 2 1 1 4 7 0)) = some r := H
     have A34 := zM A340
     clear A340
     by_cases c35 : t328 = true
     rotate_left
     · replace c35 := Bool.eq_false_iff.mpr c35
       subst c35
       have H1 : (ropewaylaw14_roundAlive.j1 kj2 true x322000_2 x322001_2 x322002_2 x322003_2 x322004_2 x322005_2 x322006_2 t315 t318 x322009_2 x322010_2 x322011_2 x322012_2 x322013_2 x322014_2 ([] : List (S43)) ([] : List (S48)) 6 2 1 1 4 7 0) = some r := by rw [if_neg (show ¬ (false = true) by decide)] at H; exact H
       clear H
       have H := H1
       clear H1
       have hr1 := hr1_.out
       subst hr1
       (cases kj2) <;> simp [ropewaylaw14_roundAlive.j1] at H
     subst c35
     have H1 : (if x322011_2 = true then (ropewaylaw14_roundAlive.j1 kj2 true x322000_2 x322001_2 x322002_2 x322003_2 x322004_2 x322005_2 x322006_2 t315 t318 x322009_2 x322010_2 x322011_2 x322012_2 x322013_2 x322014_2 ([] : List (S43)) ([] : List (S48)) 6 2 1 1 4 7 0) else ((round_Round_to.f x322000_2 x322001_2 x322002_2 x322003_2 x322004_2 x322005_2 x322006_2 t315 t318 x322009_2 x322010_2 x322011_2 x322012_2 x322013_2 x322014_2 ([] : List (S43)) ([] : List (S48)) 2).bind fun bt329 => ((msg_Answers.f bt329.1 bt329.2.1 bt329.2.2.1 bt329.2.2.2.1 bt329.2.2.2.2.1 bt329.2.2.2.2.2.1 bt329.2.2.2.2.2.2.1 bt329.2.2.2.2.2.2.2.1 bt329.2.2.2.2.2.2.2.2 6 2 1 1 4 7 0 ([] : List (S43)) ([] : List (S48))).bind fun t342 => (if t342 = true then ((cells_Merge.f kj2 ([] : List (S43)) ([] : List (S43))).bind fun t343 => ((book_Merge.f kj2 ([] : List (S48)) ([] : List (S48))).bind fun t346 => ((view_In.f x322005_2 x322006_2 2).bind fun t350 => (if t350 = true then ((round_Round_Done.f kj2 x322000_2 x322001_2 x322002_2 x322003_2 x322004_2 x322005_2 x322006_2 t315 t318 x322009_2 x322010_2 true x322012_2 x322013_2 x322014_2 t343 t346).bind fun t351 => (if t351 = true then (ropewaylaw14_roundAlive.j1 kj2 true x322000_2 x322001_2 x322002_2 x322003_2 x322004_2 x322005_2 x322006_2 t315 t318 x322009_2 x322010_2 true x322012_2 x322013_2 x322014_2 t343 t346 6 2 1 1 4 7 0) else ((round_Round_Asks.f kj2 x322000_2 x322001_2 x322002_2 x322003_2 x322004_2 x322005_2 x322006_2 t315 t318 x322009_2 x322010_2 true x322012_2 x322013_2 x322014_2 t343 t346).bind fun t352 => (ropewaylaw14_roundAlive.j1 kj2 ((t352.length : Int) != 2) x322000_2 x322001_2 x322002_2 x322003_2 x322004_2 x322005_2 x322006_2 t315 t318 x322009_2 x322010_2 true x322012_2 x322013_2 x322014_2 t343 t346 6 2 1 1 4 7 0)))) else (none))))) else (ropewaylaw14_roundAlive.j1 kj2 true x322000_2 x322001_2 x322002_2 x322003_2 x322004_2 x322005_2 x322006_2 t315 t318 x322009_2 x322010_2 x322011_2 x322012_2 x322013_2 x322014_2 ([] : List (S43)) ([] : List (S48)) 6 2 1 1 4 7 0))))) = some r := by rw [if_pos rfl] at H; exact H
     clear H
     have H := H1
     clear H1
     by_cases c36 : x322011_2 = true
     · subst c36
       have H1 : (ropewaylaw14_roundAlive.j1 kj2 true x322000_2 x322001_2 x322002_2 x322003_2 x322004_2 x322005_2 x322006_2 t315 t318 x322009_2 x322010_2 true x322012_2 x322013_2 x322014_2 ([] : List (S43)) ([] : List (S48)) 6 2 1 1 4 7 0) = some r := by rw [if_pos rfl] at H; exact H
       clear H
       have H := H1
       clear H1
       have hr1 := hr1_.out
       subst hr1
       (cases kj2) <;> simp [ropewaylaw14_roundAlive.j1] at H
     replace c36 := Bool.eq_false_iff.mpr c36
     subst c36
     have H1 : ((round_Round_to.f x322000_2 x322001_2 x322002_2 x322003_2 x322004_2 x322005_2 x322006_2 t315 t318 x322009_2 x322010_2 false x322012_2 x322013_2 x322014_2 ([] : List (S43)) ([] : List (S48)) 2).bind fun bt329 => ((msg_Answers.f bt329.1 bt329.2.1 bt329.2.2.1 bt329.2.2.2.1 bt329.2.2.2.2.1 bt329.2.2.2.2.2.1 bt329.2.2.2.2.2.2.1 bt329.2.2.2.2.2.2.2.1 bt329.2.2.2.2.2.2.2.2 6 2 1 1 4 7 0 ([] : List (S43)) ([] : List (S48))).bind fun t342 => (if t342 = true then ((cells_Merge.f kj2 ([] : List (S43)) ([] : List (S43))).bind fun t343 => ((book_Merge.f kj2 ([] : List (S48)) ([] : List (S48))).bind fun t346 => ((view_In.f x322005_2 x322006_2 2).bind fun t350 => (if t350 = true then ((round_Round_Done.f kj2 x322000_2 x322001_2 x322002_2 x322003_2 x322004_2 x322005_2 x322006_2 t315 t318 x322009_2 x322010_2 true x322012_2 x322013_2 x322014_2 t343 t346).bind fun t351 => (if t351 = true then (ropewaylaw14_roundAlive.j1 kj2 true x322000_2 x322001_2 x322002_2 x322003_2 x322004_2 x322005_2 x322006_2 t315 t318 x322009_2 x322010_2 true x322012_2 x322013_2 x322014_2 t343 t346 6 2 1 1 4 7 0) else ((round_Round_Asks.f kj2 x322000_2 x322001_2 x322002_2 x322003_2 x322004_2 x322005_2 x322006_2 t315 t318 x322009_2 x322010_2 true x322012_2 x322013_2 x322014_2 t343 t346).bind fun t352 => (ropewaylaw14_roundAlive.j1 kj2 ((t352.length : Int) != 2) x322000_2 x322001_2 x322002_2 x322003_2 x322004_2 x322005_2 x322006_2 t315 t318 x322009_2 x322010_2 true x322012_2 x322013_2 x322014_2 t343 t346 6 2 1 1 4 7 0)))) else (none))))) else (ropewaylaw14_roundAlive.j1 kj2 true x322000_2 x322001_2 x322002_2 x322003_2 x322004_2 x322005_2 x322006_2 t315 t318 x322009_2 x322010_2 false x322012_2 x322013_2 x322014_2 ([] : List (S43)) ([] : List (S48)) 6 2 1 1 4 7 0)))) = some r := by rw [if_neg (show ¬ (false = true) by decide)] at H; exact H
     clear H
     have H := H1
     clear H1
     replace H := Option.bind_eq_some_iff.mp H
     obtain ⟨⟨t329, t330, t331, t332, t333, t334, t335, t336, t339⟩, A370, H⟩ := H
     replace H : ((msg_Answers.f t329 t330 t331 t332 t333 t334 t335 t336 t339 6 2 1 1 4 7 0 ([] : List (S43)) ([] : List (S48))).bind fun t342 => (if t342 = true then ((cells_Merge.f kj2 ([] : List (S43)) ([] : List (S43))).bind fun t343 => ((book_Merge.f kj2 ([] : List (S48)) ([] : List (S48))).bind fun t346 => ((view_In.f x322005_2 x322006_2 2).bind fun t350 => (if t350 = true then ((round_Round_Done.f kj2 x322000_2 x322001_2 x322002_2 x322003_2 x322004_2 x322005_2 x322006_2 t315 t318 x322009_2 x322010_2 true x322012_2 x322013_2 x322014_2 t343 t346).bind fun t351 => (if t351 = true then (ropewaylaw14_roundAlive.j1 kj2 true x322000_2 x322001_2 x322002_2 x322003_2 x322004_2 x322005_2 x322006_2 t315 t318 x322009_2 x322010_2 true x322012_2 x322013_2 x322014_2 t343 t346 6 2 1 1 4 7 0) else ((round_Round_Asks.f kj2 x322000_2 x322001_2 x322002_2 x322003_2 x322004_2 x322005_2 x322006_2 t315 t318 x322009_2 x322010_2 true x322012_2 x322013_2 x322014_2 t343 t346).bind fun t352 => (ropewaylaw14_roundAlive.j1 kj2 ((t352.length : Int) != 2) x322000_2 x322001_2 x322002_2 x322003_2 x322004_2 x322005_2 x322006_2 t315 t318 x322009_2 x322010_2 true x322012_2 x322013_2 x322014_2 t343 t346 6 2 1 1 4 7 0)))) else (none))))) else (ropewaylaw14_roundAlive.j1 kj2 true x322000_2 x322001_2 x322002_2 x322003_2 x322004_2 x322005_2 x322006_2 t315 t318 x322009_2 x322010_2 false x322012_2 x322013_2 x322014_2 ([] : List (S43)) ([] : List (S48)) 6 2 1 1 4 7 0))) = some r := H
     have A37 := zM A370
     clear A370
     replace H := Option.bind_eq_some_iff.mp H
     obtain ⟨t342, A380, H⟩ := H
     replace H : (if t342 = true then ((cells_Merge.f kj2 ([] : List (S43)) ([] : List (S43))).bind fun t343 => ((book_Merge.f kj2 ([] : List (S48)) ([] : List (S48))).bind fun t346 => ((view_In.f x322005_2 x322006_2 2).bind fun t350 => (if t350 = true then ((round_Round_Done.f kj2 x322000_2 x322001_2 x322002_2 x322003_2 x322004_2 x322005_2 x322006_2 t315 t318 x322009_2 x322010_2 true x322012_2 x322013_2 x322014_2 t343 t346).bind fun t351 => (if t351 = true then (ropewaylaw14_roundAlive.j1 kj2 true x322000_2 x322001_2 x322002_2 x322003_2 x322004_2 x322005_2 x322006_2 t315 t318 x322009_2 x322010_2 true x322012_2 x322013_2 x322014_2 t343 t346 6 2 1 1 4 7 0) else ((round_Round_Asks.f kj2 x322000_2 x322001_2 x322002_2 x322003_2 x322004_2 x322005_2 x322006_2 t315 t318 x322009_2 x322010_2 true x322012_2 x322013_2 x322014_2 t343 t346).bind fun t352 => (ropewaylaw14_roundAlive.j1 kj2 ((t352.length : Int) != 2) x322000_2 x322001_2 x322002_2 x322003_2 x322004_2 x322005_2 x322006_2 t315 t318 x322009_2 x322010_2 true x322012_2 x322013_2 x322014_2 t343 t346 6 2 1 1 4 7 0)))) else (none))))) else (ropewaylaw14_roundAlive.j1 kj2 true x322000_2 x322001_2 x322002_2 x322003_2 x322004_2 x322005_2 x322006_2 t315 t318 x322009_2 x322010_2 false x322012_2 x322013_2 x322014_2 ([] : List (S43)) ([] : List (S48)) 6 2 1 1 4 7 0)) = some r := H
     have A38 := zM A380
     clear A380
     by_cases c39 : t342 = true
     rotate_left
     · replace c39 := Bool.eq_false_iff.mpr c39
       subst c39
       have H1 : (ropewaylaw14_roundAlive.j1 kj2 true x322000_2 x322001_2 x322002_2 x322003_2 x322004_2 x322005_2 x322006_2 t315 t318 x322009_2 x322010_2 false x322012_2 x322013_2 x322014_2 ([] : List (S43)) ([] : List (S48)) 6 2 1 1 4 7 0) = some r := by rw [if_neg (show ¬ (false = true) by decide)] at H; exact H
       clear H
       have H := H1
       clear H1
       have hr1 := hr1_.out
       subst hr1
       (cases kj2) <;> simp [ropewaylaw14_roundAlive.j1] at H
     subst c39
     have H1 : ((cells_Merge.f kj2 ([] : List (S43)) ([] : List (S43))).bind fun t343 => ((book_Merge.f kj2 ([] : List (S48)) ([] : List (S48))).bind fun t346 => ((view_In.f x322005_2 x322006_2 2).bind fun t350 => (if t350 = true then ((round_Round_Done.f kj2 x322000_2 x322001_2 x322002_2 x322003_2 x322004_2 x322005_2 x322006_2 t315 t318 x322009_2 x322010_2 true x322012_2 x322013_2 x322014_2 t343 t346).bind fun t351 => (if t351 = true then (ropewaylaw14_roundAlive.j1 kj2 true x322000_2 x322001_2 x322002_2 x322003_2 x322004_2 x322005_2 x322006_2 t315 t318 x322009_2 x322010_2 true x322012_2 x322013_2 x322014_2 t343 t346 6 2 1 1 4 7 0) else ((round_Round_Asks.f kj2 x322000_2 x322001_2 x322002_2 x322003_2 x322004_2 x322005_2 x322006_2 t315 t318 x322009_2 x322010_2 true x322012_2 x322013_2 x322014_2 t343 t346).bind fun t352 => (ropewaylaw14_roundAlive.j1 kj2 ((t352.length : Int) != 2) x322000_2 x322001_2 x322002_2 x322003_2 x322004_2 x322005_2 x322006_2 t315 t318 x322009_2 x322010_2 true x322012_2 x322013_2 x322014_2 t343 t346 6 2 1 1 4 7 0)))) else (none))))) = some r := by rw [if_pos rfl] at H; exact H
     clear H
     have H := H1
     clear H1
     replace H := Option.bind_eq_some_iff.mp H
     obtain ⟨t343, A400, H⟩ := H
     replace H : ((book_Merge.f kj2 ([] : List (S48)) ([] : List (S48))).bind fun t346 => ((view_In.f x322005_2 x322006_2 2).bind fun t350 => (if t350 = true then ((round_Round_Done.f kj2 x322000_2 x322001_2 x322002_2 x322003_2 x322004_2 x322005_2 x322006_2 t315 t318 x322009_2 x322010_2 true x322012_2 x322013_2 x322014_2 t343 t346).bind fun t351 => (if t351 = true then (ropewaylaw14_roundAlive.j1 kj2 true x322000_2 x322001_2 x322002_2 x322003_2 x322004_2 x322005_2 x322006_2 t315 t318 x322009_2 x322010_2 true x322012_2 x322013_2 x322014_2 t343 t346 6 2 1 1 4 7 0) else ((round_Round_Asks.f kj2 x322000_2 x322001_2 x322002_2 x322003_2 x322004_2 x322005_2 x322006_2 t315 t318 x322009_2 x322010_2 true x322012_2 x322013_2 x322014_2 t343 t346).bind fun t352 => (ropewaylaw14_roundAlive.j1 kj2 ((t352.length : Int) != 2) x322000_2 x322001_2 x322002_2 x322003_2 x322004_2 x322005_2 x322006_2 t315 t318 x322009_2 x322010_2 true x322012_2 x322013_2 x322014_2 t343 t346 6 2 1 1 4 7 0)))) else (none)))) = some r := H
     have A40 := zM A400
     clear A400
     replace H := Option.bind_eq_some_iff.mp H
     obtain ⟨t346, A410, H⟩ := H
     replace H : ((view_In.f x322005_2 x322006_2 2).bind fun t350 => (if t350 = true then ((round_Round_Done.f kj2 x322000_2 x322001_2 x322002_2 x322003_2 x322004_2 x322005_2 x322006_2 t315 t318 x322009_2 x322010_2 true x322012_2 x322013_2 x322014_2 t343 t346).bind fun t351 => (if t351 = true then (ropewaylaw14_roundAlive.j1 kj2 true x322000_2 x322001_2 x322002_2 x322003_2 x322004_2 x322005_2 x322006_2 t315 t318 x322009_2 x322010_2 true x322012_2 x322013_2 x322014_2 t343 t346 6 2 1 1 4 7 0) else ((round_Round_Asks.f kj2 x322000_2 x322001_2 x322002_2 x322003_2 x322004_2 x322005_2 x322006_2 t315 t318 x322009_2 x322010_2 true x322012_2 x322013_2 x322014_2 t343 t346).bind fun t352 => (ropewaylaw14_roundAlive.j1 kj2 ((t352.length : Int) != 2) x322000_2 x322001_2 x322002_2 x322003_2 x322004_2 x322005_2 x322006_2 t315 t318 x322009_2 x322010_2 true x322012_2 x322013_2 x322014_2 t343 t346 6 2 1 1 4 7 0)))) else (none))) = some r := H
     have A41 := zM A410
     clear A410
     replace H := Option.bind_eq_some_iff.mp H
     obtain ⟨t350, A420, H⟩ := H
     replace H : (if t350 = true then ((round_Round_Done.f kj2 x322000_2 x322001_2 x322002_2 x322003_2 x322004_2 x322005_2 x322006_2 t315 t318 x322009_2 x322010_2 true x322012_2 x322013_2 x322014_2 t343 t346).bind fun t351 => (if t351 = true then (ropewaylaw14_roundAlive.j1 kj2 true x322000_2 x322001_2 x322002_2 x322003_2 x322004_2 x322005_2 x322006_2 t315 t318 x322009_2 x322010_2 true x322012_2 x322013_2 x322014_2 t343 t346 6 2 1 1 4 7 0) else ((round_Round_Asks.f kj2 x322000_2 x322001_2 x322002_2 x322003_2 x322004_2 x322005_2 x322006_2 t315 t318 x322009_2 x322010_2 true x322012_2 x322013_2 x322014_2 t343 t346).bind fun t352 => (ropewaylaw14_roundAlive.j1 kj2 ((t352.length : Int) != 2) x322000_2 x322001_2 x322002_2 x322003_2 x322004_2 x322005_2 x322006_2 t315 t318 x322009_2 x322010_2 true x322012_2 x322013_2 x322014_2 t343 t346 6 2 1 1 4 7 0)))) else (none)) = some r := H
     have A42 := zM A420
     clear A420
     by_cases c43 : t350 = true
     rotate_left
     · replace c43 := Bool.eq_false_iff.mpr c43
       subst c43
       have H1 : (none) = some r := by rw [if_neg (show ¬ (false = true) by decide)] at H; exact H
       clear H
       have H := H1
       clear H1
       exact absurd H (by simp)
     subst c43
     have H1 : ((round_Round_Done.f kj2 x322000_2 x322001_2 x322002_2 x322003_2 x322004_2 x322005_2 x322006_2 t315 t318 x322009_2 x322010_2 true x322012_2 x322013_2 x322014_2 t343 t346).bind fun t351 => (if t351 = true then (ropewaylaw14_roundAlive.j1 kj2 true x322000_2 x322001_2 x322002_2 x322003_2 x322004_2 x322005_2 x322006_2 t315 t318 x322009_2 x322010_2 true x322012_2 x322013_2 x322014_2 t343 t346 6 2 1 1 4 7 0) else ((round_Round_Asks.f kj2 x322000_2 x322001_2 x322002_2 x322003_2 x322004_2 x322005_2 x322006_2 t315 t318 x322009_2 x322010_2 true x322012_2 x322013_2 x322014_2 t343 t346).bind fun t352 => (ropewaylaw14_roundAlive.j1 kj2 ((t352.length : Int) != 2) x322000_2 x322001_2 x322002_2 x322003_2 x322004_2 x322005_2 x322006_2 t315 t318 x322009_2 x322010_2 true x322012_2 x322013_2 x322014_2 t343 t346 6 2 1 1 4 7 0)))) = some r := by rw [if_pos rfl] at H; exact H
     clear H
     have H := H1
     clear H1
     replace H := Option.bind_eq_some_iff.mp H
     obtain ⟨t351, A440, H⟩ := H
     replace H : (if t351 = true then (ropewaylaw14_roundAlive.j1 kj2 true x322000_2 x322001_2 x322002_2 x322003_2 x322004_2 x322005_2 x322006_2 t315 t318 x322009_2 x322010_2 true x322012_2 x322013_2 x322014_2 t343 t346 6 2 1 1 4 7 0) else ((round_Round_Asks.f kj2 x322000_2 x322001_2 x322002_2 x322003_2 x322004_2 x322005_2 x322006_2 t315 t318 x322009_2 x322010_2 true x322012_2 x322013_2 x322014_2 t343 t346).bind fun t352 => (ropewaylaw14_roundAlive.j1 kj2 ((t352.length : Int) != 2) x322000_2 x322001_2 x322002_2 x322003_2 x322004_2 x322005_2 x322006_2 t315 t318 x322009_2 x322010_2 true x322012_2 x322013_2 x322014_2 t343 t346 6 2 1 1 4 7 0))) = some r := H
     have A44 := zM A440
     clear A440
     by_cases c45 : t351 = true
     · subst c45
       have H1 : (ropewaylaw14_roundAlive.j1 kj2 true x322000_2 x322001_2 x322002_2 x322003_2 x322004_2 x322005_2 x322006_2 t315 t318 x322009_2 x322010_2 true x322012_2 x322013_2 x322014_2 t343 t346 6 2 1 1 4 7 0) = some r := by rw [if_pos rfl] at H; exact H
       clear H
       have H := H1
       clear H1
       have hr1 := hr1_.out
       subst hr1
       (cases kj2) <;> simp [ropewaylaw14_roundAlive.j1] at H
     replace c45 := Bool.eq_false_iff.mpr c45
     subst c45
     have H1 : ((round_Round_Asks.f kj2 x322000_2 x322001_2 x322002_2 x322003_2 x322004_2 x322005_2 x322006_2 t315 t318 x322009_2 x322010_2 true x322012_2 x322013_2 x322014_2 t343 t346).bind fun t352 => (ropewaylaw14_roundAlive.j1 kj2 ((t352.length : Int) != 2) x322000_2 x322001_2 x322002_2 x322003_2 x322004_2 x322005_2 x322006_2 t315 t318 x322009_2 x322010_2 true x322012_2 x322013_2 x322014_2 t343 t346 6 2 1 1 4 7 0)) = some r := by rw [if_neg (show ¬ (false = true) by decide)] at H; exact H
     clear H
     have H := H1
     clear H1
     replace H := Option.bind_eq_some_iff.mp H
     obtain ⟨t352, A460, H⟩ := H
     replace H : (ropewaylaw14_roundAlive.j1 kj2 ((t352.length : Int) != 2) x322000_2 x322001_2 x322002_2 x322003_2 x322004_2 x322005_2 x322006_2 t315 t318 x322009_2 x322010_2 true x322012_2 x322013_2 x322014_2 t343 t346 6 2 1 1 4 7 0) = some r := H
     have A46 := zM A460
     clear A460
     have H' := zM H
     clear H
     have hnb47 := NB326_307.out
     have hnc47 := NB307_326.out
     have hnb48 := NB326_321.out
     have hnc48 := NB321_326.out
     obtain ⟨hcz49_0, hcz49_1, hcz49_2, hcz49_3, hcz49_4, hcz49_5, hcz49_6, hcz49_7, hcz49_8⟩ := r9_ BK326.out
     obtain ⟨hfz49_0, hfz49_1, hfz49_2, hfz49_3, hfz49_4, hfz49_5, hfz49_6, hfz49_7, hfz49_8⟩ := f9_ BK326.out
     have tk50 : True := trivial
     have tk52 : True := trivial
     go_wp2_with (first | ((with_reducible refine gate_callee (f := 12) rfl ?_); clear tk50; refine goL_ (some 21) Try.func12 #[.pointer (some ⟨gb321, 0, none⟩), .agg #[.int .i64 6, .int .i64 2, .int .i64 1, .int .i64 1, .int .i64 4, .int .i64 7, .int .i64 0, .slice none 0 0, .slice none 0 0]] ?_; go_enter Try.func12, Try.ntmps12) | ((with_reducible refine gate_dst (N := 3) rfl ?_); clear tk52; (try (refine gate_guard (by rfl) ?_; dsimp only)); refine box_event ?hg (N := 3) ?hd (cs := #[.int .i64 6, .int .i64 2, .int .i64 1, .int .i64 1, .int .i64 4, .int .i64 7, .int .i64 0, .slice none 0 0, .slice none 0 0]) (t := 27) ?hr ?_; (case hd => rfl); (case hg => rfl); (case hr => first | (go_simp; done) | (go_simp; rfl)); intro gb327 hg w51 hbox hb; have n0_ := zM (Kd.R_below (by (with_reducible repeat (first | apply Kd.R_alloc | apply Kd.R_drewN | apply Kd.R_drew)); exact (Kd.R_mono (Kd.R_far (p := ⟨gb326, 8, none⟩) (Kd.R_far (p := ⟨gb326, 7, none⟩) (Kd.R_far (p := ⟨gb326, 6, none⟩) (Kd.R_far (p := ⟨gb326, 5, none⟩) (Kd.R_far (p := ⟨gb326, 4, none⟩) (Kd.R_far (p := ⟨gb326, 3, none⟩) (Kd.R_far (p := ⟨gb326, 2, none⟩) (Kd.R_far (p := ⟨gb326, 1, none⟩) (Kd.R_far (p := ⟨gb326, 0, none⟩) (Kd.R_types HO_308007.out BK326.out (by decide)) (fun _ hk => hk.2) (.int .i64 6)) (fun _ hk => hk.2) (.int .i64 2)) (fun _ hk => hk.2) (.int .i64 1)) (fun _ hk => hk.2) (.int .i64 1)) (fun _ hk => hk.2) (.int .i64 4)) (fun _ hk => hk.2) (.int .i64 7)) (fun _ hk => hk.2) (.int .i64 0)) (fun _ hk => hk.2) (.slice none 0 0)) (fun _ hk => hk.2) (.slice none 0 0)) (fun _ h_ => h_.1))) hb); have n1_ := zM (Kd.R_below (by (with_reducible repeat (first | apply Kd.R_alloc | apply Kd.R_drewN | apply Kd.R_drew)); exact (Kd.R_mono (Kd.R_far (p := ⟨gb326, 8, none⟩) (Kd.R_far (p := ⟨gb326, 7, none⟩) (Kd.R_far (p := ⟨gb326, 6, none⟩) (Kd.R_far (p := ⟨gb326, 5, none⟩) (Kd.R_far (p := ⟨gb326, 4, none⟩) (Kd.R_far (p := ⟨gb326, 3, none⟩) (Kd.R_far (p := ⟨gb326, 2, none⟩) (Kd.R_far (p := ⟨gb326, 1, none⟩) (Kd.R_far (p := ⟨gb326, 0, none⟩) (Kd.R_types HO_308008.out BK326.out (by decide)) (fun _ hk => hk.2) (.int .i64 6)) (fun _ hk => hk.2) (.int .i64 2)) (fun _ hk => hk.2) (.int .i64 1)) (fun _ hk => hk.2) (.int .i64 1)) (fun _ hk => hk.2) (.int .i64 4)) (fun _ hk => hk.2) (.int .i64 7)) (fun _ hk => hk.2) (.int .i64 0)) (fun _ hk => hk.2) (.slice none 0 0)) (fun _ hk => hk.2) (.slice none 0 0)) (fun _ h_ => h_.1))) hb); have n2_ := zM (Kd.R_below (by (with_reducible repeat (first | apply Kd.R_alloc | apply Kd.R_drewN | apply Kd.R_drew)); exact (Kd.R_mono (Kd.R_far (p := ⟨gb326, 8, none⟩) (Kd.R_far (p := ⟨gb326, 7, none⟩) (Kd.R_far (p := ⟨gb326, 6, none⟩) (Kd.R_far (p := ⟨gb326, 5, none⟩) (Kd.R_far (p := ⟨gb326, 4, none⟩) (Kd.R_far (p := ⟨gb326, 3, none⟩) (Kd.R_far (p := ⟨gb326, 2, none⟩) (Kd.R_far (p := ⟨gb326, 1, none⟩) (Kd.R_far (p := ⟨gb326, 0, none⟩) (Kd.R_types HO_322007.out BK326.out (by decide)) (fun _ hk => hk.2) (.int .i64 6)) (fun _ hk => hk.2) (.int .i64 2)) (fun _ hk => hk.2) (.int .i64 1)) (fun _ hk => hk.2) (.int .i64 1)) (fun _ hk => hk.2) (.int .i64 4)) (fun _ hk => hk.2) (.int .i64 7)) (fun _ hk => hk.2) (.int .i64 0)) (fun _ hk => hk.2) (.slice none 0 0)) (fun _ hk => hk.2) (.slice none 0 0)) (fun _ h_ => h_.1))) hb); have n3_ := zM (Kd.R_below (by (with_reducible repeat (first | apply Kd.R_alloc | apply Kd.R_drewN | apply Kd.R_drew)); exact (Kd.R_mono (Kd.R_far (p := ⟨gb326, 8, none⟩) (Kd.R_far (p := ⟨gb326, 7, none⟩) (Kd.R_far (p := ⟨gb326, 6, none⟩) (Kd.R_far (p := ⟨gb326, 5, none⟩) (Kd.R_far (p := ⟨gb326, 4, none⟩) (Kd.R_far (p := ⟨gb326, 3, none⟩) (Kd.R_far (p := ⟨gb326, 2, none⟩) (Kd.R_far (p := ⟨gb326, 1, none⟩) (Kd.R_far (p := ⟨gb326, 0, none⟩) (Kd.R_types HO_322008.out BK326.out (by decide)) (fun _ hk => hk.2) (.int .i64 6)) (fun _ hk => hk.2) (.int .i64 2)) (fun _ hk => hk.2) (.int .i64 1)) (fun _ hk => hk.2) (.int .i64 1)) (fun _ hk => hk.2) (.int .i64 4)) (fun _ hk => hk.2) (.int .i64 7)) (fun _ hk => hk.2) (.int .i64 0)) (fun _ hk => hk.2) (.slice none 0 0)) (fun _ hk => hk.2) (.slice none 0 0)) (fun _ h_ => h_.1))) hb); have n4_ := zM (blk_below (g := gb307) (o := .cells #[.int .i64 t294, .int .i64 t295, .int .i64 t296, .int .i64 t297, .int .i64 t298, .int .i64 t299, .int .i64 t300, .slice Ao6 t301.length co6, .slice Ao7 t304.length co7] 27 (0, 0)) blf_ hb); have n5_ := zM (blk_below (g := gb321) (o := .cells #[.int .i64 x322000_2, .int .i64 x322001_2, .int .i64 x322002_2, .int .i64 x322003_2, .int .i64 x322004_2, .int .i64 x322005_2, .int .i64 x322006_2, .slice Ao15 t315.length co15, .slice Ao14 t318.length co14, .bool x322009_2, .bool x322010_2, .bool false, .bool x322012_2, .bool x322013_2, .bool x322014_2, .slice none 0 0, .slice none 0 0] 71 (0, 0)) blf_ hb); have n6_ := zM (blk_below (g := gb326) (o := .cells #[.int .i64 6, .int .i64 2, .int .i64 1, .int .i64 1, .int .i64 4, .int .i64 7, .int .i64 0, .slice none 0 0, .slice none 0 0] 27 (0, 0)) (by (with_reducible repeat (first | refine zN ?_ _ | refine zD ?_ | refine zA ?_ _)); exact fx9_ BK326) hb); have n7_ := zM (zB bel_ hb); have n8_ := zM (hbox); have n9_ := zM (bs_ hg); have n10_ := zM (bs_ hg); have n11_ := zM ((by rw [hg]; exact Nat.ne_of_lt (blk_lt (g := gb307) (o := .cells #[.int .i64 t294, .int .i64 t295, .int .i64 t296, .int .i64 t297, .int .i64 t298, .int .i64 t299, .int .i64 t300, .slice Ao6 t301.length co6, .slice Ao7 t304.length co7] 27 (0, 0)) blf_) : gb307 ≠ gb327)); have n12_ := zM ((by rw [hg]; exact Nat.ne_of_gt (blk_lt (g := gb307) (o := .cells #[.int .i64 t294, .int .i64 t295, .int .i64 t296, .int .i64 t297, .int .i64 t298, .int .i64 t299, .int .i64 t300, .slice Ao6 t301.length co6, .slice Ao7 t304.length co7] 27 (0, 0)) blf_) : gb327 ≠ gb307)); have n13_ := zM ((by rw [hg]; exact Nat.ne_of_lt (blk_lt (g := gb321) (o := .cells #[.int .i64 x322000_2, .int .i64 x322001_2, .int .i64 x322002_2, .int .i64 x322003_2, .int .i64 x322004_2, .int .i64 x322005_2, .int .i64 x322006_2, .slice Ao15 t315.length co15, .slice Ao14 t318.length co14, .bool x322009_2, .bool x322010_2, .bool false, .bool x322012_2, .bool x322013_2, .bool x322014_2, .slice none 0 0, .slice none 0 0] 71 (0, 0)) blf_) : gb321 ≠ gb327)); have n14_ := zM ((by rw [hg]; exact Nat.ne_of_gt (blk_lt (g := gb321) (o := .cells #[.int .i64 x322000_2, .int .i64 x322001_2, .int .i64 x322002_2, .int .i64 x322003_2, .int .i64 x322004_2, .int .i64 x322005_2, .int .i64 x322006_2, .slice Ao15 t315.length co15, .slice Ao14 t318.length co14, .bool x322009_2, .bool x322010_2, .bool false, .bool x322012_2, .bool x322013_2, .bool x322014_2, .slice none 0 0, .slice none 0 0] 71 (0, 0)) blf_) : gb327 ≠ gb321)); have n15_ := zM ((by rw [hg]; exact Nat.ne_of_lt (blk_lt (g := gb326) (o := .cells #[.int .i64 6, .int .i64 2, .int .i64 1, .int .i64 1, .int .i64 4, .int .i64 7, .int .i64 0, .slice none 0 0, .slice none 0 0] 27 (0, 0)) (by (with_reducible repeat (first | refine zN ?_ _ | refine zD ?_ | refine zA ?_ _)); exact fx9_ BK326)) : gb326 ≠ gb327)); have n16_ := zM ((by rw [hg]; exact Nat.ne_of_gt (blk_lt (g := gb326) (o := .cells #[.int .i64 6, .int .i64 2, .int .i64 1, .int .i64 1, .int .i64 4, .int .i64 7, .int .i64 0, .slice none 0 0, .slice none 0 0] 27 (0, 0)) (by (with_reducible repeat (first | refine zN ?_ _ | refine zD ?_ | refine zA ?_ _)); exact fx9_ BK326)) : gb327 ≠ gb326)); clear HO_308007; clear HO_308008; clear HO_322007; clear HO_322008; clear BK307; clear BK321; clear BK326; clear HB; have HO_308007 := n0_; have HO_308008 := n1_; have HO_322007 := n2_; have HO_322008 := n3_; have BK307 := n4_; have BK321 := n5_; have BK326 := n6_; have HB := n7_; have BK327 := n8_; have GW327 := n9_; have GE327 := n10_; have NB307_327 := n11_; have NB327_307 := n12_; have NB321_327 := n13_; have NB327_321 := n14_; have NB326_327 := n15_; have NB327_326 := n16_; clear n0_ n1_ n2_ n3_ n4_ n5_ n6_ n7_ n8_ n9_ n10_ n11_ n12_ n13_ n14_ n15_ n16_; clear hb hbox hg))
     replace HO_308007 := zM (Kd.R_drew HO_308007.out)
     replace HO_308008 := zM (Kd.R_drew HO_308008.out)
     replace HO_322007 := zM (Kd.R_drew HO_322007.out)
     replace HO_322008 := zM (Kd.R_drew HO_322008.out)
     replace BK307 := zM (zD BK307.out)
     replace BK321 := zM (zD BK321.out)
     replace BK326 := zM (zD BK326.out)
     replace BK327 := zM (zD BK327.out)
     replace HB := zM (below_drew1 HB.out)
     refine start_ (n := 27) (S := fun w' => w'.cell? ⟨gb321, 0, none⟩ = some (.int .i64 x322000_2) ∧ w'.cell? ⟨gb321, 1, none⟩ = some (.int .i64 x322001_2) ∧ w'.cell? ⟨gb321, 2, none⟩ = some (.int .i64 x322002_2) ∧ w'.cell? ⟨gb321, 3, none⟩ = some (.int .i64 x322003_2) ∧ w'.cell? ⟨gb321, 4, none⟩ = some (.int .i64 x322004_2) ∧ w'.cell? ⟨gb321, 5, none⟩ = some (.int .i64 x322005_2) ∧ w'.cell? ⟨gb321, 6, none⟩ = some (.int .i64 x322006_2) ∧ w'.cell? ⟨gb321, 7, none⟩ = some (.slice Ao15 t315.length co15) ∧ w'.cell? ⟨gb321, 8, none⟩ = some (.slice Ao14 t318.length co14) ∧ w'.cell? ⟨gb321, 9, none⟩ = some (.bool x322009_2) ∧ w'.cell? ⟨gb321, 10, none⟩ = some (.bool x322010_2) ∧ w'.cell? ⟨gb321, 11, none⟩ = some (.bool false) ∧ w'.cell? ⟨gb321, 12, none⟩ = some (.bool x322012_2) ∧ w'.cell? ⟨gb321, 13, none⟩ = some (.bool x322013_2) ∧ w'.cell? ⟨gb321, 14, none⟩ = some (.bool x322014_2) ∧ w'.cell? ⟨gb321, 15, none⟩ = some (.slice none 0 0) ∧ w'.cell? ⟨gb321, 16, none⟩ = some (.slice none 0 0) ∧ w'.cell? ⟨gb327, 0, none⟩ = some (.int .i64 6) ∧ w'.cell? ⟨gb327, 1, none⟩ = some (.int .i64 2) ∧ w'.cell? ⟨gb327, 2, none⟩ = some (.int .i64 1) ∧ w'.cell? ⟨gb327, 3, none⟩ = some (.int .i64 1) ∧ w'.cell? ⟨gb327, 4, none⟩ = some (.int .i64 4) ∧ w'.cell? ⟨gb327, 5, none⟩ = some (.int .i64 7) ∧ w'.cell? ⟨gb327, 6, none⟩ = some (.int .i64 0) ∧ w'.cell? ⟨gb327, 7, none⟩ = some (.slice none 0 0) ∧ w'.cell? ⟨gb327, 8, none⟩ = some (.slice none 0 0)) (ds := []) #[F_, F_, F_, F_, F_, F_, F_, F_, F_, F_, F_, F_, F_, F_, F_, F_, F_, F_, F_, F_, F_, F_, F_, F_, F_, F_, F_] (by kernel_rfl) rfl rfl ⟨(zL BK321.out 0).trans rfl, (zL BK321.out 1).trans rfl, (zL BK321.out 2).trans rfl, (zL BK321.out 3).trans rfl, (zL BK321.out 4).trans rfl, (zL BK321.out 5).trans rfl, (zL BK321.out 6).trans rfl, (zL BK321.out 7).trans rfl, (zL BK321.out 8).trans rfl, (zL BK321.out 9).trans rfl, (zL BK321.out 10).trans rfl, (zL BK321.out 11).trans rfl, (zL BK321.out 12).trans rfl, (zL BK321.out 13).trans rfl, (zL BK321.out 14).trans rfl, (zL BK321.out 15).trans rfl, (zL BK321.out 16).trans rfl, (zL BK327.out 0).trans rfl, (zL BK327.out 1).trans rfl, (zL BK327.out 2).trans rfl, (zL BK327.out 3).trans rfl, (zL BK327.out 4).trans rfl, (zL BK327.out 5).trans rfl, (zL BK327.out 6).trans rfl, (zL BK327.out 7).trans rfl, (zL BK327.out 8).trans rfl⟩ (fun hHeld => ?_)
     generalize w51.drew = w53 at HO_308007 HO_308008 HO_322007 HO_322008 BK307 BK321 BK326 BK327 HB hHeld ⊢
     refine pu_ 0 5 (dm_ 27 1) ?_
     refine pu_ 1 6 (dm_ 27 3) ?_
     refine pu_ 2 7 (dm_ 27 7) ?_
     refine pu_ 3 8 (dm_ 27 15) ?_
     refine pu_ 5 10 (dm_ 27 47) ?_
     refine tk_ hHeld 4 9 (dm_ 27 63) ?_
     refine tk_ hHeld 6 11 (dm_ 27 127) ?_
     refine one_ (i := 7) (N := some 12) (dm_ 27 255) rfl rfl (by kernel_rfl) (by decide) (fun K hK => ?_)
     refine goes_ Try.func37 (by kernel_rfl) rfl #[.agg #[.int .i64 x322005_2, .int .i64 x322006_2], .int .i64 2] (by rfl) rfl rfl (by (try simp only [List.map_toArray, List.map_cons, List.map_nil]); first | done | rfl | (simp only [List.length_drop, List.length_take]; rfl)) ?_
     with_reducible refine (view_In.calls x322005_2 x322006_2 2 true _ A34.out).mono ?_
     rintro e w54 ⟨rfl, hb⟩
     refine ⟨_, rfl, ?_⟩
     replace HO_308007 := zM (Kd.R_below (rl_ HO_308007) hb)
     replace HO_308008 := zM (Kd.R_below (rl_ HO_308008) hb)
     replace HO_322007 := zM (Kd.R_below (rl_ HO_322007) hb)
     replace HO_322008 := zM (Kd.R_below (rl_ HO_322008) hb)
     replace BK307 := zM (bb_ BK307 hb)
     replace BK321 := zM (bb_ BK321 hb)
     replace BK326 := zM (bb_ BK326 hb)
     replace BK327 := zM (bb_ BK327 hb)
     replace HB := zM (zB bel_ hb)
     (try clear hb)
     (try clear hb2)
     (try clear hk)
     (try clear hi)
     refine hK.out _ _ ⟨(zL BK321.out 0).trans rfl, (zL BK321.out 1).trans rfl, (zL BK321.out 2).trans rfl, (zL BK321.out 3).trans rfl, (zL BK321.out 4).trans rfl, (zL BK321.out 5).trans rfl, (zL BK321.out 6).trans rfl, (zL BK321.out 7).trans rfl, (zL BK321.out 8).trans rfl, (zL BK321.out 9).trans rfl, (zL BK321.out 10).trans rfl, (zL BK321.out 11).trans rfl, (zL BK321.out 12).trans rfl, (zL BK321.out 13).trans rfl, (zL BK321.out 14).trans rfl, (zL BK321.out 15).trans rfl, (zL BK321.out 16).trans rfl, (zL BK327.out 0).trans rfl, (zL BK327.out 1).trans rfl, (zL BK327.out 2).trans rfl, (zL BK327.out 3).trans rfl, (zL BK327.out 4).trans rfl, (zL BK327.out 5).trans rfl, (zL BK327.out 6).trans rfl, (zL BK327.out 7).trans rfl, (zL BK327.out 8).trans rfl⟩ (fun hHeld => ?_)
     clear hK K
     refine norm_ (a' := ?_) ?_ ?_
     rotate_left
     · show Act.put _ (some 12) _ = _
       simp only [Act.put, zS, zZ, zC, i64_w, i32_w]
       rfl
     refine pu_ 8 13 (dm_ 27 511) ?_
     refine pu_ 9 14 (dm_ 27 1023) ?_
     refine pu_ 10 15 (dm_ 27 2047) ?_
     refine pu_ 11 16 (dm_ 27 4095) ?_
     refine pu_ 13 18 (dm_ 27 12287) ?_
     refine pu_ 14 19 (dm_ 27 28671) ?_
     refine tk_ hHeld 12 17 (dm_ 27 32767) ?_
     refine pu_ 15 20 (dm_ 27 65535) ?_
     refine tk_ hHeld 16 21 (dm_ 27 131071) ?_
     refine pu_ 17 22 (dm_ 27 262143) ?_
     refine pu_ 18 23 (dm_ 27 524287) ?_
     refine pu_ 19 24 (dm_ 27 1048575) ?_
     refine pu_ 20 25 (dm_ 27 2097151) ?_
     refine tk_ hHeld 21 26 (dm_ 27 4194303) ?_
     refine tk_ hHeld 23 28 (dm_ 27 12582911) ?_
     refine one_ (i := 22) (N := some 27) (dm_ 27 16777215) rfl rfl (by kernel_rfl) (by decide) (fun K hK => ?_)
     refine goes_ Try.func41 (by kernel_rfl) rfl #[.pointer (some ⟨gb321, 0, none⟩), .int .i64 2] (by rfl) rfl rfl (by (try simp only [List.map_toArray, List.map_cons, List.map_nil]); first | done | rfl | (simp only [List.length_drop, List.length_take]; rfl)) ?_
     refine (round_Round_to.calls gb321 x322000_2 x322001_2 x322002_2 x322003_2 x322004_2 x322005_2 x322006_2 Ao15 co15 t315 Ao14 co14 t318 x322009_2 x322010_2 false x322012_2 x322013_2 x322014_2 none 0 ([] : List (S43)) none 0 ([] : List (S48)) 2 t329 t330 t331 t332 t333 t334 t335 t336 t339 _ ?side1 ?side2 ?side3 ?side4 ?side5 ?side6 ?side7 ?side8 ?side9 A37.out).mono ?_
     (case side1 => repeat (first | exact (Kd.R_reads' HO_322007.out).2.2 | (with_reducible refine Kd.C_alloc ?_ _) | (with_reducible refine Kd.C_drewN ?_ _) | (with_reducible refine Kd.C_drew ?_)))
     (case side2 => exact (Kd.R_reads' HO_322007.out).2.1)
     (case side3 => repeat (first | exact (Kd.R_reads' HO_322008.out).2.2 | (with_reducible refine Kd.C_alloc ?_ _) | (with_reducible refine Kd.C_drewN ?_ _) | (with_reducible refine Kd.C_drew ?_)))
     (case side4 => exact (Kd.R_reads' HO_322008.out).2.1)
     (case side5 => exact Kd.C_nil _ _)
     (case side6 => exact Nat.le_refl _)
     (case side7 => exact Kd.C_nil _ _)
     (case side8 => exact Nat.le_refl _)
     (case side9 => exact blf_)
     rintro e w55 ⟨v337, v340, rfl, ho0, ho1, hb⟩
     refine ⟨_, rfl, ?_⟩
     have HO338 := zM (Kd.R_lower (Kd.R_new' (Kd.R_new' ho0 (Kd.R_lt (rl_ HO_308007))) (Kd.R_lt (rl_ HO_322007))) (below_size bel_))
     replace HO_308007 := zM (Kd.R_elder' (rl_ HO_308007) (Kd.R_base ho0) hb)
     replace HO_322007 := zM (Kd.R_elder' (rl_ HO_322007) (Kd.R_base ho0) hb)
     have HO341 := zM (Kd.R_lower (Kd.R_new' (Kd.R_new' ho1 (Kd.R_lt (rl_ HO_308008))) (Kd.R_lt (rl_ HO_322008))) (below_size bel_))
     replace HO_308008 := zM (Kd.R_elder' (rl_ HO_308008) (Kd.R_base ho1) hb)
     replace HO_322008 := zM (Kd.R_elder' (rl_ HO_322008) (Kd.R_base ho1) hb)
     replace BK307 := zM (bb_ BK307 hb)
     replace BK321 := zM (bb_ BK321 hb)
     replace BK326 := zM (bb_ BK326 hb)
     replace BK327 := zM (bb_ BK327 hb)
     replace HB := zM (zB bel_ hb)
     (try clear hb)
     (try clear hb2)
     (try clear hk)
     (try clear hi)
     (try clear ho0)
     (try clear ho1)
     obtain ⟨Ao56, co56, eo56⟩ := Kd.R_slice HO338.out
     (first | subst eo56 | (injection eo56 with f1_ f2_ f3_; have f4_ := f1_.symm; have f5_ := f3_.symm; clear f1_ f2_ f3_; subst f4_; subst f5_))
     obtain ⟨Ao57, co57, eo57⟩ := Kd.R_slice HO341.out
     (first | subst eo57 | (injection eo57 with f1_ f2_ f3_; have f4_ := f1_.symm; have f5_ := f3_.symm; clear f1_ f2_ f3_; subst f4_; subst f5_))
     refine hK.out _ _ ⟨(zL BK321.out 0).trans rfl, (zL BK321.out 1).trans rfl, (zL BK321.out 2).trans rfl, (zL BK321.out 3).trans rfl, (zL BK321.out 4).trans rfl, (zL BK321.out 5).trans rfl, (zL BK321.out 6).trans rfl, (zL BK321.out 7).trans rfl, (zL BK321.out 8).trans rfl, (zL BK321.out 9).trans rfl, (zL BK321.out 10).trans rfl, (zL BK321.out 11).trans rfl, (zL BK321.out 12).trans rfl, (zL BK321.out 13).trans rfl, (zL BK321.out 14).trans rfl, (zL BK321.out 15).trans rfl, (zL BK321.out 16).trans rfl, (zL BK327.out 0).trans rfl, (zL BK327.out 1).trans rfl, (zL BK327.out 2).trans rfl, (zL BK327.out 3).trans rfl, (zL BK327.out 4).trans rfl, (zL BK327.out 5).trans rfl, (zL BK327.out 6).trans rfl, (zL BK327.out 7).trans rfl, (zL BK327.out 8).trans rfl⟩ (fun hHeld => ?_)
     clear hK K
     refine norm_ (a' := ?_) ?_ ?_
     rotate_left
     · show Act.put _ (some 27) _ = _
       simp only [Act.put, zS, zZ, zC, i64_w, i32_w]
       rfl
     refine one_ (i := 24) (N := some 29) (dm_ 27 33554431) rfl rfl (by kernel_rfl) (by decide) (fun K hK => ?_)
     refine goes_ Try.func40 (by kernel_rfl) rfl #[.agg #[.int .i64 t329, .int .i64 t330, .int .i64 t331, .int .i64 t332, .int .i64 t333, .int .i64 t334, .int .i64 t335, .slice Ao56 t336.length co56, .slice Ao57 t339.length co57], .agg #[.int .i64 6, .int .i64 2, .int .i64 1, .int .i64 1, .int .i64 4, .int .i64 7, .int .i64 0, .slice none 0 0, .slice none 0 0]] (by rfl) rfl rfl (by (try simp only [List.map_toArray, List.map_cons, List.map_nil]); first | done | rfl | (simp only [List.length_drop, List.length_take]; rfl)) ?_
     refine (msg_Answers.calls t329 t330 t331 t332 t333 t334 t335 _ _ t336 _ _ t339 6 2 1 1 4 7 0 _ _ ([] : List (S43)) _ _ ([] : List (S48)) true _ ?side1 ?side2 ?side3 ?side4 ?side5 ?side6 ?side7 ?side8 A38.out).mono ?_
     (case side1 => repeat (first | exact (Kd.R_reads' HO338.out).2.2 | (with_reducible refine Kd.C_alloc ?_ _) | (with_reducible refine Kd.C_drewN ?_ _) | (with_reducible refine Kd.C_drew ?_)))
     (case side2 => exact (Kd.R_reads' HO338.out).2.1)
     (case side3 => repeat (first | exact (Kd.R_reads' HO341.out).2.2 | (with_reducible refine Kd.C_alloc ?_ _) | (with_reducible refine Kd.C_drewN ?_ _) | (with_reducible refine Kd.C_drew ?_)))
     (case side4 => exact (Kd.R_reads' HO341.out).2.1)
     (case side5 => exact Kd.C_nil _ _)
     (case side6 => exact Nat.le_refl _)
     (case side7 => exact Kd.C_nil _ _)
     (case side8 => exact Nat.le_refl _)
     rintro e w58 ⟨rfl, hb⟩
     refine ⟨_, rfl, ?_⟩
     replace HO_308007 := zM (Kd.R_below (rl_ HO_308007) hb)
     replace HO_308008 := zM (Kd.R_below (rl_ HO_308008) hb)
     replace HO_322007 := zM (Kd.R_below (rl_ HO_322007) hb)
     replace HO_322008 := zM (Kd.R_below (rl_ HO_322008) hb)
     replace HO338 := zM (Kd.R_below (rl_ HO338) hb)
     replace HO341 := zM (Kd.R_below (rl_ HO341) hb)
     replace BK307 := zM (bb_ BK307 hb)
     replace BK321 := zM (bb_ BK321 hb)
     replace BK326 := zM (bb_ BK326 hb)
     replace BK327 := zM (bb_ BK327 hb)
     replace HB := zM (zB bel_ hb)
     (try clear hb)
     (try clear hb2)
     (try clear hk)
     (try clear hi)
     refine hK.out _ _ ⟨(zL BK321.out 0).trans rfl, (zL BK321.out 1).trans rfl, (zL BK321.out 2).trans rfl, (zL BK321.out 3).trans rfl, (zL BK321.out 4).trans rfl, (zL BK321.out 5).trans rfl, (zL BK321.out 6).trans rfl, (zL BK321.out 7).trans rfl, (zL BK321.out 8).trans rfl, (zL BK321.out 9).trans rfl, (zL BK321.out 10).trans rfl, (zL BK321.out 11).trans rfl, (zL BK321.out 12).trans rfl, (zL BK321.out 13).trans rfl, (zL BK321.out 14).trans rfl, (zL BK321.out 15).trans rfl, (zL BK321.out 16).trans rfl, (zL BK327.out 0).trans rfl, (zL BK327.out 1).trans rfl, (zL BK327.out 2).trans rfl, (zL BK327.out 3).trans rfl, (zL BK327.out 4).trans rfl, (zL BK327.out 5).trans rfl, (zL BK327.out 6).trans rfl, (zL BK327.out 7).trans rfl, (zL BK327.out 8).trans rfl⟩ (fun hHeld => ?_)
     clear hK K
     refine norm_ (a' := ?_) ?_ ?_
     rotate_left
     · show Act.put _ (some 29) _ = _
       simp only [Act.put, zS, zZ, zC, i64_w, i32_w]
       rfl
     refine pu_ 25 30 (dm_ 27 67108863) ?_
     refine pu_ 26 31 (dm_ 27 134217727) ?_
     refine done_ (by kernel_rfl) ?_
     go_wp2
     replace HO_308007 := zM (Kd.R_drew HO_308007.out)
     replace HO_308008 := zM (Kd.R_drew HO_308008.out)
     replace HO_322007 := zM (Kd.R_drew HO_322007.out)
     replace HO_322008 := zM (Kd.R_drew HO_322008.out)
     replace HO338 := zM (Kd.R_drew HO338.out)
     replace HO341 := zM (Kd.R_drew HO341.out)
     replace BK307 := zM (zD BK307.out)
     replace BK321 := zM (zD BK321.out)
     replace BK326 := zM (zD BK326.out)
     replace BK327 := zM (zD BK327.out)
     replace HB := zM (below_drew1 HB.out)
     refine start_ (n := 7) (S := fun w' => w'.cell? ⟨gb327, 0, none⟩ = some (.int .i64 6) ∧ w'.cell? ⟨gb327, 1, none⟩ = some (.int .i64 2) ∧ w'.cell? ⟨gb327, 2, none⟩ = some (.int .i64 1) ∧ w'.cell? ⟨gb327, 3, none⟩ = some (.int .i64 1) ∧ w'.cell? ⟨gb327, 4, none⟩ = some (.int .i64 4) ∧ w'.cell? ⟨gb327, 5, none⟩ = some (.int .i64 7) ∧ w'.cell? ⟨gb327, 6, none⟩ = some (.int .i64 0) ∧ w'.cell? ⟨gb327, 7, none⟩ = some (.slice none 0 0) ∧ w'.cell? ⟨gb327, 8, none⟩ = some (.slice none 0 0)) (ds := []) #[F_, F_, F_, F_, F_, F_, F_] (by kernel_rfl) rfl rfl ⟨(zL BK327.out 0).trans rfl, (zL BK327.out 1).trans rfl, (zL BK327.out 2).trans rfl, (zL BK327.out 3).trans rfl, (zL BK327.out 4).trans rfl, (zL BK327.out 5).trans rfl, (zL BK327.out 6).trans rfl, (zL BK327.out 7).trans rfl, (zL BK327.out 8).trans rfl⟩ (fun hHeld => ?_)
     generalize w58.drew = w59 at HO_308007 HO_308008 HO_322007 HO_322008 HO338 HO341 BK307 BK321 BK326 BK327 HB hHeld ⊢
     refine pu_ 0 32 (dm_ 7 1) ?_
     refine pu_ 1 33 (dm_ 7 3) ?_
     refine pu_ 3 35 (dm_ 7 11) ?_
     refine pu_ 4 36 (dm_ 7 27) ?_
     refine tk_ hHeld 2 34 (dm_ 7 31) ?_
     refine pu_ 5 37 (dm_ 7 63) ?_
     refine one_ (i := 6) (N := none) (dm_ 7 127) rfl rfl (by kernel_rfl) (by decide) (fun K hK => ?_)
     have hs60 : w59.cell? ⟨gb321, 11, none⟩ = some (.bool false) := (zL BK321.out 11).trans rfl
     have hfs60 := zF BK321.out 11
     have hns60_0 := NB307_321.out
     have hns60_2 := NB326_321.out
     have hns60_3 := NB327_321.out
     have hms60_0 := NB321_307.out
     have hms60_2 := NB321_326.out
     have hms60_3 := NB321_327.out
     refine skip_ (w1 := ?_) (by rfl) rfl ?_ ?_
     rotate_left
     · go_simp
       rfl
     refine hK.out _ _ ⟨((cell_far (p := ⟨gb321, _, none⟩) NB327_321.out _).trans (hHeld.1)), ((cell_far (p := ⟨gb321, _, none⟩) NB327_321.out _).trans (hHeld.2.1)), ((cell_far (p := ⟨gb321, _, none⟩) NB327_321.out _).trans (hHeld.2.2.1)), ((cell_far (p := ⟨gb321, _, none⟩) NB327_321.out _).trans (hHeld.2.2.2.1)), ((cell_far (p := ⟨gb321, _, none⟩) NB327_321.out _).trans (hHeld.2.2.2.2.1)), ((cell_far (p := ⟨gb321, _, none⟩) NB327_321.out _).trans (hHeld.2.2.2.2.2.1)), ((cell_far (p := ⟨gb321, _, none⟩) NB327_321.out _).trans (hHeld.2.2.2.2.2.2.1)), ((cell_far (p := ⟨gb321, _, none⟩) NB327_321.out _).trans (hHeld.2.2.2.2.2.2.2.1)), ((cell_far (p := ⟨gb321, _, none⟩) NB327_321.out _).trans (hHeld.2.2.2.2.2.2.2.2))⟩ (fun hHeld => ?_)
     clear hK K
     refine done_ (by kernel_rfl) ?_
     go_wp2
     have n0_ : Aside0 (Kd.R k43 43 (w59.setCell ⟨gb321, 11, none⟩ (.bool true)) w.heap.size (fun k_ => some k_ ≠ (.slice Ao15 t315.length co15 : Value).ownBlock ∧ some k_ ≠ (.slice Ao56 t336.length co56 : Value).ownBlock) (.slice Ao6 t301.length co6) t301) := ⟨by (with_reducible repeat (first | apply Kd.R_alloc | apply Kd.R_drewN | apply Kd.R_drew)); exact Kd.R_mono (Kd.R_far (p := ⟨gb321, 11, none⟩) (Kd.R_types HO_308007.out BK321.out (by decide)) (fun _ hk => hk.2) (.bool true)) (fun _ hk => ⟨hk.1.1, hk.1.2⟩)⟩
     have n1_ : Aside0 (Kd.R k48 48 (w59.setCell ⟨gb321, 11, none⟩ (.bool true)) w.heap.size (fun k_ => some k_ ≠ (.slice Ao14 t318.length co14 : Value).ownBlock ∧ some k_ ≠ (.slice Ao57 t339.length co57 : Value).ownBlock) (.slice Ao7 t304.length co7) t304) := ⟨by (with_reducible repeat (first | apply Kd.R_alloc | apply Kd.R_drewN | apply Kd.R_drew)); exact Kd.R_mono (Kd.R_far (p := ⟨gb321, 11, none⟩) (Kd.R_types HO_308008.out BK321.out (by decide)) (fun _ hk => hk.2) (.bool true)) (fun _ hk => ⟨hk.1.1, hk.1.2⟩)⟩
     have n2_ : Aside0 (Kd.R k43 43 (w59.setCell ⟨gb321, 11, none⟩ (.bool true)) w.heap.size (fun k_ => some k_ ≠ (.slice Ao6 t301.length co6 : Value).ownBlock ∧ some k_ ≠ (.slice Ao56 t336.length co56 : Value).ownBlock) (.slice Ao15 t315.length co15) t315) := ⟨by (with_reducible repeat (first | apply Kd.R_alloc | apply Kd.R_drewN | apply Kd.R_drew)); exact Kd.R_mono (Kd.R_far (p := ⟨gb321, 11, none⟩) (Kd.R_types HO_322007.out BK321.out (by decide)) (fun _ hk => hk.2) (.bool true)) (fun _ hk => ⟨hk.1.1, hk.1.2⟩)⟩
     have n3_ : Aside0 (Kd.R k48 48 (w59.setCell ⟨gb321, 11, none⟩ (.bool true)) w.heap.size (fun k_ => some k_ ≠ (.slice Ao7 t304.length co7 : Value).ownBlock ∧ some k_ ≠ (.slice Ao57 t339.length co57 : Value).ownBlock) (.slice Ao14 t318.length co14) t318) := ⟨by (with_reducible repeat (first | apply Kd.R_alloc | apply Kd.R_drewN | apply Kd.R_drew)); exact Kd.R_mono (Kd.R_far (p := ⟨gb321, 11, none⟩) (Kd.R_types HO_322008.out BK321.out (by decide)) (fun _ hk => hk.2) (.bool true)) (fun _ hk => ⟨hk.1.1, hk.1.2⟩)⟩
     have n4_ : Aside0 (Kd.R k43 43 (w59.setCell ⟨gb321, 11, none⟩ (.bool true)) w.heap.size (fun k_ => some k_ ≠ (.slice Ao6 t301.length co6 : Value).ownBlock ∧ some k_ ≠ (.slice Ao15 t315.length co15 : Value).ownBlock) (.slice Ao56 t336.length co56) t336) := ⟨by (with_reducible repeat (first | apply Kd.R_alloc | apply Kd.R_drewN | apply Kd.R_drew)); exact Kd.R_mono (Kd.R_far (p := ⟨gb321, 11, none⟩) (Kd.R_types HO338.out BK321.out (by decide)) (fun _ hk => hk.2) (.bool true)) (fun _ hk => ⟨hk.1.1.2, hk.1.2⟩)⟩
     have n5_ : Aside0 (Kd.R k48 48 (w59.setCell ⟨gb321, 11, none⟩ (.bool true)) w.heap.size (fun k_ => some k_ ≠ (.slice Ao7 t304.length co7 : Value).ownBlock ∧ some k_ ≠ (.slice Ao14 t318.length co14 : Value).ownBlock) (.slice Ao57 t339.length co57) t339) := ⟨by (with_reducible repeat (first | apply Kd.R_alloc | apply Kd.R_drewN | apply Kd.R_drew)); exact Kd.R_mono (Kd.R_far (p := ⟨gb321, 11, none⟩) (Kd.R_types HO341.out BK321.out (by decide)) (fun _ hk => hk.2) (.bool true)) (fun _ hk => ⟨hk.1.1.2, hk.1.2⟩)⟩
     have n6_ : Aside0 ((w59.setCell ⟨gb321, 11, none⟩ (.bool true)).heap[gb307]? = some (.cells #[.int .i64 t294, .int .i64 t295, .int .i64 t296, .int .i64 t297, .int .i64 t298, .int .i64 t299, .int .i64 t300, .slice Ao6 t301.length co6, .slice Ao7 t304.length co7] 27 (0, 0))) := ⟨blf_⟩
     have n7_ : Aside0 ((w59.setCell ⟨gb321, 11, none⟩ (.bool true)).heap[gb321]? = some (.cells #[.int .i64 x322000_2, .int .i64 x322001_2, .int .i64 x322002_2, .int .i64 x322003_2, .int .i64 x322004_2, .int .i64 x322005_2, .int .i64 x322006_2, .slice Ao15 t315.length co15, .slice Ao14 t318.length co14, .bool x322009_2, .bool x322010_2, .bool true, .bool x322012_2, .bool x322013_2, .bool x322014_2, .slice none 0 0, .slice none 0 0] 71 (0, 0))) := ⟨by (with_reducible repeat (first | refine zN ?_ _ | refine zD ?_ | refine zA ?_ _)); refine blk_put (cs := #[.int .i64 x322000_2, .int .i64 x322001_2, .int .i64 x322002_2, .int .i64 x322003_2, .int .i64 x322004_2, .int .i64 x322005_2, .int .i64 x322006_2, .slice Ao15 t315.length co15, .slice Ao14 t318.length co14, .bool x322009_2, .bool x322010_2, .bool false, .bool x322012_2, .bool x322013_2, .bool x322014_2, .slice none 0 0, .slice none 0 0]) ?_ 11 _ rfl; (with_reducible repeat (first | refine zN ?_ _ | refine zD ?_ | refine zA ?_ _)); exact BK321.out⟩
     have n8_ : Aside0 ((w59.setCell ⟨gb321, 11, none⟩ (.bool true)).heap[gb326]? = some (.cells #[.int .i64 6, .int .i64 2, .int .i64 1, .int .i64 1, .int .i64 4, .int .i64 7, .int .i64 0, .slice none 0 0, .slice none 0 0] 27 (0, 0))) := ⟨blf_⟩
     have n9_ : Aside0 ((w59.setCell ⟨gb321, 11, none⟩ (.bool true)).heap[gb327]? = some (.cells #[.int .i64 6, .int .i64 2, .int .i64 1, .int .i64 1, .int .i64 4, .int .i64 7, .int .i64 0, .slice none 0 0, .slice none 0 0] 27 (0, 0))) := ⟨blf_⟩
     have n10_ : Aside0 (Below w.heap.size w (w59.setCell ⟨gb321, 11, none⟩ (.bool true))) := ⟨bel_⟩
     (try clear HO_308007)
     (try clear HO_308008)
     (try clear HO_322007)
     (try clear HO_322008)
     (try clear HO338)
     (try clear HO341)
     (try clear BK307)
     (try clear BK321)
     (try clear BK326)
     (try clear BK327)
     (try clear HB)
     generalize (w59.setCell ⟨gb321, 11, none⟩ (.bool true)) = w61 at n0_ n1_ n2_ n3_ n4_ n5_ n6_ n7_ n8_ n9_ n10_ ⊢
     have HO_308007 := n0_
     have HO_308008 := n1_
     have HO_322007 := n2_
     have HO_322008 := n3_
     have HO338 := n4_
     have HO341 := n5_
     have BK307 := n6_
     have BK321 := n7_
     have BK326 := n8_
     have BK327 := n9_
     have HB := n10_
     clear n0_ n1_ n2_ n3_ n4_ n5_ n6_ n7_ n8_ n9_ n10_
     replace HO_308007 := zM (Kd.R_drew HO_308007.out)
     replace HO_308008 := zM (Kd.R_drew HO_308008.out)
     replace HO_322007 := zM (Kd.R_drew HO_322007.out)
     replace HO_322008 := zM (Kd.R_drew HO_322008.out)
     replace HO338 := zM (Kd.R_drew HO338.out)
     replace HO341 := zM (Kd.R_drew HO341.out)
     replace BK307 := zM (zD BK307.out)
     replace BK321 := zM (zD BK321.out)
     replace BK326 := zM (zD BK326.out)
     replace BK327 := zM (zD BK327.out)
     replace HB := zM (below_drew1 HB.out)
     refine start_ (n := 11) (S := fun w' => w'.cell? ⟨gb321, 0, none⟩ = some (.int .i64 x322000_2) ∧ w'.cell? ⟨gb321, 1, none⟩ = some (.int .i64 x322001_2) ∧ w'.cell? ⟨gb321, 2, none⟩ = some (.int .i64 x322002_2) ∧ w'.cell? ⟨gb321, 3, none⟩ = some (.int .i64 x322003_2) ∧ w'.cell? ⟨gb321, 4, none⟩ = some (.int .i64 x322004_2) ∧ w'.cell? ⟨gb321, 5, none⟩ = some (.int .i64 x322005_2) ∧ w'.cell? ⟨gb321, 6, none⟩ = some (.int .i64 x322006_2) ∧ w'.cell? ⟨gb321, 7, none⟩ = some (.slice Ao15 t315.length co15) ∧ w'.cell? ⟨gb321, 8, none⟩ = some (.slice Ao14 t318.length co14) ∧ w'.cell? ⟨gb321, 9, none⟩ = some (.bool x322009_2) ∧ w'.cell? ⟨gb321, 10, none⟩ = some (.bool x322010_2) ∧ w'.cell? ⟨gb321, 11, none⟩ = some (.bool true) ∧ w'.cell? ⟨gb321, 12, none⟩ = some (.bool x322012_2) ∧ w'.cell? ⟨gb321, 13, none⟩ = some (.bool x322013_2) ∧ w'.cell? ⟨gb321, 14, none⟩ = some (.bool x322014_2) ∧ w'.cell? ⟨gb321, 15, none⟩ = some (.slice none 0 0) ∧ w'.cell? ⟨gb321, 16, none⟩ = some (.slice none 0 0) ∧ w'.cell? ⟨gb327, 0, none⟩ = some (.int .i64 6) ∧ w'.cell? ⟨gb327, 1, none⟩ = some (.int .i64 2) ∧ w'.cell? ⟨gb327, 2, none⟩ = some (.int .i64 1) ∧ w'.cell? ⟨gb327, 3, none⟩ = some (.int .i64 1) ∧ w'.cell? ⟨gb327, 4, none⟩ = some (.int .i64 4) ∧ w'.cell? ⟨gb327, 5, none⟩ = some (.int .i64 7) ∧ w'.cell? ⟨gb327, 6, none⟩ = some (.int .i64 0) ∧ w'.cell? ⟨gb327, 7, none⟩ = some (.slice none 0 0) ∧ w'.cell? ⟨gb327, 8, none⟩ = some (.slice none 0 0)) (ds := [10]) #[F_, F_, F_, F_, F_, F_, F_, F_, F_, F_, F_] (by kernel_rfl) rfl rfl ⟨(zL BK321.out 0).trans rfl, (zL BK321.out 1).trans rfl, (zL BK321.out 2).trans rfl, (zL BK321.out 3).trans rfl, (zL BK321.out 4).trans rfl, (zL BK321.out 5).trans rfl, (zL BK321.out 6).trans rfl, (zL BK321.out 7).trans rfl, (zL BK321.out 8).trans rfl, (zL BK321.out 9).trans rfl, (zL BK321.out 10).trans rfl, (zL BK321.out 11).trans rfl, (zL BK321.out 12).trans rfl, (zL BK321.out 13).trans rfl, (zL BK321.out 14).trans rfl, (zL BK321.out 15).trans rfl, (zL BK321.out 16).trans rfl, (zL BK327.out 0).trans rfl, (zL BK327.out 1).trans rfl, (zL BK327.out 2).trans rfl, (zL BK327.out 3).trans rfl, (zL BK327.out 4).trans rfl, (zL BK327.out 5).trans rfl, (zL BK327.out 6).trans rfl, (zL BK327.out 7).trans rfl, (zL BK327.out 8).trans rfl⟩ (fun hHeld => ?_)
     generalize w61.drew = w62 at HO_308007 HO_308008 HO_322007 HO_322008 HO338 HO341 BK307 BK321 BK326 BK327 HB hHeld ⊢
     refine pu_ 0 38 (dm_ 11 1) ?_
     refine pu_ 1 39 (dm_ 11 3) ?_
     refine pu_ 2 40 (dm_ 11 7) ?_
     refine pu_ 3 41 (dm_ 11 15) ?_
     refine pu_ 5 43 (dm_ 11 47) ?_
     refine tk_ hHeld 4 42 (dm_ 11 63) ?_
     refine tk_ hHeld 6 44 (dm_ 11 127) ?_
     refine one_ (i := 7) (N := some 45) (dm_ 11 255) rfl rfl (by kernel_rfl) (by decide) (fun K hK => ?_)
     refine goes_ Try.func42 (by kernel_rfl) rfl #[.slice none 0 0, .slice none 0 0] (by rfl) rfl rfl (by (try simp only [List.map_toArray, List.map_cons, List.map_nil]); first | done | rfl | (simp only [List.length_drop, List.length_take]; rfl)) ?_
     refine (cells_Merge.calls kj2 (fun k_ => False) _ _ ([] : List (S43)) _ _ ([] : List (S43)) t343 _ ?side1 ?side2 ?side3 A40.out).mono ?_
     (case side1 => exact Kd.V_nil _ _ _ _ _)
     (case side2 => exact Kd.C_nil _ _)
     (case side3 => exact Nat.le_refl _)
     rintro e w63 ⟨v344, rfl, ho0, hb⟩
     refine ⟨_, rfl, ?_⟩
     replace HO_308008 := zM (Kd.R_below (rl_ HO_308008) hb)
     replace HO_322008 := zM (Kd.R_below (rl_ HO_322008) hb)
     replace HO341 := zM (Kd.R_below (rl_ HO341) hb)
     have HO345 := zM (Kd.R_lower (Kd.R_new' (Kd.R_new' (Kd.R_new' (Kd.R_mono (ok' := fun k_ => True) ho0 (fun _ hk_ => trivial)) (Kd.R_lt (rl_ HO_308007))) (Kd.R_lt (rl_ HO_322007))) (Kd.R_lt (rl_ HO338))) (below_size bel_))
     replace HO_308007 := zM (Kd.R_elder' (rl_ HO_308007) (Kd.R_base ho0) hb)
     replace HO_322007 := zM (Kd.R_elder' (rl_ HO_322007) (Kd.R_base ho0) hb)
     replace HO338 := zM (Kd.R_elder' (rl_ HO338) (Kd.R_base ho0) hb)
     replace BK307 := zM (bb_ BK307 hb)
     replace BK321 := zM (bb_ BK321 hb)
     replace BK326 := zM (bb_ BK326 hb)
     replace BK327 := zM (bb_ BK327 hb)
     replace HB := zM (zB bel_ hb)
     (try clear hb)
     (try clear hb2)
     (try clear hk)
     (try clear hi)
     (try clear ho0)
     obtain ⟨Ao64, co64, eo64⟩ := Kd.R_slice HO345.out
     (first | subst eo64 | (injection eo64 with f1_ f2_ f3_; have f4_ := f1_.symm; have f5_ := f3_.symm; clear f1_ f2_ f3_; subst f4_; subst f5_))
     refine hK.out _ _ ⟨(zL BK321.out 0).trans rfl, (zL BK321.out 1).trans rfl, (zL BK321.out 2).trans rfl, (zL BK321.out 3).trans rfl, (zL BK321.out 4).trans rfl, (zL BK321.out 5).trans rfl, (zL BK321.out 6).trans rfl, (zL BK321.out 7).trans rfl, (zL BK321.out 8).trans rfl, (zL BK321.out 9).trans rfl, (zL BK321.out 10).trans rfl, (zL BK321.out 11).trans rfl, (zL BK321.out 12).trans rfl, (zL BK321.out 13).trans rfl, (zL BK321.out 14).trans rfl, (zL BK321.out 15).trans rfl, (zL BK321.out 16).trans rfl, (zL BK327.out 0).trans rfl, (zL BK327.out 1).trans rfl, (zL BK327.out 2).trans rfl, (zL BK327.out 3).trans rfl, (zL BK327.out 4).trans rfl, (zL BK327.out 5).trans rfl, (zL BK327.out 6).trans rfl, (zL BK327.out 7).trans rfl, (zL BK327.out 8).trans rfl⟩ (fun hHeld => ?_)
     clear hK K
     refine norm_ (a' := ?_) ?_ ?_
     rotate_left
     · show Act.put _ (some 45) _ = _
       simp only [Act.put, zS, zZ, zC, i64_w, i32_w]
       rfl
     refine pu_ 8 46 (dm_ 11 511) ?_
     refine pu_ 9 47 (dm_ 11 1023) ?_
     refine last_ (i := 10) (N := none) #[T_, T_, T_, T_, T_, T_, T_, T_, T_, T_, T_] rfl rfl (by kernel_rfl) (by decide) (fun K hK => ?_)
     have hs65 : w63.cell? ⟨gb321, 15, none⟩ = some (.slice none 0 0) := (zL BK321.out 15).trans rfl
     have hfs65 := zF BK321.out 15
     have hns65_0 := NB307_321.out
     have hns65_2 := NB326_321.out
     have hns65_3 := NB327_321.out
     have hms65_0 := NB321_307.out
     have hms65_2 := NB321_326.out
     have hms65_3 := NB321_327.out
     refine skip_ (w1 := ?_) (by rfl) rfl ?_ ?_
     rotate_left
     · go_simp
       rfl
     refine hK.out _ _ ?_
     clear hK K
     refine done_ (by kernel_rfl) ?_
     go_wp2
     have n0_ : Aside0 (Kd.R k43 43 (w63.setCell ⟨gb321, 15, none⟩ (.slice Ao64 t343.length co64)) w.heap.size (fun k_ => some k_ ≠ (.slice Ao15 t315.length co15 : Value).ownBlock ∧ some k_ ≠ (.slice Ao56 t336.length co56 : Value).ownBlock ∧ some k_ ≠ (.slice Ao64 t343.length co64 : Value).ownBlock) (.slice Ao6 t301.length co6) t301) := ⟨by (with_reducible repeat (first | apply Kd.R_alloc | apply Kd.R_drewN | apply Kd.R_drew)); exact Kd.R_mono (Kd.R_far (p := ⟨gb321, 15, none⟩) (Kd.R_types HO_308007.out BK321.out (by decide)) (fun _ hk => hk.2) (.slice Ao64 t343.length co64)) (fun _ hk => ⟨hk.1.1.1, ⟨hk.1.1.2, hk.1.2⟩⟩)⟩
     have n1_ : Aside0 (Kd.R k48 48 (w63.setCell ⟨gb321, 15, none⟩ (.slice Ao64 t343.length co64)) w.heap.size (fun k_ => some k_ ≠ (.slice Ao14 t318.length co14 : Value).ownBlock ∧ some k_ ≠ (.slice Ao57 t339.length co57 : Value).ownBlock) (.slice Ao7 t304.length co7) t304) := ⟨by (with_reducible repeat (first | apply Kd.R_alloc | apply Kd.R_drewN | apply Kd.R_drew)); exact Kd.R_mono (Kd.R_far (p := ⟨gb321, 15, none⟩) (Kd.R_types HO_308008.out BK321.out (by decide)) (fun _ hk => hk.2) (.slice Ao64 t343.length co64)) (fun _ hk => ⟨hk.1.1, hk.1.2⟩)⟩
     have n2_ : Aside0 (Kd.R k43 43 (w63.setCell ⟨gb321, 15, none⟩ (.slice Ao64 t343.length co64)) w.heap.size (fun k_ => some k_ ≠ (.slice Ao6 t301.length co6 : Value).ownBlock ∧ some k_ ≠ (.slice Ao56 t336.length co56 : Value).ownBlock ∧ some k_ ≠ (.slice Ao64 t343.length co64 : Value).ownBlock) (.slice Ao15 t315.length co15) t315) := ⟨by (with_reducible repeat (first | apply Kd.R_alloc | apply Kd.R_drewN | apply Kd.R_drew)); exact Kd.R_mono (Kd.R_far (p := ⟨gb321, 15, none⟩) (Kd.R_types HO_322007.out BK321.out (by decide)) (fun _ hk => hk.2) (.slice Ao64 t343.length co64)) (fun _ hk => ⟨hk.1.1.1, ⟨hk.1.1.2, hk.1.2⟩⟩)⟩
     have n3_ : Aside0 (Kd.R k48 48 (w63.setCell ⟨gb321, 15, none⟩ (.slice Ao64 t343.length co64)) w.heap.size (fun k_ => some k_ ≠ (.slice Ao7 t304.length co7 : Value).ownBlock ∧ some k_ ≠ (.slice Ao57 t339.length co57 : Value).ownBlock) (.slice Ao14 t318.length co14) t318) := ⟨by (with_reducible repeat (first | apply Kd.R_alloc | apply Kd.R_drewN | apply Kd.R_drew)); exact Kd.R_mono (Kd.R_far (p := ⟨gb321, 15, none⟩) (Kd.R_types HO_322008.out BK321.out (by decide)) (fun _ hk => hk.2) (.slice Ao64 t343.length co64)) (fun _ hk => ⟨hk.1.1, hk.1.2⟩)⟩
     have n4_ : Aside0 (Kd.R k43 43 (w63.setCell ⟨gb321, 15, none⟩ (.slice Ao64 t343.length co64)) w.heap.size (fun k_ => some k_ ≠ (.slice Ao6 t301.length co6 : Value).ownBlock ∧ some k_ ≠ (.slice Ao15 t315.length co15 : Value).ownBlock ∧ some k_ ≠ (.slice Ao64 t343.length co64 : Value).ownBlock) (.slice Ao56 t336.length co56) t336) := ⟨by (with_reducible repeat (first | apply Kd.R_alloc | apply Kd.R_drewN | apply Kd.R_drew)); exact Kd.R_mono (Kd.R_far (p := ⟨gb321, 15, none⟩) (Kd.R_types HO338.out BK321.out (by decide)) (fun _ hk => hk.2) (.slice Ao64 t343.length co64)) (fun _ hk => ⟨hk.1.1.1, ⟨hk.1.1.2, hk.1.2⟩⟩)⟩
     have n5_ : Aside0 (Kd.R k48 48 (w63.setCell ⟨gb321, 15, none⟩ (.slice Ao64 t343.length co64)) w.heap.size (fun k_ => some k_ ≠ (.slice Ao7 t304.length co7 : Value).ownBlock ∧ some k_ ≠ (.slice Ao14 t318.length co14 : Value).ownBlock) (.slice Ao57 t339.length co57) t339) := ⟨by (with_reducible repeat (first | apply Kd.R_alloc | apply Kd.R_drewN | apply Kd.R_drew)); exact Kd.R_mono (Kd.R_far (p := ⟨gb321, 15, none⟩) (Kd.R_types HO341.out BK321.out (by decide)) (fun _ hk => hk.2) (.slice Ao64 t343.length co64)) (fun _ hk => ⟨hk.1.1, hk.1.2⟩)⟩
     have n6_ : Aside0 (Kd.R k43 43 (w63.setCell ⟨gb321, 15, none⟩ (.slice Ao64 t343.length co64)) w.heap.size (fun k_ => some k_ ≠ (.slice Ao6 t301.length co6 : Value).ownBlock ∧ some k_ ≠ (.slice Ao15 t315.length co15 : Value).ownBlock ∧ some k_ ≠ (.slice Ao56 t336.length co56 : Value).ownBlock) (.slice Ao64 t343.length co64) t343) := ⟨by (with_reducible repeat (first | apply Kd.R_alloc | apply Kd.R_drewN | apply Kd.R_drew)); exact Kd.R_mono (Kd.R_far (p := ⟨gb321, 15, none⟩) (Kd.R_types HO345.out BK321.out (by decide)) (fun _ hk => hk.2) (.slice Ao64 t343.length co64)) (fun _ hk => ⟨hk.1.1.1.2, ⟨hk.1.1.2, hk.1.2⟩⟩)⟩
     have n7_ : Aside0 ((w63.setCell ⟨gb321, 15, none⟩ (.slice Ao64 t343.length co64)).heap[gb307]? = some (.cells #[.int .i64 t294, .int .i64 t295, .int .i64 t296, .int .i64 t297, .int .i64 t298, .int .i64 t299, .int .i64 t300, .slice Ao6 t301.length co6, .slice Ao7 t304.length co7] 27 (0, 0))) := ⟨blf_⟩
     have n8_ : Aside0 ((w63.setCell ⟨gb321, 15, none⟩ (.slice Ao64 t343.length co64)).heap[gb321]? = some (.cells #[.int .i64 x322000_2, .int .i64 x322001_2, .int .i64 x322002_2, .int .i64 x322003_2, .int .i64 x322004_2, .int .i64 x322005_2, .int .i64 x322006_2, .slice Ao15 t315.length co15, .slice Ao14 t318.length co14, .bool x322009_2, .bool x322010_2, .bool true, .bool x322012_2, .bool x322013_2, .bool x322014_2, .slice Ao64 t343.length co64, .slice none 0 0] 71 (0, 0))) := ⟨by (with_reducible repeat (first | refine zN ?_ _ | refine zD ?_ | refine zA ?_ _)); refine blk_put (cs := #[.int .i64 x322000_2, .int .i64 x322001_2, .int .i64 x322002_2, .int .i64 x322003_2, .int .i64 x322004_2, .int .i64 x322005_2, .int .i64 x322006_2, .slice Ao15 t315.length co15, .slice Ao14 t318.length co14, .bool x322009_2, .bool x322010_2, .bool true, .bool x322012_2, .bool x322013_2, .bool x322014_2, .slice none 0 0, .slice none 0 0]) ?_ 15 _ rfl; (with_reducible repeat (first | refine zN ?_ _ | refine zD ?_ | refine zA ?_ _)); exact BK321.out⟩
     have n9_ : Aside0 ((w63.setCell ⟨gb321, 15, none⟩ (.slice Ao64 t343.length co64)).heap[gb326]? = some (.cells #[.int .i64 6, .int .i64 2, .int .i64 1, .int .i64 1, .int .i64 4, .int .i64 7, .int .i64 0, .slice none 0 0, .slice none 0 0] 27 (0, 0))) := ⟨blf_⟩
     have n10_ : Aside0 ((w63.setCell ⟨gb321, 15, none⟩ (.slice Ao64 t343.length co64)).heap[gb327]? = some (.cells #[.int .i64 6, .int .i64 2, .int .i64 1, .int .i64 1, .int .i64 4, .int .i64 7, .int .i64 0, .slice none 0 0, .slice none 0 0] 27 (0, 0))) := ⟨blf_⟩
     have n11_ : Aside0 (Below w.heap.size w (w63.setCell ⟨gb321, 15, none⟩ (.slice Ao64 t343.length co64))) := ⟨bel_⟩
     (try clear HO_308007)
     (try clear HO_308008)
     (try clear HO_322007)
     (try clear HO_322008)
     (try clear HO338)
     (try clear HO341)
     (try clear HO345)
     (try clear BK307)
     (try clear BK321)
     (try clear BK326)
     (try clear BK327)
     (try clear HB)
     generalize (w63.setCell ⟨gb321, 15, none⟩ (.slice Ao64 t343.length co64)) = w66 at n0_ n1_ n2_ n3_ n4_ n5_ n6_ n7_ n8_ n9_ n10_ n11_ ⊢
     have HO_308007 := n0_
     have HO_308008 := n1_
     have HO_322007 := n2_
     have HO_322008 := n3_
     have HO338 := n4_
     have HO341 := n5_
     have HO345 := n6_
     have BK307 := n7_
     have BK321 := n8_
     have BK326 := n9_
     have BK327 := n10_
     have HB := n11_
     clear n0_ n1_ n2_ n3_ n4_ n5_ n6_ n7_ n8_ n9_ n10_ n11_
     replace HO_308007 := zM (Kd.R_drew HO_308007.out)
     replace HO_308008 := zM (Kd.R_drew HO_308008.out)
     replace HO_322007 := zM (Kd.R_drew HO_322007.out)
     replace HO_322008 := zM (Kd.R_drew HO_322008.out)
     replace HO338 := zM (Kd.R_drew HO338.out)
     replace HO341 := zM (Kd.R_drew HO341.out)
     replace HO345 := zM (Kd.R_drew HO345.out)
     replace BK307 := zM (zD BK307.out)
     replace BK321 := zM (zD BK321.out)
     replace BK326 := zM (zD BK326.out)
     replace BK327 := zM (zD BK327.out)
     replace HB := zM (below_drew1 HB.out)
     refine start_ (n := 11) (S := fun w' => w'.cell? ⟨gb321, 0, none⟩ = some (.int .i64 x322000_2) ∧ w'.cell? ⟨gb321, 1, none⟩ = some (.int .i64 x322001_2) ∧ w'.cell? ⟨gb321, 2, none⟩ = some (.int .i64 x322002_2) ∧ w'.cell? ⟨gb321, 3, none⟩ = some (.int .i64 x322003_2) ∧ w'.cell? ⟨gb321, 4, none⟩ = some (.int .i64 x322004_2) ∧ w'.cell? ⟨gb321, 5, none⟩ = some (.int .i64 x322005_2) ∧ w'.cell? ⟨gb321, 6, none⟩ = some (.int .i64 x322006_2) ∧ w'.cell? ⟨gb321, 7, none⟩ = some (.slice Ao15 t315.length co15) ∧ w'.cell? ⟨gb321, 8, none⟩ = some (.slice Ao14 t318.length co14) ∧ w'.cell? ⟨gb321, 9, none⟩ = some (.bool x322009_2) ∧ w'.cell? ⟨gb321, 10, none⟩ = some (.bool x322010_2) ∧ w'.cell? ⟨gb321, 11, none⟩ = some (.bool true) ∧ w'.cell? ⟨gb321, 12, none⟩ = some (.bool x322012_2) ∧ w'.cell? ⟨gb321, 13, none⟩ = some (.bool x322013_2) ∧ w'.cell? ⟨gb321, 14, none⟩ = some (.bool x322014_2) ∧ w'.cell? ⟨gb321, 15, none⟩ = some (.slice Ao64 t343.length co64) ∧ w'.cell? ⟨gb321, 16, none⟩ = some (.slice none 0 0) ∧ w'.cell? ⟨gb327, 0, none⟩ = some (.int .i64 6) ∧ w'.cell? ⟨gb327, 1, none⟩ = some (.int .i64 2) ∧ w'.cell? ⟨gb327, 2, none⟩ = some (.int .i64 1) ∧ w'.cell? ⟨gb327, 3, none⟩ = some (.int .i64 1) ∧ w'.cell? ⟨gb327, 4, none⟩ = some (.int .i64 4) ∧ w'.cell? ⟨gb327, 5, none⟩ = some (.int .i64 7) ∧ w'.cell? ⟨gb327, 6, none⟩ = some (.int .i64 0) ∧ w'.cell? ⟨gb327, 7, none⟩ = some (.slice none 0 0) ∧ w'.cell? ⟨gb327, 8, none⟩ = some (.slice none 0 0)) (ds := [10]) #[F_, F_, F_, F_, F_, F_, F_, F_, F_, F_, F_] (by kernel_rfl) rfl rfl ⟨(zL BK321.out 0).trans rfl, (zL BK321.out 1).trans rfl, (zL BK321.out 2).trans rfl, (zL BK321.out 3).trans rfl, (zL BK321.out 4).trans rfl, (zL BK321.out 5).trans rfl, (zL BK321.out 6).trans rfl, (zL BK321.out 7).trans rfl, (zL BK321.out 8).trans rfl, (zL BK321.out 9).trans rfl, (zL BK321.out 10).trans rfl, (zL BK321.out 11).trans rfl, (zL BK321.out 12).trans rfl, (zL BK321.out 13).trans rfl, (zL BK321.out 14).trans rfl, (zL BK321.out 15).trans rfl, (zL BK321.out 16).trans rfl, (zL BK327.out 0).trans rfl, (zL BK327.out 1).trans rfl, (zL BK327.out 2).trans rfl, (zL BK327.out 3).trans rfl, (zL BK327.out 4).trans rfl, (zL BK327.out 5).trans rfl, (zL BK327.out 6).trans rfl, (zL BK327.out 7).trans rfl, (zL BK327.out 8).trans rfl⟩ (fun hHeld => ?_)
     generalize w66.drew = w67 at HO_308007 HO_308008 HO_322007 HO_322008 HO338 HO341 HO345 BK307 BK321 BK326 BK327 HB hHeld ⊢
     refine pu_ 0 48 (dm_ 11 1) ?_
     refine pu_ 1 49 (dm_ 11 3) ?_
     refine pu_ 2 50 (dm_ 11 7) ?_
     refine pu_ 3 51 (dm_ 11 15) ?_
     refine pu_ 5 53 (dm_ 11 47) ?_
     refine tk_ hHeld 4 52 (dm_ 11 63) ?_
     refine tk_ hHeld 6 54 (dm_ 11 127) ?_
     refine one_ (i := 7) (N := some 55) (dm_ 11 255) rfl rfl (by kernel_rfl) (by decide) (fun K hK => ?_)
     refine goes_ Try.func43 (by kernel_rfl) rfl #[.slice none 0 0, .slice none 0 0] (by rfl) rfl rfl (by (try simp only [List.map_toArray, List.map_cons, List.map_nil]); first | done | rfl | (simp only [List.length_drop, List.length_take]; rfl)) ?_
     refine (book_Merge.calls kj2 _ _ ([] : List (S48)) _ _ ([] : List (S48)) t346 _ ?side1 ?side2 ?side3 ?side4 A41.out).mono ?_
     (case side1 => exact Kd.C_nil _ _)
     (case side2 => exact Nat.le_refl _)
     (case side3 => exact Kd.C_nil _ _)
     (case side4 => exact Nat.le_refl _)
     rintro e w68 ⟨v347, rfl, ho0, hb⟩
     refine ⟨_, rfl, ?_⟩
     replace HO_308007 := zM (Kd.R_below (rl_ HO_308007) hb)
     replace HO_322007 := zM (Kd.R_below (rl_ HO_322007) hb)
     replace HO338 := zM (Kd.R_below (rl_ HO338) hb)
     replace HO345 := zM (Kd.R_below (rl_ HO345) hb)
     have HO348 := zM (Kd.R_lower (Kd.R_new' (Kd.R_new' (Kd.R_new' ho0 (Kd.R_lt (rl_ HO_308008))) (Kd.R_lt (rl_ HO_322008))) (Kd.R_lt (rl_ HO341))) (below_size bel_))
     replace HO_308008 := zM (Kd.R_elder' (rl_ HO_308008) (Kd.R_base ho0) hb)
     replace HO_322008 := zM (Kd.R_elder' (rl_ HO_322008) (Kd.R_base ho0) hb)
     replace HO341 := zM (Kd.R_elder' (rl_ HO341) (Kd.R_base ho0) hb)
     replace BK307 := zM (bb_ BK307 hb)
     replace BK321 := zM (bb_ BK321 hb)
     replace BK326 := zM (bb_ BK326 hb)
     replace BK327 := zM (bb_ BK327 hb)
     replace HB := zM (zB bel_ hb)
     (try clear hb)
     (try clear hb2)
     (try clear hk)
     (try clear hi)
     (try clear ho0)
     obtain ⟨Ao69, co69, eo69⟩ := Kd.R_slice HO348.out
     (first | subst eo69 | (injection eo69 with f1_ f2_ f3_; have f4_ := f1_.symm; have f5_ := f3_.symm; clear f1_ f2_ f3_; subst f4_; subst f5_))
     refine hK.out _ _ ⟨(zL BK321.out 0).trans rfl, (zL BK321.out 1).trans rfl, (zL BK321.out 2).trans rfl, (zL BK321.out 3).trans rfl, (zL BK321.out 4).trans rfl, (zL BK321.out 5).trans rfl, (zL BK321.out 6).trans rfl, (zL BK321.out 7).trans rfl, (zL BK321.out 8).trans rfl, (zL BK321.out 9).trans rfl, (zL BK321.out 10).trans rfl, (zL BK321.out 11).trans rfl, (zL BK321.out 12).trans rfl, (zL BK321.out 13).trans rfl, (zL BK321.out 14).trans rfl, (zL BK321.out 15).trans rfl, (zL BK321.out 16).trans rfl, (zL BK327.out 0).trans rfl, (zL BK327.out 1).trans rfl, (zL BK327.out 2).trans rfl, (zL BK327.out 3).trans rfl, (zL BK327.out 4).trans rfl, (zL BK327.out 5).trans rfl, (zL BK327.out 6).trans rfl, (zL BK327.out 7).trans rfl, (zL BK327.out 8).trans rfl⟩ (fun hHeld => ?_)
     clear hK K
     refine norm_ (a' := ?_) ?_ ?_
     rotate_left
     · show Act.put _ (some 55) _ = _
       simp only [Act.put, zS, zZ, zC, i64_w, i32_w]
       rfl
     refine pu_ 8 56 (dm_ 11 511) ?_
     refine pu_ 9 57 (dm_ 11 1023) ?_
     refine last_ (i := 10) (N := none) #[T_, T_, T_, T_, T_, T_, T_, T_, T_, T_, T_] rfl rfl (by kernel_rfl) (by decide) (fun K hK => ?_)
     have hs70 : w68.cell? ⟨gb321, 16, none⟩ = some (.slice none 0 0) := (zL BK321.out 16).trans rfl
     have hfs70 := zF BK321.out 16
     have hns70_0 := NB307_321.out
     have hns70_2 := NB326_321.out
     have hns70_3 := NB327_321.out
     have hms70_0 := NB321_307.out
     have hms70_2 := NB321_326.out
     have hms70_3 := NB321_327.out
     refine skip_ (w1 := ?_) (by rfl) rfl ?_ ?_
     rotate_left
     · go_simp
       rfl
     refine hK.out _ _ ?_
     clear hK K
     refine done_ (by kernel_rfl) ?_
     have tk71 : True := trivial
     have tk74 : True := trivial
     have tk76 : True := trivial
     go_wp2_with (first | (clear tk71; (first | go_ret | go_ret2 | go_ret3 | go_end0); with_reducible refine inl_back_ ?_; have hnb72 := NB326_327.out; have hnc72 := NB327_326.out; obtain ⟨hcz73_0, hcz73_1, hcz73_2, hcz73_3, hcz73_4, hcz73_5, hcz73_6, hcz73_7, hcz73_8⟩ := r9_ BK326.out; obtain ⟨hfz73_0, hfz73_1, hfz73_2, hfz73_3, hfz73_4, hfz73_5, hfz73_6, hfz73_7, hfz73_8⟩ := f9_ BK326.out) | (go_at_call 12; clear tk74; go_enter Try.func12, Try.ntmps12) | ((with_reducible refine gate_dst (N := 3) rfl ?_); clear tk76; (try (refine gate_guard (by rfl) ?_; dsimp only)); refine box_event ?hg (N := 3) ?hd (cs := #[.int .i64 6, .int .i64 2, .int .i64 1, .int .i64 1, .int .i64 4, .int .i64 7, .int .i64 0, .slice none 0 0, .slice none 0 0]) (t := 27) ?hr ?_; (case hd => rfl); (case hg => rfl); (case hr => first | (go_simp; done) | (go_simp; rfl)); intro gb349 hg w75 hbox hb; have n0_ := zM (Kd.R_below (by (with_reducible repeat (first | apply Kd.R_alloc | apply Kd.R_drewN | apply Kd.R_drew)); exact (Kd.R_mono (Kd.R_far (p := ⟨gb321, 16, none⟩) (Kd.R_types HO_308007.out BK321.out (by decide)) (fun _ hk => hk.2) (.slice Ao69 t346.length co69)) (fun _ h_ => h_.1))) hb); have n1_ := zM (Kd.R_below (by (with_reducible repeat (first | apply Kd.R_alloc | apply Kd.R_drewN | apply Kd.R_drew)); exact (Kd.R_mono (Kd.R_far (p := ⟨gb321, 16, none⟩) (Kd.R_types HO_308008.out BK321.out (by decide)) (fun _ hk => hk.2) (.slice Ao69 t346.length co69)) (fun _ h_ => h_.1))) hb); have n2_ := zM (Kd.R_below (by (with_reducible repeat (first | apply Kd.R_alloc | apply Kd.R_drewN | apply Kd.R_drew)); exact (Kd.R_mono (Kd.R_far (p := ⟨gb321, 16, none⟩) (Kd.R_types HO_322007.out BK321.out (by decide)) (fun _ hk => hk.2) (.slice Ao69 t346.length co69)) (fun _ h_ => h_.1))) hb); have n3_ := zM (Kd.R_below (by (with_reducible repeat (first | apply Kd.R_alloc | apply Kd.R_drewN | apply Kd.R_drew)); exact (Kd.R_mono (Kd.R_far (p := ⟨gb321, 16, none⟩) (Kd.R_types HO_322008.out BK321.out (by decide)) (fun _ hk => hk.2) (.slice Ao69 t346.length co69)) (fun _ h_ => h_.1))) hb); have n4_ := zM (Kd.R_below (by (with_reducible repeat (first | apply Kd.R_alloc | apply Kd.R_drewN | apply Kd.R_drew)); exact (Kd.R_mono (Kd.R_far (p := ⟨gb321, 16, none⟩) (Kd.R_types HO338.out BK321.out (by decide)) (fun _ hk => hk.2) (.slice Ao69 t346.length co69)) (fun _ h_ => h_.1))) hb); have n5_ := zM (Kd.R_below (by (with_reducible repeat (first | apply Kd.R_alloc | apply Kd.R_drewN | apply Kd.R_drew)); exact (Kd.R_mono (Kd.R_far (p := ⟨gb321, 16, none⟩) (Kd.R_types HO341.out BK321.out (by decide)) (fun _ hk => hk.2) (.slice Ao69 t346.length co69)) (fun _ h_ => h_.1))) hb); have n6_ := zM (Kd.R_below (by (with_reducible repeat (first | apply Kd.R_alloc | apply Kd.R_drewN | apply Kd.R_drew)); exact (Kd.R_mono (Kd.R_far (p := ⟨gb321, 16, none⟩) (Kd.R_types HO345.out BK321.out (by decide)) (fun _ hk => hk.2) (.slice Ao69 t346.length co69)) (fun _ h_ => h_.1))) hb); have n7_ := zM (Kd.R_below (by (with_reducible repeat (first | apply Kd.R_alloc | apply Kd.R_drewN | apply Kd.R_drew)); exact (Kd.R_mono (Kd.R_far (p := ⟨gb321, 16, none⟩) (Kd.R_types HO348.out BK321.out (by decide)) (fun _ hk => hk.2) (.slice Ao69 t346.length co69)) (fun _ h_ => h_.1))) hb); have n8_ := zM (blk_below (g := gb307) (o := .cells #[.int .i64 t294, .int .i64 t295, .int .i64 t296, .int .i64 t297, .int .i64 t298, .int .i64 t299, .int .i64 t300, .slice Ao6 t301.length co6, .slice Ao7 t304.length co7] 27 (0, 0)) blf_ hb); have n9_ := zM (blk_below (g := gb321) (o := .cells #[.int .i64 x322000_2, .int .i64 x322001_2, .int .i64 x322002_2, .int .i64 x322003_2, .int .i64 x322004_2, .int .i64 x322005_2, .int .i64 x322006_2, .slice Ao15 t315.length co15, .slice Ao14 t318.length co14, .bool x322009_2, .bool x322010_2, .bool true, .bool x322012_2, .bool x322013_2, .bool x322014_2, .slice Ao64 t343.length co64, .slice Ao69 t346.length co69] 71 (0, 0)) (by (with_reducible repeat (first | refine zN ?_ _ | refine zD ?_ | refine zA ?_ _)); refine blk_put (cs := #[.int .i64 x322000_2, .int .i64 x322001_2, .int .i64 x322002_2, .int .i64 x322003_2, .int .i64 x322004_2, .int .i64 x322005_2, .int .i64 x322006_2, .slice Ao15 t315.length co15, .slice Ao14 t318.length co14, .bool x322009_2, .bool x322010_2, .bool true, .bool x322012_2, .bool x322013_2, .bool x322014_2, .slice Ao64 t343.length co64, .slice none 0 0]) ?_ 16 _ rfl; (with_reducible repeat (first | refine zN ?_ _ | refine zD ?_ | refine zA ?_ _)); exact BK321.out) hb); have n10_ := zM (blk_below (g := gb326) (o := .cells #[.int .i64 6, .int .i64 2, .int .i64 1, .int .i64 1, .int .i64 4, .int .i64 7, .int .i64 0, .slice none 0 0, .slice none 0 0] 27 (0, 0)) blf_ hb); have n11_ := zM (blk_below (g := gb327) (o := .cells #[.int .i64 6, .int .i64 2, .int .i64 1, .int .i64 1, .int .i64 4, .int .i64 7, .int .i64 0, .slice none 0 0, .slice none 0 0] 27 (0, 0)) blf_ hb); have n12_ := zM (zB bel_ hb); have n13_ := zM (hbox); have n14_ := zM (bs_ hg); have n15_ := zM (bs_ hg); have n16_ := zM ((by rw [hg]; exact Nat.ne_of_lt (blk_lt (g := gb307) (o := .cells #[.int .i64 t294, .int .i64 t295, .int .i64 t296, .int .i64 t297, .int .i64 t298, .int .i64 t299, .int .i64 t300, .slice Ao6 t301.length co6, .slice Ao7 t304.length co7] 27 (0, 0)) blf_) : gb307 ≠ gb349)); have n17_ := zM ((by rw [hg]; exact Nat.ne_of_gt (blk_lt (g := gb307) (o := .cells #[.int .i64 t294, .int .i64 t295, .int .i64 t296, .int .i64 t297, .int .i64 t298, .int .i64 t299, .int .i64 t300, .slice Ao6 t301.length co6, .slice Ao7 t304.length co7] 27 (0, 0)) blf_) : gb349 ≠ gb307)); have n18_ := zM ((by rw [hg]; exact Nat.ne_of_lt (blk_lt (g := gb321) (o := .cells #[.int .i64 x322000_2, .int .i64 x322001_2, .int .i64 x322002_2, .int .i64 x322003_2, .int .i64 x322004_2, .int .i64 x322005_2, .int .i64 x322006_2, .slice Ao15 t315.length co15, .slice Ao14 t318.length co14, .bool x322009_2, .bool x322010_2, .bool true, .bool x322012_2, .bool x322013_2, .bool x322014_2, .slice Ao64 t343.length co64, .slice Ao69 t346.length co69] 71 (0, 0)) (by (with_reducible repeat (first | refine zN ?_ _ | refine zD ?_ | refine zA ?_ _)); refine blk_put (cs := #[.int .i64 x322000_2, .int .i64 x322001_2, .int .i64 x322002_2, .int .i64 x322003_2, .int .i64 x322004_2, .int .i64 x322005_2, .int .i64 x322006_2, .slice Ao15 t315.length co15, .slice Ao14 t318.length co14, .bool x322009_2, .bool x322010_2, .bool true, .bool x322012_2, .bool x322013_2, .bool x322014_2, .slice Ao64 t343.length co64, .slice none 0 0]) ?_ 16 _ rfl; (with_reducible repeat (first | refine zN ?_ _ | refine zD ?_ | refine zA ?_ _)); exact BK321.out)) : gb321 ≠ gb349)); have n19_ := zM ((by rw [hg]; exact Nat.ne_of_gt (blk_lt (g := gb321) (o := .cells #[.int .i64 x322000_2, .int .i64 x322001_2, .int .i64 x322002_2, .int .i64 x322003_2, .int .i64 x322004_2, .int .i64 x322005_2, .int .i64 x322006_2, .slice Ao15 t315.length co15, .slice Ao14 t318.length co14, .bool x322009_2, .bool x322010_2, .bool true, .bool x322012_2, .bool x322013_2, .bool x322014_2, .slice Ao64 t343.length co64, .slice Ao69 t346.length co69] 71 (0, 0)) (by (with_reducible repeat (first | refine zN ?_ _ | refine zD ?_ | refine zA ?_ _)); refine blk_put (cs := #[.int .i64 x322000_2, .int .i64 x322001_2, .int .i64 x322002_2, .int .i64 x322003_2, .int .i64 x322004_2, .int .i64 x322005_2, .int .i64 x322006_2, .slice Ao15 t315.length co15, .slice Ao14 t318.length co14, .bool x322009_2, .bool x322010_2, .bool true, .bool x322012_2, .bool x322013_2, .bool x322014_2, .slice Ao64 t343.length co64, .slice none 0 0]) ?_ 16 _ rfl; (with_reducible repeat (first | refine zN ?_ _ | refine zD ?_ | refine zA ?_ _)); exact BK321.out)) : gb349 ≠ gb321)); have n20_ := zM ((by rw [hg]; exact Nat.ne_of_lt (blk_lt (g := gb326) (o := .cells #[.int .i64 6, .int .i64 2, .int .i64 1, .int .i64 1, .int .i64 4, .int .i64 7, .int .i64 0, .slice none 0 0, .slice none 0 0] 27 (0, 0)) blf_) : gb326 ≠ gb349)); have n21_ := zM ((by rw [hg]; exact Nat.ne_of_gt (blk_lt (g := gb326) (o := .cells #[.int .i64 6, .int .i64 2, .int .i64 1, .int .i64 1, .int .i64 4, .int .i64 7, .int .i64 0, .slice none 0 0, .slice none 0 0] 27 (0, 0)) blf_) : gb349 ≠ gb326)); have n22_ := zM ((by rw [hg]; exact Nat.ne_of_lt (blk_lt (g := gb327) (o := .cells #[.int .i64 6, .int .i64 2, .int .i64 1, .int .i64 1, .int .i64 4, .int .i64 7, .int .i64 0, .slice none 0 0, .slice none 0 0] 27 (0, 0)) blf_) : gb327 ≠ gb349)); have n23_ := zM ((by rw [hg]; exact Nat.ne_of_gt (blk_lt (g := gb327) (o := .cells #[.int .i64 6, .int .i64 2, .int .i64 1, .int .i64 1, .int .i64 4, .int .i64 7, .int .i64 0, .slice none 0 0, .slice none 0 0] 27 (0, 0)) blf_) : gb349 ≠ gb327)); clear HO_308007; clear HO_308008; clear HO_322007; clear HO_322008; clear HO338; clear HO341; clear HO345; clear HO348; clear BK307; clear BK321; clear BK326; clear BK327; clear HB; have HO_308007 := n0_; have HO_308008 := n1_; have HO_322007 := n2_; have HO_322008 := n3_; have HO338 := n4_; have HO341 := n5_; have HO345 := n6_; have HO348 := n7_; have BK307 := n8_; have BK321 := n9_; have BK326 := n10_; have BK327 := n11_; have HB := n12_; have BK349 := n13_; have GW349 := n14_; have GE349 := n15_; have NB307_349 := n16_; have NB349_307 := n17_; have NB321_349 := n18_; have NB349_321 := n19_; have NB326_349 := n20_; have NB349_326 := n21_; have NB327_349 := n22_; have NB349_327 := n23_; clear n0_ n1_ n2_ n3_ n4_ n5_ n6_ n7_ n8_ n9_ n10_ n11_ n12_ n13_ n14_ n15_ n16_ n17_ n18_ n19_ n20_ n21_ n22_ n23_; clear hb hbox hg))
     replace HO_308007 := zM (Kd.R_drew HO_308007.out)
     replace HO_308008 := zM (Kd.R_drew HO_308008.out)
     replace HO_322007 := zM (Kd.R_drew HO_322007.out)
     replace HO_322008 := zM (Kd.R_drew HO_322008.out)
     replace HO338 := zM (Kd.R_drew HO338.out)
     replace HO341 := zM (Kd.R_drew HO341.out)
     replace HO345 := zM (Kd.R_drew HO345.out)
     replace HO348 := zM (Kd.R_drew HO348.out)
     replace BK307 := zM (zD BK307.out)
     replace BK321 := zM (zD BK321.out)
     replace BK326 := zM (zD BK326.out)
     replace BK327 := zM (zD BK327.out)
     replace BK349 := zM (zD BK349.out)
     replace HB := zM (below_drew1 HB.out)
     refine start_ (n := 27) (S := fun w' => w'.cell? ⟨gb321, 0, none⟩ = some (.int .i64 x322000_2) ∧ w'.cell? ⟨gb321, 1, none⟩ = some (.int .i64 x322001_2) ∧ w'.cell? ⟨gb321, 2, none⟩ = some (.int .i64 x322002_2) ∧ w'.cell? ⟨gb321, 3, none⟩ = some (.int .i64 x322003_2) ∧ w'.cell? ⟨gb321, 4, none⟩ = some (.int .i64 x322004_2) ∧ w'.cell? ⟨gb321, 5, none⟩ = some (.int .i64 x322005_2) ∧ w'.cell? ⟨gb321, 6, none⟩ = some (.int .i64 x322006_2) ∧ w'.cell? ⟨gb321, 7, none⟩ = some (.slice Ao15 t315.length co15) ∧ w'.cell? ⟨gb321, 8, none⟩ = some (.slice Ao14 t318.length co14) ∧ w'.cell? ⟨gb321, 9, none⟩ = some (.bool x322009_2) ∧ w'.cell? ⟨gb321, 10, none⟩ = some (.bool x322010_2) ∧ w'.cell? ⟨gb321, 11, none⟩ = some (.bool true) ∧ w'.cell? ⟨gb321, 12, none⟩ = some (.bool x322012_2) ∧ w'.cell? ⟨gb321, 13, none⟩ = some (.bool x322013_2) ∧ w'.cell? ⟨gb321, 14, none⟩ = some (.bool x322014_2) ∧ w'.cell? ⟨gb321, 15, none⟩ = some (.slice Ao64 t343.length co64) ∧ w'.cell? ⟨gb321, 16, none⟩ = some (.slice Ao69 t346.length co69) ∧ w'.cell? ⟨gb349, 0, none⟩ = some (.int .i64 6) ∧ w'.cell? ⟨gb349, 1, none⟩ = some (.int .i64 2) ∧ w'.cell? ⟨gb349, 2, none⟩ = some (.int .i64 1) ∧ w'.cell? ⟨gb349, 3, none⟩ = some (.int .i64 1) ∧ w'.cell? ⟨gb349, 4, none⟩ = some (.int .i64 4) ∧ w'.cell? ⟨gb349, 5, none⟩ = some (.int .i64 7) ∧ w'.cell? ⟨gb349, 6, none⟩ = some (.int .i64 0) ∧ w'.cell? ⟨gb349, 7, none⟩ = some (.slice none 0 0) ∧ w'.cell? ⟨gb349, 8, none⟩ = some (.slice none 0 0)) (ds := []) #[F_, F_, F_, F_, F_, F_, F_, F_, F_, F_, F_, F_, F_, F_, F_, F_, F_, F_, F_, F_, F_, F_, F_, F_, F_, F_, F_] (by kernel_rfl) rfl rfl ⟨(zL BK321.out 0).trans rfl, (zL BK321.out 1).trans rfl, (zL BK321.out 2).trans rfl, (zL BK321.out 3).trans rfl, (zL BK321.out 4).trans rfl, (zL BK321.out 5).trans rfl, (zL BK321.out 6).trans rfl, (zL BK321.out 7).trans rfl, (zL BK321.out 8).trans rfl, (zL BK321.out 9).trans rfl, (zL BK321.out 10).trans rfl, (zL BK321.out 11).trans rfl, (zL BK321.out 12).trans rfl, (zL BK321.out 13).trans rfl, (zL BK321.out 14).trans rfl, (zL BK321.out 15).trans rfl, (zL BK321.out 16).trans rfl, (zL BK349.out 0).trans rfl, (zL BK349.out 1).trans rfl, (zL BK349.out 2).trans rfl, (zL BK349.out 3).trans rfl, (zL BK349.out 4).trans rfl, (zL BK349.out 5).trans rfl, (zL BK349.out 6).trans rfl, (zL BK349.out 7).trans rfl, (zL BK349.out 8).trans rfl⟩ (fun hHeld => ?_)
     generalize w75.drew = w77 at HO_308007 HO_308008 HO_322007 HO_322008 HO338 HO341 HO345 HO348 BK307 BK321 BK326 BK327 BK349 HB hHeld ⊢
     refine pu_ 0 5 (dm_ 27 1) ?_
     refine pu_ 1 6 (dm_ 27 3) ?_
     refine pu_ 2 7 (dm_ 27 7) ?_
     refine pu_ 3 8 (dm_ 27 15) ?_
     refine pu_ 5 10 (dm_ 27 47) ?_
     refine tk_ hHeld 4 9 (dm_ 27 63) ?_
     refine tk_ hHeld 6 11 (dm_ 27 127) ?_
     refine one_ (i := 7) (N := some 12) (dm_ 27 255) rfl rfl (by kernel_rfl) (by decide) (fun K hK => ?_)
     refine goes_ Try.func37 (by kernel_rfl) rfl #[.agg #[.int .i64 x322005_2, .int .i64 x322006_2], .int .i64 2] (by rfl) rfl rfl (by (try simp only [List.map_toArray, List.map_cons, List.map_nil]); first | done | rfl | (simp only [List.length_drop, List.length_take]; rfl)) ?_
     with_reducible refine (view_In.calls x322005_2 x322006_2 2 true _ A42.out).mono ?_
     rintro e w78 ⟨rfl, hb⟩
     refine ⟨_, rfl, ?_⟩
     replace HO_308007 := zM (Kd.R_below (rl_ HO_308007) hb)
     replace HO_308008 := zM (Kd.R_below (rl_ HO_308008) hb)
     replace HO_322007 := zM (Kd.R_below (rl_ HO_322007) hb)
     replace HO_322008 := zM (Kd.R_below (rl_ HO_322008) hb)
     replace HO338 := zM (Kd.R_below (rl_ HO338) hb)
     replace HO341 := zM (Kd.R_below (rl_ HO341) hb)
     replace HO345 := zM (Kd.R_below (rl_ HO345) hb)
     replace HO348 := zM (Kd.R_below (rl_ HO348) hb)
     replace BK307 := zM (bb_ BK307 hb)
     replace BK321 := zM (bb_ BK321 hb)
     replace BK326 := zM (bb_ BK326 hb)
     replace BK327 := zM (bb_ BK327 hb)
     replace BK349 := zM (bb_ BK349 hb)
     replace HB := zM (zB bel_ hb)
     (try clear hb)
     (try clear hb2)
     (try clear hk)
     (try clear hi)
     refine hK.out _ _ ⟨(zL BK321.out 0).trans rfl, (zL BK321.out 1).trans rfl, (zL BK321.out 2).trans rfl, (zL BK321.out 3).trans rfl, (zL BK321.out 4).trans rfl, (zL BK321.out 5).trans rfl, (zL BK321.out 6).trans rfl, (zL BK321.out 7).trans rfl, (zL BK321.out 8).trans rfl, (zL BK321.out 9).trans rfl, (zL BK321.out 10).trans rfl, (zL BK321.out 11).trans rfl, (zL BK321.out 12).trans rfl, (zL BK321.out 13).trans rfl, (zL BK321.out 14).trans rfl, (zL BK321.out 15).trans rfl, (zL BK321.out 16).trans rfl, (zL BK349.out 0).trans rfl, (zL BK349.out 1).trans rfl, (zL BK349.out 2).trans rfl, (zL BK349.out 3).trans rfl, (zL BK349.out 4).trans rfl, (zL BK349.out 5).trans rfl, (zL BK349.out 6).trans rfl, (zL BK349.out 7).trans rfl, (zL BK349.out 8).trans rfl⟩ (fun hHeld => ?_)
     clear hK K
     refine norm_ (a' := ?_) ?_ ?_
     rotate_left
     · show Act.put _ (some 12) _ = _
       simp only [Act.put, zS, zZ, zC, i64_w, i32_w]
       rfl
     refine pu_ 8 13 (dm_ 27 511) ?_
     refine pu_ 9 14 (dm_ 27 1023) ?_
     refine pu_ 10 15 (dm_ 27 2047) ?_
     refine pu_ 11 16 (dm_ 27 4095) ?_
     refine pu_ 13 18 (dm_ 27 12287) ?_
     refine pu_ 14 19 (dm_ 27 28671) ?_
     refine tk_ hHeld 12 17 (dm_ 27 32767) ?_
     refine pu_ 15 20 (dm_ 27 65535) ?_
     refine tk_ hHeld 16 21 (dm_ 27 131071) ?_
     refine pu_ 17 22 (dm_ 27 262143) ?_
     refine pu_ 18 23 (dm_ 27 524287) ?_
     refine pz_ 19 24 (dm_ 27 1048575) ?_
     refine pz_ 20 25 (dm_ 27 2097151) ?_
     refine pz_ 21 26 (dm_ 27 4194303) ?_
     refine pz_ 22 27 (dm_ 27 8388607) ?_
     refine pz_ 23 28 (dm_ 27 16777215) ?_
     refine pz_ 24 29 (dm_ 27 33554431) ?_
     refine pz_ 25 30 (dm_ 27 67108863) ?_
     refine pu_ 26 31 (dm_ 27 134217727) ?_
     refine done_ (by kernel_rfl) ?_
     have tk79 : True := trivial
     have tk81 : True := trivial
     have tk83 : True := trivial
     go_wp2_with (first | (clear tk79; (first | go_ret | go_ret2 | go_ret3 | go_end0); simp only []; go_at_K) | (go_at_call 13; (with_reducible refine (round_Round_Done.calls kj2 gb321 x322000_2 x322001_2 x322002_2 x322003_2 x322004_2 x322005_2 x322006_2 Ao15 co15 t315 Ao14 co14 t318 x322009_2 x322010_2 true x322012_2 x322013_2 x322014_2 Ao64 co64 t343 Ao69 co69 t346 false _ ?side1 ?side2 ?side3 ?side4 ?side5 ?side6 ?side7 ?side8 ?side9 A44.out).mono ?_); (case side1 => repeat (first | exact (Kd.R_reads' HO_322007.out).2.2 | (with_reducible refine Kd.C_alloc ?_ _) | (with_reducible refine Kd.C_drewN ?_ _) | (with_reducible refine Kd.C_drew ?_))); (case side2 => exact (Kd.R_reads' HO_322007.out).2.1); (case side3 => repeat (first | exact (Kd.R_reads' HO_322008.out).2.2 | (with_reducible refine Kd.C_alloc ?_ _) | (with_reducible refine Kd.C_drewN ?_ _) | (with_reducible refine Kd.C_drew ?_))); (case side4 => exact (Kd.R_reads' HO_322008.out).2.1); (case side5 => repeat (first | exact (Kd.R_reads' HO345.out).2.2 | (with_reducible refine Kd.C_alloc ?_ _) | (with_reducible refine Kd.C_drewN ?_ _) | (with_reducible refine Kd.C_drew ?_))); (case side6 => exact (Kd.R_reads' HO345.out).2.1); (case side7 => repeat (first | exact (Kd.R_reads' HO348.out).2.2 | (with_reducible refine Kd.C_alloc ?_ _) | (with_reducible refine Kd.C_drewN ?_ _) | (with_reducible refine Kd.C_drew ?_))); (case side8 => exact (Kd.R_reads' HO348.out).2.1); (case side9 => exact blf_); clear tk81; rintro e w80 ⟨rfl, hb⟩; replace HO_308007 := zM (Kd.R_below (rl_ HO_308007) hb); replace HO_308008 := zM (Kd.R_below (rl_ HO_308008) hb); replace HO_322007 := zM (Kd.R_below (rl_ HO_322007) hb); replace HO_322008 := zM (Kd.R_below (rl_ HO_322008) hb); replace HO338 := zM (Kd.R_below (rl_ HO338) hb); replace HO341 := zM (Kd.R_below (rl_ HO341) hb); replace HO345 := zM (Kd.R_below (rl_ HO345) hb); replace HO348 := zM (Kd.R_below (rl_ HO348) hb); replace BK307 := zM (bb_ BK307 hb); replace BK321 := zM (bb_ BK321 hb); replace BK326 := zM (bb_ BK326 hb); replace BK327 := zM (bb_ BK327 hb); replace BK349 := zM (bb_ BK349 hb); replace HB := zM (zB bel_ hb); (try clear hb); (try clear hi)) | (go_at_call 15; (with_reducible refine (round_Round_Asks.calls kj2 gb321 x322000_2 x322001_2 x322002_2 x322003_2 x322004_2 x322005_2 x322006_2 Ao15 co15 t315 Ao14 co14 t318 x322009_2 x322010_2 true x322012_2 x322013_2 x322014_2 Ao64 co64 t343 Ao69 co69 t346 t352 _ ?side1 ?side2 ?side3 ?side4 ?side5 ?side6 ?side7 ?side8 ?side9 A46.out).mono ?_); (case side1 => repeat (first | exact (Kd.R_reads' HO_322007.out).2.2 | (with_reducible refine Kd.C_alloc ?_ _) | (with_reducible refine Kd.C_drewN ?_ _) | (with_reducible refine Kd.C_drew ?_))); (case side2 => exact (Kd.R_reads' HO_322007.out).2.1); (case side3 => repeat (first | exact (Kd.R_reads' HO_322008.out).2.2 | (with_reducible refine Kd.C_alloc ?_ _) | (with_reducible refine Kd.C_drewN ?_ _) | (with_reducible refine Kd.C_drew ?_))); (case side4 => exact (Kd.R_reads' HO_322008.out).2.1); (case side5 => repeat (first | exact (Kd.R_reads' HO345.out).2.2 | (with_reducible refine Kd.C_alloc ?_ _) | (with_reducible refine Kd.C_drewN ?_ _) | (with_reducible refine Kd.C_drew ?_))); (case side6 => exact (Kd.R_reads' HO345.out).2.1); (case side7 => repeat (first | exact (Kd.R_reads' HO348.out).2.2 | (with_reducible refine Kd.C_alloc ?_ _) | (with_reducible refine Kd.C_drewN ?_ _) | (with_reducible refine Kd.C_drew ?_))); (case side8 => exact (Kd.R_reads' HO348.out).2.1); (case side9 => exact blf_); clear tk83; rintro e w82 ⟨v353, rfl, ho0, hb⟩; have HO354 := zM (Kd.S_lower (Kd.S_newB (Kd.S_newB (Kd.S_newB (Kd.S_newB (Kd.S_new' (Kd.S_new' (Kd.S_new' (Kd.S_new' (Kd.S_new' (Kd.S_new' (Kd.S_new' (Kd.S_new' ho0 (Kd.R_lt (rl_ HO_308007))) (Kd.R_lt (rl_ HO_308008))) (Kd.R_lt (rl_ HO_322007))) (Kd.R_lt (rl_ HO_322008))) (Kd.R_lt (rl_ HO338))) (Kd.R_lt (rl_ HO341))) (Kd.R_lt (rl_ HO345))) (Kd.R_lt (rl_ HO348))) (g := gb307) (o := .cells #[.int .i64 t294, .int .i64 t295, .int .i64 t296, .int .i64 t297, .int .i64 t298, .int .i64 t299, .int .i64 t300, .slice Ao6 t301.length co6, .slice Ao7 t304.length co7] 27 (0, 0)) blk_) (g := gb326) (o := .cells #[.int .i64 6, .int .i64 2, .int .i64 1, .int .i64 1, .int .i64 4, .int .i64 7, .int .i64 0, .slice none 0 0, .slice none 0 0] 27 (0, 0)) blk_) (g := gb327) (o := .cells #[.int .i64 6, .int .i64 2, .int .i64 1, .int .i64 1, .int .i64 4, .int .i64 7, .int .i64 0, .slice none 0 0, .slice none 0 0] 27 (0, 0)) blk_) (g := gb349) (o := .cells #[.int .i64 6, .int .i64 2, .int .i64 1, .int .i64 1, .int .i64 4, .int .i64 7, .int .i64 0, .slice none 0 0, .slice none 0 0] 27 (0, 0)) blk_) (below_size bel_)); replace HO_308007 := zM (Kd.R_below (rl_ HO_308007) hb); replace HO_308008 := zM (Kd.R_below (rl_ HO_308008) hb); replace HO_322007 := zM (Kd.R_below (rl_ HO_322007) hb); replace HO_322008 := zM (Kd.R_below (rl_ HO_322008) hb); replace HO338 := zM (Kd.R_below (rl_ HO338) hb); replace HO341 := zM (Kd.R_below (rl_ HO341) hb); replace HO345 := zM (Kd.R_below (rl_ HO345) hb); replace HO348 := zM (Kd.R_below (rl_ HO348) hb); replace BK307 := zM (bb_ BK307 hb); replace BK321 := zM (bb_ BK321 hb); replace BK326 := zM (bb_ BK326 hb); replace BK327 := zM (bb_ BK327 hb); replace BK349 := zM (bb_ BK349 hb); replace HB := zM (zB bel_ hb); (try clear hb); (try clear ho0); obtain ⟨Ao84, co84, eo84⟩ := Kd.S_slice HO354.out; subst eo84))
     go_meet
     case rel => exact ⟨_, (((t352.length : Int) != 2)), (x322000_2), (x322001_2), (x322002_2), (x322003_2), (x322004_2), (x322005_2), (x322006_2), (x322009_2), (x322010_2), (true), (x322012_2), (x322013_2), (x322014_2), (t343), (t346), (.slice Ao64 t343.length co64), (.slice Ao69 t346.length co69), (by first | rfl | (simp; done) | (simp [*]; done) | (simp; grind)), H', ⟨by have := HJ2.out; first | omega | exact Nat.le_refl _⟩, ⟨by (with_reducible repeat (first | apply Kd.R_alloc | apply Kd.R_drewN | apply Kd.R_drew)); exact Kd.R_mono HO_308007.out (fun _ hk => ⟨hk.1, hk.2.2⟩)⟩, ⟨by (with_reducible repeat (first | apply Kd.R_alloc | apply Kd.R_drewN | apply Kd.R_drew)); exact Kd.R_mono HO_308008.out (fun _ hk => ⟨hk.1.1, hk.2⟩)⟩, ⟨by (with_reducible repeat (first | apply Kd.R_alloc | apply Kd.R_drewN | apply Kd.R_drew)); exact Kd.R_mono HO_322007.out (fun _ hk => ⟨hk.1, hk.2.2⟩)⟩, ⟨by (with_reducible repeat (first | apply Kd.R_alloc | apply Kd.R_drewN | apply Kd.R_drew)); exact Kd.R_mono HO_322008.out (fun _ hk => ⟨hk.1.1, hk.2⟩)⟩, ⟨by (with_reducible repeat (first | apply Kd.R_alloc | apply Kd.R_drewN | apply Kd.R_drew)); exact Kd.R_mono HO345.out (fun _ hk => ⟨hk.1, hk.2.1⟩)⟩, ⟨by (with_reducible repeat (first | apply Kd.R_alloc | apply Kd.R_drewN | apply Kd.R_drew)); exact Kd.R_mono HO348.out (fun _ hk => ⟨hk.1.1.2, hk.1.2⟩)⟩, ⟨blf_⟩, ⟨blf_⟩, ⟨blf_⟩, ⟨bel_⟩⟩
    case rest =>
     clear HC28
     try clear c35
     try clear c39
     try clear c43
     try clear hcz73_0
     try clear hcz73_1
     try clear hcz73_2
     try clear hcz73_3
     try clear hcz73_4
     try clear hcz73_5
     try clear hcz73_6
     try clear hcz73_7
     try clear hcz73_8
     try clear hfz73_0
     try clear hfz73_1
     try clear hfz73_2
     try clear hfz73_3
     try clear hfz73_4
     try clear hfz73_5
     try clear hfz73_6
     try clear hfz73_7
     try clear hfz73_8
     obtain ⟨kq, x37_27, x322000_27, x322001_27, x322002_27, x322003_27, x322004_27, x322005_27, x322006_27, x322009_27, x322010_27, x322011_27, x322012_27, x322013_27, x322014_27, x322015_27, x322016_27, u322015, u322016, rfl, HA, HJ27, HO_308007, HO_308008, HO_322007, HO_322008, HO_322015, HO_322016, BK307, BK321, BK326, HB⟩ := hcut
     cases kq with
     | zero => exact absurd HA.out (by simp [ropewaylaw14_roundAlive.j1])
     | succ kj27 =>
      have H := HA.out
      clear HA
      simp only [ropewaylaw14_roundAlive.j1] at H
      by_cases c85 : x37_27 = true
      · subst c85
        have H1 : (some false) = some r := by rw [if_pos rfl] at H; exact H
        clear H
        have H := H1
        clear H1
        exact absurd (Option.some.inj H) (by rw [hr1_.out]; decide)
      replace c85 := Bool.eq_false_iff.mpr c85
      subst c85
      have H1 : ((view_In.f x322005_27 x322006_27 0).bind fun t356 => (if t356 = true then (if x322009_27 = true then (some false) else ((round_Round_to.f x322000_27 x322001_27 x322002_27 x322003_27 x322004_27 x322005_27 x322006_27 t315 t318 x322009_27 x322010_27 x322011_27 x322012_27 x322013_27 x322014_27 x322015_27 x322016_27 0).bind fun bt357 => ((msg_Answers.f bt357.1 bt357.2.1 bt357.2.2.1 bt357.2.2.2.1 bt357.2.2.2.2.1 bt357.2.2.2.2.2.1 bt357.2.2.2.2.2.2.1 bt357.2.2.2.2.2.2.2.1 bt357.2.2.2.2.2.2.2.2 6 0 1 1 4 7 0 ([] : List (S43)) ([] : List (S48))).bind fun t370 => (if t370 = true then ((cells_Merge.f kj27 x322015_27 ([] : List (S43))).bind fun t371 => ((book_Merge.f kj27 x322016_27 ([] : List (S48))).bind fun t374 => ((round_Round_Done.f kj27 x322000_27 x322001_27 x322002_27 x322003_27 x322004_27 x322005_27 x322006_27 t315 t318 true x322010_27 x322011_27 x322012_27 x322013_27 x322014_27 t371 t374).bind fun t377 => (if t377 = true then ((round_Round_Who.f kj27 x322000_27 x322001_27 x322002_27 x322003_27 x322004_27 x322005_27 x322006_27 t315 t318 true x322010_27 x322011_27 x322012_27 x322013_27 x322014_27 t371 t374).bind fun t378 => ((ropewayref02_SameInts.f kj27 t378 (([0, 2] : List Int))).bind fun t384 => (some t384))) else (some false))))) else (some false))))) else (some false))) = some r := by rw [if_neg (show ¬ (false = true) by decide)] at H; exact H
      clear H
      have H := H1
      clear H1
      replace H := Option.bind_eq_some_iff.mp H
      obtain ⟨t356, A860, H⟩ := H
      replace H : (if t356 = true then (if x322009_27 = true then (some false) else ((round_Round_to.f x322000_27 x322001_27 x322002_27 x322003_27 x322004_27 x322005_27 x322006_27 t315 t318 x322009_27 x322010_27 x322011_27 x322012_27 x322013_27 x322014_27 x322015_27 x322016_27 0).bind fun bt357 => ((msg_Answers.f bt357.1 bt357.2.1 bt357.2.2.1 bt357.2.2.2.1 bt357.2.2.2.2.1 bt357.2.2.2.2.2.1 bt357.2.2.2.2.2.2.1 bt357.2.2.2.2.2.2.2.1 bt357.2.2.2.2.2.2.2.2 6 0 1 1 4 7 0 ([] : List (S43)) ([] : List (S48))).bind fun t370 => (if t370 = true then ((cells_Merge.f kj27 x322015_27 ([] : List (S43))).bind fun t371 => ((book_Merge.f kj27 x322016_27 ([] : List (S48))).bind fun t374 => ((round_Round_Done.f kj27 x322000_27 x322001_27 x322002_27 x322003_27 x322004_27 x322005_27 x322006_27 t315 t318 true x322010_27 x322011_27 x322012_27 x322013_27 x322014_27 t371 t374).bind fun t377 => (if t377 = true then ((round_Round_Who.f kj27 x322000_27 x322001_27 x322002_27 x322003_27 x322004_27 x322005_27 x322006_27 t315 t318 true x322010_27 x322011_27 x322012_27 x322013_27 x322014_27 t371 t374).bind fun t378 => ((ropewayref02_SameInts.f kj27 t378 (([0, 2] : List Int))).bind fun t384 => (some t384))) else (some false))))) else (some false))))) else (some false)) = some r := H
      have A86 := zM A860
      clear A860
      by_cases c87 : t356 = true
      rotate_left
      · replace c87 := Bool.eq_false_iff.mpr c87
        subst c87
        have H1 : (some false) = some r := by rw [if_neg (show ¬ (false = true) by decide)] at H; exact H
        clear H
        have H := H1
        clear H1
        exact absurd (Option.some.inj H) (by rw [hr1_.out]; decide)
      subst c87
      have H1 : (if x322009_27 = true then (some false) else ((round_Round_to.f x322000_27 x322001_27 x322002_27 x322003_27 x322004_27 x322005_27 x322006_27 t315 t318 x322009_27 x322010_27 x322011_27 x322012_27 x322013_27 x322014_27 x322015_27 x322016_27 0).bind fun bt357 => ((msg_Answers.f bt357.1 bt357.2.1 bt357.2.2.1 bt357.2.2.2.1 bt357.2.2.2.2.1 bt357.2.2.2.2.2.1 bt357.2.2.2.2.2.2.1 bt357.2.2.2.2.2.2.2.1 bt357.2.2.2.2.2.2.2.2 6 0 1 1 4 7 0 ([] : List (S43)) ([] : List (S48))).bind fun t370 => (if t370 = true then ((cells_Merge.f kj27 x322015_27 ([] : List (S43))).bind fun t371 => ((book_Merge.f kj27 x322016_27 ([] : List (S48))).bind fun t374 => ((round_Round_Done.f kj27 x322000_27 x322001_27 x322002_27 x322003_27 x322004_27 x322005_27 x322006_27 t315 t318 true x322010_27 x322011_27 x322012_27 x322013_27 x322014_27 t371 t374).bind fun t377 => (if t377 = true then ((round_Round_Who.f kj27 x322000_27 x322001_27 x322002_27 x322003_27 x322004_27 x322005_27 x322006_27 t315 t318 true x322010_27 x322011_27 x322012_27 x322013_27 x322014_27 t371 t374).bind fun t378 => ((ropewayref02_SameInts.f kj27 t378 (([0, 2] : List Int))).bind fun t384 => (some t384))) else (some false))))) else (some false))))) = some r := by rw [if_pos rfl] at H; exact H
      clear H
      have H := H1
      clear H1
      by_cases c88 : x322009_27 = true
      · subst c88
        have H1 : (some false) = some r := by rw [if_pos rfl] at H; exact H
        clear H
        have H := H1
        clear H1
        exact absurd (Option.some.inj H) (by rw [hr1_.out]; decide)
      replace c88 := Bool.eq_false_iff.mpr c88
      subst c88
      have H1 : ((round_Round_to.f x322000_27 x322001_27 x322002_27 x322003_27 x322004_27 x322005_27 x322006_27 t315 t318 false x322010_27 x322011_27 x322012_27 x322013_27 x322014_27 x322015_27 x322016_27 0).bind fun bt357 => ((msg_Answers.f bt357.1 bt357.2.1 bt357.2.2.1 bt357.2.2.2.1 bt357.2.2.2.2.1 bt357.2.2.2.2.2.1 bt357.2.2.2.2.2.2.1 bt357.2.2.2.2.2.2.2.1 bt357.2.2.2.2.2.2.2.2 6 0 1 1 4 7 0 ([] : List (S43)) ([] : List (S48))).bind fun t370 => (if t370 = true then ((cells_Merge.f kj27 x322015_27 ([] : List (S43))).bind fun t371 => ((book_Merge.f kj27 x322016_27 ([] : List (S48))).bind fun t374 => ((round_Round_Done.f kj27 x322000_27 x322001_27 x322002_27 x322003_27 x322004_27 x322005_27 x322006_27 t315 t318 true x322010_27 x322011_27 x322012_27 x322013_27 x322014_27 t371 t374).bind fun t377 => (if t377 = true then ((round_Round_Who.f kj27 x322000_27 x322001_27 x322002_27 x322003_27 x322004_27 x322005_27 x322006_27 t315 t318 true x322010_27 x322011_27 x322012_27 x322013_27 x322014_27 t371 t374).bind fun t378 => ((ropewayref02_SameInts.f kj27 t378 (([0, 2] : List Int))).bind fun t384 => (some t384))) else (some false))))) else (some false)))) = some r := by rw [if_neg (show ¬ (false = true) by decide)] at H; exact H
      clear H
      have H := H1
      clear H1
      replace H := Option.bind_eq_some_iff.mp H
      obtain ⟨⟨t357, t358, t359, t360, t361, t362, t363, t364, t367⟩, A890, H⟩ := H
      replace H : ((msg_Answers.f t357 t358 t359 t360 t361 t362 t363 t364 t367 6 0 1 1 4 7 0 ([] : List (S43)) ([] : List (S48))).bind fun t370 => (if t370 = true then ((cells_Merge.f kj27 x322015_27 ([] : List (S43))).bind fun t371 => ((book_Merge.f kj27 x322016_27 ([] : List (S48))).bind fun t374 => ((round_Round_Done.f kj27 x322000_27 x322001_27 x322002_27 x322003_27 x322004_27 x322005_27 x322006_27 t315 t318 true x322010_27 x322011_27 x322012_27 x322013_27 x322014_27 t371 t374).bind fun t377 => (if t377 = true then ((round_Round_Who.f kj27 x322000_27 x322001_27 x322002_27 x322003_27 x322004_27 x322005_27 x322006_27 t315 t318 true x322010_27 x322011_27 x322012_27 x322013_27 x322014_27 t371 t374).bind fun t378 => ((ropewayref02_SameInts.f kj27 t378 (([0, 2] : List Int))).bind fun t384 => (some t384))) else (some false))))) else (some false))) = some r := H
      have A89 := zM A890
      clear A890
      replace H := Option.bind_eq_some_iff.mp H
      obtain ⟨t370, A900, H⟩ := H
      replace H : (if t370 = true then ((cells_Merge.f kj27 x322015_27 ([] : List (S43))).bind fun t371 => ((book_Merge.f kj27 x322016_27 ([] : List (S48))).bind fun t374 => ((round_Round_Done.f kj27 x322000_27 x322001_27 x322002_27 x322003_27 x322004_27 x322005_27 x322006_27 t315 t318 true x322010_27 x322011_27 x322012_27 x322013_27 x322014_27 t371 t374).bind fun t377 => (if t377 = true then ((round_Round_Who.f kj27 x322000_27 x322001_27 x322002_27 x322003_27 x322004_27 x322005_27 x322006_27 t315 t318 true x322010_27 x322011_27 x322012_27 x322013_27 x322014_27 t371 t374).bind fun t378 => ((ropewayref02_SameInts.f kj27 t378 (([0, 2] : List Int))).bind fun t384 => (some t384))) else (some false))))) else (some false)) = some r := H
      have A90 := zM A900
      clear A900
      by_cases c91 : t370 = true
      rotate_left
      · replace c91 := Bool.eq_false_iff.mpr c91
        subst c91
        have H1 : (some false) = some r := by rw [if_neg (show ¬ (false = true) by decide)] at H; exact H
        clear H
        have H := H1
        clear H1
        exact absurd (Option.some.inj H) (by rw [hr1_.out]; decide)
      subst c91
      have H1 : ((cells_Merge.f kj27 x322015_27 ([] : List (S43))).bind fun t371 => ((book_Merge.f kj27 x322016_27 ([] : List (S48))).bind fun t374 => ((round_Round_Done.f kj27 x322000_27 x322001_27 x322002_27 x322003_27 x322004_27 x322005_27 x322006_27 t315 t318 true x322010_27 x322011_27 x322012_27 x322013_27 x322014_27 t371 t374).bind fun t377 => (if t377 = true then ((round_Round_Who.f kj27 x322000_27 x322001_27 x322002_27 x322003_27 x322004_27 x322005_27 x322006_27 t315 t318 true x322010_27 x322011_27 x322012_27 x322013_27 x322014_27 t371 t374).bind fun t378 => ((ropewayref02_SameInts.f kj27 t378 (([0, 2] : List Int))).bind fun t384 => (some t384))) else (some false))))) = some r := by rw [if_pos rfl] at H; exact H
      clear H
      have H := H1
      clear H1
      replace H := Option.bind_eq_some_iff.mp H
      obtain ⟨t371, A920, H⟩ := H
      replace H : ((book_Merge.f kj27 x322016_27 ([] : List (S48))).bind fun t374 => ((round_Round_Done.f kj27 x322000_27 x322001_27 x322002_27 x322003_27 x322004_27 x322005_27 x322006_27 t315 t318 true x322010_27 x322011_27 x322012_27 x322013_27 x322014_27 t371 t374).bind fun t377 => (if t377 = true then ((round_Round_Who.f kj27 x322000_27 x322001_27 x322002_27 x322003_27 x322004_27 x322005_27 x322006_27 t315 t318 true x322010_27 x322011_27 x322012_27 x322013_27 x322014_27 t371 t374).bind fun t378 => ((ropewayref02_SameInts.f kj27 t378 (([0, 2] : List Int))).bind fun t384 => (some t384))) else (some false)))) = some r := H
      have A92 := zM A920
      clear A920
      replace H := Option.bind_eq_some_iff.mp H
      obtain ⟨t374, A930, H⟩ := H
      replace H : ((round_Round_Done.f kj27 x322000_27 x322001_27 x322002_27 x322003_27 x322004_27 x322005_27 x322006_27 t315 t318 true x322010_27 x322011_27 x322012_27 x322013_27 x322014_27 t371 t374).bind fun t377 => (if t377 = true then ((round_Round_Who.f kj27 x322000_27 x322001_27 x322002_27 x322003_27 x322004_27 x322005_27 x322006_27 t315 t318 true x322010_27 x322011_27 x322012_27 x322013_27 x322014_27 t371 t374).bind fun t378 => ((ropewayref02_SameInts.f kj27 t378 (([0, 2] : List Int))).bind fun t384 => (some t384))) else (some false))) = some r := H
      have A93 := zM A930
      clear A930
      replace H := Option.bind_eq_some_iff.mp H
      obtain ⟨t377, A940, H⟩ := H
      replace H : (if t377 = true then ((round_Round_Who.f kj27 x322000_27 x322001_27 x322002_27 x322003_27 x322004_27 x322005_27 x322006_27 t315 t318 true x322010_27 x322011_27 x322012_27 x322013_27 x322014_27 t371 t374).bind fun t378 => ((ropewayref02_SameInts.f kj27 t378 (([0, 2] : List Int))).bind fun t384 => (some t384))) else (some false)) = some r := H
      have A94 := zM A940
      clear A940
      by_cases c95 : t377 = true
      rotate_left
      · replace c95 := Bool.eq_false_iff.mpr c95
        subst c95
        have H1 : (some false) = some r := by rw [if_neg (show ¬ (false = true) by decide)] at H; exact H
        clear H
        have H := H1
        clear H1
        exact absurd (Option.some.inj H) (by rw [hr1_.out]; decide)
      subst c95
      have H1 : ((round_Round_Who.f kj27 x322000_27 x322001_27 x322002_27 x322003_27 x322004_27 x322005_27 x322006_27 t315 t318 true x322010_27 x322011_27 x322012_27 x322013_27 x322014_27 t371 t374).bind fun t378 => ((ropewayref02_SameInts.f kj27 t378 (([0, 2] : List Int))).bind fun t384 => (some t384))) = some r := by rw [if_pos rfl] at H; exact H
      clear H
      have H := H1
      clear H1
      replace H := Option.bind_eq_some_iff.mp H
      obtain ⟨t378, A960, H⟩ := H
      replace H : ((ropewayref02_SameInts.f kj27 t378 (([0, 2] : List Int))).bind fun t384 => (some t384)) = some r := H
      have A96 := zM A960
      clear A960
      obtain ⟨y381, hy381⟩ : ∃ y_ : List Int, y_ = (([0, 2] : List Int)) := ⟨_, rfl⟩
      replace H : ((ropewayref02_SameInts.f kj27 t378 y381).bind fun t384 => (some t384)) = some r := by first | (rw [hy381]; with_reducible exact H) | (have H2_ := (Option.bind_some _ _).symm.trans H; rw [hy381]; with_reducible exact H2_) | (have H2_ := (Option.bind_some _ _).symm.trans H; with_reducible exact H2_) | with_reducible exact H | (rw [hy381]; exact H) | exact H
      have Ny381 := zM hy381
      clear hy381
      replace H := Option.bind_eq_some_iff.mp H
      obtain ⟨t384, A970, H⟩ := H
      replace H : (some t384) = some r := H
      have A97 := zM A970
      clear A970
      obtain rfl := Option.some.inj H
      have hnb98 := NB326_307.out
      have hnc98 := NB307_326.out
      have hnb99 := NB326_321.out
      have hnc99 := NB321_326.out
      obtain ⟨hcz100_0, hcz100_1, hcz100_2, hcz100_3, hcz100_4, hcz100_5, hcz100_6, hcz100_7, hcz100_8⟩ := r9_ BK326.out
      obtain ⟨hfz100_0, hfz100_1, hfz100_2, hfz100_3, hfz100_4, hfz100_5, hfz100_6, hfz100_7, hfz100_8⟩ := f9_ BK326.out
      have tk101 : True := trivial
      have tk103 : True := trivial
      go_wp2_with (first | ((with_reducible refine gate_callee (f := 12) rfl ?_); clear tk101; refine goL_ (some 41) Try.func12 #[.pointer (some ⟨gb321, 0, none⟩), .agg #[.int .i64 6, .int .i64 0, .int .i64 1, .int .i64 1, .int .i64 4, .int .i64 7, .int .i64 0, .slice none 0 0, .slice none 0 0]] ?_; go_enter Try.func12, Try.ntmps12) | ((with_reducible refine gate_dst (N := 3) rfl ?_); clear tk103; (try (refine gate_guard (by rfl) ?_; dsimp only)); refine box_event ?hg (N := 3) ?hd (cs := #[.int .i64 6, .int .i64 0, .int .i64 1, .int .i64 1, .int .i64 4, .int .i64 7, .int .i64 0, .slice none 0 0, .slice none 0 0]) (t := 27) ?hr ?_; (case hd => rfl); (case hg => rfl); (case hr => first | (go_simp; done) | (go_simp; rfl)); intro gb355 hg w102 hbox hb; have n0_ := zM (Kd.R_below (by (with_reducible repeat (first | apply Kd.R_alloc | apply Kd.R_drewN | apply Kd.R_drew)); exact (Kd.R_mono (Kd.R_far (p := ⟨gb326, 1, none⟩) (Kd.R_types HO_308007.out BK326.out (by decide)) (fun _ hk => hk.2) (.int .i64 0)) (fun _ h_ => h_.1))) hb); have n1_ := zM (Kd.R_below (by (with_reducible repeat (first | apply Kd.R_alloc | apply Kd.R_drewN | apply Kd.R_drew)); exact (Kd.R_mono (Kd.R_far (p := ⟨gb326, 1, none⟩) (Kd.R_types HO_308008.out BK326.out (by decide)) (fun _ hk => hk.2) (.int .i64 0)) (fun _ h_ => h_.1))) hb); have n2_ := zM (Kd.R_below (by (with_reducible repeat (first | apply Kd.R_alloc | apply Kd.R_drewN | apply Kd.R_drew)); exact (Kd.R_mono (Kd.R_far (p := ⟨gb326, 1, none⟩) (Kd.R_types HO_322007.out BK326.out (by decide)) (fun _ hk => hk.2) (.int .i64 0)) (fun _ h_ => h_.1))) hb); have n3_ := zM (Kd.R_below (by (with_reducible repeat (first | apply Kd.R_alloc | apply Kd.R_drewN | apply Kd.R_drew)); exact (Kd.R_mono (Kd.R_far (p := ⟨gb326, 1, none⟩) (Kd.R_types HO_322008.out BK326.out (by decide)) (fun _ hk => hk.2) (.int .i64 0)) (fun _ h_ => h_.1))) hb); have n4_ := zM (Kd.R_below (by (with_reducible repeat (first | apply Kd.R_alloc | apply Kd.R_drewN | apply Kd.R_drew)); exact (Kd.R_mono (Kd.R_far (p := ⟨gb326, 1, none⟩) (Kd.R_types HO_322015.out BK326.out (by decide)) (fun _ hk => hk.2) (.int .i64 0)) (fun _ h_ => h_.1))) hb); have n5_ := zM (Kd.R_below (by (with_reducible repeat (first | apply Kd.R_alloc | apply Kd.R_drewN | apply Kd.R_drew)); exact (Kd.R_mono (Kd.R_far (p := ⟨gb326, 1, none⟩) (Kd.R_types HO_322016.out BK326.out (by decide)) (fun _ hk => hk.2) (.int .i64 0)) (fun _ h_ => h_.1))) hb); have n6_ := zM (blk_below (g := gb307) (o := .cells #[.int .i64 t294, .int .i64 t295, .int .i64 t296, .int .i64 t297, .int .i64 t298, .int .i64 t299, .int .i64 t300, .slice Ao6 t301.length co6, .slice Ao7 t304.length co7] 27 (0, 0)) blf_ hb); have n7_ := zM (blk_below (g := gb321) (o := .cells #[.int .i64 x322000_27, .int .i64 x322001_27, .int .i64 x322002_27, .int .i64 x322003_27, .int .i64 x322004_27, .int .i64 x322005_27, .int .i64 x322006_27, .slice Ao15 t315.length co15, .slice Ao14 t318.length co14, .bool false, .bool x322010_27, .bool x322011_27, .bool x322012_27, .bool x322013_27, .bool x322014_27, u322015, u322016] 71 (0, 0)) blf_ hb); have n8_ := zM (blk_below (g := gb326) (o := .cells #[.int .i64 6, .int .i64 0, .int .i64 1, .int .i64 1, .int .i64 4, .int .i64 7, .int .i64 0, .slice none 0 0, .slice none 0 0] 27 (0, 0)) (by (with_reducible repeat (first | refine zN ?_ _ | refine zD ?_ | refine zA ?_ _)); refine blk_put (cs := #[.int .i64 6, .int .i64 2, .int .i64 1, .int .i64 1, .int .i64 4, .int .i64 7, .int .i64 0, .slice none 0 0, .slice none 0 0]) ?_ 1 _ rfl; (with_reducible repeat (first | refine zN ?_ _ | refine zD ?_ | refine zA ?_ _)); exact BK326.out) hb); have n9_ := zM (zB bel_ hb); have n10_ := zM (hbox); have n11_ := zM (bs_ hg); have n12_ := zM (bs_ hg); have n13_ := zM ((by rw [hg]; exact Nat.ne_of_lt (blk_lt (g := gb307) (o := .cells #[.int .i64 t294, .int .i64 t295, .int .i64 t296, .int .i64 t297, .int .i64 t298, .int .i64 t299, .int .i64 t300, .slice Ao6 t301.length co6, .slice Ao7 t304.length co7] 27 (0, 0)) blf_) : gb307 ≠ gb355)); have n14_ := zM ((by rw [hg]; exact Nat.ne_of_gt (blk_lt (g := gb307) (o := .cells #[.int .i64 t294, .int .i64 t295, .int .i64 t296, .int .i64 t297, .int .i64 t298, .int .i64 t299, .int .i64 t300, .slice Ao6 t301.length co6, .slice Ao7 t304.length co7] 27 (0, 0)) blf_) : gb355 ≠ gb307)); have n15_ := zM ((by rw [hg]; exact Nat.ne_of_lt (blk_lt (g := gb321) (o := .cells #[.int .i64 x322000_27, .int .i64 x322001_27, .int .i64 x322002_27, .int .i64 x322003_27, .int .i64 x322004_27, .int .i64 x322005_27, .int .i64 x322006_27, .slice Ao15 t315.length co15, .slice Ao14 t318.length co14, .bool false, .bool x322010_27, .bool x322011_27, .bool x322012_27, .bool x322013_27, .bool x322014_27, u322015, u322016] 71 (0, 0)) blf_) : gb321 ≠ gb355)); have n16_ := zM ((by rw [hg]; exact Nat.ne_of_gt (blk_lt (g := gb321) (o := .cells #[.int .i64 x322000_27, .int .i64 x322001_27, .int .i64 x322002_27, .int .i64 x322003_27, .int .i64 x322004_27, .int .i64 x322005_27, .int .i64 x322006_27, .slice Ao15 t315.length co15, .slice Ao14 t318.length co14, .bool false, .bool x322010_27, .bool x322011_27, .bool x322012_27, .bool x322013_27, .bool x322014_27, u322015, u322016] 71 (0, 0)) blf_) : gb355 ≠ gb321)); have n17_ := zM ((by rw [hg]; exact Nat.ne_of_lt (blk_lt (g := gb326) (o := .cells #[.int .i64 6, .int .i64 0, .int .i64 1, .int .i64 1, .int .i64 4, .int .i64 7, .int .i64 0, .slice none 0 0, .slice none 0 0] 27 (0, 0)) (by (with_reducible repeat (first | refine zN ?_ _ | refine zD ?_ | refine zA ?_ _)); refine blk_put (cs := #[.int .i64 6, .int .i64 2, .int .i64 1, .int .i64 1, .int .i64 4, .int .i64 7, .int .i64 0, .slice none 0 0, .slice none 0 0]) ?_ 1 _ rfl; (with_reducible repeat (first | refine zN ?_ _ | refine zD ?_ | refine zA ?_ _)); exact BK326.out)) : gb326 ≠ gb355)); have n18_ := zM ((by rw [hg]; exact Nat.ne_of_gt (blk_lt (g := gb326) (o := .cells #[.int .i64 6, .int .i64 0, .int .i64 1, .int .i64 1, .int .i64 4, .int .i64 7, .int .i64 0, .slice none 0 0, .slice none 0 0] 27 (0, 0)) (by (with_reducible repeat (first | refine zN ?_ _ | refine zD ?_ | refine zA ?_ _)); refine blk_put (cs := #[.int .i64 6, .int .i64 2, .int .i64 1, .int .i64 1, .int .i64 4, .int .i64 7, .int .i64 0, .slice none 0 0, .slice none 0 0]) ?_ 1 _ rfl; (with_reducible repeat (first | refine zN ?_ _ | refine zD ?_ | refine zA ?_ _)); exact BK326.out)) : gb355 ≠ gb326)); clear HO_308007; clear HO_308008; clear HO_322007; clear HO_322008; clear HO_322015; clear HO_322016; clear BK307; clear BK321; clear BK326; clear HB; have HO_308007 := n0_; have HO_308008 := n1_; have HO_322007 := n2_; have HO_322008 := n3_; have HO_322015 := n4_; have HO_322016 := n5_; have BK307 := n6_; have BK321 := n7_; have BK326 := n8_; have HB := n9_; have BK355 := n10_; have GW355 := n11_; have GE355 := n12_; have NB307_355 := n13_; have NB355_307 := n14_; have NB321_355 := n15_; have NB355_321 := n16_; have NB326_355 := n17_; have NB355_326 := n18_; clear n0_ n1_ n2_ n3_ n4_ n5_ n6_ n7_ n8_ n9_ n10_ n11_ n12_ n13_ n14_ n15_ n16_ n17_ n18_; clear hb hbox hg))
      replace HO_308007 := zM (Kd.R_drew HO_308007.out)
      replace HO_308008 := zM (Kd.R_drew HO_308008.out)
      replace HO_322007 := zM (Kd.R_drew HO_322007.out)
      replace HO_322008 := zM (Kd.R_drew HO_322008.out)
      replace HO_322015 := zM (Kd.R_drew HO_322015.out)
      replace HO_322016 := zM (Kd.R_drew HO_322016.out)
      replace BK307 := zM (zD BK307.out)
      replace BK321 := zM (zD BK321.out)
      replace BK326 := zM (zD BK326.out)
      replace BK355 := zM (zD BK355.out)
      replace HB := zM (below_drew1 HB.out)
      refine start_ (n := 27) (S := fun w' => w'.cell? ⟨gb321, 0, none⟩ = some (.int .i64 x322000_27) ∧ w'.cell? ⟨gb321, 1, none⟩ = some (.int .i64 x322001_27) ∧ w'.cell? ⟨gb321, 2, none⟩ = some (.int .i64 x322002_27) ∧ w'.cell? ⟨gb321, 3, none⟩ = some (.int .i64 x322003_27) ∧ w'.cell? ⟨gb321, 4, none⟩ = some (.int .i64 x322004_27) ∧ w'.cell? ⟨gb321, 5, none⟩ = some (.int .i64 x322005_27) ∧ w'.cell? ⟨gb321, 6, none⟩ = some (.int .i64 x322006_27) ∧ w'.cell? ⟨gb321, 7, none⟩ = some (.slice Ao15 t315.length co15) ∧ w'.cell? ⟨gb321, 8, none⟩ = some (.slice Ao14 t318.length co14) ∧ w'.cell? ⟨gb321, 9, none⟩ = some (.bool false) ∧ w'.cell? ⟨gb321, 10, none⟩ = some (.bool x322010_27) ∧ w'.cell? ⟨gb321, 11, none⟩ = some (.bool x322011_27) ∧ w'.cell? ⟨gb321, 12, none⟩ = some (.bool x322012_27) ∧ w'.cell? ⟨gb321, 13, none⟩ = some (.bool x322013_27) ∧ w'.cell? ⟨gb321, 14, none⟩ = some (.bool x322014_27) ∧ w'.cell? ⟨gb321, 15, none⟩ = some (u322015) ∧ w'.cell? ⟨gb321, 16, none⟩ = some (u322016) ∧ w'.cell? ⟨gb355, 0, none⟩ = some (.int .i64 6) ∧ w'.cell? ⟨gb355, 1, none⟩ = some (.int .i64 0) ∧ w'.cell? ⟨gb355, 2, none⟩ = some (.int .i64 1) ∧ w'.cell? ⟨gb355, 3, none⟩ = some (.int .i64 1) ∧ w'.cell? ⟨gb355, 4, none⟩ = some (.int .i64 4) ∧ w'.cell? ⟨gb355, 5, none⟩ = some (.int .i64 7) ∧ w'.cell? ⟨gb355, 6, none⟩ = some (.int .i64 0) ∧ w'.cell? ⟨gb355, 7, none⟩ = some (.slice none 0 0) ∧ w'.cell? ⟨gb355, 8, none⟩ = some (.slice none 0 0)) (ds := []) #[F_, F_, F_, F_, F_, F_, F_, F_, F_, F_, F_, F_, F_, F_, F_, F_, F_, F_, F_, F_, F_, F_, F_, F_, F_, F_, F_] (by kernel_rfl) rfl rfl ⟨(zL BK321.out 0).trans rfl, (zL BK321.out 1).trans rfl, (zL BK321.out 2).trans rfl, (zL BK321.out 3).trans rfl, (zL BK321.out 4).trans rfl, (zL BK321.out 5).trans rfl, (zL BK321.out 6).trans rfl, (zL BK321.out 7).trans rfl, (zL BK321.out 8).trans rfl, (zL BK321.out 9).trans rfl, (zL BK321.out 10).trans rfl, (zL BK321.out 11).trans rfl, (zL BK321.out 12).trans rfl, (zL BK321.out 13).trans rfl, (zL BK321.out 14).trans rfl, (zL BK321.out 15).trans rfl, (zL BK321.out 16).trans rfl, (zL BK355.out 0).trans rfl, (zL BK355.out 1).trans rfl, (zL BK355.out 2).trans rfl, (zL BK355.out 3).trans rfl, (zL BK355.out 4).trans rfl, (zL BK355.out 5).trans rfl, (zL BK355.out 6).trans rfl, (zL BK355.out 7).trans rfl, (zL BK355.out 8).trans rfl⟩ (fun hHeld => ?_)
      generalize w102.drew = w104 at HO_308007 HO_308008 HO_322007 HO_322008 HO_322015 HO_322016 BK307 BK321 BK326 BK355 HB hHeld ⊢
      refine pu_ 0 5 (dm_ 27 1) ?_
      refine pu_ 1 6 (dm_ 27 3) ?_
      refine pu_ 2 7 (dm_ 27 7) ?_
      refine pu_ 3 8 (dm_ 27 15) ?_
      refine pu_ 5 10 (dm_ 27 47) ?_
      refine tk_ hHeld 4 9 (dm_ 27 63) ?_
      refine tk_ hHeld 6 11 (dm_ 27 127) ?_
      refine one_ (i := 7) (N := some 12) (dm_ 27 255) rfl rfl (by kernel_rfl) (by decide) (fun K hK => ?_)
      refine goes_ Try.func37 (by kernel_rfl) rfl #[.agg #[.int .i64 x322005_27, .int .i64 x322006_27], .int .i64 0] (by rfl) rfl rfl (by (try simp only [List.map_toArray, List.map_cons, List.map_nil]); first | done | rfl | (simp only [List.length_drop, List.length_take]; rfl)) ?_
      with_reducible refine (view_In.calls x322005_27 x322006_27 0 true _ A86.out).mono ?_
      rintro e w105 ⟨rfl, hb⟩
      refine ⟨_, rfl, ?_⟩
      replace HO_308007 := zM (Kd.R_below (rl_ HO_308007) hb)
      replace HO_308008 := zM (Kd.R_below (rl_ HO_308008) hb)
      replace HO_322007 := zM (Kd.R_below (rl_ HO_322007) hb)
      replace HO_322008 := zM (Kd.R_below (rl_ HO_322008) hb)
      replace HO_322015 := zM (Kd.R_below (rl_ HO_322015) hb)
      replace HO_322016 := zM (Kd.R_below (rl_ HO_322016) hb)
      replace BK307 := zM (bb_ BK307 hb)
      replace BK321 := zM (bb_ BK321 hb)
      replace BK326 := zM (bb_ BK326 hb)
      replace BK355 := zM (bb_ BK355 hb)
      replace HB := zM (zB bel_ hb)
      (try clear hb)
      (try clear hb2)
      (try clear hk)
      (try clear hi)
      obtain ⟨Ao106, co106, eo106⟩ := Kd.R_slice HO_322015.out
      (first | subst eo106 | (injection eo106 with f1_ f2_ f3_; have f4_ := f1_.symm; have f5_ := f3_.symm; clear f1_ f2_ f3_; subst f4_; subst f5_))
      obtain ⟨Ao107, co107, eo107⟩ := Kd.R_slice HO_322016.out
      (first | subst eo107 | (injection eo107 with f1_ f2_ f3_; have f4_ := f1_.symm; have f5_ := f3_.symm; clear f1_ f2_ f3_; subst f4_; subst f5_))
      refine hK.out _ _ ⟨(zL BK321.out 0).trans rfl, (zL BK321.out 1).trans rfl, (zL BK321.out 2).trans rfl, (zL BK321.out 3).trans rfl, (zL BK321.out 4).trans rfl, (zL BK321.out 5).trans rfl, (zL BK321.out 6).trans rfl, (zL BK321.out 7).trans rfl, (zL BK321.out 8).trans rfl, (zL BK321.out 9).trans rfl, (zL BK321.out 10).trans rfl, (zL BK321.out 11).trans rfl, (zL BK321.out 12).trans rfl, (zL BK321.out 13).trans rfl, (zL BK321.out 14).trans rfl, (zL BK321.out 15).trans rfl, (zL BK321.out 16).trans rfl, (zL BK355.out 0).trans rfl, (zL BK355.out 1).trans rfl, (zL BK355.out 2).trans rfl, (zL BK355.out 3).trans rfl, (zL BK355.out 4).trans rfl, (zL BK355.out 5).trans rfl, (zL BK355.out 6).trans rfl, (zL BK355.out 7).trans rfl, (zL BK355.out 8).trans rfl⟩ (fun hHeld => ?_)
      clear hK K
      refine norm_ (a' := ?_) ?_ ?_
      rotate_left
      · show Act.put _ (some 12) _ = _
        simp only [Act.put, zS, zZ, zC, i64_w, i32_w]
        rfl
      refine pu_ 8 13 (dm_ 27 511) ?_
      refine pu_ 9 14 (dm_ 27 1023) ?_
      refine pu_ 10 15 (dm_ 27 2047) ?_
      refine pu_ 11 16 (dm_ 27 4095) ?_
      refine pu_ 13 18 (dm_ 27 12287) ?_
      refine pu_ 14 19 (dm_ 27 28671) ?_
      refine tk_ hHeld 12 17 (dm_ 27 32767) ?_
      refine pu_ 15 20 (dm_ 27 65535) ?_
      refine tk_ hHeld 16 21 (dm_ 27 131071) ?_
      refine pu_ 17 22 (dm_ 27 262143) ?_
      refine pu_ 18 23 (dm_ 27 524287) ?_
      refine pu_ 19 24 (dm_ 27 1048575) ?_
      refine pu_ 20 25 (dm_ 27 2097151) ?_
      refine tk_ hHeld 21 26 (dm_ 27 4194303) ?_
      refine tk_ hHeld 23 28 (dm_ 27 12582911) ?_
      refine one_ (i := 22) (N := some 27) (dm_ 27 16777215) rfl rfl (by kernel_rfl) (by decide) (fun K hK => ?_)
      refine goes_ Try.func41 (by kernel_rfl) rfl #[.pointer (some ⟨gb321, 0, none⟩), .int .i64 0] (by rfl) rfl rfl (by (try simp only [List.map_toArray, List.map_cons, List.map_nil]); first | done | rfl | (simp only [List.length_drop, List.length_take]; rfl)) ?_
      with_reducible refine (round_Round_to.calls gb321 x322000_27 x322001_27 x322002_27 x322003_27 x322004_27 x322005_27 x322006_27 Ao15 co15 t315 Ao14 co14 t318 false x322010_27 x322011_27 x322012_27 x322013_27 x322014_27 Ao106 co106 x322015_27 Ao107 co107 x322016_27 0 t357 t358 t359 t360 t361 t362 t363 t364 t367 _ ?side1 ?side2 ?side3 ?side4 ?side5 ?side6 ?side7 ?side8 ?side9 A89.out).mono ?_
      (case side1 => repeat (first | exact (Kd.R_reads' HO_322007.out).2.2 | (with_reducible refine Kd.C_alloc ?_ _) | (with_reducible refine Kd.C_drewN ?_ _) | (with_reducible refine Kd.C_drew ?_)))
      (case side2 => exact (Kd.R_reads' HO_322007.out).2.1)
      (case side3 => repeat (first | exact (Kd.R_reads' HO_322008.out).2.2 | (with_reducible refine Kd.C_alloc ?_ _) | (with_reducible refine Kd.C_drewN ?_ _) | (with_reducible refine Kd.C_drew ?_)))
      (case side4 => exact (Kd.R_reads' HO_322008.out).2.1)
      (case side5 => repeat (first | exact (Kd.R_reads' HO_322015.out).2.2 | (with_reducible refine Kd.C_alloc ?_ _) | (with_reducible refine Kd.C_drewN ?_ _) | (with_reducible refine Kd.C_drew ?_)))
      (case side6 => exact (Kd.R_reads' HO_322015.out).2.1)
      (case side7 => repeat (first | exact (Kd.R_reads' HO_322016.out).2.2 | (with_reducible refine Kd.C_alloc ?_ _) | (with_reducible refine Kd.C_drewN ?_ _) | (with_reducible refine Kd.C_drew ?_)))
      (case side8 => exact (Kd.R_reads' HO_322016.out).2.1)
      (case side9 => exact blf_)
      rintro e w108 ⟨v365, v368, rfl, ho0, ho1, hb⟩
      refine ⟨_, rfl, ?_⟩
      have HO366 := zM (Kd.R_lower (Kd.R_new' (Kd.R_new' (Kd.R_new' ho0 (Kd.R_lt (rl_ HO_308007))) (Kd.R_lt (rl_ HO_322007))) (Kd.R_lt (rl_ HO_322015))) (below_size bel_))
      replace HO_308007 := zM (Kd.R_elder' (rl_ HO_308007) (Kd.R_base ho0) hb)
      replace HO_322007 := zM (Kd.R_elder' (rl_ HO_322007) (Kd.R_base ho0) hb)
      replace HO_322015 := zM (Kd.R_elder' (rl_ HO_322015) (Kd.R_base ho0) hb)
      have HO369 := zM (Kd.R_lower (Kd.R_new' (Kd.R_new' (Kd.R_new' ho1 (Kd.R_lt (rl_ HO_308008))) (Kd.R_lt (rl_ HO_322008))) (Kd.R_lt (rl_ HO_322016))) (below_size bel_))
      replace HO_308008 := zM (Kd.R_elder' (rl_ HO_308008) (Kd.R_base ho1) hb)
      replace HO_322008 := zM (Kd.R_elder' (rl_ HO_322008) (Kd.R_base ho1) hb)
      replace HO_322016 := zM (Kd.R_elder' (rl_ HO_322016) (Kd.R_base ho1) hb)
      replace BK307 := zM (bb_ BK307 hb)
      replace BK321 := zM (bb_ BK321 hb)
      replace BK326 := zM (bb_ BK326 hb)
      replace BK355 := zM (bb_ BK355 hb)
      replace HB := zM (zB bel_ hb)
      (try clear hb)
      (try clear hb2)
      (try clear hk)
      (try clear hi)
      (try clear ho0)
      (try clear ho1)
      obtain ⟨Ao109, co109, eo109⟩ := Kd.R_slice HO366.out
      (first | subst eo109 | (injection eo109 with f1_ f2_ f3_; have f4_ := f1_.symm; have f5_ := f3_.symm; clear f1_ f2_ f3_; subst f4_; subst f5_))
      obtain ⟨Ao110, co110, eo110⟩ := Kd.R_slice HO369.out
      (first | subst eo110 | (injection eo110 with f1_ f2_ f3_; have f4_ := f1_.symm; have f5_ := f3_.symm; clear f1_ f2_ f3_; subst f4_; subst f5_))
      refine hK.out _ _ ⟨(zL BK321.out 0).trans rfl, (zL BK321.out 1).trans rfl, (zL BK321.out 2).trans rfl, (zL BK321.out 3).trans rfl, (zL BK321.out 4).trans rfl, (zL BK321.out 5).trans rfl, (zL BK321.out 6).trans rfl, (zL BK321.out 7).trans rfl, (zL BK321.out 8).trans rfl, (zL BK321.out 9).trans rfl, (zL BK321.out 10).trans rfl, (zL BK321.out 11).trans rfl, (zL BK321.out 12).trans rfl, (zL BK321.out 13).trans rfl, (zL BK321.out 14).trans rfl, (zL BK321.out 15).trans rfl, (zL BK321.out 16).trans rfl, (zL BK355.out 0).trans rfl, (zL BK355.out 1).trans rfl, (zL BK355.out 2).trans rfl, (zL BK355.out 3).trans rfl, (zL BK355.out 4).trans rfl, (zL BK355.out 5).trans rfl, (zL BK355.out 6).trans rfl, (zL BK355.out 7).trans rfl, (zL BK355.out 8).trans rfl⟩ (fun hHeld => ?_)
      clear hK K
      refine norm_ (a' := ?_) ?_ ?_
      rotate_left
      · show Act.put _ (some 27) _ = _
        simp only [Act.put, zS, zZ, zC, i64_w, i32_w]
        rfl
      refine one_ (i := 24) (N := some 29) (dm_ 27 33554431) rfl rfl (by kernel_rfl) (by decide) (fun K hK => ?_)
      refine goes_ Try.func40 (by kernel_rfl) rfl #[.agg #[.int .i64 t357, .int .i64 t358, .int .i64 t359, .int .i64 t360, .int .i64 t361, .int .i64 t362, .int .i64 t363, .slice Ao109 t364.length co109, .slice Ao110 t367.length co110], .agg #[.int .i64 6, .int .i64 0, .int .i64 1, .int .i64 1, .int .i64 4, .int .i64 7, .int .i64 0, .slice none 0 0, .slice none 0 0]] (by rfl) rfl rfl (by (try simp only [List.map_toArray, List.map_cons, List.map_nil]); first | done | rfl | (simp only [List.length_drop, List.length_take]; rfl)) ?_
      refine (msg_Answers.calls t357 t358 t359 t360 t361 t362 t363 _ _ t364 _ _ t367 6 0 1 1 4 7 0 _ _ ([] : List (S43)) _ _ ([] : List (S48)) true _ ?side1 ?side2 ?side3 ?side4 ?side5 ?side6 ?side7 ?side8 A90.out).mono ?_
      (case side1 => repeat (first | exact (Kd.R_reads' HO366.out).2.2 | (with_reducible refine Kd.C_alloc ?_ _) | (with_reducible refine Kd.C_drewN ?_ _) | (with_reducible refine Kd.C_drew ?_)))
      (case side2 => exact (Kd.R_reads' HO366.out).2.1)
      (case side3 => repeat (first | exact (Kd.R_reads' HO369.out).2.2 | (with_reducible refine Kd.C_alloc ?_ _) | (with_reducible refine Kd.C_drewN ?_ _) | (with_reducible refine Kd.C_drew ?_)))
      (case side4 => exact (Kd.R_reads' HO369.out).2.1)
      (case side5 => exact Kd.C_nil _ _)
      (case side6 => exact Nat.le_refl _)
      (case side7 => exact Kd.C_nil _ _)
      (case side8 => exact Nat.le_refl _)
      rintro e w111 ⟨rfl, hb⟩
      refine ⟨_, rfl, ?_⟩
      replace HO_308007 := zM (Kd.R_below (rl_ HO_308007) hb)
      replace HO_308008 := zM (Kd.R_below (rl_ HO_308008) hb)
      replace HO_322007 := zM (Kd.R_below (rl_ HO_322007) hb)
      replace HO_322008 := zM (Kd.R_below (rl_ HO_322008) hb)
      replace HO_322015 := zM (Kd.R_below (rl_ HO_322015) hb)
      replace HO_322016 := zM (Kd.R_below (rl_ HO_322016) hb)
      replace HO366 := zM (Kd.R_below (rl_ HO366) hb)
      replace HO369 := zM (Kd.R_below (rl_ HO369) hb)
      replace BK307 := zM (bb_ BK307 hb)
      replace BK321 := zM (bb_ BK321 hb)
      replace BK326 := zM (bb_ BK326 hb)
      replace BK355 := zM (bb_ BK355 hb)
      replace HB := zM (zB bel_ hb)
      (try clear hb)
      (try clear hb2)
      (try clear hk)
      (try clear hi)
      refine hK.out _ _ ⟨(zL BK321.out 0).trans rfl, (zL BK321.out 1).trans rfl, (zL BK321.out 2).trans rfl, (zL BK321.out 3).trans rfl, (zL BK321.out 4).trans rfl, (zL BK321.out 5).trans rfl, (zL BK321.out 6).trans rfl, (zL BK321.out 7).trans rfl, (zL BK321.out 8).trans rfl, (zL BK321.out 9).trans rfl, (zL BK321.out 10).trans rfl, (zL BK321.out 11).trans rfl, (zL BK321.out 12).trans rfl, (zL BK321.out 13).trans rfl, (zL BK321.out 14).trans rfl, (zL BK321.out 15).trans rfl, (zL BK321.out 16).trans rfl, (zL BK355.out 0).trans rfl, (zL BK355.out 1).trans rfl, (zL BK355.out 2).trans rfl, (zL BK355.out 3).trans rfl, (zL BK355.out 4).trans rfl, (zL BK355.out 5).trans rfl, (zL BK355.out 6).trans rfl, (zL BK355.out 7).trans rfl, (zL BK355.out 8).trans rfl⟩ (fun hHeld => ?_)
      clear hK K
      refine norm_ (a' := ?_) ?_ ?_
      rotate_left
      · show Act.put _ (some 29) _ = _
        simp only [Act.put, zS, zZ, zC, i64_w, i32_w]
        rfl
      refine pu_ 25 30 (dm_ 27 67108863) ?_
      refine pu_ 26 31 (dm_ 27 134217727) ?_
      refine done_ (by kernel_rfl) ?_
      go_wp2
      replace HO_308007 := zM (Kd.R_drew HO_308007.out)
      replace HO_308008 := zM (Kd.R_drew HO_308008.out)
      replace HO_322007 := zM (Kd.R_drew HO_322007.out)
      replace HO_322008 := zM (Kd.R_drew HO_322008.out)
      replace HO_322015 := zM (Kd.R_drew HO_322015.out)
      replace HO_322016 := zM (Kd.R_drew HO_322016.out)
      replace HO366 := zM (Kd.R_drew HO366.out)
      replace HO369 := zM (Kd.R_drew HO369.out)
      replace BK307 := zM (zD BK307.out)
      replace BK321 := zM (zD BK321.out)
      replace BK326 := zM (zD BK326.out)
      replace BK355 := zM (zD BK355.out)
      replace HB := zM (below_drew1 HB.out)
      refine start_ (n := 7) (S := fun w' => w'.cell? ⟨gb355, 0, none⟩ = some (.int .i64 6) ∧ w'.cell? ⟨gb355, 1, none⟩ = some (.int .i64 0) ∧ w'.cell? ⟨gb355, 2, none⟩ = some (.int .i64 1) ∧ w'.cell? ⟨gb355, 3, none⟩ = some (.int .i64 1) ∧ w'.cell? ⟨gb355, 4, none⟩ = some (.int .i64 4) ∧ w'.cell? ⟨gb355, 5, none⟩ = some (.int .i64 7) ∧ w'.cell? ⟨gb355, 6, none⟩ = some (.int .i64 0) ∧ w'.cell? ⟨gb355, 7, none⟩ = some (.slice none 0 0) ∧ w'.cell? ⟨gb355, 8, none⟩ = some (.slice none 0 0)) (ds := []) #[F_, F_, F_, F_, F_, F_, F_] (by kernel_rfl) rfl rfl ⟨(zL BK355.out 0).trans rfl, (zL BK355.out 1).trans rfl, (zL BK355.out 2).trans rfl, (zL BK355.out 3).trans rfl, (zL BK355.out 4).trans rfl, (zL BK355.out 5).trans rfl, (zL BK355.out 6).trans rfl, (zL BK355.out 7).trans rfl, (zL BK355.out 8).trans rfl⟩ (fun hHeld => ?_)
      generalize w111.drew = w112 at HO_308007 HO_308008 HO_322007 HO_322008 HO_322015 HO_322016 HO366 HO369 BK307 BK321 BK326 BK355 HB hHeld ⊢
      refine pu_ 0 32 (dm_ 7 1) ?_
      refine pu_ 1 33 (dm_ 7 3) ?_
      refine pu_ 3 35 (dm_ 7 11) ?_
      refine pu_ 4 36 (dm_ 7 27) ?_
      refine tk_ hHeld 2 34 (dm_ 7 31) ?_
      refine pu_ 5 37 (dm_ 7 63) ?_
      refine one_ (i := 6) (N := none) (dm_ 7 127) rfl rfl (by kernel_rfl) (by decide) (fun K hK => ?_)
      have hs113 : w112.cell? ⟨gb321, 9, none⟩ = some (.bool false) := (zL BK321.out 9).trans rfl
      have hfs113 := zF BK321.out 9
      have hns113_0 := NB307_321.out
      have hns113_2 := NB326_321.out
      have hns113_3 := NB355_321.out
      have hms113_0 := NB321_307.out
      have hms113_2 := NB321_326.out
      have hms113_3 := NB321_355.out
      refine skip_ (w1 := ?_) (by rfl) rfl ?_ ?_
      rotate_left
      · go_simp
        rfl
      refine hK.out _ _ ⟨((cell_far (p := ⟨gb321, _, none⟩) NB355_321.out _).trans (hHeld.1)), ((cell_far (p := ⟨gb321, _, none⟩) NB355_321.out _).trans (hHeld.2.1)), ((cell_far (p := ⟨gb321, _, none⟩) NB355_321.out _).trans (hHeld.2.2.1)), ((cell_far (p := ⟨gb321, _, none⟩) NB355_321.out _).trans (hHeld.2.2.2.1)), ((cell_far (p := ⟨gb321, _, none⟩) NB355_321.out _).trans (hHeld.2.2.2.2.1)), ((cell_far (p := ⟨gb321, _, none⟩) NB355_321.out _).trans (hHeld.2.2.2.2.2.1)), ((cell_far (p := ⟨gb321, _, none⟩) NB355_321.out _).trans (hHeld.2.2.2.2.2.2.1)), ((cell_far (p := ⟨gb321, _, none⟩) NB355_321.out _).trans (hHeld.2.2.2.2.2.2.2.1)), ((cell_far (p := ⟨gb321, _, none⟩) NB355_321.out _).trans (hHeld.2.2.2.2.2.2.2.2))⟩ (fun hHeld => ?_)
      clear hK K
      refine done_ (by kernel_rfl) ?_
      go_wp2
      have n0_ : Aside0 (Kd.R k43 43 (w112.setCell ⟨gb321, 9, none⟩ (.bool true)) w.heap.size (fun k_ => some k_ ≠ (.slice Ao15 t315.length co15 : Value).ownBlock ∧ some k_ ≠ (.slice Ao106 x322015_27.length co106 : Value).ownBlock ∧ some k_ ≠ (.slice Ao109 t364.length co109 : Value).ownBlock) (.slice Ao6 t301.length co6) t301) := ⟨by (with_reducible repeat (first | apply Kd.R_alloc | apply Kd.R_drewN | apply Kd.R_drew)); exact Kd.R_mono (Kd.R_far (p := ⟨gb321, 9, none⟩) (Kd.R_types HO_308007.out BK321.out (by decide)) (fun _ hk => hk.2) (.bool true)) (fun _ hk => ⟨hk.1.1.1, ⟨hk.1.1.2, hk.1.2⟩⟩)⟩
      have n1_ : Aside0 (Kd.R k48 48 (w112.setCell ⟨gb321, 9, none⟩ (.bool true)) w.heap.size (fun k_ => some k_ ≠ (.slice Ao14 t318.length co14 : Value).ownBlock ∧ some k_ ≠ (.slice Ao107 x322016_27.length co107 : Value).ownBlock ∧ some k_ ≠ (.slice Ao110 t367.length co110 : Value).ownBlock) (.slice Ao7 t304.length co7) t304) := ⟨by (with_reducible repeat (first | apply Kd.R_alloc | apply Kd.R_drewN | apply Kd.R_drew)); exact Kd.R_mono (Kd.R_far (p := ⟨gb321, 9, none⟩) (Kd.R_types HO_308008.out BK321.out (by decide)) (fun _ hk => hk.2) (.bool true)) (fun _ hk => ⟨hk.1.1.1, ⟨hk.1.1.2, hk.1.2⟩⟩)⟩
      have n2_ : Aside0 (Kd.R k43 43 (w112.setCell ⟨gb321, 9, none⟩ (.bool true)) w.heap.size (fun k_ => some k_ ≠ (.slice Ao6 t301.length co6 : Value).ownBlock ∧ some k_ ≠ (.slice Ao106 x322015_27.length co106 : Value).ownBlock ∧ some k_ ≠ (.slice Ao109 t364.length co109 : Value).ownBlock) (.slice Ao15 t315.length co15) t315) := ⟨by (with_reducible repeat (first | apply Kd.R_alloc | apply Kd.R_drewN | apply Kd.R_drew)); exact Kd.R_mono (Kd.R_far (p := ⟨gb321, 9, none⟩) (Kd.R_types HO_322007.out BK321.out (by decide)) (fun _ hk => hk.2) (.bool true)) (fun _ hk => ⟨hk.1.1.1, ⟨hk.1.1.2, hk.1.2⟩⟩)⟩
      have n3_ : Aside0 (Kd.R k48 48 (w112.setCell ⟨gb321, 9, none⟩ (.bool true)) w.heap.size (fun k_ => some k_ ≠ (.slice Ao7 t304.length co7 : Value).ownBlock ∧ some k_ ≠ (.slice Ao107 x322016_27.length co107 : Value).ownBlock ∧ some k_ ≠ (.slice Ao110 t367.length co110 : Value).ownBlock) (.slice Ao14 t318.length co14) t318) := ⟨by (with_reducible repeat (first | apply Kd.R_alloc | apply Kd.R_drewN | apply Kd.R_drew)); exact Kd.R_mono (Kd.R_far (p := ⟨gb321, 9, none⟩) (Kd.R_types HO_322008.out BK321.out (by decide)) (fun _ hk => hk.2) (.bool true)) (fun _ hk => ⟨hk.1.1.1, ⟨hk.1.1.2, hk.1.2⟩⟩)⟩
      have n4_ : Aside0 (Kd.R k43 43 (w112.setCell ⟨gb321, 9, none⟩ (.bool true)) w.heap.size (fun k_ => some k_ ≠ (.slice Ao6 t301.length co6 : Value).ownBlock ∧ some k_ ≠ (.slice Ao15 t315.length co15 : Value).ownBlock ∧ some k_ ≠ (.slice Ao109 t364.length co109 : Value).ownBlock) (.slice Ao106 x322015_27.length co106) x322015_27) := ⟨by (with_reducible repeat (first | apply Kd.R_alloc | apply Kd.R_drewN | apply Kd.R_drew)); exact Kd.R_mono (Kd.R_far (p := ⟨gb321, 9, none⟩) (Kd.R_types HO_322015.out BK321.out (by decide)) (fun _ hk => hk.2) (.bool true)) (fun _ hk => ⟨hk.1.1.1, ⟨hk.1.1.2, hk.1.2⟩⟩)⟩
      have n5_ : Aside0 (Kd.R k48 48 (w112.setCell ⟨gb321, 9, none⟩ (.bool true)) w.heap.size (fun k_ => some k_ ≠ (.slice Ao7 t304.length co7 : Value).ownBlock ∧ some k_ ≠ (.slice Ao14 t318.length co14 : Value).ownBlock ∧ some k_ ≠ (.slice Ao110 t367.length co110 : Value).ownBlock) (.slice Ao107 x322016_27.length co107) x322016_27) := ⟨by (with_reducible repeat (first | apply Kd.R_alloc | apply Kd.R_drewN | apply Kd.R_drew)); exact Kd.R_mono (Kd.R_far (p := ⟨gb321, 9, none⟩) (Kd.R_types HO_322016.out BK321.out (by decide)) (fun _ hk => hk.2) (.bool true)) (fun _ hk => ⟨hk.1.1.1, ⟨hk.1.1.2, hk.1.2⟩⟩)⟩
      have n6_ : Aside0 (Kd.R k43 43 (w112.setCell ⟨gb321, 9, none⟩ (.bool true)) w.heap.size (fun k_ => some k_ ≠ (.slice Ao6 t301.length co6 : Value).ownBlock ∧ some k_ ≠ (.slice Ao15 t315.length co15 : Value).ownBlock ∧ some k_ ≠ (.slice Ao106 x322015_27.length co106 : Value).ownBlock) (.slice Ao109 t364.length co109) t364) := ⟨by (with_reducible repeat (first | apply Kd.R_alloc | apply Kd.R_drewN | apply Kd.R_drew)); exact Kd.R_mono (Kd.R_far (p := ⟨gb321, 9, none⟩) (Kd.R_types HO366.out BK321.out (by decide)) (fun _ hk => hk.2) (.bool true)) (fun _ hk => ⟨hk.1.1.1.2, ⟨hk.1.1.2, hk.1.2⟩⟩)⟩
      have n7_ : Aside0 (Kd.R k48 48 (w112.setCell ⟨gb321, 9, none⟩ (.bool true)) w.heap.size (fun k_ => some k_ ≠ (.slice Ao7 t304.length co7 : Value).ownBlock ∧ some k_ ≠ (.slice Ao14 t318.length co14 : Value).ownBlock ∧ some k_ ≠ (.slice Ao107 x322016_27.length co107 : Value).ownBlock) (.slice Ao110 t367.length co110) t367) := ⟨by (with_reducible repeat (first | apply Kd.R_alloc | apply Kd.R_drewN | apply Kd.R_drew)); exact Kd.R_mono (Kd.R_far (p := ⟨gb321, 9, none⟩) (Kd.R_types HO369.out BK321.out (by decide)) (fun _ hk => hk.2) (.bool true)) (fun _ hk => ⟨hk.1.1.1.2, ⟨hk.1.1.2, hk.1.2⟩⟩)⟩
      have n8_ : Aside0 ((w112.setCell ⟨gb321, 9, none⟩ (.bool true)).heap[gb307]? = some (.cells #[.int .i64 t294, .int .i64 t295, .int .i64 t296, .int .i64 t297, .int .i64 t298, .int .i64 t299, .int .i64 t300, .slice Ao6 t301.length co6, .slice Ao7 t304.length co7] 27 (0, 0))) := ⟨blf_⟩
      have n9_ : Aside0 ((w112.setCell ⟨gb321, 9, none⟩ (.bool true)).heap[gb321]? = some (.cells #[.int .i64 x322000_27, .int .i64 x322001_27, .int .i64 x322002_27, .int .i64 x322003_27, .int .i64 x322004_27, .int .i64 x322005_27, .int .i64 x322006_27, .slice Ao15 t315.length co15, .slice Ao14 t318.length co14, .bool true, .bool x322010_27, .bool x322011_27, .bool x322012_27, .bool x322013_27, .bool x322014_27, .slice Ao106 x322015_27.length co106, .slice Ao107 x322016_27.length co107] 71 (0, 0))) := ⟨by (with_reducible repeat (first | refine zN ?_ _ | refine zD ?_ | refine zA ?_ _)); refine blk_put (cs := #[.int .i64 x322000_27, .int .i64 x322001_27, .int .i64 x322002_27, .int .i64 x322003_27, .int .i64 x322004_27, .int .i64 x322005_27, .int .i64 x322006_27, .slice Ao15 t315.length co15, .slice Ao14 t318.length co14, .bool false, .bool x322010_27, .bool x322011_27, .bool x322012_27, .bool x322013_27, .bool x322014_27, .slice Ao106 x322015_27.length co106, .slice Ao107 x322016_27.length co107]) ?_ 9 _ rfl; (with_reducible repeat (first | refine zN ?_ _ | refine zD ?_ | refine zA ?_ _)); exact BK321.out⟩
      have n10_ : Aside0 ((w112.setCell ⟨gb321, 9, none⟩ (.bool true)).heap[gb326]? = some (.cells #[.int .i64 6, .int .i64 0, .int .i64 1, .int .i64 1, .int .i64 4, .int .i64 7, .int .i64 0, .slice none 0 0, .slice none 0 0] 27 (0, 0))) := ⟨blf_⟩
      have n11_ : Aside0 ((w112.setCell ⟨gb321, 9, none⟩ (.bool true)).heap[gb355]? = some (.cells #[.int .i64 6, .int .i64 0, .int .i64 1, .int .i64 1, .int .i64 4, .int .i64 7, .int .i64 0, .slice none 0 0, .slice none 0 0] 27 (0, 0))) := ⟨blf_⟩
      have n12_ : Aside0 (Below w.heap.size w (w112.setCell ⟨gb321, 9, none⟩ (.bool true))) := ⟨bel_⟩
      (try clear HO_308007)
      (try clear HO_308008)
      (try clear HO_322007)
      (try clear HO_322008)
      (try clear HO_322015)
      (try clear HO_322016)
      (try clear HO366)
      (try clear HO369)
      (try clear BK307)
      (try clear BK321)
      (try clear BK326)
      (try clear BK355)
      (try clear HB)
      generalize (w112.setCell ⟨gb321, 9, none⟩ (.bool true)) = w114 at n0_ n1_ n2_ n3_ n4_ n5_ n6_ n7_ n8_ n9_ n10_ n11_ n12_ ⊢
      have HO_308007 := n0_
      have HO_308008 := n1_
      have HO_322007 := n2_
      have HO_322008 := n3_
      have HO_322015 := n4_
      have HO_322016 := n5_
      have HO366 := n6_
      have HO369 := n7_
      have BK307 := n8_
      have BK321 := n9_
      have BK326 := n10_
      have BK355 := n11_
      have HB := n12_
      clear n0_ n1_ n2_ n3_ n4_ n5_ n6_ n7_ n8_ n9_ n10_ n11_ n12_
      replace HO_308007 := zM (Kd.R_drew HO_308007.out)
      replace HO_308008 := zM (Kd.R_drew HO_308008.out)
      replace HO_322007 := zM (Kd.R_drew HO_322007.out)
      replace HO_322008 := zM (Kd.R_drew HO_322008.out)
      replace HO_322015 := zM (Kd.R_drew HO_322015.out)
      replace HO_322016 := zM (Kd.R_drew HO_322016.out)
      replace HO366 := zM (Kd.R_drew HO366.out)
      replace HO369 := zM (Kd.R_drew HO369.out)
      replace BK307 := zM (zD BK307.out)
      replace BK321 := zM (zD BK321.out)
      replace BK326 := zM (zD BK326.out)
      replace BK355 := zM (zD BK355.out)
      replace HB := zM (below_drew1 HB.out)
      refine start_ (n := 11) (S := fun w' => w'.cell? ⟨gb321, 0, none⟩ = some (.int .i64 x322000_27) ∧ w'.cell? ⟨gb321, 1, none⟩ = some (.int .i64 x322001_27) ∧ w'.cell? ⟨gb321, 2, none⟩ = some (.int .i64 x322002_27) ∧ w'.cell? ⟨gb321, 3, none⟩ = some (.int .i64 x322003_27) ∧ w'.cell? ⟨gb321, 4, none⟩ = some (.int .i64 x322004_27) ∧ w'.cell? ⟨gb321, 5, none⟩ = some (.int .i64 x322005_27) ∧ w'.cell? ⟨gb321, 6, none⟩ = some (.int .i64 x322006_27) ∧ w'.cell? ⟨gb321, 7, none⟩ = some (.slice Ao15 t315.length co15) ∧ w'.cell? ⟨gb321, 8, none⟩ = some (.slice Ao14 t318.length co14) ∧ w'.cell? ⟨gb321, 9, none⟩ = some (.bool true) ∧ w'.cell? ⟨gb321, 10, none⟩ = some (.bool x322010_27) ∧ w'.cell? ⟨gb321, 11, none⟩ = some (.bool x322011_27) ∧ w'.cell? ⟨gb321, 12, none⟩ = some (.bool x322012_27) ∧ w'.cell? ⟨gb321, 13, none⟩ = some (.bool x322013_27) ∧ w'.cell? ⟨gb321, 14, none⟩ = some (.bool x322014_27) ∧ w'.cell? ⟨gb321, 15, none⟩ = some (.slice Ao106 x322015_27.length co106) ∧ w'.cell? ⟨gb321, 16, none⟩ = some (.slice Ao107 x322016_27.length co107) ∧ w'.cell? ⟨gb355, 0, none⟩ = some (.int .i64 6) ∧ w'.cell? ⟨gb355, 1, none⟩ = some (.int .i64 0) ∧ w'.cell? ⟨gb355, 2, none⟩ = some (.int .i64 1) ∧ w'.cell? ⟨gb355, 3, none⟩ = some (.int .i64 1) ∧ w'.cell? ⟨gb355, 4, none⟩ = some (.int .i64 4) ∧ w'.cell? ⟨gb355, 5, none⟩ = some (.int .i64 7) ∧ w'.cell? ⟨gb355, 6, none⟩ = some (.int .i64 0) ∧ w'.cell? ⟨gb355, 7, none⟩ = some (.slice none 0 0) ∧ w'.cell? ⟨gb355, 8, none⟩ = some (.slice none 0 0)) (ds := [10]) #[F_, F_, F_, F_, F_, F_, F_, F_, F_, F_, F_] (by kernel_rfl) rfl rfl ⟨(zL BK321.out 0).trans rfl, (zL BK321.out 1).trans rfl, (zL BK321.out 2).trans rfl, (zL BK321.out 3).trans rfl, (zL BK321.out 4).trans rfl, (zL BK321.out 5).trans rfl, (zL BK321.out 6).trans rfl, (zL BK321.out 7).trans rfl, (zL BK321.out 8).trans rfl, (zL BK321.out 9).trans rfl, (zL BK321.out 10).trans rfl, (zL BK321.out 11).trans rfl, (zL BK321.out 12).trans rfl, (zL BK321.out 13).trans rfl, (zL BK321.out 14).trans rfl, (zL BK321.out 15).trans rfl, (zL BK321.out 16).trans rfl, (zL BK355.out 0).trans rfl, (zL BK355.out 1).trans rfl, (zL BK355.out 2).trans rfl, (zL BK355.out 3).trans rfl, (zL BK355.out 4).trans rfl, (zL BK355.out 5).trans rfl, (zL BK355.out 6).trans rfl, (zL BK355.out 7).trans rfl, (zL BK355.out 8).trans rfl⟩ (fun hHeld => ?_)
      generalize w114.drew = w115 at HO_308007 HO_308008 HO_322007 HO_322008 HO_322015 HO_322016 HO366 HO369 BK307 BK321 BK326 BK355 HB hHeld ⊢
      refine pu_ 0 38 (dm_ 11 1) ?_
      refine pu_ 1 39 (dm_ 11 3) ?_
      refine pu_ 2 40 (dm_ 11 7) ?_
      refine pu_ 3 41 (dm_ 11 15) ?_
      refine pu_ 5 43 (dm_ 11 47) ?_
      refine tk_ hHeld 4 42 (dm_ 11 63) ?_
      refine tk_ hHeld 6 44 (dm_ 11 127) ?_
      refine one_ (i := 7) (N := some 45) (dm_ 11 255) rfl rfl (by kernel_rfl) (by decide) (fun K hK => ?_)
      refine goes_ Try.func42 (by kernel_rfl) rfl #[.slice Ao106 x322015_27.length co106, .slice none 0 0] (by rfl) rfl rfl (by (try simp only [List.map_toArray, List.map_cons, List.map_nil]); first | done | rfl | (simp only [List.length_drop, List.length_take]; rfl)) ?_
      refine (cells_Merge.calls kj27 (fun k_ => some k_ = (.slice Ao106 x322015_27.length co106 : Value).ownBlock) _ _ x322015_27 _ _ ([] : List (S43)) t371 _ ?side1 ?side2 ?side3 A92.out).mono ?_
      (case side1 => exact Kd.R_V (Kd.R_tight rfl (Kd.R_types (Kd.R_types (Kd.R_types (Kd.R_types (Kd.R_apart' (Kd.R_apart' (Kd.R_apart' (Kd.R_apart' (HO_322015.out) (Kd.R_typed HO_308008.out) (by decide)) (Kd.R_typed HO_322008.out) (by decide)) (Kd.R_typed HO_322016.out) (by decide)) (Kd.R_typed HO369.out) (by decide)) BK307.out (by decide)) BK321.out (by decide)) BK326.out (by decide)) BK355.out (by decide))))
      (case side2 => exact Kd.C_nil _ _)
      (case side3 => exact Nat.le_refl _)
      rintro e w116 ⟨v372, rfl, ho0, hb⟩
      refine ⟨_, rfl, ?_⟩
      replace HO_308008 := zM (Kd.R_below (rl_ HO_308008) hb)
      replace HO_322008 := zM (Kd.R_below (rl_ HO_322008) hb)
      replace HO_322016 := zM (Kd.R_below (rl_ HO_322016) hb)
      replace HO369 := zM (Kd.R_below (rl_ HO369) hb)
      have HO373 := zM (Kd.R_lower (Kd.R_new' (Kd.R_new' (Kd.R_new' (Kd.R_new' (Kd.R_mono (ok' := fun k_ => True) ho0 (fun _ hk_ => trivial)) (Kd.R_lt (rl_ HO_308007))) (Kd.R_lt (rl_ HO_322007))) (Kd.R_lt (rl_ HO_322015))) (Kd.R_lt (rl_ HO366))) (below_size bel_))
      replace HO_308007 := zM (Kd.R_elder' (rl_ HO_308007) (Kd.R_base ho0) hb)
      replace HO_322007 := zM (Kd.R_elder' (rl_ HO_322007) (Kd.R_base ho0) hb)
      replace HO_322015 := zM (Kd.R_elder' (rl_ HO_322015) (Kd.R_base ho0) hb)
      replace HO366 := zM (Kd.R_elder' (rl_ HO366) (Kd.R_base ho0) hb)
      replace BK307 := zM (bb_ BK307 hb)
      replace BK321 := zM (bb_ BK321 hb)
      replace BK326 := zM (bb_ BK326 hb)
      replace BK355 := zM (bb_ BK355 hb)
      replace HB := zM (zB bel_ hb)
      (try clear hb)
      (try clear hb2)
      (try clear hk)
      (try clear hi)
      (try clear ho0)
      obtain ⟨Ao117, co117, eo117⟩ := Kd.R_slice HO373.out
      (first | subst eo117 | (injection eo117 with f1_ f2_ f3_; have f4_ := f1_.symm; have f5_ := f3_.symm; clear f1_ f2_ f3_; subst f4_; subst f5_))
      refine hK.out _ _ ⟨(zL BK321.out 0).trans rfl, (zL BK321.out 1).trans rfl, (zL BK321.out 2).trans rfl, (zL BK321.out 3).trans rfl, (zL BK321.out 4).trans rfl, (zL BK321.out 5).trans rfl, (zL BK321.out 6).trans rfl, (zL BK321.out 7).trans rfl, (zL BK321.out 8).trans rfl, (zL BK321.out 9).trans rfl, (zL BK321.out 10).trans rfl, (zL BK321.out 11).trans rfl, (zL BK321.out 12).trans rfl, (zL BK321.out 13).trans rfl, (zL BK321.out 14).trans rfl, (zL BK321.out 15).trans rfl, (zL BK321.out 16).trans rfl, (zL BK355.out 0).trans rfl, (zL BK355.out 1).trans rfl, (zL BK355.out 2).trans rfl, (zL BK355.out 3).trans rfl, (zL BK355.out 4).trans rfl, (zL BK355.out 5).trans rfl, (zL BK355.out 6).trans rfl, (zL BK355.out 7).trans rfl, (zL BK355.out 8).trans rfl⟩ (fun hHeld => ?_)
      clear hK K
      refine norm_ (a' := ?_) ?_ ?_
      rotate_left
      · show Act.put _ (some 45) _ = _
        simp only [Act.put, zS, zZ, zC, i64_w, i32_w]
        rfl
      refine pu_ 8 46 (dm_ 11 511) ?_
      refine pu_ 9 47 (dm_ 11 1023) ?_
      refine last_ (i := 10) (N := none) #[T_, T_, T_, T_, T_, T_, T_, T_, T_, T_, T_] rfl rfl (by kernel_rfl) (by decide) (fun K hK => ?_)
      have hs118 : w116.cell? ⟨gb321, 15, none⟩ = some (.slice Ao106 x322015_27.length co106) := (zL BK321.out 15).trans rfl
      have hfs118 := zF BK321.out 15
      have hns118_0 := NB307_321.out
      have hns118_2 := NB326_321.out
      have hns118_3 := NB355_321.out
      have hms118_0 := NB321_307.out
      have hms118_2 := NB321_326.out
      have hms118_3 := NB321_355.out
      refine skip_ (w1 := ?_) (by rfl) rfl ?_ ?_
      rotate_left
      · go_simp
        rfl
      refine hK.out _ _ ?_
      clear hK K
      refine done_ (by kernel_rfl) ?_
      go_wp2
      have n0_ : Aside0 (Kd.R k43 43 (w116.setCell ⟨gb321, 15, none⟩ (.slice Ao117 t371.length co117)) w.heap.size (fun k_ => some k_ ≠ (.slice Ao15 t315.length co15 : Value).ownBlock ∧ some k_ ≠ (.slice Ao106 x322015_27.length co106 : Value).ownBlock ∧ some k_ ≠ (.slice Ao109 t364.length co109 : Value).ownBlock ∧ some k_ ≠ (.slice Ao117 t371.length co117 : Value).ownBlock) (.slice Ao6 t301.length co6) t301) := ⟨by (with_reducible repeat (first | apply Kd.R_alloc | apply Kd.R_drewN | apply Kd.R_drew)); exact Kd.R_mono (Kd.R_far (p := ⟨gb321, 15, none⟩) (Kd.R_types HO_308007.out BK321.out (by decide)) (fun _ hk => hk.2) (.slice Ao117 t371.length co117)) (fun _ hk => ⟨hk.1.1.1, ⟨hk.1.1.2.1, ⟨hk.1.1.2.2, hk.1.2⟩⟩⟩)⟩
      have n1_ : Aside0 (Kd.R k48 48 (w116.setCell ⟨gb321, 15, none⟩ (.slice Ao117 t371.length co117)) w.heap.size (fun k_ => some k_ ≠ (.slice Ao14 t318.length co14 : Value).ownBlock ∧ some k_ ≠ (.slice Ao107 x322016_27.length co107 : Value).ownBlock ∧ some k_ ≠ (.slice Ao110 t367.length co110 : Value).ownBlock) (.slice Ao7 t304.length co7) t304) := ⟨by (with_reducible repeat (first | apply Kd.R_alloc | apply Kd.R_drewN | apply Kd.R_drew)); exact Kd.R_mono (Kd.R_far (p := ⟨gb321, 15, none⟩) (Kd.R_types HO_308008.out BK321.out (by decide)) (fun _ hk => hk.2) (.slice Ao117 t371.length co117)) (fun _ hk => ⟨hk.1.1, ⟨hk.1.2.1, hk.1.2.2⟩⟩)⟩
      have n2_ : Aside0 (Kd.R k43 43 (w116.setCell ⟨gb321, 15, none⟩ (.slice Ao117 t371.length co117)) w.heap.size (fun k_ => some k_ ≠ (.slice Ao6 t301.length co6 : Value).ownBlock ∧ some k_ ≠ (.slice Ao106 x322015_27.length co106 : Value).ownBlock ∧ some k_ ≠ (.slice Ao109 t364.length co109 : Value).ownBlock ∧ some k_ ≠ (.slice Ao117 t371.length co117 : Value).ownBlock) (.slice Ao15 t315.length co15) t315) := ⟨by (with_reducible repeat (first | apply Kd.R_alloc | apply Kd.R_drewN | apply Kd.R_drew)); exact Kd.R_mono (Kd.R_far (p := ⟨gb321, 15, none⟩) (Kd.R_types HO_322007.out BK321.out (by decide)) (fun _ hk => hk.2) (.slice Ao117 t371.length co117)) (fun _ hk => ⟨hk.1.1.1, ⟨hk.1.1.2.1, ⟨hk.1.1.2.2, hk.1.2⟩⟩⟩)⟩
      have n3_ : Aside0 (Kd.R k48 48 (w116.setCell ⟨gb321, 15, none⟩ (.slice Ao117 t371.length co117)) w.heap.size (fun k_ => some k_ ≠ (.slice Ao7 t304.length co7 : Value).ownBlock ∧ some k_ ≠ (.slice Ao107 x322016_27.length co107 : Value).ownBlock ∧ some k_ ≠ (.slice Ao110 t367.length co110 : Value).ownBlock) (.slice Ao14 t318.length co14) t318) := ⟨by (with_reducible repeat (first | apply Kd.R_alloc | apply Kd.R_drewN | apply Kd.R_drew)); exact Kd.R_mono (Kd.R_far (p := ⟨gb321, 15, none⟩) (Kd.R_types HO_322008.out BK321.out (by decide)) (fun _ hk => hk.2) (.slice Ao117 t371.length co117)) (fun _ hk => ⟨hk.1.1, ⟨hk.1.2.1, hk.1.2.2⟩⟩)⟩
      have n4_ : Aside0 (Kd.R k43 43 (w116.setCell ⟨gb321, 15, none⟩ (.slice Ao117 t371.length co117)) w.heap.size (fun k_ => some k_ ≠ (.slice Ao6 t301.length co6 : Value).ownBlock ∧ some k_ ≠ (.slice Ao15 t315.length co15 : Value).ownBlock ∧ some k_ ≠ (.slice Ao109 t364.length co109 : Value).ownBlock ∧ some k_ ≠ (.slice Ao117 t371.length co117 : Value).ownBlock) (.slice Ao106 x322015_27.length co106) x322015_27) := ⟨by (with_reducible repeat (first | apply Kd.R_alloc | apply Kd.R_drewN | apply Kd.R_drew)); exact Kd.R_mono (Kd.R_far (p := ⟨gb321, 15, none⟩) (Kd.R_types HO_322015.out BK321.out (by decide)) (fun _ hk => hk.2) (.slice Ao117 t371.length co117)) (fun _ hk => ⟨hk.1.1.1, ⟨hk.1.1.2.1, ⟨hk.1.1.2.2, hk.1.2⟩⟩⟩)⟩
      have n5_ : Aside0 (Kd.R k48 48 (w116.setCell ⟨gb321, 15, none⟩ (.slice Ao117 t371.length co117)) w.heap.size (fun k_ => some k_ ≠ (.slice Ao7 t304.length co7 : Value).ownBlock ∧ some k_ ≠ (.slice Ao14 t318.length co14 : Value).ownBlock ∧ some k_ ≠ (.slice Ao110 t367.length co110 : Value).ownBlock) (.slice Ao107 x322016_27.length co107) x322016_27) := ⟨by (with_reducible repeat (first | apply Kd.R_alloc | apply Kd.R_drewN | apply Kd.R_drew)); exact Kd.R_mono (Kd.R_far (p := ⟨gb321, 15, none⟩) (Kd.R_types HO_322016.out BK321.out (by decide)) (fun _ hk => hk.2) (.slice Ao117 t371.length co117)) (fun _ hk => ⟨hk.1.1, ⟨hk.1.2.1, hk.1.2.2⟩⟩)⟩
      have n6_ : Aside0 (Kd.R k43 43 (w116.setCell ⟨gb321, 15, none⟩ (.slice Ao117 t371.length co117)) w.heap.size (fun k_ => some k_ ≠ (.slice Ao6 t301.length co6 : Value).ownBlock ∧ some k_ ≠ (.slice Ao15 t315.length co15 : Value).ownBlock ∧ some k_ ≠ (.slice Ao106 x322015_27.length co106 : Value).ownBlock ∧ some k_ ≠ (.slice Ao117 t371.length co117 : Value).ownBlock) (.slice Ao109 t364.length co109) t364) := ⟨by (with_reducible repeat (first | apply Kd.R_alloc | apply Kd.R_drewN | apply Kd.R_drew)); exact Kd.R_mono (Kd.R_far (p := ⟨gb321, 15, none⟩) (Kd.R_types HO366.out BK321.out (by decide)) (fun _ hk => hk.2) (.slice Ao117 t371.length co117)) (fun _ hk => ⟨hk.1.1.1, ⟨hk.1.1.2.1, ⟨hk.1.1.2.2, hk.1.2⟩⟩⟩)⟩
      have n7_ : Aside0 (Kd.R k48 48 (w116.setCell ⟨gb321, 15, none⟩ (.slice Ao117 t371.length co117)) w.heap.size (fun k_ => some k_ ≠ (.slice Ao7 t304.length co7 : Value).ownBlock ∧ some k_ ≠ (.slice Ao14 t318.length co14 : Value).ownBlock ∧ some k_ ≠ (.slice Ao107 x322016_27.length co107 : Value).ownBlock) (.slice Ao110 t367.length co110) t367) := ⟨by (with_reducible repeat (first | apply Kd.R_alloc | apply Kd.R_drewN | apply Kd.R_drew)); exact Kd.R_mono (Kd.R_far (p := ⟨gb321, 15, none⟩) (Kd.R_types HO369.out BK321.out (by decide)) (fun _ hk => hk.2) (.slice Ao117 t371.length co117)) (fun _ hk => ⟨hk.1.1, ⟨hk.1.2.1, hk.1.2.2⟩⟩)⟩
      have n8_ : Aside0 (Kd.R k43 43 (w116.setCell ⟨gb321, 15, none⟩ (.slice Ao117 t371.length co117)) w.heap.size (fun k_ => some k_ ≠ (.slice Ao6 t301.length co6 : Value).ownBlock ∧ some k_ ≠ (.slice Ao15 t315.length co15 : Value).ownBlock ∧ some k_ ≠ (.slice Ao106 x322015_27.length co106 : Value).ownBlock ∧ some k_ ≠ (.slice Ao109 t364.length co109 : Value).ownBlock) (.slice Ao117 t371.length co117) t371) := ⟨by (with_reducible repeat (first | apply Kd.R_alloc | apply Kd.R_drewN | apply Kd.R_drew)); exact Kd.R_mono (Kd.R_far (p := ⟨gb321, 15, none⟩) (Kd.R_types HO373.out BK321.out (by decide)) (fun _ hk => hk.2) (.slice Ao117 t371.length co117)) (fun _ hk => ⟨hk.1.1.1.1.2, ⟨hk.1.1.1.2, ⟨hk.1.1.2, hk.1.2⟩⟩⟩)⟩
      have n9_ : Aside0 ((w116.setCell ⟨gb321, 15, none⟩ (.slice Ao117 t371.length co117)).heap[gb307]? = some (.cells #[.int .i64 t294, .int .i64 t295, .int .i64 t296, .int .i64 t297, .int .i64 t298, .int .i64 t299, .int .i64 t300, .slice Ao6 t301.length co6, .slice Ao7 t304.length co7] 27 (0, 0))) := ⟨blf_⟩
      have n10_ : Aside0 ((w116.setCell ⟨gb321, 15, none⟩ (.slice Ao117 t371.length co117)).heap[gb321]? = some (.cells #[.int .i64 x322000_27, .int .i64 x322001_27, .int .i64 x322002_27, .int .i64 x322003_27, .int .i64 x322004_27, .int .i64 x322005_27, .int .i64 x322006_27, .slice Ao15 t315.length co15, .slice Ao14 t318.length co14, .bool true, .bool x322010_27, .bool x322011_27, .bool x322012_27, .bool x322013_27, .bool x322014_27, .slice Ao117 t371.length co117, .slice Ao107 x322016_27.length co107] 71 (0, 0))) := ⟨by (with_reducible repeat (first | refine zN ?_ _ | refine zD ?_ | refine zA ?_ _)); refine blk_put (cs := #[.int .i64 x322000_27, .int .i64 x322001_27, .int .i64 x322002_27, .int .i64 x322003_27, .int .i64 x322004_27, .int .i64 x322005_27, .int .i64 x322006_27, .slice Ao15 t315.length co15, .slice Ao14 t318.length co14, .bool true, .bool x322010_27, .bool x322011_27, .bool x322012_27, .bool x322013_27, .bool x322014_27, .slice Ao106 x322015_27.length co106, .slice Ao107 x322016_27.length co107]) ?_ 15 _ rfl; (with_reducible repeat (first | refine zN ?_ _ | refine zD ?_ | refine zA ?_ _)); exact BK321.out⟩
      have n11_ : Aside0 ((w116.setCell ⟨gb321, 15, none⟩ (.slice Ao117 t371.length co117)).heap[gb326]? = some (.cells #[.int .i64 6, .int .i64 0, .int .i64 1, .int .i64 1, .int .i64 4, .int .i64 7, .int .i64 0, .slice none 0 0, .slice none 0 0] 27 (0, 0))) := ⟨blf_⟩
      have n12_ : Aside0 ((w116.setCell ⟨gb321, 15, none⟩ (.slice Ao117 t371.length co117)).heap[gb355]? = some (.cells #[.int .i64 6, .int .i64 0, .int .i64 1, .int .i64 1, .int .i64 4, .int .i64 7, .int .i64 0, .slice none 0 0, .slice none 0 0] 27 (0, 0))) := ⟨blf_⟩
      have n13_ : Aside0 (Below w.heap.size w (w116.setCell ⟨gb321, 15, none⟩ (.slice Ao117 t371.length co117))) := ⟨bel_⟩
      (try clear HO_308007)
      (try clear HO_308008)
      (try clear HO_322007)
      (try clear HO_322008)
      (try clear HO_322015)
      (try clear HO_322016)
      (try clear HO366)
      (try clear HO369)
      (try clear HO373)
      (try clear BK307)
      (try clear BK321)
      (try clear BK326)
      (try clear BK355)
      (try clear HB)
      generalize (w116.setCell ⟨gb321, 15, none⟩ (.slice Ao117 t371.length co117)) = w119 at n0_ n1_ n2_ n3_ n4_ n5_ n6_ n7_ n8_ n9_ n10_ n11_ n12_ n13_ ⊢
      have HO_308007 := n0_
      have HO_308008 := n1_
      have HO_322007 := n2_
      have HO_322008 := n3_
      have HO_322015 := n4_
      have HO_322016 := n5_
      have HO366 := n6_
      have HO369 := n7_
      have HO373 := n8_
      have BK307 := n9_
      have BK321 := n10_
      have BK326 := n11_
      have BK355 := n12_
      have HB := n13_
      clear n0_ n1_ n2_ n3_ n4_ n5_ n6_ n7_ n8_ n9_ n10_ n11_ n12_ n13_
      replace HO_308007 := zM (Kd.R_drew HO_308007.out)
      replace HO_308008 := zM (Kd.R_drew HO_308008.out)
      replace HO_322007 := zM (Kd.R_drew HO_322007.out)
      replace HO_322008 := zM (Kd.R_drew HO_322008.out)
      replace HO_322015 := zM (Kd.R_drew HO_322015.out)
      replace HO_322016 := zM (Kd.R_drew HO_322016.out)
      replace HO366 := zM (Kd.R_drew HO366.out)
      replace HO369 := zM (Kd.R_drew HO369.out)
      replace HO373 := zM (Kd.R_drew HO373.out)
      replace BK307 := zM (zD BK307.out)
      replace BK321 := zM (zD BK321.out)
      replace BK326 := zM (zD BK326.out)
      replace BK355 := zM (zD BK355.out)
      replace HB := zM (below_drew1 HB.out)
      refine start_ (n := 11) (S := fun w' => w'.cell? ⟨gb321, 0, none⟩ = some (.int .i64 x322000_27) ∧ w'.cell? ⟨gb321, 1, none⟩ = some (.int .i64 x322001_27) ∧ w'.cell? ⟨gb321, 2, none⟩ = some (.int .i64 x322002_27) ∧ w'.cell? ⟨gb321, 3, none⟩ = some (.int .i64 x322003_27) ∧ w'.cell? ⟨gb321, 4, none⟩ = some (.int .i64 x322004_27) ∧ w'.cell? ⟨gb321, 5, none⟩ = some (.int .i64 x322005_27) ∧ w'.cell? ⟨gb321, 6, none⟩ = some (.int .i64 x322006_27) ∧ w'.cell? ⟨gb321, 7, none⟩ = some (.slice Ao15 t315.length co15) ∧ w'.cell? ⟨gb321, 8, none⟩ = some (.slice Ao14 t318.length co14) ∧ w'.cell? ⟨gb321, 9, none⟩ = some (.bool true) ∧ w'.cell? ⟨gb321, 10, none⟩ = some (.bool x322010_27) ∧ w'.cell? ⟨gb321, 11, none⟩ = some (.bool x322011_27) ∧ w'.cell? ⟨gb321, 12, none⟩ = some (.bool x322012_27) ∧ w'.cell? ⟨gb321, 13, none⟩ = some (.bool x322013_27) ∧ w'.cell? ⟨gb321, 14, none⟩ = some (.bool x322014_27) ∧ w'.cell? ⟨gb321, 15, none⟩ = some (.slice Ao117 t371.length co117) ∧ w'.cell? ⟨gb321, 16, none⟩ = some (.slice Ao107 x322016_27.length co107) ∧ w'.cell? ⟨gb355, 0, none⟩ = some (.int .i64 6) ∧ w'.cell? ⟨gb355, 1, none⟩ = some (.int .i64 0) ∧ w'.cell? ⟨gb355, 2, none⟩ = some (.int .i64 1) ∧ w'.cell? ⟨gb355, 3, none⟩ = some (.int .i64 1) ∧ w'.cell? ⟨gb355, 4, none⟩ = some (.int .i64 4) ∧ w'.cell? ⟨gb355, 5, none⟩ = some (.int .i64 7) ∧ w'.cell? ⟨gb355, 6, none⟩ = some (.int .i64 0) ∧ w'.cell? ⟨gb355, 7, none⟩ = some (.slice none 0 0) ∧ w'.cell? ⟨gb355, 8, none⟩ = some (.slice none 0 0)) (ds := [10]) #[F_, F_, F_, F_, F_, F_, F_, F_, F_, F_, F_] (by kernel_rfl) rfl rfl ⟨(zL BK321.out 0).trans rfl, (zL BK321.out 1).trans rfl, (zL BK321.out 2).trans rfl, (zL BK321.out 3).trans rfl, (zL BK321.out 4).trans rfl, (zL BK321.out 5).trans rfl, (zL BK321.out 6).trans rfl, (zL BK321.out 7).trans rfl, (zL BK321.out 8).trans rfl, (zL BK321.out 9).trans rfl, (zL BK321.out 10).trans rfl, (zL BK321.out 11).trans rfl, (zL BK321.out 12).trans rfl, (zL BK321.out 13).trans rfl, (zL BK321.out 14).trans rfl, (zL BK321.out 15).trans rfl, (zL BK321.out 16).trans rfl, (zL BK355.out 0).trans rfl, (zL BK355.out 1).trans rfl, (zL BK355.out 2).trans rfl, (zL BK355.out 3).trans rfl, (zL BK355.out 4).trans rfl, (zL BK355.out 5).trans rfl, (zL BK355.out 6).trans rfl, (zL BK355.out 7).trans rfl, (zL BK355.out 8).trans rfl⟩ (fun hHeld => ?_)
      generalize w119.drew = w120 at HO_308007 HO_308008 HO_322007 HO_322008 HO_322015 HO_322016 HO366 HO369 HO373 BK307 BK321 BK326 BK355 HB hHeld ⊢
      refine pu_ 0 48 (dm_ 11 1) ?_
      refine pu_ 1 49 (dm_ 11 3) ?_
      refine pu_ 2 50 (dm_ 11 7) ?_
      refine pu_ 3 51 (dm_ 11 15) ?_
      refine pu_ 5 53 (dm_ 11 47) ?_
      refine tk_ hHeld 4 52 (dm_ 11 63) ?_
      refine tk_ hHeld 6 54 (dm_ 11 127) ?_
      refine one_ (i := 7) (N := some 55) (dm_ 11 255) rfl rfl (by kernel_rfl) (by decide) (fun K hK => ?_)
      refine goes_ Try.func43 (by kernel_rfl) rfl #[.slice Ao107 x322016_27.length co107, .slice none 0 0] (by rfl) rfl rfl (by (try simp only [List.map_toArray, List.map_cons, List.map_nil]); first | done | rfl | (simp only [List.length_drop, List.length_take]; rfl)) ?_
      refine (book_Merge.calls kj27 _ _ x322016_27 _ _ ([] : List (S48)) t374 _ ?side1 ?side2 ?side3 ?side4 A93.out).mono ?_
      (case side1 => repeat (first | exact (Kd.R_reads' HO_322016.out).2.2 | (with_reducible refine Kd.C_alloc ?_ _) | (with_reducible refine Kd.C_drewN ?_ _) | (with_reducible refine Kd.C_drew ?_)))
      (case side2 => exact (Kd.R_reads' HO_322016.out).2.1)
      (case side3 => exact Kd.C_nil _ _)
      (case side4 => exact Nat.le_refl _)
      rintro e w121 ⟨v375, rfl, ho0, hb⟩
      refine ⟨_, rfl, ?_⟩
      replace HO_308007 := zM (Kd.R_below (rl_ HO_308007) hb)
      replace HO_322007 := zM (Kd.R_below (rl_ HO_322007) hb)
      replace HO_322015 := zM (Kd.R_below (rl_ HO_322015) hb)
      replace HO366 := zM (Kd.R_below (rl_ HO366) hb)
      replace HO373 := zM (Kd.R_below (rl_ HO373) hb)
      have HO376 := zM (Kd.R_lower (Kd.R_new' (Kd.R_new' (Kd.R_new' (Kd.R_new' ho0 (Kd.R_lt (rl_ HO_308008))) (Kd.R_lt (rl_ HO_322008))) (Kd.R_lt (rl_ HO_322016))) (Kd.R_lt (rl_ HO369))) (below_size bel_))
      replace HO_308008 := zM (Kd.R_elder' (rl_ HO_308008) (Kd.R_base ho0) hb)
      replace HO_322008 := zM (Kd.R_elder' (rl_ HO_322008) (Kd.R_base ho0) hb)
      replace HO_322016 := zM (Kd.R_elder' (rl_ HO_322016) (Kd.R_base ho0) hb)
      replace HO369 := zM (Kd.R_elder' (rl_ HO369) (Kd.R_base ho0) hb)
      replace BK307 := zM (bb_ BK307 hb)
      replace BK321 := zM (bb_ BK321 hb)
      replace BK326 := zM (bb_ BK326 hb)
      replace BK355 := zM (bb_ BK355 hb)
      replace HB := zM (zB bel_ hb)
      (try clear hb)
      (try clear hb2)
      (try clear hk)
      (try clear hi)
      (try clear ho0)
      obtain ⟨Ao122, co122, eo122⟩ := Kd.R_slice HO376.out
      (first | subst eo122 | (injection eo122 with f1_ f2_ f3_; have f4_ := f1_.symm; have f5_ := f3_.symm; clear f1_ f2_ f3_; subst f4_; subst f5_))
      refine hK.out _ _ ⟨(zL BK321.out 0).trans rfl, (zL BK321.out 1).trans rfl, (zL BK321.out 2).trans rfl, (zL BK321.out 3).trans rfl, (zL BK321.out 4).trans rfl, (zL BK321.out 5).trans rfl, (zL BK321.out 6).trans rfl, (zL BK321.out 7).trans rfl, (zL BK321.out 8).trans rfl, (zL BK321.out 9).trans rfl, (zL BK321.out 10).trans rfl, (zL BK321.out 11).trans rfl, (zL BK321.out 12).trans rfl, (zL BK321.out 13).trans rfl, (zL BK321.out 14).trans rfl, (zL BK321.out 15).trans rfl, (zL BK321.out 16).trans rfl, (zL BK355.out 0).trans rfl, (zL BK355.out 1).trans rfl, (zL BK355.out 2).trans rfl, (zL BK355.out 3).trans rfl, (zL BK355.out 4).trans rfl, (zL BK355.out 5).trans rfl, (zL BK355.out 6).trans rfl, (zL BK355.out 7).trans rfl, (zL BK355.out 8).trans rfl⟩ (fun hHeld => ?_)
      clear hK K
      refine norm_ (a' := ?_) ?_ ?_
      rotate_left
      · show Act.put _ (some 55) _ = _
        simp only [Act.put, zS, zZ, zC, i64_w, i32_w]
        rfl
      refine pu_ 8 56 (dm_ 11 511) ?_
      refine pu_ 9 57 (dm_ 11 1023) ?_
      refine last_ (i := 10) (N := none) #[T_, T_, T_, T_, T_, T_, T_, T_, T_, T_, T_] rfl rfl (by kernel_rfl) (by decide) (fun K hK => ?_)
      have hs123 : w121.cell? ⟨gb321, 16, none⟩ = some (.slice Ao107 x322016_27.length co107) := (zL BK321.out 16).trans rfl
      have hfs123 := zF BK321.out 16
      have hns123_0 := NB307_321.out
      have hns123_2 := NB326_321.out
      have hns123_3 := NB355_321.out
      have hms123_0 := NB321_307.out
      have hms123_2 := NB321_326.out
      have hms123_3 := NB321_355.out
      refine skip_ (w1 := ?_) (by rfl) rfl ?_ ?_
      rotate_left
      · go_simp
        rfl
      refine hK.out _ _ ?_
      clear hK K
      refine done_ (by kernel_rfl) ?_
      have tk124 : True := trivial
      have tk126 : True := trivial
      have tk128 : True := trivial
      have tk131 : True := trivial
      have tk134 : True := trivial
      go_wp2_with (first | (clear tk124; (first | go_ret | go_ret2 | go_ret3 | go_end0); with_reducible refine inl_back_ ?_) | (go_at_call 13; (with_reducible refine (round_Round_Done.calls kj27 gb321 x322000_27 x322001_27 x322002_27 x322003_27 x322004_27 x322005_27 x322006_27 Ao15 co15 t315 Ao14 co14 t318 true x322010_27 x322011_27 x322012_27 x322013_27 x322014_27 Ao117 co117 t371 Ao122 co122 t374 true _ ?side1 ?side2 ?side3 ?side4 ?side5 ?side6 ?side7 ?side8 ?side9 A94.out).mono ?_); (case side1 => refine (Kd.R_reads' (e := 43) (base := w.heap.size) (ok := fun k_ => (some k_ ≠ (.slice Ao6 t301.length co6 : Value).ownBlock ∧ (some k_ ≠ (.slice Ao106 x322015_27.length co106 : Value).ownBlock ∧ (some k_ ≠ (.slice Ao109 t364.length co109 : Value).ownBlock ∧ some k_ ≠ (.slice Ao117 t371.length co117 : Value).ownBlock)))) (n := t315.length) (c := co15) ?_).2.2; exact (by (with_reducible repeat (first | apply Kd.R_alloc | apply Kd.R_drewN | apply Kd.R_drew)); exact (Kd.R_mono (Kd.R_far (p := ⟨gb321, 16, none⟩) (Kd.R_types HO_322007.out BK321.out (by decide)) (fun _ hk => hk.2) (.slice Ao122 t374.length co122)) (fun _ h_ => h_.1)))); (case side2 => exact (Kd.R_reads' HO_322007.out).2.1); (case side3 => refine (Kd.R_reads' (e := 48) (base := w.heap.size) (ok := fun k_ => ((some k_ ≠ (.slice Ao7 t304.length co7 : Value).ownBlock ∧ (some k_ ≠ (.slice Ao107 x322016_27.length co107 : Value).ownBlock ∧ some k_ ≠ (.slice Ao110 t367.length co110 : Value).ownBlock)) ∧ some k_ ≠ (.slice Ao122 t374.length co122 : Value).ownBlock)) (n := t318.length) (c := co14) ?_).2.2; exact (by (with_reducible repeat (first | apply Kd.R_alloc | apply Kd.R_drewN | apply Kd.R_drew)); exact (Kd.R_mono (Kd.R_far (p := ⟨gb321, 16, none⟩) (Kd.R_types HO_322008.out BK321.out (by decide)) (fun _ hk => hk.2) (.slice Ao122 t374.length co122)) (fun _ h_ => h_.1)))); (case side4 => exact (Kd.R_reads' HO_322008.out).2.1); (case side5 => refine (Kd.R_reads' (e := 43) (base := w.heap.size) (ok := fun k_ => (some k_ ≠ (.slice Ao6 t301.length co6 : Value).ownBlock ∧ (some k_ ≠ (.slice Ao15 t315.length co15 : Value).ownBlock ∧ (some k_ ≠ (.slice Ao106 x322015_27.length co106 : Value).ownBlock ∧ some k_ ≠ (.slice Ao109 t364.length co109 : Value).ownBlock)))) (n := t371.length) (c := co117) ?_).2.2; exact (by (with_reducible repeat (first | apply Kd.R_alloc | apply Kd.R_drewN | apply Kd.R_drew)); exact (Kd.R_mono (Kd.R_far (p := ⟨gb321, 16, none⟩) (Kd.R_types HO373.out BK321.out (by decide)) (fun _ hk => hk.2) (.slice Ao122 t374.length co122)) (fun _ h_ => h_.1)))); (case side6 => exact (Kd.R_reads' HO373.out).2.1); (case side7 => refine (Kd.R_reads' (e := 48) (base := w.heap.size) (ok := fun k_ => ((((True ∧ some k_ ≠ (.slice Ao7 t304.length co7 : Value).ownBlock) ∧ some k_ ≠ (.slice Ao14 t318.length co14 : Value).ownBlock) ∧ some k_ ≠ (.slice Ao107 x322016_27.length co107 : Value).ownBlock) ∧ some k_ ≠ (.slice Ao110 t367.length co110 : Value).ownBlock)) (n := t374.length) (c := co122) ?_).2.2; exact (by (with_reducible repeat (first | apply Kd.R_alloc | apply Kd.R_drewN | apply Kd.R_drew)); exact (Kd.R_mono (Kd.R_far (p := ⟨gb321, 16, none⟩) (Kd.R_types HO376.out BK321.out (by decide)) (fun _ hk => hk.2) (.slice Ao122 t374.length co122)) (fun _ h_ => h_.1)))); (case side8 => exact (Kd.R_reads' HO376.out).2.1); (case side9 => exact by (with_reducible repeat (first | refine zN ?_ _ | refine zD ?_ | refine zA ?_ _)); refine blk_put (cs := #[.int .i64 x322000_27, .int .i64 x322001_27, .int .i64 x322002_27, .int .i64 x322003_27, .int .i64 x322004_27, .int .i64 x322005_27, .int .i64 x322006_27, .slice Ao15 t315.length co15, .slice Ao14 t318.length co14, .bool true, .bool x322010_27, .bool x322011_27, .bool x322012_27, .bool x322013_27, .bool x322014_27, .slice Ao117 t371.length co117, .slice Ao107 x322016_27.length co107]) ?_ 16 _ rfl; (with_reducible repeat (first | refine zN ?_ _ | refine zD ?_ | refine zA ?_ _)); exact BK321.out); clear tk126; rintro e w125 ⟨rfl, hb⟩; have n0_ := zM (Kd.R_below (by (with_reducible repeat (first | apply Kd.R_alloc | apply Kd.R_drewN | apply Kd.R_drew)); exact (Kd.R_mono (Kd.R_far (p := ⟨gb321, 16, none⟩) (Kd.R_types HO_308007.out BK321.out (by decide)) (fun _ hk => hk.2) (.slice Ao122 t374.length co122)) (fun _ h_ => h_.1))) hb); have n1_ := zM (Kd.R_below (by (with_reducible repeat (first | apply Kd.R_alloc | apply Kd.R_drewN | apply Kd.R_drew)); exact (Kd.R_mono (Kd.R_far (p := ⟨gb321, 16, none⟩) (Kd.R_types HO_308008.out BK321.out (by decide)) (fun _ hk => hk.2) (.slice Ao122 t374.length co122)) (fun _ h_ => h_.1))) hb); have n2_ := zM (Kd.R_below (by (with_reducible repeat (first | apply Kd.R_alloc | apply Kd.R_drewN | apply Kd.R_drew)); exact (Kd.R_mono (Kd.R_far (p := ⟨gb321, 16, none⟩) (Kd.R_types HO_322007.out BK321.out (by decide)) (fun _ hk => hk.2) (.slice Ao122 t374.length co122)) (fun _ h_ => h_.1))) hb); have n3_ := zM (Kd.R_below (by (with_reducible repeat (first | apply Kd.R_alloc | apply Kd.R_drewN | apply Kd.R_drew)); exact (Kd.R_mono (Kd.R_far (p := ⟨gb321, 16, none⟩) (Kd.R_types HO_322008.out BK321.out (by decide)) (fun _ hk => hk.2) (.slice Ao122 t374.length co122)) (fun _ h_ => h_.1))) hb); have n4_ := zM (Kd.R_below (by (with_reducible repeat (first | apply Kd.R_alloc | apply Kd.R_drewN | apply Kd.R_drew)); exact (Kd.R_mono (Kd.R_far (p := ⟨gb321, 16, none⟩) (Kd.R_types HO_322015.out BK321.out (by decide)) (fun _ hk => hk.2) (.slice Ao122 t374.length co122)) (fun _ h_ => h_.1))) hb); have n5_ := zM (Kd.R_below (by (with_reducible repeat (first | apply Kd.R_alloc | apply Kd.R_drewN | apply Kd.R_drew)); exact (Kd.R_mono (Kd.R_far (p := ⟨gb321, 16, none⟩) (Kd.R_types HO_322016.out BK321.out (by decide)) (fun _ hk => hk.2) (.slice Ao122 t374.length co122)) (fun _ h_ => h_.1))) hb); have n6_ := zM (Kd.R_below (by (with_reducible repeat (first | apply Kd.R_alloc | apply Kd.R_drewN | apply Kd.R_drew)); exact (Kd.R_mono (Kd.R_far (p := ⟨gb321, 16, none⟩) (Kd.R_types HO366.out BK321.out (by decide)) (fun _ hk => hk.2) (.slice Ao122 t374.length co122)) (fun _ h_ => h_.1))) hb); have n7_ := zM (Kd.R_below (by (with_reducible repeat (first | apply Kd.R_alloc | apply Kd.R_drewN | apply Kd.R_drew)); exact (Kd.R_mono (Kd.R_far (p := ⟨gb321, 16, none⟩) (Kd.R_types HO369.out BK321.out (by decide)) (fun _ hk => hk.2) (.slice Ao122 t374.length co122)) (fun _ h_ => h_.1))) hb); have n8_ := zM (Kd.R_below (by (with_reducible repeat (first | apply Kd.R_alloc | apply Kd.R_drewN | apply Kd.R_drew)); exact (Kd.R_mono (Kd.R_far (p := ⟨gb321, 16, none⟩) (Kd.R_types HO373.out BK321.out (by decide)) (fun _ hk => hk.2) (.slice Ao122 t374.length co122)) (fun _ h_ => h_.1))) hb); have n9_ := zM (Kd.R_below (by (with_reducible repeat (first | apply Kd.R_alloc | apply Kd.R_drewN | apply Kd.R_drew)); exact (Kd.R_mono (Kd.R_far (p := ⟨gb321, 16, none⟩) (Kd.R_types HO376.out BK321.out (by decide)) (fun _ hk => hk.2) (.slice Ao122 t374.length co122)) (fun _ h_ => h_.1))) hb); have n10_ := zM (blk_below (g := gb307) (o := .cells #[.int .i64 t294, .int .i64 t295, .int .i64 t296, .int .i64 t297, .int .i64 t298, .int .i64 t299, .int .i64 t300, .slice Ao6 t301.length co6, .slice Ao7 t304.length co7] 27 (0, 0)) blf_ hb); have n11_ := zM (blk_below (g := gb321) (o := .cells #[.int .i64 x322000_27, .int .i64 x322001_27, .int .i64 x322002_27, .int .i64 x322003_27, .int .i64 x322004_27, .int .i64 x322005_27, .int .i64 x322006_27, .slice Ao15 t315.length co15, .slice Ao14 t318.length co14, .bool true, .bool x322010_27, .bool x322011_27, .bool x322012_27, .bool x322013_27, .bool x322014_27, .slice Ao117 t371.length co117, .slice Ao122 t374.length co122] 71 (0, 0)) (by (with_reducible repeat (first | refine zN ?_ _ | refine zD ?_ | refine zA ?_ _)); refine blk_put (cs := #[.int .i64 x322000_27, .int .i64 x322001_27, .int .i64 x322002_27, .int .i64 x322003_27, .int .i64 x322004_27, .int .i64 x322005_27, .int .i64 x322006_27, .slice Ao15 t315.length co15, .slice Ao14 t318.length co14, .bool true, .bool x322010_27, .bool x322011_27, .bool x322012_27, .bool x322013_27, .bool x322014_27, .slice Ao117 t371.length co117, .slice Ao107 x322016_27.length co107]) ?_ 16 _ rfl; (with_reducible repeat (first | refine zN ?_ _ | refine zD ?_ | refine zA ?_ _)); exact BK321.out) hb); have n12_ := zM (blk_below (g := gb326) (o := .cells #[.int .i64 6, .int .i64 0, .int .i64 1, .int .i64 1, .int .i64 4, .int .i64 7, .int .i64 0, .slice none 0 0, .slice none 0 0] 27 (0, 0)) blf_ hb); have n13_ := zM (blk_below (g := gb355) (o := .cells #[.int .i64 6, .int .i64 0, .int .i64 1, .int .i64 1, .int .i64 4, .int .i64 7, .int .i64 0, .slice none 0 0, .slice none 0 0] 27 (0, 0)) blf_ hb); have n14_ := zM (zB bel_ hb); clear HO_308007; clear HO_308008; clear HO_322007; clear HO_322008; clear HO_322015; clear HO_322016; clear HO366; clear HO369; clear HO373; clear HO376; clear BK307; clear BK321; clear BK326; clear BK355; clear HB; have HO_308007 := n0_; have HO_308008 := n1_; have HO_322007 := n2_; have HO_322008 := n3_; have HO_322015 := n4_; have HO_322016 := n5_; have HO366 := n6_; have HO369 := n7_; have HO373 := n8_; have HO376 := n9_; have BK307 := n10_; have BK321 := n11_; have BK326 := n12_; have BK355 := n13_; have HB := n14_; clear n0_ n1_ n2_ n3_ n4_ n5_ n6_ n7_ n8_ n9_ n10_ n11_ n12_ n13_ n14_; (try clear hb); (try clear hi)) | (go_at_call 14; (with_reducible refine (round_Round_Who.calls kj27 gb321 x322000_27 x322001_27 x322002_27 x322003_27 x322004_27 x322005_27 x322006_27 Ao15 co15 t315 Ao14 co14 t318 true x322010_27 x322011_27 x322012_27 x322013_27 x322014_27 Ao117 co117 t371 Ao122 co122 t374 t378 _ ?side1 ?side2 ?side3 ?side4 ?side5 ?side6 ?side7 ?side8 ?side9 A96.out).mono ?_); (case side1 => repeat (first | exact (Kd.R_reads' HO_322007.out).2.2 | (with_reducible refine Kd.C_alloc ?_ _) | (with_reducible refine Kd.C_drewN ?_ _) | (with_reducible refine Kd.C_drew ?_))); (case side2 => exact (Kd.R_reads' HO_322007.out).2.1); (case side3 => repeat (first | exact (Kd.R_reads' HO_322008.out).2.2 | (with_reducible refine Kd.C_alloc ?_ _) | (with_reducible refine Kd.C_drewN ?_ _) | (with_reducible refine Kd.C_drew ?_))); (case side4 => exact (Kd.R_reads' HO_322008.out).2.1); (case side5 => repeat (first | exact (Kd.R_reads' HO373.out).2.2 | (with_reducible refine Kd.C_alloc ?_ _) | (with_reducible refine Kd.C_drewN ?_ _) | (with_reducible refine Kd.C_drew ?_))); (case side6 => exact (Kd.R_reads' HO373.out).2.1); (case side7 => repeat (first | exact (Kd.R_reads' HO376.out).2.2 | (with_reducible refine Kd.C_alloc ?_ _) | (with_reducible refine Kd.C_drewN ?_ _) | (with_reducible refine Kd.C_drew ?_))); (case side8 => exact (Kd.R_reads' HO376.out).2.1); (case side9 => exact blf_); clear tk128; rintro e w127 ⟨v379, rfl, ho0, hb⟩; replace HO_308007 := zM (Kd.R_below (rl_ HO_308007) hb); replace HO_308008 := zM (Kd.R_below (rl_ HO_308008) hb); replace HO_322007 := zM (Kd.R_below (rl_ HO_322007) hb); replace HO_322008 := zM (Kd.R_below (rl_ HO_322008) hb); replace HO_322015 := zM (Kd.R_below (rl_ HO_322015) hb); replace HO_322016 := zM (Kd.R_below (rl_ HO_322016) hb); replace HO366 := zM (Kd.R_below (rl_ HO366) hb); replace HO369 := zM (Kd.R_below (rl_ HO369) hb); replace HO373 := zM (Kd.R_below (rl_ HO373) hb); replace HO376 := zM (Kd.R_below (rl_ HO376) hb); have HO380 := zM (Kd.R_lower ho0 (below_size bel_)); replace BK307 := zM (bb_ BK307 hb); replace BK321 := zM (bb_ BK321 hb); replace BK326 := zM (bb_ BK326 hb); replace BK355 := zM (bb_ BK355 hb); replace HB := zM (zB bel_ hb); (try clear hb); (try clear ho0)) | ((with_reducible refine gate_dst (N := 49) rfl ?_); clear tk131; (try (refine gate_guard (by rfl) ?_; dsimp only)); refine Kd.R_lit (Kd.int .i64) _ 3 ?hg (N := 49) ?hd (xs := ([0, 2] : List Int)) (inner := [.int .i64 0, .int .i64 2]) (ok := fun _ => True) (okp := fun _ => True) ?hr ?hp (fun _ hk => hk) trivial (Below.refl _ _) (Nat.le_refl _) (by simp) ?_; (case hd => rfl); (case hg => rfl); (case hr => first | (go_simp; done) | (go_simp; rfl)); (case hp => exact (Reps.one (show Kd.M (Kd.int .i64) _ _ _ 0 [.int .i64 0] from rfl) (Reps.one (show Kd.M (Kd.int .i64) _ _ _ 2 [.int .i64 2] from rfl) (Reps.none _ _)))); intro v382 w129 ho130 hb hg_ hnew_; clear hg_ hnew_; (first | rw [← Ny381.out] at ho130 | (simp only [Int.reduceToNat] at ho130; rw [← Ny381.out] at ho130)); replace HO_308007 := zM (Kd.R_below (rl_ HO_308007) hb); replace HO_308008 := zM (Kd.R_below (rl_ HO_308008) hb); replace HO_322007 := zM (Kd.R_below (rl_ HO_322007) hb); replace HO_322008 := zM (Kd.R_below (rl_ HO_322008) hb); replace HO_322015 := zM (Kd.R_below (rl_ HO_322015) hb); replace HO_322016 := zM (Kd.R_below (rl_ HO_322016) hb); replace HO366 := zM (Kd.R_below (rl_ HO366) hb); replace HO369 := zM (Kd.R_below (rl_ HO369) hb); replace HO373 := zM (Kd.R_below (rl_ HO373) hb); replace HO376 := zM (Kd.R_below (rl_ HO376) hb); have HO383 := zM (Kd.R_lower (Kd.R_new' ho130 (Kd.R_lt (rl_ HO380))) (below_size bel_)); replace HO380 := zM (Kd.R_elder' (rl_ HO380) (Kd.R_base ho130) hb); replace BK307 := zM (bb_ BK307 hb); replace BK321 := zM (bb_ BK321 hb); replace BK326 := zM (bb_ BK326 hb); replace BK355 := zM (bb_ BK355 hb); replace HB := zM (zB bel_ hb); clear hb ho130; obtain ⟨Ao132, co132, eo132⟩ := Kd.R_slice HO380.out; subst eo132; obtain ⟨Ao133, co133, eo133⟩ := Kd.R_slice HO383.out; subst eo133) | (go_at_call 22; (with_reducible refine (ropewayref02_SameInts.calls kj27 _ _ t378 _ _ y381 t384 _ ?side1 ?side2 ?side3 ?side4 A97.out).mono ?_); (case side1 => repeat (first | exact (Kd.R_reads' HO380.out).2.2 | (with_reducible refine Kd.C_alloc ?_ _) | (with_reducible refine Kd.C_drewN ?_ _) | (with_reducible refine Kd.C_drew ?_))); (case side2 => exact (Kd.R_reads' HO380.out).2.1); (case side3 => repeat (first | exact (Kd.R_reads' HO383.out).2.2 | (with_reducible refine Kd.C_alloc ?_ _) | (with_reducible refine Kd.C_drewN ?_ _) | (with_reducible refine Kd.C_drew ?_))); (case side4 => exact (Kd.R_reads' HO383.out).2.1); clear tk134; rintro e w' ⟨rfl, ⟨nd, rfl⟩⟩))
      go_ret
      exact ⟨by first | rfl | (simp [errW_none, errW_some] <;> rfl) | (simp [*, errW_none, errW_some] <;> rfl), bel_⟩
end Go.Proofs.Ytmgiaappokkjfaa.PRoundStays
