/- Written by a program of this session (wip/tool/px.py) over the kit's print: what the code that the law RoundStays reaches computes, function by function, and the law's row. -/
import Derived.Test.YtmgiaappokkjfaaPRoundStaysx0
import Derived.Test.YtmgiaappokkjfaaPRoundStaysx2
import Derived.Test.YtmgiaappokkjfaaPRoundStaysx6
import Derived.Test.YtmgiaappokkjfaaPRoundStaysx7
import Derived.Test.YtmgiaappokkjfaaPRoundStaysx8
import Derived.Test.YtmgiaappokkjfaaPRoundStaysx10
import Derived.Test.YtmgiaappokkjfaaPRoundStaysx16
namespace Go.Proofs.Ytmgiaappokkjfaa.PRoundStays
open Go.RowKit Go.Proofs.YtmgiaappokkjfaaX Go.Proofs.YtmgiaappokkjfaaW.PrintWords Go.Proofs.YtmgiaappokkjfaaW.PrintLast Go.Proofs.YtmgiaappokkjfaaW.PrintMore
open List renaming setIfInBounds_toArray → zS, set_cons_zero → zZ, set_cons_succ → zC
open Go.Proofs.YtmgiaappokkjfaaW.PrintWords renaming blk_drewN → zN, blk_drew → zD, blk_alloc → zA, blk_cell → zL, blk_frozen → zF, below_step → zB
open Go.Proofs.YtmgiaappokkjfaaW.PrintWords.Aside0 renaming mk → zM
attribute [local go_sem] max2_int min2_int max_two min_two max_three min_three max_four min_four   -- for this text's walks alone
set_option linter.unusedVariables false
set_option linter.unusedSimpArgs false

attribute [local go_sem] px_store_float px_neg_float
attribute [local go_sem] px_eqarr67 px_nilq24 px_nilq25
/-! ### ropewaylaw14_RoundStays: function 3 -/
mutual
def ropewaylaw14_RoundStays.j0 : Nat → List (S27) → Bool → Int → Int → Int → Int → Int → Int → Int → List (S43) → List (S48) → Option (Bool)
  | 0, _, _, _, _, _, _, _, _, _, _, _ => none
  | k + 1, x1, x23, x405000, x405001, x405002, x405003, x405004, x405005, x405006, x405007, x405008 => if x23 = true then (some true) else ((msg_Copy.f x405000 x405001 x405002 x405003 x405004 x405005 x405006 x405007 x405008).bind fun bt408 => (ropewaylaw14_RoundStays.l0 k false 0 x1 (x1.length : Int) 0 x405000 x405001 x405002 x405003 x405004 x405005 x405006 x405007 x405008 bt408.1 bt408.2.1 bt408.2.2.1 bt408.2.2.2.1 bt408.2.2.2.2.1 bt408.2.2.2.2.2.1 bt408.2.2.2.2.2.2.1 bt408.2.2.2.2.2.2.2.1 bt408.2.2.2.2.2.2.2.2 false false false false false false ([] : List (S43)) ([] : List (S48))))
def ropewaylaw14_RoundStays.l0 : Nat → Bool → Int → List (S27) → Int → Int → Int → Int → Int → Int → Int → Int → Int → List (S43) → List (S48) → Int → Int → Int → Int → Int → Int → Int → List (S43) → List (S48) → Bool → Bool → Bool → Bool → Bool → Bool → List (S43) → List (S48) → Option (Bool)
  | 0, _, _, _, _, _, _, _, _, _, _, _, _, _, _, _, _, _, _, _, _, _, _, _, _, _, _, _, _, _, _, _ => none
  | k + 1, x6, x7, x26, x27, x28, x405000, x405001, x405002, x405003, x405004, x405005, x405006, x405007, x405008, x422000, x422001, x422002, x422003, x422004, x422005, x422006, x422007, x422008, x422009, x422010, x422011, x422012, x422013, x422014, x422015, x422016 => if x28 < x27 then (if 0 ≤ x28 then (if x28 < (x26.length : Int) then ((view_In.f x422005 x422006 ((rd_T27 x26 x28).f1)).bind fun t431 => (if t431 = true then (if 0 ≤ ((rd_T27 x26 x28).f1) then (if ((rd_T27 x26 x28).f1) < 6 then (if rdOf false [x422009, x422010, x422011, x422012, x422013, x422014] ((rd_T27 x26 x28).f1) = true then (ropewaylaw14_RoundStays.j2 k x6 x7 false x26 x27 x28 x405000 x405001 x405002 x405003 x405004 x405005 x405006 x405007 x405008 x422000 x422001 x422002 x422003 x422004 x422005 x422006 x422007 x422008 x422009 x422010 x422011 x422012 x422013 x422014 x422015 x422016 ((rd_T27 x26 x28).f0) ((rd_T27 x26 x28).f1) ((rd_T27 x26 x28).f2) ((rd_T27 x26 x28).f3) ((rd_T27 x26 x28).f4) ((rd_T27 x26 x28).f5.f0) ((rd_T27 x26 x28).f5.f1) ((rd_T27 x26 x28).f6) ((rd_T27 x26 x28).f7)) else ((round_Round_to.f x422000 x422001 x422002 x422003 x422004 x422005 x422006 x422007 x422008 x422009 x422010 x422011 x422012 x422013 x422014 x422015 x422016 ((rd_T27 x26 x28).f1)).bind fun bt432 => ((msg_Answers.f bt432.1 bt432.2.1 bt432.2.2.1 bt432.2.2.2.1 bt432.2.2.2.2.1 bt432.2.2.2.2.2.1 bt432.2.2.2.2.2.2.1 bt432.2.2.2.2.2.2.2.1 bt432.2.2.2.2.2.2.2.2 ((rd_T27 x26 x28).f0) ((rd_T27 x26 x28).f1) ((rd_T27 x26 x28).f2) ((rd_T27 x26 x28).f3) ((rd_T27 x26 x28).f4) ((rd_T27 x26 x28).f5.f0) ((rd_T27 x26 x28).f5.f1) ((rd_T27 x26 x28).f6) ((rd_T27 x26 x28).f7)).bind fun t445 => (if t445 = true then ((cells_Merge.f k x422015 ((rd_T27 x26 x28).f6)).bind fun t446 => ((book_Merge.f k x422016 ((rd_T27 x26 x28).f7)).bind fun t449 => (ropewaylaw14_RoundStays.j2 k x6 x7 true x26 x27 x28 x405000 x405001 x405002 x405003 x405004 x405005 x405006 x405007 x405008 x422000 x422001 x422002 x422003 x422004 x422005 x422006 x422007 x422008 (stA ((rd_T27 x26 x28).f1) 0 true x422009) (stA ((rd_T27 x26 x28).f1) 1 true x422010) (stA ((rd_T27 x26 x28).f1) 2 true x422011) (stA ((rd_T27 x26 x28).f1) 3 true x422012) (stA ((rd_T27 x26 x28).f1) 4 true x422013) (stA ((rd_T27 x26 x28).f1) 5 true x422014) t446 t449 ((rd_T27 x26 x28).f0) ((rd_T27 x26 x28).f1) ((rd_T27 x26 x28).f2) ((rd_T27 x26 x28).f3) ((rd_T27 x26 x28).f4) ((rd_T27 x26 x28).f5.f0) ((rd_T27 x26 x28).f5.f1) ((rd_T27 x26 x28).f6) ((rd_T27 x26 x28).f7)))) else (ropewaylaw14_RoundStays.j2 k x6 x7 false x26 x27 x28 x405000 x405001 x405002 x405003 x405004 x405005 x405006 x405007 x405008 x422000 x422001 x422002 x422003 x422004 x422005 x422006 x422007 x422008 x422009 x422010 x422011 x422012 x422013 x422014 x422015 x422016 ((rd_T27 x26 x28).f0) ((rd_T27 x26 x28).f1) ((rd_T27 x26 x28).f2) ((rd_T27 x26 x28).f3) ((rd_T27 x26 x28).f4) ((rd_T27 x26 x28).f5.f0) ((rd_T27 x26 x28).f5.f1) ((rd_T27 x26 x28).f6) ((rd_T27 x26 x28).f7)))))) else (none)) else (none)) else (ropewaylaw14_RoundStays.j2 k x6 x7 false x26 x27 x28 x405000 x405001 x405002 x405003 x405004 x405005 x405006 x405007 x405008 x422000 x422001 x422002 x422003 x422004 x422005 x422006 x422007 x422008 x422009 x422010 x422011 x422012 x422013 x422014 x422015 x422016 ((rd_T27 x26 x28).f0) ((rd_T27 x26 x28).f1) ((rd_T27 x26 x28).f2) ((rd_T27 x26 x28).f3) ((rd_T27 x26 x28).f4) ((rd_T27 x26 x28).f5.f0) ((rd_T27 x26 x28).f5.f1) ((rd_T27 x26 x28).f6) ((rd_T27 x26 x28).f7)))) else (none)) else (none)) else ((round_Round_Asks.f k x422000 x422001 x422002 x422003 x422004 x422005 x422006 x422007 x422008 x422009 x422010 x422011 x422012 x422013 x422014 x422015 x422016).bind fun t422 => ((view_Members.f k x405005 x405006).bind fun t425 => (some ((wrap64 ((t422.length : Int) + x7)) == (t425.length : Int)))))
def ropewaylaw14_RoundStays.j2 : Nat → Bool → Int → Bool → List (S27) → Int → Int → Int → Int → Int → Int → Int → Int → Int → List (S43) → List (S48) → Int → Int → Int → Int → Int → Int → Int → List (S43) → List (S48) → Bool → Bool → Bool → Bool → Bool → Bool → List (S43) → List (S48) → Int → Int → Int → Int → Int → Int → Int → List (S43) → List (S48) → Option (Bool)
  | 0, _, _, _, _, _, _, _, _, _, _, _, _, _, _, _, _, _, _, _, _, _, _, _, _, _, _, _, _, _, _, _, _, _, _, _, _, _, _, _, _, _ => none
  | k + 1, x6, x7, x10, x26, x27, x28, x405000, x405001, x405002, x405003, x405004, x405005, x405006, x405007, x405008, x422000, x422001, x422002, x422003, x422004, x422005, x422006, x422007, x422008, x422009, x422010, x422011, x422012, x422013, x422014, x422015, x422016, x430000, x430001, x430002, x430003, x430004, x430005, x430006, x430007, x430008 => if x10 = true then (ropewaylaw14_RoundStays.j3 k x6 (wrap64 (x7 + 1)) x10 x26 x27 x28 x405000 x405001 x405002 x405003 x405004 x405005 x405006 x405007 x405008 x422000 x422001 x422002 x422003 x422004 x422005 x422006 x422007 x422008 x422009 x422010 x422011 x422012 x422013 x422014 x422015 x422016 x430000 x430001 x430002 x430003 x430004 x430005 x430006 x430007 x430008) else (ropewaylaw14_RoundStays.j3 k x6 x7 x10 x26 x27 x28 x405000 x405001 x405002 x405003 x405004 x405005 x405006 x405007 x405008 x422000 x422001 x422002 x422003 x422004 x422005 x422006 x422007 x422008 x422009 x422010 x422011 x422012 x422013 x422014 x422015 x422016 x430000 x430001 x430002 x430003 x430004 x430005 x430006 x430007 x430008)
def ropewaylaw14_RoundStays.j3 : Nat → Bool → Int → Bool → List (S27) → Int → Int → Int → Int → Int → Int → Int → Int → Int → List (S43) → List (S48) → Int → Int → Int → Int → Int → Int → Int → List (S43) → List (S48) → Bool → Bool → Bool → Bool → Bool → Bool → List (S43) → List (S48) → Int → Int → Int → Int → Int → Int → Int → List (S43) → List (S48) → Option (Bool)
  | 0, _, _, _, _, _, _, _, _, _, _, _, _, _, _, _, _, _, _, _, _, _, _, _, _, _, _, _, _, _, _, _, _, _, _, _, _, _, _, _, _, _ => none
  | k + 1, x6, x7, x10, x26, x27, x28, x405000, x405001, x405002, x405003, x405004, x405005, x405006, x405007, x405008, x422000, x422001, x422002, x422003, x422004, x422005, x422006, x422007, x422008, x422009, x422010, x422011, x422012, x422013, x422014, x422015, x422016, x430000, x430001, x430002, x430003, x430004, x430005, x430006, x430007, x430008 => if x6 = true then ((round_Round_Done.f k x422000 x422001 x422002 x422003 x422004 x422005 x422006 x422007 x422008 x422009 x422010 x422011 x422012 x422013 x422014 x422015 x422016).bind fun t452 => (if t452 = true then ((round_Round_Who.f k x422000 x422001 x422002 x422003 x422004 x422005 x422006 x422007 x422008 x422009 x422010 x422011 x422012 x422013 x422014 x422015 x422016).bind fun t453 => (ropewaylaw14_RoundStays.j4 k x7 x10 x26 x27 x28 ((t453.length : Int) != x7) x405000 x405001 x405002 x405003 x405004 x405005 x405006 x405007 x405008 x422000 x422001 x422002 x422003 x422004 x422005 x422006 x422007 x422008 x422009 x422010 x422011 x422012 x422013 x422014 x422015 x422016 x430000 x430001 x430002 x430003 x430004 x430005 x430006 x430007 x430008)) else (ropewaylaw14_RoundStays.j4 k x7 x10 x26 x27 x28 true x405000 x405001 x405002 x405003 x405004 x405005 x405006 x405007 x405008 x422000 x422001 x422002 x422003 x422004 x422005 x422006 x422007 x422008 x422009 x422010 x422011 x422012 x422013 x422014 x422015 x422016 x430000 x430001 x430002 x430003 x430004 x430005 x430006 x430007 x430008))) else ((round_Round_Who.f k x422000 x422001 x422002 x422003 x422004 x422005 x422006 x422007 x422008 x422009 x422010 x422011 x422012 x422013 x422014 x422015 x422016).bind fun t456 => (ropewaylaw14_RoundStays.j4 k x7 x10 x26 x27 x28 ((t456.length : Int) != x7) x405000 x405001 x405002 x405003 x405004 x405005 x405006 x405007 x405008 x422000 x422001 x422002 x422003 x422004 x422005 x422006 x422007 x422008 x422009 x422010 x422011 x422012 x422013 x422014 x422015 x422016 x430000 x430001 x430002 x430003 x430004 x430005 x430006 x430007 x430008))
def ropewaylaw14_RoundStays.j4 : Nat → Int → Bool → List (S27) → Int → Int → Bool → Int → Int → Int → Int → Int → Int → Int → List (S43) → List (S48) → Int → Int → Int → Int → Int → Int → Int → List (S43) → List (S48) → Bool → Bool → Bool → Bool → Bool → Bool → List (S43) → List (S48) → Int → Int → Int → Int → Int → Int → Int → List (S43) → List (S48) → Option (Bool)
  | 0, _, _, _, _, _, _, _, _, _, _, _, _, _, _, _, _, _, _, _, _, _, _, _, _, _, _, _, _, _, _, _, _, _, _, _, _, _, _, _, _, _ => none
  | k + 1, x7, x10, x26, x27, x28, x50, x405000, x405001, x405002, x405003, x405004, x405005, x405006, x405007, x405008, x422000, x422001, x422002, x422003, x422004, x422005, x422006, x422007, x422008, x422009, x422010, x422011, x422012, x422013, x422014, x422015, x422016, x430000, x430001, x430002, x430003, x430004, x430005, x430006, x430007, x430008 => if x50 = true then (some false) else ((round_Round_Done.f k x422000 x422001 x422002 x422003 x422004 x422005 x422006 x422007 x422008 x422009 x422010 x422011 x422012 x422013 x422014 x422015 x422016).bind fun t459 => ((round_Round_Asks.f k x422000 x422001 x422002 x422003 x422004 x422005 x422006 x422007 x422008 x422009 x422010 x422011 x422012 x422013 x422014 x422015 x422016).bind fun t460 => (ropewaylaw14_RoundStays.l1 k t459 x7 x10 x26 x27 x28 t460 (t460.length : Int) 0 x405000 x405001 x405002 x405003 x405004 x405005 x405006 x405007 x405008 x422000 x422001 x422002 x422003 x422004 x422005 x422006 x422007 x422008 x422009 x422010 x422011 x422012 x422013 x422014 x422015 x422016 x430000 x430001 x430002 x430003 x430004 x430005 x430006 x430007 x430008)))
def ropewaylaw14_RoundStays.l1 : Nat → Bool → Int → Bool → List (S27) → Int → Int → List (S27) → Int → Int → Int → Int → Int → Int → Int → Int → Int → List (S43) → List (S48) → Int → Int → Int → Int → Int → Int → Int → List (S43) → List (S48) → Bool → Bool → Bool → Bool → Bool → Bool → List (S43) → List (S48) → Int → Int → Int → Int → Int → Int → Int → List (S43) → List (S48) → Option (Bool)
  | 0, _, _, _, _, _, _, _, _, _, _, _, _, _, _, _, _, _, _, _, _, _, _, _, _, _, _, _, _, _, _, _, _, _, _, _, _, _, _, _, _, _, _, _, _ => none
  | k + 1, x6, x7, x10, x26, x27, x28, x54, x55, x56, x405000, x405001, x405002, x405003, x405004, x405005, x405006, x405007, x405008, x422000, x422001, x422002, x422003, x422004, x422005, x422006, x422007, x422008, x422009, x422010, x422011, x422012, x422013, x422014, x422015, x422016, x430000, x430001, x430002, x430003, x430004, x430005, x430006, x430007, x430008 => if x56 < x55 then (if 0 ≤ x56 then (if x56 < (x54.length : Int) then (if x10 = true then (if ((rd_T27 x54 x56).f2) = x430001 then (some false) else (ropewaylaw14_RoundStays.l1 k x6 x7 x10 x26 x27 x28 x54 x55 (wrap64 (x56 + 1)) x405000 x405001 x405002 x405003 x405004 x405005 x405006 x405007 x405008 x422000 x422001 x422002 x422003 x422004 x422005 x422006 x422007 x422008 x422009 x422010 x422011 x422012 x422013 x422014 x422015 x422016 x430000 x430001 x430002 x430003 x430004 x430005 x430006 x430007 x430008)) else (ropewaylaw14_RoundStays.l1 k x6 x7 x10 x26 x27 x28 x54 x55 (wrap64 (x56 + 1)) x405000 x405001 x405002 x405003 x405004 x405005 x405006 x405007 x405008 x422000 x422001 x422002 x422003 x422004 x422005 x422006 x422007 x422008 x422009 x422010 x422011 x422012 x422013 x422014 x422015 x422016 x430000 x430001 x430002 x430003 x430004 x430005 x430006 x430007 x430008)) else (none)) else (none)) else (ropewaylaw14_RoundStays.l0 k x6 x7 x26 x27 (wrap64 (x28 + 1)) x405000 x405001 x405002 x405003 x405004 x405005 x405006 x405007 x405008 x422000 x422001 x422002 x422003 x422004 x422005 x422006 x422007 x422008 x422009 x422010 x422011 x422012 x422013 x422014 x422015 x422016)
end
def ropewaylaw14_RoundStays.f (k : Nat) (a0_0 : Int) (a0_1 : Int) (a0_2 : Int) (a0_3 : Int) (a0_4 : Int) (a0_5 : Int) (a0_6 : Int) (l0_7 : List (S43)) (l0_8 : List (S48)) (l1 : List (S27)) : Option (Bool) := (ropewaylaw14_roundAlive.f k).bind fun t405 => (if t405 = true then (if (l1.length : Int) > 60 then (ropewaylaw14_RoundStays.j0 k l1 true a0_0 a0_1 a0_2 a0_3 a0_4 a0_5 a0_6 l0_7 l0_8) else ((ropewaylaw14_right.f k a0_0 a0_1 a0_2 a0_3 a0_4 a0_5 a0_6 l0_7 l0_8 l1).bind fun t406 => (ropewaylaw14_RoundStays.j0 k l1 (!t406) a0_0 a0_1 a0_2 a0_3 a0_4 a0_5 a0_6 l0_7 l0_8))) else (some false))
theorem ropewaylaw14_RoundStays.mono_l : ∀ k, (∀ y0 y1 y2 y3 y4 y5 y6 y7 y8 y9 y10, LeO (ropewaylaw14_RoundStays.j0 k y0 y1 y2 y3 y4 y5 y6 y7 y8 y9 y10) (ropewaylaw14_RoundStays.j0 (k + 1) y0 y1 y2 y3 y4 y5 y6 y7 y8 y9 y10)) ∧ (∀ y0 y1 y2 y3 y4 y5 y6 y7 y8 y9 y10 y11 y12 y13 y14 y15 y16 y17 y18 y19 y20 y21 y22 y23 y24 y25 y26 y27 y28 y29 y30, LeO (ropewaylaw14_RoundStays.l0 k y0 y1 y2 y3 y4 y5 y6 y7 y8 y9 y10 y11 y12 y13 y14 y15 y16 y17 y18 y19 y20 y21 y22 y23 y24 y25 y26 y27 y28 y29 y30) (ropewaylaw14_RoundStays.l0 (k + 1) y0 y1 y2 y3 y4 y5 y6 y7 y8 y9 y10 y11 y12 y13 y14 y15 y16 y17 y18 y19 y20 y21 y22 y23 y24 y25 y26 y27 y28 y29 y30)) ∧ (∀ y0 y1 y2 y3 y4 y5 y6 y7 y8 y9 y10 y11 y12 y13 y14 y15 y16 y17 y18 y19 y20 y21 y22 y23 y24 y25 y26 y27 y28 y29 y30 y31 y32 y33 y34 y35 y36 y37 y38 y39 y40, LeO (ropewaylaw14_RoundStays.j2 k y0 y1 y2 y3 y4 y5 y6 y7 y8 y9 y10 y11 y12 y13 y14 y15 y16 y17 y18 y19 y20 y21 y22 y23 y24 y25 y26 y27 y28 y29 y30 y31 y32 y33 y34 y35 y36 y37 y38 y39 y40) (ropewaylaw14_RoundStays.j2 (k + 1) y0 y1 y2 y3 y4 y5 y6 y7 y8 y9 y10 y11 y12 y13 y14 y15 y16 y17 y18 y19 y20 y21 y22 y23 y24 y25 y26 y27 y28 y29 y30 y31 y32 y33 y34 y35 y36 y37 y38 y39 y40)) ∧ (∀ y0 y1 y2 y3 y4 y5 y6 y7 y8 y9 y10 y11 y12 y13 y14 y15 y16 y17 y18 y19 y20 y21 y22 y23 y24 y25 y26 y27 y28 y29 y30 y31 y32 y33 y34 y35 y36 y37 y38 y39 y40, LeO (ropewaylaw14_RoundStays.j3 k y0 y1 y2 y3 y4 y5 y6 y7 y8 y9 y10 y11 y12 y13 y14 y15 y16 y17 y18 y19 y20 y21 y22 y23 y24 y25 y26 y27 y28 y29 y30 y31 y32 y33 y34 y35 y36 y37 y38 y39 y40) (ropewaylaw14_RoundStays.j3 (k + 1) y0 y1 y2 y3 y4 y5 y6 y7 y8 y9 y10 y11 y12 y13 y14 y15 y16 y17 y18 y19 y20 y21 y22 y23 y24 y25 y26 y27 y28 y29 y30 y31 y32 y33 y34 y35 y36 y37 y38 y39 y40)) ∧ (∀ y0 y1 y2 y3 y4 y5 y6 y7 y8 y9 y10 y11 y12 y13 y14 y15 y16 y17 y18 y19 y20 y21 y22 y23 y24 y25 y26 y27 y28 y29 y30 y31 y32 y33 y34 y35 y36 y37 y38 y39 y40, LeO (ropewaylaw14_RoundStays.j4 k y0 y1 y2 y3 y4 y5 y6 y7 y8 y9 y10 y11 y12 y13 y14 y15 y16 y17 y18 y19 y20 y21 y22 y23 y24 y25 y26 y27 y28 y29 y30 y31 y32 y33 y34 y35 y36 y37 y38 y39 y40) (ropewaylaw14_RoundStays.j4 (k + 1) y0 y1 y2 y3 y4 y5 y6 y7 y8 y9 y10 y11 y12 y13 y14 y15 y16 y17 y18 y19 y20 y21 y22 y23 y24 y25 y26 y27 y28 y29 y30 y31 y32 y33 y34 y35 y36 y37 y38 y39 y40)) ∧ (∀ y0 y1 y2 y3 y4 y5 y6 y7 y8 y9 y10 y11 y12 y13 y14 y15 y16 y17 y18 y19 y20 y21 y22 y23 y24 y25 y26 y27 y28 y29 y30 y31 y32 y33 y34 y35 y36 y37 y38 y39 y40 y41 y42 y43, LeO (ropewaylaw14_RoundStays.l1 k y0 y1 y2 y3 y4 y5 y6 y7 y8 y9 y10 y11 y12 y13 y14 y15 y16 y17 y18 y19 y20 y21 y22 y23 y24 y25 y26 y27 y28 y29 y30 y31 y32 y33 y34 y35 y36 y37 y38 y39 y40 y41 y42 y43) (ropewaylaw14_RoundStays.l1 (k + 1) y0 y1 y2 y3 y4 y5 y6 y7 y8 y9 y10 y11 y12 y13 y14 y15 y16 y17 y18 y19 y20 y21 y22 y23 y24 y25 y26 y27 y28 y29 y30 y31 y32 y33 y34 y35 y36 y37 y38 y39 y40 y41 y42 y43))
  | 0 => ⟨fun _ _ _ _ _ _ _ _ _ _ _ r h => by simp [ropewaylaw14_RoundStays.j0] at h, fun _ _ _ _ _ _ _ _ _ _ _ _ _ _ _ _ _ _ _ _ _ _ _ _ _ _ _ _ _ _ _ r h => by simp [ropewaylaw14_RoundStays.l0] at h, fun _ _ _ _ _ _ _ _ _ _ _ _ _ _ _ _ _ _ _ _ _ _ _ _ _ _ _ _ _ _ _ _ _ _ _ _ _ _ _ _ _ r h => by simp [ropewaylaw14_RoundStays.j2] at h, fun _ _ _ _ _ _ _ _ _ _ _ _ _ _ _ _ _ _ _ _ _ _ _ _ _ _ _ _ _ _ _ _ _ _ _ _ _ _ _ _ _ r h => by simp [ropewaylaw14_RoundStays.j3] at h, fun _ _ _ _ _ _ _ _ _ _ _ _ _ _ _ _ _ _ _ _ _ _ _ _ _ _ _ _ _ _ _ _ _ _ _ _ _ _ _ _ _ r h => by simp [ropewaylaw14_RoundStays.j4] at h, fun _ _ _ _ _ _ _ _ _ _ _ _ _ _ _ _ _ _ _ _ _ _ _ _ _ _ _ _ _ _ _ _ _ _ _ _ _ _ _ _ _ _ _ _ r h => by simp [ropewaylaw14_RoundStays.l1] at h⟩
  | k + 1 => by
    obtain ⟨ih0, ih1, ih2, ih3, ih4, ih5⟩ := ropewaylaw14_RoundStays.mono_l k
    refine ⟨?_, ?_, ?_, ?_, ?_, ?_⟩
    · intro y0 y1 y2 y3 y4 y5 y6 y7 y8 y9 y10
      unfold ropewaylaw14_RoundStays.j0
      repeat' first
      | (with_reducible exact ih0 _ _ _ _ _ _ _ _ _ _ _)
      | (with_reducible exact ih1 _ _ _ _ _ _ _ _ _ _ _ _ _ _ _ _ _ _ _ _ _ _ _ _ _ _ _ _ _ _ _)
      | (with_reducible exact ih2 _ _ _ _ _ _ _ _ _ _ _ _ _ _ _ _ _ _ _ _ _ _ _ _ _ _ _ _ _ _ _ _ _ _ _ _ _ _ _ _ _)
      | (with_reducible exact ih3 _ _ _ _ _ _ _ _ _ _ _ _ _ _ _ _ _ _ _ _ _ _ _ _ _ _ _ _ _ _ _ _ _ _ _ _ _ _ _ _ _)
      | (with_reducible exact ih4 _ _ _ _ _ _ _ _ _ _ _ _ _ _ _ _ _ _ _ _ _ _ _ _ _ _ _ _ _ _ _ _ _ _ _ _ _ _ _ _ _)
      | (with_reducible exact ih5 _ _ _ _ _ _ _ _ _ _ _ _ _ _ _ _ _ _ _ _ _ _ _ _ _ _ _ _ _ _ _ _ _ _ _ _ _ _ _ _ _ _ _ _)
      | (with_reducible exact book_Merge.mono _ _ _)
      | (with_reducible exact cells_Merge.mono _ _ _)
      | (with_reducible exact ropewaylaw14_right.mono _ _ _ _ _ _ _ _ _ _ _)
      | (with_reducible exact ropewaylaw14_roundAlive.mono _)
      | (with_reducible exact round_Round_Asks.mono _ _ _ _ _ _ _ _ _ _ _ _ _ _ _ _ _ _)
      | (with_reducible exact round_Round_Done.mono _ _ _ _ _ _ _ _ _ _ _ _ _ _ _ _ _ _)
      | (with_reducible exact round_Round_Who.mono _ _ _ _ _ _ _ _ _ _ _ _ _ _ _ _ _ _)
      | (with_reducible exact view_Members.mono _ _ _)
      | (with_reducible exact LeO.refl _)
      | (with_reducible exact LeO.none _)
      | (with_reducible refine LeO.ite ?_ ?_)
      | (with_reducible refine LeO.bind ?_ (fun _ => ?_))
      | exact ih0 _ _ _ _ _ _ _ _ _ _ _
      | exact ih1 _ _ _ _ _ _ _ _ _ _ _ _ _ _ _ _ _ _ _ _ _ _ _ _ _ _ _ _ _ _ _
      | exact ih2 _ _ _ _ _ _ _ _ _ _ _ _ _ _ _ _ _ _ _ _ _ _ _ _ _ _ _ _ _ _ _ _ _ _ _ _ _ _ _ _ _
      | exact ih3 _ _ _ _ _ _ _ _ _ _ _ _ _ _ _ _ _ _ _ _ _ _ _ _ _ _ _ _ _ _ _ _ _ _ _ _ _ _ _ _ _
      | exact ih4 _ _ _ _ _ _ _ _ _ _ _ _ _ _ _ _ _ _ _ _ _ _ _ _ _ _ _ _ _ _ _ _ _ _ _ _ _ _ _ _ _
      | exact ih5 _ _ _ _ _ _ _ _ _ _ _ _ _ _ _ _ _ _ _ _ _ _ _ _ _ _ _ _ _ _ _ _ _ _ _ _ _ _ _ _ _ _ _ _
      | exact book_Merge.mono _ _ _
      | exact cells_Merge.mono _ _ _
      | exact ropewaylaw14_right.mono _ _ _ _ _ _ _ _ _ _ _
      | exact ropewaylaw14_roundAlive.mono _
      | exact round_Round_Asks.mono _ _ _ _ _ _ _ _ _ _ _ _ _ _ _ _ _ _
      | exact round_Round_Done.mono _ _ _ _ _ _ _ _ _ _ _ _ _ _ _ _ _ _
      | exact round_Round_Who.mono _ _ _ _ _ _ _ _ _ _ _ _ _ _ _ _ _ _
      | exact view_Members.mono _ _ _
      | exact LeO.none _
      | refine LeO.ite ?_ ?_
      | refine LeO.bind ?_ (fun _ => ?_)
    · intro y0 y1 y2 y3 y4 y5 y6 y7 y8 y9 y10 y11 y12 y13 y14 y15 y16 y17 y18 y19 y20 y21 y22 y23 y24 y25 y26 y27 y28 y29 y30
      unfold ropewaylaw14_RoundStays.l0
      repeat' first
      | (with_reducible exact ih0 _ _ _ _ _ _ _ _ _ _ _)
      | (with_reducible exact ih1 _ _ _ _ _ _ _ _ _ _ _ _ _ _ _ _ _ _ _ _ _ _ _ _ _ _ _ _ _ _ _)
      | (with_reducible exact ih2 _ _ _ _ _ _ _ _ _ _ _ _ _ _ _ _ _ _ _ _ _ _ _ _ _ _ _ _ _ _ _ _ _ _ _ _ _ _ _ _ _)
      | (with_reducible exact ih3 _ _ _ _ _ _ _ _ _ _ _ _ _ _ _ _ _ _ _ _ _ _ _ _ _ _ _ _ _ _ _ _ _ _ _ _ _ _ _ _ _)
      | (with_reducible exact ih4 _ _ _ _ _ _ _ _ _ _ _ _ _ _ _ _ _ _ _ _ _ _ _ _ _ _ _ _ _ _ _ _ _ _ _ _ _ _ _ _ _)
      | (with_reducible exact ih5 _ _ _ _ _ _ _ _ _ _ _ _ _ _ _ _ _ _ _ _ _ _ _ _ _ _ _ _ _ _ _ _ _ _ _ _ _ _ _ _ _ _ _ _)
      | (with_reducible exact book_Merge.mono _ _ _)
      | (with_reducible exact cells_Merge.mono _ _ _)
      | (with_reducible exact ropewaylaw14_right.mono _ _ _ _ _ _ _ _ _ _ _)
      | (with_reducible exact ropewaylaw14_roundAlive.mono _)
      | (with_reducible exact round_Round_Asks.mono _ _ _ _ _ _ _ _ _ _ _ _ _ _ _ _ _ _)
      | (with_reducible exact round_Round_Done.mono _ _ _ _ _ _ _ _ _ _ _ _ _ _ _ _ _ _)
      | (with_reducible exact round_Round_Who.mono _ _ _ _ _ _ _ _ _ _ _ _ _ _ _ _ _ _)
      | (with_reducible exact view_Members.mono _ _ _)
      | (with_reducible exact LeO.refl _)
      | (with_reducible exact LeO.none _)
      | (with_reducible refine LeO.ite ?_ ?_)
      | (with_reducible refine LeO.bind ?_ (fun _ => ?_))
      | exact ih0 _ _ _ _ _ _ _ _ _ _ _
      | exact ih1 _ _ _ _ _ _ _ _ _ _ _ _ _ _ _ _ _ _ _ _ _ _ _ _ _ _ _ _ _ _ _
      | exact ih2 _ _ _ _ _ _ _ _ _ _ _ _ _ _ _ _ _ _ _ _ _ _ _ _ _ _ _ _ _ _ _ _ _ _ _ _ _ _ _ _ _
      | exact ih3 _ _ _ _ _ _ _ _ _ _ _ _ _ _ _ _ _ _ _ _ _ _ _ _ _ _ _ _ _ _ _ _ _ _ _ _ _ _ _ _ _
      | exact ih4 _ _ _ _ _ _ _ _ _ _ _ _ _ _ _ _ _ _ _ _ _ _ _ _ _ _ _ _ _ _ _ _ _ _ _ _ _ _ _ _ _
      | exact ih5 _ _ _ _ _ _ _ _ _ _ _ _ _ _ _ _ _ _ _ _ _ _ _ _ _ _ _ _ _ _ _ _ _ _ _ _ _ _ _ _ _ _ _ _
      | exact book_Merge.mono _ _ _
      | exact cells_Merge.mono _ _ _
      | exact ropewaylaw14_right.mono _ _ _ _ _ _ _ _ _ _ _
      | exact ropewaylaw14_roundAlive.mono _
      | exact round_Round_Asks.mono _ _ _ _ _ _ _ _ _ _ _ _ _ _ _ _ _ _
      | exact round_Round_Done.mono _ _ _ _ _ _ _ _ _ _ _ _ _ _ _ _ _ _
      | exact round_Round_Who.mono _ _ _ _ _ _ _ _ _ _ _ _ _ _ _ _ _ _
      | exact view_Members.mono _ _ _
      | exact LeO.none _
      | refine LeO.ite ?_ ?_
      | refine LeO.bind ?_ (fun _ => ?_)
    · intro y0 y1 y2 y3 y4 y5 y6 y7 y8 y9 y10 y11 y12 y13 y14 y15 y16 y17 y18 y19 y20 y21 y22 y23 y24 y25 y26 y27 y28 y29 y30 y31 y32 y33 y34 y35 y36 y37 y38 y39 y40
      unfold ropewaylaw14_RoundStays.j2
      repeat' first
      | (with_reducible exact ih0 _ _ _ _ _ _ _ _ _ _ _)
      | (with_reducible exact ih1 _ _ _ _ _ _ _ _ _ _ _ _ _ _ _ _ _ _ _ _ _ _ _ _ _ _ _ _ _ _ _)
      | (with_reducible exact ih2 _ _ _ _ _ _ _ _ _ _ _ _ _ _ _ _ _ _ _ _ _ _ _ _ _ _ _ _ _ _ _ _ _ _ _ _ _ _ _ _ _)
      | (with_reducible exact ih3 _ _ _ _ _ _ _ _ _ _ _ _ _ _ _ _ _ _ _ _ _ _ _ _ _ _ _ _ _ _ _ _ _ _ _ _ _ _ _ _ _)
      | (with_reducible exact ih4 _ _ _ _ _ _ _ _ _ _ _ _ _ _ _ _ _ _ _ _ _ _ _ _ _ _ _ _ _ _ _ _ _ _ _ _ _ _ _ _ _)
      | (with_reducible exact ih5 _ _ _ _ _ _ _ _ _ _ _ _ _ _ _ _ _ _ _ _ _ _ _ _ _ _ _ _ _ _ _ _ _ _ _ _ _ _ _ _ _ _ _ _)
      | (with_reducible exact book_Merge.mono _ _ _)
      | (with_reducible exact cells_Merge.mono _ _ _)
      | (with_reducible exact ropewaylaw14_right.mono _ _ _ _ _ _ _ _ _ _ _)
      | (with_reducible exact ropewaylaw14_roundAlive.mono _)
      | (with_reducible exact round_Round_Asks.mono _ _ _ _ _ _ _ _ _ _ _ _ _ _ _ _ _ _)
      | (with_reducible exact round_Round_Done.mono _ _ _ _ _ _ _ _ _ _ _ _ _ _ _ _ _ _)
      | (with_reducible exact round_Round_Who.mono _ _ _ _ _ _ _ _ _ _ _ _ _ _ _ _ _ _)
      | (with_reducible exact view_Members.mono _ _ _)
      | (with_reducible exact LeO.refl _)
      | (with_reducible exact LeO.none _)
      | (with_reducible refine LeO.ite ?_ ?_)
      | (with_reducible refine LeO.bind ?_ (fun _ => ?_))
      | exact ih0 _ _ _ _ _ _ _ _ _ _ _
      | exact ih1 _ _ _ _ _ _ _ _ _ _ _ _ _ _ _ _ _ _ _ _ _ _ _ _ _ _ _ _ _ _ _
      | exact ih2 _ _ _ _ _ _ _ _ _ _ _ _ _ _ _ _ _ _ _ _ _ _ _ _ _ _ _ _ _ _ _ _ _ _ _ _ _ _ _ _ _
      | exact ih3 _ _ _ _ _ _ _ _ _ _ _ _ _ _ _ _ _ _ _ _ _ _ _ _ _ _ _ _ _ _ _ _ _ _ _ _ _ _ _ _ _
      | exact ih4 _ _ _ _ _ _ _ _ _ _ _ _ _ _ _ _ _ _ _ _ _ _ _ _ _ _ _ _ _ _ _ _ _ _ _ _ _ _ _ _ _
      | exact ih5 _ _ _ _ _ _ _ _ _ _ _ _ _ _ _ _ _ _ _ _ _ _ _ _ _ _ _ _ _ _ _ _ _ _ _ _ _ _ _ _ _ _ _ _
      | exact book_Merge.mono _ _ _
      | exact cells_Merge.mono _ _ _
      | exact ropewaylaw14_right.mono _ _ _ _ _ _ _ _ _ _ _
      | exact ropewaylaw14_roundAlive.mono _
      | exact round_Round_Asks.mono _ _ _ _ _ _ _ _ _ _ _ _ _ _ _ _ _ _
      | exact round_Round_Done.mono _ _ _ _ _ _ _ _ _ _ _ _ _ _ _ _ _ _
      | exact round_Round_Who.mono _ _ _ _ _ _ _ _ _ _ _ _ _ _ _ _ _ _
      | exact view_Members.mono _ _ _
      | exact LeO.none _
      | refine LeO.ite ?_ ?_
      | refine LeO.bind ?_ (fun _ => ?_)
    · intro y0 y1 y2 y3 y4 y5 y6 y7 y8 y9 y10 y11 y12 y13 y14 y15 y16 y17 y18 y19 y20 y21 y22 y23 y24 y25 y26 y27 y28 y29 y30 y31 y32 y33 y34 y35 y36 y37 y38 y39 y40
      unfold ropewaylaw14_RoundStays.j3
      repeat' first
      | (with_reducible exact ih0 _ _ _ _ _ _ _ _ _ _ _)
      | (with_reducible exact ih1 _ _ _ _ _ _ _ _ _ _ _ _ _ _ _ _ _ _ _ _ _ _ _ _ _ _ _ _ _ _ _)
      | (with_reducible exact ih2 _ _ _ _ _ _ _ _ _ _ _ _ _ _ _ _ _ _ _ _ _ _ _ _ _ _ _ _ _ _ _ _ _ _ _ _ _ _ _ _ _)
      | (with_reducible exact ih3 _ _ _ _ _ _ _ _ _ _ _ _ _ _ _ _ _ _ _ _ _ _ _ _ _ _ _ _ _ _ _ _ _ _ _ _ _ _ _ _ _)
      | (with_reducible exact ih4 _ _ _ _ _ _ _ _ _ _ _ _ _ _ _ _ _ _ _ _ _ _ _ _ _ _ _ _ _ _ _ _ _ _ _ _ _ _ _ _ _)
      | (with_reducible exact ih5 _ _ _ _ _ _ _ _ _ _ _ _ _ _ _ _ _ _ _ _ _ _ _ _ _ _ _ _ _ _ _ _ _ _ _ _ _ _ _ _ _ _ _ _)
      | (with_reducible exact book_Merge.mono _ _ _)
      | (with_reducible exact cells_Merge.mono _ _ _)
      | (with_reducible exact ropewaylaw14_right.mono _ _ _ _ _ _ _ _ _ _ _)
      | (with_reducible exact ropewaylaw14_roundAlive.mono _)
      | (with_reducible exact round_Round_Asks.mono _ _ _ _ _ _ _ _ _ _ _ _ _ _ _ _ _ _)
      | (with_reducible exact round_Round_Done.mono _ _ _ _ _ _ _ _ _ _ _ _ _ _ _ _ _ _)
      | (with_reducible exact round_Round_Who.mono _ _ _ _ _ _ _ _ _ _ _ _ _ _ _ _ _ _)
      | (with_reducible exact view_Members.mono _ _ _)
      | (with_reducible exact LeO.refl _)
      | (with_reducible exact LeO.none _)
      | (with_reducible refine LeO.ite ?_ ?_)
      | (with_reducible refine LeO.bind ?_ (fun _ => ?_))
      | exact ih0 _ _ _ _ _ _ _ _ _ _ _
      | exact ih1 _ _ _ _ _ _ _ _ _ _ _ _ _ _ _ _ _ _ _ _ _ _ _ _ _ _ _ _ _ _ _
      | exact ih2 _ _ _ _ _ _ _ _ _ _ _ _ _ _ _ _ _ _ _ _ _ _ _ _ _ _ _ _ _ _ _ _ _ _ _ _ _ _ _ _ _
      | exact ih3 _ _ _ _ _ _ _ _ _ _ _ _ _ _ _ _ _ _ _ _ _ _ _ _ _ _ _ _ _ _ _ _ _ _ _ _ _ _ _ _ _
      | exact ih4 _ _ _ _ _ _ _ _ _ _ _ _ _ _ _ _ _ _ _ _ _ _ _ _ _ _ _ _ _ _ _ _ _ _ _ _ _ _ _ _ _
      | exact ih5 _ _ _ _ _ _ _ _ _ _ _ _ _ _ _ _ _ _ _ _ _ _ _ _ _ _ _ _ _ _ _ _ _ _ _ _ _ _ _ _ _ _ _ _
      | exact book_Merge.mono _ _ _
      | exact cells_Merge.mono _ _ _
      | exact ropewaylaw14_right.mono _ _ _ _ _ _ _ _ _ _ _
      | exact ropewaylaw14_roundAlive.mono _
      | exact round_Round_Asks.mono _ _ _ _ _ _ _ _ _ _ _ _ _ _ _ _ _ _
      | exact round_Round_Done.mono _ _ _ _ _ _ _ _ _ _ _ _ _ _ _ _ _ _
      | exact round_Round_Who.mono _ _ _ _ _ _ _ _ _ _ _ _ _ _ _ _ _ _
      | exact view_Members.mono _ _ _
      | exact LeO.none _
      | refine LeO.ite ?_ ?_
      | refine LeO.bind ?_ (fun _ => ?_)
    · intro y0 y1 y2 y3 y4 y5 y6 y7 y8 y9 y10 y11 y12 y13 y14 y15 y16 y17 y18 y19 y20 y21 y22 y23 y24 y25 y26 y27 y28 y29 y30 y31 y32 y33 y34 y35 y36 y37 y38 y39 y40
      unfold ropewaylaw14_RoundStays.j4
      repeat' first
      | (with_reducible exact ih0 _ _ _ _ _ _ _ _ _ _ _)
      | (with_reducible exact ih1 _ _ _ _ _ _ _ _ _ _ _ _ _ _ _ _ _ _ _ _ _ _ _ _ _ _ _ _ _ _ _)
      | (with_reducible exact ih2 _ _ _ _ _ _ _ _ _ _ _ _ _ _ _ _ _ _ _ _ _ _ _ _ _ _ _ _ _ _ _ _ _ _ _ _ _ _ _ _ _)
      | (with_reducible exact ih3 _ _ _ _ _ _ _ _ _ _ _ _ _ _ _ _ _ _ _ _ _ _ _ _ _ _ _ _ _ _ _ _ _ _ _ _ _ _ _ _ _)
      | (with_reducible exact ih4 _ _ _ _ _ _ _ _ _ _ _ _ _ _ _ _ _ _ _ _ _ _ _ _ _ _ _ _ _ _ _ _ _ _ _ _ _ _ _ _ _)
      | (with_reducible exact ih5 _ _ _ _ _ _ _ _ _ _ _ _ _ _ _ _ _ _ _ _ _ _ _ _ _ _ _ _ _ _ _ _ _ _ _ _ _ _ _ _ _ _ _ _)
      | (with_reducible exact book_Merge.mono _ _ _)
      | (with_reducible exact cells_Merge.mono _ _ _)
      | (with_reducible exact ropewaylaw14_right.mono _ _ _ _ _ _ _ _ _ _ _)
      | (with_reducible exact ropewaylaw14_roundAlive.mono _)
      | (with_reducible exact round_Round_Asks.mono _ _ _ _ _ _ _ _ _ _ _ _ _ _ _ _ _ _)
      | (with_reducible exact round_Round_Done.mono _ _ _ _ _ _ _ _ _ _ _ _ _ _ _ _ _ _)
      | (with_reducible exact round_Round_Who.mono _ _ _ _ _ _ _ _ _ _ _ _ _ _ _ _ _ _)
      | (with_reducible exact view_Members.mono _ _ _)
      | (with_reducible exact LeO.refl _)
      | (with_reducible exact LeO.none _)
      | (with_reducible refine LeO.ite ?_ ?_)
      | (with_reducible refine LeO.bind ?_ (fun _ => ?_))
      | exact ih0 _ _ _ _ _ _ _ _ _ _ _
      | exact ih1 _ _ _ _ _ _ _ _ _ _ _ _ _ _ _ _ _ _ _ _ _ _ _ _ _ _ _ _ _ _ _
      | exact ih2 _ _ _ _ _ _ _ _ _ _ _ _ _ _ _ _ _ _ _ _ _ _ _ _ _ _ _ _ _ _ _ _ _ _ _ _ _ _ _ _ _
      | exact ih3 _ _ _ _ _ _ _ _ _ _ _ _ _ _ _ _ _ _ _ _ _ _ _ _ _ _ _ _ _ _ _ _ _ _ _ _ _ _ _ _ _
      | exact ih4 _ _ _ _ _ _ _ _ _ _ _ _ _ _ _ _ _ _ _ _ _ _ _ _ _ _ _ _ _ _ _ _ _ _ _ _ _ _ _ _ _
      | exact ih5 _ _ _ _ _ _ _ _ _ _ _ _ _ _ _ _ _ _ _ _ _ _ _ _ _ _ _ _ _ _ _ _ _ _ _ _ _ _ _ _ _ _ _ _
      | exact book_Merge.mono _ _ _
      | exact cells_Merge.mono _ _ _
      | exact ropewaylaw14_right.mono _ _ _ _ _ _ _ _ _ _ _
      | exact ropewaylaw14_roundAlive.mono _
      | exact round_Round_Asks.mono _ _ _ _ _ _ _ _ _ _ _ _ _ _ _ _ _ _
      | exact round_Round_Done.mono _ _ _ _ _ _ _ _ _ _ _ _ _ _ _ _ _ _
      | exact round_Round_Who.mono _ _ _ _ _ _ _ _ _ _ _ _ _ _ _ _ _ _
      | exact view_Members.mono _ _ _
      | exact LeO.none _
      | refine LeO.ite ?_ ?_
      | refine LeO.bind ?_ (fun _ => ?_)
    · intro y0 y1 y2 y3 y4 y5 y6 y7 y8 y9 y10 y11 y12 y13 y14 y15 y16 y17 y18 y19 y20 y21 y22 y23 y24 y25 y26 y27 y28 y29 y30 y31 y32 y33 y34 y35 y36 y37 y38 y39 y40 y41 y42 y43
      unfold ropewaylaw14_RoundStays.l1
      repeat' first
      | (with_reducible exact ih0 _ _ _ _ _ _ _ _ _ _ _)
      | (with_reducible exact ih1 _ _ _ _ _ _ _ _ _ _ _ _ _ _ _ _ _ _ _ _ _ _ _ _ _ _ _ _ _ _ _)
      | (with_reducible exact ih2 _ _ _ _ _ _ _ _ _ _ _ _ _ _ _ _ _ _ _ _ _ _ _ _ _ _ _ _ _ _ _ _ _ _ _ _ _ _ _ _ _)
      | (with_reducible exact ih3 _ _ _ _ _ _ _ _ _ _ _ _ _ _ _ _ _ _ _ _ _ _ _ _ _ _ _ _ _ _ _ _ _ _ _ _ _ _ _ _ _)
      | (with_reducible exact ih4 _ _ _ _ _ _ _ _ _ _ _ _ _ _ _ _ _ _ _ _ _ _ _ _ _ _ _ _ _ _ _ _ _ _ _ _ _ _ _ _ _)
      | (with_reducible exact ih5 _ _ _ _ _ _ _ _ _ _ _ _ _ _ _ _ _ _ _ _ _ _ _ _ _ _ _ _ _ _ _ _ _ _ _ _ _ _ _ _ _ _ _ _)
      | (with_reducible exact book_Merge.mono _ _ _)
      | (with_reducible exact cells_Merge.mono _ _ _)
      | (with_reducible exact ropewaylaw14_right.mono _ _ _ _ _ _ _ _ _ _ _)
      | (with_reducible exact ropewaylaw14_roundAlive.mono _)
      | (with_reducible exact round_Round_Asks.mono _ _ _ _ _ _ _ _ _ _ _ _ _ _ _ _ _ _)
      | (with_reducible exact round_Round_Done.mono _ _ _ _ _ _ _ _ _ _ _ _ _ _ _ _ _ _)
      | (with_reducible exact round_Round_Who.mono _ _ _ _ _ _ _ _ _ _ _ _ _ _ _ _ _ _)
      | (with_reducible exact view_Members.mono _ _ _)
      | (with_reducible exact LeO.refl _)
      | (with_reducible exact LeO.none _)
      | (with_reducible refine LeO.ite ?_ ?_)
      | (with_reducible refine LeO.bind ?_ (fun _ => ?_))
      | exact ih0 _ _ _ _ _ _ _ _ _ _ _
      | exact ih1 _ _ _ _ _ _ _ _ _ _ _ _ _ _ _ _ _ _ _ _ _ _ _ _ _ _ _ _ _ _ _
      | exact ih2 _ _ _ _ _ _ _ _ _ _ _ _ _ _ _ _ _ _ _ _ _ _ _ _ _ _ _ _ _ _ _ _ _ _ _ _ _ _ _ _ _
      | exact ih3 _ _ _ _ _ _ _ _ _ _ _ _ _ _ _ _ _ _ _ _ _ _ _ _ _ _ _ _ _ _ _ _ _ _ _ _ _ _ _ _ _
      | exact ih4 _ _ _ _ _ _ _ _ _ _ _ _ _ _ _ _ _ _ _ _ _ _ _ _ _ _ _ _ _ _ _ _ _ _ _ _ _ _ _ _ _
      | exact ih5 _ _ _ _ _ _ _ _ _ _ _ _ _ _ _ _ _ _ _ _ _ _ _ _ _ _ _ _ _ _ _ _ _ _ _ _ _ _ _ _ _ _ _ _
      | exact book_Merge.mono _ _ _
      | exact cells_Merge.mono _ _ _
      | exact ropewaylaw14_right.mono _ _ _ _ _ _ _ _ _ _ _
      | exact ropewaylaw14_roundAlive.mono _
      | exact round_Round_Asks.mono _ _ _ _ _ _ _ _ _ _ _ _ _ _ _ _ _ _
      | exact round_Round_Done.mono _ _ _ _ _ _ _ _ _ _ _ _ _ _ _ _ _ _
      | exact round_Round_Who.mono _ _ _ _ _ _ _ _ _ _ _ _ _ _ _ _ _ _
      | exact view_Members.mono _ _ _
      | exact LeO.none _
      | refine LeO.ite ?_ ?_
      | refine LeO.bind ?_ (fun _ => ?_)
theorem ropewaylaw14_RoundStays.mono : ∀ a0 a1 a2 a3 a4 a5 a6 a7 a8 a9 k, LeO (ropewaylaw14_RoundStays.f k a0 a1 a2 a3 a4 a5 a6 a7 a8 a9) (ropewaylaw14_RoundStays.f (k + 1) a0 a1 a2 a3 a4 a5 a6 a7 a8 a9) := by
  intro a0 a1 a2 a3 a4 a5 a6 a7 a8 a9 k
  obtain ⟨ih0, ih1, ih2, ih3, ih4, ih5⟩ := ropewaylaw14_RoundStays.mono_l k
  unfold ropewaylaw14_RoundStays.f
  repeat' first
      | (with_reducible exact ih0 _ _ _ _ _ _ _ _ _ _ _)
      | (with_reducible exact ih1 _ _ _ _ _ _ _ _ _ _ _ _ _ _ _ _ _ _ _ _ _ _ _ _ _ _ _ _ _ _ _)
      | (with_reducible exact ih2 _ _ _ _ _ _ _ _ _ _ _ _ _ _ _ _ _ _ _ _ _ _ _ _ _ _ _ _ _ _ _ _ _ _ _ _ _ _ _ _ _)
      | (with_reducible exact ih3 _ _ _ _ _ _ _ _ _ _ _ _ _ _ _ _ _ _ _ _ _ _ _ _ _ _ _ _ _ _ _ _ _ _ _ _ _ _ _ _ _)
      | (with_reducible exact ih4 _ _ _ _ _ _ _ _ _ _ _ _ _ _ _ _ _ _ _ _ _ _ _ _ _ _ _ _ _ _ _ _ _ _ _ _ _ _ _ _ _)
      | (with_reducible exact ih5 _ _ _ _ _ _ _ _ _ _ _ _ _ _ _ _ _ _ _ _ _ _ _ _ _ _ _ _ _ _ _ _ _ _ _ _ _ _ _ _ _ _ _ _)
      | (with_reducible exact book_Merge.mono _ _ _)
      | (with_reducible exact cells_Merge.mono _ _ _)
      | (with_reducible exact ropewaylaw14_right.mono _ _ _ _ _ _ _ _ _ _ _)
      | (with_reducible exact ropewaylaw14_roundAlive.mono _)
      | (with_reducible exact round_Round_Asks.mono _ _ _ _ _ _ _ _ _ _ _ _ _ _ _ _ _ _)
      | (with_reducible exact round_Round_Done.mono _ _ _ _ _ _ _ _ _ _ _ _ _ _ _ _ _ _)
      | (with_reducible exact round_Round_Who.mono _ _ _ _ _ _ _ _ _ _ _ _ _ _ _ _ _ _)
      | (with_reducible exact view_Members.mono _ _ _)
      | (with_reducible exact LeO.refl _)
      | (with_reducible exact LeO.none _)
      | (with_reducible refine LeO.ite ?_ ?_)
      | (with_reducible refine LeO.bind ?_ (fun _ => ?_))
      | exact ih0 _ _ _ _ _ _ _ _ _ _ _
      | exact ih1 _ _ _ _ _ _ _ _ _ _ _ _ _ _ _ _ _ _ _ _ _ _ _ _ _ _ _ _ _ _ _
      | exact ih2 _ _ _ _ _ _ _ _ _ _ _ _ _ _ _ _ _ _ _ _ _ _ _ _ _ _ _ _ _ _ _ _ _ _ _ _ _ _ _ _ _
      | exact ih3 _ _ _ _ _ _ _ _ _ _ _ _ _ _ _ _ _ _ _ _ _ _ _ _ _ _ _ _ _ _ _ _ _ _ _ _ _ _ _ _ _
      | exact ih4 _ _ _ _ _ _ _ _ _ _ _ _ _ _ _ _ _ _ _ _ _ _ _ _ _ _ _ _ _ _ _ _ _ _ _ _ _ _ _ _ _
      | exact ih5 _ _ _ _ _ _ _ _ _ _ _ _ _ _ _ _ _ _ _ _ _ _ _ _ _ _ _ _ _ _ _ _ _ _ _ _ _ _ _ _ _ _ _ _
      | exact book_Merge.mono _ _ _
      | exact cells_Merge.mono _ _ _
      | exact ropewaylaw14_right.mono _ _ _ _ _ _ _ _ _ _ _
      | exact ropewaylaw14_roundAlive.mono _
      | exact round_Round_Asks.mono _ _ _ _ _ _ _ _ _ _ _ _ _ _ _ _ _ _
      | exact round_Round_Done.mono _ _ _ _ _ _ _ _ _ _ _ _ _ _ _ _ _ _
      | exact round_Round_Who.mono _ _ _ _ _ _ _ _ _ _ _ _ _ _ _ _ _ _
      | exact view_Members.mono _ _ _
      | exact LeO.none _
      | refine LeO.ite ?_ ?_
      | refine LeO.bind ?_ (fun _ => ?_)
def ropewaylaw14_RoundStays.T23 : Bool × List (List Nat × List Nat) := (true, [([], []), ([0], [0]), ([1], [1]), ([], []), ([2, 3], [2, 3]), ([], []), ([5], [5]), ([6, 1], [6]), ([7], [7]), ([4, 8], [4, 8]), ([9, 7, 0, 1, 2, 3, 4, 5, 6, 7, 8, 9], [9])])
def ropewaylaw14_RoundStays.B23 : List Nat := [0, 1, 3, 0, 15, 0, 32, 99, 227, 511, 1023]
theorem ropewaylaw14_RoundStays.tab23 : rtab .any (opsOf Try.f3 23) = ropewaylaw14_RoundStays.T23 := by kernel_rfl
theorem ropewaylaw14_RoundStays.bits23 : waitsOk ropewaylaw14_RoundStays.T23.2 ropewaylaw14_RoundStays.B23 = true := by kernel_rfl
set_option maxHeartbeats 8000000 in
set_option maxRecDepth 100000 in
theorem ropewaylaw14_RoundStays.calls (k : Nat) (a0_0 : Int) (a0_1 : Int) (a0_2 : Int) (a0_3 : Int) (a0_4 : Int) (a0_5 : Int) (a0_6 : Int) (A0_7 : Option Addr) (c0_7 : Nat) (l0_7 : List (S43)) (A0_8 : Option Addr) (c0_8 : Nat) (l0_8 : List (S48)) (A1 : Option Addr) (c1 : Nat) (l1 : List (S27)) (r : Bool) (w : World) (hr0_7 : Kd.C k43 w A0_7 l0_7.length l0_7) (hc0_7 : l0_7.length ≤ c0_7) (hr0_8 : Kd.C k48 w A0_8 l0_8.length l0_8) (hc0_8 : l0_8.length ≤ c0_8) (hr1 : Kd.C k27 w A1 l1.length l1) (hc1 : l1.length ≤ c1) (hr1_ : Aside0 (r = true)) (h : ropewaylaw14_RoundStays.f k a0_0 a0_1 a0_2 a0_3 a0_4 a0_5 a0_6 l0_7 l0_8 l1 = some r) :
    Calls Try.prog 3 #[.agg #[.int .i64 a0_0, .int .i64 a0_1, .int .i64 a0_2, .int .i64 a0_3, .int .i64 a0_4, .int .i64 a0_5, .int .i64 a0_6, .slice A0_7 l0_7.length c0_7, .slice A0_8 l0_8.length c0_8], .slice A1 l1.length c1] w fun e w' => e = .returned (.bool r) ∧ Below w.heap.size w w' := by
  have hu27 := Try.underlying27
  have hu23 := Try.underlying23
  have HR0_7 := zM hr0_7
  have HC0_7 := zM hc0_7
  clear hr0_7 hc0_7
  have HR0_8 := zM hr0_8
  have HC0_8 := zM hc0_8
  clear hr0_8 hc0_8
  have HR1 := zM hr1
  have HC1 := zM hc1
  clear hr1 hc1
  have HB := zM (Below.refl w.heap.size w)
  have H : ((ropewaylaw14_roundAlive.f k).bind fun t405 => (if t405 = true then (if (l1.length : Int) > 60 then (ropewaylaw14_RoundStays.j0 k l1 true a0_0 a0_1 a0_2 a0_3 a0_4 a0_5 a0_6 l0_7 l0_8) else ((ropewaylaw14_right.f k a0_0 a0_1 a0_2 a0_3 a0_4 a0_5 a0_6 l0_7 l0_8 l1).bind fun t406 => (ropewaylaw14_RoundStays.j0 k l1 (!t406) a0_0 a0_1 a0_2 a0_3 a0_4 a0_5 a0_6 l0_7 l0_8))) else (some false))) = some r := h
  clear h
  go_enter Try.func3, Try.ntmps3
  have tk4 : True := trivial
  go_upto_region 1 with (first | ((with_reducible refine gate_dst (N := 2) rfl ?_); clear tk4; (try (refine gate_guard (by rfl) ?_; dsimp only)); refine box_event ?hg (N := 2) ?hd (cs := #[.int .i64 a0_0, .int .i64 a0_1, .int .i64 a0_2, .int .i64 a0_3, .int .i64 a0_4, .int .i64 a0_5, .int .i64 a0_6, .slice A0_7 l0_7.length c0_7, .slice A0_8 l0_8.length c0_8]) (t := 27) ?hr ?_; (case hd => rfl); (case hg => rfl); (case hr => first | (go_simp; done) | (go_simp; rfl)); intro gb404 hg w3 hbox hb; have BK404 := zM (hbox); have GW404 := zM (bs_ hg); have GE404 := zM (bs_ hg); replace HB := zM (zB bel_ hb); clear hb hbox hg))
  replace H := Option.bind_eq_some_iff.mp H
  obtain ⟨t405, A50, H⟩ := H
  replace H : (if t405 = true then (if (l1.length : Int) > 60 then (ropewaylaw14_RoundStays.j0 k l1 true a0_0 a0_1 a0_2 a0_3 a0_4 a0_5 a0_6 l0_7 l0_8) else ((ropewaylaw14_right.f k a0_0 a0_1 a0_2 a0_3 a0_4 a0_5 a0_6 l0_7 l0_8 l1).bind fun t406 => (ropewaylaw14_RoundStays.j0 k l1 (!t406) a0_0 a0_1 a0_2 a0_3 a0_4 a0_5 a0_6 l0_7 l0_8))) else (some false)) = some r := H
  have A5 := zM A50
  clear A50
  by_cases c6 : t405 = true
  rotate_left
  · replace c6 := Bool.eq_false_iff.mpr c6
    subst c6
    have H1 : (some false) = some r := by rw [if_neg (show ¬ (false = true) by decide)] at H; exact H
    clear H
    have H := H1
    clear H1
    have tk188 : True := trivial
    go_upto_region 2 with (first | ((with_reducible refine gate_callee (f := 9) rfl ?_); clear tk188; refine goL_ (some 13) Try.func9 #[] ?_; (with_reducible refine (ropewaylaw14_roundAlive.calls k  false _ A5.out).mono ?_); rintro e w187 ⟨rfl, hb⟩; refine ⟨_, rfl, ?_⟩; replace BK404 := zM (bb_ BK404 hb); replace HB := zM (zB bel_ hb); (try clear hb); (try clear hi)))
    exact absurd (Option.some.inj H) (by rw [hr1_.out]; decide)
  subst c6
  have H1 : (if (l1.length : Int) > 60 then (ropewaylaw14_RoundStays.j0 k l1 true a0_0 a0_1 a0_2 a0_3 a0_4 a0_5 a0_6 l0_7 l0_8) else ((ropewaylaw14_right.f k a0_0 a0_1 a0_2 a0_3 a0_4 a0_5 a0_6 l0_7 l0_8 l1).bind fun t406 => (ropewaylaw14_RoundStays.j0 k l1 (!t406) a0_0 a0_1 a0_2 a0_3 a0_4 a0_5 a0_6 l0_7 l0_8))) = some r := by rw [if_pos rfl] at H; exact H
  clear H
  have H := H1
  clear H1
  have tk8 : True := trivial
  go_upto_region 3 with (first | ((with_reducible refine gate_callee (f := 9) rfl ?_); clear tk8; refine goL_ (some 13) Try.func9 #[] ?_; (with_reducible refine (ropewaylaw14_roundAlive.calls k  true _ A5.out).mono ?_); rintro e w7 ⟨rfl, hb⟩; refine ⟨_, rfl, ?_⟩; replace BK404 := zM (bb_ BK404 hb); replace HB := zM (zB bel_ hb); (try clear hb); (try clear hi)))
  have HC9 := zM H
  clear H
  go_upto_region 3 with (fail)
  (try simp only [Act.put, zS, zZ, zC])
  go_cut [23] (fun v23 wc => ∃ (kq : Nat) (x23_8 : Bool), v23 = .bool x23_8 ∧ Aside0 (ropewaylaw14_RoundStays.j0 kq l1 x23_8 a0_0 a0_1 a0_2 a0_3 a0_4 a0_5 a0_6 l0_7 l0_8 = some r) ∧ Aside0 (kq ≤ k) ∧ Aside0 (wc.heap[gb404]? = some (.cells #[.int .i64 a0_0, .int .i64 a0_1, .int .i64 a0_2, .int .i64 a0_3, .int .i64 a0_4, .int .i64 a0_5, .int .i64 a0_6, (.slice A0_7 l0_7.length c0_7), (.slice A0_8 l0_8.length c0_8)] 27 (0, 0))) ∧ Aside0 (Below w.heap.size w wc))
  case first =>
   have H := HC9.out
   clear HC9
   by_cases c10 : (l1.length : Int) > 60
   · rw [if_pos c10] at H
     have c10b0 : decide (60 < (l1.length : Int)) = true := decide_eq_true c10
     have c10b1 : decide (60 < l1.length) = true := decide_eq_true (by omega)
     clear c10
     (first | rw [c10b0] | (simp only [i64_w, i32_w]; rw [c10b0]) | skip)
     have H' := zM H
     clear H
     go_wp2
     go_meet
     case rel => exact ⟨_, (true), (by first | rfl | (simp; done) | (simp [*]; done) | (simp; grind)), H', ⟨by first | omega | exact Nat.le_refl _⟩, ⟨blf_⟩, ⟨bel_⟩⟩
   rw [if_neg c10] at H
   have c10b0 : decide (60 < (l1.length : Int)) = false := decide_eq_false c10
   have c10b1 : decide (60 < l1.length) = false := decide_eq_false (by omega)
   clear c10
   (first | rw [c10b0] | (simp only [i64_w, i32_w]; rw [c10b0]) | skip)
   replace H := Option.bind_eq_some_iff.mp H
   obtain ⟨t406, A110, H⟩ := H
   replace H : (ropewaylaw14_RoundStays.j0 k l1 (!t406) a0_0 a0_1 a0_2 a0_3 a0_4 a0_5 a0_6 l0_7 l0_8) = some r := H
   have A11 := zM A110
   clear A110
   have H' := zM H
   clear H
   obtain ⟨hcz12_0, hcz12_1, hcz12_2, hcz12_3, hcz12_4, hcz12_5, hcz12_6, hcz12_7, hcz12_8⟩ := r9_ BK404.out
   obtain ⟨hfz12_0, hfz12_1, hfz12_2, hfz12_3, hfz12_4, hfz12_5, hfz12_6, hfz12_7, hfz12_8⟩ := f9_ BK404.out
   have tk14 : True := trivial
   go_wp2_with (first | (go_at_call 10; (with_reducible refine (ropewaylaw14_right.calls k a0_0 a0_1 a0_2 a0_3 a0_4 a0_5 a0_6 _ _ l0_7 _ _ l0_8 _ _ l1 t406 _ ?side1 ?side2 ?side3 ?side4 ?side5 ?side6 A11.out).mono ?_); (case side1 => repeat (first | exact (Kd.C_below HR0_7.out HB.out) | (with_reducible refine Kd.C_alloc ?_ _) | (with_reducible refine Kd.C_drewN ?_ _) | (with_reducible refine Kd.C_drew ?_))); (case side2 => exact HC0_7.out); (case side3 => repeat (first | exact (Kd.C_below HR0_8.out HB.out) | (with_reducible refine Kd.C_alloc ?_ _) | (with_reducible refine Kd.C_drewN ?_ _) | (with_reducible refine Kd.C_drew ?_))); (case side4 => exact HC0_8.out); (case side5 => repeat (first | exact (Kd.C_below HR1.out HB.out) | (with_reducible refine Kd.C_alloc ?_ _) | (with_reducible refine Kd.C_drewN ?_ _) | (with_reducible refine Kd.C_drew ?_))); (case side6 => exact HC1.out); clear tk14; rintro e w13 ⟨rfl, hb⟩; replace BK404 := zM (bb_ BK404 hb); replace HB := zM (zB bel_ hb); (try clear hb); (try clear hi)))
   go_meet
   case rel => exact ⟨_, (!t406), (by first | rfl | (simp; done) | (simp [*]; done) | (simp; grind)), H', ⟨by first | omega | exact Nat.le_refl _⟩, ⟨blf_⟩, ⟨bel_⟩⟩
  case rest =>
   clear HC9
   try clear c1
   try clear c6
   try clear c10
   try clear c10b0
   try clear c10b1
   try clear hcz12_0
   try clear hcz12_1
   try clear hcz12_2
   try clear hcz12_3
   try clear hcz12_4
   try clear hcz12_5
   try clear hcz12_6
   try clear hcz12_7
   try clear hcz12_8
   try clear hfz12_0
   try clear hfz12_1
   try clear hfz12_2
   try clear hfz12_3
   try clear hfz12_4
   try clear hfz12_5
   try clear hfz12_6
   try clear hfz12_7
   try clear hfz12_8
   obtain ⟨kq, x23_8, rfl, HA, HJ8, BK404, HB⟩ := hcut
   cases kq with
   | zero => exact absurd HA.out (by simp [ropewaylaw14_RoundStays.j0])
   | succ kj8 =>
    have H := HA.out
    clear HA
    simp only [ropewaylaw14_RoundStays.j0] at H
    by_cases c15 : x23_8 = true
    · subst c15
      have H1 : (some true) = some r := by rw [if_pos rfl] at H; exact H
      clear H
      have H := H1
      clear H1
      obtain rfl := Option.some.inj H
      go_wp2
      go_ret
      exact ⟨by first | rfl | (simp [errW_none, errW_some] <;> rfl) | (simp [*, errW_none, errW_some] <;> rfl), bel_⟩
    replace c15 := Bool.eq_false_iff.mpr c15
    subst c15
    have H1 : ((msg_Copy.f a0_0 a0_1 a0_2 a0_3 a0_4 a0_5 a0_6 l0_7 l0_8).bind fun bt408 => (ropewaylaw14_RoundStays.l0 kj8 false 0 l1 (l1.length : Int) 0 a0_0 a0_1 a0_2 a0_3 a0_4 a0_5 a0_6 l0_7 l0_8 bt408.1 bt408.2.1 bt408.2.2.1 bt408.2.2.2.1 bt408.2.2.2.2.1 bt408.2.2.2.2.2.1 bt408.2.2.2.2.2.2.1 bt408.2.2.2.2.2.2.2.1 bt408.2.2.2.2.2.2.2.2 false false false false false false ([] : List (S43)) ([] : List (S48)))) = some r := by rw [if_neg (show ¬ (false = true) by decide)] at H; exact H
    clear H
    have H := H1
    clear H1
    replace H := Option.bind_eq_some_iff.mp H
    obtain ⟨⟨t408, t409, t410, t411, t412, t413, t414, t415, t418⟩, A160, H⟩ := H
    replace H : (ropewaylaw14_RoundStays.l0 kj8 false 0 l1 (l1.length : Int) 0 a0_0 a0_1 a0_2 a0_3 a0_4 a0_5 a0_6 l0_7 l0_8 t408 t409 t410 t411 t412 t413 t414 t415 t418 false false false false false false ([] : List (S43)) ([] : List (S48))) = some r := H
    have A16 := zM A160
    clear A160
    obtain ⟨hcz17_0, hcz17_1, hcz17_2, hcz17_3, hcz17_4, hcz17_5, hcz17_6, hcz17_7, hcz17_8⟩ := r9_ BK404.out
    obtain ⟨hfz17_0, hfz17_1, hfz17_2, hfz17_3, hfz17_4, hfz17_5, hfz17_6, hfz17_7, hfz17_8⟩ := f9_ BK404.out
    have tk18 : True := trivial
    have tk20 : True := trivial
    have tk24 : True := trivial
    have tk28 : True := trivial
    have tk29 : True := trivial
    go_upto_region 6 with (first | ((with_reducible refine gate_callee (f := 11) rfl ?_); clear tk18; refine goL_ (some 25) Try.func11 #[.agg #[.int .i64 a0_0, .int .i64 a0_1, .int .i64 a0_2, .int .i64 a0_3, .int .i64 a0_4, .int .i64 a0_5, .int .i64 a0_6, .slice A0_7 l0_7.length c0_7, .slice A0_8 l0_8.length c0_8]] ?_; go_enter Try.func11, Try.ntmps11) | ((with_reducible refine gate_dst (N := 1) rfl ?_); clear tk20; (try (refine gate_guard (by rfl) ?_; dsimp only)); refine box_event ?hg (N := 1) ?hd (cs := #[.int .i64 a0_0, .int .i64 a0_1, .int .i64 a0_2, .int .i64 a0_3, .int .i64 a0_4, .int .i64 a0_5, .int .i64 a0_6, .slice A0_7 l0_7.length c0_7, .slice A0_8 l0_8.length c0_8]) (t := 27) ?hr ?_; (case hd => rfl); (case hg => rfl); (case hr => first | (go_simp; done) | (go_simp; rfl)); intro gb407 hg w19 hbox hb; have BK407 := zM (hbox); have GW407 := zM (bs_ hg); have GE407 := zM (bs_ hg); replace HB := zM (zB bel_ hb); have NB404_407 := zM (nl_ BK404 hg); have NB407_404 := zM (ng_ BK404 hg); replace BK404 := zM (bb_ BK404 hb); clear hb hbox hg; have hnb21 := NB407_404.out; have hnc21 := NB404_407.out; obtain ⟨hcz22_0, hcz22_1, hcz22_2, hcz22_3, hcz22_4, hcz22_5, hcz22_6, hcz22_7, hcz22_8⟩ := r9_ BK407.out; obtain ⟨hfz22_0, hfz22_1, hfz22_2, hfz22_3, hfz22_4, hfz22_5, hfz22_6, hfz22_7, hfz22_8⟩ := f9_ BK407.out) | ((with_reducible refine gate_callee (f := 39) rfl ?_); clear tk24; refine goL_ (some 4) Try.func39 #[.agg #[.int .i64 a0_0, .int .i64 a0_1, .int .i64 a0_2, .int .i64 a0_3, .int .i64 a0_4, .int .i64 a0_5, .int .i64 a0_6, .slice A0_7 l0_7.length c0_7, .slice A0_8 l0_8.length c0_8]] ?_; (with_reducible refine (msg_Copy.calls a0_0 a0_1 a0_2 a0_3 a0_4 a0_5 a0_6 _ _ l0_7 _ _ l0_8 t408 t409 t410 t411 t412 t413 t414 t415 t418 _ ?side1 ?side2 ?side3 ?side4 A16.out).mono ?_); (case side1 => repeat (first | exact (Kd.C_below HR0_7.out HB.out) | (with_reducible refine Kd.C_alloc ?_ _) | (with_reducible refine Kd.C_drewN ?_ _) | (with_reducible refine Kd.C_drew ?_))); (case side2 => exact HC0_7.out); (case side3 => repeat (first | exact (Kd.C_below HR0_8.out HB.out) | (with_reducible refine Kd.C_alloc ?_ _) | (with_reducible refine Kd.C_drewN ?_ _) | (with_reducible refine Kd.C_drew ?_))); (case side4 => exact HC0_8.out); rintro e w23 ⟨v416, v419, rfl, ho0, ho1, hb⟩; refine ⟨_, rfl, ?_⟩; have HO417 := zM (Kd.R_lower ho0 (below_size bel_)); have HO420 := zM (Kd.R_lower ho1 (below_size bel_)); replace BK404 := zM (bb_ BK404 hb); replace BK407 := zM (bb_ BK407 hb); replace HB := zM (zB bel_ hb); (try clear hb); (try clear ho0); (try clear ho1); obtain ⟨Ao25, co25, eo25⟩ := Kd.R_slice HO420.out; subst eo25; obtain ⟨Ao26, co26, eo26⟩ := Kd.R_slice HO417.out; subst eo26) | ((with_reducible refine gate_dst (N := 6) rfl ?_); clear tk28; (try (refine gate_guard (by rfl) ?_; dsimp only)); refine box_event ?hg (N := 6) ?hd (cs := #[.int .i64 t408, .int .i64 t409, .int .i64 t410, .int .i64 t411, .int .i64 t412, .int .i64 t413, .int .i64 t414, .slice Ao26 t415.length co26, .slice Ao25 t418.length co25, .bool false, .bool false, .bool false, .bool false, .bool false, .bool false, .slice none 0 0, .slice none 0 0]) (t := 71) ?hr ?_; (case hd => rfl); (case hg => rfl); (case hr => first | (go_simp; done) | (go_simp; rfl)); intro gb421 hg w27 hbox hb; replace HO417 := zM (Kd.R_below (rl_ HO417) hb); replace HO420 := zM (Kd.R_below (rl_ HO420) hb); have BK421 := zM (hbox); have GW421 := zM (bs_ hg); have GE421 := zM (bs_ hg); replace HB := zM (zB bel_ hb); have NB404_421 := zM (nl_ BK404 hg); have NB421_404 := zM (ng_ BK404 hg); replace BK404 := zM (bb_ BK404 hb); have NB407_421 := zM (nl_ BK407 hg); have NB421_407 := zM (ng_ BK407 hg); replace BK407 := zM (bb_ BK407 hb); clear hb hbox hg) | (clear tk29; (first | go_ret | go_ret2 | go_ret3 | go_end0); with_reducible refine inl_back_ ?_))
    try clear hcz22_0
    try clear hcz22_1
    try clear hcz22_2
    try clear hcz22_3
    try clear hcz22_4
    try clear hcz22_5
    try clear hcz22_6
    try clear hcz22_7
    try clear hcz22_8
    try clear hfz22_0
    try clear hfz22_1
    try clear hfz22_2
    try clear hfz22_3
    try clear hfz22_4
    try clear hfz22_5
    try clear hfz22_6
    try clear hfz22_7
    try clear hfz22_8
    try clear hnb21
    try clear hnc21
    have H' := zM H
    clear H
    go_wp2
    go_loopg [6, 7, 28] kj8 (fun kq v6 v7 v28 w' => ∃ (x6_2 : Bool) (x7_2 : Int) (x28_2 : Int) (x422000_2 : Int) (x422001_2 : Int) (x422002_2 : Int) (x422003_2 : Int) (x422004_2 : Int) (x422005_2 : Int) (x422006_2 : Int) (x422009_2 : Bool) (x422010_2 : Bool) (x422011_2 : Bool) (x422012_2 : Bool) (x422013_2 : Bool) (x422014_2 : Bool) (x422015_2 : List (S43)) (x422016_2 : List (S48)) (u422015 : Value) (u422016 : Value), v6 = .bool x6_2 ∧ v7 = .int .i64 x7_2 ∧ v28 = .int .i64 x28_2 ∧ Aside0 (ropewaylaw14_RoundStays.l0 kq x6_2 x7_2 l1 (l1.length : Int) x28_2 a0_0 a0_1 a0_2 a0_3 a0_4 a0_5 a0_6 l0_7 l0_8 x422000_2 x422001_2 x422002_2 x422003_2 x422004_2 x422005_2 x422006_2 t415 t418 x422009_2 x422010_2 x422011_2 x422012_2 x422013_2 x422014_2 x422015_2 x422016_2 = some r) ∧ Aside0 (kq ≤ kj8) ∧ Aside0 (Kd.R k43 43 w' w.heap.size (fun k_ => some k_ ≠ (u422015 : Value).ownBlock) (.slice Ao26 t415.length co26) t415) ∧ Aside0 (Kd.R k48 48 w' w.heap.size (fun k_ => some k_ ≠ (u422016 : Value).ownBlock) (.slice Ao25 t418.length co25) t418) ∧ Aside0 (Kd.R k43 43 w' w.heap.size (fun k_ => some k_ ≠ ((.slice Ao26 t415.length co26) : Value).ownBlock) u422015 x422015_2) ∧ Aside0 (Kd.R k48 48 w' w.heap.size (fun k_ => some k_ ≠ ((.slice Ao25 t418.length co25) : Value).ownBlock) u422016 x422016_2) ∧ Aside0 (w'.heap[gb404]? = some (.cells #[.int .i64 a0_0, .int .i64 a0_1, .int .i64 a0_2, .int .i64 a0_3, .int .i64 a0_4, .int .i64 a0_5, .int .i64 a0_6, (.slice A0_7 l0_7.length c0_7), (.slice A0_8 l0_8.length c0_8)] 27 (0, 0))) ∧ Aside0 (w'.heap[gb407]? = some (.cells #[.int .i64 a0_0, .int .i64 a0_1, .int .i64 a0_2, .int .i64 a0_3, .int .i64 a0_4, .int .i64 a0_5, .int .i64 a0_6, (.slice A0_7 l0_7.length c0_7), (.slice A0_8 l0_8.length c0_8)] 27 (0, 0))) ∧ Aside0 (w'.heap[gb421]? = some (.cells #[.int .i64 x422000_2, .int .i64 x422001_2, .int .i64 x422002_2, .int .i64 x422003_2, .int .i64 x422004_2, .int .i64 x422005_2, .int .i64 x422006_2, (.slice Ao26 t415.length co26), (.slice Ao25 t418.length co25), .bool x422009_2, .bool x422010_2, .bool x422011_2, .bool x422012_2, .bool x422013_2, .bool x422014_2, u422015, u422016] 71 (0, 0))) ∧ Aside0 (Below w.heap.size w w'))
    case atStart => exact ⟨(false), (0), (0), (t408), (t409), (t410), (t411), (t412), (t413), (t414), (false), (false), (false), (false), (false), (false), (([] : List (S43))), (([] : List (S48))), (.slice none 0 0), (.slice none 0 0), (by first | rfl | (simp; done) | (simp [*]; done) | (simp; grind)), (by first | rfl | (simp; done) | (simp [*]; done) | (simp; grind)), (by first | rfl | (simp; done) | (simp [*]; done) | (simp; grind)), H', ⟨Nat.le_refl _⟩, ⟨by (with_reducible repeat (first | apply Kd.R_alloc | apply Kd.R_drewN | apply Kd.R_drew)); exact Kd.R_mono HO417.out (fun _ hk => (by simp [Value.ownBlock]))⟩, ⟨by (with_reducible repeat (first | apply Kd.R_alloc | apply Kd.R_drewN | apply Kd.R_drew)); exact Kd.R_mono HO420.out (fun _ hk => (by simp [Value.ownBlock]))⟩, ⟨by first | exact Kd.R_nil _ _ _ _ _ | exact Kd.N_nil _ _ _ _ _ | exact Kd.V_nil _ _ _ _ _ | exact Kd.Q_nil _ _ _ _ _ | exact Kd.S_nil _ _ _ _ _⟩, ⟨by first | exact Kd.R_nil _ _ _ _ _ | exact Kd.N_nil _ _ _ _ _ | exact Kd.V_nil _ _ _ _ _ | exact Kd.Q_nil _ _ _ _ _ | exact Kd.S_nil _ _ _ _ _⟩, ⟨blf_⟩, ⟨blf_⟩, ⟨blf_⟩, ⟨bel_⟩⟩
    case round =>
     clear H'
     try clear c1
     try clear c6
     try clear c10
     try clear c10b0
     try clear c10b1
     try clear c15
     try clear hcz12_0
     try clear hcz12_1
     try clear hcz12_2
     try clear hcz12_3
     try clear hcz12_4
     try clear hcz12_5
     try clear hcz12_6
     try clear hcz12_7
     try clear hcz12_8
     try clear hcz17_0
     try clear hcz17_1
     try clear hcz17_2
     try clear hcz17_3
     try clear hcz17_4
     try clear hcz17_5
     try clear hcz17_6
     try clear hcz17_7
     try clear hcz17_8
     try clear hcz22_0
     try clear hcz22_1
     try clear hcz22_2
     try clear hcz22_3
     try clear hcz22_4
     try clear hcz22_5
     try clear hcz22_6
     try clear hcz22_7
     try clear hcz22_8
     try clear hfz12_0
     try clear hfz12_1
     try clear hfz12_2
     try clear hfz12_3
     try clear hfz12_4
     try clear hfz12_5
     try clear hfz12_6
     try clear hfz12_7
     try clear hfz12_8
     try clear hfz17_0
     try clear hfz17_1
     try clear hfz17_2
     try clear hfz17_3
     try clear hfz17_4
     try clear hfz17_5
     try clear hfz17_6
     try clear hfz17_7
     try clear hfz17_8
     try clear hfz22_0
     try clear hfz22_1
     try clear hfz22_2
     try clear hfz22_3
     try clear hfz22_4
     try clear hfz22_5
     try clear hfz22_6
     try clear hfz22_7
     try clear hfz22_8
     obtain ⟨x6_2, x7_2, x28_2, x422000_2, x422001_2, x422002_2, x422003_2, x422004_2, x422005_2, x422006_2, x422009_2, x422010_2, x422011_2, x422012_2, x422013_2, x422014_2, x422015_2, x422016_2, u422015, u422016, rfl, rfl, rfl, HA, HK2, HO_422007, HO_422008, HO_422015, HO_422016, BK404, BK407, BK421, HB⟩ := hrel
     cases gk with
     | zero => exact absurd HA.out (by simp [ropewaylaw14_RoundStays.l0])
     | succ k2 =>
      have H := HA.out
      clear HA
      simp only [ropewaylaw14_RoundStays.l0] at H
      by_cases c30 : x28_2 < (l1.length : Int)
      rotate_left
      · rw [if_neg c30] at H
        have c30b0 : decide (x28_2 < (l1.length : Int)) = false := decide_eq_false c30
        clear c30
        replace H := Option.bind_eq_some_iff.mp H
        obtain ⟨t422, A1780, H⟩ := H
        replace H : ((view_Members.f k2 a0_5 a0_6).bind fun t425 => (some ((wrap64 ((t422.length : Int) + x7_2)) == (t425.length : Int)))) = some r := H
        have A178 := zM A1780
        clear A1780
        replace H := Option.bind_eq_some_iff.mp H
        obtain ⟨t425, A1790, H⟩ := H
        replace H : (some ((wrap64 ((t422.length : Int) + x7_2)) == (t425.length : Int))) = some r := H
        have A179 := zM A1790
        clear A1790
        obtain rfl := Option.some.inj H
        try go_wp2
        replace HO_422007 := zM (Kd.R_drew HO_422007.out)
        replace HO_422008 := zM (Kd.R_drew HO_422008.out)
        replace HO_422015 := zM (Kd.R_drew HO_422015.out)
        replace HO_422016 := zM (Kd.R_drew HO_422016.out)
        replace BK404 := zM (zD BK404.out)
        replace BK407 := zM (zD BK407.out)
        replace BK421 := zM (zD BK421.out)
        replace HB := zM (below_drew1 HB.out)
        obtain ⟨Ao181, co181, eo181⟩ := Kd.R_slice HO_422015.out
        (first | subst eo181 | (injection eo181 with f1_ f2_ f3_; have f4_ := f1_.symm; have f5_ := f3_.symm; clear f1_ f2_ f3_; subst f4_; subst f5_))
        obtain ⟨Ao182, co182, eo182⟩ := Kd.R_slice HO_422016.out
        (first | subst eo182 | (injection eo182 with f1_ f2_ f3_; have f4_ := f1_.symm; have f5_ := f3_.symm; clear f1_ f2_ f3_; subst f4_; subst f5_))
        refine start_ (n := 11) (S := fun w' => w'.cell? ⟨gb404, 0, none⟩ = some (.int .i64 a0_0) ∧ w'.cell? ⟨gb404, 1, none⟩ = some (.int .i64 a0_1) ∧ w'.cell? ⟨gb404, 2, none⟩ = some (.int .i64 a0_2) ∧ w'.cell? ⟨gb404, 3, none⟩ = some (.int .i64 a0_3) ∧ w'.cell? ⟨gb404, 4, none⟩ = some (.int .i64 a0_4) ∧ w'.cell? ⟨gb404, 5, none⟩ = some (.int .i64 a0_5) ∧ w'.cell? ⟨gb404, 6, none⟩ = some (.int .i64 a0_6) ∧ w'.cell? ⟨gb404, 7, none⟩ = some (.slice A0_7 l0_7.length c0_7) ∧ w'.cell? ⟨gb404, 8, none⟩ = some (.slice A0_8 l0_8.length c0_8)) (ds := []) #[F_, F_, F_, F_, F_, F_, F_, F_, F_, F_, F_] (by kernel_rfl) rfl rfl ⟨(zL BK404.out 0).trans rfl, (zL BK404.out 1).trans rfl, (zL BK404.out 2).trans rfl, (zL BK404.out 3).trans rfl, (zL BK404.out 4).trans rfl, (zL BK404.out 5).trans rfl, (zL BK404.out 6).trans rfl, (zL BK404.out 7).trans rfl, (zL BK404.out 8).trans rfl⟩ (fun hHeld => ?_); refine with_tabW ropewaylaw14_RoundStays.tab23 ropewaylaw14_RoundStays.bits23 (fun HT_ HW_ => ?_)
        generalize wr.drew = w180 at HO_422007 HO_422008 HO_422015 HO_422016 BK404 BK407 BK421 HB hHeld ⊢
        refine put_ HT_ 0 70 (dm_ 11 1) ?_
        refine put_ HT_ 3 73 (dm_ 11 9) ?_
        refine put_ HT_ 5 75 (dm_ 11 41) ?_
        refine tkt_ HT_ HW_ hHeld 6 76 (dm_ 11 105) ?_
        refine one_ (i := 1) (N := some 71) (dm_ 11 107) rfl rfl (one_of HT_.out (by kernel_rfl)) (by decide) (fun K hK => ?_)
        refine goes_ Try.func15 (by kernel_rfl) rfl #[.pointer (some ⟨gb421, 0, none⟩)] (by rfl) rfl rfl (by (try simp only [List.map_toArray, List.map_cons, List.map_nil]); first | done | rfl | (simp only [List.length_drop, List.length_take]; rfl)) ?_
        with_reducible refine (round_Round_Asks.calls k2 gb421 x422000_2 x422001_2 x422002_2 x422003_2 x422004_2 x422005_2 x422006_2 Ao26 co26 t415 Ao25 co25 t418 x422009_2 x422010_2 x422011_2 x422012_2 x422013_2 x422014_2 Ao181 co181 x422015_2 Ao182 co182 x422016_2 t422 _ ?side1 ?side2 ?side3 ?side4 ?side5 ?side6 ?side7 ?side8 ?side9 A178.out).mono ?_
        (case side1 => repeat (first | exact (Kd.R_reads' HO_422007.out).2.2 | (with_reducible refine Kd.C_alloc ?_ _) | (with_reducible refine Kd.C_drewN ?_ _) | (with_reducible refine Kd.C_drew ?_)))
        (case side2 => exact (Kd.R_reads' HO_422007.out).2.1)
        (case side3 => repeat (first | exact (Kd.R_reads' HO_422008.out).2.2 | (with_reducible refine Kd.C_alloc ?_ _) | (with_reducible refine Kd.C_drewN ?_ _) | (with_reducible refine Kd.C_drew ?_)))
        (case side4 => exact (Kd.R_reads' HO_422008.out).2.1)
        (case side5 => repeat (first | exact (Kd.R_reads' HO_422015.out).2.2 | (with_reducible refine Kd.C_alloc ?_ _) | (with_reducible refine Kd.C_drewN ?_ _) | (with_reducible refine Kd.C_drew ?_)))
        (case side6 => exact (Kd.R_reads' HO_422015.out).2.1)
        (case side7 => repeat (first | exact (Kd.R_reads' HO_422016.out).2.2 | (with_reducible refine Kd.C_alloc ?_ _) | (with_reducible refine Kd.C_drewN ?_ _) | (with_reducible refine Kd.C_drew ?_)))
        (case side8 => exact (Kd.R_reads' HO_422016.out).2.1)
        (case side9 => exact blf_)
        rintro e w183 ⟨v423, rfl, ho0, hb⟩
        refine ⟨_, rfl, ?_⟩
        have HO424 := zM (Kd.S_lower (Kd.S_newB (Kd.S_newB (Kd.S_new' (Kd.S_new' (Kd.S_new' (Kd.S_new' ho0 (Kd.R_lt (rl_ HO_422007))) (Kd.R_lt (rl_ HO_422008))) (Kd.R_lt (rl_ HO_422015))) (Kd.R_lt (rl_ HO_422016))) (g := gb404) (o := .cells #[.int .i64 a0_0, .int .i64 a0_1, .int .i64 a0_2, .int .i64 a0_3, .int .i64 a0_4, .int .i64 a0_5, .int .i64 a0_6, .slice A0_7 l0_7.length c0_7, .slice A0_8 l0_8.length c0_8] 27 (0, 0)) blk_) (g := gb407) (o := .cells #[.int .i64 a0_0, .int .i64 a0_1, .int .i64 a0_2, .int .i64 a0_3, .int .i64 a0_4, .int .i64 a0_5, .int .i64 a0_6, .slice A0_7 l0_7.length c0_7, .slice A0_8 l0_8.length c0_8] 27 (0, 0)) blk_) (below_size bel_))
        replace HO_422007 := zM (Kd.R_below (rl_ HO_422007) hb)
        replace HO_422008 := zM (Kd.R_below (rl_ HO_422008) hb)
        replace HO_422015 := zM (Kd.R_below (rl_ HO_422015) hb)
        replace HO_422016 := zM (Kd.R_below (rl_ HO_422016) hb)
        replace BK404 := zM (bb_ BK404 hb)
        replace BK407 := zM (bb_ BK407 hb)
        replace BK421 := zM (bb_ BK421 hb)
        replace HB := zM (zB bel_ hb)
        (try clear hb)
        (try clear hb2)
        (try clear hk)
        (try clear hi)
        (try clear ho0)
        obtain ⟨Ao184, co184, eo184⟩ := Kd.S_slice HO424.out
        (first | subst eo184 | (injection eo184 with f1_ f2_ f3_; have f4_ := f1_.symm; have f5_ := f3_.symm; clear f1_ f2_ f3_; subst f4_; subst f5_))
        refine hK.out _ _ ⟨(zL BK404.out 0).trans rfl, (zL BK404.out 1).trans rfl, (zL BK404.out 2).trans rfl, (zL BK404.out 3).trans rfl, (zL BK404.out 4).trans rfl, (zL BK404.out 5).trans rfl, (zL BK404.out 6).trans rfl, (zL BK404.out 7).trans rfl, (zL BK404.out 8).trans rfl⟩ (fun hHeld => ?_)
        clear hK K
        refine norm_ (a' := ?_) ?_ ?_
        rotate_left
        · show Act.put _ (some 71) _ = _
          simp only [Act.put, zS, zZ, zC, i64_w, i32_w]
          rfl
        refine put_ HT_ 2 72 (dm_ 11 111) ?_
        refine put_ HT_ 4 74 (dm_ 11 127) ?_
        refine one_ (i := 7) (N := some 77) (dm_ 11 255) rfl rfl (one_of HT_.out (by kernel_rfl)) (by decide) (fun K hK => ?_)
        refine goes_ Try.func16 (by kernel_rfl) rfl #[.agg #[.int .i64 a0_5, .int .i64 a0_6]] (by rfl) rfl rfl (by (try simp only [List.map_toArray, List.map_cons, List.map_nil]); first | done | rfl | (simp only [List.length_drop, List.length_take]; rfl)) ?_
        with_reducible refine (view_Members.calls k2 a0_5 a0_6 t425 _ A179.out).mono ?_
        rintro e w185 ⟨v426, rfl, ho0, hb⟩
        refine ⟨_, rfl, ?_⟩
        replace HO_422007 := zM (Kd.R_below (rl_ HO_422007) hb)
        replace HO_422008 := zM (Kd.R_below (rl_ HO_422008) hb)
        replace HO_422015 := zM (Kd.R_below (rl_ HO_422015) hb)
        replace HO_422016 := zM (Kd.R_below (rl_ HO_422016) hb)
        replace HO424 := zM (Kd.S_below (by (with_reducible repeat (first | apply Kd.S_alloc | apply Kd.S_drewN | apply Kd.S_drew)); exact HO424.out) hb)
        have HO427 := zM (Kd.R_lower ho0 (below_size bel_))
        replace BK404 := zM (bb_ BK404 hb)
        replace BK407 := zM (bb_ BK407 hb)
        replace BK421 := zM (bb_ BK421 hb)
        replace HB := zM (zB bel_ hb)
        (try clear hb)
        (try clear hb2)
        (try clear hk)
        (try clear hi)
        (try clear ho0)
        obtain ⟨Ao186, co186, eo186⟩ := Kd.R_slice HO427.out
        (first | subst eo186 | (injection eo186 with f1_ f2_ f3_; have f4_ := f1_.symm; have f5_ := f3_.symm; clear f1_ f2_ f3_; subst f4_; subst f5_))
        refine hK.out _ _ ⟨(zL BK404.out 0).trans rfl, (zL BK404.out 1).trans rfl, (zL BK404.out 2).trans rfl, (zL BK404.out 3).trans rfl, (zL BK404.out 4).trans rfl, (zL BK404.out 5).trans rfl, (zL BK404.out 6).trans rfl, (zL BK404.out 7).trans rfl, (zL BK404.out 8).trans rfl⟩ (fun hHeld => ?_)
        clear hK K
        refine norm_ (a' := ?_) ?_ ?_
        rotate_left
        · show Act.put _ (some 77) _ = _
          simp only [Act.put, zS, zZ, zC, i64_w, i32_w]
          rfl
        refine put_ HT_ 8 78 (dm_ 11 511) ?_
        refine put_ HT_ 9 79 (dm_ 11 1023) ?_
        refine put_ HT_ 10 4 (dm_ 11 2047) ?_
        refine done_ (done_of HT_.out (by kernel_rfl)) ?_
        try go_wp2
        go_ret
        exact ⟨by first | rfl | (simp [errW_none, errW_some] <;> rfl) | (simp [*, errW_none, errW_some] <;> rfl), bel_⟩
      rw [if_pos c30] at H
      have c30b0 : decide (x28_2 < (l1.length : Int)) = true := decide_eq_true c30
      clear c30
      by_cases c31 : 0 ≤ x28_2
      rotate_left
      · rw [if_neg c31] at H
        exact absurd H (by simp)
      rw [if_pos c31] at H
      have c31b0 : decide (0 ≤ x28_2) = true := decide_eq_true c31
      clear c31
      by_cases c32 : x28_2 < (l1.length : Int)
      rotate_left
      · rw [if_neg c32] at H
        exact absurd H (by simp)
      rw [if_pos c32] at H
      have c32b0 : decide (x28_2 < (l1.length : Int)) = true := decide_eq_true c32
      clear c32
      have p428 : 0 ≤ (x28_2 : Int) := of_decide_eq_true (by first | (with_reducible assumption) | assumption)
      have q428 : x28_2 < (l1.length : Int) := of_decide_eq_true (by first | (with_reducible assumption) | assumption)
      obtain ⟨ad428, A428_7, c428_7, A428_8, c428_8, e428, hx428_0, hx428_1, hx428_2, hx428_3, hx428_4, hx428_5, hx428_6, hx428_7, hx428_8, hl428_7, hi428_7, hl428_8, hi428_8⟩ := at_T27 HR1.out x28_2 p428 q428
      cases e428
      replace hx428_0 := (HB.out.cell (World.block_lt_of_cell? w _ hx428_0)).trans hx428_0
      replace hx428_1 := (HB.out.cell (World.block_lt_of_cell? w _ hx428_1)).trans hx428_1
      replace hx428_2 := (HB.out.cell (World.block_lt_of_cell? w _ hx428_2)).trans hx428_2
      replace hx428_3 := (HB.out.cell (World.block_lt_of_cell? w _ hx428_3)).trans hx428_3
      replace hx428_4 := (HB.out.cell (World.block_lt_of_cell? w _ hx428_4)).trans hx428_4
      replace hx428_5 := (HB.out.cell (World.block_lt_of_cell? w _ hx428_5)).trans hx428_5
      replace hx428_6 := (HB.out.cell (World.block_lt_of_cell? w _ hx428_6)).trans hx428_6
      replace hx428_7 := (HB.out.cell (World.block_lt_of_cell? w _ hx428_7)).trans hx428_7
      replace hx428_8 := (HB.out.cell (World.block_lt_of_cell? w _ hx428_8)).trans hx428_8
      have HR428_7 := zM hi428_7
      have HC428_7 := zM hl428_7
      clear hi428_7 hl428_7
      have HR428_8 := zM hi428_8
      have HC428_8 := zM hl428_8
      clear hi428_8 hl428_8
      replace p428 := eq_true p428
      replace q428 := eq_true q428
      have tk34 : True := trivial
      have tk40 : True := trivial
      go_upto_region 10 with (first | ((with_reducible refine gate_dst (N := 9) rfl ?_); clear tk34; (try (refine gate_guard (by rfl) ?_; dsimp only)); refine box_event ?hg (N := 9) ?hd (cs := #[.int .i64 0, .int .i64 0, .int .i64 0, .int .i64 0, .int .i64 0, .int .i64 0, .int .i64 0, .slice none 0 0, .slice none 0 0]) (t := 27) ?hr ?_; (case hd => rfl); (case hg => rfl); (case hr => first | (go_simp; done) | (go_simp; rfl)); intro gb429 hg w33 hbox hb; replace HO_422007 := zM (Kd.R_below (rl_ HO_422007) hb); replace HO_422008 := zM (Kd.R_below (rl_ HO_422008) hb); replace HO_422015 := zM (Kd.R_below (rl_ HO_422015) hb); replace HO_422016 := zM (Kd.R_below (rl_ HO_422016) hb); have BK429 := zM (hbox); have GW429 := zM (bs_ hg); have GE429 := zM (bs_ hg); replace HB := zM (zB bel_ hb); have NB404_429 := zM (nl_ BK404 hg); have NB429_404 := zM (ng_ BK404 hg); replace BK404 := zM (bb_ BK404 hb); have NB407_429 := zM (nl_ BK407 hg); have NB429_407 := zM (ng_ BK407 hg); replace BK407 := zM (bb_ BK407 hb); have NB421_429 := zM (nl_ BK421 hg); have NB429_421 := zM (ng_ BK421 hg); replace BK421 := zM (bb_ BK421 hb); clear hb hbox hg; have hnb35 := NB429_404.out; have hnc35 := NB404_429.out; have hnb36 := NB429_407.out; have hnc36 := NB407_429.out; have hnb37 := NB429_421.out; have hnc37 := NB421_429.out; obtain ⟨hcz38_0, hcz38_1, hcz38_2, hcz38_3, hcz38_4, hcz38_5, hcz38_6, hcz38_7, hcz38_8⟩ := r9_ BK429.out; obtain ⟨hfz38_0, hfz38_1, hfz38_2, hfz38_3, hfz38_4, hfz38_5, hfz38_6, hfz38_7, hfz38_8⟩ := f9_ BK429.out) | ((with_reducible refine gate_store (t := 27) (p := 9) rfl ?_); clear tk40; refine store_event (t := 27) (p := 9) (v := ?vo_w39) (w1 := (((((((((w33.setCell ⟨gb429, 0, none⟩ (.int .i64 ((rd_T27 l1 x28_2).f0))).setCell ⟨gb429, 1, none⟩ (.int .i64 ((rd_T27 l1 x28_2).f1))).setCell ⟨gb429, 2, none⟩ (.int .i64 ((rd_T27 l1 x28_2).f2))).setCell ⟨gb429, 3, none⟩ (.int .i64 ((rd_T27 l1 x28_2).f3))).setCell ⟨gb429, 4, none⟩ (.int .i64 ((rd_T27 l1 x28_2).f4))).setCell ⟨gb429, 5, none⟩ (.int .i64 ((rd_T27 l1 x28_2).f5.f0))).setCell ⟨gb429, 6, none⟩ (.int .i64 ((rd_T27 l1 x28_2).f5.f1))).setCell ⟨gb429, 7, none⟩ (.slice A428_7 ((rd_T27 l1 x28_2).f6).length c428_7)).setCell ⟨gb429, 8, none⟩ (.slice A428_8 ((rd_T27 l1 x28_2).f7).length c428_8))) ?hg ?ho ?hn ?hr ?_; (case ho => rfl); (case hg => rfl); (case hn => rfl); (case hr => first | (go_simp; done) | (go_simp; rfl)); intro w39 hw; have n0_ : Aside0 (Kd.R k43 43 w39 w.heap.size (fun k_ => some k_ ≠ (u422015 : Value).ownBlock) (.slice Ao26 t415.length co26) t415) := ⟨(by rw [hw]; exact (by (with_reducible repeat (first | apply Kd.R_alloc | apply Kd.R_drewN | apply Kd.R_drew)); exact Kd.R_mono (Kd.R_far (p := ⟨gb429, 8, none⟩) (Kd.R_far (p := ⟨gb429, 7, none⟩) (Kd.R_far (p := ⟨gb429, 6, none⟩) (Kd.R_far (p := ⟨gb429, 5, none⟩) (Kd.R_far (p := ⟨gb429, 4, none⟩) (Kd.R_far (p := ⟨gb429, 3, none⟩) (Kd.R_far (p := ⟨gb429, 2, none⟩) (Kd.R_far (p := ⟨gb429, 1, none⟩) (Kd.R_far (p := ⟨gb429, 0, none⟩) (Kd.R_types HO_422007.out BK429.out (by decide)) (fun _ hk => hk.2) (.int .i64 ((rd_T27 l1 x28_2).f0))) (fun _ hk => hk.2) (.int .i64 ((rd_T27 l1 x28_2).f1))) (fun _ hk => hk.2) (.int .i64 ((rd_T27 l1 x28_2).f2))) (fun _ hk => hk.2) (.int .i64 ((rd_T27 l1 x28_2).f3))) (fun _ hk => hk.2) (.int .i64 ((rd_T27 l1 x28_2).f4))) (fun _ hk => hk.2) (.int .i64 ((rd_T27 l1 x28_2).f5.f0))) (fun _ hk => hk.2) (.int .i64 ((rd_T27 l1 x28_2).f5.f1))) (fun _ hk => hk.2) (.slice A428_7 ((rd_T27 l1 x28_2).f6).length c428_7)) (fun _ hk => hk.2) (.slice A428_8 ((rd_T27 l1 x28_2).f7).length c428_8)) (fun _ hk => hk.1)))⟩; have n1_ : Aside0 (Kd.R k48 48 w39 w.heap.size (fun k_ => some k_ ≠ (u422016 : Value).ownBlock) (.slice Ao25 t418.length co25) t418) := ⟨(by rw [hw]; exact (by (with_reducible repeat (first | apply Kd.R_alloc | apply Kd.R_drewN | apply Kd.R_drew)); exact Kd.R_mono (Kd.R_far (p := ⟨gb429, 8, none⟩) (Kd.R_far (p := ⟨gb429, 7, none⟩) (Kd.R_far (p := ⟨gb429, 6, none⟩) (Kd.R_far (p := ⟨gb429, 5, none⟩) (Kd.R_far (p := ⟨gb429, 4, none⟩) (Kd.R_far (p := ⟨gb429, 3, none⟩) (Kd.R_far (p := ⟨gb429, 2, none⟩) (Kd.R_far (p := ⟨gb429, 1, none⟩) (Kd.R_far (p := ⟨gb429, 0, none⟩) (Kd.R_types HO_422008.out BK429.out (by decide)) (fun _ hk => hk.2) (.int .i64 ((rd_T27 l1 x28_2).f0))) (fun _ hk => hk.2) (.int .i64 ((rd_T27 l1 x28_2).f1))) (fun _ hk => hk.2) (.int .i64 ((rd_T27 l1 x28_2).f2))) (fun _ hk => hk.2) (.int .i64 ((rd_T27 l1 x28_2).f3))) (fun _ hk => hk.2) (.int .i64 ((rd_T27 l1 x28_2).f4))) (fun _ hk => hk.2) (.int .i64 ((rd_T27 l1 x28_2).f5.f0))) (fun _ hk => hk.2) (.int .i64 ((rd_T27 l1 x28_2).f5.f1))) (fun _ hk => hk.2) (.slice A428_7 ((rd_T27 l1 x28_2).f6).length c428_7)) (fun _ hk => hk.2) (.slice A428_8 ((rd_T27 l1 x28_2).f7).length c428_8)) (fun _ hk => hk.1)))⟩; have n2_ : Aside0 (Kd.R k43 43 w39 w.heap.size (fun k_ => some k_ ≠ (.slice Ao26 t415.length co26 : Value).ownBlock) u422015 x422015_2) := ⟨(by rw [hw]; exact (by (with_reducible repeat (first | apply Kd.R_alloc | apply Kd.R_drewN | apply Kd.R_drew)); exact Kd.R_mono (Kd.R_far (p := ⟨gb429, 8, none⟩) (Kd.R_far (p := ⟨gb429, 7, none⟩) (Kd.R_far (p := ⟨gb429, 6, none⟩) (Kd.R_far (p := ⟨gb429, 5, none⟩) (Kd.R_far (p := ⟨gb429, 4, none⟩) (Kd.R_far (p := ⟨gb429, 3, none⟩) (Kd.R_far (p := ⟨gb429, 2, none⟩) (Kd.R_far (p := ⟨gb429, 1, none⟩) (Kd.R_far (p := ⟨gb429, 0, none⟩) (Kd.R_types HO_422015.out BK429.out (by decide)) (fun _ hk => hk.2) (.int .i64 ((rd_T27 l1 x28_2).f0))) (fun _ hk => hk.2) (.int .i64 ((rd_T27 l1 x28_2).f1))) (fun _ hk => hk.2) (.int .i64 ((rd_T27 l1 x28_2).f2))) (fun _ hk => hk.2) (.int .i64 ((rd_T27 l1 x28_2).f3))) (fun _ hk => hk.2) (.int .i64 ((rd_T27 l1 x28_2).f4))) (fun _ hk => hk.2) (.int .i64 ((rd_T27 l1 x28_2).f5.f0))) (fun _ hk => hk.2) (.int .i64 ((rd_T27 l1 x28_2).f5.f1))) (fun _ hk => hk.2) (.slice A428_7 ((rd_T27 l1 x28_2).f6).length c428_7)) (fun _ hk => hk.2) (.slice A428_8 ((rd_T27 l1 x28_2).f7).length c428_8)) (fun _ hk => hk.1)))⟩; have n3_ : Aside0 (Kd.R k48 48 w39 w.heap.size (fun k_ => some k_ ≠ (.slice Ao25 t418.length co25 : Value).ownBlock) u422016 x422016_2) := ⟨(by rw [hw]; exact (by (with_reducible repeat (first | apply Kd.R_alloc | apply Kd.R_drewN | apply Kd.R_drew)); exact Kd.R_mono (Kd.R_far (p := ⟨gb429, 8, none⟩) (Kd.R_far (p := ⟨gb429, 7, none⟩) (Kd.R_far (p := ⟨gb429, 6, none⟩) (Kd.R_far (p := ⟨gb429, 5, none⟩) (Kd.R_far (p := ⟨gb429, 4, none⟩) (Kd.R_far (p := ⟨gb429, 3, none⟩) (Kd.R_far (p := ⟨gb429, 2, none⟩) (Kd.R_far (p := ⟨gb429, 1, none⟩) (Kd.R_far (p := ⟨gb429, 0, none⟩) (Kd.R_types HO_422016.out BK429.out (by decide)) (fun _ hk => hk.2) (.int .i64 ((rd_T27 l1 x28_2).f0))) (fun _ hk => hk.2) (.int .i64 ((rd_T27 l1 x28_2).f1))) (fun _ hk => hk.2) (.int .i64 ((rd_T27 l1 x28_2).f2))) (fun _ hk => hk.2) (.int .i64 ((rd_T27 l1 x28_2).f3))) (fun _ hk => hk.2) (.int .i64 ((rd_T27 l1 x28_2).f4))) (fun _ hk => hk.2) (.int .i64 ((rd_T27 l1 x28_2).f5.f0))) (fun _ hk => hk.2) (.int .i64 ((rd_T27 l1 x28_2).f5.f1))) (fun _ hk => hk.2) (.slice A428_7 ((rd_T27 l1 x28_2).f6).length c428_7)) (fun _ hk => hk.2) (.slice A428_8 ((rd_T27 l1 x28_2).f7).length c428_8)) (fun _ hk => hk.1)))⟩; have n4_ : Aside0 (w39.heap[gb404]? = some (.cells #[.int .i64 a0_0, .int .i64 a0_1, .int .i64 a0_2, .int .i64 a0_3, .int .i64 a0_4, .int .i64 a0_5, .int .i64 a0_6, .slice A0_7 l0_7.length c0_7, .slice A0_8 l0_8.length c0_8] 27 (0, 0))) := ⟨(by rw [hw]; exact blf_)⟩; have n5_ : Aside0 (w39.heap[gb407]? = some (.cells #[.int .i64 a0_0, .int .i64 a0_1, .int .i64 a0_2, .int .i64 a0_3, .int .i64 a0_4, .int .i64 a0_5, .int .i64 a0_6, .slice A0_7 l0_7.length c0_7, .slice A0_8 l0_8.length c0_8] 27 (0, 0))) := ⟨(by rw [hw]; exact blf_)⟩; have n6_ : Aside0 (w39.heap[gb421]? = some (.cells #[.int .i64 x422000_2, .int .i64 x422001_2, .int .i64 x422002_2, .int .i64 x422003_2, .int .i64 x422004_2, .int .i64 x422005_2, .int .i64 x422006_2, .slice Ao26 t415.length co26, .slice Ao25 t418.length co25, .bool x422009_2, .bool x422010_2, .bool x422011_2, .bool x422012_2, .bool x422013_2, .bool x422014_2, u422015, u422016] 71 (0, 0))) := ⟨(by rw [hw]; exact blf_)⟩; have n7_ : Aside0 (w39.heap[gb429]? = some (.cells #[.int .i64 ((rd_T27 l1 x28_2).f0), .int .i64 ((rd_T27 l1 x28_2).f1), .int .i64 ((rd_T27 l1 x28_2).f2), .int .i64 ((rd_T27 l1 x28_2).f3), .int .i64 ((rd_T27 l1 x28_2).f4), .int .i64 ((rd_T27 l1 x28_2).f5.f0), .int .i64 ((rd_T27 l1 x28_2).f5.f1), .slice A428_7 ((rd_T27 l1 x28_2).f6).length c428_7, .slice A428_8 ((rd_T27 l1 x28_2).f7).length c428_8] 27 (0, 0))) := ⟨(by rw [hw]; exact (by (with_reducible repeat (first | refine zN ?_ _ | refine zD ?_ | refine zA ?_ _)); exact fx9_ BK429))⟩; have n8_ : Aside0 (Below w.heap.size w w39) := ⟨(by rw [hw]; exact bel_)⟩; clear hw; clear HO_422007; clear HO_422008; clear HO_422015; clear HO_422016; clear BK404; clear BK407; clear BK421; clear BK429; clear HB; have HO_422007 := n0_; have HO_422008 := n1_; have HO_422015 := n2_; have HO_422016 := n3_; have BK404 := n4_; have BK407 := n5_; have BK421 := n6_; have BK429 := n7_; have HB := n8_; clear n0_ n1_ n2_ n3_ n4_ n5_ n6_ n7_ n8_))
      try clear hcz38_0
      try clear hcz38_1
      try clear hcz38_2
      try clear hcz38_3
      try clear hcz38_4
      try clear hcz38_5
      try clear hcz38_6
      try clear hcz38_7
      try clear hcz38_8
      try clear hfz38_0
      try clear hfz38_1
      try clear hfz38_2
      try clear hfz38_3
      try clear hfz38_4
      try clear hfz38_5
      try clear hfz38_6
      try clear hfz38_7
      try clear hfz38_8
      try clear hnb35
      try clear hnb36
      try clear hnb37
      try clear hnc35
      try clear hnc36
      try clear hnc37
      have HC41 := zM H
      clear H
      go_upto_region 10 with (fail)
      (try simp only [Act.put, zS, zZ, zC])
      go_cut [10] (fun v10 wc => ∃ (kq : Nat) (x10_40 : Bool) (x422000_40 : Int) (x422001_40 : Int) (x422002_40 : Int) (x422003_40 : Int) (x422004_40 : Int) (x422005_40 : Int) (x422006_40 : Int) (x422009_40 : Bool) (x422010_40 : Bool) (x422011_40 : Bool) (x422012_40 : Bool) (x422013_40 : Bool) (x422014_40 : Bool) (x422015_40 : List (S43)) (x422016_40 : List (S48)) (u422015 : Value) (u422016 : Value), v10 = .bool x10_40 ∧ Aside0 (ropewaylaw14_RoundStays.j2 kq x6_2 x7_2 x10_40 l1 (l1.length : Int) x28_2 a0_0 a0_1 a0_2 a0_3 a0_4 a0_5 a0_6 l0_7 l0_8 x422000_40 x422001_40 x422002_40 x422003_40 x422004_40 x422005_40 x422006_40 t415 t418 x422009_40 x422010_40 x422011_40 x422012_40 x422013_40 x422014_40 x422015_40 x422016_40 ((rd_T27 l1 x28_2).f0) ((rd_T27 l1 x28_2).f1) ((rd_T27 l1 x28_2).f2) ((rd_T27 l1 x28_2).f3) ((rd_T27 l1 x28_2).f4) ((rd_T27 l1 x28_2).f5.f0) ((rd_T27 l1 x28_2).f5.f1) ((rd_T27 l1 x28_2).f6) ((rd_T27 l1 x28_2).f7) = some r) ∧ Aside0 (kq ≤ k2) ∧ Aside0 (Kd.R k43 43 wc w.heap.size (fun k_ => some k_ ≠ (u422015 : Value).ownBlock) (.slice Ao26 t415.length co26) t415) ∧ Aside0 (Kd.R k48 48 wc w.heap.size (fun k_ => some k_ ≠ (u422016 : Value).ownBlock) (.slice Ao25 t418.length co25) t418) ∧ Aside0 (Kd.R k43 43 wc w.heap.size (fun k_ => some k_ ≠ ((.slice Ao26 t415.length co26) : Value).ownBlock) u422015 x422015_40) ∧ Aside0 (Kd.R k48 48 wc w.heap.size (fun k_ => some k_ ≠ ((.slice Ao25 t418.length co25) : Value).ownBlock) u422016 x422016_40) ∧ Aside0 (wc.heap[gb404]? = some (.cells #[.int .i64 a0_0, .int .i64 a0_1, .int .i64 a0_2, .int .i64 a0_3, .int .i64 a0_4, .int .i64 a0_5, .int .i64 a0_6, (.slice A0_7 l0_7.length c0_7), (.slice A0_8 l0_8.length c0_8)] 27 (0, 0))) ∧ Aside0 (wc.heap[gb407]? = some (.cells #[.int .i64 a0_0, .int .i64 a0_1, .int .i64 a0_2, .int .i64 a0_3, .int .i64 a0_4, .int .i64 a0_5, .int .i64 a0_6, (.slice A0_7 l0_7.length c0_7), (.slice A0_8 l0_8.length c0_8)] 27 (0, 0))) ∧ Aside0 (wc.heap[gb421]? = some (.cells #[.int .i64 x422000_40, .int .i64 x422001_40, .int .i64 x422002_40, .int .i64 x422003_40, .int .i64 x422004_40, .int .i64 x422005_40, .int .i64 x422006_40, (.slice Ao26 t415.length co26), (.slice Ao25 t418.length co25), .bool x422009_40, .bool x422010_40, .bool x422011_40, .bool x422012_40, .bool x422013_40, .bool x422014_40, u422015, u422016] 71 (0, 0))) ∧ Aside0 (wc.heap[gb429]? = some (.cells #[.int .i64 ((rd_T27 l1 x28_2).f0), .int .i64 ((rd_T27 l1 x28_2).f1), .int .i64 ((rd_T27 l1 x28_2).f2), .int .i64 ((rd_T27 l1 x28_2).f3), .int .i64 ((rd_T27 l1 x28_2).f4), .int .i64 ((rd_T27 l1 x28_2).f5.f0), .int .i64 ((rd_T27 l1 x28_2).f5.f1), (.slice A428_7 ((rd_T27 l1 x28_2).f6).length c428_7), (.slice A428_8 ((rd_T27 l1 x28_2).f7).length c428_8)] 27 (0, 0))) ∧ Aside0 (Below w.heap.size w wc))
      case first =>
       have H := HC41.out
       clear HC41
       replace H := Option.bind_eq_some_iff.mp H
       obtain ⟨t431, A420, H⟩ := H
       replace H : (if t431 = true then (if 0 ≤ ((rd_T27 l1 x28_2).f1) then (if ((rd_T27 l1 x28_2).f1) < 6 then (if rdOf false [x422009_2, x422010_2, x422011_2, x422012_2, x422013_2, x422014_2] ((rd_T27 l1 x28_2).f1) = true then (ropewaylaw14_RoundStays.j2 k2 x6_2 x7_2 false l1 (l1.length : Int) x28_2 a0_0 a0_1 a0_2 a0_3 a0_4 a0_5 a0_6 l0_7 l0_8 x422000_2 x422001_2 x422002_2 x422003_2 x422004_2 x422005_2 x422006_2 t415 t418 x422009_2 x422010_2 x422011_2 x422012_2 x422013_2 x422014_2 x422015_2 x422016_2 ((rd_T27 l1 x28_2).f0) ((rd_T27 l1 x28_2).f1) ((rd_T27 l1 x28_2).f2) ((rd_T27 l1 x28_2).f3) ((rd_T27 l1 x28_2).f4) ((rd_T27 l1 x28_2).f5.f0) ((rd_T27 l1 x28_2).f5.f1) ((rd_T27 l1 x28_2).f6) ((rd_T27 l1 x28_2).f7)) else ((round_Round_to.f x422000_2 x422001_2 x422002_2 x422003_2 x422004_2 x422005_2 x422006_2 t415 t418 x422009_2 x422010_2 x422011_2 x422012_2 x422013_2 x422014_2 x422015_2 x422016_2 ((rd_T27 l1 x28_2).f1)).bind fun bt432 => ((msg_Answers.f bt432.1 bt432.2.1 bt432.2.2.1 bt432.2.2.2.1 bt432.2.2.2.2.1 bt432.2.2.2.2.2.1 bt432.2.2.2.2.2.2.1 bt432.2.2.2.2.2.2.2.1 bt432.2.2.2.2.2.2.2.2 ((rd_T27 l1 x28_2).f0) ((rd_T27 l1 x28_2).f1) ((rd_T27 l1 x28_2).f2) ((rd_T27 l1 x28_2).f3) ((rd_T27 l1 x28_2).f4) ((rd_T27 l1 x28_2).f5.f0) ((rd_T27 l1 x28_2).f5.f1) ((rd_T27 l1 x28_2).f6) ((rd_T27 l1 x28_2).f7)).bind fun t445 => (if t445 = true then ((cells_Merge.f k2 x422015_2 ((rd_T27 l1 x28_2).f6)).bind fun t446 => ((book_Merge.f k2 x422016_2 ((rd_T27 l1 x28_2).f7)).bind fun t449 => (ropewaylaw14_RoundStays.j2 k2 x6_2 x7_2 true l1 (l1.length : Int) x28_2 a0_0 a0_1 a0_2 a0_3 a0_4 a0_5 a0_6 l0_7 l0_8 x422000_2 x422001_2 x422002_2 x422003_2 x422004_2 x422005_2 x422006_2 t415 t418 (stA ((rd_T27 l1 x28_2).f1) 0 true x422009_2) (stA ((rd_T27 l1 x28_2).f1) 1 true x422010_2) (stA ((rd_T27 l1 x28_2).f1) 2 true x422011_2) (stA ((rd_T27 l1 x28_2).f1) 3 true x422012_2) (stA ((rd_T27 l1 x28_2).f1) 4 true x422013_2) (stA ((rd_T27 l1 x28_2).f1) 5 true x422014_2) t446 t449 ((rd_T27 l1 x28_2).f0) ((rd_T27 l1 x28_2).f1) ((rd_T27 l1 x28_2).f2) ((rd_T27 l1 x28_2).f3) ((rd_T27 l1 x28_2).f4) ((rd_T27 l1 x28_2).f5.f0) ((rd_T27 l1 x28_2).f5.f1) ((rd_T27 l1 x28_2).f6) ((rd_T27 l1 x28_2).f7)))) else (ropewaylaw14_RoundStays.j2 k2 x6_2 x7_2 false l1 (l1.length : Int) x28_2 a0_0 a0_1 a0_2 a0_3 a0_4 a0_5 a0_6 l0_7 l0_8 x422000_2 x422001_2 x422002_2 x422003_2 x422004_2 x422005_2 x422006_2 t415 t418 x422009_2 x422010_2 x422011_2 x422012_2 x422013_2 x422014_2 x422015_2 x422016_2 ((rd_T27 l1 x28_2).f0) ((rd_T27 l1 x28_2).f1) ((rd_T27 l1 x28_2).f2) ((rd_T27 l1 x28_2).f3) ((rd_T27 l1 x28_2).f4) ((rd_T27 l1 x28_2).f5.f0) ((rd_T27 l1 x28_2).f5.f1) ((rd_T27 l1 x28_2).f6) ((rd_T27 l1 x28_2).f7)))))) else (none)) else (none)) else (ropewaylaw14_RoundStays.j2 k2 x6_2 x7_2 false l1 (l1.length : Int) x28_2 a0_0 a0_1 a0_2 a0_3 a0_4 a0_5 a0_6 l0_7 l0_8 x422000_2 x422001_2 x422002_2 x422003_2 x422004_2 x422005_2 x422006_2 t415 t418 x422009_2 x422010_2 x422011_2 x422012_2 x422013_2 x422014_2 x422015_2 x422016_2 ((rd_T27 l1 x28_2).f0) ((rd_T27 l1 x28_2).f1) ((rd_T27 l1 x28_2).f2) ((rd_T27 l1 x28_2).f3) ((rd_T27 l1 x28_2).f4) ((rd_T27 l1 x28_2).f5.f0) ((rd_T27 l1 x28_2).f5.f1) ((rd_T27 l1 x28_2).f6) ((rd_T27 l1 x28_2).f7))) = some r := H
       have A42 := zM A420
       clear A420
       by_cases c43 : t431 = true
       rotate_left
       · replace c43 := Bool.eq_false_iff.mpr c43
         subst c43
         have H1 : (ropewaylaw14_RoundStays.j2 k2 x6_2 x7_2 false l1 (l1.length : Int) x28_2 a0_0 a0_1 a0_2 a0_3 a0_4 a0_5 a0_6 l0_7 l0_8 x422000_2 x422001_2 x422002_2 x422003_2 x422004_2 x422005_2 x422006_2 t415 t418 x422009_2 x422010_2 x422011_2 x422012_2 x422013_2 x422014_2 x422015_2 x422016_2 ((rd_T27 l1 x28_2).f0) ((rd_T27 l1 x28_2).f1) ((rd_T27 l1 x28_2).f2) ((rd_T27 l1 x28_2).f3) ((rd_T27 l1 x28_2).f4) ((rd_T27 l1 x28_2).f5.f0) ((rd_T27 l1 x28_2).f5.f1) ((rd_T27 l1 x28_2).f6) ((rd_T27 l1 x28_2).f7)) = some r := by rw [if_neg (show ¬ (false = true) by decide)] at H; exact H
         clear H
         have H := H1
         clear H1
         have H' := zM H
         clear H
         have hnb111 := NB429_404.out
         have hnc111 := NB404_429.out
         have hnb112 := NB429_407.out
         have hnc112 := NB407_429.out
         have hnb113 := NB429_421.out
         have hnc113 := NB421_429.out
         obtain ⟨hcz114_0, hcz114_1, hcz114_2, hcz114_3, hcz114_4, hcz114_5, hcz114_6, hcz114_7, hcz114_8⟩ := r9_ BK429.out
         obtain ⟨hfz114_0, hfz114_1, hfz114_2, hfz114_3, hfz114_4, hfz114_5, hfz114_6, hfz114_7, hfz114_8⟩ := f9_ BK429.out
         have tk115 : True := trivial
         have tk117 : True := trivial
         try go_wp2_with (first | ((with_reducible refine gate_callee (f := 12) rfl ?_); clear tk115; refine goL_ (some 34) Try.func12 #[.pointer (some ⟨gb421, 0, none⟩), .agg #[.int .i64 ((rd_T27 l1 x28_2).f0), .int .i64 ((rd_T27 l1 x28_2).f1), .int .i64 ((rd_T27 l1 x28_2).f2), .int .i64 ((rd_T27 l1 x28_2).f3), .int .i64 ((rd_T27 l1 x28_2).f4), .int .i64 ((rd_T27 l1 x28_2).f5.f0), .int .i64 ((rd_T27 l1 x28_2).f5.f1), .slice A428_7 ((rd_T27 l1 x28_2).f6).length c428_7, .slice A428_8 ((rd_T27 l1 x28_2).f7).length c428_8]] ?_; go_enter Try.func12, Try.ntmps12) | ((with_reducible refine gate_dst (N := 3) rfl ?_); clear tk117; (try (refine gate_guard (by rfl) ?_; dsimp only)); refine box_event ?hg (N := 3) ?hd (cs := #[.int .i64 ((rd_T27 l1 x28_2).f0), .int .i64 ((rd_T27 l1 x28_2).f1), .int .i64 ((rd_T27 l1 x28_2).f2), .int .i64 ((rd_T27 l1 x28_2).f3), .int .i64 ((rd_T27 l1 x28_2).f4), .int .i64 ((rd_T27 l1 x28_2).f5.f0), .int .i64 ((rd_T27 l1 x28_2).f5.f1), .slice A428_7 ((rd_T27 l1 x28_2).f6).length c428_7, .slice A428_8 ((rd_T27 l1 x28_2).f7).length c428_8]) (t := 27) ?hr ?_; (case hd => rfl); (case hg => rfl); (case hr => first | (go_simp; done) | (go_simp; rfl)); intro gb430 hg w116 hbox hb; replace HO_422007 := zM (Kd.R_below (rl_ HO_422007) hb); replace HO_422008 := zM (Kd.R_below (rl_ HO_422008) hb); replace HO_422015 := zM (Kd.R_below (rl_ HO_422015) hb); replace HO_422016 := zM (Kd.R_below (rl_ HO_422016) hb); have BK430 := zM (hbox); have GW430 := zM (bs_ hg); have GE430 := zM (bs_ hg); replace HB := zM (zB bel_ hb); have NB404_430 := zM (nl_ BK404 hg); have NB430_404 := zM (ng_ BK404 hg); replace BK404 := zM (bb_ BK404 hb); have NB407_430 := zM (nl_ BK407 hg); have NB430_407 := zM (ng_ BK407 hg); replace BK407 := zM (bb_ BK407 hb); have NB421_430 := zM (nl_ BK421 hg); have NB430_421 := zM (ng_ BK421 hg); replace BK421 := zM (bb_ BK421 hb); have NB429_430 := zM (nl_ BK429 hg); have NB430_429 := zM (ng_ BK429 hg); replace BK429 := zM (bb_ BK429 hb); clear hb hbox hg))
         replace HO_422007 := zM (Kd.R_drew HO_422007.out)
         replace HO_422008 := zM (Kd.R_drew HO_422008.out)
         replace HO_422015 := zM (Kd.R_drew HO_422015.out)
         replace HO_422016 := zM (Kd.R_drew HO_422016.out)
         replace BK404 := zM (zD BK404.out)
         replace BK407 := zM (zD BK407.out)
         replace BK421 := zM (zD BK421.out)
         replace BK429 := zM (zD BK429.out)
         replace BK430 := zM (zD BK430.out)
         replace HB := zM (below_drew1 HB.out)
         refine start_ (n := 27) (S := fun w' => w'.cell? ⟨gb421, 0, none⟩ = some (.int .i64 x422000_2) ∧ w'.cell? ⟨gb421, 1, none⟩ = some (.int .i64 x422001_2) ∧ w'.cell? ⟨gb421, 2, none⟩ = some (.int .i64 x422002_2) ∧ w'.cell? ⟨gb421, 3, none⟩ = some (.int .i64 x422003_2) ∧ w'.cell? ⟨gb421, 4, none⟩ = some (.int .i64 x422004_2) ∧ w'.cell? ⟨gb421, 5, none⟩ = some (.int .i64 x422005_2) ∧ w'.cell? ⟨gb421, 6, none⟩ = some (.int .i64 x422006_2) ∧ w'.cell? ⟨gb421, 7, none⟩ = some (.slice Ao26 t415.length co26) ∧ w'.cell? ⟨gb421, 8, none⟩ = some (.slice Ao25 t418.length co25) ∧ w'.cell? ⟨gb421, 9, none⟩ = some (.bool x422009_2) ∧ w'.cell? ⟨gb421, 10, none⟩ = some (.bool x422010_2) ∧ w'.cell? ⟨gb421, 11, none⟩ = some (.bool x422011_2) ∧ w'.cell? ⟨gb421, 12, none⟩ = some (.bool x422012_2) ∧ w'.cell? ⟨gb421, 13, none⟩ = some (.bool x422013_2) ∧ w'.cell? ⟨gb421, 14, none⟩ = some (.bool x422014_2) ∧ w'.cell? ⟨gb421, 15, none⟩ = some (u422015) ∧ w'.cell? ⟨gb421, 16, none⟩ = some (u422016) ∧ w'.cell? ⟨gb430, 0, none⟩ = some (.int .i64 ((rd_T27 l1 x28_2).f0)) ∧ w'.cell? ⟨gb430, 1, none⟩ = some (.int .i64 ((rd_T27 l1 x28_2).f1)) ∧ w'.cell? ⟨gb430, 2, none⟩ = some (.int .i64 ((rd_T27 l1 x28_2).f2)) ∧ w'.cell? ⟨gb430, 3, none⟩ = some (.int .i64 ((rd_T27 l1 x28_2).f3)) ∧ w'.cell? ⟨gb430, 4, none⟩ = some (.int .i64 ((rd_T27 l1 x28_2).f4)) ∧ w'.cell? ⟨gb430, 5, none⟩ = some (.int .i64 ((rd_T27 l1 x28_2).f5.f0)) ∧ w'.cell? ⟨gb430, 6, none⟩ = some (.int .i64 ((rd_T27 l1 x28_2).f5.f1)) ∧ w'.cell? ⟨gb430, 7, none⟩ = some (.slice A428_7 ((rd_T27 l1 x28_2).f6).length c428_7) ∧ w'.cell? ⟨gb430, 8, none⟩ = some (.slice A428_8 ((rd_T27 l1 x28_2).f7).length c428_8)) (ds := []) #[F_, F_, F_, F_, F_, F_, F_, F_, F_, F_, F_, F_, F_, F_, F_, F_, F_, F_, F_, F_, F_, F_, F_, F_, F_, F_, F_] (by kernel_rfl) rfl rfl ⟨(zL BK421.out 0).trans rfl, (zL BK421.out 1).trans rfl, (zL BK421.out 2).trans rfl, (zL BK421.out 3).trans rfl, (zL BK421.out 4).trans rfl, (zL BK421.out 5).trans rfl, (zL BK421.out 6).trans rfl, (zL BK421.out 7).trans rfl, (zL BK421.out 8).trans rfl, (zL BK421.out 9).trans rfl, (zL BK421.out 10).trans rfl, (zL BK421.out 11).trans rfl, (zL BK421.out 12).trans rfl, (zL BK421.out 13).trans rfl, (zL BK421.out 14).trans rfl, (zL BK421.out 15).trans rfl, (zL BK421.out 16).trans rfl, (zL BK430.out 0).trans rfl, (zL BK430.out 1).trans rfl, (zL BK430.out 2).trans rfl, (zL BK430.out 3).trans rfl, (zL BK430.out 4).trans rfl, (zL BK430.out 5).trans rfl, (zL BK430.out 6).trans rfl, (zL BK430.out 7).trans rfl, (zL BK430.out 8).trans rfl⟩ (fun hHeld => ?_)
         generalize w116.drew = w118 at HO_422007 HO_422008 HO_422015 HO_422016 BK404 BK407 BK421 BK429 BK430 HB hHeld ⊢
         refine pu_ 0 5 (dm_ 27 1) ?_
         refine pu_ 1 6 (dm_ 27 3) ?_
         refine pu_ 2 7 (dm_ 27 7) ?_
         refine pu_ 3 8 (dm_ 27 15) ?_
         refine pu_ 5 10 (dm_ 27 47) ?_
         refine tk_ hHeld 4 9 (dm_ 27 63) ?_
         refine tk_ hHeld 6 11 (dm_ 27 127) ?_
         refine one_ (i := 7) (N := some 12) (dm_ 27 255) rfl rfl (by kernel_rfl) (by decide) (fun K hK => ?_)
         refine goes_ Try.func37 (by kernel_rfl) rfl #[.agg #[.int .i64 x422005_2, .int .i64 x422006_2], .int .i64 ((rd_T27 l1 x28_2).f1)] (by rfl) rfl rfl (by (try simp only [List.map_toArray, List.map_cons, List.map_nil]); first | done | rfl | (simp only [List.length_drop, List.length_take]; rfl)) ?_
         with_reducible refine (view_In.calls x422005_2 x422006_2 ((rd_T27 l1 x28_2).f1) false _ A42.out).mono ?_
         rintro e w119 ⟨rfl, hb⟩
         refine ⟨_, rfl, ?_⟩
         replace HO_422007 := zM (Kd.R_below (rl_ HO_422007) hb)
         replace HO_422008 := zM (Kd.R_below (rl_ HO_422008) hb)
         replace HO_422015 := zM (Kd.R_below (rl_ HO_422015) hb)
         replace HO_422016 := zM (Kd.R_below (rl_ HO_422016) hb)
         replace BK404 := zM (bb_ BK404 hb)
         replace BK407 := zM (bb_ BK407 hb)
         replace BK421 := zM (bb_ BK421 hb)
         replace BK429 := zM (bb_ BK429 hb)
         replace BK430 := zM (bb_ BK430 hb)
         replace HB := zM (zB bel_ hb)
         (try clear hb)
         (try clear hb2)
         (try clear hk)
         (try clear hi)
         refine hK.out _ _ ⟨(zL BK421.out 0).trans rfl, (zL BK421.out 1).trans rfl, (zL BK421.out 2).trans rfl, (zL BK421.out 3).trans rfl, (zL BK421.out 4).trans rfl, (zL BK421.out 5).trans rfl, (zL BK421.out 6).trans rfl, (zL BK421.out 7).trans rfl, (zL BK421.out 8).trans rfl, (zL BK421.out 9).trans rfl, (zL BK421.out 10).trans rfl, (zL BK421.out 11).trans rfl, (zL BK421.out 12).trans rfl, (zL BK421.out 13).trans rfl, (zL BK421.out 14).trans rfl, (zL BK421.out 15).trans rfl, (zL BK421.out 16).trans rfl, (zL BK430.out 0).trans rfl, (zL BK430.out 1).trans rfl, (zL BK430.out 2).trans rfl, (zL BK430.out 3).trans rfl, (zL BK430.out 4).trans rfl, (zL BK430.out 5).trans rfl, (zL BK430.out 6).trans rfl, (zL BK430.out 7).trans rfl, (zL BK430.out 8).trans rfl⟩ (fun hHeld => ?_)
         clear hK K
         refine norm_ (a' := ?_) ?_ ?_
         rotate_left
         · show Act.put _ (some 12) _ = _
           simp only [Act.put, zS, zZ, zC, i64_w, i32_w]
           rfl
         refine pu_ 8 13 (dm_ 27 511) ?_
         refine pu_ 9 14 (dm_ 27 1023) ?_
         refine pz_ 10 15 (dm_ 27 2047) ?_
         refine pz_ 11 16 (dm_ 27 4095) ?_
         refine pz_ 12 17 (dm_ 27 8191) ?_
         refine pz_ 13 18 (dm_ 27 16383) ?_
         refine pz_ 14 19 (dm_ 27 32767) ?_
         refine pz_ 15 20 (dm_ 27 65535) ?_
         refine pz_ 16 21 (dm_ 27 131071) ?_
         refine pu_ 17 22 (dm_ 27 262143) ?_
         refine pu_ 18 23 (dm_ 27 524287) ?_
         refine pz_ 19 24 (dm_ 27 1048575) ?_
         refine pz_ 20 25 (dm_ 27 2097151) ?_
         refine pz_ 21 26 (dm_ 27 4194303) ?_
         refine pz_ 22 27 (dm_ 27 8388607) ?_
         refine pz_ 23 28 (dm_ 27 16777215) ?_
         refine pz_ 24 29 (dm_ 27 33554431) ?_
         refine pz_ 25 30 (dm_ 27 67108863) ?_
         refine pu_ 26 31 (dm_ 27 134217727) ?_
         refine done_ (by kernel_rfl) ?_
         have tk120 : True := trivial
         try go_wp2_with (first | (clear tk120; (first | go_ret | go_ret2 | go_ret3 | go_end0); with_reducible refine inl_back_ ?_))
         go_meet
         case rel => exact ⟨_, (false), (x422000_2), (x422001_2), (x422002_2), (x422003_2), (x422004_2), (x422005_2), (x422006_2), (x422009_2), (x422010_2), (x422011_2), (x422012_2), (x422013_2), (x422014_2), (x422015_2), (x422016_2), (u422015), (u422016), (by first | rfl | (simp; done) | (simp [*]; done) | (simp; grind)), H', ⟨by have := HJ8.out; have := HK2.out; first | omega | exact Nat.le_refl _⟩, ⟨by (with_reducible repeat (first | apply Kd.R_alloc | apply Kd.R_drewN | apply Kd.R_drew)); exact HO_422007.out⟩, ⟨by (with_reducible repeat (first | apply Kd.R_alloc | apply Kd.R_drewN | apply Kd.R_drew)); exact HO_422008.out⟩, ⟨by (with_reducible repeat (first | apply Kd.R_alloc | apply Kd.R_drewN | apply Kd.R_drew)); exact HO_422015.out⟩, ⟨by (with_reducible repeat (first | apply Kd.R_alloc | apply Kd.R_drewN | apply Kd.R_drew)); exact HO_422016.out⟩, ⟨blf_⟩, ⟨blf_⟩, ⟨blf_⟩, ⟨blf_⟩, ⟨bel_⟩⟩
       subst c43
       have H1 : (if 0 ≤ ((rd_T27 l1 x28_2).f1) then (if ((rd_T27 l1 x28_2).f1) < 6 then (if rdOf false [x422009_2, x422010_2, x422011_2, x422012_2, x422013_2, x422014_2] ((rd_T27 l1 x28_2).f1) = true then (ropewaylaw14_RoundStays.j2 k2 x6_2 x7_2 false l1 (l1.length : Int) x28_2 a0_0 a0_1 a0_2 a0_3 a0_4 a0_5 a0_6 l0_7 l0_8 x422000_2 x422001_2 x422002_2 x422003_2 x422004_2 x422005_2 x422006_2 t415 t418 x422009_2 x422010_2 x422011_2 x422012_2 x422013_2 x422014_2 x422015_2 x422016_2 ((rd_T27 l1 x28_2).f0) ((rd_T27 l1 x28_2).f1) ((rd_T27 l1 x28_2).f2) ((rd_T27 l1 x28_2).f3) ((rd_T27 l1 x28_2).f4) ((rd_T27 l1 x28_2).f5.f0) ((rd_T27 l1 x28_2).f5.f1) ((rd_T27 l1 x28_2).f6) ((rd_T27 l1 x28_2).f7)) else ((round_Round_to.f x422000_2 x422001_2 x422002_2 x422003_2 x422004_2 x422005_2 x422006_2 t415 t418 x422009_2 x422010_2 x422011_2 x422012_2 x422013_2 x422014_2 x422015_2 x422016_2 ((rd_T27 l1 x28_2).f1)).bind fun bt432 => ((msg_Answers.f bt432.1 bt432.2.1 bt432.2.2.1 bt432.2.2.2.1 bt432.2.2.2.2.1 bt432.2.2.2.2.2.1 bt432.2.2.2.2.2.2.1 bt432.2.2.2.2.2.2.2.1 bt432.2.2.2.2.2.2.2.2 ((rd_T27 l1 x28_2).f0) ((rd_T27 l1 x28_2).f1) ((rd_T27 l1 x28_2).f2) ((rd_T27 l1 x28_2).f3) ((rd_T27 l1 x28_2).f4) ((rd_T27 l1 x28_2).f5.f0) ((rd_T27 l1 x28_2).f5.f1) ((rd_T27 l1 x28_2).f6) ((rd_T27 l1 x28_2).f7)).bind fun t445 => (if t445 = true then ((cells_Merge.f k2 x422015_2 ((rd_T27 l1 x28_2).f6)).bind fun t446 => ((book_Merge.f k2 x422016_2 ((rd_T27 l1 x28_2).f7)).bind fun t449 => (ropewaylaw14_RoundStays.j2 k2 x6_2 x7_2 true l1 (l1.length : Int) x28_2 a0_0 a0_1 a0_2 a0_3 a0_4 a0_5 a0_6 l0_7 l0_8 x422000_2 x422001_2 x422002_2 x422003_2 x422004_2 x422005_2 x422006_2 t415 t418 (stA ((rd_T27 l1 x28_2).f1) 0 true x422009_2) (stA ((rd_T27 l1 x28_2).f1) 1 true x422010_2) (stA ((rd_T27 l1 x28_2).f1) 2 true x422011_2) (stA ((rd_T27 l1 x28_2).f1) 3 true x422012_2) (stA ((rd_T27 l1 x28_2).f1) 4 true x422013_2) (stA ((rd_T27 l1 x28_2).f1) 5 true x422014_2) t446 t449 ((rd_T27 l1 x28_2).f0) ((rd_T27 l1 x28_2).f1) ((rd_T27 l1 x28_2).f2) ((rd_T27 l1 x28_2).f3) ((rd_T27 l1 x28_2).f4) ((rd_T27 l1 x28_2).f5.f0) ((rd_T27 l1 x28_2).f5.f1) ((rd_T27 l1 x28_2).f6) ((rd_T27 l1 x28_2).f7)))) else (ropewaylaw14_RoundStays.j2 k2 x6_2 x7_2 false l1 (l1.length : Int) x28_2 a0_0 a0_1 a0_2 a0_3 a0_4 a0_5 a0_6 l0_7 l0_8 x422000_2 x422001_2 x422002_2 x422003_2 x422004_2 x422005_2 x422006_2 t415 t418 x422009_2 x422010_2 x422011_2 x422012_2 x422013_2 x422014_2 x422015_2 x422016_2 ((rd_T27 l1 x28_2).f0) ((rd_T27 l1 x28_2).f1) ((rd_T27 l1 x28_2).f2) ((rd_T27 l1 x28_2).f3) ((rd_T27 l1 x28_2).f4) ((rd_T27 l1 x28_2).f5.f0) ((rd_T27 l1 x28_2).f5.f1) ((rd_T27 l1 x28_2).f6) ((rd_T27 l1 x28_2).f7)))))) else (none)) else (none)) = some r := by rw [if_pos rfl] at H; exact H
       clear H
       have H := H1
       clear H1
       by_cases c44 : 0 ≤ ((rd_T27 l1 x28_2).f1)
       rotate_left
       · rw [if_neg c44] at H
         exact absurd H (by simp)
       rw [if_pos c44] at H
       have c44b0 : decide (0 ≤ ((rd_T27 l1 x28_2).f1)) = true := decide_eq_true c44
       clear c44
       (first | rw [c44b0] | (simp only [i64_w, i32_w]; rw [c44b0]) | skip)
       by_cases c45 : ((rd_T27 l1 x28_2).f1) < 6
       rotate_left
       · rw [if_neg c45] at H
         exact absurd H (by simp)
       rw [if_pos c45] at H
       have c45b0 : decide (((rd_T27 l1 x28_2).f1) < 6) = true := decide_eq_true c45
       clear c45
       obtain ⟨bq46, hbq46⟩ : ∃ b_ : Bool, b_ = (rdOf false [x422009_2, x422010_2, x422011_2, x422012_2, x422013_2, x422014_2] ((rd_T27 l1 x28_2).f1)) := ⟨_, rfl⟩
       replace H : (if bq46 = true then (ropewaylaw14_RoundStays.j2 k2 x6_2 x7_2 false l1 (l1.length : Int) x28_2 a0_0 a0_1 a0_2 a0_3 a0_4 a0_5 a0_6 l0_7 l0_8 x422000_2 x422001_2 x422002_2 x422003_2 x422004_2 x422005_2 x422006_2 t415 t418 x422009_2 x422010_2 x422011_2 x422012_2 x422013_2 x422014_2 x422015_2 x422016_2 ((rd_T27 l1 x28_2).f0) ((rd_T27 l1 x28_2).f1) ((rd_T27 l1 x28_2).f2) ((rd_T27 l1 x28_2).f3) ((rd_T27 l1 x28_2).f4) ((rd_T27 l1 x28_2).f5.f0) ((rd_T27 l1 x28_2).f5.f1) ((rd_T27 l1 x28_2).f6) ((rd_T27 l1 x28_2).f7)) else ((round_Round_to.f x422000_2 x422001_2 x422002_2 x422003_2 x422004_2 x422005_2 x422006_2 t415 t418 x422009_2 x422010_2 x422011_2 x422012_2 x422013_2 x422014_2 x422015_2 x422016_2 ((rd_T27 l1 x28_2).f1)).bind fun bt432 => ((msg_Answers.f bt432.1 bt432.2.1 bt432.2.2.1 bt432.2.2.2.1 bt432.2.2.2.2.1 bt432.2.2.2.2.2.1 bt432.2.2.2.2.2.2.1 bt432.2.2.2.2.2.2.2.1 bt432.2.2.2.2.2.2.2.2 ((rd_T27 l1 x28_2).f0) ((rd_T27 l1 x28_2).f1) ((rd_T27 l1 x28_2).f2) ((rd_T27 l1 x28_2).f3) ((rd_T27 l1 x28_2).f4) ((rd_T27 l1 x28_2).f5.f0) ((rd_T27 l1 x28_2).f5.f1) ((rd_T27 l1 x28_2).f6) ((rd_T27 l1 x28_2).f7)).bind fun t445 => (if t445 = true then ((cells_Merge.f k2 x422015_2 ((rd_T27 l1 x28_2).f6)).bind fun t446 => ((book_Merge.f k2 x422016_2 ((rd_T27 l1 x28_2).f7)).bind fun t449 => (ropewaylaw14_RoundStays.j2 k2 x6_2 x7_2 true l1 (l1.length : Int) x28_2 a0_0 a0_1 a0_2 a0_3 a0_4 a0_5 a0_6 l0_7 l0_8 x422000_2 x422001_2 x422002_2 x422003_2 x422004_2 x422005_2 x422006_2 t415 t418 (stA ((rd_T27 l1 x28_2).f1) 0 true x422009_2) (stA ((rd_T27 l1 x28_2).f1) 1 true x422010_2) (stA ((rd_T27 l1 x28_2).f1) 2 true x422011_2) (stA ((rd_T27 l1 x28_2).f1) 3 true x422012_2) (stA ((rd_T27 l1 x28_2).f1) 4 true x422013_2) (stA ((rd_T27 l1 x28_2).f1) 5 true x422014_2) t446 t449 ((rd_T27 l1 x28_2).f0) ((rd_T27 l1 x28_2).f1) ((rd_T27 l1 x28_2).f2) ((rd_T27 l1 x28_2).f3) ((rd_T27 l1 x28_2).f4) ((rd_T27 l1 x28_2).f5.f0) ((rd_T27 l1 x28_2).f5.f1) ((rd_T27 l1 x28_2).f6) ((rd_T27 l1 x28_2).f7)))) else (ropewaylaw14_RoundStays.j2 k2 x6_2 x7_2 false l1 (l1.length : Int) x28_2 a0_0 a0_1 a0_2 a0_3 a0_4 a0_5 a0_6 l0_7 l0_8 x422000_2 x422001_2 x422002_2 x422003_2 x422004_2 x422005_2 x422006_2 t415 t418 x422009_2 x422010_2 x422011_2 x422012_2 x422013_2 x422014_2 x422015_2 x422016_2 ((rd_T27 l1 x28_2).f0) ((rd_T27 l1 x28_2).f1) ((rd_T27 l1 x28_2).f2) ((rd_T27 l1 x28_2).f3) ((rd_T27 l1 x28_2).f4) ((rd_T27 l1 x28_2).f5.f0) ((rd_T27 l1 x28_2).f5.f1) ((rd_T27 l1 x28_2).f6) ((rd_T27 l1 x28_2).f7)))))) = some r := by rw [← hbq46] at H; exact H
       have Nbq46 := zM hbq46
       clear hbq46
       by_cases c47 : bq46 = true
       · subst c47
         have H1 : (ropewaylaw14_RoundStays.j2 k2 x6_2 x7_2 false l1 (l1.length : Int) x28_2 a0_0 a0_1 a0_2 a0_3 a0_4 a0_5 a0_6 l0_7 l0_8 x422000_2 x422001_2 x422002_2 x422003_2 x422004_2 x422005_2 x422006_2 t415 t418 x422009_2 x422010_2 x422011_2 x422012_2 x422013_2 x422014_2 x422015_2 x422016_2 ((rd_T27 l1 x28_2).f0) ((rd_T27 l1 x28_2).f1) ((rd_T27 l1 x28_2).f2) ((rd_T27 l1 x28_2).f3) ((rd_T27 l1 x28_2).f4) ((rd_T27 l1 x28_2).f5.f0) ((rd_T27 l1 x28_2).f5.f1) ((rd_T27 l1 x28_2).f6) ((rd_T27 l1 x28_2).f7)) = some r := by rw [if_pos rfl] at H; exact H
         clear H
         have H := H1
         clear H1
         have H' := zM H
         clear H
         have hnb48 := NB429_404.out
         have hnc48 := NB404_429.out
         have hnb49 := NB429_407.out
         have hnc49 := NB407_429.out
         have hnb50 := NB429_421.out
         have hnc50 := NB421_429.out
         obtain ⟨hcz51_0, hcz51_1, hcz51_2, hcz51_3, hcz51_4, hcz51_5, hcz51_6, hcz51_7, hcz51_8⟩ := r9_ BK429.out
         obtain ⟨hfz51_0, hfz51_1, hfz51_2, hfz51_3, hfz51_4, hfz51_5, hfz51_6, hfz51_7, hfz51_8⟩ := f9_ BK429.out
         have tk52 : True := trivial
         have tk54 : True := trivial
         try go_wp2_with (first | ((with_reducible refine gate_callee (f := 12) rfl ?_); clear tk52; refine goL_ (some 34) Try.func12 #[.pointer (some ⟨gb421, 0, none⟩), .agg #[.int .i64 ((rd_T27 l1 x28_2).f0), .int .i64 ((rd_T27 l1 x28_2).f1), .int .i64 ((rd_T27 l1 x28_2).f2), .int .i64 ((rd_T27 l1 x28_2).f3), .int .i64 ((rd_T27 l1 x28_2).f4), .int .i64 ((rd_T27 l1 x28_2).f5.f0), .int .i64 ((rd_T27 l1 x28_2).f5.f1), .slice A428_7 ((rd_T27 l1 x28_2).f6).length c428_7, .slice A428_8 ((rd_T27 l1 x28_2).f7).length c428_8]] ?_; go_enter Try.func12, Try.ntmps12) | ((with_reducible refine gate_dst (N := 3) rfl ?_); clear tk54; (try (refine gate_guard (by rfl) ?_; dsimp only)); refine box_event ?hg (N := 3) ?hd (cs := #[.int .i64 ((rd_T27 l1 x28_2).f0), .int .i64 ((rd_T27 l1 x28_2).f1), .int .i64 ((rd_T27 l1 x28_2).f2), .int .i64 ((rd_T27 l1 x28_2).f3), .int .i64 ((rd_T27 l1 x28_2).f4), .int .i64 ((rd_T27 l1 x28_2).f5.f0), .int .i64 ((rd_T27 l1 x28_2).f5.f1), .slice A428_7 ((rd_T27 l1 x28_2).f6).length c428_7, .slice A428_8 ((rd_T27 l1 x28_2).f7).length c428_8]) (t := 27) ?hr ?_; (case hd => rfl); (case hg => rfl); (case hr => first | (go_simp; done) | (go_simp; rfl)); intro gb430 hg w53 hbox hb; replace HO_422007 := zM (Kd.R_below (rl_ HO_422007) hb); replace HO_422008 := zM (Kd.R_below (rl_ HO_422008) hb); replace HO_422015 := zM (Kd.R_below (rl_ HO_422015) hb); replace HO_422016 := zM (Kd.R_below (rl_ HO_422016) hb); have BK430 := zM (hbox); have GW430 := zM (bs_ hg); have GE430 := zM (bs_ hg); replace HB := zM (zB bel_ hb); have NB404_430 := zM (nl_ BK404 hg); have NB430_404 := zM (ng_ BK404 hg); replace BK404 := zM (bb_ BK404 hb); have NB407_430 := zM (nl_ BK407 hg); have NB430_407 := zM (ng_ BK407 hg); replace BK407 := zM (bb_ BK407 hb); have NB421_430 := zM (nl_ BK421 hg); have NB430_421 := zM (ng_ BK421 hg); replace BK421 := zM (bb_ BK421 hb); have NB429_430 := zM (nl_ BK429 hg); have NB430_429 := zM (ng_ BK429 hg); replace BK429 := zM (bb_ BK429 hb); clear hb hbox hg))
         replace HO_422007 := zM (Kd.R_drew HO_422007.out)
         replace HO_422008 := zM (Kd.R_drew HO_422008.out)
         replace HO_422015 := zM (Kd.R_drew HO_422015.out)
         replace HO_422016 := zM (Kd.R_drew HO_422016.out)
         replace BK404 := zM (zD BK404.out)
         replace BK407 := zM (zD BK407.out)
         replace BK421 := zM (zD BK421.out)
         replace BK429 := zM (zD BK429.out)
         replace BK430 := zM (zD BK430.out)
         replace HB := zM (below_drew1 HB.out)
         have pd57 : 0 ≤ (((rd_T27 l1 x28_2).f1) : Int) := (of_decide_eq_true (by first | (with_reducible assumption) | assumption))
         have qd57 : (((rd_T27 l1 x28_2).f1) : Int) < 6 := (of_decide_eq_true (by first | (with_reducible assumption) | assumption))
         replace pd57 := eq_true pd57
         replace qd57 := eq_true qd57
         refine start_ (n := 27) (S := fun w' => w'.cell? ⟨gb421, 0, none⟩ = some (.int .i64 x422000_2) ∧ w'.cell? ⟨gb421, 1, none⟩ = some (.int .i64 x422001_2) ∧ w'.cell? ⟨gb421, 2, none⟩ = some (.int .i64 x422002_2) ∧ w'.cell? ⟨gb421, 3, none⟩ = some (.int .i64 x422003_2) ∧ w'.cell? ⟨gb421, 4, none⟩ = some (.int .i64 x422004_2) ∧ w'.cell? ⟨gb421, 5, none⟩ = some (.int .i64 x422005_2) ∧ w'.cell? ⟨gb421, 6, none⟩ = some (.int .i64 x422006_2) ∧ w'.cell? ⟨gb421, 7, none⟩ = some (.slice Ao26 t415.length co26) ∧ w'.cell? ⟨gb421, 8, none⟩ = some (.slice Ao25 t418.length co25) ∧ w'.cell? ⟨gb421, 9, none⟩ = some (.bool x422009_2) ∧ w'.cell? ⟨gb421, 10, none⟩ = some (.bool x422010_2) ∧ w'.cell? ⟨gb421, 11, none⟩ = some (.bool x422011_2) ∧ w'.cell? ⟨gb421, 12, none⟩ = some (.bool x422012_2) ∧ w'.cell? ⟨gb421, 13, none⟩ = some (.bool x422013_2) ∧ w'.cell? ⟨gb421, 14, none⟩ = some (.bool x422014_2) ∧ w'.cell? ⟨gb421, 15, none⟩ = some (u422015) ∧ w'.cell? ⟨gb421, 16, none⟩ = some (u422016) ∧ w'.cell? ⟨gb430, 0, none⟩ = some (.int .i64 ((rd_T27 l1 x28_2).f0)) ∧ w'.cell? ⟨gb430, 1, none⟩ = some (.int .i64 ((rd_T27 l1 x28_2).f1)) ∧ w'.cell? ⟨gb430, 2, none⟩ = some (.int .i64 ((rd_T27 l1 x28_2).f2)) ∧ w'.cell? ⟨gb430, 3, none⟩ = some (.int .i64 ((rd_T27 l1 x28_2).f3)) ∧ w'.cell? ⟨gb430, 4, none⟩ = some (.int .i64 ((rd_T27 l1 x28_2).f4)) ∧ w'.cell? ⟨gb430, 5, none⟩ = some (.int .i64 ((rd_T27 l1 x28_2).f5.f0)) ∧ w'.cell? ⟨gb430, 6, none⟩ = some (.int .i64 ((rd_T27 l1 x28_2).f5.f1)) ∧ w'.cell? ⟨gb430, 7, none⟩ = some (.slice A428_7 ((rd_T27 l1 x28_2).f6).length c428_7) ∧ w'.cell? ⟨gb430, 8, none⟩ = some (.slice A428_8 ((rd_T27 l1 x28_2).f7).length c428_8) ∧ w'.cell? ⟨gb421, 9 + (((rd_T27 l1 x28_2).f1) : Int).toNat, none⟩ = some (.bool (true))) (ds := []) #[F_, F_, F_, F_, F_, F_, F_, F_, F_, F_, F_, F_, F_, F_, F_, F_, F_, F_, F_, F_, F_, F_, F_, F_, F_, F_, F_] (by kernel_rfl) rfl rfl ⟨(zL BK421.out 0).trans rfl, (zL BK421.out 1).trans rfl, (zL BK421.out 2).trans rfl, (zL BK421.out 3).trans rfl, (zL BK421.out 4).trans rfl, (zL BK421.out 5).trans rfl, (zL BK421.out 6).trans rfl, (zL BK421.out 7).trans rfl, (zL BK421.out 8).trans rfl, (zL BK421.out 9).trans rfl, (zL BK421.out 10).trans rfl, (zL BK421.out 11).trans rfl, (zL BK421.out 12).trans rfl, (zL BK421.out 13).trans rfl, (zL BK421.out 14).trans rfl, (zL BK421.out 15).trans rfl, (zL BK421.out 16).trans rfl, (zL BK430.out 0).trans rfl, (zL BK430.out 1).trans rfl, (zL BK430.out 2).trans rfl, (zL BK430.out 3).trans rfl, (zL BK430.out 4).trans rfl, (zL BK430.out 5).trans rfl, (zL BK430.out 6).trans rfl, (zL BK430.out 7).trans rfl, (zL BK430.out 8).trans rfl, (arrCo (o := 9) BK421.out rfl rfl rfl rfl rfl rfl ((rd_T27 l1 x28_2).f1) (of_eq_true pd57) (of_eq_true qd57)).trans (congrArg (fun z_ => some (Value.bool z_)) Nbq46.out.symm)⟩ (fun hHeld => ?_)
         generalize w53.drew = w55 at HO_422007 HO_422008 HO_422015 HO_422016 BK404 BK407 BK421 BK429 BK430 HB hHeld ⊢
         refine pu_ 0 5 (dm_ 27 1) ?_
         refine pu_ 1 6 (dm_ 27 3) ?_
         refine pu_ 2 7 (dm_ 27 7) ?_
         refine pu_ 3 8 (dm_ 27 15) ?_
         refine pu_ 5 10 (dm_ 27 47) ?_
         refine tk_ hHeld 4 9 (dm_ 27 63) ?_
         refine tk_ hHeld 6 11 (dm_ 27 127) ?_
         refine one_ (i := 7) (N := some 12) (dm_ 27 255) rfl rfl (by kernel_rfl) (by decide) (fun K hK => ?_)
         refine goes_ Try.func37 (by kernel_rfl) rfl #[.agg #[.int .i64 x422005_2, .int .i64 x422006_2], .int .i64 ((rd_T27 l1 x28_2).f1)] (by rfl) rfl rfl (by (try simp only [List.map_toArray, List.map_cons, List.map_nil]); first | done | rfl | (simp only [List.length_drop, List.length_take]; rfl)) ?_
         with_reducible refine (view_In.calls x422005_2 x422006_2 ((rd_T27 l1 x28_2).f1) true _ A42.out).mono ?_
         rintro e w56 ⟨rfl, hb⟩
         refine ⟨_, rfl, ?_⟩
         replace HO_422007 := zM (Kd.R_below (rl_ HO_422007) hb)
         replace HO_422008 := zM (Kd.R_below (rl_ HO_422008) hb)
         replace HO_422015 := zM (Kd.R_below (rl_ HO_422015) hb)
         replace HO_422016 := zM (Kd.R_below (rl_ HO_422016) hb)
         replace BK404 := zM (bb_ BK404 hb)
         replace BK407 := zM (bb_ BK407 hb)
         replace BK421 := zM (bb_ BK421 hb)
         replace BK429 := zM (bb_ BK429 hb)
         replace BK430 := zM (bb_ BK430 hb)
         replace HB := zM (zB bel_ hb)
         (try clear hb)
         (try clear hb2)
         (try clear hk)
         (try clear hi)
         refine hK.out _ _ ⟨(zL BK421.out 0).trans rfl, (zL BK421.out 1).trans rfl, (zL BK421.out 2).trans rfl, (zL BK421.out 3).trans rfl, (zL BK421.out 4).trans rfl, (zL BK421.out 5).trans rfl, (zL BK421.out 6).trans rfl, (zL BK421.out 7).trans rfl, (zL BK421.out 8).trans rfl, (zL BK421.out 9).trans rfl, (zL BK421.out 10).trans rfl, (zL BK421.out 11).trans rfl, (zL BK421.out 12).trans rfl, (zL BK421.out 13).trans rfl, (zL BK421.out 14).trans rfl, (zL BK421.out 15).trans rfl, (zL BK421.out 16).trans rfl, (zL BK430.out 0).trans rfl, (zL BK430.out 1).trans rfl, (zL BK430.out 2).trans rfl, (zL BK430.out 3).trans rfl, (zL BK430.out 4).trans rfl, (zL BK430.out 5).trans rfl, (zL BK430.out 6).trans rfl, (zL BK430.out 7).trans rfl, (zL BK430.out 8).trans rfl, (arrCo (o := 9) BK421.out rfl rfl rfl rfl rfl rfl ((rd_T27 l1 x28_2).f1) (of_eq_true pd57) (of_eq_true qd57)).trans (congrArg (fun z_ => some (Value.bool z_)) Nbq46.out.symm)⟩ (fun hHeld => ?_)
         clear hK K
         refine norm_ (a' := ?_) ?_ ?_
         rotate_left
         · show Act.put _ (some 12) _ = _
           simp only [Act.put, zS, zZ, zC, i64_w, i32_w]
           rfl
         refine pu_ 8 13 (dm_ 27 511) ?_
         refine pu_ 9 14 (dm_ 27 1023) ?_
         refine pu_ 10 15 (dm_ 27 2047) ?_
         refine pu_ 11 16 (dm_ 27 4095) ?_
         refine pu_ 13 18 (dm_ 27 12287) ?_
         refine pu_ 14 19 (dm_ 27 28671) ?_
         refine tk_ hHeld 12 17 (dm_ 27 32767) ?_
         refine pu_ 15 20 (dm_ 27 65535) ?_
         refine tk_ hHeld 16 21 (dm_ 27 131071) ?_
         refine pu_ 17 22 (dm_ 27 262143) ?_
         refine pu_ 18 23 (dm_ 27 524287) ?_
         refine pz_ 19 24 (dm_ 27 1048575) ?_
         refine pz_ 20 25 (dm_ 27 2097151) ?_
         refine pz_ 21 26 (dm_ 27 4194303) ?_
         refine pz_ 22 27 (dm_ 27 8388607) ?_
         refine pz_ 23 28 (dm_ 27 16777215) ?_
         refine pz_ 24 29 (dm_ 27 33554431) ?_
         refine pz_ 25 30 (dm_ 27 67108863) ?_
         refine pu_ 26 31 (dm_ 27 134217727) ?_
         refine done_ (by kernel_rfl) ?_
         have tk58 : True := trivial
         try go_wp2_with (first | (clear tk58; (first | go_ret | go_ret2 | go_ret3 | go_end0); with_reducible refine inl_back_ ?_))
         go_meet
         case rel => exact ⟨_, (false), (x422000_2), (x422001_2), (x422002_2), (x422003_2), (x422004_2), (x422005_2), (x422006_2), (x422009_2), (x422010_2), (x422011_2), (x422012_2), (x422013_2), (x422014_2), (x422015_2), (x422016_2), (u422015), (u422016), (by first | rfl | (simp; done) | (simp [*]; done) | (simp; grind)), H', ⟨by have := HJ8.out; have := HK2.out; first | omega | exact Nat.le_refl _⟩, ⟨by (with_reducible repeat (first | apply Kd.R_alloc | apply Kd.R_drewN | apply Kd.R_drew)); exact HO_422007.out⟩, ⟨by (with_reducible repeat (first | apply Kd.R_alloc | apply Kd.R_drewN | apply Kd.R_drew)); exact HO_422008.out⟩, ⟨by (with_reducible repeat (first | apply Kd.R_alloc | apply Kd.R_drewN | apply Kd.R_drew)); exact HO_422015.out⟩, ⟨by (with_reducible repeat (first | apply Kd.R_alloc | apply Kd.R_drewN | apply Kd.R_drew)); exact HO_422016.out⟩, ⟨blf_⟩, ⟨blf_⟩, ⟨blf_⟩, ⟨blf_⟩, ⟨bel_⟩⟩
       replace c47 := Bool.eq_false_iff.mpr c47
       subst c47
       have H1 : ((round_Round_to.f x422000_2 x422001_2 x422002_2 x422003_2 x422004_2 x422005_2 x422006_2 t415 t418 x422009_2 x422010_2 x422011_2 x422012_2 x422013_2 x422014_2 x422015_2 x422016_2 ((rd_T27 l1 x28_2).f1)).bind fun bt432 => ((msg_Answers.f bt432.1 bt432.2.1 bt432.2.2.1 bt432.2.2.2.1 bt432.2.2.2.2.1 bt432.2.2.2.2.2.1 bt432.2.2.2.2.2.2.1 bt432.2.2.2.2.2.2.2.1 bt432.2.2.2.2.2.2.2.2 ((rd_T27 l1 x28_2).f0) ((rd_T27 l1 x28_2).f1) ((rd_T27 l1 x28_2).f2) ((rd_T27 l1 x28_2).f3) ((rd_T27 l1 x28_2).f4) ((rd_T27 l1 x28_2).f5.f0) ((rd_T27 l1 x28_2).f5.f1) ((rd_T27 l1 x28_2).f6) ((rd_T27 l1 x28_2).f7)).bind fun t445 => (if t445 = true then ((cells_Merge.f k2 x422015_2 ((rd_T27 l1 x28_2).f6)).bind fun t446 => ((book_Merge.f k2 x422016_2 ((rd_T27 l1 x28_2).f7)).bind fun t449 => (ropewaylaw14_RoundStays.j2 k2 x6_2 x7_2 true l1 (l1.length : Int) x28_2 a0_0 a0_1 a0_2 a0_3 a0_4 a0_5 a0_6 l0_7 l0_8 x422000_2 x422001_2 x422002_2 x422003_2 x422004_2 x422005_2 x422006_2 t415 t418 (stA ((rd_T27 l1 x28_2).f1) 0 true x422009_2) (stA ((rd_T27 l1 x28_2).f1) 1 true x422010_2) (stA ((rd_T27 l1 x28_2).f1) 2 true x422011_2) (stA ((rd_T27 l1 x28_2).f1) 3 true x422012_2) (stA ((rd_T27 l1 x28_2).f1) 4 true x422013_2) (stA ((rd_T27 l1 x28_2).f1) 5 true x422014_2) t446 t449 ((rd_T27 l1 x28_2).f0) ((rd_T27 l1 x28_2).f1) ((rd_T27 l1 x28_2).f2) ((rd_T27 l1 x28_2).f3) ((rd_T27 l1 x28_2).f4) ((rd_T27 l1 x28_2).f5.f0) ((rd_T27 l1 x28_2).f5.f1) ((rd_T27 l1 x28_2).f6) ((rd_T27 l1 x28_2).f7)))) else (ropewaylaw14_RoundStays.j2 k2 x6_2 x7_2 false l1 (l1.length : Int) x28_2 a0_0 a0_1 a0_2 a0_3 a0_4 a0_5 a0_6 l0_7 l0_8 x422000_2 x422001_2 x422002_2 x422003_2 x422004_2 x422005_2 x422006_2 t415 t418 x422009_2 x422010_2 x422011_2 x422012_2 x422013_2 x422014_2 x422015_2 x422016_2 ((rd_T27 l1 x28_2).f0) ((rd_T27 l1 x28_2).f1) ((rd_T27 l1 x28_2).f2) ((rd_T27 l1 x28_2).f3) ((rd_T27 l1 x28_2).f4) ((rd_T27 l1 x28_2).f5.f0) ((rd_T27 l1 x28_2).f5.f1) ((rd_T27 l1 x28_2).f6) ((rd_T27 l1 x28_2).f7))))) = some r := by rw [if_neg (show ¬ (false = true) by decide)] at H; exact H
       clear H
       have H := H1
       clear H1
       replace H := Option.bind_eq_some_iff.mp H
       obtain ⟨⟨t432, t433, t434, t435, t436, t437, t438, t439, t442⟩, A590, H⟩ := H
       replace H : ((msg_Answers.f t432 t433 t434 t435 t436 t437 t438 t439 t442 ((rd_T27 l1 x28_2).f0) ((rd_T27 l1 x28_2).f1) ((rd_T27 l1 x28_2).f2) ((rd_T27 l1 x28_2).f3) ((rd_T27 l1 x28_2).f4) ((rd_T27 l1 x28_2).f5.f0) ((rd_T27 l1 x28_2).f5.f1) ((rd_T27 l1 x28_2).f6) ((rd_T27 l1 x28_2).f7)).bind fun t445 => (if t445 = true then ((cells_Merge.f k2 x422015_2 ((rd_T27 l1 x28_2).f6)).bind fun t446 => ((book_Merge.f k2 x422016_2 ((rd_T27 l1 x28_2).f7)).bind fun t449 => (ropewaylaw14_RoundStays.j2 k2 x6_2 x7_2 true l1 (l1.length : Int) x28_2 a0_0 a0_1 a0_2 a0_3 a0_4 a0_5 a0_6 l0_7 l0_8 x422000_2 x422001_2 x422002_2 x422003_2 x422004_2 x422005_2 x422006_2 t415 t418 (stA ((rd_T27 l1 x28_2).f1) 0 true x422009_2) (stA ((rd_T27 l1 x28_2).f1) 1 true x422010_2) (stA ((rd_T27 l1 x28_2).f1) 2 true x422011_2) (stA ((rd_T27 l1 x28_2).f1) 3 true x422012_2) (stA ((rd_T27 l1 x28_2).f1) 4 true x422013_2) (stA ((rd_T27 l1 x28_2).f1) 5 true x422014_2) t446 t449 ((rd_T27 l1 x28_2).f0) ((rd_T27 l1 x28_2).f1) ((rd_T27 l1 x28_2).f2) ((rd_T27 l1 x28_2).f3) ((rd_T27 l1 x28_2).f4) ((rd_T27 l1 x28_2).f5.f0) ((rd_T27 l1 x28_2).f5.f1) ((rd_T27 l1 x28_2).f6) ((rd_T27 l1 x28_2).f7)))) else (ropewaylaw14_RoundStays.j2 k2 x6_2 x7_2 false l1 (l1.length : Int) x28_2 a0_0 a0_1 a0_2 a0_3 a0_4 a0_5 a0_6 l0_7 l0_8 x422000_2 x422001_2 x422002_2 x422003_2 x422004_2 x422005_2 x422006_2 t415 t418 x422009_2 x422010_2 x422011_2 x422012_2 x422013_2 x422014_2 x422015_2 x422016_2 ((rd_T27 l1 x28_2).f0) ((rd_T27 l1 x28_2).f1) ((rd_T27 l1 x28_2).f2) ((rd_T27 l1 x28_2).f3) ((rd_T27 l1 x28_2).f4) ((rd_T27 l1 x28_2).f5.f0) ((rd_T27 l1 x28_2).f5.f1) ((rd_T27 l1 x28_2).f6) ((rd_T27 l1 x28_2).f7)))) = some r := H
       have A59 := zM A590
       clear A590
       replace H := Option.bind_eq_some_iff.mp H
       obtain ⟨t445, A600, H⟩ := H
       replace H : (if t445 = true then ((cells_Merge.f k2 x422015_2 ((rd_T27 l1 x28_2).f6)).bind fun t446 => ((book_Merge.f k2 x422016_2 ((rd_T27 l1 x28_2).f7)).bind fun t449 => (ropewaylaw14_RoundStays.j2 k2 x6_2 x7_2 true l1 (l1.length : Int) x28_2 a0_0 a0_1 a0_2 a0_3 a0_4 a0_5 a0_6 l0_7 l0_8 x422000_2 x422001_2 x422002_2 x422003_2 x422004_2 x422005_2 x422006_2 t415 t418 (stA ((rd_T27 l1 x28_2).f1) 0 true x422009_2) (stA ((rd_T27 l1 x28_2).f1) 1 true x422010_2) (stA ((rd_T27 l1 x28_2).f1) 2 true x422011_2) (stA ((rd_T27 l1 x28_2).f1) 3 true x422012_2) (stA ((rd_T27 l1 x28_2).f1) 4 true x422013_2) (stA ((rd_T27 l1 x28_2).f1) 5 true x422014_2) t446 t449 ((rd_T27 l1 x28_2).f0) ((rd_T27 l1 x28_2).f1) ((rd_T27 l1 x28_2).f2) ((rd_T27 l1 x28_2).f3) ((rd_T27 l1 x28_2).f4) ((rd_T27 l1 x28_2).f5.f0) ((rd_T27 l1 x28_2).f5.f1) ((rd_T27 l1 x28_2).f6) ((rd_T27 l1 x28_2).f7)))) else (ropewaylaw14_RoundStays.j2 k2 x6_2 x7_2 false l1 (l1.length : Int) x28_2 a0_0 a0_1 a0_2 a0_3 a0_4 a0_5 a0_6 l0_7 l0_8 x422000_2 x422001_2 x422002_2 x422003_2 x422004_2 x422005_2 x422006_2 t415 t418 x422009_2 x422010_2 x422011_2 x422012_2 x422013_2 x422014_2 x422015_2 x422016_2 ((rd_T27 l1 x28_2).f0) ((rd_T27 l1 x28_2).f1) ((rd_T27 l1 x28_2).f2) ((rd_T27 l1 x28_2).f3) ((rd_T27 l1 x28_2).f4) ((rd_T27 l1 x28_2).f5.f0) ((rd_T27 l1 x28_2).f5.f1) ((rd_T27 l1 x28_2).f6) ((rd_T27 l1 x28_2).f7))) = some r := H
       have A60 := zM A600
       clear A600
       by_cases c61 : t445 = true
       rotate_left
       · replace c61 := Bool.eq_false_iff.mpr c61
         subst c61
         have H1 : (ropewaylaw14_RoundStays.j2 k2 x6_2 x7_2 false l1 (l1.length : Int) x28_2 a0_0 a0_1 a0_2 a0_3 a0_4 a0_5 a0_6 l0_7 l0_8 x422000_2 x422001_2 x422002_2 x422003_2 x422004_2 x422005_2 x422006_2 t415 t418 x422009_2 x422010_2 x422011_2 x422012_2 x422013_2 x422014_2 x422015_2 x422016_2 ((rd_T27 l1 x28_2).f0) ((rd_T27 l1 x28_2).f1) ((rd_T27 l1 x28_2).f2) ((rd_T27 l1 x28_2).f3) ((rd_T27 l1 x28_2).f4) ((rd_T27 l1 x28_2).f5.f0) ((rd_T27 l1 x28_2).f5.f1) ((rd_T27 l1 x28_2).f6) ((rd_T27 l1 x28_2).f7)) = some r := by rw [if_neg (show ¬ (false = true) by decide)] at H; exact H
         clear H
         have H := H1
         clear H1
         have H' := zM H
         clear H
         have hnb94 := NB429_404.out
         have hnc94 := NB404_429.out
         have hnb95 := NB429_407.out
         have hnc95 := NB407_429.out
         have hnb96 := NB429_421.out
         have hnc96 := NB421_429.out
         obtain ⟨hcz97_0, hcz97_1, hcz97_2, hcz97_3, hcz97_4, hcz97_5, hcz97_6, hcz97_7, hcz97_8⟩ := r9_ BK429.out
         obtain ⟨hfz97_0, hfz97_1, hfz97_2, hfz97_3, hfz97_4, hfz97_5, hfz97_6, hfz97_7, hfz97_8⟩ := f9_ BK429.out
         have tk98 : True := trivial
         have tk100 : True := trivial
         try go_wp2_with (first | ((with_reducible refine gate_callee (f := 12) rfl ?_); clear tk98; refine goL_ (some 34) Try.func12 #[.pointer (some ⟨gb421, 0, none⟩), .agg #[.int .i64 ((rd_T27 l1 x28_2).f0), .int .i64 ((rd_T27 l1 x28_2).f1), .int .i64 ((rd_T27 l1 x28_2).f2), .int .i64 ((rd_T27 l1 x28_2).f3), .int .i64 ((rd_T27 l1 x28_2).f4), .int .i64 ((rd_T27 l1 x28_2).f5.f0), .int .i64 ((rd_T27 l1 x28_2).f5.f1), .slice A428_7 ((rd_T27 l1 x28_2).f6).length c428_7, .slice A428_8 ((rd_T27 l1 x28_2).f7).length c428_8]] ?_; go_enter Try.func12, Try.ntmps12) | ((with_reducible refine gate_dst (N := 3) rfl ?_); clear tk100; (try (refine gate_guard (by rfl) ?_; dsimp only)); refine box_event ?hg (N := 3) ?hd (cs := #[.int .i64 ((rd_T27 l1 x28_2).f0), .int .i64 ((rd_T27 l1 x28_2).f1), .int .i64 ((rd_T27 l1 x28_2).f2), .int .i64 ((rd_T27 l1 x28_2).f3), .int .i64 ((rd_T27 l1 x28_2).f4), .int .i64 ((rd_T27 l1 x28_2).f5.f0), .int .i64 ((rd_T27 l1 x28_2).f5.f1), .slice A428_7 ((rd_T27 l1 x28_2).f6).length c428_7, .slice A428_8 ((rd_T27 l1 x28_2).f7).length c428_8]) (t := 27) ?hr ?_; (case hd => rfl); (case hg => rfl); (case hr => first | (go_simp; done) | (go_simp; rfl)); intro gb430 hg w99 hbox hb; replace HO_422007 := zM (Kd.R_below (rl_ HO_422007) hb); replace HO_422008 := zM (Kd.R_below (rl_ HO_422008) hb); replace HO_422015 := zM (Kd.R_below (rl_ HO_422015) hb); replace HO_422016 := zM (Kd.R_below (rl_ HO_422016) hb); have BK430 := zM (hbox); have GW430 := zM (bs_ hg); have GE430 := zM (bs_ hg); replace HB := zM (zB bel_ hb); have NB404_430 := zM (nl_ BK404 hg); have NB430_404 := zM (ng_ BK404 hg); replace BK404 := zM (bb_ BK404 hb); have NB407_430 := zM (nl_ BK407 hg); have NB430_407 := zM (ng_ BK407 hg); replace BK407 := zM (bb_ BK407 hb); have NB421_430 := zM (nl_ BK421 hg); have NB430_421 := zM (ng_ BK421 hg); replace BK421 := zM (bb_ BK421 hb); have NB429_430 := zM (nl_ BK429 hg); have NB430_429 := zM (ng_ BK429 hg); replace BK429 := zM (bb_ BK429 hb); clear hb hbox hg))
         replace HO_422007 := zM (Kd.R_drew HO_422007.out)
         replace HO_422008 := zM (Kd.R_drew HO_422008.out)
         replace HO_422015 := zM (Kd.R_drew HO_422015.out)
         replace HO_422016 := zM (Kd.R_drew HO_422016.out)
         replace BK404 := zM (zD BK404.out)
         replace BK407 := zM (zD BK407.out)
         replace BK421 := zM (zD BK421.out)
         replace BK429 := zM (zD BK429.out)
         replace BK430 := zM (zD BK430.out)
         replace HB := zM (below_drew1 HB.out)
         have pd103 : 0 ≤ (((rd_T27 l1 x28_2).f1) : Int) := (of_decide_eq_true (by first | (with_reducible assumption) | assumption))
         have qd103 : (((rd_T27 l1 x28_2).f1) : Int) < 6 := (of_decide_eq_true (by first | (with_reducible assumption) | assumption))
         replace pd103 := eq_true pd103
         replace qd103 := eq_true qd103
         refine start_ (n := 27) (S := fun w' => w'.cell? ⟨gb421, 0, none⟩ = some (.int .i64 x422000_2) ∧ w'.cell? ⟨gb421, 1, none⟩ = some (.int .i64 x422001_2) ∧ w'.cell? ⟨gb421, 2, none⟩ = some (.int .i64 x422002_2) ∧ w'.cell? ⟨gb421, 3, none⟩ = some (.int .i64 x422003_2) ∧ w'.cell? ⟨gb421, 4, none⟩ = some (.int .i64 x422004_2) ∧ w'.cell? ⟨gb421, 5, none⟩ = some (.int .i64 x422005_2) ∧ w'.cell? ⟨gb421, 6, none⟩ = some (.int .i64 x422006_2) ∧ w'.cell? ⟨gb421, 7, none⟩ = some (.slice Ao26 t415.length co26) ∧ w'.cell? ⟨gb421, 8, none⟩ = some (.slice Ao25 t418.length co25) ∧ w'.cell? ⟨gb421, 9, none⟩ = some (.bool x422009_2) ∧ w'.cell? ⟨gb421, 10, none⟩ = some (.bool x422010_2) ∧ w'.cell? ⟨gb421, 11, none⟩ = some (.bool x422011_2) ∧ w'.cell? ⟨gb421, 12, none⟩ = some (.bool x422012_2) ∧ w'.cell? ⟨gb421, 13, none⟩ = some (.bool x422013_2) ∧ w'.cell? ⟨gb421, 14, none⟩ = some (.bool x422014_2) ∧ w'.cell? ⟨gb421, 15, none⟩ = some (u422015) ∧ w'.cell? ⟨gb421, 16, none⟩ = some (u422016) ∧ w'.cell? ⟨gb430, 0, none⟩ = some (.int .i64 ((rd_T27 l1 x28_2).f0)) ∧ w'.cell? ⟨gb430, 1, none⟩ = some (.int .i64 ((rd_T27 l1 x28_2).f1)) ∧ w'.cell? ⟨gb430, 2, none⟩ = some (.int .i64 ((rd_T27 l1 x28_2).f2)) ∧ w'.cell? ⟨gb430, 3, none⟩ = some (.int .i64 ((rd_T27 l1 x28_2).f3)) ∧ w'.cell? ⟨gb430, 4, none⟩ = some (.int .i64 ((rd_T27 l1 x28_2).f4)) ∧ w'.cell? ⟨gb430, 5, none⟩ = some (.int .i64 ((rd_T27 l1 x28_2).f5.f0)) ∧ w'.cell? ⟨gb430, 6, none⟩ = some (.int .i64 ((rd_T27 l1 x28_2).f5.f1)) ∧ w'.cell? ⟨gb430, 7, none⟩ = some (.slice A428_7 ((rd_T27 l1 x28_2).f6).length c428_7) ∧ w'.cell? ⟨gb430, 8, none⟩ = some (.slice A428_8 ((rd_T27 l1 x28_2).f7).length c428_8) ∧ w'.cell? ⟨gb421, 9 + (((rd_T27 l1 x28_2).f1) : Int).toNat, none⟩ = some (.bool (false))) (ds := []) #[F_, F_, F_, F_, F_, F_, F_, F_, F_, F_, F_, F_, F_, F_, F_, F_, F_, F_, F_, F_, F_, F_, F_, F_, F_, F_, F_] (by kernel_rfl) rfl rfl ⟨(zL BK421.out 0).trans rfl, (zL BK421.out 1).trans rfl, (zL BK421.out 2).trans rfl, (zL BK421.out 3).trans rfl, (zL BK421.out 4).trans rfl, (zL BK421.out 5).trans rfl, (zL BK421.out 6).trans rfl, (zL BK421.out 7).trans rfl, (zL BK421.out 8).trans rfl, (zL BK421.out 9).trans rfl, (zL BK421.out 10).trans rfl, (zL BK421.out 11).trans rfl, (zL BK421.out 12).trans rfl, (zL BK421.out 13).trans rfl, (zL BK421.out 14).trans rfl, (zL BK421.out 15).trans rfl, (zL BK421.out 16).trans rfl, (zL BK430.out 0).trans rfl, (zL BK430.out 1).trans rfl, (zL BK430.out 2).trans rfl, (zL BK430.out 3).trans rfl, (zL BK430.out 4).trans rfl, (zL BK430.out 5).trans rfl, (zL BK430.out 6).trans rfl, (zL BK430.out 7).trans rfl, (zL BK430.out 8).trans rfl, (arrCo (o := 9) BK421.out rfl rfl rfl rfl rfl rfl ((rd_T27 l1 x28_2).f1) (of_eq_true pd103) (of_eq_true qd103)).trans (congrArg (fun z_ => some (Value.bool z_)) Nbq46.out.symm)⟩ (fun hHeld => ?_)
         generalize w99.drew = w101 at HO_422007 HO_422008 HO_422015 HO_422016 BK404 BK407 BK421 BK429 BK430 HB hHeld ⊢
         refine pu_ 0 5 (dm_ 27 1) ?_
         refine pu_ 1 6 (dm_ 27 3) ?_
         refine pu_ 2 7 (dm_ 27 7) ?_
         refine pu_ 3 8 (dm_ 27 15) ?_
         refine pu_ 5 10 (dm_ 27 47) ?_
         refine tk_ hHeld 4 9 (dm_ 27 63) ?_
         refine tk_ hHeld 6 11 (dm_ 27 127) ?_
         refine one_ (i := 7) (N := some 12) (dm_ 27 255) rfl rfl (by kernel_rfl) (by decide) (fun K hK => ?_)
         refine goes_ Try.func37 (by kernel_rfl) rfl #[.agg #[.int .i64 x422005_2, .int .i64 x422006_2], .int .i64 ((rd_T27 l1 x28_2).f1)] (by rfl) rfl rfl (by (try simp only [List.map_toArray, List.map_cons, List.map_nil]); first | done | rfl | (simp only [List.length_drop, List.length_take]; rfl)) ?_
         with_reducible refine (view_In.calls x422005_2 x422006_2 ((rd_T27 l1 x28_2).f1) true _ A42.out).mono ?_
         rintro e w102 ⟨rfl, hb⟩
         refine ⟨_, rfl, ?_⟩
         replace HO_422007 := zM (Kd.R_below (rl_ HO_422007) hb)
         replace HO_422008 := zM (Kd.R_below (rl_ HO_422008) hb)
         replace HO_422015 := zM (Kd.R_below (rl_ HO_422015) hb)
         replace HO_422016 := zM (Kd.R_below (rl_ HO_422016) hb)
         replace BK404 := zM (bb_ BK404 hb)
         replace BK407 := zM (bb_ BK407 hb)
         replace BK421 := zM (bb_ BK421 hb)
         replace BK429 := zM (bb_ BK429 hb)
         replace BK430 := zM (bb_ BK430 hb)
         replace HB := zM (zB bel_ hb)
         (try clear hb)
         (try clear hb2)
         (try clear hk)
         (try clear hi)
         obtain ⟨Ao104, co104, eo104⟩ := Kd.R_slice HO_422015.out
         (first | subst eo104 | (injection eo104 with f1_ f2_ f3_; have f4_ := f1_.symm; have f5_ := f3_.symm; clear f1_ f2_ f3_; subst f4_; subst f5_))
         obtain ⟨Ao105, co105, eo105⟩ := Kd.R_slice HO_422016.out
         (first | subst eo105 | (injection eo105 with f1_ f2_ f3_; have f4_ := f1_.symm; have f5_ := f3_.symm; clear f1_ f2_ f3_; subst f4_; subst f5_))
         refine hK.out _ _ ⟨(zL BK421.out 0).trans rfl, (zL BK421.out 1).trans rfl, (zL BK421.out 2).trans rfl, (zL BK421.out 3).trans rfl, (zL BK421.out 4).trans rfl, (zL BK421.out 5).trans rfl, (zL BK421.out 6).trans rfl, (zL BK421.out 7).trans rfl, (zL BK421.out 8).trans rfl, (zL BK421.out 9).trans rfl, (zL BK421.out 10).trans rfl, (zL BK421.out 11).trans rfl, (zL BK421.out 12).trans rfl, (zL BK421.out 13).trans rfl, (zL BK421.out 14).trans rfl, (zL BK421.out 15).trans rfl, (zL BK421.out 16).trans rfl, (zL BK430.out 0).trans rfl, (zL BK430.out 1).trans rfl, (zL BK430.out 2).trans rfl, (zL BK430.out 3).trans rfl, (zL BK430.out 4).trans rfl, (zL BK430.out 5).trans rfl, (zL BK430.out 6).trans rfl, (zL BK430.out 7).trans rfl, (zL BK430.out 8).trans rfl, (arrCo (o := 9) BK421.out rfl rfl rfl rfl rfl rfl ((rd_T27 l1 x28_2).f1) (of_eq_true pd103) (of_eq_true qd103)).trans (congrArg (fun z_ => some (Value.bool z_)) Nbq46.out.symm)⟩ (fun hHeld => ?_)
         clear hK K
         refine norm_ (a' := ?_) ?_ ?_
         rotate_left
         · show Act.put _ (some 12) _ = _
           simp only [Act.put, zS, zZ, zC, i64_w, i32_w]
           rfl
         refine pu_ 8 13 (dm_ 27 511) ?_
         refine pu_ 9 14 (dm_ 27 1023) ?_
         refine pu_ 10 15 (dm_ 27 2047) ?_
         refine pu_ 11 16 (dm_ 27 4095) ?_
         refine pu_ 13 18 (dm_ 27 12287) ?_
         refine pu_ 14 19 (dm_ 27 28671) ?_
         refine tk_ hHeld 12 17 (dm_ 27 32767) ?_
         refine pu_ 15 20 (dm_ 27 65535) ?_
         refine tk_ hHeld 16 21 (dm_ 27 131071) ?_
         refine pu_ 17 22 (dm_ 27 262143) ?_
         refine pu_ 18 23 (dm_ 27 524287) ?_
         refine pu_ 19 24 (dm_ 27 1048575) ?_
         refine pu_ 20 25 (dm_ 27 2097151) ?_
         refine tk_ hHeld 21 26 (dm_ 27 4194303) ?_
         refine tk_ hHeld 23 28 (dm_ 27 12582911) ?_
         refine one_ (i := 22) (N := some 27) (dm_ 27 16777215) rfl rfl (by kernel_rfl) (by decide) (fun K hK => ?_)
         refine goes_ Try.func41 (by kernel_rfl) rfl #[.pointer (some ⟨gb421, 0, none⟩), .int .i64 ((rd_T27 l1 x28_2).f1)] (by rfl) rfl rfl (by (try simp only [List.map_toArray, List.map_cons, List.map_nil]); first | done | rfl | (simp only [List.length_drop, List.length_take]; rfl)) ?_
         with_reducible refine (round_Round_to.calls gb421 x422000_2 x422001_2 x422002_2 x422003_2 x422004_2 x422005_2 x422006_2 Ao26 co26 t415 Ao25 co25 t418 x422009_2 x422010_2 x422011_2 x422012_2 x422013_2 x422014_2 Ao104 co104 x422015_2 Ao105 co105 x422016_2 ((rd_T27 l1 x28_2).f1) t432 t433 t434 t435 t436 t437 t438 t439 t442 _ ?side1 ?side2 ?side3 ?side4 ?side5 ?side6 ?side7 ?side8 ?side9 A59.out).mono ?_
         (case side1 => repeat (first | exact (Kd.R_reads' HO_422007.out).2.2 | (with_reducible refine Kd.C_alloc ?_ _) | (with_reducible refine Kd.C_drewN ?_ _) | (with_reducible refine Kd.C_drew ?_)))
         (case side2 => exact (Kd.R_reads' HO_422007.out).2.1)
         (case side3 => repeat (first | exact (Kd.R_reads' HO_422008.out).2.2 | (with_reducible refine Kd.C_alloc ?_ _) | (with_reducible refine Kd.C_drewN ?_ _) | (with_reducible refine Kd.C_drew ?_)))
         (case side4 => exact (Kd.R_reads' HO_422008.out).2.1)
         (case side5 => repeat (first | exact (Kd.R_reads' HO_422015.out).2.2 | (with_reducible refine Kd.C_alloc ?_ _) | (with_reducible refine Kd.C_drewN ?_ _) | (with_reducible refine Kd.C_drew ?_)))
         (case side6 => exact (Kd.R_reads' HO_422015.out).2.1)
         (case side7 => repeat (first | exact (Kd.R_reads' HO_422016.out).2.2 | (with_reducible refine Kd.C_alloc ?_ _) | (with_reducible refine Kd.C_drewN ?_ _) | (with_reducible refine Kd.C_drew ?_)))
         (case side8 => exact (Kd.R_reads' HO_422016.out).2.1)
         (case side9 => exact blf_)
         rintro e w106 ⟨v440, v443, rfl, ho0, ho1, hb⟩
         refine ⟨_, rfl, ?_⟩
         have HO441 := zM (Kd.R_lower (Kd.R_new' (Kd.R_new' ho0 (Kd.R_lt (rl_ HO_422007))) (Kd.R_lt (rl_ HO_422015))) (below_size bel_))
         replace HO_422007 := zM (Kd.R_elder' (rl_ HO_422007) (Kd.R_base ho0) hb)
         replace HO_422015 := zM (Kd.R_elder' (rl_ HO_422015) (Kd.R_base ho0) hb)
         have HO444 := zM (Kd.R_lower (Kd.R_new' (Kd.R_new' ho1 (Kd.R_lt (rl_ HO_422008))) (Kd.R_lt (rl_ HO_422016))) (below_size bel_))
         replace HO_422008 := zM (Kd.R_elder' (rl_ HO_422008) (Kd.R_base ho1) hb)
         replace HO_422016 := zM (Kd.R_elder' (rl_ HO_422016) (Kd.R_base ho1) hb)
         replace BK404 := zM (bb_ BK404 hb)
         replace BK407 := zM (bb_ BK407 hb)
         replace BK421 := zM (bb_ BK421 hb)
         replace BK429 := zM (bb_ BK429 hb)
         replace BK430 := zM (bb_ BK430 hb)
         replace HB := zM (zB bel_ hb)
         (try clear hb)
         (try clear hb2)
         (try clear hk)
         (try clear hi)
         (try clear ho0)
         (try clear ho1)
         obtain ⟨Ao107, co107, eo107⟩ := Kd.R_slice HO441.out
         (first | subst eo107 | (injection eo107 with f1_ f2_ f3_; have f4_ := f1_.symm; have f5_ := f3_.symm; clear f1_ f2_ f3_; subst f4_; subst f5_))
         obtain ⟨Ao108, co108, eo108⟩ := Kd.R_slice HO444.out
         (first | subst eo108 | (injection eo108 with f1_ f2_ f3_; have f4_ := f1_.symm; have f5_ := f3_.symm; clear f1_ f2_ f3_; subst f4_; subst f5_))
         refine hK.out _ _ ⟨(zL BK421.out 0).trans rfl, (zL BK421.out 1).trans rfl, (zL BK421.out 2).trans rfl, (zL BK421.out 3).trans rfl, (zL BK421.out 4).trans rfl, (zL BK421.out 5).trans rfl, (zL BK421.out 6).trans rfl, (zL BK421.out 7).trans rfl, (zL BK421.out 8).trans rfl, (zL BK421.out 9).trans rfl, (zL BK421.out 10).trans rfl, (zL BK421.out 11).trans rfl, (zL BK421.out 12).trans rfl, (zL BK421.out 13).trans rfl, (zL BK421.out 14).trans rfl, (zL BK421.out 15).trans rfl, (zL BK421.out 16).trans rfl, (zL BK430.out 0).trans rfl, (zL BK430.out 1).trans rfl, (zL BK430.out 2).trans rfl, (zL BK430.out 3).trans rfl, (zL BK430.out 4).trans rfl, (zL BK430.out 5).trans rfl, (zL BK430.out 6).trans rfl, (zL BK430.out 7).trans rfl, (zL BK430.out 8).trans rfl, (arrCo (o := 9) BK421.out rfl rfl rfl rfl rfl rfl ((rd_T27 l1 x28_2).f1) (of_eq_true pd103) (of_eq_true qd103)).trans (congrArg (fun z_ => some (Value.bool z_)) Nbq46.out.symm)⟩ (fun hHeld => ?_)
         clear hK K
         refine norm_ (a' := ?_) ?_ ?_
         rotate_left
         · show Act.put _ (some 27) _ = _
           simp only [Act.put, zS, zZ, zC, i64_w, i32_w]
           rfl
         refine one_ (i := 24) (N := some 29) (dm_ 27 33554431) rfl rfl (by kernel_rfl) (by decide) (fun K hK => ?_)
         refine goes_ Try.func40 (by kernel_rfl) rfl #[.agg #[.int .i64 t432, .int .i64 t433, .int .i64 t434, .int .i64 t435, .int .i64 t436, .int .i64 t437, .int .i64 t438, .slice Ao107 t439.length co107, .slice Ao108 t442.length co108], .agg #[.int .i64 ((rd_T27 l1 x28_2).f0), .int .i64 ((rd_T27 l1 x28_2).f1), .int .i64 ((rd_T27 l1 x28_2).f2), .int .i64 ((rd_T27 l1 x28_2).f3), .int .i64 ((rd_T27 l1 x28_2).f4), .int .i64 ((rd_T27 l1 x28_2).f5.f0), .int .i64 ((rd_T27 l1 x28_2).f5.f1), .slice A428_7 ((rd_T27 l1 x28_2).f6).length c428_7, .slice A428_8 ((rd_T27 l1 x28_2).f7).length c428_8]] (by rfl) rfl rfl (by (try simp only [List.map_toArray, List.map_cons, List.map_nil]); first | done | rfl | (simp only [List.length_drop, List.length_take]; rfl)) ?_
         with_reducible refine (msg_Answers.calls t432 t433 t434 t435 t436 t437 t438 _ _ t439 _ _ t442 ((rd_T27 l1 x28_2).f0) ((rd_T27 l1 x28_2).f1) ((rd_T27 l1 x28_2).f2) ((rd_T27 l1 x28_2).f3) ((rd_T27 l1 x28_2).f4) ((rd_T27 l1 x28_2).f5.f0) ((rd_T27 l1 x28_2).f5.f1) _ _ ((rd_T27 l1 x28_2).f6) _ _ ((rd_T27 l1 x28_2).f7) false _ ?side1 ?side2 ?side3 ?side4 ?side5 ?side6 ?side7 ?side8 A60.out).mono ?_
         (case side1 => repeat (first | exact (Kd.R_reads' HO441.out).2.2 | (with_reducible refine Kd.C_alloc ?_ _) | (with_reducible refine Kd.C_drewN ?_ _) | (with_reducible refine Kd.C_drew ?_)))
         (case side2 => exact (Kd.R_reads' HO441.out).2.1)
         (case side3 => repeat (first | exact (Kd.R_reads' HO444.out).2.2 | (with_reducible refine Kd.C_alloc ?_ _) | (with_reducible refine Kd.C_drewN ?_ _) | (with_reducible refine Kd.C_drew ?_)))
         (case side4 => exact (Kd.R_reads' HO444.out).2.1)
         (case side5 => repeat (first | exact (Kd.C_below HR428_7.out HB.out) | (with_reducible refine Kd.C_alloc ?_ _) | (with_reducible refine Kd.C_drewN ?_ _) | (with_reducible refine Kd.C_drew ?_)))
         (case side6 => exact HC428_7.out)
         (case side7 => repeat (first | exact (Kd.C_below HR428_8.out HB.out) | (with_reducible refine Kd.C_alloc ?_ _) | (with_reducible refine Kd.C_drewN ?_ _) | (with_reducible refine Kd.C_drew ?_)))
         (case side8 => exact HC428_8.out)
         rintro e w109 ⟨rfl, hb⟩
         refine ⟨_, rfl, ?_⟩
         replace HO_422007 := zM (Kd.R_below (rl_ HO_422007) hb)
         replace HO_422008 := zM (Kd.R_below (rl_ HO_422008) hb)
         replace HO_422015 := zM (Kd.R_below (rl_ HO_422015) hb)
         replace HO_422016 := zM (Kd.R_below (rl_ HO_422016) hb)
         replace HO441 := zM (Kd.R_below (rl_ HO441) hb)
         replace HO444 := zM (Kd.R_below (rl_ HO444) hb)
         replace BK404 := zM (bb_ BK404 hb)
         replace BK407 := zM (bb_ BK407 hb)
         replace BK421 := zM (bb_ BK421 hb)
         replace BK429 := zM (bb_ BK429 hb)
         replace BK430 := zM (bb_ BK430 hb)
         replace HB := zM (zB bel_ hb)
         (try clear hb)
         (try clear hb2)
         (try clear hk)
         (try clear hi)
         refine hK.out _ _ ⟨(zL BK421.out 0).trans rfl, (zL BK421.out 1).trans rfl, (zL BK421.out 2).trans rfl, (zL BK421.out 3).trans rfl, (zL BK421.out 4).trans rfl, (zL BK421.out 5).trans rfl, (zL BK421.out 6).trans rfl, (zL BK421.out 7).trans rfl, (zL BK421.out 8).trans rfl, (zL BK421.out 9).trans rfl, (zL BK421.out 10).trans rfl, (zL BK421.out 11).trans rfl, (zL BK421.out 12).trans rfl, (zL BK421.out 13).trans rfl, (zL BK421.out 14).trans rfl, (zL BK421.out 15).trans rfl, (zL BK421.out 16).trans rfl, (zL BK430.out 0).trans rfl, (zL BK430.out 1).trans rfl, (zL BK430.out 2).trans rfl, (zL BK430.out 3).trans rfl, (zL BK430.out 4).trans rfl, (zL BK430.out 5).trans rfl, (zL BK430.out 6).trans rfl, (zL BK430.out 7).trans rfl, (zL BK430.out 8).trans rfl, (arrCo (o := 9) BK421.out rfl rfl rfl rfl rfl rfl ((rd_T27 l1 x28_2).f1) (of_eq_true pd103) (of_eq_true qd103)).trans (congrArg (fun z_ => some (Value.bool z_)) Nbq46.out.symm)⟩ (fun hHeld => ?_)
         clear hK K
         refine norm_ (a' := ?_) ?_ ?_
         rotate_left
         · show Act.put _ (some 29) _ = _
           simp only [Act.put, zS, zZ, zC, i64_w, i32_w]
           rfl
         refine pu_ 25 30 (dm_ 27 67108863) ?_
         refine pu_ 26 31 (dm_ 27 134217727) ?_
         refine done_ (by kernel_rfl) ?_
         have tk110 : True := trivial
         try go_wp2_with (first | (clear tk110; (first | go_ret | go_ret2 | go_ret3 | go_end0); with_reducible refine inl_back_ ?_))
         go_meet
         case rel => exact ⟨_, (false), (x422000_2), (x422001_2), (x422002_2), (x422003_2), (x422004_2), (x422005_2), (x422006_2), (x422009_2), (x422010_2), (x422011_2), (x422012_2), (x422013_2), (x422014_2), (x422015_2), (x422016_2), (.slice Ao104 x422015_2.length co104), (.slice Ao105 x422016_2.length co105), (by first | rfl | (simp; done) | (simp [*]; done) | (simp; grind)), H', ⟨by have := HJ8.out; have := HK2.out; first | omega | exact Nat.le_refl _⟩, ⟨by (with_reducible repeat (first | apply Kd.R_alloc | apply Kd.R_drewN | apply Kd.R_drew)); exact Kd.R_mono HO_422007.out (fun _ hk => hk.1)⟩, ⟨by (with_reducible repeat (first | apply Kd.R_alloc | apply Kd.R_drewN | apply Kd.R_drew)); exact Kd.R_mono HO_422008.out (fun _ hk => hk.1)⟩, ⟨by (with_reducible repeat (first | apply Kd.R_alloc | apply Kd.R_drewN | apply Kd.R_drew)); exact Kd.R_mono HO_422015.out (fun _ hk => hk.1)⟩, ⟨by (with_reducible repeat (first | apply Kd.R_alloc | apply Kd.R_drewN | apply Kd.R_drew)); exact Kd.R_mono HO_422016.out (fun _ hk => hk.1)⟩, ⟨blf_⟩, ⟨blf_⟩, ⟨blf_⟩, ⟨blf_⟩, ⟨bel_⟩⟩
       subst c61
       have H1 : ((cells_Merge.f k2 x422015_2 ((rd_T27 l1 x28_2).f6)).bind fun t446 => ((book_Merge.f k2 x422016_2 ((rd_T27 l1 x28_2).f7)).bind fun t449 => (ropewaylaw14_RoundStays.j2 k2 x6_2 x7_2 true l1 (l1.length : Int) x28_2 a0_0 a0_1 a0_2 a0_3 a0_4 a0_5 a0_6 l0_7 l0_8 x422000_2 x422001_2 x422002_2 x422003_2 x422004_2 x422005_2 x422006_2 t415 t418 (stA ((rd_T27 l1 x28_2).f1) 0 true x422009_2) (stA ((rd_T27 l1 x28_2).f1) 1 true x422010_2) (stA ((rd_T27 l1 x28_2).f1) 2 true x422011_2) (stA ((rd_T27 l1 x28_2).f1) 3 true x422012_2) (stA ((rd_T27 l1 x28_2).f1) 4 true x422013_2) (stA ((rd_T27 l1 x28_2).f1) 5 true x422014_2) t446 t449 ((rd_T27 l1 x28_2).f0) ((rd_T27 l1 x28_2).f1) ((rd_T27 l1 x28_2).f2) ((rd_T27 l1 x28_2).f3) ((rd_T27 l1 x28_2).f4) ((rd_T27 l1 x28_2).f5.f0) ((rd_T27 l1 x28_2).f5.f1) ((rd_T27 l1 x28_2).f6) ((rd_T27 l1 x28_2).f7)))) = some r := by rw [if_pos rfl] at H; exact H
       clear H
       have H := H1
       clear H1
       replace H := Option.bind_eq_some_iff.mp H
       obtain ⟨t446, A620, H⟩ := H
       replace H : ((book_Merge.f k2 x422016_2 ((rd_T27 l1 x28_2).f7)).bind fun t449 => (ropewaylaw14_RoundStays.j2 k2 x6_2 x7_2 true l1 (l1.length : Int) x28_2 a0_0 a0_1 a0_2 a0_3 a0_4 a0_5 a0_6 l0_7 l0_8 x422000_2 x422001_2 x422002_2 x422003_2 x422004_2 x422005_2 x422006_2 t415 t418 (stA ((rd_T27 l1 x28_2).f1) 0 true x422009_2) (stA ((rd_T27 l1 x28_2).f1) 1 true x422010_2) (stA ((rd_T27 l1 x28_2).f1) 2 true x422011_2) (stA ((rd_T27 l1 x28_2).f1) 3 true x422012_2) (stA ((rd_T27 l1 x28_2).f1) 4 true x422013_2) (stA ((rd_T27 l1 x28_2).f1) 5 true x422014_2) t446 t449 ((rd_T27 l1 x28_2).f0) ((rd_T27 l1 x28_2).f1) ((rd_T27 l1 x28_2).f2) ((rd_T27 l1 x28_2).f3) ((rd_T27 l1 x28_2).f4) ((rd_T27 l1 x28_2).f5.f0) ((rd_T27 l1 x28_2).f5.f1) ((rd_T27 l1 x28_2).f6) ((rd_T27 l1 x28_2).f7))) = some r := H
       have A62 := zM A620
       clear A620
       replace H := Option.bind_eq_some_iff.mp H
       obtain ⟨t449, A630, H⟩ := H
       replace H : (ropewaylaw14_RoundStays.j2 k2 x6_2 x7_2 true l1 (l1.length : Int) x28_2 a0_0 a0_1 a0_2 a0_3 a0_4 a0_5 a0_6 l0_7 l0_8 x422000_2 x422001_2 x422002_2 x422003_2 x422004_2 x422005_2 x422006_2 t415 t418 (stA ((rd_T27 l1 x28_2).f1) 0 true x422009_2) (stA ((rd_T27 l1 x28_2).f1) 1 true x422010_2) (stA ((rd_T27 l1 x28_2).f1) 2 true x422011_2) (stA ((rd_T27 l1 x28_2).f1) 3 true x422012_2) (stA ((rd_T27 l1 x28_2).f1) 4 true x422013_2) (stA ((rd_T27 l1 x28_2).f1) 5 true x422014_2) t446 t449 ((rd_T27 l1 x28_2).f0) ((rd_T27 l1 x28_2).f1) ((rd_T27 l1 x28_2).f2) ((rd_T27 l1 x28_2).f3) ((rd_T27 l1 x28_2).f4) ((rd_T27 l1 x28_2).f5.f0) ((rd_T27 l1 x28_2).f5.f1) ((rd_T27 l1 x28_2).f6) ((rd_T27 l1 x28_2).f7)) = some r := H
       have A63 := zM A630
       clear A630
       have H' := zM H
       clear H
       have hnb64 := NB429_404.out
       have hnc64 := NB404_429.out
       have hnb65 := NB429_407.out
       have hnc65 := NB407_429.out
       have hnb66 := NB429_421.out
       have hnc66 := NB421_429.out
       obtain ⟨hcz67_0, hcz67_1, hcz67_2, hcz67_3, hcz67_4, hcz67_5, hcz67_6, hcz67_7, hcz67_8⟩ := r9_ BK429.out
       obtain ⟨hfz67_0, hfz67_1, hfz67_2, hfz67_3, hfz67_4, hfz67_5, hfz67_6, hfz67_7, hfz67_8⟩ := f9_ BK429.out
       have tk68 : True := trivial
       have tk70 : True := trivial
       try go_wp2_with (first | ((with_reducible refine gate_callee (f := 12) rfl ?_); clear tk68; refine goL_ (some 34) Try.func12 #[.pointer (some ⟨gb421, 0, none⟩), .agg #[.int .i64 ((rd_T27 l1 x28_2).f0), .int .i64 ((rd_T27 l1 x28_2).f1), .int .i64 ((rd_T27 l1 x28_2).f2), .int .i64 ((rd_T27 l1 x28_2).f3), .int .i64 ((rd_T27 l1 x28_2).f4), .int .i64 ((rd_T27 l1 x28_2).f5.f0), .int .i64 ((rd_T27 l1 x28_2).f5.f1), .slice A428_7 ((rd_T27 l1 x28_2).f6).length c428_7, .slice A428_8 ((rd_T27 l1 x28_2).f7).length c428_8]] ?_; go_enter Try.func12, Try.ntmps12) | ((with_reducible refine gate_dst (N := 3) rfl ?_); clear tk70; (try (refine gate_guard (by rfl) ?_; dsimp only)); refine box_event ?hg (N := 3) ?hd (cs := #[.int .i64 ((rd_T27 l1 x28_2).f0), .int .i64 ((rd_T27 l1 x28_2).f1), .int .i64 ((rd_T27 l1 x28_2).f2), .int .i64 ((rd_T27 l1 x28_2).f3), .int .i64 ((rd_T27 l1 x28_2).f4), .int .i64 ((rd_T27 l1 x28_2).f5.f0), .int .i64 ((rd_T27 l1 x28_2).f5.f1), .slice A428_7 ((rd_T27 l1 x28_2).f6).length c428_7, .slice A428_8 ((rd_T27 l1 x28_2).f7).length c428_8]) (t := 27) ?hr ?_; (case hd => rfl); (case hg => rfl); (case hr => first | (go_simp; done) | (go_simp; rfl)); intro gb430 hg w69 hbox hb; replace HO_422007 := zM (Kd.R_below (rl_ HO_422007) hb); replace HO_422008 := zM (Kd.R_below (rl_ HO_422008) hb); replace HO_422015 := zM (Kd.R_below (rl_ HO_422015) hb); replace HO_422016 := zM (Kd.R_below (rl_ HO_422016) hb); have BK430 := zM (hbox); have GW430 := zM (bs_ hg); have GE430 := zM (bs_ hg); replace HB := zM (zB bel_ hb); have NB404_430 := zM (nl_ BK404 hg); have NB430_404 := zM (ng_ BK404 hg); replace BK404 := zM (bb_ BK404 hb); have NB407_430 := zM (nl_ BK407 hg); have NB430_407 := zM (ng_ BK407 hg); replace BK407 := zM (bb_ BK407 hb); have NB421_430 := zM (nl_ BK421 hg); have NB430_421 := zM (ng_ BK421 hg); replace BK421 := zM (bb_ BK421 hb); have NB429_430 := zM (nl_ BK429 hg); have NB430_429 := zM (ng_ BK429 hg); replace BK429 := zM (bb_ BK429 hb); clear hb hbox hg))
       replace HO_422007 := zM (Kd.R_drew HO_422007.out)
       replace HO_422008 := zM (Kd.R_drew HO_422008.out)
       replace HO_422015 := zM (Kd.R_drew HO_422015.out)
       replace HO_422016 := zM (Kd.R_drew HO_422016.out)
       replace BK404 := zM (zD BK404.out)
       replace BK407 := zM (zD BK407.out)
       replace BK421 := zM (zD BK421.out)
       replace BK429 := zM (zD BK429.out)
       replace BK430 := zM (zD BK430.out)
       replace HB := zM (below_drew1 HB.out)
       have pd73 : 0 ≤ (((rd_T27 l1 x28_2).f1) : Int) := (of_decide_eq_true (by first | (with_reducible assumption) | assumption))
       have qd73 : (((rd_T27 l1 x28_2).f1) : Int) < 6 := (of_decide_eq_true (by first | (with_reducible assumption) | assumption))
       replace pd73 := eq_true pd73
       replace qd73 := eq_true qd73
       refine start_ (n := 27) (S := fun w' => w'.cell? ⟨gb421, 0, none⟩ = some (.int .i64 x422000_2) ∧ w'.cell? ⟨gb421, 1, none⟩ = some (.int .i64 x422001_2) ∧ w'.cell? ⟨gb421, 2, none⟩ = some (.int .i64 x422002_2) ∧ w'.cell? ⟨gb421, 3, none⟩ = some (.int .i64 x422003_2) ∧ w'.cell? ⟨gb421, 4, none⟩ = some (.int .i64 x422004_2) ∧ w'.cell? ⟨gb421, 5, none⟩ = some (.int .i64 x422005_2) ∧ w'.cell? ⟨gb421, 6, none⟩ = some (.int .i64 x422006_2) ∧ w'.cell? ⟨gb421, 7, none⟩ = some (.slice Ao26 t415.length co26) ∧ w'.cell? ⟨gb421, 8, none⟩ = some (.slice Ao25 t418.length co25) ∧ w'.cell? ⟨gb421, 9, none⟩ = some (.bool x422009_2) ∧ w'.cell? ⟨gb421, 10, none⟩ = some (.bool x422010_2) ∧ w'.cell? ⟨gb421, 11, none⟩ = some (.bool x422011_2) ∧ w'.cell? ⟨gb421, 12, none⟩ = some (.bool x422012_2) ∧ w'.cell? ⟨gb421, 13, none⟩ = some (.bool x422013_2) ∧ w'.cell? ⟨gb421, 14, none⟩ = some (.bool x422014_2) ∧ w'.cell? ⟨gb421, 15, none⟩ = some (u422015) ∧ w'.cell? ⟨gb421, 16, none⟩ = some (u422016) ∧ w'.cell? ⟨gb430, 0, none⟩ = some (.int .i64 ((rd_T27 l1 x28_2).f0)) ∧ w'.cell? ⟨gb430, 1, none⟩ = some (.int .i64 ((rd_T27 l1 x28_2).f1)) ∧ w'.cell? ⟨gb430, 2, none⟩ = some (.int .i64 ((rd_T27 l1 x28_2).f2)) ∧ w'.cell? ⟨gb430, 3, none⟩ = some (.int .i64 ((rd_T27 l1 x28_2).f3)) ∧ w'.cell? ⟨gb430, 4, none⟩ = some (.int .i64 ((rd_T27 l1 x28_2).f4)) ∧ w'.cell? ⟨gb430, 5, none⟩ = some (.int .i64 ((rd_T27 l1 x28_2).f5.f0)) ∧ w'.cell? ⟨gb430, 6, none⟩ = some (.int .i64 ((rd_T27 l1 x28_2).f5.f1)) ∧ w'.cell? ⟨gb430, 7, none⟩ = some (.slice A428_7 ((rd_T27 l1 x28_2).f6).length c428_7) ∧ w'.cell? ⟨gb430, 8, none⟩ = some (.slice A428_8 ((rd_T27 l1 x28_2).f7).length c428_8) ∧ w'.cell? ⟨gb421, 9 + (((rd_T27 l1 x28_2).f1) : Int).toNat, none⟩ = some (.bool (false))) (ds := []) #[F_, F_, F_, F_, F_, F_, F_, F_, F_, F_, F_, F_, F_, F_, F_, F_, F_, F_, F_, F_, F_, F_, F_, F_, F_, F_, F_] (by kernel_rfl) rfl rfl ⟨(zL BK421.out 0).trans rfl, (zL BK421.out 1).trans rfl, (zL BK421.out 2).trans rfl, (zL BK421.out 3).trans rfl, (zL BK421.out 4).trans rfl, (zL BK421.out 5).trans rfl, (zL BK421.out 6).trans rfl, (zL BK421.out 7).trans rfl, (zL BK421.out 8).trans rfl, (zL BK421.out 9).trans rfl, (zL BK421.out 10).trans rfl, (zL BK421.out 11).trans rfl, (zL BK421.out 12).trans rfl, (zL BK421.out 13).trans rfl, (zL BK421.out 14).trans rfl, (zL BK421.out 15).trans rfl, (zL BK421.out 16).trans rfl, (zL BK430.out 0).trans rfl, (zL BK430.out 1).trans rfl, (zL BK430.out 2).trans rfl, (zL BK430.out 3).trans rfl, (zL BK430.out 4).trans rfl, (zL BK430.out 5).trans rfl, (zL BK430.out 6).trans rfl, (zL BK430.out 7).trans rfl, (zL BK430.out 8).trans rfl, (arrCo (o := 9) BK421.out rfl rfl rfl rfl rfl rfl ((rd_T27 l1 x28_2).f1) (of_eq_true pd73) (of_eq_true qd73)).trans (congrArg (fun z_ => some (Value.bool z_)) Nbq46.out.symm)⟩ (fun hHeld => ?_)
       generalize w69.drew = w71 at HO_422007 HO_422008 HO_422015 HO_422016 BK404 BK407 BK421 BK429 BK430 HB hHeld ⊢
       refine pu_ 0 5 (dm_ 27 1) ?_
       refine pu_ 1 6 (dm_ 27 3) ?_
       refine pu_ 2 7 (dm_ 27 7) ?_
       refine pu_ 3 8 (dm_ 27 15) ?_
       refine pu_ 5 10 (dm_ 27 47) ?_
       refine tk_ hHeld 4 9 (dm_ 27 63) ?_
       refine tk_ hHeld 6 11 (dm_ 27 127) ?_
       refine one_ (i := 7) (N := some 12) (dm_ 27 255) rfl rfl (by kernel_rfl) (by decide) (fun K hK => ?_)
       refine goes_ Try.func37 (by kernel_rfl) rfl #[.agg #[.int .i64 x422005_2, .int .i64 x422006_2], .int .i64 ((rd_T27 l1 x28_2).f1)] (by rfl) rfl rfl (by (try simp only [List.map_toArray, List.map_cons, List.map_nil]); first | done | rfl | (simp only [List.length_drop, List.length_take]; rfl)) ?_
       with_reducible refine (view_In.calls x422005_2 x422006_2 ((rd_T27 l1 x28_2).f1) true _ A42.out).mono ?_
       rintro e w72 ⟨rfl, hb⟩
       refine ⟨_, rfl, ?_⟩
       replace HO_422007 := zM (Kd.R_below (rl_ HO_422007) hb)
       replace HO_422008 := zM (Kd.R_below (rl_ HO_422008) hb)
       replace HO_422015 := zM (Kd.R_below (rl_ HO_422015) hb)
       replace HO_422016 := zM (Kd.R_below (rl_ HO_422016) hb)
       replace BK404 := zM (bb_ BK404 hb)
       replace BK407 := zM (bb_ BK407 hb)
       replace BK421 := zM (bb_ BK421 hb)
       replace BK429 := zM (bb_ BK429 hb)
       replace BK430 := zM (bb_ BK430 hb)
       replace HB := zM (zB bel_ hb)
       (try clear hb)
       (try clear hb2)
       (try clear hk)
       (try clear hi)
       obtain ⟨Ao74, co74, eo74⟩ := Kd.R_slice HO_422015.out
       (first | subst eo74 | (injection eo74 with f1_ f2_ f3_; have f4_ := f1_.symm; have f5_ := f3_.symm; clear f1_ f2_ f3_; subst f4_; subst f5_))
       obtain ⟨Ao75, co75, eo75⟩ := Kd.R_slice HO_422016.out
       (first | subst eo75 | (injection eo75 with f1_ f2_ f3_; have f4_ := f1_.symm; have f5_ := f3_.symm; clear f1_ f2_ f3_; subst f4_; subst f5_))
       refine hK.out _ _ ⟨(zL BK421.out 0).trans rfl, (zL BK421.out 1).trans rfl, (zL BK421.out 2).trans rfl, (zL BK421.out 3).trans rfl, (zL BK421.out 4).trans rfl, (zL BK421.out 5).trans rfl, (zL BK421.out 6).trans rfl, (zL BK421.out 7).trans rfl, (zL BK421.out 8).trans rfl, (zL BK421.out 9).trans rfl, (zL BK421.out 10).trans rfl, (zL BK421.out 11).trans rfl, (zL BK421.out 12).trans rfl, (zL BK421.out 13).trans rfl, (zL BK421.out 14).trans rfl, (zL BK421.out 15).trans rfl, (zL BK421.out 16).trans rfl, (zL BK430.out 0).trans rfl, (zL BK430.out 1).trans rfl, (zL BK430.out 2).trans rfl, (zL BK430.out 3).trans rfl, (zL BK430.out 4).trans rfl, (zL BK430.out 5).trans rfl, (zL BK430.out 6).trans rfl, (zL BK430.out 7).trans rfl, (zL BK430.out 8).trans rfl, (arrCo (o := 9) BK421.out rfl rfl rfl rfl rfl rfl ((rd_T27 l1 x28_2).f1) (of_eq_true pd73) (of_eq_true qd73)).trans (congrArg (fun z_ => some (Value.bool z_)) Nbq46.out.symm)⟩ (fun hHeld => ?_)
       clear hK K
       refine norm_ (a' := ?_) ?_ ?_
       rotate_left
       · show Act.put _ (some 12) _ = _
         simp only [Act.put, zS, zZ, zC, i64_w, i32_w]
         rfl
       refine pu_ 8 13 (dm_ 27 511) ?_
       refine pu_ 9 14 (dm_ 27 1023) ?_
       refine pu_ 10 15 (dm_ 27 2047) ?_
       refine pu_ 11 16 (dm_ 27 4095) ?_
       refine pu_ 13 18 (dm_ 27 12287) ?_
       refine pu_ 14 19 (dm_ 27 28671) ?_
       refine tk_ hHeld 12 17 (dm_ 27 32767) ?_
       refine pu_ 15 20 (dm_ 27 65535) ?_
       refine tk_ hHeld 16 21 (dm_ 27 131071) ?_
       refine pu_ 17 22 (dm_ 27 262143) ?_
       refine pu_ 18 23 (dm_ 27 524287) ?_
       refine pu_ 19 24 (dm_ 27 1048575) ?_
       refine pu_ 20 25 (dm_ 27 2097151) ?_
       refine tk_ hHeld 21 26 (dm_ 27 4194303) ?_
       refine tk_ hHeld 23 28 (dm_ 27 12582911) ?_
       refine one_ (i := 22) (N := some 27) (dm_ 27 16777215) rfl rfl (by kernel_rfl) (by decide) (fun K hK => ?_)
       refine goes_ Try.func41 (by kernel_rfl) rfl #[.pointer (some ⟨gb421, 0, none⟩), .int .i64 ((rd_T27 l1 x28_2).f1)] (by rfl) rfl rfl (by (try simp only [List.map_toArray, List.map_cons, List.map_nil]); first | done | rfl | (simp only [List.length_drop, List.length_take]; rfl)) ?_
       with_reducible refine (round_Round_to.calls gb421 x422000_2 x422001_2 x422002_2 x422003_2 x422004_2 x422005_2 x422006_2 Ao26 co26 t415 Ao25 co25 t418 x422009_2 x422010_2 x422011_2 x422012_2 x422013_2 x422014_2 Ao74 co74 x422015_2 Ao75 co75 x422016_2 ((rd_T27 l1 x28_2).f1) t432 t433 t434 t435 t436 t437 t438 t439 t442 _ ?side1 ?side2 ?side3 ?side4 ?side5 ?side6 ?side7 ?side8 ?side9 A59.out).mono ?_
       (case side1 => repeat (first | exact (Kd.R_reads' HO_422007.out).2.2 | (with_reducible refine Kd.C_alloc ?_ _) | (with_reducible refine Kd.C_drewN ?_ _) | (with_reducible refine Kd.C_drew ?_)))
       (case side2 => exact (Kd.R_reads' HO_422007.out).2.1)
       (case side3 => repeat (first | exact (Kd.R_reads' HO_422008.out).2.2 | (with_reducible refine Kd.C_alloc ?_ _) | (with_reducible refine Kd.C_drewN ?_ _) | (with_reducible refine Kd.C_drew ?_)))
       (case side4 => exact (Kd.R_reads' HO_422008.out).2.1)
       (case side5 => repeat (first | exact (Kd.R_reads' HO_422015.out).2.2 | (with_reducible refine Kd.C_alloc ?_ _) | (with_reducible refine Kd.C_drewN ?_ _) | (with_reducible refine Kd.C_drew ?_)))
       (case side6 => exact (Kd.R_reads' HO_422015.out).2.1)
       (case side7 => repeat (first | exact (Kd.R_reads' HO_422016.out).2.2 | (with_reducible refine Kd.C_alloc ?_ _) | (with_reducible refine Kd.C_drewN ?_ _) | (with_reducible refine Kd.C_drew ?_)))
       (case side8 => exact (Kd.R_reads' HO_422016.out).2.1)
       (case side9 => exact blf_)
       rintro e w76 ⟨v440, v443, rfl, ho0, ho1, hb⟩
       refine ⟨_, rfl, ?_⟩
       have HO441 := zM (Kd.R_lower (Kd.R_new' (Kd.R_new' ho0 (Kd.R_lt (rl_ HO_422007))) (Kd.R_lt (rl_ HO_422015))) (below_size bel_))
       replace HO_422007 := zM (Kd.R_elder' (rl_ HO_422007) (Kd.R_base ho0) hb)
       replace HO_422015 := zM (Kd.R_elder' (rl_ HO_422015) (Kd.R_base ho0) hb)
       have HO444 := zM (Kd.R_lower (Kd.R_new' (Kd.R_new' ho1 (Kd.R_lt (rl_ HO_422008))) (Kd.R_lt (rl_ HO_422016))) (below_size bel_))
       replace HO_422008 := zM (Kd.R_elder' (rl_ HO_422008) (Kd.R_base ho1) hb)
       replace HO_422016 := zM (Kd.R_elder' (rl_ HO_422016) (Kd.R_base ho1) hb)
       replace BK404 := zM (bb_ BK404 hb)
       replace BK407 := zM (bb_ BK407 hb)
       replace BK421 := zM (bb_ BK421 hb)
       replace BK429 := zM (bb_ BK429 hb)
       replace BK430 := zM (bb_ BK430 hb)
       replace HB := zM (zB bel_ hb)
       (try clear hb)
       (try clear hb2)
       (try clear hk)
       (try clear hi)
       (try clear ho0)
       (try clear ho1)
       obtain ⟨Ao77, co77, eo77⟩ := Kd.R_slice HO441.out
       (first | subst eo77 | (injection eo77 with f1_ f2_ f3_; have f4_ := f1_.symm; have f5_ := f3_.symm; clear f1_ f2_ f3_; subst f4_; subst f5_))
       obtain ⟨Ao78, co78, eo78⟩ := Kd.R_slice HO444.out
       (first | subst eo78 | (injection eo78 with f1_ f2_ f3_; have f4_ := f1_.symm; have f5_ := f3_.symm; clear f1_ f2_ f3_; subst f4_; subst f5_))
       refine hK.out _ _ ⟨(zL BK421.out 0).trans rfl, (zL BK421.out 1).trans rfl, (zL BK421.out 2).trans rfl, (zL BK421.out 3).trans rfl, (zL BK421.out 4).trans rfl, (zL BK421.out 5).trans rfl, (zL BK421.out 6).trans rfl, (zL BK421.out 7).trans rfl, (zL BK421.out 8).trans rfl, (zL BK421.out 9).trans rfl, (zL BK421.out 10).trans rfl, (zL BK421.out 11).trans rfl, (zL BK421.out 12).trans rfl, (zL BK421.out 13).trans rfl, (zL BK421.out 14).trans rfl, (zL BK421.out 15).trans rfl, (zL BK421.out 16).trans rfl, (zL BK430.out 0).trans rfl, (zL BK430.out 1).trans rfl, (zL BK430.out 2).trans rfl, (zL BK430.out 3).trans rfl, (zL BK430.out 4).trans rfl, (zL BK430.out 5).trans rfl, (zL BK430.out 6).trans rfl, (zL BK430.out 7).trans rfl, (zL BK430.out 8).trans rfl, (arrCo (o := 9) BK421.out rfl rfl rfl rfl rfl rfl ((rd_T27 l1 x28_2).f1) (of_eq_true pd73) (of_eq_true qd73)).trans (congrArg (fun z_ => some (Value.bool z_)) Nbq46.out.symm)⟩ (fun hHeld => ?_)
       clear hK K
       refine norm_ (a' := ?_) ?_ ?_
       rotate_left
       · show Act.put _ (some 27) _ = _
         simp only [Act.put, zS, zZ, zC, i64_w, i32_w]
         rfl
       refine one_ (i := 24) (N := some 29) (dm_ 27 33554431) rfl rfl (by kernel_rfl) (by decide) (fun K hK => ?_)
       refine goes_ Try.func40 (by kernel_rfl) rfl #[.agg #[.int .i64 t432, .int .i64 t433, .int .i64 t434, .int .i64 t435, .int .i64 t436, .int .i64 t437, .int .i64 t438, .slice Ao77 t439.length co77, .slice Ao78 t442.length co78], .agg #[.int .i64 ((rd_T27 l1 x28_2).f0), .int .i64 ((rd_T27 l1 x28_2).f1), .int .i64 ((rd_T27 l1 x28_2).f2), .int .i64 ((rd_T27 l1 x28_2).f3), .int .i64 ((rd_T27 l1 x28_2).f4), .int .i64 ((rd_T27 l1 x28_2).f5.f0), .int .i64 ((rd_T27 l1 x28_2).f5.f1), .slice A428_7 ((rd_T27 l1 x28_2).f6).length c428_7, .slice A428_8 ((rd_T27 l1 x28_2).f7).length c428_8]] (by rfl) rfl rfl (by (try simp only [List.map_toArray, List.map_cons, List.map_nil]); first | done | rfl | (simp only [List.length_drop, List.length_take]; rfl)) ?_
       with_reducible refine (msg_Answers.calls t432 t433 t434 t435 t436 t437 t438 _ _ t439 _ _ t442 ((rd_T27 l1 x28_2).f0) ((rd_T27 l1 x28_2).f1) ((rd_T27 l1 x28_2).f2) ((rd_T27 l1 x28_2).f3) ((rd_T27 l1 x28_2).f4) ((rd_T27 l1 x28_2).f5.f0) ((rd_T27 l1 x28_2).f5.f1) _ _ ((rd_T27 l1 x28_2).f6) _ _ ((rd_T27 l1 x28_2).f7) true _ ?side1 ?side2 ?side3 ?side4 ?side5 ?side6 ?side7 ?side8 A60.out).mono ?_
       (case side1 => repeat (first | exact (Kd.R_reads' HO441.out).2.2 | (with_reducible refine Kd.C_alloc ?_ _) | (with_reducible refine Kd.C_drewN ?_ _) | (with_reducible refine Kd.C_drew ?_)))
       (case side2 => exact (Kd.R_reads' HO441.out).2.1)
       (case side3 => repeat (first | exact (Kd.R_reads' HO444.out).2.2 | (with_reducible refine Kd.C_alloc ?_ _) | (with_reducible refine Kd.C_drewN ?_ _) | (with_reducible refine Kd.C_drew ?_)))
       (case side4 => exact (Kd.R_reads' HO444.out).2.1)
       (case side5 => repeat (first | exact (Kd.C_below HR428_7.out HB.out) | (with_reducible refine Kd.C_alloc ?_ _) | (with_reducible refine Kd.C_drewN ?_ _) | (with_reducible refine Kd.C_drew ?_)))
       (case side6 => exact HC428_7.out)
       (case side7 => repeat (first | exact (Kd.C_below HR428_8.out HB.out) | (with_reducible refine Kd.C_alloc ?_ _) | (with_reducible refine Kd.C_drewN ?_ _) | (with_reducible refine Kd.C_drew ?_)))
       (case side8 => exact HC428_8.out)
       rintro e w79 ⟨rfl, hb⟩
       refine ⟨_, rfl, ?_⟩
       replace HO_422007 := zM (Kd.R_below (rl_ HO_422007) hb)
       replace HO_422008 := zM (Kd.R_below (rl_ HO_422008) hb)
       replace HO_422015 := zM (Kd.R_below (rl_ HO_422015) hb)
       replace HO_422016 := zM (Kd.R_below (rl_ HO_422016) hb)
       replace HO441 := zM (Kd.R_below (rl_ HO441) hb)
       replace HO444 := zM (Kd.R_below (rl_ HO444) hb)
       replace BK404 := zM (bb_ BK404 hb)
       replace BK407 := zM (bb_ BK407 hb)
       replace BK421 := zM (bb_ BK421 hb)
       replace BK429 := zM (bb_ BK429 hb)
       replace BK430 := zM (bb_ BK430 hb)
       replace HB := zM (zB bel_ hb)
       (try clear hb)
       (try clear hb2)
       (try clear hk)
       (try clear hi)
       refine hK.out _ _ ⟨(zL BK421.out 0).trans rfl, (zL BK421.out 1).trans rfl, (zL BK421.out 2).trans rfl, (zL BK421.out 3).trans rfl, (zL BK421.out 4).trans rfl, (zL BK421.out 5).trans rfl, (zL BK421.out 6).trans rfl, (zL BK421.out 7).trans rfl, (zL BK421.out 8).trans rfl, (zL BK421.out 9).trans rfl, (zL BK421.out 10).trans rfl, (zL BK421.out 11).trans rfl, (zL BK421.out 12).trans rfl, (zL BK421.out 13).trans rfl, (zL BK421.out 14).trans rfl, (zL BK421.out 15).trans rfl, (zL BK421.out 16).trans rfl, (zL BK430.out 0).trans rfl, (zL BK430.out 1).trans rfl, (zL BK430.out 2).trans rfl, (zL BK430.out 3).trans rfl, (zL BK430.out 4).trans rfl, (zL BK430.out 5).trans rfl, (zL BK430.out 6).trans rfl, (zL BK430.out 7).trans rfl, (zL BK430.out 8).trans rfl, (arrCo (o := 9) BK421.out rfl rfl rfl rfl rfl rfl ((rd_T27 l1 x28_2).f1) (of_eq_true pd73) (of_eq_true qd73)).trans (congrArg (fun z_ => some (Value.bool z_)) Nbq46.out.symm)⟩ (fun hHeld => ?_)
       clear hK K
       refine norm_ (a' := ?_) ?_ ?_
       rotate_left
       · show Act.put _ (some 29) _ = _
         simp only [Act.put, zS, zZ, zC, i64_w, i32_w]
         rfl
       refine pu_ 25 30 (dm_ 27 67108863) ?_
       refine pu_ 26 31 (dm_ 27 134217727) ?_
       refine done_ (by kernel_rfl) ?_
       try go_wp2
       replace HO_422007 := zM (Kd.R_drew HO_422007.out)
       replace HO_422008 := zM (Kd.R_drew HO_422008.out)
       replace HO_422015 := zM (Kd.R_drew HO_422015.out)
       replace HO_422016 := zM (Kd.R_drew HO_422016.out)
       replace HO441 := zM (Kd.R_drew HO441.out)
       replace HO444 := zM (Kd.R_drew HO444.out)
       replace BK404 := zM (zD BK404.out)
       replace BK407 := zM (zD BK407.out)
       replace BK421 := zM (zD BK421.out)
       replace BK429 := zM (zD BK429.out)
       replace BK430 := zM (zD BK430.out)
       replace HB := zM (below_drew1 HB.out)
       have pd81 : 0 ≤ (((rd_T27 l1 x28_2).f1) : Int) := (of_decide_eq_true (by first | (with_reducible assumption) | assumption))
       have qd81 : (((rd_T27 l1 x28_2).f1) : Int) < 6 := (of_decide_eq_true (by first | (with_reducible assumption) | assumption))
       replace pd81 := eq_true pd81
       replace qd81 := eq_true qd81
       refine start_ (n := 7) (S := fun w' => w'.cell? ⟨gb430, 0, none⟩ = some (.int .i64 ((rd_T27 l1 x28_2).f0)) ∧ w'.cell? ⟨gb430, 1, none⟩ = some (.int .i64 ((rd_T27 l1 x28_2).f1)) ∧ w'.cell? ⟨gb430, 2, none⟩ = some (.int .i64 ((rd_T27 l1 x28_2).f2)) ∧ w'.cell? ⟨gb430, 3, none⟩ = some (.int .i64 ((rd_T27 l1 x28_2).f3)) ∧ w'.cell? ⟨gb430, 4, none⟩ = some (.int .i64 ((rd_T27 l1 x28_2).f4)) ∧ w'.cell? ⟨gb430, 5, none⟩ = some (.int .i64 ((rd_T27 l1 x28_2).f5.f0)) ∧ w'.cell? ⟨gb430, 6, none⟩ = some (.int .i64 ((rd_T27 l1 x28_2).f5.f1)) ∧ w'.cell? ⟨gb430, 7, none⟩ = some (.slice A428_7 ((rd_T27 l1 x28_2).f6).length c428_7) ∧ w'.cell? ⟨gb430, 8, none⟩ = some (.slice A428_8 ((rd_T27 l1 x28_2).f7).length c428_8)) (ds := []) #[F_, F_, F_, F_, F_, F_, F_] (by kernel_rfl) rfl rfl ⟨(zL BK430.out 0).trans rfl, (zL BK430.out 1).trans rfl, (zL BK430.out 2).trans rfl, (zL BK430.out 3).trans rfl, (zL BK430.out 4).trans rfl, (zL BK430.out 5).trans rfl, (zL BK430.out 6).trans rfl, (zL BK430.out 7).trans rfl, (zL BK430.out 8).trans rfl⟩ (fun hHeld => ?_)
       generalize w79.drew = w80 at HO_422007 HO_422008 HO_422015 HO_422016 HO441 HO444 BK404 BK407 BK421 BK429 BK430 HB hHeld ⊢
       refine pu_ 0 32 (dm_ 7 1) ?_
       refine pu_ 1 33 (dm_ 7 3) ?_
       refine pu_ 3 35 (dm_ 7 11) ?_
       refine pu_ 4 36 (dm_ 7 27) ?_
       refine tk_ hHeld 2 34 (dm_ 7 31) ?_
       refine pu_ 5 37 (dm_ 7 63) ?_
       refine one_ (i := 6) (N := none) (dm_ 7 127) rfl rfl (by kernel_rfl) (by decide) (fun K hK => ?_)
       have hs82 : w80.cell? ⟨gb421, 9 + (((rd_T27 l1 x28_2).f1) : Int).toNat, none⟩ = some (.bool (rdOf false [x422009_2, x422010_2, x422011_2, x422012_2, x422013_2, x422014_2] ((rd_T27 l1 x28_2).f1))) := arrCo (o := 9) BK421.out rfl rfl rfl rfl rfl rfl ((rd_T27 l1 x28_2).f1) (of_eq_true pd81) (of_eq_true qd81)
       have hfs82 := zF BK421.out (9 + (((rd_T27 l1 x28_2).f1) : Int).toNat)
       have hns82_0 := NB404_421.out
       have hns82_1 := NB407_421.out
       have hns82_3 := NB429_421.out
       have hns82_4 := NB430_421.out
       have hms82_0 := NB421_404.out
       have hms82_1 := NB421_407.out
       have hms82_3 := NB421_429.out
       have hms82_4 := NB421_430.out
       refine skip_ (w1 := ?_) (by rfl) rfl ?_ ?_
       rotate_left
       · go_simp
         rfl
       refine hK.out _ _ ⟨((cell_far (p := ⟨gb421, _, none⟩) NB430_421.out _).trans (hHeld.1)), ((cell_far (p := ⟨gb421, _, none⟩) NB430_421.out _).trans (hHeld.2.1)), ((cell_far (p := ⟨gb421, _, none⟩) NB430_421.out _).trans (hHeld.2.2.1)), ((cell_far (p := ⟨gb421, _, none⟩) NB430_421.out _).trans (hHeld.2.2.2.1)), ((cell_far (p := ⟨gb421, _, none⟩) NB430_421.out _).trans (hHeld.2.2.2.2.1)), ((cell_far (p := ⟨gb421, _, none⟩) NB430_421.out _).trans (hHeld.2.2.2.2.2.1)), ((cell_far (p := ⟨gb421, _, none⟩) NB430_421.out _).trans (hHeld.2.2.2.2.2.2.1)), ((cell_far (p := ⟨gb421, _, none⟩) NB430_421.out _).trans (hHeld.2.2.2.2.2.2.2.1)), ((cell_far (p := ⟨gb421, _, none⟩) NB430_421.out _).trans (hHeld.2.2.2.2.2.2.2.2))⟩ (fun hHeld => ?_)
       clear hK K
       refine done_ (by kernel_rfl) ?_
       try go_wp2
       have n0_ : Aside0 (Kd.R k43 43 (w80.setCell ⟨gb421, 9 + (((rd_T27 l1 x28_2).f1) : Int).toNat, none⟩ (.bool true)) w.heap.size (fun k_ => some k_ ≠ (.slice Ao74 x422015_2.length co74 : Value).ownBlock ∧ some k_ ≠ (.slice Ao77 t439.length co77 : Value).ownBlock) (.slice Ao26 t415.length co26) t415) := ⟨by (with_reducible repeat (first | apply Kd.R_alloc | apply Kd.R_drewN | apply Kd.R_drew)); exact Kd.R_mono (Kd.R_far (p := ⟨gb421, 9 + (((rd_T27 l1 x28_2).f1) : Int).toNat, none⟩) (Kd.R_types HO_422007.out BK421.out (by decide)) (fun _ hk => hk.2) (.bool true)) (fun _ hk => ⟨hk.1.1, hk.1.2⟩)⟩
       have n1_ : Aside0 (Kd.R k48 48 (w80.setCell ⟨gb421, 9 + (((rd_T27 l1 x28_2).f1) : Int).toNat, none⟩ (.bool true)) w.heap.size (fun k_ => some k_ ≠ (.slice Ao75 x422016_2.length co75 : Value).ownBlock ∧ some k_ ≠ (.slice Ao78 t442.length co78 : Value).ownBlock) (.slice Ao25 t418.length co25) t418) := ⟨by (with_reducible repeat (first | apply Kd.R_alloc | apply Kd.R_drewN | apply Kd.R_drew)); exact Kd.R_mono (Kd.R_far (p := ⟨gb421, 9 + (((rd_T27 l1 x28_2).f1) : Int).toNat, none⟩) (Kd.R_types HO_422008.out BK421.out (by decide)) (fun _ hk => hk.2) (.bool true)) (fun _ hk => ⟨hk.1.1, hk.1.2⟩)⟩
       have n2_ : Aside0 (Kd.R k43 43 (w80.setCell ⟨gb421, 9 + (((rd_T27 l1 x28_2).f1) : Int).toNat, none⟩ (.bool true)) w.heap.size (fun k_ => some k_ ≠ (.slice Ao26 t415.length co26 : Value).ownBlock ∧ some k_ ≠ (.slice Ao77 t439.length co77 : Value).ownBlock) (.slice Ao74 x422015_2.length co74) x422015_2) := ⟨by (with_reducible repeat (first | apply Kd.R_alloc | apply Kd.R_drewN | apply Kd.R_drew)); exact Kd.R_mono (Kd.R_far (p := ⟨gb421, 9 + (((rd_T27 l1 x28_2).f1) : Int).toNat, none⟩) (Kd.R_types HO_422015.out BK421.out (by decide)) (fun _ hk => hk.2) (.bool true)) (fun _ hk => ⟨hk.1.1, hk.1.2⟩)⟩
       have n3_ : Aside0 (Kd.R k48 48 (w80.setCell ⟨gb421, 9 + (((rd_T27 l1 x28_2).f1) : Int).toNat, none⟩ (.bool true)) w.heap.size (fun k_ => some k_ ≠ (.slice Ao25 t418.length co25 : Value).ownBlock ∧ some k_ ≠ (.slice Ao78 t442.length co78 : Value).ownBlock) (.slice Ao75 x422016_2.length co75) x422016_2) := ⟨by (with_reducible repeat (first | apply Kd.R_alloc | apply Kd.R_drewN | apply Kd.R_drew)); exact Kd.R_mono (Kd.R_far (p := ⟨gb421, 9 + (((rd_T27 l1 x28_2).f1) : Int).toNat, none⟩) (Kd.R_types HO_422016.out BK421.out (by decide)) (fun _ hk => hk.2) (.bool true)) (fun _ hk => ⟨hk.1.1, hk.1.2⟩)⟩
       have n4_ : Aside0 (Kd.R k43 43 (w80.setCell ⟨gb421, 9 + (((rd_T27 l1 x28_2).f1) : Int).toNat, none⟩ (.bool true)) w.heap.size (fun k_ => some k_ ≠ (.slice Ao26 t415.length co26 : Value).ownBlock ∧ some k_ ≠ (.slice Ao74 x422015_2.length co74 : Value).ownBlock) (.slice Ao77 t439.length co77) t439) := ⟨by (with_reducible repeat (first | apply Kd.R_alloc | apply Kd.R_drewN | apply Kd.R_drew)); exact Kd.R_mono (Kd.R_far (p := ⟨gb421, 9 + (((rd_T27 l1 x28_2).f1) : Int).toNat, none⟩) (Kd.R_types HO441.out BK421.out (by decide)) (fun _ hk => hk.2) (.bool true)) (fun _ hk => ⟨hk.1.1.2, hk.1.2⟩)⟩
       have n5_ : Aside0 (Kd.R k48 48 (w80.setCell ⟨gb421, 9 + (((rd_T27 l1 x28_2).f1) : Int).toNat, none⟩ (.bool true)) w.heap.size (fun k_ => some k_ ≠ (.slice Ao25 t418.length co25 : Value).ownBlock ∧ some k_ ≠ (.slice Ao75 x422016_2.length co75 : Value).ownBlock) (.slice Ao78 t442.length co78) t442) := ⟨by (with_reducible repeat (first | apply Kd.R_alloc | apply Kd.R_drewN | apply Kd.R_drew)); exact Kd.R_mono (Kd.R_far (p := ⟨gb421, 9 + (((rd_T27 l1 x28_2).f1) : Int).toNat, none⟩) (Kd.R_types HO444.out BK421.out (by decide)) (fun _ hk => hk.2) (.bool true)) (fun _ hk => ⟨hk.1.1.2, hk.1.2⟩)⟩
       have n6_ : Aside0 ((w80.setCell ⟨gb421, 9 + (((rd_T27 l1 x28_2).f1) : Int).toNat, none⟩ (.bool true)).heap[gb404]? = some (.cells #[.int .i64 a0_0, .int .i64 a0_1, .int .i64 a0_2, .int .i64 a0_3, .int .i64 a0_4, .int .i64 a0_5, .int .i64 a0_6, .slice A0_7 l0_7.length c0_7, .slice A0_8 l0_8.length c0_8] 27 (0, 0))) := ⟨blf_⟩
       have n7_ : Aside0 ((w80.setCell ⟨gb421, 9 + (((rd_T27 l1 x28_2).f1) : Int).toNat, none⟩ (.bool true)).heap[gb407]? = some (.cells #[.int .i64 a0_0, .int .i64 a0_1, .int .i64 a0_2, .int .i64 a0_3, .int .i64 a0_4, .int .i64 a0_5, .int .i64 a0_6, .slice A0_7 l0_7.length c0_7, .slice A0_8 l0_8.length c0_8] 27 (0, 0))) := ⟨blf_⟩
       have n8_ : Aside0 ((w80.setCell ⟨gb421, 9 + (((rd_T27 l1 x28_2).f1) : Int).toNat, none⟩ (.bool true)).heap[gb421]? = some (.cells #[.int .i64 x422000_2, .int .i64 x422001_2, .int .i64 x422002_2, .int .i64 x422003_2, .int .i64 x422004_2, .int .i64 x422005_2, .int .i64 x422006_2, .slice Ao26 t415.length co26, .slice Ao25 t418.length co25, .bool (stA ((rd_T27 l1 x28_2).f1) 0 true x422009_2), .bool (stA ((rd_T27 l1 x28_2).f1) 1 true x422010_2), .bool (stA ((rd_T27 l1 x28_2).f1) 2 true x422011_2), .bool (stA ((rd_T27 l1 x28_2).f1) 3 true x422012_2), .bool (stA ((rd_T27 l1 x28_2).f1) 4 true x422013_2), .bool (stA ((rd_T27 l1 x28_2).f1) 5 true x422014_2), .slice Ao74 x422015_2.length co74, .slice Ao75 x422016_2.length co75] 71 (0, 0))) := ⟨by (with_reducible repeat (first | refine zN ?_ _ | refine zD ?_ | refine zA ?_ _)); refine arrPo (o := 9) (cs := #[.int .i64 x422000_2, .int .i64 x422001_2, .int .i64 x422002_2, .int .i64 x422003_2, .int .i64 x422004_2, .int .i64 x422005_2, .int .i64 x422006_2, .slice Ao26 t415.length co26, .slice Ao25 t418.length co25, .bool x422009_2, .bool x422010_2, .bool x422011_2, .bool x422012_2, .bool x422013_2, .bool x422014_2, .slice Ao74 x422015_2.length co74, .slice Ao75 x422016_2.length co75]) ?_ ((rd_T27 l1 x28_2).f1) true (of_decide_eq_true (by first | (with_reducible assumption) | assumption)) (of_decide_eq_true (by first | (with_reducible assumption) | assumption)) (fun e_ => by rw [ e_]; rfl) (fun e_ => by rw [ e_]; rfl) (fun e_ => by rw [ e_]; rfl) (fun e_ => by rw [ e_]; rfl) (fun e_ => by rw [ e_]; rfl) (fun e_ => by rw [ e_]; rfl); (with_reducible repeat (first | refine zN ?_ _ | refine zD ?_ | refine zA ?_ _)); exact BK421.out⟩
       have n9_ : Aside0 ((w80.setCell ⟨gb421, 9 + (((rd_T27 l1 x28_2).f1) : Int).toNat, none⟩ (.bool true)).heap[gb429]? = some (.cells #[.int .i64 ((rd_T27 l1 x28_2).f0), .int .i64 ((rd_T27 l1 x28_2).f1), .int .i64 ((rd_T27 l1 x28_2).f2), .int .i64 ((rd_T27 l1 x28_2).f3), .int .i64 ((rd_T27 l1 x28_2).f4), .int .i64 ((rd_T27 l1 x28_2).f5.f0), .int .i64 ((rd_T27 l1 x28_2).f5.f1), .slice A428_7 ((rd_T27 l1 x28_2).f6).length c428_7, .slice A428_8 ((rd_T27 l1 x28_2).f7).length c428_8] 27 (0, 0))) := ⟨blf_⟩
       have n10_ : Aside0 ((w80.setCell ⟨gb421, 9 + (((rd_T27 l1 x28_2).f1) : Int).toNat, none⟩ (.bool true)).heap[gb430]? = some (.cells #[.int .i64 ((rd_T27 l1 x28_2).f0), .int .i64 ((rd_T27 l1 x28_2).f1), .int .i64 ((rd_T27 l1 x28_2).f2), .int .i64 ((rd_T27 l1 x28_2).f3), .int .i64 ((rd_T27 l1 x28_2).f4), .int .i64 ((rd_T27 l1 x28_2).f5.f0), .int .i64 ((rd_T27 l1 x28_2).f5.f1), .slice A428_7 ((rd_T27 l1 x28_2).f6).length c428_7, .slice A428_8 ((rd_T27 l1 x28_2).f7).length c428_8] 27 (0, 0))) := ⟨blf_⟩
       have n11_ : Aside0 (Below w.heap.size w (w80.setCell ⟨gb421, 9 + (((rd_T27 l1 x28_2).f1) : Int).toNat, none⟩ (.bool true))) := ⟨bel_⟩
       (try clear HO_422007)
       (try clear HO_422008)
       (try clear HO_422015)
       (try clear HO_422016)
       (try clear HO441)
       (try clear HO444)
       (try clear BK404)
       (try clear BK407)
       (try clear BK421)
       (try clear BK429)
       (try clear BK430)
       (try clear HB)
       generalize (w80.setCell ⟨gb421, 9 + (((rd_T27 l1 x28_2).f1) : Int).toNat, none⟩ (.bool true)) = w83 at n0_ n1_ n2_ n3_ n4_ n5_ n6_ n7_ n8_ n9_ n10_ n11_ ⊢
       have HO_422007 := n0_
       have HO_422008 := n1_
       have HO_422015 := n2_
       have HO_422016 := n3_
       have HO441 := n4_
       have HO444 := n5_
       have BK404 := n6_
       have BK407 := n7_
       have BK421 := n8_
       have BK429 := n9_
       have BK430 := n10_
       have HB := n11_
       clear n0_ n1_ n2_ n3_ n4_ n5_ n6_ n7_ n8_ n9_ n10_ n11_
       replace HO_422007 := zM (Kd.R_drew HO_422007.out)
       replace HO_422008 := zM (Kd.R_drew HO_422008.out)
       replace HO_422015 := zM (Kd.R_drew HO_422015.out)
       replace HO_422016 := zM (Kd.R_drew HO_422016.out)
       replace HO441 := zM (Kd.R_drew HO441.out)
       replace HO444 := zM (Kd.R_drew HO444.out)
       replace BK404 := zM (zD BK404.out)
       replace BK407 := zM (zD BK407.out)
       replace BK421 := zM (zD BK421.out)
       replace BK429 := zM (zD BK429.out)
       replace BK430 := zM (zD BK430.out)
       replace HB := zM (below_drew1 HB.out)
       refine start_ (n := 11) (S := fun w' => w'.cell? ⟨gb421, 0, none⟩ = some (.int .i64 x422000_2) ∧ w'.cell? ⟨gb421, 1, none⟩ = some (.int .i64 x422001_2) ∧ w'.cell? ⟨gb421, 2, none⟩ = some (.int .i64 x422002_2) ∧ w'.cell? ⟨gb421, 3, none⟩ = some (.int .i64 x422003_2) ∧ w'.cell? ⟨gb421, 4, none⟩ = some (.int .i64 x422004_2) ∧ w'.cell? ⟨gb421, 5, none⟩ = some (.int .i64 x422005_2) ∧ w'.cell? ⟨gb421, 6, none⟩ = some (.int .i64 x422006_2) ∧ w'.cell? ⟨gb421, 7, none⟩ = some (.slice Ao26 t415.length co26) ∧ w'.cell? ⟨gb421, 8, none⟩ = some (.slice Ao25 t418.length co25) ∧ w'.cell? ⟨gb421, 9, none⟩ = some (.bool (stA ((rd_T27 l1 x28_2).f1) 0 true x422009_2)) ∧ w'.cell? ⟨gb421, 10, none⟩ = some (.bool (stA ((rd_T27 l1 x28_2).f1) 1 true x422010_2)) ∧ w'.cell? ⟨gb421, 11, none⟩ = some (.bool (stA ((rd_T27 l1 x28_2).f1) 2 true x422011_2)) ∧ w'.cell? ⟨gb421, 12, none⟩ = some (.bool (stA ((rd_T27 l1 x28_2).f1) 3 true x422012_2)) ∧ w'.cell? ⟨gb421, 13, none⟩ = some (.bool (stA ((rd_T27 l1 x28_2).f1) 4 true x422013_2)) ∧ w'.cell? ⟨gb421, 14, none⟩ = some (.bool (stA ((rd_T27 l1 x28_2).f1) 5 true x422014_2)) ∧ w'.cell? ⟨gb421, 15, none⟩ = some (.slice Ao74 x422015_2.length co74) ∧ w'.cell? ⟨gb421, 16, none⟩ = some (.slice Ao75 x422016_2.length co75) ∧ w'.cell? ⟨gb430, 0, none⟩ = some (.int .i64 ((rd_T27 l1 x28_2).f0)) ∧ w'.cell? ⟨gb430, 1, none⟩ = some (.int .i64 ((rd_T27 l1 x28_2).f1)) ∧ w'.cell? ⟨gb430, 2, none⟩ = some (.int .i64 ((rd_T27 l1 x28_2).f2)) ∧ w'.cell? ⟨gb430, 3, none⟩ = some (.int .i64 ((rd_T27 l1 x28_2).f3)) ∧ w'.cell? ⟨gb430, 4, none⟩ = some (.int .i64 ((rd_T27 l1 x28_2).f4)) ∧ w'.cell? ⟨gb430, 5, none⟩ = some (.int .i64 ((rd_T27 l1 x28_2).f5.f0)) ∧ w'.cell? ⟨gb430, 6, none⟩ = some (.int .i64 ((rd_T27 l1 x28_2).f5.f1)) ∧ w'.cell? ⟨gb430, 7, none⟩ = some (.slice A428_7 ((rd_T27 l1 x28_2).f6).length c428_7) ∧ w'.cell? ⟨gb430, 8, none⟩ = some (.slice A428_8 ((rd_T27 l1 x28_2).f7).length c428_8)) (ds := [10]) #[F_, F_, F_, F_, F_, F_, F_, F_, F_, F_, F_] (by kernel_rfl) rfl rfl ⟨(zL BK421.out 0).trans rfl, (zL BK421.out 1).trans rfl, (zL BK421.out 2).trans rfl, (zL BK421.out 3).trans rfl, (zL BK421.out 4).trans rfl, (zL BK421.out 5).trans rfl, (zL BK421.out 6).trans rfl, (zL BK421.out 7).trans rfl, (zL BK421.out 8).trans rfl, (zL BK421.out 9).trans rfl, (zL BK421.out 10).trans rfl, (zL BK421.out 11).trans rfl, (zL BK421.out 12).trans rfl, (zL BK421.out 13).trans rfl, (zL BK421.out 14).trans rfl, (zL BK421.out 15).trans rfl, (zL BK421.out 16).trans rfl, (zL BK430.out 0).trans rfl, (zL BK430.out 1).trans rfl, (zL BK430.out 2).trans rfl, (zL BK430.out 3).trans rfl, (zL BK430.out 4).trans rfl, (zL BK430.out 5).trans rfl, (zL BK430.out 6).trans rfl, (zL BK430.out 7).trans rfl, (zL BK430.out 8).trans rfl⟩ (fun hHeld => ?_)
       generalize w83.drew = w84 at HO_422007 HO_422008 HO_422015 HO_422016 HO441 HO444 BK404 BK407 BK421 BK429 BK430 HB hHeld ⊢
       refine pu_ 0 38 (dm_ 11 1) ?_
       refine pu_ 1 39 (dm_ 11 3) ?_
       refine pu_ 2 40 (dm_ 11 7) ?_
       refine pu_ 3 41 (dm_ 11 15) ?_
       refine pu_ 5 43 (dm_ 11 47) ?_
       refine tk_ hHeld 4 42 (dm_ 11 63) ?_
       refine tk_ hHeld 6 44 (dm_ 11 127) ?_
       refine one_ (i := 7) (N := some 45) (dm_ 11 255) rfl rfl (by kernel_rfl) (by decide) (fun K hK => ?_)
       refine goes_ Try.func42 (by kernel_rfl) rfl #[.slice Ao74 x422015_2.length co74, .slice A428_7 ((rd_T27 l1 x28_2).f6).length c428_7] (by rfl) rfl rfl (by (try simp only [List.map_toArray, List.map_cons, List.map_nil]); first | done | rfl | (simp only [List.length_drop, List.length_take]; rfl)) ?_
       with_reducible refine (cells_Merge.calls k2 (fun k_ => some k_ = (.slice Ao74 x422015_2.length co74 : Value).ownBlock) _ _ x422015_2 _ _ ((rd_T27 l1 x28_2).f6) t446 _ ?side1 ?side2 ?side3 A62.out).mono ?_
       (case side1 => exact Kd.R_V (Kd.R_tight rfl (Kd.R_types (Kd.R_types (Kd.R_types (Kd.R_types (Kd.R_types (Kd.R_apart' (Kd.R_apart' (Kd.R_apart' (HO_422015.out) (Kd.R_typed HO_422008.out) (by decide)) (Kd.R_typed HO_422016.out) (by decide)) (Kd.R_typed HO444.out) (by decide)) BK404.out (by decide)) BK407.out (by decide)) BK421.out (by decide)) BK429.out (by decide)) BK430.out (by decide))))
       (case side2 => repeat (first | exact (Kd.C_below HR428_7.out HB.out) | (with_reducible refine Kd.C_alloc ?_ _) | (with_reducible refine Kd.C_drewN ?_ _) | (with_reducible refine Kd.C_drew ?_)))
       (case side3 => exact HC428_7.out)
       rintro e w85 ⟨v447, rfl, ho0, hb⟩
       refine ⟨_, rfl, ?_⟩
       replace HO_422008 := zM (Kd.R_below (rl_ HO_422008) hb)
       replace HO_422016 := zM (Kd.R_below (rl_ HO_422016) hb)
       replace HO444 := zM (Kd.R_below (rl_ HO444) hb)
       have HO448 := zM (Kd.R_lower (Kd.R_new' (Kd.R_new' (Kd.R_new' (Kd.R_mono (ok' := fun k_ => True) ho0 (fun _ hk_ => trivial)) (Kd.R_lt (rl_ HO_422007))) (Kd.R_lt (rl_ HO_422015))) (Kd.R_lt (rl_ HO441))) (below_size bel_))
       replace HO_422007 := zM (Kd.R_elder' (rl_ HO_422007) (Kd.R_base ho0) hb)
       replace HO_422015 := zM (Kd.R_elder' (rl_ HO_422015) (Kd.R_base ho0) hb)
       replace HO441 := zM (Kd.R_elder' (rl_ HO441) (Kd.R_base ho0) hb)
       replace BK404 := zM (bb_ BK404 hb)
       replace BK407 := zM (bb_ BK407 hb)
       replace BK421 := zM (bb_ BK421 hb)
       replace BK429 := zM (bb_ BK429 hb)
       replace BK430 := zM (bb_ BK430 hb)
       replace HB := zM (zB bel_ hb)
       (try clear hb)
       (try clear hb2)
       (try clear hk)
       (try clear hi)
       (try clear ho0)
       obtain ⟨Ao86, co86, eo86⟩ := Kd.R_slice HO448.out
       (first | subst eo86 | (injection eo86 with f1_ f2_ f3_; have f4_ := f1_.symm; have f5_ := f3_.symm; clear f1_ f2_ f3_; subst f4_; subst f5_))
       refine hK.out _ _ ⟨(zL BK421.out 0).trans rfl, (zL BK421.out 1).trans rfl, (zL BK421.out 2).trans rfl, (zL BK421.out 3).trans rfl, (zL BK421.out 4).trans rfl, (zL BK421.out 5).trans rfl, (zL BK421.out 6).trans rfl, (zL BK421.out 7).trans rfl, (zL BK421.out 8).trans rfl, (zL BK421.out 9).trans rfl, (zL BK421.out 10).trans rfl, (zL BK421.out 11).trans rfl, (zL BK421.out 12).trans rfl, (zL BK421.out 13).trans rfl, (zL BK421.out 14).trans rfl, (zL BK421.out 15).trans rfl, (zL BK421.out 16).trans rfl, (zL BK430.out 0).trans rfl, (zL BK430.out 1).trans rfl, (zL BK430.out 2).trans rfl, (zL BK430.out 3).trans rfl, (zL BK430.out 4).trans rfl, (zL BK430.out 5).trans rfl, (zL BK430.out 6).trans rfl, (zL BK430.out 7).trans rfl, (zL BK430.out 8).trans rfl⟩ (fun hHeld => ?_)
       clear hK K
       refine norm_ (a' := ?_) ?_ ?_
       rotate_left
       · show Act.put _ (some 45) _ = _
         simp only [Act.put, zS, zZ, zC, i64_w, i32_w]
         rfl
       refine pu_ 8 46 (dm_ 11 511) ?_
       refine pu_ 9 47 (dm_ 11 1023) ?_
       refine last_ (i := 10) (N := none) #[T_, T_, T_, T_, T_, T_, T_, T_, T_, T_, T_] rfl rfl (by kernel_rfl) (by decide) (fun K hK => ?_)
       have hs87 : w85.cell? ⟨gb421, 15, none⟩ = some (.slice Ao74 x422015_2.length co74) := (zL BK421.out 15).trans rfl
       have hfs87 := zF BK421.out 15
       have hns87_0 := NB404_421.out
       have hns87_1 := NB407_421.out
       have hns87_3 := NB429_421.out
       have hns87_4 := NB430_421.out
       have hms87_0 := NB421_404.out
       have hms87_1 := NB421_407.out
       have hms87_3 := NB421_429.out
       have hms87_4 := NB421_430.out
       refine skip_ (w1 := ?_) (by rfl) rfl ?_ ?_
       rotate_left
       · go_simp
         rfl
       refine hK.out _ _ ?_
       clear hK K
       refine done_ (by kernel_rfl) ?_
       try go_wp2
       have n0_ : Aside0 (Kd.R k43 43 (w85.setCell ⟨gb421, 15, none⟩ (.slice Ao86 t446.length co86)) w.heap.size (fun k_ => some k_ ≠ (.slice Ao74 x422015_2.length co74 : Value).ownBlock ∧ some k_ ≠ (.slice Ao77 t439.length co77 : Value).ownBlock ∧ some k_ ≠ (.slice Ao86 t446.length co86 : Value).ownBlock) (.slice Ao26 t415.length co26) t415) := ⟨by (with_reducible repeat (first | apply Kd.R_alloc | apply Kd.R_drewN | apply Kd.R_drew)); exact Kd.R_mono (Kd.R_far (p := ⟨gb421, 15, none⟩) (Kd.R_types HO_422007.out BK421.out (by decide)) (fun _ hk => hk.2) (.slice Ao86 t446.length co86)) (fun _ hk => ⟨hk.1.1.1, ⟨hk.1.1.2, hk.1.2⟩⟩)⟩
       have n1_ : Aside0 (Kd.R k48 48 (w85.setCell ⟨gb421, 15, none⟩ (.slice Ao86 t446.length co86)) w.heap.size (fun k_ => some k_ ≠ (.slice Ao75 x422016_2.length co75 : Value).ownBlock ∧ some k_ ≠ (.slice Ao78 t442.length co78 : Value).ownBlock) (.slice Ao25 t418.length co25) t418) := ⟨by (with_reducible repeat (first | apply Kd.R_alloc | apply Kd.R_drewN | apply Kd.R_drew)); exact Kd.R_mono (Kd.R_far (p := ⟨gb421, 15, none⟩) (Kd.R_types HO_422008.out BK421.out (by decide)) (fun _ hk => hk.2) (.slice Ao86 t446.length co86)) (fun _ hk => ⟨hk.1.1, hk.1.2⟩)⟩
       have n2_ : Aside0 (Kd.R k43 43 (w85.setCell ⟨gb421, 15, none⟩ (.slice Ao86 t446.length co86)) w.heap.size (fun k_ => some k_ ≠ (.slice Ao26 t415.length co26 : Value).ownBlock ∧ some k_ ≠ (.slice Ao77 t439.length co77 : Value).ownBlock ∧ some k_ ≠ (.slice Ao86 t446.length co86 : Value).ownBlock) (.slice Ao74 x422015_2.length co74) x422015_2) := ⟨by (with_reducible repeat (first | apply Kd.R_alloc | apply Kd.R_drewN | apply Kd.R_drew)); exact Kd.R_mono (Kd.R_far (p := ⟨gb421, 15, none⟩) (Kd.R_types HO_422015.out BK421.out (by decide)) (fun _ hk => hk.2) (.slice Ao86 t446.length co86)) (fun _ hk => ⟨hk.1.1.1, ⟨hk.1.1.2, hk.1.2⟩⟩)⟩
       have n3_ : Aside0 (Kd.R k48 48 (w85.setCell ⟨gb421, 15, none⟩ (.slice Ao86 t446.length co86)) w.heap.size (fun k_ => some k_ ≠ (.slice Ao25 t418.length co25 : Value).ownBlock ∧ some k_ ≠ (.slice Ao78 t442.length co78 : Value).ownBlock) (.slice Ao75 x422016_2.length co75) x422016_2) := ⟨by (with_reducible repeat (first | apply Kd.R_alloc | apply Kd.R_drewN | apply Kd.R_drew)); exact Kd.R_mono (Kd.R_far (p := ⟨gb421, 15, none⟩) (Kd.R_types HO_422016.out BK421.out (by decide)) (fun _ hk => hk.2) (.slice Ao86 t446.length co86)) (fun _ hk => ⟨hk.1.1, hk.1.2⟩)⟩
       have n4_ : Aside0 (Kd.R k43 43 (w85.setCell ⟨gb421, 15, none⟩ (.slice Ao86 t446.length co86)) w.heap.size (fun k_ => some k_ ≠ (.slice Ao26 t415.length co26 : Value).ownBlock ∧ some k_ ≠ (.slice Ao74 x422015_2.length co74 : Value).ownBlock ∧ some k_ ≠ (.slice Ao86 t446.length co86 : Value).ownBlock) (.slice Ao77 t439.length co77) t439) := ⟨by (with_reducible repeat (first | apply Kd.R_alloc | apply Kd.R_drewN | apply Kd.R_drew)); exact Kd.R_mono (Kd.R_far (p := ⟨gb421, 15, none⟩) (Kd.R_types HO441.out BK421.out (by decide)) (fun _ hk => hk.2) (.slice Ao86 t446.length co86)) (fun _ hk => ⟨hk.1.1.1, ⟨hk.1.1.2, hk.1.2⟩⟩)⟩
       have n5_ : Aside0 (Kd.R k48 48 (w85.setCell ⟨gb421, 15, none⟩ (.slice Ao86 t446.length co86)) w.heap.size (fun k_ => some k_ ≠ (.slice Ao25 t418.length co25 : Value).ownBlock ∧ some k_ ≠ (.slice Ao75 x422016_2.length co75 : Value).ownBlock) (.slice Ao78 t442.length co78) t442) := ⟨by (with_reducible repeat (first | apply Kd.R_alloc | apply Kd.R_drewN | apply Kd.R_drew)); exact Kd.R_mono (Kd.R_far (p := ⟨gb421, 15, none⟩) (Kd.R_types HO444.out BK421.out (by decide)) (fun _ hk => hk.2) (.slice Ao86 t446.length co86)) (fun _ hk => ⟨hk.1.1, hk.1.2⟩)⟩
       have n6_ : Aside0 (Kd.R k43 43 (w85.setCell ⟨gb421, 15, none⟩ (.slice Ao86 t446.length co86)) w.heap.size (fun k_ => some k_ ≠ (.slice Ao26 t415.length co26 : Value).ownBlock ∧ some k_ ≠ (.slice Ao74 x422015_2.length co74 : Value).ownBlock ∧ some k_ ≠ (.slice Ao77 t439.length co77 : Value).ownBlock) (.slice Ao86 t446.length co86) t446) := ⟨by (with_reducible repeat (first | apply Kd.R_alloc | apply Kd.R_drewN | apply Kd.R_drew)); exact Kd.R_mono (Kd.R_far (p := ⟨gb421, 15, none⟩) (Kd.R_types HO448.out BK421.out (by decide)) (fun _ hk => hk.2) (.slice Ao86 t446.length co86)) (fun _ hk => ⟨hk.1.1.1.2, ⟨hk.1.1.2, hk.1.2⟩⟩)⟩
       have n7_ : Aside0 ((w85.setCell ⟨gb421, 15, none⟩ (.slice Ao86 t446.length co86)).heap[gb404]? = some (.cells #[.int .i64 a0_0, .int .i64 a0_1, .int .i64 a0_2, .int .i64 a0_3, .int .i64 a0_4, .int .i64 a0_5, .int .i64 a0_6, .slice A0_7 l0_7.length c0_7, .slice A0_8 l0_8.length c0_8] 27 (0, 0))) := ⟨blf_⟩
       have n8_ : Aside0 ((w85.setCell ⟨gb421, 15, none⟩ (.slice Ao86 t446.length co86)).heap[gb407]? = some (.cells #[.int .i64 a0_0, .int .i64 a0_1, .int .i64 a0_2, .int .i64 a0_3, .int .i64 a0_4, .int .i64 a0_5, .int .i64 a0_6, .slice A0_7 l0_7.length c0_7, .slice A0_8 l0_8.length c0_8] 27 (0, 0))) := ⟨blf_⟩
       have n9_ : Aside0 ((w85.setCell ⟨gb421, 15, none⟩ (.slice Ao86 t446.length co86)).heap[gb421]? = some (.cells #[.int .i64 x422000_2, .int .i64 x422001_2, .int .i64 x422002_2, .int .i64 x422003_2, .int .i64 x422004_2, .int .i64 x422005_2, .int .i64 x422006_2, .slice Ao26 t415.length co26, .slice Ao25 t418.length co25, .bool (stA ((rd_T27 l1 x28_2).f1) 0 true x422009_2), .bool (stA ((rd_T27 l1 x28_2).f1) 1 true x422010_2), .bool (stA ((rd_T27 l1 x28_2).f1) 2 true x422011_2), .bool (stA ((rd_T27 l1 x28_2).f1) 3 true x422012_2), .bool (stA ((rd_T27 l1 x28_2).f1) 4 true x422013_2), .bool (stA ((rd_T27 l1 x28_2).f1) 5 true x422014_2), .slice Ao86 t446.length co86, .slice Ao75 x422016_2.length co75] 71 (0, 0))) := ⟨by (with_reducible repeat (first | refine zN ?_ _ | refine zD ?_ | refine zA ?_ _)); refine blk_put (cs := #[.int .i64 x422000_2, .int .i64 x422001_2, .int .i64 x422002_2, .int .i64 x422003_2, .int .i64 x422004_2, .int .i64 x422005_2, .int .i64 x422006_2, .slice Ao26 t415.length co26, .slice Ao25 t418.length co25, .bool (stA ((rd_T27 l1 x28_2).f1) 0 true x422009_2), .bool (stA ((rd_T27 l1 x28_2).f1) 1 true x422010_2), .bool (stA ((rd_T27 l1 x28_2).f1) 2 true x422011_2), .bool (stA ((rd_T27 l1 x28_2).f1) 3 true x422012_2), .bool (stA ((rd_T27 l1 x28_2).f1) 4 true x422013_2), .bool (stA ((rd_T27 l1 x28_2).f1) 5 true x422014_2), .slice Ao74 x422015_2.length co74, .slice Ao75 x422016_2.length co75]) ?_ 15 _ rfl; (with_reducible repeat (first | refine zN ?_ _ | refine zD ?_ | refine zA ?_ _)); exact BK421.out⟩
       have n10_ : Aside0 ((w85.setCell ⟨gb421, 15, none⟩ (.slice Ao86 t446.length co86)).heap[gb429]? = some (.cells #[.int .i64 ((rd_T27 l1 x28_2).f0), .int .i64 ((rd_T27 l1 x28_2).f1), .int .i64 ((rd_T27 l1 x28_2).f2), .int .i64 ((rd_T27 l1 x28_2).f3), .int .i64 ((rd_T27 l1 x28_2).f4), .int .i64 ((rd_T27 l1 x28_2).f5.f0), .int .i64 ((rd_T27 l1 x28_2).f5.f1), .slice A428_7 ((rd_T27 l1 x28_2).f6).length c428_7, .slice A428_8 ((rd_T27 l1 x28_2).f7).length c428_8] 27 (0, 0))) := ⟨blf_⟩
       have n11_ : Aside0 ((w85.setCell ⟨gb421, 15, none⟩ (.slice Ao86 t446.length co86)).heap[gb430]? = some (.cells #[.int .i64 ((rd_T27 l1 x28_2).f0), .int .i64 ((rd_T27 l1 x28_2).f1), .int .i64 ((rd_T27 l1 x28_2).f2), .int .i64 ((rd_T27 l1 x28_2).f3), .int .i64 ((rd_T27 l1 x28_2).f4), .int .i64 ((rd_T27 l1 x28_2).f5.f0), .int .i64 ((rd_T27 l1 x28_2).f5.f1), .slice A428_7 ((rd_T27 l1 x28_2).f6).length c428_7, .slice A428_8 ((rd_T27 l1 x28_2).f7).length c428_8] 27 (0, 0))) := ⟨blf_⟩
       have n12_ : Aside0 (Below w.heap.size w (w85.setCell ⟨gb421, 15, none⟩ (.slice Ao86 t446.length co86))) := ⟨bel_⟩
       (try clear HO_422007)
       (try clear HO_422008)
       (try clear HO_422015)
       (try clear HO_422016)
       (try clear HO441)
       (try clear HO444)
       (try clear HO448)
       (try clear BK404)
       (try clear BK407)
       (try clear BK421)
       (try clear BK429)
       (try clear BK430)
       (try clear HB)
       generalize (w85.setCell ⟨gb421, 15, none⟩ (.slice Ao86 t446.length co86)) = w88 at n0_ n1_ n2_ n3_ n4_ n5_ n6_ n7_ n8_ n9_ n10_ n11_ n12_ ⊢
       have HO_422007 := n0_
       have HO_422008 := n1_
       have HO_422015 := n2_
       have HO_422016 := n3_
       have HO441 := n4_
       have HO444 := n5_
       have HO448 := n6_
       have BK404 := n7_
       have BK407 := n8_
       have BK421 := n9_
       have BK429 := n10_
       have BK430 := n11_
       have HB := n12_
       clear n0_ n1_ n2_ n3_ n4_ n5_ n6_ n7_ n8_ n9_ n10_ n11_ n12_
       replace HO_422007 := zM (Kd.R_drew HO_422007.out)
       replace HO_422008 := zM (Kd.R_drew HO_422008.out)
       replace HO_422015 := zM (Kd.R_drew HO_422015.out)
       replace HO_422016 := zM (Kd.R_drew HO_422016.out)
       replace HO441 := zM (Kd.R_drew HO441.out)
       replace HO444 := zM (Kd.R_drew HO444.out)
       replace HO448 := zM (Kd.R_drew HO448.out)
       replace BK404 := zM (zD BK404.out)
       replace BK407 := zM (zD BK407.out)
       replace BK421 := zM (zD BK421.out)
       replace BK429 := zM (zD BK429.out)
       replace BK430 := zM (zD BK430.out)
       replace HB := zM (below_drew1 HB.out)
       refine start_ (n := 11) (S := fun w' => w'.cell? ⟨gb421, 0, none⟩ = some (.int .i64 x422000_2) ∧ w'.cell? ⟨gb421, 1, none⟩ = some (.int .i64 x422001_2) ∧ w'.cell? ⟨gb421, 2, none⟩ = some (.int .i64 x422002_2) ∧ w'.cell? ⟨gb421, 3, none⟩ = some (.int .i64 x422003_2) ∧ w'.cell? ⟨gb421, 4, none⟩ = some (.int .i64 x422004_2) ∧ w'.cell? ⟨gb421, 5, none⟩ = some (.int .i64 x422005_2) ∧ w'.cell? ⟨gb421, 6, none⟩ = some (.int .i64 x422006_2) ∧ w'.cell? ⟨gb421, 7, none⟩ = some (.slice Ao26 t415.length co26) ∧ w'.cell? ⟨gb421, 8, none⟩ = some (.slice Ao25 t418.length co25) ∧ w'.cell? ⟨gb421, 9, none⟩ = some (.bool (stA ((rd_T27 l1 x28_2).f1) 0 true x422009_2)) ∧ w'.cell? ⟨gb421, 10, none⟩ = some (.bool (stA ((rd_T27 l1 x28_2).f1) 1 true x422010_2)) ∧ w'.cell? ⟨gb421, 11, none⟩ = some (.bool (stA ((rd_T27 l1 x28_2).f1) 2 true x422011_2)) ∧ w'.cell? ⟨gb421, 12, none⟩ = some (.bool (stA ((rd_T27 l1 x28_2).f1) 3 true x422012_2)) ∧ w'.cell? ⟨gb421, 13, none⟩ = some (.bool (stA ((rd_T27 l1 x28_2).f1) 4 true x422013_2)) ∧ w'.cell? ⟨gb421, 14, none⟩ = some (.bool (stA ((rd_T27 l1 x28_2).f1) 5 true x422014_2)) ∧ w'.cell? ⟨gb421, 15, none⟩ = some (.slice Ao86 t446.length co86) ∧ w'.cell? ⟨gb421, 16, none⟩ = some (.slice Ao75 x422016_2.length co75) ∧ w'.cell? ⟨gb430, 0, none⟩ = some (.int .i64 ((rd_T27 l1 x28_2).f0)) ∧ w'.cell? ⟨gb430, 1, none⟩ = some (.int .i64 ((rd_T27 l1 x28_2).f1)) ∧ w'.cell? ⟨gb430, 2, none⟩ = some (.int .i64 ((rd_T27 l1 x28_2).f2)) ∧ w'.cell? ⟨gb430, 3, none⟩ = some (.int .i64 ((rd_T27 l1 x28_2).f3)) ∧ w'.cell? ⟨gb430, 4, none⟩ = some (.int .i64 ((rd_T27 l1 x28_2).f4)) ∧ w'.cell? ⟨gb430, 5, none⟩ = some (.int .i64 ((rd_T27 l1 x28_2).f5.f0)) ∧ w'.cell? ⟨gb430, 6, none⟩ = some (.int .i64 ((rd_T27 l1 x28_2).f5.f1)) ∧ w'.cell? ⟨gb430, 7, none⟩ = some (.slice A428_7 ((rd_T27 l1 x28_2).f6).length c428_7) ∧ w'.cell? ⟨gb430, 8, none⟩ = some (.slice A428_8 ((rd_T27 l1 x28_2).f7).length c428_8)) (ds := [10]) #[F_, F_, F_, F_, F_, F_, F_, F_, F_, F_, F_] (by kernel_rfl) rfl rfl ⟨(zL BK421.out 0).trans rfl, (zL BK421.out 1).trans rfl, (zL BK421.out 2).trans rfl, (zL BK421.out 3).trans rfl, (zL BK421.out 4).trans rfl, (zL BK421.out 5).trans rfl, (zL BK421.out 6).trans rfl, (zL BK421.out 7).trans rfl, (zL BK421.out 8).trans rfl, (zL BK421.out 9).trans rfl, (zL BK421.out 10).trans rfl, (zL BK421.out 11).trans rfl, (zL BK421.out 12).trans rfl, (zL BK421.out 13).trans rfl, (zL BK421.out 14).trans rfl, (zL BK421.out 15).trans rfl, (zL BK421.out 16).trans rfl, (zL BK430.out 0).trans rfl, (zL BK430.out 1).trans rfl, (zL BK430.out 2).trans rfl, (zL BK430.out 3).trans rfl, (zL BK430.out 4).trans rfl, (zL BK430.out 5).trans rfl, (zL BK430.out 6).trans rfl, (zL BK430.out 7).trans rfl, (zL BK430.out 8).trans rfl⟩ (fun hHeld => ?_)
       generalize w88.drew = w89 at HO_422007 HO_422008 HO_422015 HO_422016 HO441 HO444 HO448 BK404 BK407 BK421 BK429 BK430 HB hHeld ⊢
       refine pu_ 0 48 (dm_ 11 1) ?_
       refine pu_ 1 49 (dm_ 11 3) ?_
       refine pu_ 2 50 (dm_ 11 7) ?_
       refine pu_ 3 51 (dm_ 11 15) ?_
       refine pu_ 5 53 (dm_ 11 47) ?_
       refine tk_ hHeld 4 52 (dm_ 11 63) ?_
       refine tk_ hHeld 6 54 (dm_ 11 127) ?_
       refine one_ (i := 7) (N := some 55) (dm_ 11 255) rfl rfl (by kernel_rfl) (by decide) (fun K hK => ?_)
       refine goes_ Try.func43 (by kernel_rfl) rfl #[.slice Ao75 x422016_2.length co75, .slice A428_8 ((rd_T27 l1 x28_2).f7).length c428_8] (by rfl) rfl rfl (by (try simp only [List.map_toArray, List.map_cons, List.map_nil]); first | done | rfl | (simp only [List.length_drop, List.length_take]; rfl)) ?_
       with_reducible refine (book_Merge.calls k2 _ _ x422016_2 _ _ ((rd_T27 l1 x28_2).f7) t449 _ ?side1 ?side2 ?side3 ?side4 A63.out).mono ?_
       (case side1 => repeat (first | exact (Kd.R_reads' HO_422016.out).2.2 | (with_reducible refine Kd.C_alloc ?_ _) | (with_reducible refine Kd.C_drewN ?_ _) | (with_reducible refine Kd.C_drew ?_)))
       (case side2 => exact (Kd.R_reads' HO_422016.out).2.1)
       (case side3 => repeat (first | exact (Kd.C_below HR428_8.out HB.out) | (with_reducible refine Kd.C_alloc ?_ _) | (with_reducible refine Kd.C_drewN ?_ _) | (with_reducible refine Kd.C_drew ?_)))
       (case side4 => exact HC428_8.out)
       rintro e w90 ⟨v450, rfl, ho0, hb⟩
       refine ⟨_, rfl, ?_⟩
       replace HO_422007 := zM (Kd.R_below (rl_ HO_422007) hb)
       replace HO_422015 := zM (Kd.R_below (rl_ HO_422015) hb)
       replace HO441 := zM (Kd.R_below (rl_ HO441) hb)
       replace HO448 := zM (Kd.R_below (rl_ HO448) hb)
       have HO451 := zM (Kd.R_lower (Kd.R_new' (Kd.R_new' (Kd.R_new' ho0 (Kd.R_lt (rl_ HO_422008))) (Kd.R_lt (rl_ HO_422016))) (Kd.R_lt (rl_ HO444))) (below_size bel_))
       replace HO_422008 := zM (Kd.R_elder' (rl_ HO_422008) (Kd.R_base ho0) hb)
       replace HO_422016 := zM (Kd.R_elder' (rl_ HO_422016) (Kd.R_base ho0) hb)
       replace HO444 := zM (Kd.R_elder' (rl_ HO444) (Kd.R_base ho0) hb)
       replace BK404 := zM (bb_ BK404 hb)
       replace BK407 := zM (bb_ BK407 hb)
       replace BK421 := zM (bb_ BK421 hb)
       replace BK429 := zM (bb_ BK429 hb)
       replace BK430 := zM (bb_ BK430 hb)
       replace HB := zM (zB bel_ hb)
       (try clear hb)
       (try clear hb2)
       (try clear hk)
       (try clear hi)
       (try clear ho0)
       obtain ⟨Ao91, co91, eo91⟩ := Kd.R_slice HO451.out
       (first | subst eo91 | (injection eo91 with f1_ f2_ f3_; have f4_ := f1_.symm; have f5_ := f3_.symm; clear f1_ f2_ f3_; subst f4_; subst f5_))
       refine hK.out _ _ ⟨(zL BK421.out 0).trans rfl, (zL BK421.out 1).trans rfl, (zL BK421.out 2).trans rfl, (zL BK421.out 3).trans rfl, (zL BK421.out 4).trans rfl, (zL BK421.out 5).trans rfl, (zL BK421.out 6).trans rfl, (zL BK421.out 7).trans rfl, (zL BK421.out 8).trans rfl, (zL BK421.out 9).trans rfl, (zL BK421.out 10).trans rfl, (zL BK421.out 11).trans rfl, (zL BK421.out 12).trans rfl, (zL BK421.out 13).trans rfl, (zL BK421.out 14).trans rfl, (zL BK421.out 15).trans rfl, (zL BK421.out 16).trans rfl, (zL BK430.out 0).trans rfl, (zL BK430.out 1).trans rfl, (zL BK430.out 2).trans rfl, (zL BK430.out 3).trans rfl, (zL BK430.out 4).trans rfl, (zL BK430.out 5).trans rfl, (zL BK430.out 6).trans rfl, (zL BK430.out 7).trans rfl, (zL BK430.out 8).trans rfl⟩ (fun hHeld => ?_)
       clear hK K
       refine norm_ (a' := ?_) ?_ ?_
       rotate_left
       · show Act.put _ (some 55) _ = _
         simp only [Act.put, zS, zZ, zC, i64_w, i32_w]
         rfl
       refine pu_ 8 56 (dm_ 11 511) ?_
       refine pu_ 9 57 (dm_ 11 1023) ?_
       refine last_ (i := 10) (N := none) #[T_, T_, T_, T_, T_, T_, T_, T_, T_, T_, T_] rfl rfl (by kernel_rfl) (by decide) (fun K hK => ?_)
       have hs92 : w90.cell? ⟨gb421, 16, none⟩ = some (.slice Ao75 x422016_2.length co75) := (zL BK421.out 16).trans rfl
       have hfs92 := zF BK421.out 16
       have hns92_0 := NB404_421.out
       have hns92_1 := NB407_421.out
       have hns92_3 := NB429_421.out
       have hns92_4 := NB430_421.out
       have hms92_0 := NB421_404.out
       have hms92_1 := NB421_407.out
       have hms92_3 := NB421_429.out
       have hms92_4 := NB421_430.out
       refine skip_ (w1 := ?_) (by rfl) rfl ?_ ?_
       rotate_left
       · go_simp
         rfl
       refine hK.out _ _ ?_
       clear hK K
       refine done_ (by kernel_rfl) ?_
       have tk93 : True := trivial
       try go_wp2_with (first | (clear tk93; (first | go_ret | go_ret2 | go_ret3 | go_end0); with_reducible refine inl_back_ ?_))
       go_meet
       case rel => exact ⟨_, (true), (x422000_2), (x422001_2), (x422002_2), (x422003_2), (x422004_2), (x422005_2), (x422006_2), (stA ((rd_T27 l1 x28_2).f1) 0 true x422009_2), (stA ((rd_T27 l1 x28_2).f1) 1 true x422010_2), (stA ((rd_T27 l1 x28_2).f1) 2 true x422011_2), (stA ((rd_T27 l1 x28_2).f1) 3 true x422012_2), (stA ((rd_T27 l1 x28_2).f1) 4 true x422013_2), (stA ((rd_T27 l1 x28_2).f1) 5 true x422014_2), (t446), (t449), (.slice Ao86 t446.length co86), (.slice Ao91 t449.length co91), (by first | rfl | (simp; done) | (simp [*]; done) | (simp; grind)), H', ⟨by have := HJ8.out; have := HK2.out; first | omega | exact Nat.le_refl _⟩, ⟨by (with_reducible repeat (first | apply Kd.R_alloc | apply Kd.R_drewN | apply Kd.R_drew)); exact Kd.R_mono (Kd.R_far (p := ⟨gb421, 16, none⟩) (Kd.R_types HO_422007.out BK421.out (by decide)) (fun _ hk => hk.2) (.slice Ao91 t449.length co91)) (fun _ hk => hk.1.2.2)⟩, ⟨by (with_reducible repeat (first | apply Kd.R_alloc | apply Kd.R_drewN | apply Kd.R_drew)); exact Kd.R_mono (Kd.R_far (p := ⟨gb421, 16, none⟩) (Kd.R_types HO_422008.out BK421.out (by decide)) (fun _ hk => hk.2) (.slice Ao91 t449.length co91)) (fun _ hk => hk.1.2)⟩, ⟨by (with_reducible repeat (first | apply Kd.R_alloc | apply Kd.R_drewN | apply Kd.R_drew)); exact Kd.R_mono (Kd.R_far (p := ⟨gb421, 16, none⟩) (Kd.R_types HO448.out BK421.out (by decide)) (fun _ hk => hk.2) (.slice Ao91 t449.length co91)) (fun _ hk => hk.1.1)⟩, ⟨by (with_reducible repeat (first | apply Kd.R_alloc | apply Kd.R_drewN | apply Kd.R_drew)); exact Kd.R_mono (Kd.R_far (p := ⟨gb421, 16, none⟩) (Kd.R_types HO451.out BK421.out (by decide)) (fun _ hk => hk.2) (.slice Ao91 t449.length co91)) (fun _ hk => hk.1.1.1.2)⟩, ⟨blf_⟩, ⟨blf_⟩, ⟨by (with_reducible repeat (first | refine zN ?_ _ | refine zD ?_ | refine zA ?_ _)); refine blk_put (cs := #[.int .i64 x422000_2, .int .i64 x422001_2, .int .i64 x422002_2, .int .i64 x422003_2, .int .i64 x422004_2, .int .i64 x422005_2, .int .i64 x422006_2, .slice Ao26 t415.length co26, .slice Ao25 t418.length co25, .bool (stA ((rd_T27 l1 x28_2).f1) 0 true x422009_2), .bool (stA ((rd_T27 l1 x28_2).f1) 1 true x422010_2), .bool (stA ((rd_T27 l1 x28_2).f1) 2 true x422011_2), .bool (stA ((rd_T27 l1 x28_2).f1) 3 true x422012_2), .bool (stA ((rd_T27 l1 x28_2).f1) 4 true x422013_2), .bool (stA ((rd_T27 l1 x28_2).f1) 5 true x422014_2), .slice Ao86 t446.length co86, .slice Ao75 x422016_2.length co75]) ?_ 16 _ rfl; (with_reducible repeat (first | refine zN ?_ _ | refine zD ?_ | refine zA ?_ _)); exact BK421.out⟩, ⟨blf_⟩, ⟨bel_⟩⟩
      case rest =>
       clear HC41
       try clear c1
       try clear c43
       try clear c44
       try clear c45
       try clear hcz114_0
       try clear hcz114_1
       try clear hcz114_2
       try clear hcz114_3
       try clear hcz114_4
       try clear hcz114_5
       try clear hcz114_6
       try clear hcz114_7
       try clear hcz114_8
       try clear hfz114_0
       try clear hfz114_1
       try clear hfz114_2
       try clear hfz114_3
       try clear hfz114_4
       try clear hfz114_5
       try clear hfz114_6
       try clear hfz114_7
       try clear hfz114_8
       obtain ⟨kq, x10_40, x422000_40, x422001_40, x422002_40, x422003_40, x422004_40, x422005_40, x422006_40, x422009_40, x422010_40, x422011_40, x422012_40, x422013_40, x422014_40, x422015_40, x422016_40, u422015, u422016, rfl, HA, HJ40, HO_422007, HO_422008, HO_422015, HO_422016, BK404, BK407, BK421, BK429, HB⟩ := hcut
       cases kq with
       | zero => exact absurd HA.out (by simp [ropewaylaw14_RoundStays.j2])
       | succ kj40 =>
        have H := HA.out
        clear HA
        simp only [ropewaylaw14_RoundStays.j2] at H
        have HC121 := zM H
        clear H
        go_upto_if 35 with (fail)
        (try simp only [Act.put, zS, zZ, zC])
        go_cut [7] (fun v7 wc => ∃ (kq : Nat) (x7_120 : Int), v7 = .int .i64 x7_120 ∧ Aside0 (ropewaylaw14_RoundStays.j3 kq x6_2 x7_120 x10_40 l1 (l1.length : Int) x28_2 a0_0 a0_1 a0_2 a0_3 a0_4 a0_5 a0_6 l0_7 l0_8 x422000_40 x422001_40 x422002_40 x422003_40 x422004_40 x422005_40 x422006_40 t415 t418 x422009_40 x422010_40 x422011_40 x422012_40 x422013_40 x422014_40 x422015_40 x422016_40 ((rd_T27 l1 x28_2).f0) ((rd_T27 l1 x28_2).f1) ((rd_T27 l1 x28_2).f2) ((rd_T27 l1 x28_2).f3) ((rd_T27 l1 x28_2).f4) ((rd_T27 l1 x28_2).f5.f0) ((rd_T27 l1 x28_2).f5.f1) ((rd_T27 l1 x28_2).f6) ((rd_T27 l1 x28_2).f7) = some r) ∧ Aside0 (kq ≤ kj40) ∧ Aside0 (Kd.R k43 43 wc w.heap.size (fun k_ => some k_ ≠ (u422015 : Value).ownBlock) (.slice Ao26 t415.length co26) t415) ∧ Aside0 (Kd.R k48 48 wc w.heap.size (fun k_ => some k_ ≠ (u422016 : Value).ownBlock) (.slice Ao25 t418.length co25) t418) ∧ Aside0 (Kd.R k43 43 wc w.heap.size (fun k_ => some k_ ≠ ((.slice Ao26 t415.length co26) : Value).ownBlock) u422015 x422015_40) ∧ Aside0 (Kd.R k48 48 wc w.heap.size (fun k_ => some k_ ≠ ((.slice Ao25 t418.length co25) : Value).ownBlock) u422016 x422016_40) ∧ Aside0 (wc.heap[gb404]? = some (.cells #[.int .i64 a0_0, .int .i64 a0_1, .int .i64 a0_2, .int .i64 a0_3, .int .i64 a0_4, .int .i64 a0_5, .int .i64 a0_6, (.slice A0_7 l0_7.length c0_7), (.slice A0_8 l0_8.length c0_8)] 27 (0, 0))) ∧ Aside0 (wc.heap[gb407]? = some (.cells #[.int .i64 a0_0, .int .i64 a0_1, .int .i64 a0_2, .int .i64 a0_3, .int .i64 a0_4, .int .i64 a0_5, .int .i64 a0_6, (.slice A0_7 l0_7.length c0_7), (.slice A0_8 l0_8.length c0_8)] 27 (0, 0))) ∧ Aside0 (wc.heap[gb421]? = some (.cells #[.int .i64 x422000_40, .int .i64 x422001_40, .int .i64 x422002_40, .int .i64 x422003_40, .int .i64 x422004_40, .int .i64 x422005_40, .int .i64 x422006_40, (.slice Ao26 t415.length co26), (.slice Ao25 t418.length co25), .bool x422009_40, .bool x422010_40, .bool x422011_40, .bool x422012_40, .bool x422013_40, .bool x422014_40, u422015, u422016] 71 (0, 0))) ∧ Aside0 (wc.heap[gb429]? = some (.cells #[.int .i64 ((rd_T27 l1 x28_2).f0), .int .i64 ((rd_T27 l1 x28_2).f1), .int .i64 ((rd_T27 l1 x28_2).f2), .int .i64 ((rd_T27 l1 x28_2).f3), .int .i64 ((rd_T27 l1 x28_2).f4), .int .i64 ((rd_T27 l1 x28_2).f5.f0), .int .i64 ((rd_T27 l1 x28_2).f5.f1), (.slice A428_7 ((rd_T27 l1 x28_2).f6).length c428_7), (.slice A428_8 ((rd_T27 l1 x28_2).f7).length c428_8)] 27 (0, 0))) ∧ Aside0 (Below w.heap.size w wc))
        case first =>
         have H := HC121.out
         clear HC121
         by_cases c122 : x10_40 = true
         · subst c122
           have H1 : (ropewaylaw14_RoundStays.j3 kj40 x6_2 (wrap64 (x7_2 + 1)) true l1 (l1.length : Int) x28_2 a0_0 a0_1 a0_2 a0_3 a0_4 a0_5 a0_6 l0_7 l0_8 x422000_40 x422001_40 x422002_40 x422003_40 x422004_40 x422005_40 x422006_40 t415 t418 x422009_40 x422010_40 x422011_40 x422012_40 x422013_40 x422014_40 x422015_40 x422016_40 ((rd_T27 l1 x28_2).f0) ((rd_T27 l1 x28_2).f1) ((rd_T27 l1 x28_2).f2) ((rd_T27 l1 x28_2).f3) ((rd_T27 l1 x28_2).f4) ((rd_T27 l1 x28_2).f5.f0) ((rd_T27 l1 x28_2).f5.f1) ((rd_T27 l1 x28_2).f6) ((rd_T27 l1 x28_2).f7)) = some r := by rw [if_pos rfl] at H; exact H
           clear H
           have H := H1
           clear H1
           have H' := zM H
           clear H
           go_wp2
           go_meet
           case rel => exact ⟨_, (wrap64 (x7_2 + 1)), (by first | rfl | (simp; done) | (simp [*]; done) | (simp; grind)), H', ⟨by have := HJ8.out; have := HK2.out; have := HJ40.out; first | omega | exact Nat.le_refl _⟩, ⟨by (with_reducible repeat (first | apply Kd.R_alloc | apply Kd.R_drewN | apply Kd.R_drew)); exact HO_422007.out⟩, ⟨by (with_reducible repeat (first | apply Kd.R_alloc | apply Kd.R_drewN | apply Kd.R_drew)); exact HO_422008.out⟩, ⟨by (with_reducible repeat (first | apply Kd.R_alloc | apply Kd.R_drewN | apply Kd.R_drew)); exact HO_422015.out⟩, ⟨by (with_reducible repeat (first | apply Kd.R_alloc | apply Kd.R_drewN | apply Kd.R_drew)); exact HO_422016.out⟩, ⟨blf_⟩, ⟨blf_⟩, ⟨blf_⟩, ⟨blf_⟩, ⟨bel_⟩⟩
         replace c122 := Bool.eq_false_iff.mpr c122
         subst c122
         have H1 : (ropewaylaw14_RoundStays.j3 kj40 x6_2 x7_2 false l1 (l1.length : Int) x28_2 a0_0 a0_1 a0_2 a0_3 a0_4 a0_5 a0_6 l0_7 l0_8 x422000_40 x422001_40 x422002_40 x422003_40 x422004_40 x422005_40 x422006_40 t415 t418 x422009_40 x422010_40 x422011_40 x422012_40 x422013_40 x422014_40 x422015_40 x422016_40 ((rd_T27 l1 x28_2).f0) ((rd_T27 l1 x28_2).f1) ((rd_T27 l1 x28_2).f2) ((rd_T27 l1 x28_2).f3) ((rd_T27 l1 x28_2).f4) ((rd_T27 l1 x28_2).f5.f0) ((rd_T27 l1 x28_2).f5.f1) ((rd_T27 l1 x28_2).f6) ((rd_T27 l1 x28_2).f7)) = some r := by rw [if_neg (show ¬ (false = true) by decide)] at H; exact H
         clear H
         have H := H1
         clear H1
         have H' := zM H
         clear H
         go_wp2
         go_meet
         case rel => exact ⟨_, (x7_2), (by first | rfl | (simp; done) | (simp [*]; done) | (simp; grind)), H', ⟨by have := HJ8.out; have := HK2.out; have := HJ40.out; first | omega | exact Nat.le_refl _⟩, ⟨by (with_reducible repeat (first | apply Kd.R_alloc | apply Kd.R_drewN | apply Kd.R_drew)); exact HO_422007.out⟩, ⟨by (with_reducible repeat (first | apply Kd.R_alloc | apply Kd.R_drewN | apply Kd.R_drew)); exact HO_422008.out⟩, ⟨by (with_reducible repeat (first | apply Kd.R_alloc | apply Kd.R_drewN | apply Kd.R_drew)); exact HO_422015.out⟩, ⟨by (with_reducible repeat (first | apply Kd.R_alloc | apply Kd.R_drewN | apply Kd.R_drew)); exact HO_422016.out⟩, ⟨blf_⟩, ⟨blf_⟩, ⟨blf_⟩, ⟨blf_⟩, ⟨bel_⟩⟩
        case rest =>
         clear HC121
         try clear c1
         try clear c43
         try clear c44
         try clear c45
         try clear c122
         try clear hcz114_0
         try clear hcz114_1
         try clear hcz114_2
         try clear hcz114_3
         try clear hcz114_4
         try clear hcz114_5
         try clear hcz114_6
         try clear hcz114_7
         try clear hcz114_8
         try clear hfz114_0
         try clear hfz114_1
         try clear hfz114_2
         try clear hfz114_3
         try clear hfz114_4
         try clear hfz114_5
         try clear hfz114_6
         try clear hfz114_7
         try clear hfz114_8
         obtain ⟨kq, x7_120, rfl, HA, HJ120, HO_422007, HO_422008, HO_422015, HO_422016, BK404, BK407, BK421, BK429, HB⟩ := hcut
         cases kq with
         | zero => exact absurd HA.out (by simp [ropewaylaw14_RoundStays.j3])
         | succ kj120 =>
          have H := HA.out
          clear HA
          simp only [ropewaylaw14_RoundStays.j3] at H
          have HC123 := zM H
          clear H
          go_upto_region 13 with (fail)
          (try simp only [Act.put, zS, zZ, zC])
          go_cut [50] (fun v50 wc => ∃ (kq : Nat) (x50_122 : Bool) (x422000_122 : Int) (x422001_122 : Int) (x422002_122 : Int) (x422003_122 : Int) (x422004_122 : Int) (x422005_122 : Int) (x422006_122 : Int) (x422009_122 : Bool) (x422010_122 : Bool) (x422011_122 : Bool) (x422012_122 : Bool) (x422013_122 : Bool) (x422014_122 : Bool), v50 = .bool x50_122 ∧ Aside0 (ropewaylaw14_RoundStays.j4 kq x7_120 x10_40 l1 (l1.length : Int) x28_2 x50_122 a0_0 a0_1 a0_2 a0_3 a0_4 a0_5 a0_6 l0_7 l0_8 x422000_122 x422001_122 x422002_122 x422003_122 x422004_122 x422005_122 x422006_122 t415 t418 x422009_122 x422010_122 x422011_122 x422012_122 x422013_122 x422014_122 x422015_40 x422016_40 ((rd_T27 l1 x28_2).f0) ((rd_T27 l1 x28_2).f1) ((rd_T27 l1 x28_2).f2) ((rd_T27 l1 x28_2).f3) ((rd_T27 l1 x28_2).f4) ((rd_T27 l1 x28_2).f5.f0) ((rd_T27 l1 x28_2).f5.f1) ((rd_T27 l1 x28_2).f6) ((rd_T27 l1 x28_2).f7) = some r) ∧ Aside0 (kq ≤ kj120) ∧ Aside0 (Kd.R k43 43 wc w.heap.size (fun k_ => some k_ ≠ (u422015 : Value).ownBlock) (.slice Ao26 t415.length co26) t415) ∧ Aside0 (Kd.R k48 48 wc w.heap.size (fun k_ => some k_ ≠ (u422016 : Value).ownBlock) (.slice Ao25 t418.length co25) t418) ∧ Aside0 (Kd.R k43 43 wc w.heap.size (fun k_ => some k_ ≠ ((.slice Ao26 t415.length co26) : Value).ownBlock) u422015 x422015_40) ∧ Aside0 (Kd.R k48 48 wc w.heap.size (fun k_ => some k_ ≠ ((.slice Ao25 t418.length co25) : Value).ownBlock) u422016 x422016_40) ∧ Aside0 (wc.heap[gb404]? = some (.cells #[.int .i64 a0_0, .int .i64 a0_1, .int .i64 a0_2, .int .i64 a0_3, .int .i64 a0_4, .int .i64 a0_5, .int .i64 a0_6, (.slice A0_7 l0_7.length c0_7), (.slice A0_8 l0_8.length c0_8)] 27 (0, 0))) ∧ Aside0 (wc.heap[gb407]? = some (.cells #[.int .i64 a0_0, .int .i64 a0_1, .int .i64 a0_2, .int .i64 a0_3, .int .i64 a0_4, .int .i64 a0_5, .int .i64 a0_6, (.slice A0_7 l0_7.length c0_7), (.slice A0_8 l0_8.length c0_8)] 27 (0, 0))) ∧ Aside0 (wc.heap[gb421]? = some (.cells #[.int .i64 x422000_122, .int .i64 x422001_122, .int .i64 x422002_122, .int .i64 x422003_122, .int .i64 x422004_122, .int .i64 x422005_122, .int .i64 x422006_122, (.slice Ao26 t415.length co26), (.slice Ao25 t418.length co25), .bool x422009_122, .bool x422010_122, .bool x422011_122, .bool x422012_122, .bool x422013_122, .bool x422014_122, u422015, u422016] 71 (0, 0))) ∧ Aside0 (wc.heap[gb429]? = some (.cells #[.int .i64 ((rd_T27 l1 x28_2).f0), .int .i64 ((rd_T27 l1 x28_2).f1), .int .i64 ((rd_T27 l1 x28_2).f2), .int .i64 ((rd_T27 l1 x28_2).f3), .int .i64 ((rd_T27 l1 x28_2).f4), .int .i64 ((rd_T27 l1 x28_2).f5.f0), .int .i64 ((rd_T27 l1 x28_2).f5.f1), (.slice A428_7 ((rd_T27 l1 x28_2).f6).length c428_7), (.slice A428_8 ((rd_T27 l1 x28_2).f7).length c428_8)] 27 (0, 0))) ∧ Aside0 (Below w.heap.size w wc))
          case first =>
           have H := HC123.out
           clear HC123
           by_cases c124 : x6_2 = true
           rotate_left
           · replace c124 := Bool.eq_false_iff.mpr c124
             subst c124
             have H1 : ((round_Round_Who.f kj120 x422000_40 x422001_40 x422002_40 x422003_40 x422004_40 x422005_40 x422006_40 t415 t418 x422009_40 x422010_40 x422011_40 x422012_40 x422013_40 x422014_40 x422015_40 x422016_40).bind fun t456 => (ropewaylaw14_RoundStays.j4 kj120 x7_120 x10_40 l1 (l1.length : Int) x28_2 ((t456.length : Int) != x7_120) a0_0 a0_1 a0_2 a0_3 a0_4 a0_5 a0_6 l0_7 l0_8 x422000_40 x422001_40 x422002_40 x422003_40 x422004_40 x422005_40 x422006_40 t415 t418 x422009_40 x422010_40 x422011_40 x422012_40 x422013_40 x422014_40 x422015_40 x422016_40 ((rd_T27 l1 x28_2).f0) ((rd_T27 l1 x28_2).f1) ((rd_T27 l1 x28_2).f2) ((rd_T27 l1 x28_2).f3) ((rd_T27 l1 x28_2).f4) ((rd_T27 l1 x28_2).f5.f0) ((rd_T27 l1 x28_2).f5.f1) ((rd_T27 l1 x28_2).f6) ((rd_T27 l1 x28_2).f7))) = some r := by rw [if_neg (show ¬ (false = true) by decide)] at H; exact H
             clear H
             have H := H1
             clear H1
             replace H := Option.bind_eq_some_iff.mp H
             obtain ⟨t456, A1390, H⟩ := H
             replace H : (ropewaylaw14_RoundStays.j4 kj120 x7_120 x10_40 l1 (l1.length : Int) x28_2 ((t456.length : Int) != x7_120) a0_0 a0_1 a0_2 a0_3 a0_4 a0_5 a0_6 l0_7 l0_8 x422000_40 x422001_40 x422002_40 x422003_40 x422004_40 x422005_40 x422006_40 t415 t418 x422009_40 x422010_40 x422011_40 x422012_40 x422013_40 x422014_40 x422015_40 x422016_40 ((rd_T27 l1 x28_2).f0) ((rd_T27 l1 x28_2).f1) ((rd_T27 l1 x28_2).f2) ((rd_T27 l1 x28_2).f3) ((rd_T27 l1 x28_2).f4) ((rd_T27 l1 x28_2).f5.f0) ((rd_T27 l1 x28_2).f5.f1) ((rd_T27 l1 x28_2).f6) ((rd_T27 l1 x28_2).f7)) = some r := H
             have A139 := zM A1390
             clear A1390
             have H' := zM H
             clear H
             obtain ⟨Ao140, co140, eo140⟩ := Kd.R_slice HO_422015.out
             subst eo140
             obtain ⟨Ao141, co141, eo141⟩ := Kd.R_slice HO_422016.out
             subst eo141
             have tk143 : True := trivial
             go_wp2_with (first | (go_at_call 14; (with_reducible refine (round_Round_Who.calls kj120 gb421 x422000_40 x422001_40 x422002_40 x422003_40 x422004_40 x422005_40 x422006_40 Ao26 co26 t415 Ao25 co25 t418 x422009_40 x422010_40 x422011_40 x422012_40 x422013_40 x422014_40 Ao140 co140 x422015_40 Ao141 co141 x422016_40 t456 _ ?side1 ?side2 ?side3 ?side4 ?side5 ?side6 ?side7 ?side8 ?side9 A139.out).mono ?_); (case side1 => repeat (first | exact (Kd.R_reads' HO_422007.out).2.2 | (with_reducible refine Kd.C_alloc ?_ _) | (with_reducible refine Kd.C_drewN ?_ _) | (with_reducible refine Kd.C_drew ?_))); (case side2 => exact (Kd.R_reads' HO_422007.out).2.1); (case side3 => repeat (first | exact (Kd.R_reads' HO_422008.out).2.2 | (with_reducible refine Kd.C_alloc ?_ _) | (with_reducible refine Kd.C_drewN ?_ _) | (with_reducible refine Kd.C_drew ?_))); (case side4 => exact (Kd.R_reads' HO_422008.out).2.1); (case side5 => repeat (first | exact (Kd.R_reads' HO_422015.out).2.2 | (with_reducible refine Kd.C_alloc ?_ _) | (with_reducible refine Kd.C_drewN ?_ _) | (with_reducible refine Kd.C_drew ?_))); (case side6 => exact (Kd.R_reads' HO_422015.out).2.1); (case side7 => repeat (first | exact (Kd.R_reads' HO_422016.out).2.2 | (with_reducible refine Kd.C_alloc ?_ _) | (with_reducible refine Kd.C_drewN ?_ _) | (with_reducible refine Kd.C_drew ?_))); (case side8 => exact (Kd.R_reads' HO_422016.out).2.1); (case side9 => exact blf_); clear tk143; rintro e w142 ⟨v457, rfl, ho0, hb⟩; replace HO_422007 := zM (Kd.R_below (rl_ HO_422007) hb); replace HO_422008 := zM (Kd.R_below (rl_ HO_422008) hb); replace HO_422015 := zM (Kd.R_below (rl_ HO_422015) hb); replace HO_422016 := zM (Kd.R_below (rl_ HO_422016) hb); have HO458 := zM (Kd.R_lower ho0 (below_size bel_)); replace BK404 := zM (bb_ BK404 hb); replace BK407 := zM (bb_ BK407 hb); replace BK421 := zM (bb_ BK421 hb); replace BK429 := zM (bb_ BK429 hb); replace HB := zM (zB bel_ hb); (try clear hb); (try clear ho0); obtain ⟨Ao144, co144, eo144⟩ := Kd.R_slice HO458.out; subst eo144))
             go_meet
             case rel => exact ⟨_, (((t456.length : Int) != x7_120)), (x422000_40), (x422001_40), (x422002_40), (x422003_40), (x422004_40), (x422005_40), (x422006_40), (x422009_40), (x422010_40), (x422011_40), (x422012_40), (x422013_40), (x422014_40), (by first | rfl | (simp; done) | (simp [*]; done) | (simp; grind)), H', ⟨by have := HJ8.out; have := HK2.out; have := HJ40.out; have := HJ120.out; first | omega | exact Nat.le_refl _⟩, ⟨by (with_reducible repeat (first | apply Kd.R_alloc | apply Kd.R_drewN | apply Kd.R_drew)); exact HO_422007.out⟩, ⟨by (with_reducible repeat (first | apply Kd.R_alloc | apply Kd.R_drewN | apply Kd.R_drew)); exact HO_422008.out⟩, ⟨by (with_reducible repeat (first | apply Kd.R_alloc | apply Kd.R_drewN | apply Kd.R_drew)); exact HO_422015.out⟩, ⟨by (with_reducible repeat (first | apply Kd.R_alloc | apply Kd.R_drewN | apply Kd.R_drew)); exact HO_422016.out⟩, ⟨blf_⟩, ⟨blf_⟩, ⟨blf_⟩, ⟨blf_⟩, ⟨bel_⟩⟩
           subst c124
           have H1 : ((round_Round_Done.f kj120 x422000_40 x422001_40 x422002_40 x422003_40 x422004_40 x422005_40 x422006_40 t415 t418 x422009_40 x422010_40 x422011_40 x422012_40 x422013_40 x422014_40 x422015_40 x422016_40).bind fun t452 => (if t452 = true then ((round_Round_Who.f kj120 x422000_40 x422001_40 x422002_40 x422003_40 x422004_40 x422005_40 x422006_40 t415 t418 x422009_40 x422010_40 x422011_40 x422012_40 x422013_40 x422014_40 x422015_40 x422016_40).bind fun t453 => (ropewaylaw14_RoundStays.j4 kj120 x7_120 x10_40 l1 (l1.length : Int) x28_2 ((t453.length : Int) != x7_120) a0_0 a0_1 a0_2 a0_3 a0_4 a0_5 a0_6 l0_7 l0_8 x422000_40 x422001_40 x422002_40 x422003_40 x422004_40 x422005_40 x422006_40 t415 t418 x422009_40 x422010_40 x422011_40 x422012_40 x422013_40 x422014_40 x422015_40 x422016_40 ((rd_T27 l1 x28_2).f0) ((rd_T27 l1 x28_2).f1) ((rd_T27 l1 x28_2).f2) ((rd_T27 l1 x28_2).f3) ((rd_T27 l1 x28_2).f4) ((rd_T27 l1 x28_2).f5.f0) ((rd_T27 l1 x28_2).f5.f1) ((rd_T27 l1 x28_2).f6) ((rd_T27 l1 x28_2).f7))) else (ropewaylaw14_RoundStays.j4 kj120 x7_120 x10_40 l1 (l1.length : Int) x28_2 true a0_0 a0_1 a0_2 a0_3 a0_4 a0_5 a0_6 l0_7 l0_8 x422000_40 x422001_40 x422002_40 x422003_40 x422004_40 x422005_40 x422006_40 t415 t418 x422009_40 x422010_40 x422011_40 x422012_40 x422013_40 x422014_40 x422015_40 x422016_40 ((rd_T27 l1 x28_2).f0) ((rd_T27 l1 x28_2).f1) ((rd_T27 l1 x28_2).f2) ((rd_T27 l1 x28_2).f3) ((rd_T27 l1 x28_2).f4) ((rd_T27 l1 x28_2).f5.f0) ((rd_T27 l1 x28_2).f5.f1) ((rd_T27 l1 x28_2).f6) ((rd_T27 l1 x28_2).f7)))) = some r := by rw [if_pos rfl] at H; exact H
           clear H
           have H := H1
           clear H1
           replace H := Option.bind_eq_some_iff.mp H
           obtain ⟨t452, A1250, H⟩ := H
           replace H : (if t452 = true then ((round_Round_Who.f kj120 x422000_40 x422001_40 x422002_40 x422003_40 x422004_40 x422005_40 x422006_40 t415 t418 x422009_40 x422010_40 x422011_40 x422012_40 x422013_40 x422014_40 x422015_40 x422016_40).bind fun t453 => (ropewaylaw14_RoundStays.j4 kj120 x7_120 x10_40 l1 (l1.length : Int) x28_2 ((t453.length : Int) != x7_120) a0_0 a0_1 a0_2 a0_3 a0_4 a0_5 a0_6 l0_7 l0_8 x422000_40 x422001_40 x422002_40 x422003_40 x422004_40 x422005_40 x422006_40 t415 t418 x422009_40 x422010_40 x422011_40 x422012_40 x422013_40 x422014_40 x422015_40 x422016_40 ((rd_T27 l1 x28_2).f0) ((rd_T27 l1 x28_2).f1) ((rd_T27 l1 x28_2).f2) ((rd_T27 l1 x28_2).f3) ((rd_T27 l1 x28_2).f4) ((rd_T27 l1 x28_2).f5.f0) ((rd_T27 l1 x28_2).f5.f1) ((rd_T27 l1 x28_2).f6) ((rd_T27 l1 x28_2).f7))) else (ropewaylaw14_RoundStays.j4 kj120 x7_120 x10_40 l1 (l1.length : Int) x28_2 true a0_0 a0_1 a0_2 a0_3 a0_4 a0_5 a0_6 l0_7 l0_8 x422000_40 x422001_40 x422002_40 x422003_40 x422004_40 x422005_40 x422006_40 t415 t418 x422009_40 x422010_40 x422011_40 x422012_40 x422013_40 x422014_40 x422015_40 x422016_40 ((rd_T27 l1 x28_2).f0) ((rd_T27 l1 x28_2).f1) ((rd_T27 l1 x28_2).f2) ((rd_T27 l1 x28_2).f3) ((rd_T27 l1 x28_2).f4) ((rd_T27 l1 x28_2).f5.f0) ((rd_T27 l1 x28_2).f5.f1) ((rd_T27 l1 x28_2).f6) ((rd_T27 l1 x28_2).f7))) = some r := H
           have A125 := zM A1250
           clear A1250
           by_cases c126 : t452 = true
           rotate_left
           · replace c126 := Bool.eq_false_iff.mpr c126
             subst c126
             have H1 : (ropewaylaw14_RoundStays.j4 kj120 x7_120 x10_40 l1 (l1.length : Int) x28_2 true a0_0 a0_1 a0_2 a0_3 a0_4 a0_5 a0_6 l0_7 l0_8 x422000_40 x422001_40 x422002_40 x422003_40 x422004_40 x422005_40 x422006_40 t415 t418 x422009_40 x422010_40 x422011_40 x422012_40 x422013_40 x422014_40 x422015_40 x422016_40 ((rd_T27 l1 x28_2).f0) ((rd_T27 l1 x28_2).f1) ((rd_T27 l1 x28_2).f2) ((rd_T27 l1 x28_2).f3) ((rd_T27 l1 x28_2).f4) ((rd_T27 l1 x28_2).f5.f0) ((rd_T27 l1 x28_2).f5.f1) ((rd_T27 l1 x28_2).f6) ((rd_T27 l1 x28_2).f7)) = some r := by rw [if_neg (show ¬ (false = true) by decide)] at H; exact H
             clear H
             have H := H1
             clear H1
             have H' := zM H
             clear H
             obtain ⟨Ao135, co135, eo135⟩ := Kd.R_slice HO_422015.out
             subst eo135
             obtain ⟨Ao136, co136, eo136⟩ := Kd.R_slice HO_422016.out
             subst eo136
             have tk138 : True := trivial
             go_wp2_with (first | (go_at_call 13; (with_reducible refine (round_Round_Done.calls kj120 gb421 x422000_40 x422001_40 x422002_40 x422003_40 x422004_40 x422005_40 x422006_40 Ao26 co26 t415 Ao25 co25 t418 x422009_40 x422010_40 x422011_40 x422012_40 x422013_40 x422014_40 Ao135 co135 x422015_40 Ao136 co136 x422016_40 false _ ?side1 ?side2 ?side3 ?side4 ?side5 ?side6 ?side7 ?side8 ?side9 A125.out).mono ?_); (case side1 => repeat (first | exact (Kd.R_reads' HO_422007.out).2.2 | (with_reducible refine Kd.C_alloc ?_ _) | (with_reducible refine Kd.C_drewN ?_ _) | (with_reducible refine Kd.C_drew ?_))); (case side2 => exact (Kd.R_reads' HO_422007.out).2.1); (case side3 => repeat (first | exact (Kd.R_reads' HO_422008.out).2.2 | (with_reducible refine Kd.C_alloc ?_ _) | (with_reducible refine Kd.C_drewN ?_ _) | (with_reducible refine Kd.C_drew ?_))); (case side4 => exact (Kd.R_reads' HO_422008.out).2.1); (case side5 => repeat (first | exact (Kd.R_reads' HO_422015.out).2.2 | (with_reducible refine Kd.C_alloc ?_ _) | (with_reducible refine Kd.C_drewN ?_ _) | (with_reducible refine Kd.C_drew ?_))); (case side6 => exact (Kd.R_reads' HO_422015.out).2.1); (case side7 => repeat (first | exact (Kd.R_reads' HO_422016.out).2.2 | (with_reducible refine Kd.C_alloc ?_ _) | (with_reducible refine Kd.C_drewN ?_ _) | (with_reducible refine Kd.C_drew ?_))); (case side8 => exact (Kd.R_reads' HO_422016.out).2.1); (case side9 => exact blf_); clear tk138; rintro e w137 ⟨rfl, hb⟩; replace HO_422007 := zM (Kd.R_below (rl_ HO_422007) hb); replace HO_422008 := zM (Kd.R_below (rl_ HO_422008) hb); replace HO_422015 := zM (Kd.R_below (rl_ HO_422015) hb); replace HO_422016 := zM (Kd.R_below (rl_ HO_422016) hb); replace BK404 := zM (bb_ BK404 hb); replace BK407 := zM (bb_ BK407 hb); replace BK421 := zM (bb_ BK421 hb); replace BK429 := zM (bb_ BK429 hb); replace HB := zM (zB bel_ hb); (try clear hb); (try clear hi)))
             go_meet
             case rel => exact ⟨_, (true), (x422000_40), (x422001_40), (x422002_40), (x422003_40), (x422004_40), (x422005_40), (x422006_40), (x422009_40), (x422010_40), (x422011_40), (x422012_40), (x422013_40), (x422014_40), (by first | rfl | (simp; done) | (simp [*]; done) | (simp; grind)), H', ⟨by have := HJ8.out; have := HK2.out; have := HJ40.out; have := HJ120.out; first | omega | exact Nat.le_refl _⟩, ⟨by (with_reducible repeat (first | apply Kd.R_alloc | apply Kd.R_drewN | apply Kd.R_drew)); exact HO_422007.out⟩, ⟨by (with_reducible repeat (first | apply Kd.R_alloc | apply Kd.R_drewN | apply Kd.R_drew)); exact HO_422008.out⟩, ⟨by (with_reducible repeat (first | apply Kd.R_alloc | apply Kd.R_drewN | apply Kd.R_drew)); exact HO_422015.out⟩, ⟨by (with_reducible repeat (first | apply Kd.R_alloc | apply Kd.R_drewN | apply Kd.R_drew)); exact HO_422016.out⟩, ⟨blf_⟩, ⟨blf_⟩, ⟨blf_⟩, ⟨blf_⟩, ⟨bel_⟩⟩
           subst c126
           have H1 : ((round_Round_Who.f kj120 x422000_40 x422001_40 x422002_40 x422003_40 x422004_40 x422005_40 x422006_40 t415 t418 x422009_40 x422010_40 x422011_40 x422012_40 x422013_40 x422014_40 x422015_40 x422016_40).bind fun t453 => (ropewaylaw14_RoundStays.j4 kj120 x7_120 x10_40 l1 (l1.length : Int) x28_2 ((t453.length : Int) != x7_120) a0_0 a0_1 a0_2 a0_3 a0_4 a0_5 a0_6 l0_7 l0_8 x422000_40 x422001_40 x422002_40 x422003_40 x422004_40 x422005_40 x422006_40 t415 t418 x422009_40 x422010_40 x422011_40 x422012_40 x422013_40 x422014_40 x422015_40 x422016_40 ((rd_T27 l1 x28_2).f0) ((rd_T27 l1 x28_2).f1) ((rd_T27 l1 x28_2).f2) ((rd_T27 l1 x28_2).f3) ((rd_T27 l1 x28_2).f4) ((rd_T27 l1 x28_2).f5.f0) ((rd_T27 l1 x28_2).f5.f1) ((rd_T27 l1 x28_2).f6) ((rd_T27 l1 x28_2).f7))) = some r := by rw [if_pos rfl] at H; exact H
           clear H
           have H := H1
           clear H1
           replace H := Option.bind_eq_some_iff.mp H
           obtain ⟨t453, A1270, H⟩ := H
           replace H : (ropewaylaw14_RoundStays.j4 kj120 x7_120 x10_40 l1 (l1.length : Int) x28_2 ((t453.length : Int) != x7_120) a0_0 a0_1 a0_2 a0_3 a0_4 a0_5 a0_6 l0_7 l0_8 x422000_40 x422001_40 x422002_40 x422003_40 x422004_40 x422005_40 x422006_40 t415 t418 x422009_40 x422010_40 x422011_40 x422012_40 x422013_40 x422014_40 x422015_40 x422016_40 ((rd_T27 l1 x28_2).f0) ((rd_T27 l1 x28_2).f1) ((rd_T27 l1 x28_2).f2) ((rd_T27 l1 x28_2).f3) ((rd_T27 l1 x28_2).f4) ((rd_T27 l1 x28_2).f5.f0) ((rd_T27 l1 x28_2).f5.f1) ((rd_T27 l1 x28_2).f6) ((rd_T27 l1 x28_2).f7)) = some r := H
           have A127 := zM A1270
           clear A1270
           have H' := zM H
           clear H
           obtain ⟨Ao128, co128, eo128⟩ := Kd.R_slice HO_422015.out
           subst eo128
           obtain ⟨Ao129, co129, eo129⟩ := Kd.R_slice HO_422016.out
           subst eo129
           have tk131 : True := trivial
           have tk133 : True := trivial
           go_wp2_with (first | (go_at_call 13; (with_reducible refine (round_Round_Done.calls kj120 gb421 x422000_40 x422001_40 x422002_40 x422003_40 x422004_40 x422005_40 x422006_40 Ao26 co26 t415 Ao25 co25 t418 x422009_40 x422010_40 x422011_40 x422012_40 x422013_40 x422014_40 Ao128 co128 x422015_40 Ao129 co129 x422016_40 true _ ?side1 ?side2 ?side3 ?side4 ?side5 ?side6 ?side7 ?side8 ?side9 A125.out).mono ?_); (case side1 => repeat (first | exact (Kd.R_reads' HO_422007.out).2.2 | (with_reducible refine Kd.C_alloc ?_ _) | (with_reducible refine Kd.C_drewN ?_ _) | (with_reducible refine Kd.C_drew ?_))); (case side2 => exact (Kd.R_reads' HO_422007.out).2.1); (case side3 => repeat (first | exact (Kd.R_reads' HO_422008.out).2.2 | (with_reducible refine Kd.C_alloc ?_ _) | (with_reducible refine Kd.C_drewN ?_ _) | (with_reducible refine Kd.C_drew ?_))); (case side4 => exact (Kd.R_reads' HO_422008.out).2.1); (case side5 => repeat (first | exact (Kd.R_reads' HO_422015.out).2.2 | (with_reducible refine Kd.C_alloc ?_ _) | (with_reducible refine Kd.C_drewN ?_ _) | (with_reducible refine Kd.C_drew ?_))); (case side6 => exact (Kd.R_reads' HO_422015.out).2.1); (case side7 => repeat (first | exact (Kd.R_reads' HO_422016.out).2.2 | (with_reducible refine Kd.C_alloc ?_ _) | (with_reducible refine Kd.C_drewN ?_ _) | (with_reducible refine Kd.C_drew ?_))); (case side8 => exact (Kd.R_reads' HO_422016.out).2.1); (case side9 => exact blf_); clear tk131; rintro e w130 ⟨rfl, hb⟩; replace HO_422007 := zM (Kd.R_below (rl_ HO_422007) hb); replace HO_422008 := zM (Kd.R_below (rl_ HO_422008) hb); replace HO_422015 := zM (Kd.R_below (rl_ HO_422015) hb); replace HO_422016 := zM (Kd.R_below (rl_ HO_422016) hb); replace BK404 := zM (bb_ BK404 hb); replace BK407 := zM (bb_ BK407 hb); replace BK421 := zM (bb_ BK421 hb); replace BK429 := zM (bb_ BK429 hb); replace HB := zM (zB bel_ hb); (try clear hb); (try clear hi)) | (go_at_call 14; (with_reducible refine (round_Round_Who.calls kj120 gb421 x422000_40 x422001_40 x422002_40 x422003_40 x422004_40 x422005_40 x422006_40 Ao26 co26 t415 Ao25 co25 t418 x422009_40 x422010_40 x422011_40 x422012_40 x422013_40 x422014_40 Ao128 co128 x422015_40 Ao129 co129 x422016_40 t453 _ ?side1 ?side2 ?side3 ?side4 ?side5 ?side6 ?side7 ?side8 ?side9 A127.out).mono ?_); (case side1 => repeat (first | exact (Kd.R_reads' HO_422007.out).2.2 | (with_reducible refine Kd.C_alloc ?_ _) | (with_reducible refine Kd.C_drewN ?_ _) | (with_reducible refine Kd.C_drew ?_))); (case side2 => exact (Kd.R_reads' HO_422007.out).2.1); (case side3 => repeat (first | exact (Kd.R_reads' HO_422008.out).2.2 | (with_reducible refine Kd.C_alloc ?_ _) | (with_reducible refine Kd.C_drewN ?_ _) | (with_reducible refine Kd.C_drew ?_))); (case side4 => exact (Kd.R_reads' HO_422008.out).2.1); (case side5 => repeat (first | exact (Kd.R_reads' HO_422015.out).2.2 | (with_reducible refine Kd.C_alloc ?_ _) | (with_reducible refine Kd.C_drewN ?_ _) | (with_reducible refine Kd.C_drew ?_))); (case side6 => exact (Kd.R_reads' HO_422015.out).2.1); (case side7 => repeat (first | exact (Kd.R_reads' HO_422016.out).2.2 | (with_reducible refine Kd.C_alloc ?_ _) | (with_reducible refine Kd.C_drewN ?_ _) | (with_reducible refine Kd.C_drew ?_))); (case side8 => exact (Kd.R_reads' HO_422016.out).2.1); (case side9 => exact blf_); clear tk133; rintro e w132 ⟨v454, rfl, ho0, hb⟩; replace HO_422007 := zM (Kd.R_below (rl_ HO_422007) hb); replace HO_422008 := zM (Kd.R_below (rl_ HO_422008) hb); replace HO_422015 := zM (Kd.R_below (rl_ HO_422015) hb); replace HO_422016 := zM (Kd.R_below (rl_ HO_422016) hb); have HO455 := zM (Kd.R_lower ho0 (below_size bel_)); replace BK404 := zM (bb_ BK404 hb); replace BK407 := zM (bb_ BK407 hb); replace BK421 := zM (bb_ BK421 hb); replace BK429 := zM (bb_ BK429 hb); replace HB := zM (zB bel_ hb); (try clear hb); (try clear ho0); obtain ⟨Ao134, co134, eo134⟩ := Kd.R_slice HO455.out; subst eo134))
           go_meet
           case rel => exact ⟨_, (((t453.length : Int) != x7_120)), (x422000_40), (x422001_40), (x422002_40), (x422003_40), (x422004_40), (x422005_40), (x422006_40), (x422009_40), (x422010_40), (x422011_40), (x422012_40), (x422013_40), (x422014_40), (by first | rfl | (simp; done) | (simp [*]; done) | (simp; grind)), H', ⟨by have := HJ8.out; have := HK2.out; have := HJ40.out; have := HJ120.out; first | omega | exact Nat.le_refl _⟩, ⟨by (with_reducible repeat (first | apply Kd.R_alloc | apply Kd.R_drewN | apply Kd.R_drew)); exact HO_422007.out⟩, ⟨by (with_reducible repeat (first | apply Kd.R_alloc | apply Kd.R_drewN | apply Kd.R_drew)); exact HO_422008.out⟩, ⟨by (with_reducible repeat (first | apply Kd.R_alloc | apply Kd.R_drewN | apply Kd.R_drew)); exact HO_422015.out⟩, ⟨by (with_reducible repeat (first | apply Kd.R_alloc | apply Kd.R_drewN | apply Kd.R_drew)); exact HO_422016.out⟩, ⟨blf_⟩, ⟨blf_⟩, ⟨blf_⟩, ⟨blf_⟩, ⟨bel_⟩⟩
          case rest =>
           clear HC123
           try clear c1
           try clear c43
           try clear c44
           try clear c45
           try clear c122
           try clear c124
           try clear c126
           try clear hcz114_0
           try clear hcz114_1
           try clear hcz114_2
           try clear hcz114_3
           try clear hcz114_4
           try clear hcz114_5
           try clear hcz114_6
           try clear hcz114_7
           try clear hcz114_8
           try clear hfz114_0
           try clear hfz114_1
           try clear hfz114_2
           try clear hfz114_3
           try clear hfz114_4
           try clear hfz114_5
           try clear hfz114_6
           try clear hfz114_7
           try clear hfz114_8
           obtain ⟨kq, x50_122, x422000_122, x422001_122, x422002_122, x422003_122, x422004_122, x422005_122, x422006_122, x422009_122, x422010_122, x422011_122, x422012_122, x422013_122, x422014_122, rfl, HA, HJ122, HO_422007, HO_422008, HO_422015, HO_422016, BK404, BK407, BK421, BK429, HB⟩ := hcut
           cases kq with
           | zero => exact absurd HA.out (by simp [ropewaylaw14_RoundStays.j4])
           | succ kj122 =>
            have H := HA.out
            clear HA
            simp only [ropewaylaw14_RoundStays.j4] at H
            by_cases c145 : x50_122 = true
            · subst c145
              have H1 : (some false) = some r := by rw [if_pos rfl] at H; exact H
              clear H
              have H := H1
              clear H1
              exact absurd (Option.some.inj H) (by rw [hr1_.out]; decide)
            replace c145 := Bool.eq_false_iff.mpr c145
            subst c145
            have H1 : ((round_Round_Done.f kj122 x422000_122 x422001_122 x422002_122 x422003_122 x422004_122 x422005_122 x422006_122 t415 t418 x422009_122 x422010_122 x422011_122 x422012_122 x422013_122 x422014_122 x422015_40 x422016_40).bind fun t459 => ((round_Round_Asks.f kj122 x422000_122 x422001_122 x422002_122 x422003_122 x422004_122 x422005_122 x422006_122 t415 t418 x422009_122 x422010_122 x422011_122 x422012_122 x422013_122 x422014_122 x422015_40 x422016_40).bind fun t460 => (ropewaylaw14_RoundStays.l1 kj122 t459 x7_120 x10_40 l1 (l1.length : Int) x28_2 t460 (t460.length : Int) 0 a0_0 a0_1 a0_2 a0_3 a0_4 a0_5 a0_6 l0_7 l0_8 x422000_122 x422001_122 x422002_122 x422003_122 x422004_122 x422005_122 x422006_122 t415 t418 x422009_122 x422010_122 x422011_122 x422012_122 x422013_122 x422014_122 x422015_40 x422016_40 ((rd_T27 l1 x28_2).f0) ((rd_T27 l1 x28_2).f1) ((rd_T27 l1 x28_2).f2) ((rd_T27 l1 x28_2).f3) ((rd_T27 l1 x28_2).f4) ((rd_T27 l1 x28_2).f5.f0) ((rd_T27 l1 x28_2).f5.f1) ((rd_T27 l1 x28_2).f6) ((rd_T27 l1 x28_2).f7)))) = some r := by rw [if_neg (show ¬ (false = true) by decide)] at H; exact H
            clear H
            have H := H1
            clear H1
            replace H := Option.bind_eq_some_iff.mp H
            obtain ⟨t459, A1460, H⟩ := H
            replace H : ((round_Round_Asks.f kj122 x422000_122 x422001_122 x422002_122 x422003_122 x422004_122 x422005_122 x422006_122 t415 t418 x422009_122 x422010_122 x422011_122 x422012_122 x422013_122 x422014_122 x422015_40 x422016_40).bind fun t460 => (ropewaylaw14_RoundStays.l1 kj122 t459 x7_120 x10_40 l1 (l1.length : Int) x28_2 t460 (t460.length : Int) 0 a0_0 a0_1 a0_2 a0_3 a0_4 a0_5 a0_6 l0_7 l0_8 x422000_122 x422001_122 x422002_122 x422003_122 x422004_122 x422005_122 x422006_122 t415 t418 x422009_122 x422010_122 x422011_122 x422012_122 x422013_122 x422014_122 x422015_40 x422016_40 ((rd_T27 l1 x28_2).f0) ((rd_T27 l1 x28_2).f1) ((rd_T27 l1 x28_2).f2) ((rd_T27 l1 x28_2).f3) ((rd_T27 l1 x28_2).f4) ((rd_T27 l1 x28_2).f5.f0) ((rd_T27 l1 x28_2).f5.f1) ((rd_T27 l1 x28_2).f6) ((rd_T27 l1 x28_2).f7))) = some r := H
            have A146 := zM A1460
            clear A1460
            obtain ⟨Ao147, co147, eo147⟩ := Kd.R_slice HO_422015.out
            subst eo147
            obtain ⟨Ao148, co148, eo148⟩ := Kd.R_slice HO_422016.out
            subst eo148
            have tk150 : True := trivial
            go_upto_region 16 with (first | ((with_reducible refine gate_callee (f := 13) rfl ?_); clear tk150; refine goL_ (some 52) Try.func13 #[.pointer (some ⟨gb421, 0, none⟩)] ?_; (with_reducible refine (round_Round_Done.calls kj122 gb421 x422000_122 x422001_122 x422002_122 x422003_122 x422004_122 x422005_122 x422006_122 Ao26 co26 t415 Ao25 co25 t418 x422009_122 x422010_122 x422011_122 x422012_122 x422013_122 x422014_122 Ao147 co147 x422015_40 Ao148 co148 x422016_40 t459 _ ?side1 ?side2 ?side3 ?side4 ?side5 ?side6 ?side7 ?side8 ?side9 A146.out).mono ?_); (case side1 => repeat (first | exact (Kd.R_reads' HO_422007.out).2.2 | (with_reducible refine Kd.C_alloc ?_ _) | (with_reducible refine Kd.C_drewN ?_ _) | (with_reducible refine Kd.C_drew ?_))); (case side2 => exact (Kd.R_reads' HO_422007.out).2.1); (case side3 => repeat (first | exact (Kd.R_reads' HO_422008.out).2.2 | (with_reducible refine Kd.C_alloc ?_ _) | (with_reducible refine Kd.C_drewN ?_ _) | (with_reducible refine Kd.C_drew ?_))); (case side4 => exact (Kd.R_reads' HO_422008.out).2.1); (case side5 => repeat (first | exact (Kd.R_reads' HO_422015.out).2.2 | (with_reducible refine Kd.C_alloc ?_ _) | (with_reducible refine Kd.C_drewN ?_ _) | (with_reducible refine Kd.C_drew ?_))); (case side6 => exact (Kd.R_reads' HO_422015.out).2.1); (case side7 => repeat (first | exact (Kd.R_reads' HO_422016.out).2.2 | (with_reducible refine Kd.C_alloc ?_ _) | (with_reducible refine Kd.C_drewN ?_ _) | (with_reducible refine Kd.C_drew ?_))); (case side8 => exact (Kd.R_reads' HO_422016.out).2.1); (case side9 => exact blf_); rintro e w149 ⟨rfl, hb⟩; refine ⟨_, rfl, ?_⟩; replace HO_422007 := zM (Kd.R_below (rl_ HO_422007) hb); replace HO_422008 := zM (Kd.R_below (rl_ HO_422008) hb); replace HO_422015 := zM (Kd.R_below (rl_ HO_422015) hb); replace HO_422016 := zM (Kd.R_below (rl_ HO_422016) hb); replace BK404 := zM (bb_ BK404 hb); replace BK407 := zM (bb_ BK407 hb); replace BK421 := zM (bb_ BK421 hb); replace BK429 := zM (bb_ BK429 hb); replace HB := zM (zB bel_ hb); (try clear hb); (try clear hi)))
            replace H := Option.bind_eq_some_iff.mp H
            obtain ⟨t460, A1510, H⟩ := H
            replace H : (ropewaylaw14_RoundStays.l1 kj122 t459 x7_120 x10_40 l1 (l1.length : Int) x28_2 t460 (t460.length : Int) 0 a0_0 a0_1 a0_2 a0_3 a0_4 a0_5 a0_6 l0_7 l0_8 x422000_122 x422001_122 x422002_122 x422003_122 x422004_122 x422005_122 x422006_122 t415 t418 x422009_122 x422010_122 x422011_122 x422012_122 x422013_122 x422014_122 x422015_40 x422016_40 ((rd_T27 l1 x28_2).f0) ((rd_T27 l1 x28_2).f1) ((rd_T27 l1 x28_2).f2) ((rd_T27 l1 x28_2).f3) ((rd_T27 l1 x28_2).f4) ((rd_T27 l1 x28_2).f5.f0) ((rd_T27 l1 x28_2).f5.f1) ((rd_T27 l1 x28_2).f6) ((rd_T27 l1 x28_2).f7)) = some r := H
            have A151 := zM A1510
            clear A1510
            have H' := zM H
            clear H
            have tk153 : True := trivial
            go_wp2_with (first | ((with_reducible refine gate_callee (f := 15) rfl ?_); clear tk153; refine goL_ (some 54) Try.func15 #[.pointer (some ⟨gb421, 0, none⟩)] ?_; (with_reducible refine (round_Round_Asks.calls kj122 gb421 x422000_122 x422001_122 x422002_122 x422003_122 x422004_122 x422005_122 x422006_122 Ao26 co26 t415 Ao25 co25 t418 x422009_122 x422010_122 x422011_122 x422012_122 x422013_122 x422014_122 Ao147 co147 x422015_40 Ao148 co148 x422016_40 t460 _ ?side1 ?side2 ?side3 ?side4 ?side5 ?side6 ?side7 ?side8 ?side9 A151.out).mono ?_); (case side1 => repeat (first | exact (Kd.R_reads' HO_422007.out).2.2 | (with_reducible refine Kd.C_alloc ?_ _) | (with_reducible refine Kd.C_drewN ?_ _) | (with_reducible refine Kd.C_drew ?_))); (case side2 => exact (Kd.R_reads' HO_422007.out).2.1); (case side3 => repeat (first | exact (Kd.R_reads' HO_422008.out).2.2 | (with_reducible refine Kd.C_alloc ?_ _) | (with_reducible refine Kd.C_drewN ?_ _) | (with_reducible refine Kd.C_drew ?_))); (case side4 => exact (Kd.R_reads' HO_422008.out).2.1); (case side5 => repeat (first | exact (Kd.R_reads' HO_422015.out).2.2 | (with_reducible refine Kd.C_alloc ?_ _) | (with_reducible refine Kd.C_drewN ?_ _) | (with_reducible refine Kd.C_drew ?_))); (case side6 => exact (Kd.R_reads' HO_422015.out).2.1); (case side7 => repeat (first | exact (Kd.R_reads' HO_422016.out).2.2 | (with_reducible refine Kd.C_alloc ?_ _) | (with_reducible refine Kd.C_drewN ?_ _) | (with_reducible refine Kd.C_drew ?_))); (case side8 => exact (Kd.R_reads' HO_422016.out).2.1); (case side9 => exact blf_); rintro e w152 ⟨v461, rfl, ho0, hb⟩; refine ⟨_, rfl, ?_⟩; have HO462 := zM (Kd.S_lower (Kd.S_newB (Kd.S_newB (Kd.S_newB (Kd.S_new' (Kd.S_new' (Kd.S_new' (Kd.S_new' ho0 (Kd.R_lt (rl_ HO_422007))) (Kd.R_lt (rl_ HO_422008))) (Kd.R_lt (rl_ HO_422015))) (Kd.R_lt (rl_ HO_422016))) (g := gb404) (o := .cells #[.int .i64 a0_0, .int .i64 a0_1, .int .i64 a0_2, .int .i64 a0_3, .int .i64 a0_4, .int .i64 a0_5, .int .i64 a0_6, .slice A0_7 l0_7.length c0_7, .slice A0_8 l0_8.length c0_8] 27 (0, 0)) blk_) (g := gb407) (o := .cells #[.int .i64 a0_0, .int .i64 a0_1, .int .i64 a0_2, .int .i64 a0_3, .int .i64 a0_4, .int .i64 a0_5, .int .i64 a0_6, .slice A0_7 l0_7.length c0_7, .slice A0_8 l0_8.length c0_8] 27 (0, 0)) blk_) (g := gb429) (o := .cells #[.int .i64 ((rd_T27 l1 x28_2).f0), .int .i64 ((rd_T27 l1 x28_2).f1), .int .i64 ((rd_T27 l1 x28_2).f2), .int .i64 ((rd_T27 l1 x28_2).f3), .int .i64 ((rd_T27 l1 x28_2).f4), .int .i64 ((rd_T27 l1 x28_2).f5.f0), .int .i64 ((rd_T27 l1 x28_2).f5.f1), .slice A428_7 ((rd_T27 l1 x28_2).f6).length c428_7, .slice A428_8 ((rd_T27 l1 x28_2).f7).length c428_8] 27 (0, 0)) blk_) (below_size bel_)); replace HO_422007 := zM (Kd.R_below (rl_ HO_422007) hb); replace HO_422008 := zM (Kd.R_below (rl_ HO_422008) hb); replace HO_422015 := zM (Kd.R_below (rl_ HO_422015) hb); replace HO_422016 := zM (Kd.R_below (rl_ HO_422016) hb); replace BK404 := zM (bb_ BK404 hb); replace BK407 := zM (bb_ BK407 hb); replace BK421 := zM (bb_ BK421 hb); replace BK429 := zM (bb_ BK429 hb); replace HB := zM (zB bel_ hb); (try clear hb); (try clear ho0); obtain ⟨Ao154, co154, eo154⟩ := Kd.S_slice HO462.out; subst eo154))
            go_loopg [56] kj122 (fun kq v56 w' => ∃ (x56_6 : Int), v56 = .int .i64 x56_6 ∧ Aside0 (ropewaylaw14_RoundStays.l1 kq t459 x7_120 x10_40 l1 (l1.length : Int) x28_2 t460 (t460.length : Int) x56_6 a0_0 a0_1 a0_2 a0_3 a0_4 a0_5 a0_6 l0_7 l0_8 x422000_122 x422001_122 x422002_122 x422003_122 x422004_122 x422005_122 x422006_122 t415 t418 x422009_122 x422010_122 x422011_122 x422012_122 x422013_122 x422014_122 x422015_40 x422016_40 ((rd_T27 l1 x28_2).f0) ((rd_T27 l1 x28_2).f1) ((rd_T27 l1 x28_2).f2) ((rd_T27 l1 x28_2).f3) ((rd_T27 l1 x28_2).f4) ((rd_T27 l1 x28_2).f5.f0) ((rd_T27 l1 x28_2).f5.f1) ((rd_T27 l1 x28_2).f6) ((rd_T27 l1 x28_2).f7) = some r) ∧ Aside0 (kq ≤ kj122) ∧ Aside0 (Kd.S k27 27 w' w.heap.size (fun k_ => some k_ ≠ ((.slice Ao26 t415.length co26) : Value).ownBlock ∧ some k_ ≠ ((.slice Ao25 t418.length co25) : Value).ownBlock ∧ some k_ ≠ ((.slice Ao147 x422015_40.length co147) : Value).ownBlock ∧ some k_ ≠ ((.slice Ao148 x422016_40.length co148) : Value).ownBlock ∧ k_ ≠ gb404 ∧ k_ ≠ gb407 ∧ k_ ≠ gb429) (.slice Ao154 t460.length co154) t460) ∧ Aside0 (Kd.R k43 43 w' w.heap.size (fun k_ => some k_ ≠ ((.slice Ao147 x422015_40.length co147) : Value).ownBlock) (.slice Ao26 t415.length co26) t415) ∧ Aside0 (Kd.R k48 48 w' w.heap.size (fun k_ => some k_ ≠ ((.slice Ao148 x422016_40.length co148) : Value).ownBlock) (.slice Ao25 t418.length co25) t418) ∧ Aside0 (Kd.R k43 43 w' w.heap.size (fun k_ => some k_ ≠ ((.slice Ao26 t415.length co26) : Value).ownBlock) (.slice Ao147 x422015_40.length co147) x422015_40) ∧ Aside0 (Kd.R k48 48 w' w.heap.size (fun k_ => some k_ ≠ ((.slice Ao25 t418.length co25) : Value).ownBlock) (.slice Ao148 x422016_40.length co148) x422016_40) ∧ Aside0 (w'.heap[gb404]? = some (.cells #[.int .i64 a0_0, .int .i64 a0_1, .int .i64 a0_2, .int .i64 a0_3, .int .i64 a0_4, .int .i64 a0_5, .int .i64 a0_6, (.slice A0_7 l0_7.length c0_7), (.slice A0_8 l0_8.length c0_8)] 27 (0, 0))) ∧ Aside0 (w'.heap[gb407]? = some (.cells #[.int .i64 a0_0, .int .i64 a0_1, .int .i64 a0_2, .int .i64 a0_3, .int .i64 a0_4, .int .i64 a0_5, .int .i64 a0_6, (.slice A0_7 l0_7.length c0_7), (.slice A0_8 l0_8.length c0_8)] 27 (0, 0))) ∧ Aside0 (w'.heap[gb421]? = some (.cells #[.int .i64 x422000_122, .int .i64 x422001_122, .int .i64 x422002_122, .int .i64 x422003_122, .int .i64 x422004_122, .int .i64 x422005_122, .int .i64 x422006_122, (.slice Ao26 t415.length co26), (.slice Ao25 t418.length co25), .bool x422009_122, .bool x422010_122, .bool x422011_122, .bool x422012_122, .bool x422013_122, .bool x422014_122, (.slice Ao147 x422015_40.length co147), (.slice Ao148 x422016_40.length co148)] 71 (0, 0))) ∧ Aside0 (w'.heap[gb429]? = some (.cells #[.int .i64 ((rd_T27 l1 x28_2).f0), .int .i64 ((rd_T27 l1 x28_2).f1), .int .i64 ((rd_T27 l1 x28_2).f2), .int .i64 ((rd_T27 l1 x28_2).f3), .int .i64 ((rd_T27 l1 x28_2).f4), .int .i64 ((rd_T27 l1 x28_2).f5.f0), .int .i64 ((rd_T27 l1 x28_2).f5.f1), (.slice A428_7 ((rd_T27 l1 x28_2).f6).length c428_7), (.slice A428_8 ((rd_T27 l1 x28_2).f7).length c428_8)] 27 (0, 0))) ∧ Aside0 (Below w.heap.size w w'))
            case atStart => exact ⟨(0), (by first | rfl | (simp; done) | (simp [*]; done) | (simp; grind)), H', ⟨Nat.le_refl _⟩, ⟨by (with_reducible repeat (first | apply Kd.S_alloc | apply Kd.S_drewN | apply Kd.S_drew)); exact Kd.S_mono HO462.out (fun _ hk => ⟨hk.1.1.1.1.1.1.2, ⟨hk.1.1.1.1.1.2, ⟨hk.1.1.1.1.2, ⟨hk.1.1.1.2, ⟨hk.1.1.2, ⟨hk.1.2, hk.2⟩⟩⟩⟩⟩⟩)⟩, ⟨by (with_reducible repeat (first | apply Kd.R_alloc | apply Kd.R_drewN | apply Kd.R_drew)); exact HO_422007.out⟩, ⟨by (with_reducible repeat (first | apply Kd.R_alloc | apply Kd.R_drewN | apply Kd.R_drew)); exact HO_422008.out⟩, ⟨by (with_reducible repeat (first | apply Kd.R_alloc | apply Kd.R_drewN | apply Kd.R_drew)); exact HO_422015.out⟩, ⟨by (with_reducible repeat (first | apply Kd.R_alloc | apply Kd.R_drewN | apply Kd.R_drew)); exact HO_422016.out⟩, ⟨blf_⟩, ⟨blf_⟩, ⟨blf_⟩, ⟨blf_⟩, ⟨bel_⟩⟩
            case round =>
             clear H'
             try clear c1
             try clear c15
             try clear c43
             try clear c44
             try clear c45
             try clear c122
             try clear c124
             try clear c126
             try clear c145
             try clear hcz114_0
             try clear hcz114_1
             try clear hcz114_2
             try clear hcz114_3
             try clear hcz114_4
             try clear hcz114_5
             try clear hcz114_6
             try clear hcz114_7
             try clear hcz114_8
             try clear hfz114_0
             try clear hfz114_1
             try clear hfz114_2
             try clear hfz114_3
             try clear hfz114_4
             try clear hfz114_5
             try clear hfz114_6
             try clear hfz114_7
             try clear hfz114_8
             obtain ⟨x56_6, rfl, HA, HK6, HO_54, HO_422007, HO_422008, HO_422015, HO_422016, BK404, BK407, BK421, BK429, HB⟩ := hrel
             cases gk with
             | zero => exact absurd HA.out (by simp [ropewaylaw14_RoundStays.l1])
             | succ k6 =>
              have H := HA.out
              clear HA
              simp only [ropewaylaw14_RoundStays.l1] at H
              by_cases c155 : x56_6 < (t460.length : Int)
              rotate_left
              · rw [if_neg c155] at H
                have c155b0 : decide (x56_6 < (t460.length : Int)) = false := decide_eq_false c155
                clear c155
                have H' := zM H
                clear H
                go_wp2
                go_roundg k6
                case measure => have := HJ8.out; have := HK2.out; have := HJ40.out; have := HJ120.out; have := HJ122.out; have := HK6.out; omega
                case rel => exact ⟨(t459), (x7_120), (wrap64 (x28_2 + 1)), (x422000_122), (x422001_122), (x422002_122), (x422003_122), (x422004_122), (x422005_122), (x422006_122), (x422009_122), (x422010_122), (x422011_122), (x422012_122), (x422013_122), (x422014_122), (x422015_40), (x422016_40), (.slice Ao147 x422015_40.length co147), (.slice Ao148 x422016_40.length co148), (by first | rfl | (simp; done) | (simp [*]; done) | (simp; grind)), (by first | rfl | (simp; done) | (simp [*]; done) | (simp; grind)), (by first | rfl | (simp; done) | (simp [*]; done) | (simp; grind)), H', ⟨by have := HJ8.out; have := HK2.out; have := HJ40.out; have := HJ120.out; have := HJ122.out; have := HK6.out; omega⟩, ⟨by (with_reducible repeat (first | apply Kd.R_alloc | apply Kd.R_drewN | apply Kd.R_drew)); exact HO_422007.out⟩, ⟨by (with_reducible repeat (first | apply Kd.R_alloc | apply Kd.R_drewN | apply Kd.R_drew)); exact HO_422008.out⟩, ⟨by (with_reducible repeat (first | apply Kd.R_alloc | apply Kd.R_drewN | apply Kd.R_drew)); exact HO_422015.out⟩, ⟨by (with_reducible repeat (first | apply Kd.R_alloc | apply Kd.R_drewN | apply Kd.R_drew)); exact HO_422016.out⟩, ⟨blf_⟩, ⟨blf_⟩, ⟨blf_⟩, ⟨bel_⟩⟩
              rw [if_pos c155] at H
              have c155b0 : decide (x56_6 < (t460.length : Int)) = true := decide_eq_true c155
              clear c155
              by_cases c156 : 0 ≤ x56_6
              rotate_left
              · rw [if_neg c156] at H
                exact absurd H (by simp)
              rw [if_pos c156] at H
              have c156b0 : decide (0 ≤ x56_6) = true := decide_eq_true c156
              clear c156
              by_cases c157 : x56_6 < (t460.length : Int)
              rotate_left
              · rw [if_neg c157] at H
                exact absurd H (by simp)
              rw [if_pos c157] at H
              have c157b0 : decide (x56_6 < (t460.length : Int)) = true := decide_eq_true c157
              clear c157
              have p463 : 0 ≤ (x56_6 : Int) := of_decide_eq_true (by first | (with_reducible assumption) | assumption)
              have q463 : x56_6 < (t460.length : Int) := of_decide_eq_true (by first | (with_reducible assumption) | assumption)
              obtain ⟨ad463, A463_7, c463_7, A463_8, c463_8, e463, hx463_0, hx463_1, hx463_2, hx463_3, hx463_4, hx463_5, hx463_6, hx463_7, hx463_8, hl463_7, hi463_7, hl463_8, hi463_8⟩ := at_T27 (Kd.S_reads' HO_54.out).2.2 x56_6 p463 q463
              cases e463
              obtain ⟨ce463, hce463, hMe463, hcc463⟩ := Kd.S_get HO_54.out z27 x56_6 p463 (by first | exact q463 | exact of_decide_eq_true (by first | (with_reducible assumption) | assumption) | (have e_ := (Kd.S_reads' HO_54.out).1; omega))
              obtain ⟨ve463_7, ve463_8, rfl, ge463_7, ge463_8⟩ := k27_openM hMe463
              have hv463_7 := hcc463 7 _ rfl
              rw [add_field _ _ 7 (by omega)] at hv463_7
              replace hv463_7 := Option.some.inj (hv463_7.symm.trans hx463_7)
              rw [hv463_7] at ge463_7
              have HL463_7 := zM (show Kd.R k43 43 _ _ _ _ ((rd_T27 t460 x56_6).f6) from ge463_7)
              clear hv463_7 ge463_7
              have hv463_8 := hcc463 8 _ rfl
              rw [add_field _ _ 8 (by omega)] at hv463_8
              replace hv463_8 := Option.some.inj (hv463_8.symm.trans hx463_8)
              rw [hv463_8] at ge463_8
              have HL463_8 := zM (show Kd.R k48 48 _ _ _ _ ((rd_T27 t460 x56_6).f7) from ge463_8)
              clear hv463_8 ge463_8
              clear hcc463 hce463
              have HR463_7 := zM hi463_7
              have HC463_7 := zM hl463_7
              clear hi463_7 hl463_7
              have HR463_8 := zM hi463_8
              have HC463_8 := zM hl463_8
              clear hi463_8 hl463_8
              replace p463 := eq_true p463
              replace q463 := eq_true q463
              have tk159 : True := trivial
              have tk166 : True := trivial
              go_upto_region 19 with (first | ((with_reducible refine gate_dst (N := 12) rfl ?_); clear tk159; (try (refine gate_guard (by rfl) ?_; dsimp only)); refine box_event ?hg (N := 12) ?hd (cs := #[.int .i64 0, .int .i64 0, .int .i64 0, .int .i64 0, .int .i64 0, .int .i64 0, .int .i64 0, .slice none 0 0, .slice none 0 0]) (t := 27) ?hr ?_; (case hd => rfl); (case hg => rfl); (case hr => first | (go_simp; done) | (go_simp; rfl)); intro gb464 hg w158 hbox hb; replace HO_54 := zM (Kd.S_below (Kd.S_elderB (by (with_reducible repeat (first | apply Kd.S_alloc | apply Kd.S_drewN | apply Kd.S_drew)); exact HO_54.out) gb464 (Nat.le_of_eq hg.symm)) hb); replace HO_422007 := zM (Kd.R_below (rl_ HO_422007) hb); replace HO_422008 := zM (Kd.R_below (rl_ HO_422008) hb); replace HO_422015 := zM (Kd.R_below (rl_ HO_422015) hb); replace HO_422016 := zM (Kd.R_below (rl_ HO_422016) hb); replace HL463_7 := zM (Kd.R_below (rl_ HL463_7) hb); replace HL463_8 := zM (Kd.R_below (rl_ HL463_8) hb); replace HR463_7 := zM (Kd.C_below (cv_ HR463_7) hb); replace HR463_8 := zM (Kd.C_below (cv_ HR463_8) hb); have BK464 := zM (hbox); have GW464 := zM (bs_ hg); have GE464 := zM (bs_ hg); replace HB := zM (zB bel_ hb); have NB404_464 := zM (nl_ BK404 hg); have NB464_404 := zM (ng_ BK404 hg); replace BK404 := zM (bb_ BK404 hb); have NB407_464 := zM (nl_ BK407 hg); have NB464_407 := zM (ng_ BK407 hg); replace BK407 := zM (bb_ BK407 hb); have NB421_464 := zM (nl_ BK421 hg); have NB464_421 := zM (ng_ BK421 hg); replace BK421 := zM (bb_ BK421 hb); have NB429_464 := zM (nl_ BK429 hg); have NB464_429 := zM (ng_ BK429 hg); replace BK429 := zM (bb_ BK429 hb); clear hb hbox hg; have hnb160 := NB464_404.out; have hnc160 := NB404_464.out; have hnb161 := NB464_407.out; have hnc161 := NB407_464.out; have hnb162 := NB464_421.out; have hnc162 := NB421_464.out; have hnb163 := NB464_429.out; have hnc163 := NB429_464.out; obtain ⟨hcz164_0, hcz164_1, hcz164_2, hcz164_3, hcz164_4, hcz164_5, hcz164_6, hcz164_7, hcz164_8⟩ := r9_ BK464.out; obtain ⟨hfz164_0, hfz164_1, hfz164_2, hfz164_3, hfz164_4, hfz164_5, hfz164_6, hfz164_7, hfz164_8⟩ := f9_ BK464.out) | ((with_reducible refine gate_store (t := 27) (p := 12) rfl ?_); clear tk166; refine store_event (t := 27) (p := 12) (v := ?vo_w165) (w1 := (((((((((w158.setCell ⟨gb464, 0, none⟩ (.int .i64 ((rd_T27 t460 x56_6).f0))).setCell ⟨gb464, 1, none⟩ (.int .i64 ((rd_T27 t460 x56_6).f1))).setCell ⟨gb464, 2, none⟩ (.int .i64 ((rd_T27 t460 x56_6).f2))).setCell ⟨gb464, 3, none⟩ (.int .i64 ((rd_T27 t460 x56_6).f3))).setCell ⟨gb464, 4, none⟩ (.int .i64 ((rd_T27 t460 x56_6).f4))).setCell ⟨gb464, 5, none⟩ (.int .i64 ((rd_T27 t460 x56_6).f5.f0))).setCell ⟨gb464, 6, none⟩ (.int .i64 ((rd_T27 t460 x56_6).f5.f1))).setCell ⟨gb464, 7, none⟩ (.slice A463_7 ((rd_T27 t460 x56_6).f6).length c463_7)).setCell ⟨gb464, 8, none⟩ (.slice A463_8 ((rd_T27 t460 x56_6).f7).length c463_8))) ?hg ?ho ?hn ?hr ?_; (case ho => rfl); (case hg => rfl); (case hn => rfl); (case hr => first | (go_simp; done) | (go_simp; rfl)); intro w165 hw; have n0_ : Aside0 (Kd.S k27 27 w165 w.heap.size (fun k_ => some k_ ≠ (.slice Ao26 t415.length co26 : Value).ownBlock ∧ some k_ ≠ (.slice Ao25 t418.length co25 : Value).ownBlock ∧ some k_ ≠ (.slice Ao147 x422015_40.length co147 : Value).ownBlock ∧ some k_ ≠ (.slice Ao148 x422016_40.length co148 : Value).ownBlock ∧ k_ ≠ gb404 ∧ k_ ≠ gb407 ∧ k_ ≠ gb429 ∧ k_ ≠ gb464) (.slice (some ad463) t460.length co154) t460) := ⟨(by rw [hw]; exact (by (with_reducible repeat (first | apply Kd.S_alloc | apply Kd.S_drewN | apply Kd.S_drew)); exact Kd.S_mono (Kd.S_far (p := ⟨gb464, 8, none⟩) (Kd.S_far (p := ⟨gb464, 7, none⟩) (Kd.S_far (p := ⟨gb464, 6, none⟩) (Kd.S_far (p := ⟨gb464, 5, none⟩) (Kd.S_far (p := ⟨gb464, 4, none⟩) (Kd.S_far (p := ⟨gb464, 3, none⟩) (Kd.S_far (p := ⟨gb464, 2, none⟩) (Kd.S_far (p := ⟨gb464, 1, none⟩) (Kd.S_far (p := ⟨gb464, 0, none⟩) (Kd.S_mono HO_54.out (fun k_ hk => (⟨hk, hk.2⟩ : _ ∧ k_ ≠ gb464))) (fun _ hk => hk.2) (.int .i64 ((rd_T27 t460 x56_6).f0))) (fun _ hk => hk.2) (.int .i64 ((rd_T27 t460 x56_6).f1))) (fun _ hk => hk.2) (.int .i64 ((rd_T27 t460 x56_6).f2))) (fun _ hk => hk.2) (.int .i64 ((rd_T27 t460 x56_6).f3))) (fun _ hk => hk.2) (.int .i64 ((rd_T27 t460 x56_6).f4))) (fun _ hk => hk.2) (.int .i64 ((rd_T27 t460 x56_6).f5.f0))) (fun _ hk => hk.2) (.int .i64 ((rd_T27 t460 x56_6).f5.f1))) (fun _ hk => hk.2) (.slice A463_7 ((rd_T27 t460 x56_6).f6).length c463_7)) (fun _ hk => hk.2) (.slice A463_8 ((rd_T27 t460 x56_6).f7).length c463_8)) (fun _ hk => ⟨hk.1.1.1, ⟨hk.1.1.2.1, ⟨hk.1.1.2.2.1, ⟨hk.1.1.2.2.2.1, ⟨hk.1.1.2.2.2.2.1, ⟨hk.1.1.2.2.2.2.2.1, ⟨hk.1.1.2.2.2.2.2.2, hk.1.2⟩⟩⟩⟩⟩⟩⟩)))⟩; have n1_ : Aside0 (Kd.R k43 43 w165 w.heap.size (fun k_ => some k_ ≠ (.slice Ao147 x422015_40.length co147 : Value).ownBlock) (.slice Ao26 t415.length co26) t415) := ⟨(by rw [hw]; exact (by (with_reducible repeat (first | apply Kd.R_alloc | apply Kd.R_drewN | apply Kd.R_drew)); exact Kd.R_mono (Kd.R_far (p := ⟨gb464, 8, none⟩) (Kd.R_far (p := ⟨gb464, 7, none⟩) (Kd.R_far (p := ⟨gb464, 6, none⟩) (Kd.R_far (p := ⟨gb464, 5, none⟩) (Kd.R_far (p := ⟨gb464, 4, none⟩) (Kd.R_far (p := ⟨gb464, 3, none⟩) (Kd.R_far (p := ⟨gb464, 2, none⟩) (Kd.R_far (p := ⟨gb464, 1, none⟩) (Kd.R_far (p := ⟨gb464, 0, none⟩) (Kd.R_types HO_422007.out BK464.out (by decide)) (fun _ hk => hk.2) (.int .i64 ((rd_T27 t460 x56_6).f0))) (fun _ hk => hk.2) (.int .i64 ((rd_T27 t460 x56_6).f1))) (fun _ hk => hk.2) (.int .i64 ((rd_T27 t460 x56_6).f2))) (fun _ hk => hk.2) (.int .i64 ((rd_T27 t460 x56_6).f3))) (fun _ hk => hk.2) (.int .i64 ((rd_T27 t460 x56_6).f4))) (fun _ hk => hk.2) (.int .i64 ((rd_T27 t460 x56_6).f5.f0))) (fun _ hk => hk.2) (.int .i64 ((rd_T27 t460 x56_6).f5.f1))) (fun _ hk => hk.2) (.slice A463_7 ((rd_T27 t460 x56_6).f6).length c463_7)) (fun _ hk => hk.2) (.slice A463_8 ((rd_T27 t460 x56_6).f7).length c463_8)) (fun _ hk => hk.1)))⟩; have n2_ : Aside0 (Kd.R k48 48 w165 w.heap.size (fun k_ => some k_ ≠ (.slice Ao148 x422016_40.length co148 : Value).ownBlock) (.slice Ao25 t418.length co25) t418) := ⟨(by rw [hw]; exact (by (with_reducible repeat (first | apply Kd.R_alloc | apply Kd.R_drewN | apply Kd.R_drew)); exact Kd.R_mono (Kd.R_far (p := ⟨gb464, 8, none⟩) (Kd.R_far (p := ⟨gb464, 7, none⟩) (Kd.R_far (p := ⟨gb464, 6, none⟩) (Kd.R_far (p := ⟨gb464, 5, none⟩) (Kd.R_far (p := ⟨gb464, 4, none⟩) (Kd.R_far (p := ⟨gb464, 3, none⟩) (Kd.R_far (p := ⟨gb464, 2, none⟩) (Kd.R_far (p := ⟨gb464, 1, none⟩) (Kd.R_far (p := ⟨gb464, 0, none⟩) (Kd.R_types HO_422008.out BK464.out (by decide)) (fun _ hk => hk.2) (.int .i64 ((rd_T27 t460 x56_6).f0))) (fun _ hk => hk.2) (.int .i64 ((rd_T27 t460 x56_6).f1))) (fun _ hk => hk.2) (.int .i64 ((rd_T27 t460 x56_6).f2))) (fun _ hk => hk.2) (.int .i64 ((rd_T27 t460 x56_6).f3))) (fun _ hk => hk.2) (.int .i64 ((rd_T27 t460 x56_6).f4))) (fun _ hk => hk.2) (.int .i64 ((rd_T27 t460 x56_6).f5.f0))) (fun _ hk => hk.2) (.int .i64 ((rd_T27 t460 x56_6).f5.f1))) (fun _ hk => hk.2) (.slice A463_7 ((rd_T27 t460 x56_6).f6).length c463_7)) (fun _ hk => hk.2) (.slice A463_8 ((rd_T27 t460 x56_6).f7).length c463_8)) (fun _ hk => hk.1)))⟩; have n3_ : Aside0 (Kd.R k43 43 w165 w.heap.size (fun k_ => some k_ ≠ (.slice Ao26 t415.length co26 : Value).ownBlock) (.slice Ao147 x422015_40.length co147) x422015_40) := ⟨(by rw [hw]; exact (by (with_reducible repeat (first | apply Kd.R_alloc | apply Kd.R_drewN | apply Kd.R_drew)); exact Kd.R_mono (Kd.R_far (p := ⟨gb464, 8, none⟩) (Kd.R_far (p := ⟨gb464, 7, none⟩) (Kd.R_far (p := ⟨gb464, 6, none⟩) (Kd.R_far (p := ⟨gb464, 5, none⟩) (Kd.R_far (p := ⟨gb464, 4, none⟩) (Kd.R_far (p := ⟨gb464, 3, none⟩) (Kd.R_far (p := ⟨gb464, 2, none⟩) (Kd.R_far (p := ⟨gb464, 1, none⟩) (Kd.R_far (p := ⟨gb464, 0, none⟩) (Kd.R_types HO_422015.out BK464.out (by decide)) (fun _ hk => hk.2) (.int .i64 ((rd_T27 t460 x56_6).f0))) (fun _ hk => hk.2) (.int .i64 ((rd_T27 t460 x56_6).f1))) (fun _ hk => hk.2) (.int .i64 ((rd_T27 t460 x56_6).f2))) (fun _ hk => hk.2) (.int .i64 ((rd_T27 t460 x56_6).f3))) (fun _ hk => hk.2) (.int .i64 ((rd_T27 t460 x56_6).f4))) (fun _ hk => hk.2) (.int .i64 ((rd_T27 t460 x56_6).f5.f0))) (fun _ hk => hk.2) (.int .i64 ((rd_T27 t460 x56_6).f5.f1))) (fun _ hk => hk.2) (.slice A463_7 ((rd_T27 t460 x56_6).f6).length c463_7)) (fun _ hk => hk.2) (.slice A463_8 ((rd_T27 t460 x56_6).f7).length c463_8)) (fun _ hk => hk.1)))⟩; have n4_ : Aside0 (Kd.R k48 48 w165 w.heap.size (fun k_ => some k_ ≠ (.slice Ao25 t418.length co25 : Value).ownBlock) (.slice Ao148 x422016_40.length co148) x422016_40) := ⟨(by rw [hw]; exact (by (with_reducible repeat (first | apply Kd.R_alloc | apply Kd.R_drewN | apply Kd.R_drew)); exact Kd.R_mono (Kd.R_far (p := ⟨gb464, 8, none⟩) (Kd.R_far (p := ⟨gb464, 7, none⟩) (Kd.R_far (p := ⟨gb464, 6, none⟩) (Kd.R_far (p := ⟨gb464, 5, none⟩) (Kd.R_far (p := ⟨gb464, 4, none⟩) (Kd.R_far (p := ⟨gb464, 3, none⟩) (Kd.R_far (p := ⟨gb464, 2, none⟩) (Kd.R_far (p := ⟨gb464, 1, none⟩) (Kd.R_far (p := ⟨gb464, 0, none⟩) (Kd.R_types HO_422016.out BK464.out (by decide)) (fun _ hk => hk.2) (.int .i64 ((rd_T27 t460 x56_6).f0))) (fun _ hk => hk.2) (.int .i64 ((rd_T27 t460 x56_6).f1))) (fun _ hk => hk.2) (.int .i64 ((rd_T27 t460 x56_6).f2))) (fun _ hk => hk.2) (.int .i64 ((rd_T27 t460 x56_6).f3))) (fun _ hk => hk.2) (.int .i64 ((rd_T27 t460 x56_6).f4))) (fun _ hk => hk.2) (.int .i64 ((rd_T27 t460 x56_6).f5.f0))) (fun _ hk => hk.2) (.int .i64 ((rd_T27 t460 x56_6).f5.f1))) (fun _ hk => hk.2) (.slice A463_7 ((rd_T27 t460 x56_6).f6).length c463_7)) (fun _ hk => hk.2) (.slice A463_8 ((rd_T27 t460 x56_6).f7).length c463_8)) (fun _ hk => hk.1)))⟩; have n5_ : Aside0 (Kd.R k43 43 w165 w.heap.size (fun k_ => some k_ ≠ (.slice (some ad463) t460.length co154 : Value).ownBlock ∧ some k_ ≠ (.slice Ao26 t415.length co26 : Value).ownBlock ∧ some k_ ≠ (.slice Ao25 t418.length co25 : Value).ownBlock ∧ some k_ ≠ (.slice Ao147 x422015_40.length co147 : Value).ownBlock ∧ some k_ ≠ (.slice Ao148 x422016_40.length co148 : Value).ownBlock ∧ k_ ≠ gb404 ∧ k_ ≠ gb407 ∧ k_ ≠ gb429) (.slice A463_7 ((rd_T27 t460 x56_6).f6).length c463_7) ((rd_T27 t460 x56_6).f6)) := ⟨(by rw [hw]; exact (by (with_reducible repeat (first | apply Kd.R_alloc | apply Kd.R_drewN | apply Kd.R_drew)); exact Kd.R_mono (Kd.R_far (p := ⟨gb464, 8, none⟩) (Kd.R_far (p := ⟨gb464, 7, none⟩) (Kd.R_far (p := ⟨gb464, 6, none⟩) (Kd.R_far (p := ⟨gb464, 5, none⟩) (Kd.R_far (p := ⟨gb464, 4, none⟩) (Kd.R_far (p := ⟨gb464, 3, none⟩) (Kd.R_far (p := ⟨gb464, 2, none⟩) (Kd.R_far (p := ⟨gb464, 1, none⟩) (Kd.R_far (p := ⟨gb464, 0, none⟩) (Kd.R_types HL463_7.out BK464.out (by decide)) (fun _ hk => hk.2) (.int .i64 ((rd_T27 t460 x56_6).f0))) (fun _ hk => hk.2) (.int .i64 ((rd_T27 t460 x56_6).f1))) (fun _ hk => hk.2) (.int .i64 ((rd_T27 t460 x56_6).f2))) (fun _ hk => hk.2) (.int .i64 ((rd_T27 t460 x56_6).f3))) (fun _ hk => hk.2) (.int .i64 ((rd_T27 t460 x56_6).f4))) (fun _ hk => hk.2) (.int .i64 ((rd_T27 t460 x56_6).f5.f0))) (fun _ hk => hk.2) (.int .i64 ((rd_T27 t460 x56_6).f5.f1))) (fun _ hk => hk.2) (.slice A463_7 ((rd_T27 t460 x56_6).f6).length c463_7)) (fun _ hk => hk.2) (.slice A463_8 ((rd_T27 t460 x56_6).f7).length c463_8)) (fun _ hk => ⟨hk.1.2, ⟨hk.1.1.1, ⟨hk.1.1.2.1, ⟨hk.1.1.2.2.1, ⟨hk.1.1.2.2.2.1, ⟨hk.1.1.2.2.2.2.1, ⟨hk.1.1.2.2.2.2.2.1, hk.1.1.2.2.2.2.2.2⟩⟩⟩⟩⟩⟩⟩)))⟩; have n6_ : Aside0 (Kd.R k48 48 w165 w.heap.size (fun k_ => some k_ ≠ (.slice (some ad463) t460.length co154 : Value).ownBlock ∧ some k_ ≠ (.slice Ao26 t415.length co26 : Value).ownBlock ∧ some k_ ≠ (.slice Ao25 t418.length co25 : Value).ownBlock ∧ some k_ ≠ (.slice Ao147 x422015_40.length co147 : Value).ownBlock ∧ some k_ ≠ (.slice Ao148 x422016_40.length co148 : Value).ownBlock ∧ k_ ≠ gb404 ∧ k_ ≠ gb407 ∧ k_ ≠ gb429) (.slice A463_8 ((rd_T27 t460 x56_6).f7).length c463_8) ((rd_T27 t460 x56_6).f7)) := ⟨(by rw [hw]; exact (by (with_reducible repeat (first | apply Kd.R_alloc | apply Kd.R_drewN | apply Kd.R_drew)); exact Kd.R_mono (Kd.R_far (p := ⟨gb464, 8, none⟩) (Kd.R_far (p := ⟨gb464, 7, none⟩) (Kd.R_far (p := ⟨gb464, 6, none⟩) (Kd.R_far (p := ⟨gb464, 5, none⟩) (Kd.R_far (p := ⟨gb464, 4, none⟩) (Kd.R_far (p := ⟨gb464, 3, none⟩) (Kd.R_far (p := ⟨gb464, 2, none⟩) (Kd.R_far (p := ⟨gb464, 1, none⟩) (Kd.R_far (p := ⟨gb464, 0, none⟩) (Kd.R_types HL463_8.out BK464.out (by decide)) (fun _ hk => hk.2) (.int .i64 ((rd_T27 t460 x56_6).f0))) (fun _ hk => hk.2) (.int .i64 ((rd_T27 t460 x56_6).f1))) (fun _ hk => hk.2) (.int .i64 ((rd_T27 t460 x56_6).f2))) (fun _ hk => hk.2) (.int .i64 ((rd_T27 t460 x56_6).f3))) (fun _ hk => hk.2) (.int .i64 ((rd_T27 t460 x56_6).f4))) (fun _ hk => hk.2) (.int .i64 ((rd_T27 t460 x56_6).f5.f0))) (fun _ hk => hk.2) (.int .i64 ((rd_T27 t460 x56_6).f5.f1))) (fun _ hk => hk.2) (.slice A463_7 ((rd_T27 t460 x56_6).f6).length c463_7)) (fun _ hk => hk.2) (.slice A463_8 ((rd_T27 t460 x56_6).f7).length c463_8)) (fun _ hk => ⟨hk.1.2, ⟨hk.1.1.1, ⟨hk.1.1.2.1, ⟨hk.1.1.2.2.1, ⟨hk.1.1.2.2.2.1, ⟨hk.1.1.2.2.2.2.1, ⟨hk.1.1.2.2.2.2.2.1, hk.1.1.2.2.2.2.2.2⟩⟩⟩⟩⟩⟩⟩)))⟩; have n7_ : Aside0 (w165.heap[gb404]? = some (.cells #[.int .i64 a0_0, .int .i64 a0_1, .int .i64 a0_2, .int .i64 a0_3, .int .i64 a0_4, .int .i64 a0_5, .int .i64 a0_6, .slice A0_7 l0_7.length c0_7, .slice A0_8 l0_8.length c0_8] 27 (0, 0))) := ⟨(by rw [hw]; exact blf_)⟩; have n8_ : Aside0 (w165.heap[gb407]? = some (.cells #[.int .i64 a0_0, .int .i64 a0_1, .int .i64 a0_2, .int .i64 a0_3, .int .i64 a0_4, .int .i64 a0_5, .int .i64 a0_6, .slice A0_7 l0_7.length c0_7, .slice A0_8 l0_8.length c0_8] 27 (0, 0))) := ⟨(by rw [hw]; exact blf_)⟩; have n9_ : Aside0 (w165.heap[gb421]? = some (.cells #[.int .i64 x422000_122, .int .i64 x422001_122, .int .i64 x422002_122, .int .i64 x422003_122, .int .i64 x422004_122, .int .i64 x422005_122, .int .i64 x422006_122, .slice Ao26 t415.length co26, .slice Ao25 t418.length co25, .bool x422009_122, .bool x422010_122, .bool x422011_122, .bool x422012_122, .bool x422013_122, .bool x422014_122, .slice Ao147 x422015_40.length co147, .slice Ao148 x422016_40.length co148] 71 (0, 0))) := ⟨(by rw [hw]; exact blf_)⟩; have n10_ : Aside0 (w165.heap[gb429]? = some (.cells #[.int .i64 ((rd_T27 l1 x28_2).f0), .int .i64 ((rd_T27 l1 x28_2).f1), .int .i64 ((rd_T27 l1 x28_2).f2), .int .i64 ((rd_T27 l1 x28_2).f3), .int .i64 ((rd_T27 l1 x28_2).f4), .int .i64 ((rd_T27 l1 x28_2).f5.f0), .int .i64 ((rd_T27 l1 x28_2).f5.f1), .slice A428_7 ((rd_T27 l1 x28_2).f6).length c428_7, .slice A428_8 ((rd_T27 l1 x28_2).f7).length c428_8] 27 (0, 0))) := ⟨(by rw [hw]; exact blf_)⟩; have n11_ : Aside0 (w165.heap[gb464]? = some (.cells #[.int .i64 ((rd_T27 t460 x56_6).f0), .int .i64 ((rd_T27 t460 x56_6).f1), .int .i64 ((rd_T27 t460 x56_6).f2), .int .i64 ((rd_T27 t460 x56_6).f3), .int .i64 ((rd_T27 t460 x56_6).f4), .int .i64 ((rd_T27 t460 x56_6).f5.f0), .int .i64 ((rd_T27 t460 x56_6).f5.f1), .slice A463_7 ((rd_T27 t460 x56_6).f6).length c463_7, .slice A463_8 ((rd_T27 t460 x56_6).f7).length c463_8] 27 (0, 0))) := ⟨(by rw [hw]; exact (by (with_reducible repeat (first | refine zN ?_ _ | refine zD ?_ | refine zA ?_ _)); exact fx9_ BK464))⟩; have n12_ : Aside0 (Below w.heap.size w w165) := ⟨(by rw [hw]; exact bel_)⟩; clear hw; clear HO_54; clear HO_422007; clear HO_422008; clear HO_422015; clear HO_422016; clear HL463_7; clear HL463_8; clear BK404; clear BK407; clear BK421; clear BK429; clear BK464; clear HB; have HO_54 := n0_; have HO_422007 := n1_; have HO_422008 := n2_; have HO_422015 := n3_; have HO_422016 := n4_; have HL463_7 := n5_; have HL463_8 := n6_; have BK404 := n7_; have BK407 := n8_; have BK421 := n9_; have BK429 := n10_; have BK464 := n11_; have HB := n12_; clear n0_ n1_ n2_ n3_ n4_ n5_ n6_ n7_ n8_ n9_ n10_ n11_ n12_))
              try clear hcz164_0
              try clear hcz164_1
              try clear hcz164_2
              try clear hcz164_3
              try clear hcz164_4
              try clear hcz164_5
              try clear hcz164_6
              try clear hcz164_7
              try clear hcz164_8
              try clear hfz164_0
              try clear hfz164_1
              try clear hfz164_2
              try clear hfz164_3
              try clear hfz164_4
              try clear hfz164_5
              try clear hfz164_6
              try clear hfz164_7
              try clear hfz164_8
              try clear hnb160
              try clear hnb161
              try clear hnb162
              try clear hnb163
              try clear hnc160
              try clear hnc161
              try clear hnc162
              try clear hnc163
              by_cases c167 : x10_40 = true
              rotate_left
              · replace c167 := Bool.eq_false_iff.mpr c167
                subst c167
                have H1 : (ropewaylaw14_RoundStays.l1 k6 t459 x7_120 false l1 (l1.length : Int) x28_2 t460 (t460.length : Int) (wrap64 (x56_6 + 1)) a0_0 a0_1 a0_2 a0_3 a0_4 a0_5 a0_6 l0_7 l0_8 x422000_122 x422001_122 x422002_122 x422003_122 x422004_122 x422005_122 x422006_122 t415 t418 x422009_122 x422010_122 x422011_122 x422012_122 x422013_122 x422014_122 x422015_40 x422016_40 ((rd_T27 l1 x28_2).f0) ((rd_T27 l1 x28_2).f1) ((rd_T27 l1 x28_2).f2) ((rd_T27 l1 x28_2).f3) ((rd_T27 l1 x28_2).f4) ((rd_T27 l1 x28_2).f5.f0) ((rd_T27 l1 x28_2).f5.f1) ((rd_T27 l1 x28_2).f6) ((rd_T27 l1 x28_2).f7)) = some r := by rw [if_neg (show ¬ (false = true) by decide)] at H; exact H
                clear H
                have H := H1
                clear H1
                have H' := zM H
                clear H
                go_wp2
                go_roundg k6
                case measure => have := HJ8.out; have := HK2.out; have := HJ40.out; have := HJ120.out; have := HJ122.out; have := HK6.out; omega
                case rel => exact ⟨(wrap64 (x56_6 + 1)), (by first | rfl | (simp; done) | (simp [*]; done) | (simp; grind)), H', ⟨by have := HJ8.out; have := HK2.out; have := HJ40.out; have := HJ120.out; have := HJ122.out; have := HK6.out; omega⟩, ⟨by (with_reducible repeat (first | apply Kd.S_alloc | apply Kd.S_drewN | apply Kd.S_drew)); exact Kd.S_mono HO_54.out (fun _ hk => ⟨hk.1, ⟨hk.2.1, ⟨hk.2.2.1, ⟨hk.2.2.2.1, ⟨hk.2.2.2.2.1, ⟨hk.2.2.2.2.2.1, hk.2.2.2.2.2.2.1⟩⟩⟩⟩⟩⟩)⟩, ⟨by (with_reducible repeat (first | apply Kd.R_alloc | apply Kd.R_drewN | apply Kd.R_drew)); exact HO_422007.out⟩, ⟨by (with_reducible repeat (first | apply Kd.R_alloc | apply Kd.R_drewN | apply Kd.R_drew)); exact HO_422008.out⟩, ⟨by (with_reducible repeat (first | apply Kd.R_alloc | apply Kd.R_drewN | apply Kd.R_drew)); exact HO_422015.out⟩, ⟨by (with_reducible repeat (first | apply Kd.R_alloc | apply Kd.R_drewN | apply Kd.R_drew)); exact HO_422016.out⟩, ⟨blf_⟩, ⟨blf_⟩, ⟨blf_⟩, ⟨blf_⟩, ⟨bel_⟩⟩
              subst c167
              have H1 : (if ((rd_T27 t460 x56_6).f2) = ((rd_T27 l1 x28_2).f1) then (some false) else (ropewaylaw14_RoundStays.l1 k6 t459 x7_120 true l1 (l1.length : Int) x28_2 t460 (t460.length : Int) (wrap64 (x56_6 + 1)) a0_0 a0_1 a0_2 a0_3 a0_4 a0_5 a0_6 l0_7 l0_8 x422000_122 x422001_122 x422002_122 x422003_122 x422004_122 x422005_122 x422006_122 t415 t418 x422009_122 x422010_122 x422011_122 x422012_122 x422013_122 x422014_122 x422015_40 x422016_40 ((rd_T27 l1 x28_2).f0) ((rd_T27 l1 x28_2).f1) ((rd_T27 l1 x28_2).f2) ((rd_T27 l1 x28_2).f3) ((rd_T27 l1 x28_2).f4) ((rd_T27 l1 x28_2).f5.f0) ((rd_T27 l1 x28_2).f5.f1) ((rd_T27 l1 x28_2).f6) ((rd_T27 l1 x28_2).f7))) = some r := by rw [if_pos rfl] at H; exact H
              clear H
              have H := H1
              clear H1
              by_cases c168 : ((rd_T27 t460 x56_6).f2) = ((rd_T27 l1 x28_2).f1)
              · rw [if_pos c168] at H
                have c168b0 : (((rd_T27 t460 x56_6).f2) == ((rd_T27 l1 x28_2).f1)) = true := beq_iff_eq.mpr c168
                have c168b1 : (((rd_T27 t460 x56_6).f2) != ((rd_T27 l1 x28_2).f1)) = false := bne_eq_false_iff_eq.mpr c168
                clear c168
                exact absurd (Option.some.inj H) (by rw [hr1_.out]; decide)
              rw [if_neg c168] at H
              have c168b0 : (((rd_T27 t460 x56_6).f2) == ((rd_T27 l1 x28_2).f1)) = false := beq_eq_false_iff_ne.mpr c168
              have c168b1 : (((rd_T27 t460 x56_6).f2) != ((rd_T27 l1 x28_2).f1)) = true := bne_iff_ne.mpr c168
              have H' := zM H
              clear H
              have hnb169 := NB464_404.out
              have hnc169 := NB404_464.out
              have hnb170 := NB464_407.out
              have hnc170 := NB407_464.out
              have hnb171 := NB464_421.out
              have hnc171 := NB421_464.out
              have hnb172 := NB464_429.out
              have hnc172 := NB429_464.out
              obtain ⟨hcz173_0, hcz173_1, hcz173_2, hcz173_3, hcz173_4, hcz173_5, hcz173_6, hcz173_7, hcz173_8⟩ := r9_ BK464.out
              obtain ⟨hfz173_0, hfz173_1, hfz173_2, hfz173_3, hfz173_4, hfz173_5, hfz173_6, hfz173_7, hfz173_8⟩ := f9_ BK464.out
              have hnb174 := NB429_404.out
              have hnc174 := NB404_429.out
              have hnb175 := NB429_407.out
              have hnc175 := NB407_429.out
              have hnb176 := NB429_421.out
              have hnc176 := NB421_429.out
              obtain ⟨hcz177_0, hcz177_1, hcz177_2, hcz177_3, hcz177_4, hcz177_5, hcz177_6, hcz177_7, hcz177_8⟩ := r9_ BK429.out
              obtain ⟨hfz177_0, hfz177_1, hfz177_2, hfz177_3, hfz177_4, hfz177_5, hfz177_6, hfz177_7, hfz177_8⟩ := f9_ BK429.out
              go_wp2
              go_roundg k6
              case measure => have := HJ8.out; have := HK2.out; have := HJ40.out; have := HJ120.out; have := HJ122.out; have := HK6.out; omega
              case rel => exact ⟨(wrap64 (x56_6 + 1)), (by first | rfl | (simp; done) | (simp [*]; done) | (simp; grind)), H', ⟨by have := HJ8.out; have := HK2.out; have := HJ40.out; have := HJ120.out; have := HJ122.out; have := HK6.out; omega⟩, ⟨by (with_reducible repeat (first | apply Kd.S_alloc | apply Kd.S_drewN | apply Kd.S_drew)); exact Kd.S_mono HO_54.out (fun _ hk => ⟨hk.1, ⟨hk.2.1, ⟨hk.2.2.1, ⟨hk.2.2.2.1, ⟨hk.2.2.2.2.1, ⟨hk.2.2.2.2.2.1, hk.2.2.2.2.2.2.1⟩⟩⟩⟩⟩⟩)⟩, ⟨by (with_reducible repeat (first | apply Kd.R_alloc | apply Kd.R_drewN | apply Kd.R_drew)); exact HO_422007.out⟩, ⟨by (with_reducible repeat (first | apply Kd.R_alloc | apply Kd.R_drewN | apply Kd.R_drew)); exact HO_422008.out⟩, ⟨by (with_reducible repeat (first | apply Kd.R_alloc | apply Kd.R_drewN | apply Kd.R_drew)); exact HO_422015.out⟩, ⟨by (with_reducible repeat (first | apply Kd.R_alloc | apply Kd.R_drewN | apply Kd.R_drew)); exact HO_422016.out⟩, ⟨blf_⟩, ⟨blf_⟩, ⟨blf_⟩, ⟨blf_⟩, ⟨bel_⟩⟩
/-- THE ONE PURE STATEMENT of ropewaylaw14_RoundStays. -/
def ropewaylaw14_RoundStays.Pure : Prop := ∀ (a0_0 : Int) (a0_1 : Int) (a0_2 : Int) (a0_3 : Int) (a0_4 : Int) (a0_5 : Int) (a0_6 : Int) (l0_7 : List (S43)) (l0_8 : List (S48)) (l1 : List (S27)), (Lit.int .i64 a0_0).wf = true → (Lit.int .i64 a0_1).wf = true → (Lit.int .i64 a0_2).wf = true → (Lit.int .i64 a0_3).wf = true → (Lit.int .i64 a0_4).wf = true → (Lit.int .i64 a0_5).wf = true → (Lit.int .i64 a0_6).wf = true → (l0_7.length ≤ maxLen ∧ l0_7.length * 24 ≤ 140737488351232 ∧ ∀ y0 ∈ l0_7, ((Lit.int .i64 y0.f0).wf = true ∧ ((Lit.int .i64 y0.f1.f0).wf = true ∧ (Lit.int .i64 y0.f1.f1).wf = true))) → (l0_8.length ≤ maxLen ∧ l0_8.length * 32 ≤ 140737488351232 ∧ ∀ y0 ∈ l0_8, ((Lit.int .i64 y0.f0).wf = true ∧ ((Lit.int .i64 y0.f1.f0).wf = true ∧ (Lit.int .i64 y0.f1.f1).wf = true) ∧ y0.f2 < 18446744073709551616)) → (l1.length ≤ maxLen ∧ l1.length * 104 ≤ 140737488351232 ∧ ∀ y0 ∈ l1, ((Lit.int .i64 y0.f0).wf = true ∧ (Lit.int .i64 y0.f1).wf = true ∧ (Lit.int .i64 y0.f2).wf = true ∧ (Lit.int .i64 y0.f3).wf = true ∧ (Lit.int .i64 y0.f4).wf = true ∧ ((Lit.int .i64 y0.f5.f0).wf = true ∧ (Lit.int .i64 y0.f5.f1).wf = true) ∧ (y0.f6.length ≤ maxLen ∧ y0.f6.length * 24 ≤ 140737488351232 ∧ ∀ y1 ∈ y0.f6, ((Lit.int .i64 y1.f0).wf = true ∧ ((Lit.int .i64 y1.f1.f0).wf = true ∧ (Lit.int .i64 y1.f1.f1).wf = true))) ∧ (y0.f7.length ≤ maxLen ∧ y0.f7.length * 32 ≤ 140737488351232 ∧ ∀ y1 ∈ y0.f7, ((Lit.int .i64 y1.f0).wf = true ∧ ((Lit.int .i64 y1.f1.f0).wf = true ∧ (Lit.int .i64 y1.f1.f1).wf = true) ∧ y1.f2 < 18446744073709551616)))) → ∃ k, ropewaylaw14_RoundStays.f k a0_0 a0_1 a0_2 a0_3 a0_4 a0_5 a0_6 l0_7 l0_8 l1 = some true

end Go.Proofs.Ytmgiaappokkjfaa.PRoundStays
