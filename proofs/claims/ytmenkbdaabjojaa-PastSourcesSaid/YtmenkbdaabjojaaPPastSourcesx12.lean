/- Written by a program of this session (wip/tool/px.py) over the kit's print: what the code that the law PastSources reaches computes, function by function, and the law's row. -/
import Derived.Test.YtmenkbdaabjojaaPPastSourcesx0
import Derived.Test.YtmenkbdaabjojaaPPastSourcesx3
import Derived.Test.YtmenkbdaabjojaaPPastSourcesx5
import Derived.Test.YtmenkbdaabjojaaPPastSourcesx7
import Derived.Test.YtmenkbdaabjojaaPPastSourcesx10
import Derived.Test.YtmenkbdaabjojaaPPastSourcesx11
namespace Go.Proofs.Ytmenkbdaabjojaa.PPastSources
open Go.RowKit Go.Proofs.YtmenkbdaabjojaaX Go.Proofs.YtmenkbdaabjojaaW.PrintWords Go.Proofs.YtmenkbdaabjojaaW.PrintLast Go.Proofs.YtmenkbdaabjojaaW.PrintMore
open List renaming setIfInBounds_toArray → zS, set_cons_zero → zZ, set_cons_succ → zC
open Go.Proofs.YtmenkbdaabjojaaW.PrintWords renaming below_step → zB
open Go.Proofs.YtmenkbdaabjojaaW.PrintWords.Aside0 renaming mk → zM
attribute [local go_sem] max2_int min2_int max_two min_two max_three min_three max_four min_four   -- for this text's walks alone
set_option linter.unusedVariables false
set_option linter.unusedSimpArgs false

attribute [local go_sem] px_store_float px_neg_float px_call40
/-! ### ropewaylaw21_pastAlive: function 7 -/
def ropewaylaw21_pastAlive.f (k : Nat)  : Option (Bool) := (ropewaylaw21_put.f 1 1 3 1 4617315517961601024).bind fun bt232 => ((ropewaylaw21_get.f 4 6 1 1 4617315517961601024).bind fun bt247 => ((some (([(⟨bt232.1, bt232.2.1, bt232.2.2.1, (⟨bt232.2.2.2.1, bt232.2.2.2.2.1, bt232.2.2.2.2.2.1, (⟨bt232.2.2.2.2.2.2.1, bt232.2.2.2.2.2.2.2.1⟩ : S24)⟩ : S26), (⟨bt232.2.2.2.2.2.2.2.2.1, (⟨bt232.2.2.2.2.2.2.2.2.2.1, bt232.2.2.2.2.2.2.2.2.2.2.1⟩ : S24), (⟨bt232.2.2.2.2.2.2.2.2.2.2.2.1, (⟨bt232.2.2.2.2.2.2.2.2.2.2.2.2.1, bt232.2.2.2.2.2.2.2.2.2.2.2.2.2.1⟩ : S29), bt232.2.2.2.2.2.2.2.2.2.2.2.2.2.2⟩ : S31)⟩ : S33)⟩ : S35), (⟨bt247.1, bt247.2.1, bt247.2.2.1, (⟨bt247.2.2.2.1, bt247.2.2.2.2.1, bt247.2.2.2.2.2.1, (⟨bt247.2.2.2.2.2.2.1, bt247.2.2.2.2.2.2.2.1⟩ : S24)⟩ : S26), (⟨bt247.2.2.2.2.2.2.2.2.1, (⟨bt247.2.2.2.2.2.2.2.2.2.1, bt247.2.2.2.2.2.2.2.2.2.2.1⟩ : S24), (⟨bt247.2.2.2.2.2.2.2.2.2.2.2.1, (⟨bt247.2.2.2.2.2.2.2.2.2.2.2.2.1, bt247.2.2.2.2.2.2.2.2.2.2.2.2.2.1⟩ : S29), bt247.2.2.2.2.2.2.2.2.2.2.2.2.2.2⟩ : S31)⟩ : S33)⟩ : S35)] : List (S35)) : List (S35))).bind fun y262 => ((ropewaylaw21_get.f 4 6 1 1 4617315517961601024).bind fun bt265 => ((ropewaylaw21_put.f 1 1 3 1 4617315517961601024).bind fun bt283 => ((ropewaylaw21_get.f 4 6 0 0 0).bind fun bt298 => ((past_Fits.f k y262).bind fun t316 => (if t316 = true then ((past_Source.f k y262 1).bind fun t317 => (if t317 = 0 then ((past_Fits.f k (([(⟨bt265.1, bt265.2.1, bt265.2.2.1, (⟨bt265.2.2.2.1, bt265.2.2.2.2.1, bt265.2.2.2.2.2.1, (⟨bt265.2.2.2.2.2.2.1, bt265.2.2.2.2.2.2.2.1⟩ : S24)⟩ : S26), (⟨bt265.2.2.2.2.2.2.2.2.1, (⟨bt265.2.2.2.2.2.2.2.2.2.1, bt265.2.2.2.2.2.2.2.2.2.2.1⟩ : S24), (⟨bt265.2.2.2.2.2.2.2.2.2.2.2.1, (⟨bt265.2.2.2.2.2.2.2.2.2.2.2.2.1, bt265.2.2.2.2.2.2.2.2.2.2.2.2.2.1⟩ : S29), bt265.2.2.2.2.2.2.2.2.2.2.2.2.2.2⟩ : S31)⟩ : S33)⟩ : S35)] : List (S35)))).bind fun t318 => (if t318 = true then (some false) else ((past_Fits.f k (([(⟨bt283.1, bt283.2.1, bt283.2.2.1, (⟨bt283.2.2.2.1, bt283.2.2.2.2.1, bt283.2.2.2.2.2.1, (⟨bt283.2.2.2.2.2.2.1, bt283.2.2.2.2.2.2.2.1⟩ : S24)⟩ : S26), (⟨bt283.2.2.2.2.2.2.2.2.1, (⟨bt283.2.2.2.2.2.2.2.2.2.1, bt283.2.2.2.2.2.2.2.2.2.2.1⟩ : S24), (⟨bt283.2.2.2.2.2.2.2.2.2.2.2.1, (⟨bt283.2.2.2.2.2.2.2.2.2.2.2.2.1, bt283.2.2.2.2.2.2.2.2.2.2.2.2.2.1⟩ : S29), bt283.2.2.2.2.2.2.2.2.2.2.2.2.2.2⟩ : S31)⟩ : S33)⟩ : S35), (⟨bt298.1, bt298.2.1, bt298.2.2.1, (⟨bt298.2.2.2.1, bt298.2.2.2.2.1, bt298.2.2.2.2.2.1, (⟨bt298.2.2.2.2.2.2.1, bt298.2.2.2.2.2.2.2.1⟩ : S24)⟩ : S26), (⟨bt298.2.2.2.2.2.2.2.2.1, (⟨bt298.2.2.2.2.2.2.2.2.2.1, bt298.2.2.2.2.2.2.2.2.2.2.1⟩ : S24), (⟨bt298.2.2.2.2.2.2.2.2.2.2.2.1, (⟨bt298.2.2.2.2.2.2.2.2.2.2.2.2.1, bt298.2.2.2.2.2.2.2.2.2.2.2.2.2.1⟩ : S29), bt298.2.2.2.2.2.2.2.2.2.2.2.2.2.2⟩ : S31)⟩ : S33)⟩ : S35)] : List (S35)))).bind fun t319 => (if t319 = true then (some false) else (if 0 < (y262.length : Int) then (if 1 < (y262.length : Int) then ((past_Before.f ((rd_T35 y262 0).f0) ((rd_T35 y262 0).f1) ((rd_T35 y262 0).f2) ((rd_T35 y262 0).f3.f0) ((rd_T35 y262 0).f3.f1) ((rd_T35 y262 0).f3.f2) ((rd_T35 y262 0).f3.f3.f0) ((rd_T35 y262 0).f3.f3.f1) ((rd_T35 y262 0).f4.f0) ((rd_T35 y262 0).f4.f1.f0) ((rd_T35 y262 0).f4.f1.f1) ((rd_T35 y262 0).f4.f2.f0) ((rd_T35 y262 0).f4.f2.f1.f0) ((rd_T35 y262 0).f4.f2.f1.f1) ((rd_T35 y262 0).f4.f2.f2) ((rd_T35 y262 1).f0) ((rd_T35 y262 1).f1) ((rd_T35 y262 1).f2) ((rd_T35 y262 1).f3.f0) ((rd_T35 y262 1).f3.f1) ((rd_T35 y262 1).f3.f2) ((rd_T35 y262 1).f3.f3.f0) ((rd_T35 y262 1).f3.f3.f1) ((rd_T35 y262 1).f4.f0) ((rd_T35 y262 1).f4.f1.f0) ((rd_T35 y262 1).f4.f1.f1) ((rd_T35 y262 1).f4.f2.f0) ((rd_T35 y262 1).f4.f2.f1.f0) ((rd_T35 y262 1).f4.f2.f1.f1) ((rd_T35 y262 1).f4.f2.f2)).bind fun t322 => (if t322 = true then ((past_Well.f ((rd_T35 y262 0).f0) ((rd_T35 y262 0).f1) ((rd_T35 y262 0).f2) ((rd_T35 y262 0).f3.f0) ((rd_T35 y262 0).f3.f1) ((rd_T35 y262 0).f3.f2) ((rd_T35 y262 0).f3.f3.f0) ((rd_T35 y262 0).f3.f3.f1) ((rd_T35 y262 0).f4.f0) ((rd_T35 y262 0).f4.f1.f0) ((rd_T35 y262 0).f4.f1.f1) ((rd_T35 y262 0).f4.f2.f0) ((rd_T35 y262 0).f4.f2.f1.f0) ((rd_T35 y262 0).f4.f2.f1.f1) ((rd_T35 y262 0).f4.f2.f2)).bind fun t324 => (if t324 = true then ((past_Views.f k 7 0 y262).bind fun t325 => (if t325 = true then ((past_Grows.f k y262).bind fun t326 => (some t326)) else (some false))) else (some false))) else (some false))) else (none)) else (none)))))) else (some false))) else (some false))))))))
theorem ropewaylaw21_pastAlive.mono : ∀ k, LeO (ropewaylaw21_pastAlive.f k ) (ropewaylaw21_pastAlive.f (k + 1) ) := by
  intro  k
  unfold ropewaylaw21_pastAlive.f
  repeat' first
      | (with_reducible exact past_Fits.mono _ _)
      | (with_reducible exact past_Grows.mono _ _)
      | (with_reducible exact past_Source.mono _ _ _)
      | (with_reducible exact past_Views.mono _ _ _ _)
      | (with_reducible exact LeO.refl _)
      | (with_reducible exact LeO.none _)
      | (with_reducible refine LeO.ite ?_ ?_)
      | (with_reducible refine LeO.bind ?_ (fun _ => ?_))
      | exact past_Fits.mono _ _
      | exact past_Grows.mono _ _
      | exact past_Source.mono _ _ _
      | exact past_Views.mono _ _ _ _
      | exact LeO.none _
      | refine LeO.ite ?_ ?_
      | refine LeO.bind ?_ (fun _ => ?_)
def ropewaylaw21_pastAlive.T4 : Bool × List (List Nat × List Nat) := (true, [([], []), ([0], [0]), ([1, 1], [1]), ([2], [2]), ([3, 2, 2], [2, 3]), ([4, 2], [2, 4]), ([2, 5], [2, 5]), ([6, 4], [6]), ([7], [7]), ([8, 7, 7], [7, 8]), ([9, 7], [7, 9]), ([7, 10], [7, 10]), ([11, 9], [11]), ([12], [12]), ([13, 12, 12], [12, 13]), ([14, 12], [12, 14]), ([12, 15], [12, 15]), ([16, 14], [16]), ([17], [17]), ([18, 17], [17, 18]), ([19, 17], [17, 19]), ([17], [17]), ([21, 17], [17, 21]), ([22, 17], [17, 22]), ([20, 23, 17, 17], [17, 20, 23]), ([17, 24], [17, 24]), ([25, 24], [25]), ([26], [26]), ([27, 26], [26, 27]), ([28, 26], [26, 28]), ([29, 26, 26], [26, 29]), ([26, 30], [26, 30]), ([31, 30], [31]), ([32], [32]), ([32], [32]), ([33, 34, 32, 32], [32, 33, 34]), ([32, 35], [32, 35]), ([36, 35], [36]), ([37], [37]), ([38, 37, 37], [37, 38]), ([37, 39], [37, 39]), ([40, 39, 0, 1, 2, 3, 4, 5, 6, 7, 8, 9, 10, 11, 12, 13, 14, 15, 16, 17, 18, 19, 20, 21, 22, 23, 24, 25, 26, 27, 28, 29, 30, 31, 32, 33, 34, 35, 36, 37, 38, 39, 40], [40])])
def ropewaylaw21_pastAlive.B4 : List Nat := [0, 1, 3, 7, 15, 31, 63, 127, 255, 511, 1023, 2047, 4095, 8191, 16383, 32767, 65535, 131071, 262143, 524287, 1048575, 262143, 2359295, 6553599, 16777215, 33554431, 67108863, 134217727, 268435455, 536870911, 1073741823, 2147483647, 4294967295, 8589934591, 8589934591, 34359738367, 68719476735, 137438953471, 274877906943, 549755813887, 1099511627775, 2199023255551]
theorem ropewaylaw21_pastAlive.tab4 : rtab .any (opsOf Try.f7 4) = ropewaylaw21_pastAlive.T4 := by kernel_rfl
theorem ropewaylaw21_pastAlive.bits4 : waitsOk ropewaylaw21_pastAlive.T4.2 ropewaylaw21_pastAlive.B4 = true := by kernel_rfl
set_option maxHeartbeats 8000000 in
set_option maxRecDepth 100000 in
theorem ropewaylaw21_pastAlive.calls (k : Nat)  (r : Bool) (w : World) (h : ropewaylaw21_pastAlive.f k  = some r) :
    Calls Try.prog 7 #[] w fun e w' => e = .returned (.bool r) ∧ Below w.heap.size w w' := by
  have hu29 := Try.underlying29
  have hu35 := Try.underlying35
  have hu24 := Try.underlying24
  have HB := zM (Below.refl w.heap.size w)
  have H : ((ropewaylaw21_put.f 1 1 3 1 4617315517961601024).bind fun bt232 => ((ropewaylaw21_get.f 4 6 1 1 4617315517961601024).bind fun bt247 => ((some (([(⟨bt232.1, bt232.2.1, bt232.2.2.1, (⟨bt232.2.2.2.1, bt232.2.2.2.2.1, bt232.2.2.2.2.2.1, (⟨bt232.2.2.2.2.2.2.1, bt232.2.2.2.2.2.2.2.1⟩ : S24)⟩ : S26), (⟨bt232.2.2.2.2.2.2.2.2.1, (⟨bt232.2.2.2.2.2.2.2.2.2.1, bt232.2.2.2.2.2.2.2.2.2.2.1⟩ : S24), (⟨bt232.2.2.2.2.2.2.2.2.2.2.2.1, (⟨bt232.2.2.2.2.2.2.2.2.2.2.2.2.1, bt232.2.2.2.2.2.2.2.2.2.2.2.2.2.1⟩ : S29), bt232.2.2.2.2.2.2.2.2.2.2.2.2.2.2⟩ : S31)⟩ : S33)⟩ : S35), (⟨bt247.1, bt247.2.1, bt247.2.2.1, (⟨bt247.2.2.2.1, bt247.2.2.2.2.1, bt247.2.2.2.2.2.1, (⟨bt247.2.2.2.2.2.2.1, bt247.2.2.2.2.2.2.2.1⟩ : S24)⟩ : S26), (⟨bt247.2.2.2.2.2.2.2.2.1, (⟨bt247.2.2.2.2.2.2.2.2.2.1, bt247.2.2.2.2.2.2.2.2.2.2.1⟩ : S24), (⟨bt247.2.2.2.2.2.2.2.2.2.2.2.1, (⟨bt247.2.2.2.2.2.2.2.2.2.2.2.2.1, bt247.2.2.2.2.2.2.2.2.2.2.2.2.2.1⟩ : S29), bt247.2.2.2.2.2.2.2.2.2.2.2.2.2.2⟩ : S31)⟩ : S33)⟩ : S35)] : List (S35)) : List (S35))).bind fun y262 => ((ropewaylaw21_get.f 4 6 1 1 4617315517961601024).bind fun bt265 => ((ropewaylaw21_put.f 1 1 3 1 4617315517961601024).bind fun bt283 => ((ropewaylaw21_get.f 4 6 0 0 0).bind fun bt298 => ((past_Fits.f k y262).bind fun t316 => (if t316 = true then ((past_Source.f k y262 1).bind fun t317 => (if t317 = 0 then ((past_Fits.f k (([(⟨bt265.1, bt265.2.1, bt265.2.2.1, (⟨bt265.2.2.2.1, bt265.2.2.2.2.1, bt265.2.2.2.2.2.1, (⟨bt265.2.2.2.2.2.2.1, bt265.2.2.2.2.2.2.2.1⟩ : S24)⟩ : S26), (⟨bt265.2.2.2.2.2.2.2.2.1, (⟨bt265.2.2.2.2.2.2.2.2.2.1, bt265.2.2.2.2.2.2.2.2.2.2.1⟩ : S24), (⟨bt265.2.2.2.2.2.2.2.2.2.2.2.1, (⟨bt265.2.2.2.2.2.2.2.2.2.2.2.2.1, bt265.2.2.2.2.2.2.2.2.2.2.2.2.2.1⟩ : S29), bt265.2.2.2.2.2.2.2.2.2.2.2.2.2.2⟩ : S31)⟩ : S33)⟩ : S35)] : List (S35)))).bind fun t318 => (if t318 = true then (some false) else ((past_Fits.f k (([(⟨bt283.1, bt283.2.1, bt283.2.2.1, (⟨bt283.2.2.2.1, bt283.2.2.2.2.1, bt283.2.2.2.2.2.1, (⟨bt283.2.2.2.2.2.2.1, bt283.2.2.2.2.2.2.2.1⟩ : S24)⟩ : S26), (⟨bt283.2.2.2.2.2.2.2.2.1, (⟨bt283.2.2.2.2.2.2.2.2.2.1, bt283.2.2.2.2.2.2.2.2.2.2.1⟩ : S24), (⟨bt283.2.2.2.2.2.2.2.2.2.2.2.1, (⟨bt283.2.2.2.2.2.2.2.2.2.2.2.2.1, bt283.2.2.2.2.2.2.2.2.2.2.2.2.2.1⟩ : S29), bt283.2.2.2.2.2.2.2.2.2.2.2.2.2.2⟩ : S31)⟩ : S33)⟩ : S35), (⟨bt298.1, bt298.2.1, bt298.2.2.1, (⟨bt298.2.2.2.1, bt298.2.2.2.2.1, bt298.2.2.2.2.2.1, (⟨bt298.2.2.2.2.2.2.1, bt298.2.2.2.2.2.2.2.1⟩ : S24)⟩ : S26), (⟨bt298.2.2.2.2.2.2.2.2.1, (⟨bt298.2.2.2.2.2.2.2.2.2.1, bt298.2.2.2.2.2.2.2.2.2.2.1⟩ : S24), (⟨bt298.2.2.2.2.2.2.2.2.2.2.2.1, (⟨bt298.2.2.2.2.2.2.2.2.2.2.2.2.1, bt298.2.2.2.2.2.2.2.2.2.2.2.2.2.1⟩ : S29), bt298.2.2.2.2.2.2.2.2.2.2.2.2.2.2⟩ : S31)⟩ : S33)⟩ : S35)] : List (S35)))).bind fun t319 => (if t319 = true then (some false) else (if 0 < (y262.length : Int) then (if 1 < (y262.length : Int) then ((past_Before.f ((rd_T35 y262 0).f0) ((rd_T35 y262 0).f1) ((rd_T35 y262 0).f2) ((rd_T35 y262 0).f3.f0) ((rd_T35 y262 0).f3.f1) ((rd_T35 y262 0).f3.f2) ((rd_T35 y262 0).f3.f3.f0) ((rd_T35 y262 0).f3.f3.f1) ((rd_T35 y262 0).f4.f0) ((rd_T35 y262 0).f4.f1.f0) ((rd_T35 y262 0).f4.f1.f1) ((rd_T35 y262 0).f4.f2.f0) ((rd_T35 y262 0).f4.f2.f1.f0) ((rd_T35 y262 0).f4.f2.f1.f1) ((rd_T35 y262 0).f4.f2.f2) ((rd_T35 y262 1).f0) ((rd_T35 y262 1).f1) ((rd_T35 y262 1).f2) ((rd_T35 y262 1).f3.f0) ((rd_T35 y262 1).f3.f1) ((rd_T35 y262 1).f3.f2) ((rd_T35 y262 1).f3.f3.f0) ((rd_T35 y262 1).f3.f3.f1) ((rd_T35 y262 1).f4.f0) ((rd_T35 y262 1).f4.f1.f0) ((rd_T35 y262 1).f4.f1.f1) ((rd_T35 y262 1).f4.f2.f0) ((rd_T35 y262 1).f4.f2.f1.f0) ((rd_T35 y262 1).f4.f2.f1.f1) ((rd_T35 y262 1).f4.f2.f2)).bind fun t322 => (if t322 = true then ((past_Well.f ((rd_T35 y262 0).f0) ((rd_T35 y262 0).f1) ((rd_T35 y262 0).f2) ((rd_T35 y262 0).f3.f0) ((rd_T35 y262 0).f3.f1) ((rd_T35 y262 0).f3.f2) ((rd_T35 y262 0).f3.f3.f0) ((rd_T35 y262 0).f3.f3.f1) ((rd_T35 y262 0).f4.f0) ((rd_T35 y262 0).f4.f1.f0) ((rd_T35 y262 0).f4.f1.f1) ((rd_T35 y262 0).f4.f2.f0) ((rd_T35 y262 0).f4.f2.f1.f0) ((rd_T35 y262 0).f4.f2.f1.f1) ((rd_T35 y262 0).f4.f2.f2)).bind fun t324 => (if t324 = true then ((past_Views.f k 7 0 y262).bind fun t325 => (if t325 = true then ((past_Grows.f k y262).bind fun t326 => (some t326)) else (some false))) else (some false))) else (some false))) else (none)) else (none)))))) else (some false))) else (some false))))))))) = some r := h
  have hr_ : r = true := det_ ropewaylaw21_pastAlive.mono h (show ropewaylaw21_pastAlive.f 60 = some true by decide +kernel)
  clear h
  replace H := Option.bind_eq_some_iff.mp H
  obtain ⟨⟨t232, t233, t234, t235, t236, t237, t238, t239, t240, t241, t242, t243, t244, t245, t246⟩, A10, H⟩ := H
  replace H : ((ropewaylaw21_get.f 4 6 1 1 4617315517961601024).bind fun bt247 => ((some (([(⟨t232, t233, t234, (⟨t235, t236, t237, (⟨t238, t239⟩ : S24)⟩ : S26), (⟨t240, (⟨t241, t242⟩ : S24), (⟨t243, (⟨t244, t245⟩ : S29), t246⟩ : S31)⟩ : S33)⟩ : S35), (⟨bt247.1, bt247.2.1, bt247.2.2.1, (⟨bt247.2.2.2.1, bt247.2.2.2.2.1, bt247.2.2.2.2.2.1, (⟨bt247.2.2.2.2.2.2.1, bt247.2.2.2.2.2.2.2.1⟩ : S24)⟩ : S26), (⟨bt247.2.2.2.2.2.2.2.2.1, (⟨bt247.2.2.2.2.2.2.2.2.2.1, bt247.2.2.2.2.2.2.2.2.2.2.1⟩ : S24), (⟨bt247.2.2.2.2.2.2.2.2.2.2.2.1, (⟨bt247.2.2.2.2.2.2.2.2.2.2.2.2.1, bt247.2.2.2.2.2.2.2.2.2.2.2.2.2.1⟩ : S29), bt247.2.2.2.2.2.2.2.2.2.2.2.2.2.2⟩ : S31)⟩ : S33)⟩ : S35)] : List (S35)) : List (S35))).bind fun y262 => ((ropewaylaw21_get.f 4 6 1 1 4617315517961601024).bind fun bt265 => ((ropewaylaw21_put.f 1 1 3 1 4617315517961601024).bind fun bt283 => ((ropewaylaw21_get.f 4 6 0 0 0).bind fun bt298 => ((past_Fits.f k y262).bind fun t316 => (if t316 = true then ((past_Source.f k y262 1).bind fun t317 => (if t317 = 0 then ((past_Fits.f k (([(⟨bt265.1, bt265.2.1, bt265.2.2.1, (⟨bt265.2.2.2.1, bt265.2.2.2.2.1, bt265.2.2.2.2.2.1, (⟨bt265.2.2.2.2.2.2.1, bt265.2.2.2.2.2.2.2.1⟩ : S24)⟩ : S26), (⟨bt265.2.2.2.2.2.2.2.2.1, (⟨bt265.2.2.2.2.2.2.2.2.2.1, bt265.2.2.2.2.2.2.2.2.2.2.1⟩ : S24), (⟨bt265.2.2.2.2.2.2.2.2.2.2.2.1, (⟨bt265.2.2.2.2.2.2.2.2.2.2.2.2.1, bt265.2.2.2.2.2.2.2.2.2.2.2.2.2.1⟩ : S29), bt265.2.2.2.2.2.2.2.2.2.2.2.2.2.2⟩ : S31)⟩ : S33)⟩ : S35)] : List (S35)))).bind fun t318 => (if t318 = true then (some false) else ((past_Fits.f k (([(⟨bt283.1, bt283.2.1, bt283.2.2.1, (⟨bt283.2.2.2.1, bt283.2.2.2.2.1, bt283.2.2.2.2.2.1, (⟨bt283.2.2.2.2.2.2.1, bt283.2.2.2.2.2.2.2.1⟩ : S24)⟩ : S26), (⟨bt283.2.2.2.2.2.2.2.2.1, (⟨bt283.2.2.2.2.2.2.2.2.2.1, bt283.2.2.2.2.2.2.2.2.2.2.1⟩ : S24), (⟨bt283.2.2.2.2.2.2.2.2.2.2.2.1, (⟨bt283.2.2.2.2.2.2.2.2.2.2.2.2.1, bt283.2.2.2.2.2.2.2.2.2.2.2.2.2.1⟩ : S29), bt283.2.2.2.2.2.2.2.2.2.2.2.2.2.2⟩ : S31)⟩ : S33)⟩ : S35), (⟨bt298.1, bt298.2.1, bt298.2.2.1, (⟨bt298.2.2.2.1, bt298.2.2.2.2.1, bt298.2.2.2.2.2.1, (⟨bt298.2.2.2.2.2.2.1, bt298.2.2.2.2.2.2.2.1⟩ : S24)⟩ : S26), (⟨bt298.2.2.2.2.2.2.2.2.1, (⟨bt298.2.2.2.2.2.2.2.2.2.1, bt298.2.2.2.2.2.2.2.2.2.2.1⟩ : S24), (⟨bt298.2.2.2.2.2.2.2.2.2.2.2.1, (⟨bt298.2.2.2.2.2.2.2.2.2.2.2.2.1, bt298.2.2.2.2.2.2.2.2.2.2.2.2.2.1⟩ : S29), bt298.2.2.2.2.2.2.2.2.2.2.2.2.2.2⟩ : S31)⟩ : S33)⟩ : S35)] : List (S35)))).bind fun t319 => (if t319 = true then (some false) else (if 0 < (y262.length : Int) then (if 1 < (y262.length : Int) then ((past_Before.f ((rd_T35 y262 0).f0) ((rd_T35 y262 0).f1) ((rd_T35 y262 0).f2) ((rd_T35 y262 0).f3.f0) ((rd_T35 y262 0).f3.f1) ((rd_T35 y262 0).f3.f2) ((rd_T35 y262 0).f3.f3.f0) ((rd_T35 y262 0).f3.f3.f1) ((rd_T35 y262 0).f4.f0) ((rd_T35 y262 0).f4.f1.f0) ((rd_T35 y262 0).f4.f1.f1) ((rd_T35 y262 0).f4.f2.f0) ((rd_T35 y262 0).f4.f2.f1.f0) ((rd_T35 y262 0).f4.f2.f1.f1) ((rd_T35 y262 0).f4.f2.f2) ((rd_T35 y262 1).f0) ((rd_T35 y262 1).f1) ((rd_T35 y262 1).f2) ((rd_T35 y262 1).f3.f0) ((rd_T35 y262 1).f3.f1) ((rd_T35 y262 1).f3.f2) ((rd_T35 y262 1).f3.f3.f0) ((rd_T35 y262 1).f3.f3.f1) ((rd_T35 y262 1).f4.f0) ((rd_T35 y262 1).f4.f1.f0) ((rd_T35 y262 1).f4.f1.f1) ((rd_T35 y262 1).f4.f2.f0) ((rd_T35 y262 1).f4.f2.f1.f0) ((rd_T35 y262 1).f4.f2.f1.f1) ((rd_T35 y262 1).f4.f2.f2)).bind fun t322 => (if t322 = true then ((past_Well.f ((rd_T35 y262 0).f0) ((rd_T35 y262 0).f1) ((rd_T35 y262 0).f2) ((rd_T35 y262 0).f3.f0) ((rd_T35 y262 0).f3.f1) ((rd_T35 y262 0).f3.f2) ((rd_T35 y262 0).f3.f3.f0) ((rd_T35 y262 0).f3.f3.f1) ((rd_T35 y262 0).f4.f0) ((rd_T35 y262 0).f4.f1.f0) ((rd_T35 y262 0).f4.f1.f1) ((rd_T35 y262 0).f4.f2.f0) ((rd_T35 y262 0).f4.f2.f1.f0) ((rd_T35 y262 0).f4.f2.f1.f1) ((rd_T35 y262 0).f4.f2.f2)).bind fun t324 => (if t324 = true then ((past_Views.f k 7 0 y262).bind fun t325 => (if t325 = true then ((past_Grows.f k y262).bind fun t326 => (some t326)) else (some false))) else (some false))) else (some false))) else (none)) else (none)))))) else (some false))) else (some false)))))))) = some r := H
  have A1 := zM A10
  clear A10
  replace H := Option.bind_eq_some_iff.mp H
  obtain ⟨⟨t247, t248, t249, t250, t251, t252, t253, t254, t255, t256, t257, t258, t259, t260, t261⟩, A20, H⟩ := H
  replace H : ((some (([(⟨t232, t233, t234, (⟨t235, t236, t237, (⟨t238, t239⟩ : S24)⟩ : S26), (⟨t240, (⟨t241, t242⟩ : S24), (⟨t243, (⟨t244, t245⟩ : S29), t246⟩ : S31)⟩ : S33)⟩ : S35), (⟨t247, t248, t249, (⟨t250, t251, t252, (⟨t253, t254⟩ : S24)⟩ : S26), (⟨t255, (⟨t256, t257⟩ : S24), (⟨t258, (⟨t259, t260⟩ : S29), t261⟩ : S31)⟩ : S33)⟩ : S35)] : List (S35)) : List (S35))).bind fun y262 => ((ropewaylaw21_get.f 4 6 1 1 4617315517961601024).bind fun bt265 => ((ropewaylaw21_put.f 1 1 3 1 4617315517961601024).bind fun bt283 => ((ropewaylaw21_get.f 4 6 0 0 0).bind fun bt298 => ((past_Fits.f k y262).bind fun t316 => (if t316 = true then ((past_Source.f k y262 1).bind fun t317 => (if t317 = 0 then ((past_Fits.f k (([(⟨bt265.1, bt265.2.1, bt265.2.2.1, (⟨bt265.2.2.2.1, bt265.2.2.2.2.1, bt265.2.2.2.2.2.1, (⟨bt265.2.2.2.2.2.2.1, bt265.2.2.2.2.2.2.2.1⟩ : S24)⟩ : S26), (⟨bt265.2.2.2.2.2.2.2.2.1, (⟨bt265.2.2.2.2.2.2.2.2.2.1, bt265.2.2.2.2.2.2.2.2.2.2.1⟩ : S24), (⟨bt265.2.2.2.2.2.2.2.2.2.2.2.1, (⟨bt265.2.2.2.2.2.2.2.2.2.2.2.2.1, bt265.2.2.2.2.2.2.2.2.2.2.2.2.2.1⟩ : S29), bt265.2.2.2.2.2.2.2.2.2.2.2.2.2.2⟩ : S31)⟩ : S33)⟩ : S35)] : List (S35)))).bind fun t318 => (if t318 = true then (some false) else ((past_Fits.f k (([(⟨bt283.1, bt283.2.1, bt283.2.2.1, (⟨bt283.2.2.2.1, bt283.2.2.2.2.1, bt283.2.2.2.2.2.1, (⟨bt283.2.2.2.2.2.2.1, bt283.2.2.2.2.2.2.2.1⟩ : S24)⟩ : S26), (⟨bt283.2.2.2.2.2.2.2.2.1, (⟨bt283.2.2.2.2.2.2.2.2.2.1, bt283.2.2.2.2.2.2.2.2.2.2.1⟩ : S24), (⟨bt283.2.2.2.2.2.2.2.2.2.2.2.1, (⟨bt283.2.2.2.2.2.2.2.2.2.2.2.2.1, bt283.2.2.2.2.2.2.2.2.2.2.2.2.2.1⟩ : S29), bt283.2.2.2.2.2.2.2.2.2.2.2.2.2.2⟩ : S31)⟩ : S33)⟩ : S35), (⟨bt298.1, bt298.2.1, bt298.2.2.1, (⟨bt298.2.2.2.1, bt298.2.2.2.2.1, bt298.2.2.2.2.2.1, (⟨bt298.2.2.2.2.2.2.1, bt298.2.2.2.2.2.2.2.1⟩ : S24)⟩ : S26), (⟨bt298.2.2.2.2.2.2.2.2.1, (⟨bt298.2.2.2.2.2.2.2.2.2.1, bt298.2.2.2.2.2.2.2.2.2.2.1⟩ : S24), (⟨bt298.2.2.2.2.2.2.2.2.2.2.2.1, (⟨bt298.2.2.2.2.2.2.2.2.2.2.2.2.1, bt298.2.2.2.2.2.2.2.2.2.2.2.2.2.1⟩ : S29), bt298.2.2.2.2.2.2.2.2.2.2.2.2.2.2⟩ : S31)⟩ : S33)⟩ : S35)] : List (S35)))).bind fun t319 => (if t319 = true then (some false) else (if 0 < (y262.length : Int) then (if 1 < (y262.length : Int) then ((past_Before.f ((rd_T35 y262 0).f0) ((rd_T35 y262 0).f1) ((rd_T35 y262 0).f2) ((rd_T35 y262 0).f3.f0) ((rd_T35 y262 0).f3.f1) ((rd_T35 y262 0).f3.f2) ((rd_T35 y262 0).f3.f3.f0) ((rd_T35 y262 0).f3.f3.f1) ((rd_T35 y262 0).f4.f0) ((rd_T35 y262 0).f4.f1.f0) ((rd_T35 y262 0).f4.f1.f1) ((rd_T35 y262 0).f4.f2.f0) ((rd_T35 y262 0).f4.f2.f1.f0) ((rd_T35 y262 0).f4.f2.f1.f1) ((rd_T35 y262 0).f4.f2.f2) ((rd_T35 y262 1).f0) ((rd_T35 y262 1).f1) ((rd_T35 y262 1).f2) ((rd_T35 y262 1).f3.f0) ((rd_T35 y262 1).f3.f1) ((rd_T35 y262 1).f3.f2) ((rd_T35 y262 1).f3.f3.f0) ((rd_T35 y262 1).f3.f3.f1) ((rd_T35 y262 1).f4.f0) ((rd_T35 y262 1).f4.f1.f0) ((rd_T35 y262 1).f4.f1.f1) ((rd_T35 y262 1).f4.f2.f0) ((rd_T35 y262 1).f4.f2.f1.f0) ((rd_T35 y262 1).f4.f2.f1.f1) ((rd_T35 y262 1).f4.f2.f2)).bind fun t322 => (if t322 = true then ((past_Well.f ((rd_T35 y262 0).f0) ((rd_T35 y262 0).f1) ((rd_T35 y262 0).f2) ((rd_T35 y262 0).f3.f0) ((rd_T35 y262 0).f3.f1) ((rd_T35 y262 0).f3.f2) ((rd_T35 y262 0).f3.f3.f0) ((rd_T35 y262 0).f3.f3.f1) ((rd_T35 y262 0).f4.f0) ((rd_T35 y262 0).f4.f1.f0) ((rd_T35 y262 0).f4.f1.f1) ((rd_T35 y262 0).f4.f2.f0) ((rd_T35 y262 0).f4.f2.f1.f0) ((rd_T35 y262 0).f4.f2.f1.f1) ((rd_T35 y262 0).f4.f2.f2)).bind fun t324 => (if t324 = true then ((past_Views.f k 7 0 y262).bind fun t325 => (if t325 = true then ((past_Grows.f k y262).bind fun t326 => (some t326)) else (some false))) else (some false))) else (some false))) else (none)) else (none)))))) else (some false))) else (some false))))))) = some r := H
  have A2 := zM A20
  clear A20
  obtain ⟨y262, hy262⟩ : ∃ y_ : List (S35), y_ = (([(⟨t232, t233, t234, (⟨t235, t236, t237, (⟨t238, t239⟩ : S24)⟩ : S26), (⟨t240, (⟨t241, t242⟩ : S24), (⟨t243, (⟨t244, t245⟩ : S29), t246⟩ : S31)⟩ : S33)⟩ : S35), (⟨t247, t248, t249, (⟨t250, t251, t252, (⟨t253, t254⟩ : S24)⟩ : S26), (⟨t255, (⟨t256, t257⟩ : S24), (⟨t258, (⟨t259, t260⟩ : S29), t261⟩ : S31)⟩ : S33)⟩ : S35)] : List (S35))) := ⟨_, rfl⟩
  replace H : ((ropewaylaw21_get.f 4 6 1 1 4617315517961601024).bind fun bt265 => ((ropewaylaw21_put.f 1 1 3 1 4617315517961601024).bind fun bt283 => ((ropewaylaw21_get.f 4 6 0 0 0).bind fun bt298 => ((past_Fits.f k y262).bind fun t316 => (if t316 = true then ((past_Source.f k y262 1).bind fun t317 => (if t317 = 0 then ((past_Fits.f k (([(⟨bt265.1, bt265.2.1, bt265.2.2.1, (⟨bt265.2.2.2.1, bt265.2.2.2.2.1, bt265.2.2.2.2.2.1, (⟨bt265.2.2.2.2.2.2.1, bt265.2.2.2.2.2.2.2.1⟩ : S24)⟩ : S26), (⟨bt265.2.2.2.2.2.2.2.2.1, (⟨bt265.2.2.2.2.2.2.2.2.2.1, bt265.2.2.2.2.2.2.2.2.2.2.1⟩ : S24), (⟨bt265.2.2.2.2.2.2.2.2.2.2.2.1, (⟨bt265.2.2.2.2.2.2.2.2.2.2.2.2.1, bt265.2.2.2.2.2.2.2.2.2.2.2.2.2.1⟩ : S29), bt265.2.2.2.2.2.2.2.2.2.2.2.2.2.2⟩ : S31)⟩ : S33)⟩ : S35)] : List (S35)))).bind fun t318 => (if t318 = true then (some false) else ((past_Fits.f k (([(⟨bt283.1, bt283.2.1, bt283.2.2.1, (⟨bt283.2.2.2.1, bt283.2.2.2.2.1, bt283.2.2.2.2.2.1, (⟨bt283.2.2.2.2.2.2.1, bt283.2.2.2.2.2.2.2.1⟩ : S24)⟩ : S26), (⟨bt283.2.2.2.2.2.2.2.2.1, (⟨bt283.2.2.2.2.2.2.2.2.2.1, bt283.2.2.2.2.2.2.2.2.2.2.1⟩ : S24), (⟨bt283.2.2.2.2.2.2.2.2.2.2.2.1, (⟨bt283.2.2.2.2.2.2.2.2.2.2.2.2.1, bt283.2.2.2.2.2.2.2.2.2.2.2.2.2.1⟩ : S29), bt283.2.2.2.2.2.2.2.2.2.2.2.2.2.2⟩ : S31)⟩ : S33)⟩ : S35), (⟨bt298.1, bt298.2.1, bt298.2.2.1, (⟨bt298.2.2.2.1, bt298.2.2.2.2.1, bt298.2.2.2.2.2.1, (⟨bt298.2.2.2.2.2.2.1, bt298.2.2.2.2.2.2.2.1⟩ : S24)⟩ : S26), (⟨bt298.2.2.2.2.2.2.2.2.1, (⟨bt298.2.2.2.2.2.2.2.2.2.1, bt298.2.2.2.2.2.2.2.2.2.2.1⟩ : S24), (⟨bt298.2.2.2.2.2.2.2.2.2.2.2.1, (⟨bt298.2.2.2.2.2.2.2.2.2.2.2.2.1, bt298.2.2.2.2.2.2.2.2.2.2.2.2.2.1⟩ : S29), bt298.2.2.2.2.2.2.2.2.2.2.2.2.2.2⟩ : S31)⟩ : S33)⟩ : S35)] : List (S35)))).bind fun t319 => (if t319 = true then (some false) else (if 0 < (y262.length : Int) then (if 1 < (y262.length : Int) then ((past_Before.f ((rd_T35 y262 0).f0) ((rd_T35 y262 0).f1) ((rd_T35 y262 0).f2) ((rd_T35 y262 0).f3.f0) ((rd_T35 y262 0).f3.f1) ((rd_T35 y262 0).f3.f2) ((rd_T35 y262 0).f3.f3.f0) ((rd_T35 y262 0).f3.f3.f1) ((rd_T35 y262 0).f4.f0) ((rd_T35 y262 0).f4.f1.f0) ((rd_T35 y262 0).f4.f1.f1) ((rd_T35 y262 0).f4.f2.f0) ((rd_T35 y262 0).f4.f2.f1.f0) ((rd_T35 y262 0).f4.f2.f1.f1) ((rd_T35 y262 0).f4.f2.f2) ((rd_T35 y262 1).f0) ((rd_T35 y262 1).f1) ((rd_T35 y262 1).f2) ((rd_T35 y262 1).f3.f0) ((rd_T35 y262 1).f3.f1) ((rd_T35 y262 1).f3.f2) ((rd_T35 y262 1).f3.f3.f0) ((rd_T35 y262 1).f3.f3.f1) ((rd_T35 y262 1).f4.f0) ((rd_T35 y262 1).f4.f1.f0) ((rd_T35 y262 1).f4.f1.f1) ((rd_T35 y262 1).f4.f2.f0) ((rd_T35 y262 1).f4.f2.f1.f0) ((rd_T35 y262 1).f4.f2.f1.f1) ((rd_T35 y262 1).f4.f2.f2)).bind fun t322 => (if t322 = true then ((past_Well.f ((rd_T35 y262 0).f0) ((rd_T35 y262 0).f1) ((rd_T35 y262 0).f2) ((rd_T35 y262 0).f3.f0) ((rd_T35 y262 0).f3.f1) ((rd_T35 y262 0).f3.f2) ((rd_T35 y262 0).f3.f3.f0) ((rd_T35 y262 0).f3.f3.f1) ((rd_T35 y262 0).f4.f0) ((rd_T35 y262 0).f4.f1.f0) ((rd_T35 y262 0).f4.f1.f1) ((rd_T35 y262 0).f4.f2.f0) ((rd_T35 y262 0).f4.f2.f1.f0) ((rd_T35 y262 0).f4.f2.f1.f1) ((rd_T35 y262 0).f4.f2.f2)).bind fun t324 => (if t324 = true then ((past_Views.f k 7 0 y262).bind fun t325 => (if t325 = true then ((past_Grows.f k y262).bind fun t326 => (some t326)) else (some false))) else (some false))) else (some false))) else (none)) else (none)))))) else (some false))) else (some false)))))) = some r := by first | (rw [hy262]; with_reducible exact H) | (have H2_ := (Option.bind_some _ _).symm.trans H; rw [hy262]; with_reducible exact H2_) | (have H2_ := (Option.bind_some _ _).symm.trans H; with_reducible exact H2_) | with_reducible exact H | (rw [hy262]; exact H) | exact H
  have Ny262 := zM hy262
  clear hy262
  replace H := Option.bind_eq_some_iff.mp H
  obtain ⟨⟨t265, t266, t267, t268, t269, t270, t271, t272, t273, t274, t275, t276, t277, t278, t279⟩, A30, H⟩ := H
  replace H : ((ropewaylaw21_put.f 1 1 3 1 4617315517961601024).bind fun bt283 => ((ropewaylaw21_get.f 4 6 0 0 0).bind fun bt298 => ((past_Fits.f k y262).bind fun t316 => (if t316 = true then ((past_Source.f k y262 1).bind fun t317 => (if t317 = 0 then ((past_Fits.f k (([(⟨t265, t266, t267, (⟨t268, t269, t270, (⟨t271, t272⟩ : S24)⟩ : S26), (⟨t273, (⟨t274, t275⟩ : S24), (⟨t276, (⟨t277, t278⟩ : S29), t279⟩ : S31)⟩ : S33)⟩ : S35)] : List (S35)))).bind fun t318 => (if t318 = true then (some false) else ((past_Fits.f k (([(⟨bt283.1, bt283.2.1, bt283.2.2.1, (⟨bt283.2.2.2.1, bt283.2.2.2.2.1, bt283.2.2.2.2.2.1, (⟨bt283.2.2.2.2.2.2.1, bt283.2.2.2.2.2.2.2.1⟩ : S24)⟩ : S26), (⟨bt283.2.2.2.2.2.2.2.2.1, (⟨bt283.2.2.2.2.2.2.2.2.2.1, bt283.2.2.2.2.2.2.2.2.2.2.1⟩ : S24), (⟨bt283.2.2.2.2.2.2.2.2.2.2.2.1, (⟨bt283.2.2.2.2.2.2.2.2.2.2.2.2.1, bt283.2.2.2.2.2.2.2.2.2.2.2.2.2.1⟩ : S29), bt283.2.2.2.2.2.2.2.2.2.2.2.2.2.2⟩ : S31)⟩ : S33)⟩ : S35), (⟨bt298.1, bt298.2.1, bt298.2.2.1, (⟨bt298.2.2.2.1, bt298.2.2.2.2.1, bt298.2.2.2.2.2.1, (⟨bt298.2.2.2.2.2.2.1, bt298.2.2.2.2.2.2.2.1⟩ : S24)⟩ : S26), (⟨bt298.2.2.2.2.2.2.2.2.1, (⟨bt298.2.2.2.2.2.2.2.2.2.1, bt298.2.2.2.2.2.2.2.2.2.2.1⟩ : S24), (⟨bt298.2.2.2.2.2.2.2.2.2.2.2.1, (⟨bt298.2.2.2.2.2.2.2.2.2.2.2.2.1, bt298.2.2.2.2.2.2.2.2.2.2.2.2.2.1⟩ : S29), bt298.2.2.2.2.2.2.2.2.2.2.2.2.2.2⟩ : S31)⟩ : S33)⟩ : S35)] : List (S35)))).bind fun t319 => (if t319 = true then (some false) else (if 0 < (y262.length : Int) then (if 1 < (y262.length : Int) then ((past_Before.f ((rd_T35 y262 0).f0) ((rd_T35 y262 0).f1) ((rd_T35 y262 0).f2) ((rd_T35 y262 0).f3.f0) ((rd_T35 y262 0).f3.f1) ((rd_T35 y262 0).f3.f2) ((rd_T35 y262 0).f3.f3.f0) ((rd_T35 y262 0).f3.f3.f1) ((rd_T35 y262 0).f4.f0) ((rd_T35 y262 0).f4.f1.f0) ((rd_T35 y262 0).f4.f1.f1) ((rd_T35 y262 0).f4.f2.f0) ((rd_T35 y262 0).f4.f2.f1.f0) ((rd_T35 y262 0).f4.f2.f1.f1) ((rd_T35 y262 0).f4.f2.f2) ((rd_T35 y262 1).f0) ((rd_T35 y262 1).f1) ((rd_T35 y262 1).f2) ((rd_T35 y262 1).f3.f0) ((rd_T35 y262 1).f3.f1) ((rd_T35 y262 1).f3.f2) ((rd_T35 y262 1).f3.f3.f0) ((rd_T35 y262 1).f3.f3.f1) ((rd_T35 y262 1).f4.f0) ((rd_T35 y262 1).f4.f1.f0) ((rd_T35 y262 1).f4.f1.f1) ((rd_T35 y262 1).f4.f2.f0) ((rd_T35 y262 1).f4.f2.f1.f0) ((rd_T35 y262 1).f4.f2.f1.f1) ((rd_T35 y262 1).f4.f2.f2)).bind fun t322 => (if t322 = true then ((past_Well.f ((rd_T35 y262 0).f0) ((rd_T35 y262 0).f1) ((rd_T35 y262 0).f2) ((rd_T35 y262 0).f3.f0) ((rd_T35 y262 0).f3.f1) ((rd_T35 y262 0).f3.f2) ((rd_T35 y262 0).f3.f3.f0) ((rd_T35 y262 0).f3.f3.f1) ((rd_T35 y262 0).f4.f0) ((rd_T35 y262 0).f4.f1.f0) ((rd_T35 y262 0).f4.f1.f1) ((rd_T35 y262 0).f4.f2.f0) ((rd_T35 y262 0).f4.f2.f1.f0) ((rd_T35 y262 0).f4.f2.f1.f1) ((rd_T35 y262 0).f4.f2.f2)).bind fun t324 => (if t324 = true then ((past_Views.f k 7 0 y262).bind fun t325 => (if t325 = true then ((past_Grows.f k y262).bind fun t326 => (some t326)) else (some false))) else (some false))) else (some false))) else (none)) else (none)))))) else (some false))) else (some false))))) = some r := H
  have A3 := zM A30
  clear A30
  obtain ⟨y280, hy280⟩ : ∃ y_ : List (S35), y_ = (([(⟨t265, t266, t267, (⟨t268, t269, t270, (⟨t271, t272⟩ : S24)⟩ : S26), (⟨t273, (⟨t274, t275⟩ : S24), (⟨t276, (⟨t277, t278⟩ : S29), t279⟩ : S31)⟩ : S33)⟩ : S35)] : List (S35))) := ⟨_, rfl⟩
  replace H : ((ropewaylaw21_put.f 1 1 3 1 4617315517961601024).bind fun bt283 => ((ropewaylaw21_get.f 4 6 0 0 0).bind fun bt298 => ((past_Fits.f k y262).bind fun t316 => (if t316 = true then ((past_Source.f k y262 1).bind fun t317 => (if t317 = 0 then ((past_Fits.f k y280).bind fun t318 => (if t318 = true then (some false) else ((past_Fits.f k (([(⟨bt283.1, bt283.2.1, bt283.2.2.1, (⟨bt283.2.2.2.1, bt283.2.2.2.2.1, bt283.2.2.2.2.2.1, (⟨bt283.2.2.2.2.2.2.1, bt283.2.2.2.2.2.2.2.1⟩ : S24)⟩ : S26), (⟨bt283.2.2.2.2.2.2.2.2.1, (⟨bt283.2.2.2.2.2.2.2.2.2.1, bt283.2.2.2.2.2.2.2.2.2.2.1⟩ : S24), (⟨bt283.2.2.2.2.2.2.2.2.2.2.2.1, (⟨bt283.2.2.2.2.2.2.2.2.2.2.2.2.1, bt283.2.2.2.2.2.2.2.2.2.2.2.2.2.1⟩ : S29), bt283.2.2.2.2.2.2.2.2.2.2.2.2.2.2⟩ : S31)⟩ : S33)⟩ : S35), (⟨bt298.1, bt298.2.1, bt298.2.2.1, (⟨bt298.2.2.2.1, bt298.2.2.2.2.1, bt298.2.2.2.2.2.1, (⟨bt298.2.2.2.2.2.2.1, bt298.2.2.2.2.2.2.2.1⟩ : S24)⟩ : S26), (⟨bt298.2.2.2.2.2.2.2.2.1, (⟨bt298.2.2.2.2.2.2.2.2.2.1, bt298.2.2.2.2.2.2.2.2.2.2.1⟩ : S24), (⟨bt298.2.2.2.2.2.2.2.2.2.2.2.1, (⟨bt298.2.2.2.2.2.2.2.2.2.2.2.2.1, bt298.2.2.2.2.2.2.2.2.2.2.2.2.2.1⟩ : S29), bt298.2.2.2.2.2.2.2.2.2.2.2.2.2.2⟩ : S31)⟩ : S33)⟩ : S35)] : List (S35)))).bind fun t319 => (if t319 = true then (some false) else (if 0 < (y262.length : Int) then (if 1 < (y262.length : Int) then ((past_Before.f ((rd_T35 y262 0).f0) ((rd_T35 y262 0).f1) ((rd_T35 y262 0).f2) ((rd_T35 y262 0).f3.f0) ((rd_T35 y262 0).f3.f1) ((rd_T35 y262 0).f3.f2) ((rd_T35 y262 0).f3.f3.f0) ((rd_T35 y262 0).f3.f3.f1) ((rd_T35 y262 0).f4.f0) ((rd_T35 y262 0).f4.f1.f0) ((rd_T35 y262 0).f4.f1.f1) ((rd_T35 y262 0).f4.f2.f0) ((rd_T35 y262 0).f4.f2.f1.f0) ((rd_T35 y262 0).f4.f2.f1.f1) ((rd_T35 y262 0).f4.f2.f2) ((rd_T35 y262 1).f0) ((rd_T35 y262 1).f1) ((rd_T35 y262 1).f2) ((rd_T35 y262 1).f3.f0) ((rd_T35 y262 1).f3.f1) ((rd_T35 y262 1).f3.f2) ((rd_T35 y262 1).f3.f3.f0) ((rd_T35 y262 1).f3.f3.f1) ((rd_T35 y262 1).f4.f0) ((rd_T35 y262 1).f4.f1.f0) ((rd_T35 y262 1).f4.f1.f1) ((rd_T35 y262 1).f4.f2.f0) ((rd_T35 y262 1).f4.f2.f1.f0) ((rd_T35 y262 1).f4.f2.f1.f1) ((rd_T35 y262 1).f4.f2.f2)).bind fun t322 => (if t322 = true then ((past_Well.f ((rd_T35 y262 0).f0) ((rd_T35 y262 0).f1) ((rd_T35 y262 0).f2) ((rd_T35 y262 0).f3.f0) ((rd_T35 y262 0).f3.f1) ((rd_T35 y262 0).f3.f2) ((rd_T35 y262 0).f3.f3.f0) ((rd_T35 y262 0).f3.f3.f1) ((rd_T35 y262 0).f4.f0) ((rd_T35 y262 0).f4.f1.f0) ((rd_T35 y262 0).f4.f1.f1) ((rd_T35 y262 0).f4.f2.f0) ((rd_T35 y262 0).f4.f2.f1.f0) ((rd_T35 y262 0).f4.f2.f1.f1) ((rd_T35 y262 0).f4.f2.f2)).bind fun t324 => (if t324 = true then ((past_Views.f k 7 0 y262).bind fun t325 => (if t325 = true then ((past_Grows.f k y262).bind fun t326 => (some t326)) else (some false))) else (some false))) else (some false))) else (none)) else (none)))))) else (some false))) else (some false))))) = some r := by first | (rw [hy280]; with_reducible exact H) | (have H2_ := (Option.bind_some _ _).symm.trans H; rw [hy280]; with_reducible exact H2_) | (have H2_ := (Option.bind_some _ _).symm.trans H; with_reducible exact H2_) | with_reducible exact H | (rw [hy280]; exact H) | exact H
  have Ny280 := zM hy280
  clear hy280
  replace H := Option.bind_eq_some_iff.mp H
  obtain ⟨⟨t283, t284, t285, t286, t287, t288, t289, t290, t291, t292, t293, t294, t295, t296, t297⟩, A40, H⟩ := H
  replace H : ((ropewaylaw21_get.f 4 6 0 0 0).bind fun bt298 => ((past_Fits.f k y262).bind fun t316 => (if t316 = true then ((past_Source.f k y262 1).bind fun t317 => (if t317 = 0 then ((past_Fits.f k y280).bind fun t318 => (if t318 = true then (some false) else ((past_Fits.f k (([(⟨t283, t284, t285, (⟨t286, t287, t288, (⟨t289, t290⟩ : S24)⟩ : S26), (⟨t291, (⟨t292, t293⟩ : S24), (⟨t294, (⟨t295, t296⟩ : S29), t297⟩ : S31)⟩ : S33)⟩ : S35), (⟨bt298.1, bt298.2.1, bt298.2.2.1, (⟨bt298.2.2.2.1, bt298.2.2.2.2.1, bt298.2.2.2.2.2.1, (⟨bt298.2.2.2.2.2.2.1, bt298.2.2.2.2.2.2.2.1⟩ : S24)⟩ : S26), (⟨bt298.2.2.2.2.2.2.2.2.1, (⟨bt298.2.2.2.2.2.2.2.2.2.1, bt298.2.2.2.2.2.2.2.2.2.2.1⟩ : S24), (⟨bt298.2.2.2.2.2.2.2.2.2.2.2.1, (⟨bt298.2.2.2.2.2.2.2.2.2.2.2.2.1, bt298.2.2.2.2.2.2.2.2.2.2.2.2.2.1⟩ : S29), bt298.2.2.2.2.2.2.2.2.2.2.2.2.2.2⟩ : S31)⟩ : S33)⟩ : S35)] : List (S35)))).bind fun t319 => (if t319 = true then (some false) else (if 0 < (y262.length : Int) then (if 1 < (y262.length : Int) then ((past_Before.f ((rd_T35 y262 0).f0) ((rd_T35 y262 0).f1) ((rd_T35 y262 0).f2) ((rd_T35 y262 0).f3.f0) ((rd_T35 y262 0).f3.f1) ((rd_T35 y262 0).f3.f2) ((rd_T35 y262 0).f3.f3.f0) ((rd_T35 y262 0).f3.f3.f1) ((rd_T35 y262 0).f4.f0) ((rd_T35 y262 0).f4.f1.f0) ((rd_T35 y262 0).f4.f1.f1) ((rd_T35 y262 0).f4.f2.f0) ((rd_T35 y262 0).f4.f2.f1.f0) ((rd_T35 y262 0).f4.f2.f1.f1) ((rd_T35 y262 0).f4.f2.f2) ((rd_T35 y262 1).f0) ((rd_T35 y262 1).f1) ((rd_T35 y262 1).f2) ((rd_T35 y262 1).f3.f0) ((rd_T35 y262 1).f3.f1) ((rd_T35 y262 1).f3.f2) ((rd_T35 y262 1).f3.f3.f0) ((rd_T35 y262 1).f3.f3.f1) ((rd_T35 y262 1).f4.f0) ((rd_T35 y262 1).f4.f1.f0) ((rd_T35 y262 1).f4.f1.f1) ((rd_T35 y262 1).f4.f2.f0) ((rd_T35 y262 1).f4.f2.f1.f0) ((rd_T35 y262 1).f4.f2.f1.f1) ((rd_T35 y262 1).f4.f2.f2)).bind fun t322 => (if t322 = true then ((past_Well.f ((rd_T35 y262 0).f0) ((rd_T35 y262 0).f1) ((rd_T35 y262 0).f2) ((rd_T35 y262 0).f3.f0) ((rd_T35 y262 0).f3.f1) ((rd_T35 y262 0).f3.f2) ((rd_T35 y262 0).f3.f3.f0) ((rd_T35 y262 0).f3.f3.f1) ((rd_T35 y262 0).f4.f0) ((rd_T35 y262 0).f4.f1.f0) ((rd_T35 y262 0).f4.f1.f1) ((rd_T35 y262 0).f4.f2.f0) ((rd_T35 y262 0).f4.f2.f1.f0) ((rd_T35 y262 0).f4.f2.f1.f1) ((rd_T35 y262 0).f4.f2.f2)).bind fun t324 => (if t324 = true then ((past_Views.f k 7 0 y262).bind fun t325 => (if t325 = true then ((past_Grows.f k y262).bind fun t326 => (some t326)) else (some false))) else (some false))) else (some false))) else (none)) else (none)))))) else (some false))) else (some false)))) = some r := H
  have A4 := zM A40
  clear A40
  replace H := Option.bind_eq_some_iff.mp H
  obtain ⟨⟨t298, t299, t300, t301, t302, t303, t304, t305, t306, t307, t308, t309, t310, t311, t312⟩, A50, H⟩ := H
  replace H : ((past_Fits.f k y262).bind fun t316 => (if t316 = true then ((past_Source.f k y262 1).bind fun t317 => (if t317 = 0 then ((past_Fits.f k y280).bind fun t318 => (if t318 = true then (some false) else ((past_Fits.f k (([(⟨t283, t284, t285, (⟨t286, t287, t288, (⟨t289, t290⟩ : S24)⟩ : S26), (⟨t291, (⟨t292, t293⟩ : S24), (⟨t294, (⟨t295, t296⟩ : S29), t297⟩ : S31)⟩ : S33)⟩ : S35), (⟨t298, t299, t300, (⟨t301, t302, t303, (⟨t304, t305⟩ : S24)⟩ : S26), (⟨t306, (⟨t307, t308⟩ : S24), (⟨t309, (⟨t310, t311⟩ : S29), t312⟩ : S31)⟩ : S33)⟩ : S35)] : List (S35)))).bind fun t319 => (if t319 = true then (some false) else (if 0 < (y262.length : Int) then (if 1 < (y262.length : Int) then ((past_Before.f ((rd_T35 y262 0).f0) ((rd_T35 y262 0).f1) ((rd_T35 y262 0).f2) ((rd_T35 y262 0).f3.f0) ((rd_T35 y262 0).f3.f1) ((rd_T35 y262 0).f3.f2) ((rd_T35 y262 0).f3.f3.f0) ((rd_T35 y262 0).f3.f3.f1) ((rd_T35 y262 0).f4.f0) ((rd_T35 y262 0).f4.f1.f0) ((rd_T35 y262 0).f4.f1.f1) ((rd_T35 y262 0).f4.f2.f0) ((rd_T35 y262 0).f4.f2.f1.f0) ((rd_T35 y262 0).f4.f2.f1.f1) ((rd_T35 y262 0).f4.f2.f2) ((rd_T35 y262 1).f0) ((rd_T35 y262 1).f1) ((rd_T35 y262 1).f2) ((rd_T35 y262 1).f3.f0) ((rd_T35 y262 1).f3.f1) ((rd_T35 y262 1).f3.f2) ((rd_T35 y262 1).f3.f3.f0) ((rd_T35 y262 1).f3.f3.f1) ((rd_T35 y262 1).f4.f0) ((rd_T35 y262 1).f4.f1.f0) ((rd_T35 y262 1).f4.f1.f1) ((rd_T35 y262 1).f4.f2.f0) ((rd_T35 y262 1).f4.f2.f1.f0) ((rd_T35 y262 1).f4.f2.f1.f1) ((rd_T35 y262 1).f4.f2.f2)).bind fun t322 => (if t322 = true then ((past_Well.f ((rd_T35 y262 0).f0) ((rd_T35 y262 0).f1) ((rd_T35 y262 0).f2) ((rd_T35 y262 0).f3.f0) ((rd_T35 y262 0).f3.f1) ((rd_T35 y262 0).f3.f2) ((rd_T35 y262 0).f3.f3.f0) ((rd_T35 y262 0).f3.f3.f1) ((rd_T35 y262 0).f4.f0) ((rd_T35 y262 0).f4.f1.f0) ((rd_T35 y262 0).f4.f1.f1) ((rd_T35 y262 0).f4.f2.f0) ((rd_T35 y262 0).f4.f2.f1.f0) ((rd_T35 y262 0).f4.f2.f1.f1) ((rd_T35 y262 0).f4.f2.f2)).bind fun t324 => (if t324 = true then ((past_Views.f k 7 0 y262).bind fun t325 => (if t325 = true then ((past_Grows.f k y262).bind fun t326 => (some t326)) else (some false))) else (some false))) else (some false))) else (none)) else (none)))))) else (some false))) else (some false))) = some r := H
  have A5 := zM A50
  clear A50
  obtain ⟨y313, hy313⟩ : ∃ y_ : List (S35), y_ = (([(⟨t283, t284, t285, (⟨t286, t287, t288, (⟨t289, t290⟩ : S24)⟩ : S26), (⟨t291, (⟨t292, t293⟩ : S24), (⟨t294, (⟨t295, t296⟩ : S29), t297⟩ : S31)⟩ : S33)⟩ : S35), (⟨t298, t299, t300, (⟨t301, t302, t303, (⟨t304, t305⟩ : S24)⟩ : S26), (⟨t306, (⟨t307, t308⟩ : S24), (⟨t309, (⟨t310, t311⟩ : S29), t312⟩ : S31)⟩ : S33)⟩ : S35)] : List (S35))) := ⟨_, rfl⟩
  replace H : ((past_Fits.f k y262).bind fun t316 => (if t316 = true then ((past_Source.f k y262 1).bind fun t317 => (if t317 = 0 then ((past_Fits.f k y280).bind fun t318 => (if t318 = true then (some false) else ((past_Fits.f k y313).bind fun t319 => (if t319 = true then (some false) else (if 0 < (y262.length : Int) then (if 1 < (y262.length : Int) then ((past_Before.f ((rd_T35 y262 0).f0) ((rd_T35 y262 0).f1) ((rd_T35 y262 0).f2) ((rd_T35 y262 0).f3.f0) ((rd_T35 y262 0).f3.f1) ((rd_T35 y262 0).f3.f2) ((rd_T35 y262 0).f3.f3.f0) ((rd_T35 y262 0).f3.f3.f1) ((rd_T35 y262 0).f4.f0) ((rd_T35 y262 0).f4.f1.f0) ((rd_T35 y262 0).f4.f1.f1) ((rd_T35 y262 0).f4.f2.f0) ((rd_T35 y262 0).f4.f2.f1.f0) ((rd_T35 y262 0).f4.f2.f1.f1) ((rd_T35 y262 0).f4.f2.f2) ((rd_T35 y262 1).f0) ((rd_T35 y262 1).f1) ((rd_T35 y262 1).f2) ((rd_T35 y262 1).f3.f0) ((rd_T35 y262 1).f3.f1) ((rd_T35 y262 1).f3.f2) ((rd_T35 y262 1).f3.f3.f0) ((rd_T35 y262 1).f3.f3.f1) ((rd_T35 y262 1).f4.f0) ((rd_T35 y262 1).f4.f1.f0) ((rd_T35 y262 1).f4.f1.f1) ((rd_T35 y262 1).f4.f2.f0) ((rd_T35 y262 1).f4.f2.f1.f0) ((rd_T35 y262 1).f4.f2.f1.f1) ((rd_T35 y262 1).f4.f2.f2)).bind fun t322 => (if t322 = true then ((past_Well.f ((rd_T35 y262 0).f0) ((rd_T35 y262 0).f1) ((rd_T35 y262 0).f2) ((rd_T35 y262 0).f3.f0) ((rd_T35 y262 0).f3.f1) ((rd_T35 y262 0).f3.f2) ((rd_T35 y262 0).f3.f3.f0) ((rd_T35 y262 0).f3.f3.f1) ((rd_T35 y262 0).f4.f0) ((rd_T35 y262 0).f4.f1.f0) ((rd_T35 y262 0).f4.f1.f1) ((rd_T35 y262 0).f4.f2.f0) ((rd_T35 y262 0).f4.f2.f1.f0) ((rd_T35 y262 0).f4.f2.f1.f1) ((rd_T35 y262 0).f4.f2.f2)).bind fun t324 => (if t324 = true then ((past_Views.f k 7 0 y262).bind fun t325 => (if t325 = true then ((past_Grows.f k y262).bind fun t326 => (some t326)) else (some false))) else (some false))) else (some false))) else (none)) else (none)))))) else (some false))) else (some false))) = some r := by first | (rw [hy313]; with_reducible exact H) | (have H2_ := (Option.bind_some _ _).symm.trans H; rw [hy313]; with_reducible exact H2_) | (have H2_ := (Option.bind_some _ _).symm.trans H; with_reducible exact H2_) | with_reducible exact H | (rw [hy313]; exact H) | exact H
  have Ny313 := zM hy313
  clear hy313
  replace H := Option.bind_eq_some_iff.mp H
  obtain ⟨t316, A60, H⟩ := H
  replace H : (if t316 = true then ((past_Source.f k y262 1).bind fun t317 => (if t317 = 0 then ((past_Fits.f k y280).bind fun t318 => (if t318 = true then (some false) else ((past_Fits.f k y313).bind fun t319 => (if t319 = true then (some false) else (if 0 < (y262.length : Int) then (if 1 < (y262.length : Int) then ((past_Before.f ((rd_T35 y262 0).f0) ((rd_T35 y262 0).f1) ((rd_T35 y262 0).f2) ((rd_T35 y262 0).f3.f0) ((rd_T35 y262 0).f3.f1) ((rd_T35 y262 0).f3.f2) ((rd_T35 y262 0).f3.f3.f0) ((rd_T35 y262 0).f3.f3.f1) ((rd_T35 y262 0).f4.f0) ((rd_T35 y262 0).f4.f1.f0) ((rd_T35 y262 0).f4.f1.f1) ((rd_T35 y262 0).f4.f2.f0) ((rd_T35 y262 0).f4.f2.f1.f0) ((rd_T35 y262 0).f4.f2.f1.f1) ((rd_T35 y262 0).f4.f2.f2) ((rd_T35 y262 1).f0) ((rd_T35 y262 1).f1) ((rd_T35 y262 1).f2) ((rd_T35 y262 1).f3.f0) ((rd_T35 y262 1).f3.f1) ((rd_T35 y262 1).f3.f2) ((rd_T35 y262 1).f3.f3.f0) ((rd_T35 y262 1).f3.f3.f1) ((rd_T35 y262 1).f4.f0) ((rd_T35 y262 1).f4.f1.f0) ((rd_T35 y262 1).f4.f1.f1) ((rd_T35 y262 1).f4.f2.f0) ((rd_T35 y262 1).f4.f2.f1.f0) ((rd_T35 y262 1).f4.f2.f1.f1) ((rd_T35 y262 1).f4.f2.f2)).bind fun t322 => (if t322 = true then ((past_Well.f ((rd_T35 y262 0).f0) ((rd_T35 y262 0).f1) ((rd_T35 y262 0).f2) ((rd_T35 y262 0).f3.f0) ((rd_T35 y262 0).f3.f1) ((rd_T35 y262 0).f3.f2) ((rd_T35 y262 0).f3.f3.f0) ((rd_T35 y262 0).f3.f3.f1) ((rd_T35 y262 0).f4.f0) ((rd_T35 y262 0).f4.f1.f0) ((rd_T35 y262 0).f4.f1.f1) ((rd_T35 y262 0).f4.f2.f0) ((rd_T35 y262 0).f4.f2.f1.f0) ((rd_T35 y262 0).f4.f2.f1.f1) ((rd_T35 y262 0).f4.f2.f2)).bind fun t324 => (if t324 = true then ((past_Views.f k 7 0 y262).bind fun t325 => (if t325 = true then ((past_Grows.f k y262).bind fun t326 => (some t326)) else (some false))) else (some false))) else (some false))) else (none)) else (none)))))) else (some false))) else (some false)) = some r := H
  have A6 := zM A60
  clear A60
  by_cases c7 : t316 = true
  rotate_left
  · replace c7 := Bool.eq_false_iff.mpr c7
    subst c7
    have H1 : (some false) = some r := by rw [if_neg (show ¬ (false = true) by decide)] at H; exact H
    clear H
    have H := H1
    clear H1
    exact absurd ((Option.some.inj H).trans hr_) (by decide)
  subst c7
  have H1 : ((past_Source.f k y262 1).bind fun t317 => (if t317 = 0 then ((past_Fits.f k y280).bind fun t318 => (if t318 = true then (some false) else ((past_Fits.f k y313).bind fun t319 => (if t319 = true then (some false) else (if 0 < (y262.length : Int) then (if 1 < (y262.length : Int) then ((past_Before.f ((rd_T35 y262 0).f0) ((rd_T35 y262 0).f1) ((rd_T35 y262 0).f2) ((rd_T35 y262 0).f3.f0) ((rd_T35 y262 0).f3.f1) ((rd_T35 y262 0).f3.f2) ((rd_T35 y262 0).f3.f3.f0) ((rd_T35 y262 0).f3.f3.f1) ((rd_T35 y262 0).f4.f0) ((rd_T35 y262 0).f4.f1.f0) ((rd_T35 y262 0).f4.f1.f1) ((rd_T35 y262 0).f4.f2.f0) ((rd_T35 y262 0).f4.f2.f1.f0) ((rd_T35 y262 0).f4.f2.f1.f1) ((rd_T35 y262 0).f4.f2.f2) ((rd_T35 y262 1).f0) ((rd_T35 y262 1).f1) ((rd_T35 y262 1).f2) ((rd_T35 y262 1).f3.f0) ((rd_T35 y262 1).f3.f1) ((rd_T35 y262 1).f3.f2) ((rd_T35 y262 1).f3.f3.f0) ((rd_T35 y262 1).f3.f3.f1) ((rd_T35 y262 1).f4.f0) ((rd_T35 y262 1).f4.f1.f0) ((rd_T35 y262 1).f4.f1.f1) ((rd_T35 y262 1).f4.f2.f0) ((rd_T35 y262 1).f4.f2.f1.f0) ((rd_T35 y262 1).f4.f2.f1.f1) ((rd_T35 y262 1).f4.f2.f2)).bind fun t322 => (if t322 = true then ((past_Well.f ((rd_T35 y262 0).f0) ((rd_T35 y262 0).f1) ((rd_T35 y262 0).f2) ((rd_T35 y262 0).f3.f0) ((rd_T35 y262 0).f3.f1) ((rd_T35 y262 0).f3.f2) ((rd_T35 y262 0).f3.f3.f0) ((rd_T35 y262 0).f3.f3.f1) ((rd_T35 y262 0).f4.f0) ((rd_T35 y262 0).f4.f1.f0) ((rd_T35 y262 0).f4.f1.f1) ((rd_T35 y262 0).f4.f2.f0) ((rd_T35 y262 0).f4.f2.f1.f0) ((rd_T35 y262 0).f4.f2.f1.f1) ((rd_T35 y262 0).f4.f2.f2)).bind fun t324 => (if t324 = true then ((past_Views.f k 7 0 y262).bind fun t325 => (if t325 = true then ((past_Grows.f k y262).bind fun t326 => (some t326)) else (some false))) else (some false))) else (some false))) else (none)) else (none)))))) else (some false))) = some r := by rw [if_pos rfl] at H; exact H
  clear H
  have H := H1
  clear H1
  replace H := Option.bind_eq_some_iff.mp H
  obtain ⟨t317, A80, H⟩ := H
  replace H : (if t317 = 0 then ((past_Fits.f k y280).bind fun t318 => (if t318 = true then (some false) else ((past_Fits.f k y313).bind fun t319 => (if t319 = true then (some false) else (if 0 < (y262.length : Int) then (if 1 < (y262.length : Int) then ((past_Before.f ((rd_T35 y262 0).f0) ((rd_T35 y262 0).f1) ((rd_T35 y262 0).f2) ((rd_T35 y262 0).f3.f0) ((rd_T35 y262 0).f3.f1) ((rd_T35 y262 0).f3.f2) ((rd_T35 y262 0).f3.f3.f0) ((rd_T35 y262 0).f3.f3.f1) ((rd_T35 y262 0).f4.f0) ((rd_T35 y262 0).f4.f1.f0) ((rd_T35 y262 0).f4.f1.f1) ((rd_T35 y262 0).f4.f2.f0) ((rd_T35 y262 0).f4.f2.f1.f0) ((rd_T35 y262 0).f4.f2.f1.f1) ((rd_T35 y262 0).f4.f2.f2) ((rd_T35 y262 1).f0) ((rd_T35 y262 1).f1) ((rd_T35 y262 1).f2) ((rd_T35 y262 1).f3.f0) ((rd_T35 y262 1).f3.f1) ((rd_T35 y262 1).f3.f2) ((rd_T35 y262 1).f3.f3.f0) ((rd_T35 y262 1).f3.f3.f1) ((rd_T35 y262 1).f4.f0) ((rd_T35 y262 1).f4.f1.f0) ((rd_T35 y262 1).f4.f1.f1) ((rd_T35 y262 1).f4.f2.f0) ((rd_T35 y262 1).f4.f2.f1.f0) ((rd_T35 y262 1).f4.f2.f1.f1) ((rd_T35 y262 1).f4.f2.f2)).bind fun t322 => (if t322 = true then ((past_Well.f ((rd_T35 y262 0).f0) ((rd_T35 y262 0).f1) ((rd_T35 y262 0).f2) ((rd_T35 y262 0).f3.f0) ((rd_T35 y262 0).f3.f1) ((rd_T35 y262 0).f3.f2) ((rd_T35 y262 0).f3.f3.f0) ((rd_T35 y262 0).f3.f3.f1) ((rd_T35 y262 0).f4.f0) ((rd_T35 y262 0).f4.f1.f0) ((rd_T35 y262 0).f4.f1.f1) ((rd_T35 y262 0).f4.f2.f0) ((rd_T35 y262 0).f4.f2.f1.f0) ((rd_T35 y262 0).f4.f2.f1.f1) ((rd_T35 y262 0).f4.f2.f2)).bind fun t324 => (if t324 = true then ((past_Views.f k 7 0 y262).bind fun t325 => (if t325 = true then ((past_Grows.f k y262).bind fun t326 => (some t326)) else (some false))) else (some false))) else (some false))) else (none)) else (none)))))) else (some false)) = some r := H
  have A8 := zM A80
  clear A80
  by_cases c9 : t317 = 0
  rotate_left
  · rw [if_neg c9] at H
    have c9b0 : (t317 == 0) = false := beq_eq_false_iff_ne.mpr c9
    have c9b1 : (t317 != 0) = true := bne_iff_ne.mpr c9
    exact absurd ((Option.some.inj H).trans hr_) (by decide)
  rw [if_pos c9] at H
  have c9b0 : (t317 == 0) = true := beq_iff_eq.mpr c9
  have c9b1 : (t317 != 0) = false := bne_eq_false_iff_eq.mpr c9
  clear c9
  replace H := Option.bind_eq_some_iff.mp H
  obtain ⟨t318, A100, H⟩ := H
  replace H : (if t318 = true then (some false) else ((past_Fits.f k y313).bind fun t319 => (if t319 = true then (some false) else (if 0 < (y262.length : Int) then (if 1 < (y262.length : Int) then ((past_Before.f ((rd_T35 y262 0).f0) ((rd_T35 y262 0).f1) ((rd_T35 y262 0).f2) ((rd_T35 y262 0).f3.f0) ((rd_T35 y262 0).f3.f1) ((rd_T35 y262 0).f3.f2) ((rd_T35 y262 0).f3.f3.f0) ((rd_T35 y262 0).f3.f3.f1) ((rd_T35 y262 0).f4.f0) ((rd_T35 y262 0).f4.f1.f0) ((rd_T35 y262 0).f4.f1.f1) ((rd_T35 y262 0).f4.f2.f0) ((rd_T35 y262 0).f4.f2.f1.f0) ((rd_T35 y262 0).f4.f2.f1.f1) ((rd_T35 y262 0).f4.f2.f2) ((rd_T35 y262 1).f0) ((rd_T35 y262 1).f1) ((rd_T35 y262 1).f2) ((rd_T35 y262 1).f3.f0) ((rd_T35 y262 1).f3.f1) ((rd_T35 y262 1).f3.f2) ((rd_T35 y262 1).f3.f3.f0) ((rd_T35 y262 1).f3.f3.f1) ((rd_T35 y262 1).f4.f0) ((rd_T35 y262 1).f4.f1.f0) ((rd_T35 y262 1).f4.f1.f1) ((rd_T35 y262 1).f4.f2.f0) ((rd_T35 y262 1).f4.f2.f1.f0) ((rd_T35 y262 1).f4.f2.f1.f1) ((rd_T35 y262 1).f4.f2.f2)).bind fun t322 => (if t322 = true then ((past_Well.f ((rd_T35 y262 0).f0) ((rd_T35 y262 0).f1) ((rd_T35 y262 0).f2) ((rd_T35 y262 0).f3.f0) ((rd_T35 y262 0).f3.f1) ((rd_T35 y262 0).f3.f2) ((rd_T35 y262 0).f3.f3.f0) ((rd_T35 y262 0).f3.f3.f1) ((rd_T35 y262 0).f4.f0) ((rd_T35 y262 0).f4.f1.f0) ((rd_T35 y262 0).f4.f1.f1) ((rd_T35 y262 0).f4.f2.f0) ((rd_T35 y262 0).f4.f2.f1.f0) ((rd_T35 y262 0).f4.f2.f1.f1) ((rd_T35 y262 0).f4.f2.f2)).bind fun t324 => (if t324 = true then ((past_Views.f k 7 0 y262).bind fun t325 => (if t325 = true then ((past_Grows.f k y262).bind fun t326 => (some t326)) else (some false))) else (some false))) else (some false))) else (none)) else (none))))) = some r := H
  have A10 := zM A100
  clear A100
  by_cases c11 : t318 = true
  · subst c11
    have H1 : (some false) = some r := by rw [if_pos rfl] at H; exact H
    clear H
    have H := H1
    clear H1
    exact absurd ((Option.some.inj H).trans hr_) (by decide)
  replace c11 := Bool.eq_false_iff.mpr c11
  subst c11
  have H1 : ((past_Fits.f k y313).bind fun t319 => (if t319 = true then (some false) else (if 0 < (y262.length : Int) then (if 1 < (y262.length : Int) then ((past_Before.f ((rd_T35 y262 0).f0) ((rd_T35 y262 0).f1) ((rd_T35 y262 0).f2) ((rd_T35 y262 0).f3.f0) ((rd_T35 y262 0).f3.f1) ((rd_T35 y262 0).f3.f2) ((rd_T35 y262 0).f3.f3.f0) ((rd_T35 y262 0).f3.f3.f1) ((rd_T35 y262 0).f4.f0) ((rd_T35 y262 0).f4.f1.f0) ((rd_T35 y262 0).f4.f1.f1) ((rd_T35 y262 0).f4.f2.f0) ((rd_T35 y262 0).f4.f2.f1.f0) ((rd_T35 y262 0).f4.f2.f1.f1) ((rd_T35 y262 0).f4.f2.f2) ((rd_T35 y262 1).f0) ((rd_T35 y262 1).f1) ((rd_T35 y262 1).f2) ((rd_T35 y262 1).f3.f0) ((rd_T35 y262 1).f3.f1) ((rd_T35 y262 1).f3.f2) ((rd_T35 y262 1).f3.f3.f0) ((rd_T35 y262 1).f3.f3.f1) ((rd_T35 y262 1).f4.f0) ((rd_T35 y262 1).f4.f1.f0) ((rd_T35 y262 1).f4.f1.f1) ((rd_T35 y262 1).f4.f2.f0) ((rd_T35 y262 1).f4.f2.f1.f0) ((rd_T35 y262 1).f4.f2.f1.f1) ((rd_T35 y262 1).f4.f2.f2)).bind fun t322 => (if t322 = true then ((past_Well.f ((rd_T35 y262 0).f0) ((rd_T35 y262 0).f1) ((rd_T35 y262 0).f2) ((rd_T35 y262 0).f3.f0) ((rd_T35 y262 0).f3.f1) ((rd_T35 y262 0).f3.f2) ((rd_T35 y262 0).f3.f3.f0) ((rd_T35 y262 0).f3.f3.f1) ((rd_T35 y262 0).f4.f0) ((rd_T35 y262 0).f4.f1.f0) ((rd_T35 y262 0).f4.f1.f1) ((rd_T35 y262 0).f4.f2.f0) ((rd_T35 y262 0).f4.f2.f1.f0) ((rd_T35 y262 0).f4.f2.f1.f1) ((rd_T35 y262 0).f4.f2.f2)).bind fun t324 => (if t324 = true then ((past_Views.f k 7 0 y262).bind fun t325 => (if t325 = true then ((past_Grows.f k y262).bind fun t326 => (some t326)) else (some false))) else (some false))) else (some false))) else (none)) else (none)))) = some r := by rw [if_neg (show ¬ (false = true) by decide)] at H; exact H
  clear H
  have H := H1
  clear H1
  replace H := Option.bind_eq_some_iff.mp H
  obtain ⟨t319, A290, H⟩ := H
  replace H : (if t319 = true then (some false) else (if 0 < (y262.length : Int) then (if 1 < (y262.length : Int) then ((past_Before.f ((rd_T35 y262 0).f0) ((rd_T35 y262 0).f1) ((rd_T35 y262 0).f2) ((rd_T35 y262 0).f3.f0) ((rd_T35 y262 0).f3.f1) ((rd_T35 y262 0).f3.f2) ((rd_T35 y262 0).f3.f3.f0) ((rd_T35 y262 0).f3.f3.f1) ((rd_T35 y262 0).f4.f0) ((rd_T35 y262 0).f4.f1.f0) ((rd_T35 y262 0).f4.f1.f1) ((rd_T35 y262 0).f4.f2.f0) ((rd_T35 y262 0).f4.f2.f1.f0) ((rd_T35 y262 0).f4.f2.f1.f1) ((rd_T35 y262 0).f4.f2.f2) ((rd_T35 y262 1).f0) ((rd_T35 y262 1).f1) ((rd_T35 y262 1).f2) ((rd_T35 y262 1).f3.f0) ((rd_T35 y262 1).f3.f1) ((rd_T35 y262 1).f3.f2) ((rd_T35 y262 1).f3.f3.f0) ((rd_T35 y262 1).f3.f3.f1) ((rd_T35 y262 1).f4.f0) ((rd_T35 y262 1).f4.f1.f0) ((rd_T35 y262 1).f4.f1.f1) ((rd_T35 y262 1).f4.f2.f0) ((rd_T35 y262 1).f4.f2.f1.f0) ((rd_T35 y262 1).f4.f2.f1.f1) ((rd_T35 y262 1).f4.f2.f2)).bind fun t322 => (if t322 = true then ((past_Well.f ((rd_T35 y262 0).f0) ((rd_T35 y262 0).f1) ((rd_T35 y262 0).f2) ((rd_T35 y262 0).f3.f0) ((rd_T35 y262 0).f3.f1) ((rd_T35 y262 0).f3.f2) ((rd_T35 y262 0).f3.f3.f0) ((rd_T35 y262 0).f3.f3.f1) ((rd_T35 y262 0).f4.f0) ((rd_T35 y262 0).f4.f1.f0) ((rd_T35 y262 0).f4.f1.f1) ((rd_T35 y262 0).f4.f2.f0) ((rd_T35 y262 0).f4.f2.f1.f0) ((rd_T35 y262 0).f4.f2.f1.f1) ((rd_T35 y262 0).f4.f2.f2)).bind fun t324 => (if t324 = true then ((past_Views.f k 7 0 y262).bind fun t325 => (if t325 = true then ((past_Grows.f k y262).bind fun t326 => (some t326)) else (some false))) else (some false))) else (some false))) else (none)) else (none))) = some r := H
  have A29 := zM A290
  clear A290
  by_cases c30 : t319 = true
  · subst c30
    have H1 : (some false) = some r := by rw [if_pos rfl] at H; exact H
    clear H
    have H := H1
    clear H1
    exact absurd ((Option.some.inj H).trans hr_) (by decide)
  replace c30 := Bool.eq_false_iff.mpr c30
  subst c30
  have H1 : (if 0 < (y262.length : Int) then (if 1 < (y262.length : Int) then ((past_Before.f ((rd_T35 y262 0).f0) ((rd_T35 y262 0).f1) ((rd_T35 y262 0).f2) ((rd_T35 y262 0).f3.f0) ((rd_T35 y262 0).f3.f1) ((rd_T35 y262 0).f3.f2) ((rd_T35 y262 0).f3.f3.f0) ((rd_T35 y262 0).f3.f3.f1) ((rd_T35 y262 0).f4.f0) ((rd_T35 y262 0).f4.f1.f0) ((rd_T35 y262 0).f4.f1.f1) ((rd_T35 y262 0).f4.f2.f0) ((rd_T35 y262 0).f4.f2.f1.f0) ((rd_T35 y262 0).f4.f2.f1.f1) ((rd_T35 y262 0).f4.f2.f2) ((rd_T35 y262 1).f0) ((rd_T35 y262 1).f1) ((rd_T35 y262 1).f2) ((rd_T35 y262 1).f3.f0) ((rd_T35 y262 1).f3.f1) ((rd_T35 y262 1).f3.f2) ((rd_T35 y262 1).f3.f3.f0) ((rd_T35 y262 1).f3.f3.f1) ((rd_T35 y262 1).f4.f0) ((rd_T35 y262 1).f4.f1.f0) ((rd_T35 y262 1).f4.f1.f1) ((rd_T35 y262 1).f4.f2.f0) ((rd_T35 y262 1).f4.f2.f1.f0) ((rd_T35 y262 1).f4.f2.f1.f1) ((rd_T35 y262 1).f4.f2.f2)).bind fun t322 => (if t322 = true then ((past_Well.f ((rd_T35 y262 0).f0) ((rd_T35 y262 0).f1) ((rd_T35 y262 0).f2) ((rd_T35 y262 0).f3.f0) ((rd_T35 y262 0).f3.f1) ((rd_T35 y262 0).f3.f2) ((rd_T35 y262 0).f3.f3.f0) ((rd_T35 y262 0).f3.f3.f1) ((rd_T35 y262 0).f4.f0) ((rd_T35 y262 0).f4.f1.f0) ((rd_T35 y262 0).f4.f1.f1) ((rd_T35 y262 0).f4.f2.f0) ((rd_T35 y262 0).f4.f2.f1.f0) ((rd_T35 y262 0).f4.f2.f1.f1) ((rd_T35 y262 0).f4.f2.f2)).bind fun t324 => (if t324 = true then ((past_Views.f k 7 0 y262).bind fun t325 => (if t325 = true then ((past_Grows.f k y262).bind fun t326 => (some t326)) else (some false))) else (some false))) else (some false))) else (none)) else (none)) = some r := by rw [if_neg (show ¬ (false = true) by decide)] at H; exact H
  clear H
  have H := H1
  clear H1
  by_cases c50 : 0 < (y262.length : Int)
  rotate_left
  · rw [if_neg c50] at H
    exact absurd H (by simp)
  rw [if_pos c50] at H
  have c50b0 : decide (0 < (y262.length : Int)) = true := decide_eq_true c50
  have c50b1 : decide (0 < y262.length) = true := decide_eq_true (by omega)
  clear c50
  by_cases c51 : 1 < (y262.length : Int)
  rotate_left
  · rw [if_neg c51] at H
    exact absurd H (by simp)
  rw [if_pos c51] at H
  have c51b0 : decide (1 < (y262.length : Int)) = true := decide_eq_true c51
  have c51b1 : decide (1 < y262.length) = true := decide_eq_true (by omega)
  clear c51
  replace H := Option.bind_eq_some_iff.mp H
  obtain ⟨t322, A520, H⟩ := H
  replace H : (if t322 = true then ((past_Well.f ((rd_T35 y262 0).f0) ((rd_T35 y262 0).f1) ((rd_T35 y262 0).f2) ((rd_T35 y262 0).f3.f0) ((rd_T35 y262 0).f3.f1) ((rd_T35 y262 0).f3.f2) ((rd_T35 y262 0).f3.f3.f0) ((rd_T35 y262 0).f3.f3.f1) ((rd_T35 y262 0).f4.f0) ((rd_T35 y262 0).f4.f1.f0) ((rd_T35 y262 0).f4.f1.f1) ((rd_T35 y262 0).f4.f2.f0) ((rd_T35 y262 0).f4.f2.f1.f0) ((rd_T35 y262 0).f4.f2.f1.f1) ((rd_T35 y262 0).f4.f2.f2)).bind fun t324 => (if t324 = true then ((past_Views.f k 7 0 y262).bind fun t325 => (if t325 = true then ((past_Grows.f k y262).bind fun t326 => (some t326)) else (some false))) else (some false))) else (some false)) = some r := H
  have A52 := zM A520
  clear A520
  by_cases c53 : t322 = true
  rotate_left
  · replace c53 := Bool.eq_false_iff.mpr c53
    subst c53
    have H1 : (some false) = some r := by rw [if_neg (show ¬ (false = true) by decide)] at H; exact H
    clear H
    have H := H1
    clear H1
    exact absurd ((Option.some.inj H).trans hr_) (by decide)
  subst c53
  have H1 : ((past_Well.f ((rd_T35 y262 0).f0) ((rd_T35 y262 0).f1) ((rd_T35 y262 0).f2) ((rd_T35 y262 0).f3.f0) ((rd_T35 y262 0).f3.f1) ((rd_T35 y262 0).f3.f2) ((rd_T35 y262 0).f3.f3.f0) ((rd_T35 y262 0).f3.f3.f1) ((rd_T35 y262 0).f4.f0) ((rd_T35 y262 0).f4.f1.f0) ((rd_T35 y262 0).f4.f1.f1) ((rd_T35 y262 0).f4.f2.f0) ((rd_T35 y262 0).f4.f2.f1.f0) ((rd_T35 y262 0).f4.f2.f1.f1) ((rd_T35 y262 0).f4.f2.f2)).bind fun t324 => (if t324 = true then ((past_Views.f k 7 0 y262).bind fun t325 => (if t325 = true then ((past_Grows.f k y262).bind fun t326 => (some t326)) else (some false))) else (some false))) = some r := by rw [if_pos rfl] at H; exact H
  clear H
  have H := H1
  clear H1
  replace H := Option.bind_eq_some_iff.mp H
  obtain ⟨t324, A540, H⟩ := H
  replace H : (if t324 = true then ((past_Views.f k 7 0 y262).bind fun t325 => (if t325 = true then ((past_Grows.f k y262).bind fun t326 => (some t326)) else (some false))) else (some false)) = some r := H
  have A54 := zM A540
  clear A540
  by_cases c55 : t324 = true
  rotate_left
  · replace c55 := Bool.eq_false_iff.mpr c55
    subst c55
    have H1 : (some false) = some r := by rw [if_neg (show ¬ (false = true) by decide)] at H; exact H
    clear H
    have H := H1
    clear H1
    exact absurd ((Option.some.inj H).trans hr_) (by decide)
  subst c55
  have H1 : ((past_Views.f k 7 0 y262).bind fun t325 => (if t325 = true then ((past_Grows.f k y262).bind fun t326 => (some t326)) else (some false))) = some r := by rw [if_pos rfl] at H; exact H
  clear H
  have H := H1
  clear H1
  replace H := Option.bind_eq_some_iff.mp H
  obtain ⟨t325, A560, H⟩ := H
  replace H : (if t325 = true then ((past_Grows.f k y262).bind fun t326 => (some t326)) else (some false)) = some r := H
  have A56 := zM A560
  clear A560
  by_cases c57 : t325 = true
  rotate_left
  · replace c57 := Bool.eq_false_iff.mpr c57
    subst c57
    have H1 : (some false) = some r := by rw [if_neg (show ¬ (false = true) by decide)] at H; exact H
    clear H
    have H := H1
    clear H1
    exact absurd ((Option.some.inj H).trans hr_) (by decide)
  subst c57
  have H1 : ((past_Grows.f k y262).bind fun t326 => (some t326)) = some r := by rw [if_pos rfl] at H; exact H
  clear H
  have H := H1
  clear H1
  replace H := Option.bind_eq_some_iff.mp H
  obtain ⟨t326, A580, H⟩ := H
  replace H : (some t326) = some r := H
  have A58 := zM A580
  clear A580
  obtain rfl := Option.some.inj H
  go_enter Try.func7, Try.ntmps7
  try go_wp2_with (first | ((with_reducible refine gld_ (t := 35) ?_); (try (refine gate_guard (by rfl) ?_; dsimp only)); first | refine wl15_ rfl 35 _ rfl rfl Try.underlying35 rfl (by kernel_rfl) ?_ | refine wlr15_ rfl 35 _ rfl rfl Try.underlying35 rfl (by kernel_rfl) ?_) | ((with_reducible refine gst_ (t := 35) ?_); refine ws15_ rfl 35 _ _ rfl rfl rfl (by kernel_rfl) ?_) | ((with_reducible refine gate_callee (f := 22) rfl ?_); refine goL_ (some 4) Try.func22 #[.int .i64 1, .int .i64 1, .int .i64 3, .int .i64 1, .float .f64 4617315517961601024] ?_; (with_reducible refine (ropewaylaw21_put.calls 1 1 3 1 4617315517961601024 t232 t233 t234 t235 t236 t237 t238 t239 t240 t241 t242 t243 t244 t245 t246 _ A1.out).mono ?_); rintro e w59 ⟨rfl, hb⟩; refine ⟨_, rfl, ?_⟩; replace HB := zM (zB bel_ hb); (try clear hb); (try clear hb2); (try clear hk); (try clear hi)) | ((with_reducible refine gate_callee (f := 23) rfl ?_); refine goL_ (some 6) Try.func23 #[.int .i64 4, .int .i64 6, .agg #[.int .i64 1, .int .i64 1], .float .f64 4617315517961601024] ?_; (with_reducible refine (ropewaylaw21_get.calls 4 6 1 1 4617315517961601024 t247 t248 t249 t250 t251 t252 t253 t254 t255 t256 t257 t258 t259 t260 t261 _ A2.out).mono ?_); rintro e w60 ⟨rfl, hb⟩; refine ⟨_, rfl, ?_⟩; replace HB := zM (zB bel_ hb); (try clear hb); (try clear hb2); (try clear hk); (try clear hi)) | ((with_reducible refine gate_dst (N := 7) rfl ?_); refine Kd.R_lit k35 _ 35 ?hg (N := 7) ?hd (xs := ([(⟨t232, t233, t234, (⟨t235, t236, t237, (⟨t238, t239⟩ : S24)⟩ : S26), (⟨t240, (⟨t241, t242⟩ : S24), (⟨t243, (⟨t244, t245⟩ : S29), t246⟩ : S31)⟩ : S33)⟩ : S35), (⟨t247, t248, t249, (⟨t250, t251, t252, (⟨t253, t254⟩ : S24)⟩ : S26), (⟨t255, (⟨t256, t257⟩ : S24), (⟨t258, (⟨t259, t260⟩ : S29), t261⟩ : S31)⟩ : S33)⟩ : S35)] : List (S35))) (inner := [.int .i64 t232, .int .i64 t233, .int .i64 t234, .int .i64 t235, .int .i64 t236, .float .f64 t237, .int .i64 t238, .int .i64 t239, .int .i64 t240, .int .i64 t241, .int .i64 t242, .int .i64 t243, .int .i64 t244, .int .i64 t245, .float .f64 t246, .int .i64 t247, .int .i64 t248, .int .i64 t249, .int .i64 t250, .int .i64 t251, .float .f64 t252, .int .i64 t253, .int .i64 t254, .int .i64 t255, .int .i64 t256, .int .i64 t257, .int .i64 t258, .int .i64 t259, .int .i64 t260, .float .f64 t261]) (ok := fun _ => True) (okp := fun _ => True) ?hr ?hp (fun _ hk => hk) trivial (Below.refl _ _) (Nat.le_refl _) (by simp) ?_; (case hd => rfl); (case hg => rfl); (case hr => first | (go_simp; done) | (go_simp; rfl)); (case hp => exact (Reps.front (show Kd.M k35 _ _ _ (⟨t232, t233, t234, (⟨t235, t236, t237, (⟨t238, t239⟩ : S24)⟩ : S26), (⟨t240, (⟨t241, t242⟩ : S24), (⟨t243, (⟨t244, t245⟩ : S29), t246⟩ : S31)⟩ : S33)⟩ : S35) [.int .i64 t232, .int .i64 t233, .int .i64 t234, .int .i64 t235, .int .i64 t236, .float .f64 t237, .int .i64 t238, .int .i64 t239, .int .i64 t240, .int .i64 t241, .int .i64 t242, .int .i64 t243, .int .i64 t244, .int .i64 t245, .float .f64 t246] from (k35_mkM _ _ _ (⟨t232, t233, t234, (⟨t235, t236, t237, (⟨t238, t239⟩ : S24)⟩ : S26), (⟨t240, (⟨t241, t242⟩ : S24), (⟨t243, (⟨t244, t245⟩ : S29), t246⟩ : S31)⟩ : S33)⟩ : S35) )) rfl (Reps.front (show Kd.M k35 _ _ _ (⟨t247, t248, t249, (⟨t250, t251, t252, (⟨t253, t254⟩ : S24)⟩ : S26), (⟨t255, (⟨t256, t257⟩ : S24), (⟨t258, (⟨t259, t260⟩ : S29), t261⟩ : S31)⟩ : S33)⟩ : S35) [.int .i64 t247, .int .i64 t248, .int .i64 t249, .int .i64 t250, .int .i64 t251, .float .f64 t252, .int .i64 t253, .int .i64 t254, .int .i64 t255, .int .i64 t256, .int .i64 t257, .int .i64 t258, .int .i64 t259, .int .i64 t260, .float .f64 t261] from (k35_mkM _ _ _ (⟨t247, t248, t249, (⟨t250, t251, t252, (⟨t253, t254⟩ : S24)⟩ : S26), (⟨t255, (⟨t256, t257⟩ : S24), (⟨t258, (⟨t259, t260⟩ : S29), t261⟩ : S31)⟩ : S33)⟩ : S35) )) rfl (Reps.none _ _) rfl) rfl)); intro v263 w61 ho62 hb hg_ hnew_; clear hg_ hnew_; (first | rw [← Ny262.out] at ho62 | (simp only [Int.reduceToNat] at ho62; rw [← Ny262.out] at ho62)); have HO264 := zM (Kd.R_lower ho62 (below_size bel_)); replace HB := zM (zB bel_ hb); clear hb ho62) | ((with_reducible refine gate_callee (f := 23) rfl ?_); refine goL_ (some 9) Try.func23 #[.int .i64 4, .int .i64 6, .agg #[.int .i64 1, .int .i64 1], .float .f64 4617315517961601024] ?_; (with_reducible refine (ropewaylaw21_get.calls 4 6 1 1 4617315517961601024 t265 t266 t267 t268 t269 t270 t271 t272 t273 t274 t275 t276 t277 t278 t279 _ A3.out).mono ?_); rintro e w63 ⟨rfl, hb⟩; refine ⟨_, rfl, ?_⟩; replace HO264 := zM (Kd.R_below (rl_ HO264) hb); replace HB := zM (zB bel_ hb); (try clear hb); (try clear hb2); (try clear hk); (try clear hi)) | ((with_reducible refine gate_dst (N := 10) rfl ?_); refine Kd.R_lit k35 _ 35 ?hg (N := 10) ?hd (xs := ([(⟨t265, t266, t267, (⟨t268, t269, t270, (⟨t271, t272⟩ : S24)⟩ : S26), (⟨t273, (⟨t274, t275⟩ : S24), (⟨t276, (⟨t277, t278⟩ : S29), t279⟩ : S31)⟩ : S33)⟩ : S35)] : List (S35))) (inner := [.int .i64 t265, .int .i64 t266, .int .i64 t267, .int .i64 t268, .int .i64 t269, .float .f64 t270, .int .i64 t271, .int .i64 t272, .int .i64 t273, .int .i64 t274, .int .i64 t275, .int .i64 t276, .int .i64 t277, .int .i64 t278, .float .f64 t279]) (ok := fun _ => True) (okp := fun _ => True) ?hr ?hp (fun _ hk => hk) trivial (Below.refl _ _) (Nat.le_refl _) (by simp) ?_; (case hd => rfl); (case hg => rfl); (case hr => first | (go_simp; done) | (go_simp; rfl)); (case hp => exact (Reps.front (show Kd.M k35 _ _ _ (⟨t265, t266, t267, (⟨t268, t269, t270, (⟨t271, t272⟩ : S24)⟩ : S26), (⟨t273, (⟨t274, t275⟩ : S24), (⟨t276, (⟨t277, t278⟩ : S29), t279⟩ : S31)⟩ : S33)⟩ : S35) [.int .i64 t265, .int .i64 t266, .int .i64 t267, .int .i64 t268, .int .i64 t269, .float .f64 t270, .int .i64 t271, .int .i64 t272, .int .i64 t273, .int .i64 t274, .int .i64 t275, .int .i64 t276, .int .i64 t277, .int .i64 t278, .float .f64 t279] from (k35_mkM _ _ _ (⟨t265, t266, t267, (⟨t268, t269, t270, (⟨t271, t272⟩ : S24)⟩ : S26), (⟨t273, (⟨t274, t275⟩ : S24), (⟨t276, (⟨t277, t278⟩ : S29), t279⟩ : S31)⟩ : S33)⟩ : S35) )) rfl (Reps.none _ _) rfl)); intro v281 w64 ho65 hb hg_ hnew_; clear hg_ hnew_; (first | rw [← Ny280.out] at ho65 | (simp only [Int.reduceToNat] at ho65; rw [← Ny280.out] at ho65)); have HO282 := zM (Kd.R_lower (Kd.R_new' ho65 (Kd.R_lt (rl_ HO264))) (below_size bel_)); replace HO264 := zM (Kd.R_elder' (rl_ HO264) (Kd.R_base ho65) hb); replace HB := zM (zB bel_ hb); clear hb ho65) | ((with_reducible refine gate_callee (f := 22) rfl ?_); refine goL_ (some 11) Try.func22 #[.int .i64 1, .int .i64 1, .int .i64 3, .int .i64 1, .float .f64 4617315517961601024] ?_; (with_reducible refine (ropewaylaw21_put.calls 1 1 3 1 4617315517961601024 t283 t284 t285 t286 t287 t288 t289 t290 t291 t292 t293 t294 t295 t296 t297 _ A4.out).mono ?_); rintro e w66 ⟨rfl, hb⟩; refine ⟨_, rfl, ?_⟩; replace HO264 := zM (Kd.R_below (rl_ HO264) hb); replace HO282 := zM (Kd.R_below (rl_ HO282) hb); replace HB := zM (zB bel_ hb); (try clear hb); (try clear hb2); (try clear hk); (try clear hi)) | ((with_reducible refine gate_callee (f := 23) rfl ?_); refine goL_ (some 13) Try.func23 #[.int .i64 4, .int .i64 6, .agg #[.int .i64 0, .int .i64 0], .float .f64 0] ?_; (with_reducible refine (ropewaylaw21_get.calls 4 6 0 0 0 t298 t299 t300 t301 t302 t303 t304 t305 t306 t307 t308 t309 t310 t311 t312 _ A5.out).mono ?_); rintro e w67 ⟨rfl, hb⟩; refine ⟨_, rfl, ?_⟩; replace HO264 := zM (Kd.R_below (rl_ HO264) hb); replace HO282 := zM (Kd.R_below (rl_ HO282) hb); replace HB := zM (zB bel_ hb); (try clear hb); (try clear hb2); (try clear hk); (try clear hi)) | ((with_reducible refine gate_dst (N := 14) rfl ?_); refine Kd.R_lit k35 _ 35 ?hg (N := 14) ?hd (xs := ([(⟨t283, t284, t285, (⟨t286, t287, t288, (⟨t289, t290⟩ : S24)⟩ : S26), (⟨t291, (⟨t292, t293⟩ : S24), (⟨t294, (⟨t295, t296⟩ : S29), t297⟩ : S31)⟩ : S33)⟩ : S35), (⟨t298, t299, t300, (⟨t301, t302, t303, (⟨t304, t305⟩ : S24)⟩ : S26), (⟨t306, (⟨t307, t308⟩ : S24), (⟨t309, (⟨t310, t311⟩ : S29), t312⟩ : S31)⟩ : S33)⟩ : S35)] : List (S35))) (inner := [.int .i64 t283, .int .i64 t284, .int .i64 t285, .int .i64 t286, .int .i64 t287, .float .f64 t288, .int .i64 t289, .int .i64 t290, .int .i64 t291, .int .i64 t292, .int .i64 t293, .int .i64 t294, .int .i64 t295, .int .i64 t296, .float .f64 t297, .int .i64 t298, .int .i64 t299, .int .i64 t300, .int .i64 t301, .int .i64 t302, .float .f64 t303, .int .i64 t304, .int .i64 t305, .int .i64 t306, .int .i64 t307, .int .i64 t308, .int .i64 t309, .int .i64 t310, .int .i64 t311, .float .f64 t312]) (ok := fun _ => True) (okp := fun _ => True) ?hr ?hp (fun _ hk => hk) trivial (Below.refl _ _) (Nat.le_refl _) (by simp) ?_; (case hd => rfl); (case hg => rfl); (case hr => first | (go_simp; done) | (go_simp; rfl)); (case hp => exact (Reps.front (show Kd.M k35 _ _ _ (⟨t283, t284, t285, (⟨t286, t287, t288, (⟨t289, t290⟩ : S24)⟩ : S26), (⟨t291, (⟨t292, t293⟩ : S24), (⟨t294, (⟨t295, t296⟩ : S29), t297⟩ : S31)⟩ : S33)⟩ : S35) [.int .i64 t283, .int .i64 t284, .int .i64 t285, .int .i64 t286, .int .i64 t287, .float .f64 t288, .int .i64 t289, .int .i64 t290, .int .i64 t291, .int .i64 t292, .int .i64 t293, .int .i64 t294, .int .i64 t295, .int .i64 t296, .float .f64 t297] from (k35_mkM _ _ _ (⟨t283, t284, t285, (⟨t286, t287, t288, (⟨t289, t290⟩ : S24)⟩ : S26), (⟨t291, (⟨t292, t293⟩ : S24), (⟨t294, (⟨t295, t296⟩ : S29), t297⟩ : S31)⟩ : S33)⟩ : S35) )) rfl (Reps.front (show Kd.M k35 _ _ _ (⟨t298, t299, t300, (⟨t301, t302, t303, (⟨t304, t305⟩ : S24)⟩ : S26), (⟨t306, (⟨t307, t308⟩ : S24), (⟨t309, (⟨t310, t311⟩ : S29), t312⟩ : S31)⟩ : S33)⟩ : S35) [.int .i64 t298, .int .i64 t299, .int .i64 t300, .int .i64 t301, .int .i64 t302, .float .f64 t303, .int .i64 t304, .int .i64 t305, .int .i64 t306, .int .i64 t307, .int .i64 t308, .int .i64 t309, .int .i64 t310, .int .i64 t311, .float .f64 t312] from (k35_mkM _ _ _ (⟨t298, t299, t300, (⟨t301, t302, t303, (⟨t304, t305⟩ : S24)⟩ : S26), (⟨t306, (⟨t307, t308⟩ : S24), (⟨t309, (⟨t310, t311⟩ : S29), t312⟩ : S31)⟩ : S33)⟩ : S35) )) rfl (Reps.none _ _) rfl) rfl)); intro v314 w68 ho69 hb hg_ hnew_; clear hg_ hnew_; (first | rw [← Ny313.out] at ho69 | (simp only [Int.reduceToNat] at ho69; rw [← Ny313.out] at ho69)); have HO315 := zM (Kd.R_lower (Kd.R_new' (Kd.R_new' ho69 (Kd.R_lt (rl_ HO264))) (Kd.R_lt (rl_ HO282))) (below_size bel_)); replace HO264 := zM (Kd.R_elder' (rl_ HO264) (Kd.R_base ho69) hb); replace HO282 := zM (Kd.R_elder' (rl_ HO282) (Kd.R_base ho69) hb); replace HB := zM (zB bel_ hb); clear hb ho69))
  replace HO264 := zM (Kd.R_drew HO264.out)
  replace HO282 := zM (Kd.R_drew HO282.out)
  replace HO315 := zM (Kd.R_drew HO315.out)
  replace HB := zM (below_drew1 HB.out)
  obtain ⟨Ao71, co71, eo71⟩ := Kd.R_slice HO264.out
  (first | subst eo71 | (injection eo71 with f1_ f2_ f3_; have f4_ := f1_.symm; have f5_ := f3_.symm; clear f1_ f2_ f3_; subst f4_; subst f5_))
  have p320 : 0 ≤ (0 : Int) := (by omega)
  have q320 : 0 < (y262.length : Int) := of_decide_eq_true (by first | (with_reducible assumption) | assumption)
  obtain ⟨ad320, e320, hx320_0, hx320_1, hx320_2, hx320_3, hx320_4, hx320_5, hx320_6, hx320_7, hx320_8, hx320_9, hx320_10, hx320_11, hx320_12, hx320_13, hx320_14⟩ := at_T35 (Kd.R_reads' HO264.out).2.2 0 p320 q320
  cases e320
  have qi320 : (0 < y262.length) = True := eq_true (by omega)
  (try rw [show ((0 : Int)).toNat = 0 from rfl] at hx320_0)
  (try rw [show 0 * 15 = 0 from rfl] at hx320_0)
  (try rw [Addr.add_zero'] at hx320_0)
  (try rw [show ((0 : Int)).toNat = 0 from rfl] at hx320_1)
  (try rw [show 0 * 15 = 0 from rfl] at hx320_1)
  (try rw [Addr.add_zero'] at hx320_1)
  (try rw [show ((0 : Int)).toNat = 0 from rfl] at hx320_2)
  (try rw [show 0 * 15 = 0 from rfl] at hx320_2)
  (try rw [Addr.add_zero'] at hx320_2)
  (try rw [show ((0 : Int)).toNat = 0 from rfl] at hx320_3)
  (try rw [show 0 * 15 = 0 from rfl] at hx320_3)
  (try rw [Addr.add_zero'] at hx320_3)
  (try rw [show ((0 : Int)).toNat = 0 from rfl] at hx320_4)
  (try rw [show 0 * 15 = 0 from rfl] at hx320_4)
  (try rw [Addr.add_zero'] at hx320_4)
  (try rw [show ((0 : Int)).toNat = 0 from rfl] at hx320_5)
  (try rw [show 0 * 15 = 0 from rfl] at hx320_5)
  (try rw [Addr.add_zero'] at hx320_5)
  (try rw [show ((0 : Int)).toNat = 0 from rfl] at hx320_6)
  (try rw [show 0 * 15 = 0 from rfl] at hx320_6)
  (try rw [Addr.add_zero'] at hx320_6)
  (try rw [show ((0 : Int)).toNat = 0 from rfl] at hx320_7)
  (try rw [show 0 * 15 = 0 from rfl] at hx320_7)
  (try rw [Addr.add_zero'] at hx320_7)
  (try rw [show ((0 : Int)).toNat = 0 from rfl] at hx320_8)
  (try rw [show 0 * 15 = 0 from rfl] at hx320_8)
  (try rw [Addr.add_zero'] at hx320_8)
  (try rw [show ((0 : Int)).toNat = 0 from rfl] at hx320_9)
  (try rw [show 0 * 15 = 0 from rfl] at hx320_9)
  (try rw [Addr.add_zero'] at hx320_9)
  (try rw [show ((0 : Int)).toNat = 0 from rfl] at hx320_10)
  (try rw [show 0 * 15 = 0 from rfl] at hx320_10)
  (try rw [Addr.add_zero'] at hx320_10)
  (try rw [show ((0 : Int)).toNat = 0 from rfl] at hx320_11)
  (try rw [show 0 * 15 = 0 from rfl] at hx320_11)
  (try rw [Addr.add_zero'] at hx320_11)
  (try rw [show ((0 : Int)).toNat = 0 from rfl] at hx320_12)
  (try rw [show 0 * 15 = 0 from rfl] at hx320_12)
  (try rw [Addr.add_zero'] at hx320_12)
  (try rw [show ((0 : Int)).toNat = 0 from rfl] at hx320_13)
  (try rw [show 0 * 15 = 0 from rfl] at hx320_13)
  (try rw [Addr.add_zero'] at hx320_13)
  (try rw [show ((0 : Int)).toNat = 0 from rfl] at hx320_14)
  (try rw [show 0 * 15 = 0 from rfl] at hx320_14)
  (try rw [Addr.add_zero'] at hx320_14)
  replace p320 := eq_true p320
  replace q320 := eq_true q320
  have p321 : 0 ≤ (1 : Int) := (by omega)
  have q321 : 1 < (y262.length : Int) := of_decide_eq_true (by first | (with_reducible assumption) | assumption)
  obtain ⟨ad321, e321, hx321_0, hx321_1, hx321_2, hx321_3, hx321_4, hx321_5, hx321_6, hx321_7, hx321_8, hx321_9, hx321_10, hx321_11, hx321_12, hx321_13, hx321_14⟩ := at_T35 (Kd.R_reads' HO264.out).2.2 1 p321 q321
  obtain rfl : ad320 = ad321 := (by injection e321)
  (try simp only [show (1 : Int).toNat = 1 from rfl, Nat.reduceMul, Nat.reduceEqDiff, Go.Addr.add, ↓reduceIte] at hx321_0)
  (try simp only [show (1 : Int).toNat = 1 from rfl, Nat.reduceMul, Nat.reduceEqDiff, Go.Addr.add, ↓reduceIte] at hx321_1)
  (try simp only [show (1 : Int).toNat = 1 from rfl, Nat.reduceMul, Nat.reduceEqDiff, Go.Addr.add, ↓reduceIte] at hx321_2)
  (try simp only [show (1 : Int).toNat = 1 from rfl, Nat.reduceMul, Nat.reduceEqDiff, Go.Addr.add, ↓reduceIte] at hx321_3)
  (try simp only [show (1 : Int).toNat = 1 from rfl, Nat.reduceMul, Nat.reduceEqDiff, Go.Addr.add, ↓reduceIte] at hx321_4)
  (try simp only [show (1 : Int).toNat = 1 from rfl, Nat.reduceMul, Nat.reduceEqDiff, Go.Addr.add, ↓reduceIte] at hx321_5)
  (try simp only [show (1 : Int).toNat = 1 from rfl, Nat.reduceMul, Nat.reduceEqDiff, Go.Addr.add, ↓reduceIte] at hx321_6)
  (try simp only [show (1 : Int).toNat = 1 from rfl, Nat.reduceMul, Nat.reduceEqDiff, Go.Addr.add, ↓reduceIte] at hx321_7)
  (try simp only [show (1 : Int).toNat = 1 from rfl, Nat.reduceMul, Nat.reduceEqDiff, Go.Addr.add, ↓reduceIte] at hx321_8)
  (try simp only [show (1 : Int).toNat = 1 from rfl, Nat.reduceMul, Nat.reduceEqDiff, Go.Addr.add, ↓reduceIte] at hx321_9)
  (try simp only [show (1 : Int).toNat = 1 from rfl, Nat.reduceMul, Nat.reduceEqDiff, Go.Addr.add, ↓reduceIte] at hx321_10)
  (try simp only [show (1 : Int).toNat = 1 from rfl, Nat.reduceMul, Nat.reduceEqDiff, Go.Addr.add, ↓reduceIte] at hx321_11)
  (try simp only [show (1 : Int).toNat = 1 from rfl, Nat.reduceMul, Nat.reduceEqDiff, Go.Addr.add, ↓reduceIte] at hx321_12)
  (try simp only [show (1 : Int).toNat = 1 from rfl, Nat.reduceMul, Nat.reduceEqDiff, Go.Addr.add, ↓reduceIte] at hx321_13)
  (try simp only [show (1 : Int).toNat = 1 from rfl, Nat.reduceMul, Nat.reduceEqDiff, Go.Addr.add, ↓reduceIte] at hx321_14)
  have qi321 : (1 < y262.length) = True := eq_true (by omega)
  (try rw [show ((1 : Int)).toNat = 1 from rfl] at hx321_0)
  (try rw [show 1 * 15 = 15 from rfl] at hx321_0)
  (try rw [show ((1 : Int)).toNat = 1 from rfl] at hx321_1)
  (try rw [show 1 * 15 = 15 from rfl] at hx321_1)
  (try rw [show ((1 : Int)).toNat = 1 from rfl] at hx321_2)
  (try rw [show 1 * 15 = 15 from rfl] at hx321_2)
  (try rw [show ((1 : Int)).toNat = 1 from rfl] at hx321_3)
  (try rw [show 1 * 15 = 15 from rfl] at hx321_3)
  (try rw [show ((1 : Int)).toNat = 1 from rfl] at hx321_4)
  (try rw [show 1 * 15 = 15 from rfl] at hx321_4)
  (try rw [show ((1 : Int)).toNat = 1 from rfl] at hx321_5)
  (try rw [show 1 * 15 = 15 from rfl] at hx321_5)
  (try rw [show ((1 : Int)).toNat = 1 from rfl] at hx321_6)
  (try rw [show 1 * 15 = 15 from rfl] at hx321_6)
  (try rw [show ((1 : Int)).toNat = 1 from rfl] at hx321_7)
  (try rw [show 1 * 15 = 15 from rfl] at hx321_7)
  (try rw [show ((1 : Int)).toNat = 1 from rfl] at hx321_8)
  (try rw [show 1 * 15 = 15 from rfl] at hx321_8)
  (try rw [show ((1 : Int)).toNat = 1 from rfl] at hx321_9)
  (try rw [show 1 * 15 = 15 from rfl] at hx321_9)
  (try rw [show ((1 : Int)).toNat = 1 from rfl] at hx321_10)
  (try rw [show 1 * 15 = 15 from rfl] at hx321_10)
  (try rw [show ((1 : Int)).toNat = 1 from rfl] at hx321_11)
  (try rw [show 1 * 15 = 15 from rfl] at hx321_11)
  (try rw [show ((1 : Int)).toNat = 1 from rfl] at hx321_12)
  (try rw [show 1 * 15 = 15 from rfl] at hx321_12)
  (try rw [show ((1 : Int)).toNat = 1 from rfl] at hx321_13)
  (try rw [show 1 * 15 = 15 from rfl] at hx321_13)
  (try rw [show ((1 : Int)).toNat = 1 from rfl] at hx321_14)
  (try rw [show 1 * 15 = 15 from rfl] at hx321_14)
  replace p321 := eq_true p321
  replace q321 := eq_true q321
  have p323 : 0 ≤ (0 : Int) := (by omega)
  have q323 : 0 < (y262.length : Int) := of_decide_eq_true (by first | (with_reducible assumption) | assumption)
  obtain ⟨ad323, e323, hx323_0, hx323_1, hx323_2, hx323_3, hx323_4, hx323_5, hx323_6, hx323_7, hx323_8, hx323_9, hx323_10, hx323_11, hx323_12, hx323_13, hx323_14⟩ := at_T35 (Kd.R_reads' HO264.out).2.2 0 p323 q323
  obtain rfl : ad320 = ad323 := (by injection e323)
  have qi323 : (0 < y262.length) = True := eq_true (by omega)
  (try rw [show ((0 : Int)).toNat = 0 from rfl] at hx323_0)
  (try rw [show 0 * 15 = 0 from rfl] at hx323_0)
  (try rw [Addr.add_zero'] at hx323_0)
  (try rw [show ((0 : Int)).toNat = 0 from rfl] at hx323_1)
  (try rw [show 0 * 15 = 0 from rfl] at hx323_1)
  (try rw [Addr.add_zero'] at hx323_1)
  (try rw [show ((0 : Int)).toNat = 0 from rfl] at hx323_2)
  (try rw [show 0 * 15 = 0 from rfl] at hx323_2)
  (try rw [Addr.add_zero'] at hx323_2)
  (try rw [show ((0 : Int)).toNat = 0 from rfl] at hx323_3)
  (try rw [show 0 * 15 = 0 from rfl] at hx323_3)
  (try rw [Addr.add_zero'] at hx323_3)
  (try rw [show ((0 : Int)).toNat = 0 from rfl] at hx323_4)
  (try rw [show 0 * 15 = 0 from rfl] at hx323_4)
  (try rw [Addr.add_zero'] at hx323_4)
  (try rw [show ((0 : Int)).toNat = 0 from rfl] at hx323_5)
  (try rw [show 0 * 15 = 0 from rfl] at hx323_5)
  (try rw [Addr.add_zero'] at hx323_5)
  (try rw [show ((0 : Int)).toNat = 0 from rfl] at hx323_6)
  (try rw [show 0 * 15 = 0 from rfl] at hx323_6)
  (try rw [Addr.add_zero'] at hx323_6)
  (try rw [show ((0 : Int)).toNat = 0 from rfl] at hx323_7)
  (try rw [show 0 * 15 = 0 from rfl] at hx323_7)
  (try rw [Addr.add_zero'] at hx323_7)
  (try rw [show ((0 : Int)).toNat = 0 from rfl] at hx323_8)
  (try rw [show 0 * 15 = 0 from rfl] at hx323_8)
  (try rw [Addr.add_zero'] at hx323_8)
  (try rw [show ((0 : Int)).toNat = 0 from rfl] at hx323_9)
  (try rw [show 0 * 15 = 0 from rfl] at hx323_9)
  (try rw [Addr.add_zero'] at hx323_9)
  (try rw [show ((0 : Int)).toNat = 0 from rfl] at hx323_10)
  (try rw [show 0 * 15 = 0 from rfl] at hx323_10)
  (try rw [Addr.add_zero'] at hx323_10)
  (try rw [show ((0 : Int)).toNat = 0 from rfl] at hx323_11)
  (try rw [show 0 * 15 = 0 from rfl] at hx323_11)
  (try rw [Addr.add_zero'] at hx323_11)
  (try rw [show ((0 : Int)).toNat = 0 from rfl] at hx323_12)
  (try rw [show 0 * 15 = 0 from rfl] at hx323_12)
  (try rw [Addr.add_zero'] at hx323_12)
  (try rw [show ((0 : Int)).toNat = 0 from rfl] at hx323_13)
  (try rw [show 0 * 15 = 0 from rfl] at hx323_13)
  (try rw [Addr.add_zero'] at hx323_13)
  (try rw [show ((0 : Int)).toNat = 0 from rfl] at hx323_14)
  (try rw [show 0 * 15 = 0 from rfl] at hx323_14)
  (try rw [Addr.add_zero'] at hx323_14)
  replace p323 := eq_true p323
  replace q323 := eq_true q323
  refine start_ (n := 42) (S := fun w' => w'.cell? ad320 = some (.int .i64 ((rd_T35 y262 0).f0)) ∧ w'.cell? ⟨ad320.block, ad320.off + 1, none⟩ = some (.int .i64 ((rd_T35 y262 0).f1)) ∧ w'.cell? ⟨ad320.block, ad320.off + 2, none⟩ = some (.int .i64 ((rd_T35 y262 0).f2)) ∧ w'.cell? ⟨ad320.block, ad320.off + 3, none⟩ = some (.int .i64 ((rd_T35 y262 0).f3.f0)) ∧ w'.cell? ⟨ad320.block, ad320.off + 4, none⟩ = some (.int .i64 ((rd_T35 y262 0).f3.f1)) ∧ w'.cell? ⟨ad320.block, ad320.off + 5, none⟩ = some (.float .f64 ((rd_T35 y262 0).f3.f2)) ∧ w'.cell? ⟨ad320.block, ad320.off + 6, none⟩ = some (.int .i64 ((rd_T35 y262 0).f3.f3.f0)) ∧ w'.cell? ⟨ad320.block, ad320.off + 7, none⟩ = some (.int .i64 ((rd_T35 y262 0).f3.f3.f1)) ∧ w'.cell? ⟨ad320.block, ad320.off + 8, none⟩ = some (.int .i64 ((rd_T35 y262 0).f4.f0)) ∧ w'.cell? ⟨ad320.block, ad320.off + 9, none⟩ = some (.int .i64 ((rd_T35 y262 0).f4.f1.f0)) ∧ w'.cell? ⟨ad320.block, ad320.off + 10, none⟩ = some (.int .i64 ((rd_T35 y262 0).f4.f1.f1)) ∧ w'.cell? ⟨ad320.block, ad320.off + 11, none⟩ = some (.int .i64 ((rd_T35 y262 0).f4.f2.f0)) ∧ w'.cell? ⟨ad320.block, ad320.off + 12, none⟩ = some (.int .i64 ((rd_T35 y262 0).f4.f2.f1.f0)) ∧ w'.cell? ⟨ad320.block, ad320.off + 13, none⟩ = some (.int .i64 ((rd_T35 y262 0).f4.f2.f1.f1)) ∧ w'.cell? ⟨ad320.block, ad320.off + 14, none⟩ = some (.float .f64 ((rd_T35 y262 0).f4.f2.f2)) ∧ w'.cell? ⟨ad320.block, ad320.off + 15, none⟩ = some (.int .i64 ((rd_T35 y262 1).f0)) ∧ w'.cell? ⟨ad320.block, ad320.off + 15 + 1, none⟩ = some (.int .i64 ((rd_T35 y262 1).f1)) ∧ w'.cell? ⟨ad320.block, ad320.off + 15 + 2, none⟩ = some (.int .i64 ((rd_T35 y262 1).f2)) ∧ w'.cell? ⟨ad320.block, ad320.off + 15 + 3, none⟩ = some (.int .i64 ((rd_T35 y262 1).f3.f0)) ∧ w'.cell? ⟨ad320.block, ad320.off + 15 + 4, none⟩ = some (.int .i64 ((rd_T35 y262 1).f3.f1)) ∧ w'.cell? ⟨ad320.block, ad320.off + 15 + 5, none⟩ = some (.float .f64 ((rd_T35 y262 1).f3.f2)) ∧ w'.cell? ⟨ad320.block, ad320.off + 15 + 6, none⟩ = some (.int .i64 ((rd_T35 y262 1).f3.f3.f0)) ∧ w'.cell? ⟨ad320.block, ad320.off + 15 + 7, none⟩ = some (.int .i64 ((rd_T35 y262 1).f3.f3.f1)) ∧ w'.cell? ⟨ad320.block, ad320.off + 15 + 8, none⟩ = some (.int .i64 ((rd_T35 y262 1).f4.f0)) ∧ w'.cell? ⟨ad320.block, ad320.off + 15 + 9, none⟩ = some (.int .i64 ((rd_T35 y262 1).f4.f1.f0)) ∧ w'.cell? ⟨ad320.block, ad320.off + 15 + 10, none⟩ = some (.int .i64 ((rd_T35 y262 1).f4.f1.f1)) ∧ w'.cell? ⟨ad320.block, ad320.off + 15 + 11, none⟩ = some (.int .i64 ((rd_T35 y262 1).f4.f2.f0)) ∧ w'.cell? ⟨ad320.block, ad320.off + 15 + 12, none⟩ = some (.int .i64 ((rd_T35 y262 1).f4.f2.f1.f0)) ∧ w'.cell? ⟨ad320.block, ad320.off + 15 + 13, none⟩ = some (.int .i64 ((rd_T35 y262 1).f4.f2.f1.f1)) ∧ w'.cell? ⟨ad320.block, ad320.off + 15 + 14, none⟩ = some (.float .f64 ((rd_T35 y262 1).f4.f2.f2)) ∧ w'.cell? ad320 = some (.int .i64 ((rd_T35 y262 0).f0)) ∧ w'.cell? ⟨ad320.block, ad320.off + 1, none⟩ = some (.int .i64 ((rd_T35 y262 0).f1)) ∧ w'.cell? ⟨ad320.block, ad320.off + 2, none⟩ = some (.int .i64 ((rd_T35 y262 0).f2)) ∧ w'.cell? ⟨ad320.block, ad320.off + 3, none⟩ = some (.int .i64 ((rd_T35 y262 0).f3.f0)) ∧ w'.cell? ⟨ad320.block, ad320.off + 4, none⟩ = some (.int .i64 ((rd_T35 y262 0).f3.f1)) ∧ w'.cell? ⟨ad320.block, ad320.off + 5, none⟩ = some (.float .f64 ((rd_T35 y262 0).f3.f2)) ∧ w'.cell? ⟨ad320.block, ad320.off + 6, none⟩ = some (.int .i64 ((rd_T35 y262 0).f3.f3.f0)) ∧ w'.cell? ⟨ad320.block, ad320.off + 7, none⟩ = some (.int .i64 ((rd_T35 y262 0).f3.f3.f1)) ∧ w'.cell? ⟨ad320.block, ad320.off + 8, none⟩ = some (.int .i64 ((rd_T35 y262 0).f4.f0)) ∧ w'.cell? ⟨ad320.block, ad320.off + 9, none⟩ = some (.int .i64 ((rd_T35 y262 0).f4.f1.f0)) ∧ w'.cell? ⟨ad320.block, ad320.off + 10, none⟩ = some (.int .i64 ((rd_T35 y262 0).f4.f1.f1)) ∧ w'.cell? ⟨ad320.block, ad320.off + 11, none⟩ = some (.int .i64 ((rd_T35 y262 0).f4.f2.f0)) ∧ w'.cell? ⟨ad320.block, ad320.off + 12, none⟩ = some (.int .i64 ((rd_T35 y262 0).f4.f2.f1.f0)) ∧ w'.cell? ⟨ad320.block, ad320.off + 13, none⟩ = some (.int .i64 ((rd_T35 y262 0).f4.f2.f1.f1)) ∧ w'.cell? ⟨ad320.block, ad320.off + 14, none⟩ = some (.float .f64 ((rd_T35 y262 0).f4.f2.f2))) (ds := []) #[F_, F_, F_, F_, F_, F_, F_, F_, F_, F_, F_, F_, F_, F_, F_, F_, F_, F_, F_, F_, F_, F_, F_, F_, F_, F_, F_, F_, F_, F_, F_, F_, F_, F_, F_, F_, F_, F_, F_, F_, F_, F_] (by kernel_rfl) rfl rfl ⟨hx320_0, hx320_1, hx320_2, hx320_3, hx320_4, hx320_5, hx320_6, hx320_7, hx320_8, hx320_9, hx320_10, hx320_11, hx320_12, hx320_13, hx320_14, hx321_0, hx321_1, hx321_2, hx321_3, hx321_4, hx321_5, hx321_6, hx321_7, hx321_8, hx321_9, hx321_10, hx321_11, hx321_12, hx321_13, hx321_14, hx323_0, hx323_1, hx323_2, hx323_3, hx323_4, hx323_5, hx323_6, hx323_7, hx323_8, hx323_9, hx323_10, hx323_11, hx323_12, hx323_13, hx323_14⟩ (fun hHeld => ?_); refine with_tabW ropewaylaw21_pastAlive.tab4 ropewaylaw21_pastAlive.bits4 (fun HT_ HW_ => ?_)
  generalize w68.drew = w70 at HO264 HO282 HO315 HB hx320_0 hx320_1 hx320_10 hx320_11 hx320_12 hx320_13 hx320_14 hx320_2 hx320_3 hx320_4 hx320_5 hx320_6 hx320_7 hx320_8 hx320_9 hx321_0 hx321_1 hx321_10 hx321_11 hx321_12 hx321_13 hx321_14 hx321_2 hx321_3 hx321_4 hx321_5 hx321_6 hx321_7 hx321_8 hx321_9 hx323_0 hx323_1 hx323_10 hx323_11 hx323_12 hx323_13 hx323_14 hx323_2 hx323_3 hx323_4 hx323_5 hx323_6 hx323_7 hx323_8 hx323_9 hHeld ⊢
  refine pure_ (i := 0) (N := some 15) (v := ?_) (a' := ?_) #[T_, F_, F_, F_, F_, F_, F_, F_, F_, F_, F_, F_, F_, F_, F_, F_, F_, F_, F_, F_, F_, F_, F_, F_, F_, F_, F_, F_, F_, F_, F_, F_, F_, F_, F_, F_, F_, F_, F_, F_, F_, F_] rfl rfl (any_of HT_.out (by kernel_rfl)) (fun _ _ _ h => h) (Or.inl ⟨by rfl, ?_⟩) ?_ ?_
  rotate_left
  · intro w'
    go_simp
    with_reducible rfl
  rotate_left
  · simp only [Act.put, zS, zZ, zC, i64_w, i32_w]
    rfl
  refine one_ (i := 1) (N := some 16) #[T_, T_, F_, F_, F_, F_, F_, F_, F_, F_, F_, F_, F_, F_, F_, F_, F_, F_, F_, F_, F_, F_, F_, F_, F_, F_, F_, F_, F_, F_, F_, F_, F_, F_, F_, F_, F_, F_, F_, F_, F_, F_] rfl rfl (one_of HT_.out (by kernel_rfl)) (by decide) (fun K hK => ?_)
  refine goes_ Try.func8 (by kernel_rfl) rfl #[.slice (some ad320) y262.length co71] (by rfl) rfl rfl (by (try simp only [List.map_toArray, List.map_cons, List.map_nil]); first | done | rfl | (simp only [List.length_drop, List.length_take]; rfl)) ?_
  with_reducible refine (past_Fits.calls k _ _ y262 true _ ?side1 ?side2 A6.out).mono ?_
  (case side1 => repeat (first | exact (Kd.R_reads' HO264.out).2.2 | (with_reducible refine Kd.C_alloc ?_ _) | (with_reducible refine Kd.C_drewN ?_ _) | (with_reducible refine Kd.C_drew ?_)))
  (case side2 => exact (Kd.R_reads' HO264.out).2.1)
  rintro e w72 ⟨rfl, hb⟩
  have HS0_ := (hb.cell (World.block_lt_of_cell? _ _ (hHeld.1))).trans (hHeld.1)
  have HS1_ := (hb.cell (World.block_lt_of_cell? _ _ (hHeld.2.1))).trans (hHeld.2.1)
  have HS2_ := (hb.cell (World.block_lt_of_cell? _ _ (hHeld.2.2.1))).trans (hHeld.2.2.1)
  have HS3_ := (hb.cell (World.block_lt_of_cell? _ _ (hHeld.2.2.2.1))).trans (hHeld.2.2.2.1)
  have HS4_ := (hb.cell (World.block_lt_of_cell? _ _ (hHeld.2.2.2.2.1))).trans (hHeld.2.2.2.2.1)
  have HS5_ := (hb.cell (World.block_lt_of_cell? _ _ (hHeld.2.2.2.2.2.1))).trans (hHeld.2.2.2.2.2.1)
  have HS6_ := (hb.cell (World.block_lt_of_cell? _ _ (hHeld.2.2.2.2.2.2.1))).trans (hHeld.2.2.2.2.2.2.1)
  have HS7_ := (hb.cell (World.block_lt_of_cell? _ _ (hHeld.2.2.2.2.2.2.2.1))).trans (hHeld.2.2.2.2.2.2.2.1)
  have HS8_ := (hb.cell (World.block_lt_of_cell? _ _ (hHeld.2.2.2.2.2.2.2.2.1))).trans (hHeld.2.2.2.2.2.2.2.2.1)
  have HS9_ := (hb.cell (World.block_lt_of_cell? _ _ (hHeld.2.2.2.2.2.2.2.2.2.1))).trans (hHeld.2.2.2.2.2.2.2.2.2.1)
  have HS10_ := (hb.cell (World.block_lt_of_cell? _ _ (hHeld.2.2.2.2.2.2.2.2.2.2.1))).trans (hHeld.2.2.2.2.2.2.2.2.2.2.1)
  have HS11_ := (hb.cell (World.block_lt_of_cell? _ _ (hHeld.2.2.2.2.2.2.2.2.2.2.2.1))).trans (hHeld.2.2.2.2.2.2.2.2.2.2.2.1)
  have HS12_ := (hb.cell (World.block_lt_of_cell? _ _ (hHeld.2.2.2.2.2.2.2.2.2.2.2.2.1))).trans (hHeld.2.2.2.2.2.2.2.2.2.2.2.2.1)
  have HS13_ := (hb.cell (World.block_lt_of_cell? _ _ (hHeld.2.2.2.2.2.2.2.2.2.2.2.2.2.1))).trans (hHeld.2.2.2.2.2.2.2.2.2.2.2.2.2.1)
  have HS14_ := (hb.cell (World.block_lt_of_cell? _ _ (hHeld.2.2.2.2.2.2.2.2.2.2.2.2.2.2.1))).trans (hHeld.2.2.2.2.2.2.2.2.2.2.2.2.2.2.1)
  have HS15_ := (hb.cell (World.block_lt_of_cell? _ _ (hHeld.2.2.2.2.2.2.2.2.2.2.2.2.2.2.2.1))).trans (hHeld.2.2.2.2.2.2.2.2.2.2.2.2.2.2.2.1)
  have HS16_ := (hb.cell (World.block_lt_of_cell? _ _ (hHeld.2.2.2.2.2.2.2.2.2.2.2.2.2.2.2.2.1))).trans (hHeld.2.2.2.2.2.2.2.2.2.2.2.2.2.2.2.2.1)
  have HS17_ := (hb.cell (World.block_lt_of_cell? _ _ (hHeld.2.2.2.2.2.2.2.2.2.2.2.2.2.2.2.2.2.1))).trans (hHeld.2.2.2.2.2.2.2.2.2.2.2.2.2.2.2.2.2.1)
  have HS18_ := (hb.cell (World.block_lt_of_cell? _ _ (hHeld.2.2.2.2.2.2.2.2.2.2.2.2.2.2.2.2.2.2.1))).trans (hHeld.2.2.2.2.2.2.2.2.2.2.2.2.2.2.2.2.2.2.1)
  have HS19_ := (hb.cell (World.block_lt_of_cell? _ _ (hHeld.2.2.2.2.2.2.2.2.2.2.2.2.2.2.2.2.2.2.2.1))).trans (hHeld.2.2.2.2.2.2.2.2.2.2.2.2.2.2.2.2.2.2.2.1)
  have HS20_ := (hb.cell (World.block_lt_of_cell? _ _ (hHeld.2.2.2.2.2.2.2.2.2.2.2.2.2.2.2.2.2.2.2.2.1))).trans (hHeld.2.2.2.2.2.2.2.2.2.2.2.2.2.2.2.2.2.2.2.2.1)
  have HS21_ := (hb.cell (World.block_lt_of_cell? _ _ (hHeld.2.2.2.2.2.2.2.2.2.2.2.2.2.2.2.2.2.2.2.2.2.1))).trans (hHeld.2.2.2.2.2.2.2.2.2.2.2.2.2.2.2.2.2.2.2.2.2.1)
  have HS22_ := (hb.cell (World.block_lt_of_cell? _ _ (hHeld.2.2.2.2.2.2.2.2.2.2.2.2.2.2.2.2.2.2.2.2.2.2.1))).trans (hHeld.2.2.2.2.2.2.2.2.2.2.2.2.2.2.2.2.2.2.2.2.2.2.1)
  have HS23_ := (hb.cell (World.block_lt_of_cell? _ _ (hHeld.2.2.2.2.2.2.2.2.2.2.2.2.2.2.2.2.2.2.2.2.2.2.2.1))).trans (hHeld.2.2.2.2.2.2.2.2.2.2.2.2.2.2.2.2.2.2.2.2.2.2.2.1)
  have HS24_ := (hb.cell (World.block_lt_of_cell? _ _ (hHeld.2.2.2.2.2.2.2.2.2.2.2.2.2.2.2.2.2.2.2.2.2.2.2.2.1))).trans (hHeld.2.2.2.2.2.2.2.2.2.2.2.2.2.2.2.2.2.2.2.2.2.2.2.2.1)
  have HS25_ := (hb.cell (World.block_lt_of_cell? _ _ (hHeld.2.2.2.2.2.2.2.2.2.2.2.2.2.2.2.2.2.2.2.2.2.2.2.2.2.1))).trans (hHeld.2.2.2.2.2.2.2.2.2.2.2.2.2.2.2.2.2.2.2.2.2.2.2.2.2.1)
  have HS26_ := (hb.cell (World.block_lt_of_cell? _ _ (hHeld.2.2.2.2.2.2.2.2.2.2.2.2.2.2.2.2.2.2.2.2.2.2.2.2.2.2.1))).trans (hHeld.2.2.2.2.2.2.2.2.2.2.2.2.2.2.2.2.2.2.2.2.2.2.2.2.2.2.1)
  have HS27_ := (hb.cell (World.block_lt_of_cell? _ _ (hHeld.2.2.2.2.2.2.2.2.2.2.2.2.2.2.2.2.2.2.2.2.2.2.2.2.2.2.2.1))).trans (hHeld.2.2.2.2.2.2.2.2.2.2.2.2.2.2.2.2.2.2.2.2.2.2.2.2.2.2.2.1)
  have HS28_ := (hb.cell (World.block_lt_of_cell? _ _ (hHeld.2.2.2.2.2.2.2.2.2.2.2.2.2.2.2.2.2.2.2.2.2.2.2.2.2.2.2.2.1))).trans (hHeld.2.2.2.2.2.2.2.2.2.2.2.2.2.2.2.2.2.2.2.2.2.2.2.2.2.2.2.2.1)
  have HS29_ := (hb.cell (World.block_lt_of_cell? _ _ (hHeld.2.2.2.2.2.2.2.2.2.2.2.2.2.2.2.2.2.2.2.2.2.2.2.2.2.2.2.2.2.1))).trans (hHeld.2.2.2.2.2.2.2.2.2.2.2.2.2.2.2.2.2.2.2.2.2.2.2.2.2.2.2.2.2.1)
  have HS30_ := (hb.cell (World.block_lt_of_cell? _ _ (hHeld.2.2.2.2.2.2.2.2.2.2.2.2.2.2.2.2.2.2.2.2.2.2.2.2.2.2.2.2.2.2.1))).trans (hHeld.2.2.2.2.2.2.2.2.2.2.2.2.2.2.2.2.2.2.2.2.2.2.2.2.2.2.2.2.2.2.1)
  have HS31_ := (hb.cell (World.block_lt_of_cell? _ _ (hHeld.2.2.2.2.2.2.2.2.2.2.2.2.2.2.2.2.2.2.2.2.2.2.2.2.2.2.2.2.2.2.2.1))).trans (hHeld.2.2.2.2.2.2.2.2.2.2.2.2.2.2.2.2.2.2.2.2.2.2.2.2.2.2.2.2.2.2.2.1)
  have HS32_ := (hb.cell (World.block_lt_of_cell? _ _ (hHeld.2.2.2.2.2.2.2.2.2.2.2.2.2.2.2.2.2.2.2.2.2.2.2.2.2.2.2.2.2.2.2.2.1))).trans (hHeld.2.2.2.2.2.2.2.2.2.2.2.2.2.2.2.2.2.2.2.2.2.2.2.2.2.2.2.2.2.2.2.2.1)
  have HS33_ := (hb.cell (World.block_lt_of_cell? _ _ (hHeld.2.2.2.2.2.2.2.2.2.2.2.2.2.2.2.2.2.2.2.2.2.2.2.2.2.2.2.2.2.2.2.2.2.1))).trans (hHeld.2.2.2.2.2.2.2.2.2.2.2.2.2.2.2.2.2.2.2.2.2.2.2.2.2.2.2.2.2.2.2.2.2.1)
  have HS34_ := (hb.cell (World.block_lt_of_cell? _ _ (hHeld.2.2.2.2.2.2.2.2.2.2.2.2.2.2.2.2.2.2.2.2.2.2.2.2.2.2.2.2.2.2.2.2.2.2.1))).trans (hHeld.2.2.2.2.2.2.2.2.2.2.2.2.2.2.2.2.2.2.2.2.2.2.2.2.2.2.2.2.2.2.2.2.2.2.1)
  have HS35_ := (hb.cell (World.block_lt_of_cell? _ _ (hHeld.2.2.2.2.2.2.2.2.2.2.2.2.2.2.2.2.2.2.2.2.2.2.2.2.2.2.2.2.2.2.2.2.2.2.2.1))).trans (hHeld.2.2.2.2.2.2.2.2.2.2.2.2.2.2.2.2.2.2.2.2.2.2.2.2.2.2.2.2.2.2.2.2.2.2.2.1)
  have HS36_ := (hb.cell (World.block_lt_of_cell? _ _ (hHeld.2.2.2.2.2.2.2.2.2.2.2.2.2.2.2.2.2.2.2.2.2.2.2.2.2.2.2.2.2.2.2.2.2.2.2.2.1))).trans (hHeld.2.2.2.2.2.2.2.2.2.2.2.2.2.2.2.2.2.2.2.2.2.2.2.2.2.2.2.2.2.2.2.2.2.2.2.2.1)
  have HS37_ := (hb.cell (World.block_lt_of_cell? _ _ (hHeld.2.2.2.2.2.2.2.2.2.2.2.2.2.2.2.2.2.2.2.2.2.2.2.2.2.2.2.2.2.2.2.2.2.2.2.2.2.1))).trans (hHeld.2.2.2.2.2.2.2.2.2.2.2.2.2.2.2.2.2.2.2.2.2.2.2.2.2.2.2.2.2.2.2.2.2.2.2.2.2.1)
  have HS38_ := (hb.cell (World.block_lt_of_cell? _ _ (hHeld.2.2.2.2.2.2.2.2.2.2.2.2.2.2.2.2.2.2.2.2.2.2.2.2.2.2.2.2.2.2.2.2.2.2.2.2.2.2.1))).trans (hHeld.2.2.2.2.2.2.2.2.2.2.2.2.2.2.2.2.2.2.2.2.2.2.2.2.2.2.2.2.2.2.2.2.2.2.2.2.2.2.1)
  have HS39_ := (hb.cell (World.block_lt_of_cell? _ _ (hHeld.2.2.2.2.2.2.2.2.2.2.2.2.2.2.2.2.2.2.2.2.2.2.2.2.2.2.2.2.2.2.2.2.2.2.2.2.2.2.2.1))).trans (hHeld.2.2.2.2.2.2.2.2.2.2.2.2.2.2.2.2.2.2.2.2.2.2.2.2.2.2.2.2.2.2.2.2.2.2.2.2.2.2.2.1)
  have HS40_ := (hb.cell (World.block_lt_of_cell? _ _ (hHeld.2.2.2.2.2.2.2.2.2.2.2.2.2.2.2.2.2.2.2.2.2.2.2.2.2.2.2.2.2.2.2.2.2.2.2.2.2.2.2.2.1))).trans (hHeld.2.2.2.2.2.2.2.2.2.2.2.2.2.2.2.2.2.2.2.2.2.2.2.2.2.2.2.2.2.2.2.2.2.2.2.2.2.2.2.2.1)
  have HS41_ := (hb.cell (World.block_lt_of_cell? _ _ (hHeld.2.2.2.2.2.2.2.2.2.2.2.2.2.2.2.2.2.2.2.2.2.2.2.2.2.2.2.2.2.2.2.2.2.2.2.2.2.2.2.2.2.1))).trans (hHeld.2.2.2.2.2.2.2.2.2.2.2.2.2.2.2.2.2.2.2.2.2.2.2.2.2.2.2.2.2.2.2.2.2.2.2.2.2.2.2.2.2.1)
  have HS42_ := (hb.cell (World.block_lt_of_cell? _ _ (hHeld.2.2.2.2.2.2.2.2.2.2.2.2.2.2.2.2.2.2.2.2.2.2.2.2.2.2.2.2.2.2.2.2.2.2.2.2.2.2.2.2.2.2.1))).trans (hHeld.2.2.2.2.2.2.2.2.2.2.2.2.2.2.2.2.2.2.2.2.2.2.2.2.2.2.2.2.2.2.2.2.2.2.2.2.2.2.2.2.2.2.1)
  have HS43_ := (hb.cell (World.block_lt_of_cell? _ _ (hHeld.2.2.2.2.2.2.2.2.2.2.2.2.2.2.2.2.2.2.2.2.2.2.2.2.2.2.2.2.2.2.2.2.2.2.2.2.2.2.2.2.2.2.2.1))).trans (hHeld.2.2.2.2.2.2.2.2.2.2.2.2.2.2.2.2.2.2.2.2.2.2.2.2.2.2.2.2.2.2.2.2.2.2.2.2.2.2.2.2.2.2.2.1)
  have HS44_ := (hb.cell (World.block_lt_of_cell? _ _ (hHeld.2.2.2.2.2.2.2.2.2.2.2.2.2.2.2.2.2.2.2.2.2.2.2.2.2.2.2.2.2.2.2.2.2.2.2.2.2.2.2.2.2.2.2.2))).trans (hHeld.2.2.2.2.2.2.2.2.2.2.2.2.2.2.2.2.2.2.2.2.2.2.2.2.2.2.2.2.2.2.2.2.2.2.2.2.2.2.2.2.2.2.2.2)
  refine ⟨_, rfl, ?_⟩
  replace HO264 := zM (Kd.R_below (rl_ HO264) hb)
  replace HO282 := zM (Kd.R_below (rl_ HO282) hb)
  replace HO315 := zM (Kd.R_below (rl_ HO315) hb)
  replace HB := zM (zB bel_ hb)
  (try clear hb)
  (try clear hb2)
  (try clear hk)
  (try clear hi)
  refine hK.out _ _ ⟨HS0_, HS1_, HS2_, HS3_, HS4_, HS5_, HS6_, HS7_, HS8_, HS9_, HS10_, HS11_, HS12_, HS13_, HS14_, HS15_, HS16_, HS17_, HS18_, HS19_, HS20_, HS21_, HS22_, HS23_, HS24_, HS25_, HS26_, HS27_, HS28_, HS29_, HS30_, HS31_, HS32_, HS33_, HS34_, HS35_, HS36_, HS37_, HS38_, HS39_, HS40_, HS41_, HS42_, HS43_, HS44_⟩ (fun hHeld => ?_)
  clear hK K
  refine norm_ (a' := ?_) ?_ ?_
  rotate_left
  · show Act.put _ (some 16) _ = _
    simp only [Act.put, zS, zZ, zC, i64_w, i32_w]
    rfl
  refine pure_ (i := 2) (N := some 17) (v := ?_) (a' := ?_) #[T_, T_, T_, F_, F_, F_, F_, F_, F_, F_, F_, F_, F_, F_, F_, F_, F_, F_, F_, F_, F_, F_, F_, F_, F_, F_, F_, F_, F_, F_, F_, F_, F_, F_, F_, F_, F_, F_, F_, F_, F_, F_] rfl rfl (any_of HT_.out (by kernel_rfl)) (fun _ _ _ h => h) (Or.inl ⟨by rfl, ?_⟩) ?_ ?_
  rotate_left
  · intro w'
    go_simp
    with_reducible rfl
  rotate_left
  · simp only [Act.put, zS, zZ, zC, i64_w, i32_w]
    rfl
  refine pure_ (i := 3) (N := some 18) (v := ?_) (a' := ?_) #[T_, T_, T_, T_, F_, F_, F_, F_, F_, F_, F_, F_, F_, F_, F_, F_, F_, F_, F_, F_, F_, F_, F_, F_, F_, F_, F_, F_, F_, F_, F_, F_, F_, F_, F_, F_, F_, F_, F_, F_, F_, F_] rfl rfl (any_of HT_.out (by kernel_rfl)) (fun _ _ _ h => h) (Or.inl ⟨by rfl, ?_⟩) ?_ ?_
  rotate_left
  · intro w'
    go_simp
    with_reducible rfl
  rotate_left
  · simp only [Act.put, zS, zZ, zC, i64_w, i32_w]
    rfl
  refine one_ (i := 4) (N := some 19) #[T_, T_, T_, T_, T_, F_, F_, F_, F_, F_, F_, F_, F_, F_, F_, F_, F_, F_, F_, F_, F_, F_, F_, F_, F_, F_, F_, F_, F_, F_, F_, F_, F_, F_, F_, F_, F_, F_, F_, F_, F_, F_] rfl rfl (one_of HT_.out (by kernel_rfl)) (by decide) (fun K hK => ?_)
  refine goes_ Try.func13 (by kernel_rfl) rfl #[.slice (some ad320) y262.length co71, .int .i64 1] (by rfl) rfl rfl (by (try simp only [List.map_toArray, List.map_cons, List.map_nil]); first | done | rfl | (simp only [List.length_drop, List.length_take]; rfl)) ?_
  with_reducible refine (past_Source.calls k _ _ y262 1 t317 _ ?side1 ?side2 A8.out).mono ?_
  (case side1 => repeat (first | exact (Kd.R_reads' HO264.out).2.2 | (with_reducible refine Kd.C_alloc ?_ _) | (with_reducible refine Kd.C_drewN ?_ _) | (with_reducible refine Kd.C_drew ?_)))
  (case side2 => exact (Kd.R_reads' HO264.out).2.1)
  rintro e w73 ⟨rfl, hb⟩
  have HS0_ := (hb.cell (World.block_lt_of_cell? _ _ (hHeld.1))).trans (hHeld.1)
  have HS1_ := (hb.cell (World.block_lt_of_cell? _ _ (hHeld.2.1))).trans (hHeld.2.1)
  have HS2_ := (hb.cell (World.block_lt_of_cell? _ _ (hHeld.2.2.1))).trans (hHeld.2.2.1)
  have HS3_ := (hb.cell (World.block_lt_of_cell? _ _ (hHeld.2.2.2.1))).trans (hHeld.2.2.2.1)
  have HS4_ := (hb.cell (World.block_lt_of_cell? _ _ (hHeld.2.2.2.2.1))).trans (hHeld.2.2.2.2.1)
  have HS5_ := (hb.cell (World.block_lt_of_cell? _ _ (hHeld.2.2.2.2.2.1))).trans (hHeld.2.2.2.2.2.1)
  have HS6_ := (hb.cell (World.block_lt_of_cell? _ _ (hHeld.2.2.2.2.2.2.1))).trans (hHeld.2.2.2.2.2.2.1)
  have HS7_ := (hb.cell (World.block_lt_of_cell? _ _ (hHeld.2.2.2.2.2.2.2.1))).trans (hHeld.2.2.2.2.2.2.2.1)
  have HS8_ := (hb.cell (World.block_lt_of_cell? _ _ (hHeld.2.2.2.2.2.2.2.2.1))).trans (hHeld.2.2.2.2.2.2.2.2.1)
  have HS9_ := (hb.cell (World.block_lt_of_cell? _ _ (hHeld.2.2.2.2.2.2.2.2.2.1))).trans (hHeld.2.2.2.2.2.2.2.2.2.1)
  have HS10_ := (hb.cell (World.block_lt_of_cell? _ _ (hHeld.2.2.2.2.2.2.2.2.2.2.1))).trans (hHeld.2.2.2.2.2.2.2.2.2.2.1)
  have HS11_ := (hb.cell (World.block_lt_of_cell? _ _ (hHeld.2.2.2.2.2.2.2.2.2.2.2.1))).trans (hHeld.2.2.2.2.2.2.2.2.2.2.2.1)
  have HS12_ := (hb.cell (World.block_lt_of_cell? _ _ (hHeld.2.2.2.2.2.2.2.2.2.2.2.2.1))).trans (hHeld.2.2.2.2.2.2.2.2.2.2.2.2.1)
  have HS13_ := (hb.cell (World.block_lt_of_cell? _ _ (hHeld.2.2.2.2.2.2.2.2.2.2.2.2.2.1))).trans (hHeld.2.2.2.2.2.2.2.2.2.2.2.2.2.1)
  have HS14_ := (hb.cell (World.block_lt_of_cell? _ _ (hHeld.2.2.2.2.2.2.2.2.2.2.2.2.2.2.1))).trans (hHeld.2.2.2.2.2.2.2.2.2.2.2.2.2.2.1)
  have HS15_ := (hb.cell (World.block_lt_of_cell? _ _ (hHeld.2.2.2.2.2.2.2.2.2.2.2.2.2.2.2.1))).trans (hHeld.2.2.2.2.2.2.2.2.2.2.2.2.2.2.2.1)
  have HS16_ := (hb.cell (World.block_lt_of_cell? _ _ (hHeld.2.2.2.2.2.2.2.2.2.2.2.2.2.2.2.2.1))).trans (hHeld.2.2.2.2.2.2.2.2.2.2.2.2.2.2.2.2.1)
  have HS17_ := (hb.cell (World.block_lt_of_cell? _ _ (hHeld.2.2.2.2.2.2.2.2.2.2.2.2.2.2.2.2.2.1))).trans (hHeld.2.2.2.2.2.2.2.2.2.2.2.2.2.2.2.2.2.1)
  have HS18_ := (hb.cell (World.block_lt_of_cell? _ _ (hHeld.2.2.2.2.2.2.2.2.2.2.2.2.2.2.2.2.2.2.1))).trans (hHeld.2.2.2.2.2.2.2.2.2.2.2.2.2.2.2.2.2.2.1)
  have HS19_ := (hb.cell (World.block_lt_of_cell? _ _ (hHeld.2.2.2.2.2.2.2.2.2.2.2.2.2.2.2.2.2.2.2.1))).trans (hHeld.2.2.2.2.2.2.2.2.2.2.2.2.2.2.2.2.2.2.2.1)
  have HS20_ := (hb.cell (World.block_lt_of_cell? _ _ (hHeld.2.2.2.2.2.2.2.2.2.2.2.2.2.2.2.2.2.2.2.2.1))).trans (hHeld.2.2.2.2.2.2.2.2.2.2.2.2.2.2.2.2.2.2.2.2.1)
  have HS21_ := (hb.cell (World.block_lt_of_cell? _ _ (hHeld.2.2.2.2.2.2.2.2.2.2.2.2.2.2.2.2.2.2.2.2.2.1))).trans (hHeld.2.2.2.2.2.2.2.2.2.2.2.2.2.2.2.2.2.2.2.2.2.1)
  have HS22_ := (hb.cell (World.block_lt_of_cell? _ _ (hHeld.2.2.2.2.2.2.2.2.2.2.2.2.2.2.2.2.2.2.2.2.2.2.1))).trans (hHeld.2.2.2.2.2.2.2.2.2.2.2.2.2.2.2.2.2.2.2.2.2.2.1)
  have HS23_ := (hb.cell (World.block_lt_of_cell? _ _ (hHeld.2.2.2.2.2.2.2.2.2.2.2.2.2.2.2.2.2.2.2.2.2.2.2.1))).trans (hHeld.2.2.2.2.2.2.2.2.2.2.2.2.2.2.2.2.2.2.2.2.2.2.2.1)
  have HS24_ := (hb.cell (World.block_lt_of_cell? _ _ (hHeld.2.2.2.2.2.2.2.2.2.2.2.2.2.2.2.2.2.2.2.2.2.2.2.2.1))).trans (hHeld.2.2.2.2.2.2.2.2.2.2.2.2.2.2.2.2.2.2.2.2.2.2.2.2.1)
  have HS25_ := (hb.cell (World.block_lt_of_cell? _ _ (hHeld.2.2.2.2.2.2.2.2.2.2.2.2.2.2.2.2.2.2.2.2.2.2.2.2.2.1))).trans (hHeld.2.2.2.2.2.2.2.2.2.2.2.2.2.2.2.2.2.2.2.2.2.2.2.2.2.1)
  have HS26_ := (hb.cell (World.block_lt_of_cell? _ _ (hHeld.2.2.2.2.2.2.2.2.2.2.2.2.2.2.2.2.2.2.2.2.2.2.2.2.2.2.1))).trans (hHeld.2.2.2.2.2.2.2.2.2.2.2.2.2.2.2.2.2.2.2.2.2.2.2.2.2.2.1)
  have HS27_ := (hb.cell (World.block_lt_of_cell? _ _ (hHeld.2.2.2.2.2.2.2.2.2.2.2.2.2.2.2.2.2.2.2.2.2.2.2.2.2.2.2.1))).trans (hHeld.2.2.2.2.2.2.2.2.2.2.2.2.2.2.2.2.2.2.2.2.2.2.2.2.2.2.2.1)
  have HS28_ := (hb.cell (World.block_lt_of_cell? _ _ (hHeld.2.2.2.2.2.2.2.2.2.2.2.2.2.2.2.2.2.2.2.2.2.2.2.2.2.2.2.2.1))).trans (hHeld.2.2.2.2.2.2.2.2.2.2.2.2.2.2.2.2.2.2.2.2.2.2.2.2.2.2.2.2.1)
  have HS29_ := (hb.cell (World.block_lt_of_cell? _ _ (hHeld.2.2.2.2.2.2.2.2.2.2.2.2.2.2.2.2.2.2.2.2.2.2.2.2.2.2.2.2.2.1))).trans (hHeld.2.2.2.2.2.2.2.2.2.2.2.2.2.2.2.2.2.2.2.2.2.2.2.2.2.2.2.2.2.1)
  have HS30_ := (hb.cell (World.block_lt_of_cell? _ _ (hHeld.2.2.2.2.2.2.2.2.2.2.2.2.2.2.2.2.2.2.2.2.2.2.2.2.2.2.2.2.2.2.1))).trans (hHeld.2.2.2.2.2.2.2.2.2.2.2.2.2.2.2.2.2.2.2.2.2.2.2.2.2.2.2.2.2.2.1)
  have HS31_ := (hb.cell (World.block_lt_of_cell? _ _ (hHeld.2.2.2.2.2.2.2.2.2.2.2.2.2.2.2.2.2.2.2.2.2.2.2.2.2.2.2.2.2.2.2.1))).trans (hHeld.2.2.2.2.2.2.2.2.2.2.2.2.2.2.2.2.2.2.2.2.2.2.2.2.2.2.2.2.2.2.2.1)
  have HS32_ := (hb.cell (World.block_lt_of_cell? _ _ (hHeld.2.2.2.2.2.2.2.2.2.2.2.2.2.2.2.2.2.2.2.2.2.2.2.2.2.2.2.2.2.2.2.2.1))).trans (hHeld.2.2.2.2.2.2.2.2.2.2.2.2.2.2.2.2.2.2.2.2.2.2.2.2.2.2.2.2.2.2.2.2.1)
  have HS33_ := (hb.cell (World.block_lt_of_cell? _ _ (hHeld.2.2.2.2.2.2.2.2.2.2.2.2.2.2.2.2.2.2.2.2.2.2.2.2.2.2.2.2.2.2.2.2.2.1))).trans (hHeld.2.2.2.2.2.2.2.2.2.2.2.2.2.2.2.2.2.2.2.2.2.2.2.2.2.2.2.2.2.2.2.2.2.1)
  have HS34_ := (hb.cell (World.block_lt_of_cell? _ _ (hHeld.2.2.2.2.2.2.2.2.2.2.2.2.2.2.2.2.2.2.2.2.2.2.2.2.2.2.2.2.2.2.2.2.2.2.1))).trans (hHeld.2.2.2.2.2.2.2.2.2.2.2.2.2.2.2.2.2.2.2.2.2.2.2.2.2.2.2.2.2.2.2.2.2.2.1)
  have HS35_ := (hb.cell (World.block_lt_of_cell? _ _ (hHeld.2.2.2.2.2.2.2.2.2.2.2.2.2.2.2.2.2.2.2.2.2.2.2.2.2.2.2.2.2.2.2.2.2.2.2.1))).trans (hHeld.2.2.2.2.2.2.2.2.2.2.2.2.2.2.2.2.2.2.2.2.2.2.2.2.2.2.2.2.2.2.2.2.2.2.2.1)
  have HS36_ := (hb.cell (World.block_lt_of_cell? _ _ (hHeld.2.2.2.2.2.2.2.2.2.2.2.2.2.2.2.2.2.2.2.2.2.2.2.2.2.2.2.2.2.2.2.2.2.2.2.2.1))).trans (hHeld.2.2.2.2.2.2.2.2.2.2.2.2.2.2.2.2.2.2.2.2.2.2.2.2.2.2.2.2.2.2.2.2.2.2.2.2.1)
  have HS37_ := (hb.cell (World.block_lt_of_cell? _ _ (hHeld.2.2.2.2.2.2.2.2.2.2.2.2.2.2.2.2.2.2.2.2.2.2.2.2.2.2.2.2.2.2.2.2.2.2.2.2.2.1))).trans (hHeld.2.2.2.2.2.2.2.2.2.2.2.2.2.2.2.2.2.2.2.2.2.2.2.2.2.2.2.2.2.2.2.2.2.2.2.2.2.1)
  have HS38_ := (hb.cell (World.block_lt_of_cell? _ _ (hHeld.2.2.2.2.2.2.2.2.2.2.2.2.2.2.2.2.2.2.2.2.2.2.2.2.2.2.2.2.2.2.2.2.2.2.2.2.2.2.1))).trans (hHeld.2.2.2.2.2.2.2.2.2.2.2.2.2.2.2.2.2.2.2.2.2.2.2.2.2.2.2.2.2.2.2.2.2.2.2.2.2.2.1)
  have HS39_ := (hb.cell (World.block_lt_of_cell? _ _ (hHeld.2.2.2.2.2.2.2.2.2.2.2.2.2.2.2.2.2.2.2.2.2.2.2.2.2.2.2.2.2.2.2.2.2.2.2.2.2.2.2.1))).trans (hHeld.2.2.2.2.2.2.2.2.2.2.2.2.2.2.2.2.2.2.2.2.2.2.2.2.2.2.2.2.2.2.2.2.2.2.2.2.2.2.2.1)
  have HS40_ := (hb.cell (World.block_lt_of_cell? _ _ (hHeld.2.2.2.2.2.2.2.2.2.2.2.2.2.2.2.2.2.2.2.2.2.2.2.2.2.2.2.2.2.2.2.2.2.2.2.2.2.2.2.2.1))).trans (hHeld.2.2.2.2.2.2.2.2.2.2.2.2.2.2.2.2.2.2.2.2.2.2.2.2.2.2.2.2.2.2.2.2.2.2.2.2.2.2.2.2.1)
  have HS41_ := (hb.cell (World.block_lt_of_cell? _ _ (hHeld.2.2.2.2.2.2.2.2.2.2.2.2.2.2.2.2.2.2.2.2.2.2.2.2.2.2.2.2.2.2.2.2.2.2.2.2.2.2.2.2.2.1))).trans (hHeld.2.2.2.2.2.2.2.2.2.2.2.2.2.2.2.2.2.2.2.2.2.2.2.2.2.2.2.2.2.2.2.2.2.2.2.2.2.2.2.2.2.1)
  have HS42_ := (hb.cell (World.block_lt_of_cell? _ _ (hHeld.2.2.2.2.2.2.2.2.2.2.2.2.2.2.2.2.2.2.2.2.2.2.2.2.2.2.2.2.2.2.2.2.2.2.2.2.2.2.2.2.2.2.1))).trans (hHeld.2.2.2.2.2.2.2.2.2.2.2.2.2.2.2.2.2.2.2.2.2.2.2.2.2.2.2.2.2.2.2.2.2.2.2.2.2.2.2.2.2.2.1)
  have HS43_ := (hb.cell (World.block_lt_of_cell? _ _ (hHeld.2.2.2.2.2.2.2.2.2.2.2.2.2.2.2.2.2.2.2.2.2.2.2.2.2.2.2.2.2.2.2.2.2.2.2.2.2.2.2.2.2.2.2.1))).trans (hHeld.2.2.2.2.2.2.2.2.2.2.2.2.2.2.2.2.2.2.2.2.2.2.2.2.2.2.2.2.2.2.2.2.2.2.2.2.2.2.2.2.2.2.2.1)
  have HS44_ := (hb.cell (World.block_lt_of_cell? _ _ (hHeld.2.2.2.2.2.2.2.2.2.2.2.2.2.2.2.2.2.2.2.2.2.2.2.2.2.2.2.2.2.2.2.2.2.2.2.2.2.2.2.2.2.2.2.2))).trans (hHeld.2.2.2.2.2.2.2.2.2.2.2.2.2.2.2.2.2.2.2.2.2.2.2.2.2.2.2.2.2.2.2.2.2.2.2.2.2.2.2.2.2.2.2.2)
  refine ⟨_, rfl, ?_⟩
  replace HO264 := zM (Kd.R_below (rl_ HO264) hb)
  replace HO282 := zM (Kd.R_below (rl_ HO282) hb)
  replace HO315 := zM (Kd.R_below (rl_ HO315) hb)
  replace HB := zM (zB bel_ hb)
  (try clear hb)
  (try clear hb2)
  (try clear hk)
  (try clear hi)
  obtain ⟨Ao74, co74, eo74⟩ := Kd.R_slice HO282.out
  (first | subst eo74 | (injection eo74 with f1_ f2_ f3_; have f4_ := f1_.symm; have f5_ := f3_.symm; clear f1_ f2_ f3_; subst f4_; subst f5_))
  refine hK.out _ _ ⟨HS0_, HS1_, HS2_, HS3_, HS4_, HS5_, HS6_, HS7_, HS8_, HS9_, HS10_, HS11_, HS12_, HS13_, HS14_, HS15_, HS16_, HS17_, HS18_, HS19_, HS20_, HS21_, HS22_, HS23_, HS24_, HS25_, HS26_, HS27_, HS28_, HS29_, HS30_, HS31_, HS32_, HS33_, HS34_, HS35_, HS36_, HS37_, HS38_, HS39_, HS40_, HS41_, HS42_, HS43_, HS44_⟩ (fun hHeld => ?_)
  clear hK K
  refine norm_ (a' := ?_) ?_ ?_
  rotate_left
  · show Act.put _ (some 19) _ = _
    simp only [Act.put, zS, zZ, zC, i64_w, i32_w]
    rfl
  refine pure_ (i := 5) (N := some 20) (v := ?_) (a' := ?_) #[T_, T_, T_, T_, T_, T_, F_, F_, F_, F_, F_, F_, F_, F_, F_, F_, F_, F_, F_, F_, F_, F_, F_, F_, F_, F_, F_, F_, F_, F_, F_, F_, F_, F_, F_, F_, F_, F_, F_, F_, F_, F_] rfl rfl (any_of HT_.out (by kernel_rfl)) (fun _ _ _ h => h) (Or.inl ⟨by rfl, ?_⟩) ?_ ?_
  rotate_left
  · intro w'
    go_simp
    with_reducible rfl
  rotate_left
  · simp only [Act.put, zS, zZ, zC, i64_w, i32_w]
    rfl
  refine pure_ (i := 6) (N := some 21) (v := ?_) (a' := ?_) #[T_, T_, T_, T_, T_, T_, T_, F_, F_, F_, F_, F_, F_, F_, F_, F_, F_, F_, F_, F_, F_, F_, F_, F_, F_, F_, F_, F_, F_, F_, F_, F_, F_, F_, F_, F_, F_, F_, F_, F_, F_, F_] rfl rfl (any_of HT_.out (by kernel_rfl)) (fun _ _ _ h => h) (Or.inl ⟨by rfl, ?_⟩) ?_ ?_
  rotate_left
  · intro w'
    go_simp
    with_reducible rfl
  rotate_left
  · simp only [Act.put, zS, zZ, zC, i64_w, i32_w]
    rfl
  refine pure_ (i := 7) (N := some 22) (v := ?_) (a' := ?_) #[T_, T_, T_, T_, T_, T_, T_, T_, F_, F_, F_, F_, F_, F_, F_, F_, F_, F_, F_, F_, F_, F_, F_, F_, F_, F_, F_, F_, F_, F_, F_, F_, F_, F_, F_, F_, F_, F_, F_, F_, F_, F_] rfl rfl (any_of HT_.out (by kernel_rfl)) (fun _ _ _ h => h) (Or.inl ⟨by rfl, ?_⟩) ?_ ?_
  rotate_left
  · intro w'
    go_simp
    with_reducible rfl
  rotate_left
  · simp only [Act.put, zS, zZ, zC, i64_w, i32_w]
    rfl
  refine pure_ (i := 8) (N := some 23) (v := ?_) (a' := ?_) #[T_, T_, T_, T_, T_, T_, T_, T_, T_, F_, F_, F_, F_, F_, F_, F_, F_, F_, F_, F_, F_, F_, F_, F_, F_, F_, F_, F_, F_, F_, F_, F_, F_, F_, F_, F_, F_, F_, F_, F_, F_, F_] rfl rfl (any_of HT_.out (by kernel_rfl)) (fun _ _ _ h => h) (Or.inl ⟨by rfl, ?_⟩) ?_ ?_
  rotate_left
  · intro w'
    go_simp
    with_reducible rfl
  rotate_left
  · simp only [Act.put, zS, zZ, zC, i64_w, i32_w]
    rfl
  refine one_ (i := 9) (N := some 24) #[T_, T_, T_, T_, T_, T_, T_, T_, T_, T_, F_, F_, F_, F_, F_, F_, F_, F_, F_, F_, F_, F_, F_, F_, F_, F_, F_, F_, F_, F_, F_, F_, F_, F_, F_, F_, F_, F_, F_, F_, F_, F_] rfl rfl (one_of HT_.out (by kernel_rfl)) (by decide) (fun K hK => ?_)
  refine goes_ Try.func8 (by kernel_rfl) rfl #[.slice Ao74 y280.length co74] (by rfl) rfl rfl (by (try simp only [List.map_toArray, List.map_cons, List.map_nil]); first | done | rfl | (simp only [List.length_drop, List.length_take]; rfl)) ?_
  with_reducible refine (past_Fits.calls k _ _ y280 false _ ?side1 ?side2 A10.out).mono ?_
  (case side1 => repeat (first | exact (Kd.R_reads' HO282.out).2.2 | (with_reducible refine Kd.C_alloc ?_ _) | (with_reducible refine Kd.C_drewN ?_ _) | (with_reducible refine Kd.C_drew ?_)))
  (case side2 => exact (Kd.R_reads' HO282.out).2.1)
  rintro e w75 ⟨rfl, hb⟩
  have HS0_ := (hb.cell (World.block_lt_of_cell? _ _ (hHeld.1))).trans (hHeld.1)
  have HS1_ := (hb.cell (World.block_lt_of_cell? _ _ (hHeld.2.1))).trans (hHeld.2.1)
  have HS2_ := (hb.cell (World.block_lt_of_cell? _ _ (hHeld.2.2.1))).trans (hHeld.2.2.1)
  have HS3_ := (hb.cell (World.block_lt_of_cell? _ _ (hHeld.2.2.2.1))).trans (hHeld.2.2.2.1)
  have HS4_ := (hb.cell (World.block_lt_of_cell? _ _ (hHeld.2.2.2.2.1))).trans (hHeld.2.2.2.2.1)
  have HS5_ := (hb.cell (World.block_lt_of_cell? _ _ (hHeld.2.2.2.2.2.1))).trans (hHeld.2.2.2.2.2.1)
  have HS6_ := (hb.cell (World.block_lt_of_cell? _ _ (hHeld.2.2.2.2.2.2.1))).trans (hHeld.2.2.2.2.2.2.1)
  have HS7_ := (hb.cell (World.block_lt_of_cell? _ _ (hHeld.2.2.2.2.2.2.2.1))).trans (hHeld.2.2.2.2.2.2.2.1)
  have HS8_ := (hb.cell (World.block_lt_of_cell? _ _ (hHeld.2.2.2.2.2.2.2.2.1))).trans (hHeld.2.2.2.2.2.2.2.2.1)
  have HS9_ := (hb.cell (World.block_lt_of_cell? _ _ (hHeld.2.2.2.2.2.2.2.2.2.1))).trans (hHeld.2.2.2.2.2.2.2.2.2.1)
  have HS10_ := (hb.cell (World.block_lt_of_cell? _ _ (hHeld.2.2.2.2.2.2.2.2.2.2.1))).trans (hHeld.2.2.2.2.2.2.2.2.2.2.1)
  have HS11_ := (hb.cell (World.block_lt_of_cell? _ _ (hHeld.2.2.2.2.2.2.2.2.2.2.2.1))).trans (hHeld.2.2.2.2.2.2.2.2.2.2.2.1)
  have HS12_ := (hb.cell (World.block_lt_of_cell? _ _ (hHeld.2.2.2.2.2.2.2.2.2.2.2.2.1))).trans (hHeld.2.2.2.2.2.2.2.2.2.2.2.2.1)
  have HS13_ := (hb.cell (World.block_lt_of_cell? _ _ (hHeld.2.2.2.2.2.2.2.2.2.2.2.2.2.1))).trans (hHeld.2.2.2.2.2.2.2.2.2.2.2.2.2.1)
  have HS14_ := (hb.cell (World.block_lt_of_cell? _ _ (hHeld.2.2.2.2.2.2.2.2.2.2.2.2.2.2.1))).trans (hHeld.2.2.2.2.2.2.2.2.2.2.2.2.2.2.1)
  have HS15_ := (hb.cell (World.block_lt_of_cell? _ _ (hHeld.2.2.2.2.2.2.2.2.2.2.2.2.2.2.2.1))).trans (hHeld.2.2.2.2.2.2.2.2.2.2.2.2.2.2.2.1)
  have HS16_ := (hb.cell (World.block_lt_of_cell? _ _ (hHeld.2.2.2.2.2.2.2.2.2.2.2.2.2.2.2.2.1))).trans (hHeld.2.2.2.2.2.2.2.2.2.2.2.2.2.2.2.2.1)
  have HS17_ := (hb.cell (World.block_lt_of_cell? _ _ (hHeld.2.2.2.2.2.2.2.2.2.2.2.2.2.2.2.2.2.1))).trans (hHeld.2.2.2.2.2.2.2.2.2.2.2.2.2.2.2.2.2.1)
  have HS18_ := (hb.cell (World.block_lt_of_cell? _ _ (hHeld.2.2.2.2.2.2.2.2.2.2.2.2.2.2.2.2.2.2.1))).trans (hHeld.2.2.2.2.2.2.2.2.2.2.2.2.2.2.2.2.2.2.1)
  have HS19_ := (hb.cell (World.block_lt_of_cell? _ _ (hHeld.2.2.2.2.2.2.2.2.2.2.2.2.2.2.2.2.2.2.2.1))).trans (hHeld.2.2.2.2.2.2.2.2.2.2.2.2.2.2.2.2.2.2.2.1)
  have HS20_ := (hb.cell (World.block_lt_of_cell? _ _ (hHeld.2.2.2.2.2.2.2.2.2.2.2.2.2.2.2.2.2.2.2.2.1))).trans (hHeld.2.2.2.2.2.2.2.2.2.2.2.2.2.2.2.2.2.2.2.2.1)
  have HS21_ := (hb.cell (World.block_lt_of_cell? _ _ (hHeld.2.2.2.2.2.2.2.2.2.2.2.2.2.2.2.2.2.2.2.2.2.1))).trans (hHeld.2.2.2.2.2.2.2.2.2.2.2.2.2.2.2.2.2.2.2.2.2.1)
  have HS22_ := (hb.cell (World.block_lt_of_cell? _ _ (hHeld.2.2.2.2.2.2.2.2.2.2.2.2.2.2.2.2.2.2.2.2.2.2.1))).trans (hHeld.2.2.2.2.2.2.2.2.2.2.2.2.2.2.2.2.2.2.2.2.2.2.1)
  have HS23_ := (hb.cell (World.block_lt_of_cell? _ _ (hHeld.2.2.2.2.2.2.2.2.2.2.2.2.2.2.2.2.2.2.2.2.2.2.2.1))).trans (hHeld.2.2.2.2.2.2.2.2.2.2.2.2.2.2.2.2.2.2.2.2.2.2.2.1)
  have HS24_ := (hb.cell (World.block_lt_of_cell? _ _ (hHeld.2.2.2.2.2.2.2.2.2.2.2.2.2.2.2.2.2.2.2.2.2.2.2.2.1))).trans (hHeld.2.2.2.2.2.2.2.2.2.2.2.2.2.2.2.2.2.2.2.2.2.2.2.2.1)
  have HS25_ := (hb.cell (World.block_lt_of_cell? _ _ (hHeld.2.2.2.2.2.2.2.2.2.2.2.2.2.2.2.2.2.2.2.2.2.2.2.2.2.1))).trans (hHeld.2.2.2.2.2.2.2.2.2.2.2.2.2.2.2.2.2.2.2.2.2.2.2.2.2.1)
  have HS26_ := (hb.cell (World.block_lt_of_cell? _ _ (hHeld.2.2.2.2.2.2.2.2.2.2.2.2.2.2.2.2.2.2.2.2.2.2.2.2.2.2.1))).trans (hHeld.2.2.2.2.2.2.2.2.2.2.2.2.2.2.2.2.2.2.2.2.2.2.2.2.2.2.1)
  have HS27_ := (hb.cell (World.block_lt_of_cell? _ _ (hHeld.2.2.2.2.2.2.2.2.2.2.2.2.2.2.2.2.2.2.2.2.2.2.2.2.2.2.2.1))).trans (hHeld.2.2.2.2.2.2.2.2.2.2.2.2.2.2.2.2.2.2.2.2.2.2.2.2.2.2.2.1)
  have HS28_ := (hb.cell (World.block_lt_of_cell? _ _ (hHeld.2.2.2.2.2.2.2.2.2.2.2.2.2.2.2.2.2.2.2.2.2.2.2.2.2.2.2.2.1))).trans (hHeld.2.2.2.2.2.2.2.2.2.2.2.2.2.2.2.2.2.2.2.2.2.2.2.2.2.2.2.2.1)
  have HS29_ := (hb.cell (World.block_lt_of_cell? _ _ (hHeld.2.2.2.2.2.2.2.2.2.2.2.2.2.2.2.2.2.2.2.2.2.2.2.2.2.2.2.2.2.1))).trans (hHeld.2.2.2.2.2.2.2.2.2.2.2.2.2.2.2.2.2.2.2.2.2.2.2.2.2.2.2.2.2.1)
  have HS30_ := (hb.cell (World.block_lt_of_cell? _ _ (hHeld.2.2.2.2.2.2.2.2.2.2.2.2.2.2.2.2.2.2.2.2.2.2.2.2.2.2.2.2.2.2.1))).trans (hHeld.2.2.2.2.2.2.2.2.2.2.2.2.2.2.2.2.2.2.2.2.2.2.2.2.2.2.2.2.2.2.1)
  have HS31_ := (hb.cell (World.block_lt_of_cell? _ _ (hHeld.2.2.2.2.2.2.2.2.2.2.2.2.2.2.2.2.2.2.2.2.2.2.2.2.2.2.2.2.2.2.2.1))).trans (hHeld.2.2.2.2.2.2.2.2.2.2.2.2.2.2.2.2.2.2.2.2.2.2.2.2.2.2.2.2.2.2.2.1)
  have HS32_ := (hb.cell (World.block_lt_of_cell? _ _ (hHeld.2.2.2.2.2.2.2.2.2.2.2.2.2.2.2.2.2.2.2.2.2.2.2.2.2.2.2.2.2.2.2.2.1))).trans (hHeld.2.2.2.2.2.2.2.2.2.2.2.2.2.2.2.2.2.2.2.2.2.2.2.2.2.2.2.2.2.2.2.2.1)
  have HS33_ := (hb.cell (World.block_lt_of_cell? _ _ (hHeld.2.2.2.2.2.2.2.2.2.2.2.2.2.2.2.2.2.2.2.2.2.2.2.2.2.2.2.2.2.2.2.2.2.1))).trans (hHeld.2.2.2.2.2.2.2.2.2.2.2.2.2.2.2.2.2.2.2.2.2.2.2.2.2.2.2.2.2.2.2.2.2.1)
  have HS34_ := (hb.cell (World.block_lt_of_cell? _ _ (hHeld.2.2.2.2.2.2.2.2.2.2.2.2.2.2.2.2.2.2.2.2.2.2.2.2.2.2.2.2.2.2.2.2.2.2.1))).trans (hHeld.2.2.2.2.2.2.2.2.2.2.2.2.2.2.2.2.2.2.2.2.2.2.2.2.2.2.2.2.2.2.2.2.2.2.1)
  have HS35_ := (hb.cell (World.block_lt_of_cell? _ _ (hHeld.2.2.2.2.2.2.2.2.2.2.2.2.2.2.2.2.2.2.2.2.2.2.2.2.2.2.2.2.2.2.2.2.2.2.2.1))).trans (hHeld.2.2.2.2.2.2.2.2.2.2.2.2.2.2.2.2.2.2.2.2.2.2.2.2.2.2.2.2.2.2.2.2.2.2.2.1)
  have HS36_ := (hb.cell (World.block_lt_of_cell? _ _ (hHeld.2.2.2.2.2.2.2.2.2.2.2.2.2.2.2.2.2.2.2.2.2.2.2.2.2.2.2.2.2.2.2.2.2.2.2.2.1))).trans (hHeld.2.2.2.2.2.2.2.2.2.2.2.2.2.2.2.2.2.2.2.2.2.2.2.2.2.2.2.2.2.2.2.2.2.2.2.2.1)
  have HS37_ := (hb.cell (World.block_lt_of_cell? _ _ (hHeld.2.2.2.2.2.2.2.2.2.2.2.2.2.2.2.2.2.2.2.2.2.2.2.2.2.2.2.2.2.2.2.2.2.2.2.2.2.1))).trans (hHeld.2.2.2.2.2.2.2.2.2.2.2.2.2.2.2.2.2.2.2.2.2.2.2.2.2.2.2.2.2.2.2.2.2.2.2.2.2.1)
  have HS38_ := (hb.cell (World.block_lt_of_cell? _ _ (hHeld.2.2.2.2.2.2.2.2.2.2.2.2.2.2.2.2.2.2.2.2.2.2.2.2.2.2.2.2.2.2.2.2.2.2.2.2.2.2.1))).trans (hHeld.2.2.2.2.2.2.2.2.2.2.2.2.2.2.2.2.2.2.2.2.2.2.2.2.2.2.2.2.2.2.2.2.2.2.2.2.2.2.1)
  have HS39_ := (hb.cell (World.block_lt_of_cell? _ _ (hHeld.2.2.2.2.2.2.2.2.2.2.2.2.2.2.2.2.2.2.2.2.2.2.2.2.2.2.2.2.2.2.2.2.2.2.2.2.2.2.2.1))).trans (hHeld.2.2.2.2.2.2.2.2.2.2.2.2.2.2.2.2.2.2.2.2.2.2.2.2.2.2.2.2.2.2.2.2.2.2.2.2.2.2.2.1)
  have HS40_ := (hb.cell (World.block_lt_of_cell? _ _ (hHeld.2.2.2.2.2.2.2.2.2.2.2.2.2.2.2.2.2.2.2.2.2.2.2.2.2.2.2.2.2.2.2.2.2.2.2.2.2.2.2.2.1))).trans (hHeld.2.2.2.2.2.2.2.2.2.2.2.2.2.2.2.2.2.2.2.2.2.2.2.2.2.2.2.2.2.2.2.2.2.2.2.2.2.2.2.2.1)
  have HS41_ := (hb.cell (World.block_lt_of_cell? _ _ (hHeld.2.2.2.2.2.2.2.2.2.2.2.2.2.2.2.2.2.2.2.2.2.2.2.2.2.2.2.2.2.2.2.2.2.2.2.2.2.2.2.2.2.1))).trans (hHeld.2.2.2.2.2.2.2.2.2.2.2.2.2.2.2.2.2.2.2.2.2.2.2.2.2.2.2.2.2.2.2.2.2.2.2.2.2.2.2.2.2.1)
  have HS42_ := (hb.cell (World.block_lt_of_cell? _ _ (hHeld.2.2.2.2.2.2.2.2.2.2.2.2.2.2.2.2.2.2.2.2.2.2.2.2.2.2.2.2.2.2.2.2.2.2.2.2.2.2.2.2.2.2.1))).trans (hHeld.2.2.2.2.2.2.2.2.2.2.2.2.2.2.2.2.2.2.2.2.2.2.2.2.2.2.2.2.2.2.2.2.2.2.2.2.2.2.2.2.2.2.1)
  have HS43_ := (hb.cell (World.block_lt_of_cell? _ _ (hHeld.2.2.2.2.2.2.2.2.2.2.2.2.2.2.2.2.2.2.2.2.2.2.2.2.2.2.2.2.2.2.2.2.2.2.2.2.2.2.2.2.2.2.2.1))).trans (hHeld.2.2.2.2.2.2.2.2.2.2.2.2.2.2.2.2.2.2.2.2.2.2.2.2.2.2.2.2.2.2.2.2.2.2.2.2.2.2.2.2.2.2.2.1)
  have HS44_ := (hb.cell (World.block_lt_of_cell? _ _ (hHeld.2.2.2.2.2.2.2.2.2.2.2.2.2.2.2.2.2.2.2.2.2.2.2.2.2.2.2.2.2.2.2.2.2.2.2.2.2.2.2.2.2.2.2.2))).trans (hHeld.2.2.2.2.2.2.2.2.2.2.2.2.2.2.2.2.2.2.2.2.2.2.2.2.2.2.2.2.2.2.2.2.2.2.2.2.2.2.2.2.2.2.2.2)
  refine ⟨_, rfl, ?_⟩
  replace HO264 := zM (Kd.R_below (rl_ HO264) hb)
  replace HO282 := zM (Kd.R_below (rl_ HO282) hb)
  replace HO315 := zM (Kd.R_below (rl_ HO315) hb)
  replace HB := zM (zB bel_ hb)
  (try clear hb)
  (try clear hb2)
  (try clear hk)
  (try clear hi)
  obtain ⟨Ao76, co76, eo76⟩ := Kd.R_slice HO315.out
  (first | subst eo76 | (injection eo76 with f1_ f2_ f3_; have f4_ := f1_.symm; have f5_ := f3_.symm; clear f1_ f2_ f3_; subst f4_; subst f5_))
  refine hK.out _ _ ⟨HS0_, HS1_, HS2_, HS3_, HS4_, HS5_, HS6_, HS7_, HS8_, HS9_, HS10_, HS11_, HS12_, HS13_, HS14_, HS15_, HS16_, HS17_, HS18_, HS19_, HS20_, HS21_, HS22_, HS23_, HS24_, HS25_, HS26_, HS27_, HS28_, HS29_, HS30_, HS31_, HS32_, HS33_, HS34_, HS35_, HS36_, HS37_, HS38_, HS39_, HS40_, HS41_, HS42_, HS43_, HS44_⟩ (fun hHeld => ?_)
  clear hK K
  refine norm_ (a' := ?_) ?_ ?_
  rotate_left
  · show Act.put _ (some 24) _ = _
    simp only [Act.put, zS, zZ, zC, i64_w, i32_w]
    rfl
  refine pure_ (i := 10) (N := some 25) (v := ?_) (a' := ?_) #[T_, T_, T_, T_, T_, T_, T_, T_, T_, T_, T_, F_, F_, F_, F_, F_, F_, F_, F_, F_, F_, F_, F_, F_, F_, F_, F_, F_, F_, F_, F_, F_, F_, F_, F_, F_, F_, F_, F_, F_, F_, F_] rfl rfl (any_of HT_.out (by kernel_rfl)) (fun _ _ _ h => h) (Or.inl ⟨by rfl, ?_⟩) ?_ ?_
  rotate_left
  · intro w'
    go_simp
    with_reducible rfl
  rotate_left
  · simp only [Act.put, zS, zZ, zC, i64_w, i32_w]
    rfl
  refine pure_ (i := 11) (N := some 26) (v := ?_) (a' := ?_) #[T_, T_, T_, T_, T_, T_, T_, T_, T_, T_, T_, T_, F_, F_, F_, F_, F_, F_, F_, F_, F_, F_, F_, F_, F_, F_, F_, F_, F_, F_, F_, F_, F_, F_, F_, F_, F_, F_, F_, F_, F_, F_] rfl rfl (any_of HT_.out (by kernel_rfl)) (fun _ _ _ h => h) (Or.inl ⟨by rfl, ?_⟩) ?_ ?_
  rotate_left
  · intro w'
    go_simp
    with_reducible rfl
  rotate_left
  · simp only [Act.put, zS, zZ, zC, i64_w, i32_w]
    rfl
  refine pure_ (i := 12) (N := some 27) (v := ?_) (a' := ?_) #[T_, T_, T_, T_, T_, T_, T_, T_, T_, T_, T_, T_, T_, F_, F_, F_, F_, F_, F_, F_, F_, F_, F_, F_, F_, F_, F_, F_, F_, F_, F_, F_, F_, F_, F_, F_, F_, F_, F_, F_, F_, F_] rfl rfl (any_of HT_.out (by kernel_rfl)) (fun _ _ _ h => h) (Or.inl ⟨by rfl, ?_⟩) ?_ ?_
  rotate_left
  · intro w'
    go_simp
    with_reducible rfl
  rotate_left
  · simp only [Act.put, zS, zZ, zC, i64_w, i32_w]
    rfl
  refine pure_ (i := 13) (N := some 28) (v := ?_) (a' := ?_) #[T_, T_, T_, T_, T_, T_, T_, T_, T_, T_, T_, T_, T_, T_, F_, F_, F_, F_, F_, F_, F_, F_, F_, F_, F_, F_, F_, F_, F_, F_, F_, F_, F_, F_, F_, F_, F_, F_, F_, F_, F_, F_] rfl rfl (any_of HT_.out (by kernel_rfl)) (fun _ _ _ h => h) (Or.inl ⟨by rfl, ?_⟩) ?_ ?_
  rotate_left
  · intro w'
    go_simp
    with_reducible rfl
  rotate_left
  · simp only [Act.put, zS, zZ, zC, i64_w, i32_w]
    rfl
  refine one_ (i := 14) (N := some 29) #[T_, T_, T_, T_, T_, T_, T_, T_, T_, T_, T_, T_, T_, T_, T_, F_, F_, F_, F_, F_, F_, F_, F_, F_, F_, F_, F_, F_, F_, F_, F_, F_, F_, F_, F_, F_, F_, F_, F_, F_, F_, F_] rfl rfl (one_of HT_.out (by kernel_rfl)) (by decide) (fun K hK => ?_)
  refine goes_ Try.func8 (by kernel_rfl) rfl #[.slice Ao76 y313.length co76] (by rfl) rfl rfl (by (try simp only [List.map_toArray, List.map_cons, List.map_nil]); first | done | rfl | (simp only [List.length_drop, List.length_take]; rfl)) ?_
  with_reducible refine (past_Fits.calls k _ _ y313 false _ ?side1 ?side2 A29.out).mono ?_
  (case side1 => repeat (first | exact (Kd.R_reads' HO315.out).2.2 | (with_reducible refine Kd.C_alloc ?_ _) | (with_reducible refine Kd.C_drewN ?_ _) | (with_reducible refine Kd.C_drew ?_)))
  (case side2 => exact (Kd.R_reads' HO315.out).2.1)
  rintro e w77 ⟨rfl, hb⟩
  have HS0_ := (hb.cell (World.block_lt_of_cell? _ _ (hHeld.1))).trans (hHeld.1)
  have HS1_ := (hb.cell (World.block_lt_of_cell? _ _ (hHeld.2.1))).trans (hHeld.2.1)
  have HS2_ := (hb.cell (World.block_lt_of_cell? _ _ (hHeld.2.2.1))).trans (hHeld.2.2.1)
  have HS3_ := (hb.cell (World.block_lt_of_cell? _ _ (hHeld.2.2.2.1))).trans (hHeld.2.2.2.1)
  have HS4_ := (hb.cell (World.block_lt_of_cell? _ _ (hHeld.2.2.2.2.1))).trans (hHeld.2.2.2.2.1)
  have HS5_ := (hb.cell (World.block_lt_of_cell? _ _ (hHeld.2.2.2.2.2.1))).trans (hHeld.2.2.2.2.2.1)
  have HS6_ := (hb.cell (World.block_lt_of_cell? _ _ (hHeld.2.2.2.2.2.2.1))).trans (hHeld.2.2.2.2.2.2.1)
  have HS7_ := (hb.cell (World.block_lt_of_cell? _ _ (hHeld.2.2.2.2.2.2.2.1))).trans (hHeld.2.2.2.2.2.2.2.1)
  have HS8_ := (hb.cell (World.block_lt_of_cell? _ _ (hHeld.2.2.2.2.2.2.2.2.1))).trans (hHeld.2.2.2.2.2.2.2.2.1)
  have HS9_ := (hb.cell (World.block_lt_of_cell? _ _ (hHeld.2.2.2.2.2.2.2.2.2.1))).trans (hHeld.2.2.2.2.2.2.2.2.2.1)
  have HS10_ := (hb.cell (World.block_lt_of_cell? _ _ (hHeld.2.2.2.2.2.2.2.2.2.2.1))).trans (hHeld.2.2.2.2.2.2.2.2.2.2.1)
  have HS11_ := (hb.cell (World.block_lt_of_cell? _ _ (hHeld.2.2.2.2.2.2.2.2.2.2.2.1))).trans (hHeld.2.2.2.2.2.2.2.2.2.2.2.1)
  have HS12_ := (hb.cell (World.block_lt_of_cell? _ _ (hHeld.2.2.2.2.2.2.2.2.2.2.2.2.1))).trans (hHeld.2.2.2.2.2.2.2.2.2.2.2.2.1)
  have HS13_ := (hb.cell (World.block_lt_of_cell? _ _ (hHeld.2.2.2.2.2.2.2.2.2.2.2.2.2.1))).trans (hHeld.2.2.2.2.2.2.2.2.2.2.2.2.2.1)
  have HS14_ := (hb.cell (World.block_lt_of_cell? _ _ (hHeld.2.2.2.2.2.2.2.2.2.2.2.2.2.2.1))).trans (hHeld.2.2.2.2.2.2.2.2.2.2.2.2.2.2.1)
  have HS15_ := (hb.cell (World.block_lt_of_cell? _ _ (hHeld.2.2.2.2.2.2.2.2.2.2.2.2.2.2.2.1))).trans (hHeld.2.2.2.2.2.2.2.2.2.2.2.2.2.2.2.1)
  have HS16_ := (hb.cell (World.block_lt_of_cell? _ _ (hHeld.2.2.2.2.2.2.2.2.2.2.2.2.2.2.2.2.1))).trans (hHeld.2.2.2.2.2.2.2.2.2.2.2.2.2.2.2.2.1)
  have HS17_ := (hb.cell (World.block_lt_of_cell? _ _ (hHeld.2.2.2.2.2.2.2.2.2.2.2.2.2.2.2.2.2.1))).trans (hHeld.2.2.2.2.2.2.2.2.2.2.2.2.2.2.2.2.2.1)
  have HS18_ := (hb.cell (World.block_lt_of_cell? _ _ (hHeld.2.2.2.2.2.2.2.2.2.2.2.2.2.2.2.2.2.2.1))).trans (hHeld.2.2.2.2.2.2.2.2.2.2.2.2.2.2.2.2.2.2.1)
  have HS19_ := (hb.cell (World.block_lt_of_cell? _ _ (hHeld.2.2.2.2.2.2.2.2.2.2.2.2.2.2.2.2.2.2.2.1))).trans (hHeld.2.2.2.2.2.2.2.2.2.2.2.2.2.2.2.2.2.2.2.1)
  have HS20_ := (hb.cell (World.block_lt_of_cell? _ _ (hHeld.2.2.2.2.2.2.2.2.2.2.2.2.2.2.2.2.2.2.2.2.1))).trans (hHeld.2.2.2.2.2.2.2.2.2.2.2.2.2.2.2.2.2.2.2.2.1)
  have HS21_ := (hb.cell (World.block_lt_of_cell? _ _ (hHeld.2.2.2.2.2.2.2.2.2.2.2.2.2.2.2.2.2.2.2.2.2.1))).trans (hHeld.2.2.2.2.2.2.2.2.2.2.2.2.2.2.2.2.2.2.2.2.2.1)
  have HS22_ := (hb.cell (World.block_lt_of_cell? _ _ (hHeld.2.2.2.2.2.2.2.2.2.2.2.2.2.2.2.2.2.2.2.2.2.2.1))).trans (hHeld.2.2.2.2.2.2.2.2.2.2.2.2.2.2.2.2.2.2.2.2.2.2.1)
  have HS23_ := (hb.cell (World.block_lt_of_cell? _ _ (hHeld.2.2.2.2.2.2.2.2.2.2.2.2.2.2.2.2.2.2.2.2.2.2.2.1))).trans (hHeld.2.2.2.2.2.2.2.2.2.2.2.2.2.2.2.2.2.2.2.2.2.2.2.1)
  have HS24_ := (hb.cell (World.block_lt_of_cell? _ _ (hHeld.2.2.2.2.2.2.2.2.2.2.2.2.2.2.2.2.2.2.2.2.2.2.2.2.1))).trans (hHeld.2.2.2.2.2.2.2.2.2.2.2.2.2.2.2.2.2.2.2.2.2.2.2.2.1)
  have HS25_ := (hb.cell (World.block_lt_of_cell? _ _ (hHeld.2.2.2.2.2.2.2.2.2.2.2.2.2.2.2.2.2.2.2.2.2.2.2.2.2.1))).trans (hHeld.2.2.2.2.2.2.2.2.2.2.2.2.2.2.2.2.2.2.2.2.2.2.2.2.2.1)
  have HS26_ := (hb.cell (World.block_lt_of_cell? _ _ (hHeld.2.2.2.2.2.2.2.2.2.2.2.2.2.2.2.2.2.2.2.2.2.2.2.2.2.2.1))).trans (hHeld.2.2.2.2.2.2.2.2.2.2.2.2.2.2.2.2.2.2.2.2.2.2.2.2.2.2.1)
  have HS27_ := (hb.cell (World.block_lt_of_cell? _ _ (hHeld.2.2.2.2.2.2.2.2.2.2.2.2.2.2.2.2.2.2.2.2.2.2.2.2.2.2.2.1))).trans (hHeld.2.2.2.2.2.2.2.2.2.2.2.2.2.2.2.2.2.2.2.2.2.2.2.2.2.2.2.1)
  have HS28_ := (hb.cell (World.block_lt_of_cell? _ _ (hHeld.2.2.2.2.2.2.2.2.2.2.2.2.2.2.2.2.2.2.2.2.2.2.2.2.2.2.2.2.1))).trans (hHeld.2.2.2.2.2.2.2.2.2.2.2.2.2.2.2.2.2.2.2.2.2.2.2.2.2.2.2.2.1)
  have HS29_ := (hb.cell (World.block_lt_of_cell? _ _ (hHeld.2.2.2.2.2.2.2.2.2.2.2.2.2.2.2.2.2.2.2.2.2.2.2.2.2.2.2.2.2.1))).trans (hHeld.2.2.2.2.2.2.2.2.2.2.2.2.2.2.2.2.2.2.2.2.2.2.2.2.2.2.2.2.2.1)
  have HS30_ := (hb.cell (World.block_lt_of_cell? _ _ (hHeld.2.2.2.2.2.2.2.2.2.2.2.2.2.2.2.2.2.2.2.2.2.2.2.2.2.2.2.2.2.2.1))).trans (hHeld.2.2.2.2.2.2.2.2.2.2.2.2.2.2.2.2.2.2.2.2.2.2.2.2.2.2.2.2.2.2.1)
  have HS31_ := (hb.cell (World.block_lt_of_cell? _ _ (hHeld.2.2.2.2.2.2.2.2.2.2.2.2.2.2.2.2.2.2.2.2.2.2.2.2.2.2.2.2.2.2.2.1))).trans (hHeld.2.2.2.2.2.2.2.2.2.2.2.2.2.2.2.2.2.2.2.2.2.2.2.2.2.2.2.2.2.2.2.1)
  have HS32_ := (hb.cell (World.block_lt_of_cell? _ _ (hHeld.2.2.2.2.2.2.2.2.2.2.2.2.2.2.2.2.2.2.2.2.2.2.2.2.2.2.2.2.2.2.2.2.1))).trans (hHeld.2.2.2.2.2.2.2.2.2.2.2.2.2.2.2.2.2.2.2.2.2.2.2.2.2.2.2.2.2.2.2.2.1)
  have HS33_ := (hb.cell (World.block_lt_of_cell? _ _ (hHeld.2.2.2.2.2.2.2.2.2.2.2.2.2.2.2.2.2.2.2.2.2.2.2.2.2.2.2.2.2.2.2.2.2.1))).trans (hHeld.2.2.2.2.2.2.2.2.2.2.2.2.2.2.2.2.2.2.2.2.2.2.2.2.2.2.2.2.2.2.2.2.2.1)
  have HS34_ := (hb.cell (World.block_lt_of_cell? _ _ (hHeld.2.2.2.2.2.2.2.2.2.2.2.2.2.2.2.2.2.2.2.2.2.2.2.2.2.2.2.2.2.2.2.2.2.2.1))).trans (hHeld.2.2.2.2.2.2.2.2.2.2.2.2.2.2.2.2.2.2.2.2.2.2.2.2.2.2.2.2.2.2.2.2.2.2.1)
  have HS35_ := (hb.cell (World.block_lt_of_cell? _ _ (hHeld.2.2.2.2.2.2.2.2.2.2.2.2.2.2.2.2.2.2.2.2.2.2.2.2.2.2.2.2.2.2.2.2.2.2.2.1))).trans (hHeld.2.2.2.2.2.2.2.2.2.2.2.2.2.2.2.2.2.2.2.2.2.2.2.2.2.2.2.2.2.2.2.2.2.2.2.1)
  have HS36_ := (hb.cell (World.block_lt_of_cell? _ _ (hHeld.2.2.2.2.2.2.2.2.2.2.2.2.2.2.2.2.2.2.2.2.2.2.2.2.2.2.2.2.2.2.2.2.2.2.2.2.1))).trans (hHeld.2.2.2.2.2.2.2.2.2.2.2.2.2.2.2.2.2.2.2.2.2.2.2.2.2.2.2.2.2.2.2.2.2.2.2.2.1)
  have HS37_ := (hb.cell (World.block_lt_of_cell? _ _ (hHeld.2.2.2.2.2.2.2.2.2.2.2.2.2.2.2.2.2.2.2.2.2.2.2.2.2.2.2.2.2.2.2.2.2.2.2.2.2.1))).trans (hHeld.2.2.2.2.2.2.2.2.2.2.2.2.2.2.2.2.2.2.2.2.2.2.2.2.2.2.2.2.2.2.2.2.2.2.2.2.2.1)
  have HS38_ := (hb.cell (World.block_lt_of_cell? _ _ (hHeld.2.2.2.2.2.2.2.2.2.2.2.2.2.2.2.2.2.2.2.2.2.2.2.2.2.2.2.2.2.2.2.2.2.2.2.2.2.2.1))).trans (hHeld.2.2.2.2.2.2.2.2.2.2.2.2.2.2.2.2.2.2.2.2.2.2.2.2.2.2.2.2.2.2.2.2.2.2.2.2.2.2.1)
  have HS39_ := (hb.cell (World.block_lt_of_cell? _ _ (hHeld.2.2.2.2.2.2.2.2.2.2.2.2.2.2.2.2.2.2.2.2.2.2.2.2.2.2.2.2.2.2.2.2.2.2.2.2.2.2.2.1))).trans (hHeld.2.2.2.2.2.2.2.2.2.2.2.2.2.2.2.2.2.2.2.2.2.2.2.2.2.2.2.2.2.2.2.2.2.2.2.2.2.2.2.1)
  have HS40_ := (hb.cell (World.block_lt_of_cell? _ _ (hHeld.2.2.2.2.2.2.2.2.2.2.2.2.2.2.2.2.2.2.2.2.2.2.2.2.2.2.2.2.2.2.2.2.2.2.2.2.2.2.2.2.1))).trans (hHeld.2.2.2.2.2.2.2.2.2.2.2.2.2.2.2.2.2.2.2.2.2.2.2.2.2.2.2.2.2.2.2.2.2.2.2.2.2.2.2.2.1)
  have HS41_ := (hb.cell (World.block_lt_of_cell? _ _ (hHeld.2.2.2.2.2.2.2.2.2.2.2.2.2.2.2.2.2.2.2.2.2.2.2.2.2.2.2.2.2.2.2.2.2.2.2.2.2.2.2.2.2.1))).trans (hHeld.2.2.2.2.2.2.2.2.2.2.2.2.2.2.2.2.2.2.2.2.2.2.2.2.2.2.2.2.2.2.2.2.2.2.2.2.2.2.2.2.2.1)
  have HS42_ := (hb.cell (World.block_lt_of_cell? _ _ (hHeld.2.2.2.2.2.2.2.2.2.2.2.2.2.2.2.2.2.2.2.2.2.2.2.2.2.2.2.2.2.2.2.2.2.2.2.2.2.2.2.2.2.2.1))).trans (hHeld.2.2.2.2.2.2.2.2.2.2.2.2.2.2.2.2.2.2.2.2.2.2.2.2.2.2.2.2.2.2.2.2.2.2.2.2.2.2.2.2.2.2.1)
  have HS43_ := (hb.cell (World.block_lt_of_cell? _ _ (hHeld.2.2.2.2.2.2.2.2.2.2.2.2.2.2.2.2.2.2.2.2.2.2.2.2.2.2.2.2.2.2.2.2.2.2.2.2.2.2.2.2.2.2.2.1))).trans (hHeld.2.2.2.2.2.2.2.2.2.2.2.2.2.2.2.2.2.2.2.2.2.2.2.2.2.2.2.2.2.2.2.2.2.2.2.2.2.2.2.2.2.2.2.1)
  have HS44_ := (hb.cell (World.block_lt_of_cell? _ _ (hHeld.2.2.2.2.2.2.2.2.2.2.2.2.2.2.2.2.2.2.2.2.2.2.2.2.2.2.2.2.2.2.2.2.2.2.2.2.2.2.2.2.2.2.2.2))).trans (hHeld.2.2.2.2.2.2.2.2.2.2.2.2.2.2.2.2.2.2.2.2.2.2.2.2.2.2.2.2.2.2.2.2.2.2.2.2.2.2.2.2.2.2.2.2)
  refine ⟨_, rfl, ?_⟩
  replace HO264 := zM (Kd.R_below (rl_ HO264) hb)
  replace HO282 := zM (Kd.R_below (rl_ HO282) hb)
  replace HO315 := zM (Kd.R_below (rl_ HO315) hb)
  replace HB := zM (zB bel_ hb)
  (try clear hb)
  (try clear hb2)
  (try clear hk)
  (try clear hi)
  refine hK.out _ _ ⟨HS0_, HS1_, HS2_, HS3_, HS4_, HS5_, HS6_, HS7_, HS8_, HS9_, HS10_, HS11_, HS12_, HS13_, HS14_, HS15_, HS16_, HS17_, HS18_, HS19_, HS20_, HS21_, HS22_, HS23_, HS24_, HS25_, HS26_, HS27_, HS28_, HS29_, HS30_, HS31_, HS32_, HS33_, HS34_, HS35_, HS36_, HS37_, HS38_, HS39_, HS40_, HS41_, HS42_, HS43_, HS44_⟩ (fun hHeld => ?_)
  clear hK K
  refine norm_ (a' := ?_) ?_ ?_
  rotate_left
  · show Act.put _ (some 29) _ = _
    simp only [Act.put, zS, zZ, zC, i64_w, i32_w]
    rfl
  refine pure_ (i := 15) (N := some 30) (v := ?_) (a' := ?_) #[T_, T_, T_, T_, T_, T_, T_, T_, T_, T_, T_, T_, T_, T_, T_, T_, F_, F_, F_, F_, F_, F_, F_, F_, F_, F_, F_, F_, F_, F_, F_, F_, F_, F_, F_, F_, F_, F_, F_, F_, F_, F_] rfl rfl (any_of HT_.out (by kernel_rfl)) (fun _ _ _ h => h) (Or.inl ⟨by rfl, ?_⟩) ?_ ?_
  rotate_left
  · intro w'
    go_simp
    with_reducible rfl
  rotate_left
  · simp only [Act.put, zS, zZ, zC, i64_w, i32_w]
    rfl
  refine pure_ (i := 16) (N := some 31) (v := ?_) (a' := ?_) #[T_, T_, T_, T_, T_, T_, T_, T_, T_, T_, T_, T_, T_, T_, T_, T_, T_, F_, F_, F_, F_, F_, F_, F_, F_, F_, F_, F_, F_, F_, F_, F_, F_, F_, F_, F_, F_, F_, F_, F_, F_, F_] rfl rfl (any_of HT_.out (by kernel_rfl)) (fun _ _ _ h => h) (Or.inl ⟨by rfl, ?_⟩) ?_ ?_
  rotate_left
  · intro w'
    go_simp
    with_reducible rfl
  rotate_left
  · simp only [Act.put, zS, zZ, zC, i64_w, i32_w]
    rfl
  refine pure_ (i := 17) (N := some 32) (v := ?_) (a' := ?_) #[T_, T_, T_, T_, T_, T_, T_, T_, T_, T_, T_, T_, T_, T_, T_, T_, T_, T_, F_, F_, F_, F_, F_, F_, F_, F_, F_, F_, F_, F_, F_, F_, F_, F_, F_, F_, F_, F_, F_, F_, F_, F_] rfl rfl (any_of HT_.out (by kernel_rfl)) (fun _ _ _ h => h) (Or.inl ⟨by rfl, ?_⟩) ?_ ?_
  rotate_left
  · intro w'
    go_simp
    with_reducible rfl
  rotate_left
  · simp only [Act.put, zS, zZ, zC, i64_w, i32_w]
    rfl
  refine pure_ (i := 18) (N := some 33) (v := ?_) (a' := ?_) #[T_, T_, T_, T_, T_, T_, T_, T_, T_, T_, T_, T_, T_, T_, T_, T_, T_, T_, T_, F_, F_, F_, F_, F_, F_, F_, F_, F_, F_, F_, F_, F_, F_, F_, F_, F_, F_, F_, F_, F_, F_, F_] rfl rfl (any_of HT_.out (by kernel_rfl)) (fun _ _ _ h => h) (Or.inl ⟨by rfl, ?_⟩) ?_ ?_
  rotate_left
  · intro w'
    go_simp
    with_reducible rfl
  rotate_left
  · simp only [Act.put, zS, zZ, zC, i64_w, i32_w]
    rfl
  refine pure_ (i := 19) (N := some 34) (v := ?_) (a' := ?_) #[T_, T_, T_, T_, T_, T_, T_, T_, T_, T_, T_, T_, T_, T_, T_, T_, T_, T_, T_, T_, F_, F_, F_, F_, F_, F_, F_, F_, F_, F_, F_, F_, F_, F_, F_, F_, F_, F_, F_, F_, F_, F_] rfl rfl (any_of HT_.out (by kernel_rfl)) (fun _ _ _ h => h) (Or.inl ⟨by rfl, ?_⟩) ?_ ?_
  rotate_left
  · intro w'
    go_simp
    with_reducible rfl
  rotate_left
  · simp only [Act.put, zS, zZ, zC, i64_w, i32_w]
    rfl
  refine pure_ (i := 21) (N := some 36) (v := ?_) (a' := ?_) #[T_, T_, T_, T_, T_, T_, T_, T_, T_, T_, T_, T_, T_, T_, T_, T_, T_, T_, T_, T_, F_, T_, F_, F_, F_, F_, F_, F_, F_, F_, F_, F_, F_, F_, F_, F_, F_, F_, F_, F_, F_, F_] rfl rfl (any_of HT_.out (by kernel_rfl)) (fun _ _ _ h => h) (Or.inl ⟨by rfl, ?_⟩) ?_ ?_
  rotate_left
  · intro w'
    go_simp
    with_reducible rfl
  rotate_left
  · simp only [Act.put, zS, zZ, zC, i64_w, i32_w]
    rfl
  refine pure_ (i := 22) (N := some 37) (v := ?_) (a' := ?_) #[T_, T_, T_, T_, T_, T_, T_, T_, T_, T_, T_, T_, T_, T_, T_, T_, T_, T_, T_, T_, F_, T_, T_, F_, F_, F_, F_, F_, F_, F_, F_, F_, F_, F_, F_, F_, F_, F_, F_, F_, F_, F_] rfl rfl (any_of HT_.out (by kernel_rfl)) (fun _ _ _ h => h) (Or.inl ⟨by rfl, ?_⟩) ?_ ?_
  rotate_left
  · intro w'
    go_simp
    with_reducible rfl
  rotate_left
  · simp only [Act.put, zS, zZ, zC, i64_w, i32_w]
    rfl
  refine take_ (i := 20) (N := some 35) (v := ?_) (a' := ?_) #[T_, T_, T_, T_, T_, T_, T_, T_, T_, T_, T_, T_, T_, T_, T_, T_, T_, T_, T_, T_, T_, T_, T_, F_, F_, F_, F_, F_, F_, F_, F_, F_, F_, F_, F_, F_, F_, F_, F_, F_, F_, F_] rfl rfl (take_ofW HT_.out HW_.out (by kernel_rfl)) (fun _ _ _ h => h) (Or.inl ⟨by rfl, ?_⟩) hHeld ?_ ?_
  rotate_left
  · rintro w' ⟨s0, s1, s2, s3, s4, s5, s6, s7, s8, s9, s10, s11, s12, s13, s14, s15, s16, s17, s18, s19, s20, s21, s22, s23, s24, s25, s26, s27, s28, s29, s30, s31, s32, s33, s34, s35, s36, s37, s38, s39, s40, s41, s42, s43, s44⟩
    go_simp
    with_reducible rfl
  rotate_left
  · simp only [Act.put, zS, zZ, zC, i64_w, i32_w]
    rfl
  refine take_ (i := 23) (N := some 38) (v := ?_) (a' := ?_) #[T_, T_, T_, T_, T_, T_, T_, T_, T_, T_, T_, T_, T_, T_, T_, T_, T_, T_, T_, T_, T_, T_, T_, T_, F_, F_, F_, F_, F_, F_, F_, F_, F_, F_, F_, F_, F_, F_, F_, F_, F_, F_] rfl rfl (take_ofW HT_.out HW_.out (by kernel_rfl)) (fun _ _ _ h => h) (Or.inl ⟨by rfl, ?_⟩) hHeld ?_ ?_
  rotate_left
  · rintro w' ⟨s0, s1, s2, s3, s4, s5, s6, s7, s8, s9, s10, s11, s12, s13, s14, s15, s16, s17, s18, s19, s20, s21, s22, s23, s24, s25, s26, s27, s28, s29, s30, s31, s32, s33, s34, s35, s36, s37, s38, s39, s40, s41, s42, s43, s44⟩
    go_simp
    with_reducible rfl
  rotate_left
  · simp only [Act.put, zS, zZ, zC, i64_w, i32_w]
    rfl
  refine one_ (i := 24) (N := some 39) #[T_, T_, T_, T_, T_, T_, T_, T_, T_, T_, T_, T_, T_, T_, T_, T_, T_, T_, T_, T_, T_, T_, T_, T_, T_, F_, F_, F_, F_, F_, F_, F_, F_, F_, F_, F_, F_, F_, F_, F_, F_, F_] rfl rfl (one_of HT_.out (by kernel_rfl)) (by decide) (fun K hK => ?_)
  refine goes_ Try.func12 (by kernel_rfl) rfl #[.agg (e35_ (rd_T35 y262 0)), .agg (e35_ (rd_T35 y262 1))] (by rfl) rfl rfl (by (try simp only [List.map_toArray, List.map_cons, List.map_nil]); first | done | rfl | (simp only [List.length_drop, List.length_take]; rfl)) ?_
  with_reducible refine (past_Before.calls ((rd_T35 y262 0).f0) ((rd_T35 y262 0).f1) ((rd_T35 y262 0).f2) ((rd_T35 y262 0).f3.f0) ((rd_T35 y262 0).f3.f1) ((rd_T35 y262 0).f3.f2) ((rd_T35 y262 0).f3.f3.f0) ((rd_T35 y262 0).f3.f3.f1) ((rd_T35 y262 0).f4.f0) ((rd_T35 y262 0).f4.f1.f0) ((rd_T35 y262 0).f4.f1.f1) ((rd_T35 y262 0).f4.f2.f0) ((rd_T35 y262 0).f4.f2.f1.f0) ((rd_T35 y262 0).f4.f2.f1.f1) ((rd_T35 y262 0).f4.f2.f2) ((rd_T35 y262 1).f0) ((rd_T35 y262 1).f1) ((rd_T35 y262 1).f2) ((rd_T35 y262 1).f3.f0) ((rd_T35 y262 1).f3.f1) ((rd_T35 y262 1).f3.f2) ((rd_T35 y262 1).f3.f3.f0) ((rd_T35 y262 1).f3.f3.f1) ((rd_T35 y262 1).f4.f0) ((rd_T35 y262 1).f4.f1.f0) ((rd_T35 y262 1).f4.f1.f1) ((rd_T35 y262 1).f4.f2.f0) ((rd_T35 y262 1).f4.f2.f1.f0) ((rd_T35 y262 1).f4.f2.f1.f1) ((rd_T35 y262 1).f4.f2.f2) true _ A52.out).mono ?_
  rintro e w78 ⟨rfl, hb⟩
  have HS0_ := (hb.cell (World.block_lt_of_cell? _ _ (hHeld.1))).trans (hHeld.1)
  have HS1_ := (hb.cell (World.block_lt_of_cell? _ _ (hHeld.2.1))).trans (hHeld.2.1)
  have HS2_ := (hb.cell (World.block_lt_of_cell? _ _ (hHeld.2.2.1))).trans (hHeld.2.2.1)
  have HS3_ := (hb.cell (World.block_lt_of_cell? _ _ (hHeld.2.2.2.1))).trans (hHeld.2.2.2.1)
  have HS4_ := (hb.cell (World.block_lt_of_cell? _ _ (hHeld.2.2.2.2.1))).trans (hHeld.2.2.2.2.1)
  have HS5_ := (hb.cell (World.block_lt_of_cell? _ _ (hHeld.2.2.2.2.2.1))).trans (hHeld.2.2.2.2.2.1)
  have HS6_ := (hb.cell (World.block_lt_of_cell? _ _ (hHeld.2.2.2.2.2.2.1))).trans (hHeld.2.2.2.2.2.2.1)
  have HS7_ := (hb.cell (World.block_lt_of_cell? _ _ (hHeld.2.2.2.2.2.2.2.1))).trans (hHeld.2.2.2.2.2.2.2.1)
  have HS8_ := (hb.cell (World.block_lt_of_cell? _ _ (hHeld.2.2.2.2.2.2.2.2.1))).trans (hHeld.2.2.2.2.2.2.2.2.1)
  have HS9_ := (hb.cell (World.block_lt_of_cell? _ _ (hHeld.2.2.2.2.2.2.2.2.2.1))).trans (hHeld.2.2.2.2.2.2.2.2.2.1)
  have HS10_ := (hb.cell (World.block_lt_of_cell? _ _ (hHeld.2.2.2.2.2.2.2.2.2.2.1))).trans (hHeld.2.2.2.2.2.2.2.2.2.2.1)
  have HS11_ := (hb.cell (World.block_lt_of_cell? _ _ (hHeld.2.2.2.2.2.2.2.2.2.2.2.1))).trans (hHeld.2.2.2.2.2.2.2.2.2.2.2.1)
  have HS12_ := (hb.cell (World.block_lt_of_cell? _ _ (hHeld.2.2.2.2.2.2.2.2.2.2.2.2.1))).trans (hHeld.2.2.2.2.2.2.2.2.2.2.2.2.1)
  have HS13_ := (hb.cell (World.block_lt_of_cell? _ _ (hHeld.2.2.2.2.2.2.2.2.2.2.2.2.2.1))).trans (hHeld.2.2.2.2.2.2.2.2.2.2.2.2.2.1)
  have HS14_ := (hb.cell (World.block_lt_of_cell? _ _ (hHeld.2.2.2.2.2.2.2.2.2.2.2.2.2.2.1))).trans (hHeld.2.2.2.2.2.2.2.2.2.2.2.2.2.2.1)
  have HS15_ := (hb.cell (World.block_lt_of_cell? _ _ (hHeld.2.2.2.2.2.2.2.2.2.2.2.2.2.2.2.1))).trans (hHeld.2.2.2.2.2.2.2.2.2.2.2.2.2.2.2.1)
  have HS16_ := (hb.cell (World.block_lt_of_cell? _ _ (hHeld.2.2.2.2.2.2.2.2.2.2.2.2.2.2.2.2.1))).trans (hHeld.2.2.2.2.2.2.2.2.2.2.2.2.2.2.2.2.1)
  have HS17_ := (hb.cell (World.block_lt_of_cell? _ _ (hHeld.2.2.2.2.2.2.2.2.2.2.2.2.2.2.2.2.2.1))).trans (hHeld.2.2.2.2.2.2.2.2.2.2.2.2.2.2.2.2.2.1)
  have HS18_ := (hb.cell (World.block_lt_of_cell? _ _ (hHeld.2.2.2.2.2.2.2.2.2.2.2.2.2.2.2.2.2.2.1))).trans (hHeld.2.2.2.2.2.2.2.2.2.2.2.2.2.2.2.2.2.2.1)
  have HS19_ := (hb.cell (World.block_lt_of_cell? _ _ (hHeld.2.2.2.2.2.2.2.2.2.2.2.2.2.2.2.2.2.2.2.1))).trans (hHeld.2.2.2.2.2.2.2.2.2.2.2.2.2.2.2.2.2.2.2.1)
  have HS20_ := (hb.cell (World.block_lt_of_cell? _ _ (hHeld.2.2.2.2.2.2.2.2.2.2.2.2.2.2.2.2.2.2.2.2.1))).trans (hHeld.2.2.2.2.2.2.2.2.2.2.2.2.2.2.2.2.2.2.2.2.1)
  have HS21_ := (hb.cell (World.block_lt_of_cell? _ _ (hHeld.2.2.2.2.2.2.2.2.2.2.2.2.2.2.2.2.2.2.2.2.2.1))).trans (hHeld.2.2.2.2.2.2.2.2.2.2.2.2.2.2.2.2.2.2.2.2.2.1)
  have HS22_ := (hb.cell (World.block_lt_of_cell? _ _ (hHeld.2.2.2.2.2.2.2.2.2.2.2.2.2.2.2.2.2.2.2.2.2.2.1))).trans (hHeld.2.2.2.2.2.2.2.2.2.2.2.2.2.2.2.2.2.2.2.2.2.2.1)
  have HS23_ := (hb.cell (World.block_lt_of_cell? _ _ (hHeld.2.2.2.2.2.2.2.2.2.2.2.2.2.2.2.2.2.2.2.2.2.2.2.1))).trans (hHeld.2.2.2.2.2.2.2.2.2.2.2.2.2.2.2.2.2.2.2.2.2.2.2.1)
  have HS24_ := (hb.cell (World.block_lt_of_cell? _ _ (hHeld.2.2.2.2.2.2.2.2.2.2.2.2.2.2.2.2.2.2.2.2.2.2.2.2.1))).trans (hHeld.2.2.2.2.2.2.2.2.2.2.2.2.2.2.2.2.2.2.2.2.2.2.2.2.1)
  have HS25_ := (hb.cell (World.block_lt_of_cell? _ _ (hHeld.2.2.2.2.2.2.2.2.2.2.2.2.2.2.2.2.2.2.2.2.2.2.2.2.2.1))).trans (hHeld.2.2.2.2.2.2.2.2.2.2.2.2.2.2.2.2.2.2.2.2.2.2.2.2.2.1)
  have HS26_ := (hb.cell (World.block_lt_of_cell? _ _ (hHeld.2.2.2.2.2.2.2.2.2.2.2.2.2.2.2.2.2.2.2.2.2.2.2.2.2.2.1))).trans (hHeld.2.2.2.2.2.2.2.2.2.2.2.2.2.2.2.2.2.2.2.2.2.2.2.2.2.2.1)
  have HS27_ := (hb.cell (World.block_lt_of_cell? _ _ (hHeld.2.2.2.2.2.2.2.2.2.2.2.2.2.2.2.2.2.2.2.2.2.2.2.2.2.2.2.1))).trans (hHeld.2.2.2.2.2.2.2.2.2.2.2.2.2.2.2.2.2.2.2.2.2.2.2.2.2.2.2.1)
  have HS28_ := (hb.cell (World.block_lt_of_cell? _ _ (hHeld.2.2.2.2.2.2.2.2.2.2.2.2.2.2.2.2.2.2.2.2.2.2.2.2.2.2.2.2.1))).trans (hHeld.2.2.2.2.2.2.2.2.2.2.2.2.2.2.2.2.2.2.2.2.2.2.2.2.2.2.2.2.1)
  have HS29_ := (hb.cell (World.block_lt_of_cell? _ _ (hHeld.2.2.2.2.2.2.2.2.2.2.2.2.2.2.2.2.2.2.2.2.2.2.2.2.2.2.2.2.2.1))).trans (hHeld.2.2.2.2.2.2.2.2.2.2.2.2.2.2.2.2.2.2.2.2.2.2.2.2.2.2.2.2.2.1)
  have HS30_ := (hb.cell (World.block_lt_of_cell? _ _ (hHeld.2.2.2.2.2.2.2.2.2.2.2.2.2.2.2.2.2.2.2.2.2.2.2.2.2.2.2.2.2.2.1))).trans (hHeld.2.2.2.2.2.2.2.2.2.2.2.2.2.2.2.2.2.2.2.2.2.2.2.2.2.2.2.2.2.2.1)
  have HS31_ := (hb.cell (World.block_lt_of_cell? _ _ (hHeld.2.2.2.2.2.2.2.2.2.2.2.2.2.2.2.2.2.2.2.2.2.2.2.2.2.2.2.2.2.2.2.1))).trans (hHeld.2.2.2.2.2.2.2.2.2.2.2.2.2.2.2.2.2.2.2.2.2.2.2.2.2.2.2.2.2.2.2.1)
  have HS32_ := (hb.cell (World.block_lt_of_cell? _ _ (hHeld.2.2.2.2.2.2.2.2.2.2.2.2.2.2.2.2.2.2.2.2.2.2.2.2.2.2.2.2.2.2.2.2.1))).trans (hHeld.2.2.2.2.2.2.2.2.2.2.2.2.2.2.2.2.2.2.2.2.2.2.2.2.2.2.2.2.2.2.2.2.1)
  have HS33_ := (hb.cell (World.block_lt_of_cell? _ _ (hHeld.2.2.2.2.2.2.2.2.2.2.2.2.2.2.2.2.2.2.2.2.2.2.2.2.2.2.2.2.2.2.2.2.2.1))).trans (hHeld.2.2.2.2.2.2.2.2.2.2.2.2.2.2.2.2.2.2.2.2.2.2.2.2.2.2.2.2.2.2.2.2.2.1)
  have HS34_ := (hb.cell (World.block_lt_of_cell? _ _ (hHeld.2.2.2.2.2.2.2.2.2.2.2.2.2.2.2.2.2.2.2.2.2.2.2.2.2.2.2.2.2.2.2.2.2.2.1))).trans (hHeld.2.2.2.2.2.2.2.2.2.2.2.2.2.2.2.2.2.2.2.2.2.2.2.2.2.2.2.2.2.2.2.2.2.2.1)
  have HS35_ := (hb.cell (World.block_lt_of_cell? _ _ (hHeld.2.2.2.2.2.2.2.2.2.2.2.2.2.2.2.2.2.2.2.2.2.2.2.2.2.2.2.2.2.2.2.2.2.2.2.1))).trans (hHeld.2.2.2.2.2.2.2.2.2.2.2.2.2.2.2.2.2.2.2.2.2.2.2.2.2.2.2.2.2.2.2.2.2.2.2.1)
  have HS36_ := (hb.cell (World.block_lt_of_cell? _ _ (hHeld.2.2.2.2.2.2.2.2.2.2.2.2.2.2.2.2.2.2.2.2.2.2.2.2.2.2.2.2.2.2.2.2.2.2.2.2.1))).trans (hHeld.2.2.2.2.2.2.2.2.2.2.2.2.2.2.2.2.2.2.2.2.2.2.2.2.2.2.2.2.2.2.2.2.2.2.2.2.1)
  have HS37_ := (hb.cell (World.block_lt_of_cell? _ _ (hHeld.2.2.2.2.2.2.2.2.2.2.2.2.2.2.2.2.2.2.2.2.2.2.2.2.2.2.2.2.2.2.2.2.2.2.2.2.2.1))).trans (hHeld.2.2.2.2.2.2.2.2.2.2.2.2.2.2.2.2.2.2.2.2.2.2.2.2.2.2.2.2.2.2.2.2.2.2.2.2.2.1)
  have HS38_ := (hb.cell (World.block_lt_of_cell? _ _ (hHeld.2.2.2.2.2.2.2.2.2.2.2.2.2.2.2.2.2.2.2.2.2.2.2.2.2.2.2.2.2.2.2.2.2.2.2.2.2.2.1))).trans (hHeld.2.2.2.2.2.2.2.2.2.2.2.2.2.2.2.2.2.2.2.2.2.2.2.2.2.2.2.2.2.2.2.2.2.2.2.2.2.2.1)
  have HS39_ := (hb.cell (World.block_lt_of_cell? _ _ (hHeld.2.2.2.2.2.2.2.2.2.2.2.2.2.2.2.2.2.2.2.2.2.2.2.2.2.2.2.2.2.2.2.2.2.2.2.2.2.2.2.1))).trans (hHeld.2.2.2.2.2.2.2.2.2.2.2.2.2.2.2.2.2.2.2.2.2.2.2.2.2.2.2.2.2.2.2.2.2.2.2.2.2.2.2.1)
  have HS40_ := (hb.cell (World.block_lt_of_cell? _ _ (hHeld.2.2.2.2.2.2.2.2.2.2.2.2.2.2.2.2.2.2.2.2.2.2.2.2.2.2.2.2.2.2.2.2.2.2.2.2.2.2.2.2.1))).trans (hHeld.2.2.2.2.2.2.2.2.2.2.2.2.2.2.2.2.2.2.2.2.2.2.2.2.2.2.2.2.2.2.2.2.2.2.2.2.2.2.2.2.1)
  have HS41_ := (hb.cell (World.block_lt_of_cell? _ _ (hHeld.2.2.2.2.2.2.2.2.2.2.2.2.2.2.2.2.2.2.2.2.2.2.2.2.2.2.2.2.2.2.2.2.2.2.2.2.2.2.2.2.2.1))).trans (hHeld.2.2.2.2.2.2.2.2.2.2.2.2.2.2.2.2.2.2.2.2.2.2.2.2.2.2.2.2.2.2.2.2.2.2.2.2.2.2.2.2.2.1)
  have HS42_ := (hb.cell (World.block_lt_of_cell? _ _ (hHeld.2.2.2.2.2.2.2.2.2.2.2.2.2.2.2.2.2.2.2.2.2.2.2.2.2.2.2.2.2.2.2.2.2.2.2.2.2.2.2.2.2.2.1))).trans (hHeld.2.2.2.2.2.2.2.2.2.2.2.2.2.2.2.2.2.2.2.2.2.2.2.2.2.2.2.2.2.2.2.2.2.2.2.2.2.2.2.2.2.2.1)
  have HS43_ := (hb.cell (World.block_lt_of_cell? _ _ (hHeld.2.2.2.2.2.2.2.2.2.2.2.2.2.2.2.2.2.2.2.2.2.2.2.2.2.2.2.2.2.2.2.2.2.2.2.2.2.2.2.2.2.2.2.1))).trans (hHeld.2.2.2.2.2.2.2.2.2.2.2.2.2.2.2.2.2.2.2.2.2.2.2.2.2.2.2.2.2.2.2.2.2.2.2.2.2.2.2.2.2.2.2.1)
  have HS44_ := (hb.cell (World.block_lt_of_cell? _ _ (hHeld.2.2.2.2.2.2.2.2.2.2.2.2.2.2.2.2.2.2.2.2.2.2.2.2.2.2.2.2.2.2.2.2.2.2.2.2.2.2.2.2.2.2.2.2))).trans (hHeld.2.2.2.2.2.2.2.2.2.2.2.2.2.2.2.2.2.2.2.2.2.2.2.2.2.2.2.2.2.2.2.2.2.2.2.2.2.2.2.2.2.2.2.2)
  refine ⟨_, rfl, ?_⟩
  replace HO264 := zM (Kd.R_below (rl_ HO264) hb)
  replace HO282 := zM (Kd.R_below (rl_ HO282) hb)
  replace HO315 := zM (Kd.R_below (rl_ HO315) hb)
  replace HB := zM (zB bel_ hb)
  (try clear hb)
  (try clear hb2)
  (try clear hk)
  (try clear hi)
  refine hK.out _ _ ⟨HS0_, HS1_, HS2_, HS3_, HS4_, HS5_, HS6_, HS7_, HS8_, HS9_, HS10_, HS11_, HS12_, HS13_, HS14_, HS15_, HS16_, HS17_, HS18_, HS19_, HS20_, HS21_, HS22_, HS23_, HS24_, HS25_, HS26_, HS27_, HS28_, HS29_, HS30_, HS31_, HS32_, HS33_, HS34_, HS35_, HS36_, HS37_, HS38_, HS39_, HS40_, HS41_, HS42_, HS43_, HS44_⟩ (fun hHeld => ?_)
  clear hK K
  refine norm_ (a' := ?_) ?_ ?_
  rotate_left
  · show Act.put _ (some 39) _ = _
    simp only [Act.put, zS, zZ, zC, i64_w, i32_w]
    rfl
  refine pure_ (i := 25) (N := some 40) (v := ?_) (a' := ?_) #[T_, T_, T_, T_, T_, T_, T_, T_, T_, T_, T_, T_, T_, T_, T_, T_, T_, T_, T_, T_, T_, T_, T_, T_, T_, T_, F_, F_, F_, F_, F_, F_, F_, F_, F_, F_, F_, F_, F_, F_, F_, F_] rfl rfl (any_of HT_.out (by kernel_rfl)) (fun _ _ _ h => h) (Or.inl ⟨by rfl, ?_⟩) ?_ ?_
  rotate_left
  · intro w'
    go_simp
    with_reducible rfl
  rotate_left
  · simp only [Act.put, zS, zZ, zC, i64_w, i32_w]
    rfl
  refine pure_ (i := 26) (N := some 41) (v := ?_) (a' := ?_) #[T_, T_, T_, T_, T_, T_, T_, T_, T_, T_, T_, T_, T_, T_, T_, T_, T_, T_, T_, T_, T_, T_, T_, T_, T_, T_, T_, F_, F_, F_, F_, F_, F_, F_, F_, F_, F_, F_, F_, F_, F_, F_] rfl rfl (any_of HT_.out (by kernel_rfl)) (fun _ _ _ h => h) (Or.inl ⟨by rfl, ?_⟩) ?_ ?_
  rotate_left
  · intro w'
    go_simp
    with_reducible rfl
  rotate_left
  · simp only [Act.put, zS, zZ, zC, i64_w, i32_w]
    rfl
  refine pure_ (i := 27) (N := some 42) (v := ?_) (a' := ?_) #[T_, T_, T_, T_, T_, T_, T_, T_, T_, T_, T_, T_, T_, T_, T_, T_, T_, T_, T_, T_, T_, T_, T_, T_, T_, T_, T_, T_, F_, F_, F_, F_, F_, F_, F_, F_, F_, F_, F_, F_, F_, F_] rfl rfl (any_of HT_.out (by kernel_rfl)) (fun _ _ _ h => h) (Or.inl ⟨by rfl, ?_⟩) ?_ ?_
  rotate_left
  · intro w'
    go_simp
    with_reducible rfl
  rotate_left
  · simp only [Act.put, zS, zZ, zC, i64_w, i32_w]
    rfl
  refine pure_ (i := 28) (N := some 43) (v := ?_) (a' := ?_) #[T_, T_, T_, T_, T_, T_, T_, T_, T_, T_, T_, T_, T_, T_, T_, T_, T_, T_, T_, T_, T_, T_, T_, T_, T_, T_, T_, T_, T_, F_, F_, F_, F_, F_, F_, F_, F_, F_, F_, F_, F_, F_] rfl rfl (any_of HT_.out (by kernel_rfl)) (fun _ _ _ h => h) (Or.inl ⟨by rfl, ?_⟩) ?_ ?_
  rotate_left
  · intro w'
    go_simp
    with_reducible rfl
  rotate_left
  · simp only [Act.put, zS, zZ, zC, i64_w, i32_w]
    rfl
  refine take_ (i := 29) (N := some 44) (v := ?_) (a' := ?_) #[T_, T_, T_, T_, T_, T_, T_, T_, T_, T_, T_, T_, T_, T_, T_, T_, T_, T_, T_, T_, T_, T_, T_, T_, T_, T_, T_, T_, T_, T_, F_, F_, F_, F_, F_, F_, F_, F_, F_, F_, F_, F_] rfl rfl (take_ofW HT_.out HW_.out (by kernel_rfl)) (fun _ _ _ h => h) (Or.inl ⟨by rfl, ?_⟩) hHeld ?_ ?_
  rotate_left
  · rintro w' ⟨s0, s1, s2, s3, s4, s5, s6, s7, s8, s9, s10, s11, s12, s13, s14, s15, s16, s17, s18, s19, s20, s21, s22, s23, s24, s25, s26, s27, s28, s29, s30, s31, s32, s33, s34, s35, s36, s37, s38, s39, s40, s41, s42, s43, s44⟩
    go_simp
    with_reducible rfl
  rotate_left
  · simp only [Act.put, zS, zZ, zC, i64_w, i32_w]
    rfl
  refine one_ (i := 30) (N := some 45) #[T_, T_, T_, T_, T_, T_, T_, T_, T_, T_, T_, T_, T_, T_, T_, T_, T_, T_, T_, T_, T_, T_, T_, T_, T_, T_, T_, T_, T_, T_, T_, F_, F_, F_, F_, F_, F_, F_, F_, F_, F_, F_] rfl rfl (one_of HT_.out (by kernel_rfl)) (by decide) (fun K hK => ?_)
  refine goes_ Try.func11 (by kernel_rfl) rfl #[.agg (e35_ (rd_T35 y262 0))] (by rfl) rfl rfl (by (try simp only [List.map_toArray, List.map_cons, List.map_nil]); first | done | rfl | (simp only [List.length_drop, List.length_take]; rfl)) ?_
  with_reducible refine (past_Well.calls ((rd_T35 y262 0).f0) ((rd_T35 y262 0).f1) ((rd_T35 y262 0).f2) ((rd_T35 y262 0).f3.f0) ((rd_T35 y262 0).f3.f1) ((rd_T35 y262 0).f3.f2) ((rd_T35 y262 0).f3.f3.f0) ((rd_T35 y262 0).f3.f3.f1) ((rd_T35 y262 0).f4.f0) ((rd_T35 y262 0).f4.f1.f0) ((rd_T35 y262 0).f4.f1.f1) ((rd_T35 y262 0).f4.f2.f0) ((rd_T35 y262 0).f4.f2.f1.f0) ((rd_T35 y262 0).f4.f2.f1.f1) ((rd_T35 y262 0).f4.f2.f2) true _ A54.out).mono ?_
  rintro e w79 ⟨rfl, hb⟩
  have HS0_ := (hb.cell (World.block_lt_of_cell? _ _ (hHeld.1))).trans (hHeld.1)
  have HS1_ := (hb.cell (World.block_lt_of_cell? _ _ (hHeld.2.1))).trans (hHeld.2.1)
  have HS2_ := (hb.cell (World.block_lt_of_cell? _ _ (hHeld.2.2.1))).trans (hHeld.2.2.1)
  have HS3_ := (hb.cell (World.block_lt_of_cell? _ _ (hHeld.2.2.2.1))).trans (hHeld.2.2.2.1)
  have HS4_ := (hb.cell (World.block_lt_of_cell? _ _ (hHeld.2.2.2.2.1))).trans (hHeld.2.2.2.2.1)
  have HS5_ := (hb.cell (World.block_lt_of_cell? _ _ (hHeld.2.2.2.2.2.1))).trans (hHeld.2.2.2.2.2.1)
  have HS6_ := (hb.cell (World.block_lt_of_cell? _ _ (hHeld.2.2.2.2.2.2.1))).trans (hHeld.2.2.2.2.2.2.1)
  have HS7_ := (hb.cell (World.block_lt_of_cell? _ _ (hHeld.2.2.2.2.2.2.2.1))).trans (hHeld.2.2.2.2.2.2.2.1)
  have HS8_ := (hb.cell (World.block_lt_of_cell? _ _ (hHeld.2.2.2.2.2.2.2.2.1))).trans (hHeld.2.2.2.2.2.2.2.2.1)
  have HS9_ := (hb.cell (World.block_lt_of_cell? _ _ (hHeld.2.2.2.2.2.2.2.2.2.1))).trans (hHeld.2.2.2.2.2.2.2.2.2.1)
  have HS10_ := (hb.cell (World.block_lt_of_cell? _ _ (hHeld.2.2.2.2.2.2.2.2.2.2.1))).trans (hHeld.2.2.2.2.2.2.2.2.2.2.1)
  have HS11_ := (hb.cell (World.block_lt_of_cell? _ _ (hHeld.2.2.2.2.2.2.2.2.2.2.2.1))).trans (hHeld.2.2.2.2.2.2.2.2.2.2.2.1)
  have HS12_ := (hb.cell (World.block_lt_of_cell? _ _ (hHeld.2.2.2.2.2.2.2.2.2.2.2.2.1))).trans (hHeld.2.2.2.2.2.2.2.2.2.2.2.2.1)
  have HS13_ := (hb.cell (World.block_lt_of_cell? _ _ (hHeld.2.2.2.2.2.2.2.2.2.2.2.2.2.1))).trans (hHeld.2.2.2.2.2.2.2.2.2.2.2.2.2.1)
  have HS14_ := (hb.cell (World.block_lt_of_cell? _ _ (hHeld.2.2.2.2.2.2.2.2.2.2.2.2.2.2.1))).trans (hHeld.2.2.2.2.2.2.2.2.2.2.2.2.2.2.1)
  have HS15_ := (hb.cell (World.block_lt_of_cell? _ _ (hHeld.2.2.2.2.2.2.2.2.2.2.2.2.2.2.2.1))).trans (hHeld.2.2.2.2.2.2.2.2.2.2.2.2.2.2.2.1)
  have HS16_ := (hb.cell (World.block_lt_of_cell? _ _ (hHeld.2.2.2.2.2.2.2.2.2.2.2.2.2.2.2.2.1))).trans (hHeld.2.2.2.2.2.2.2.2.2.2.2.2.2.2.2.2.1)
  have HS17_ := (hb.cell (World.block_lt_of_cell? _ _ (hHeld.2.2.2.2.2.2.2.2.2.2.2.2.2.2.2.2.2.1))).trans (hHeld.2.2.2.2.2.2.2.2.2.2.2.2.2.2.2.2.2.1)
  have HS18_ := (hb.cell (World.block_lt_of_cell? _ _ (hHeld.2.2.2.2.2.2.2.2.2.2.2.2.2.2.2.2.2.2.1))).trans (hHeld.2.2.2.2.2.2.2.2.2.2.2.2.2.2.2.2.2.2.1)
  have HS19_ := (hb.cell (World.block_lt_of_cell? _ _ (hHeld.2.2.2.2.2.2.2.2.2.2.2.2.2.2.2.2.2.2.2.1))).trans (hHeld.2.2.2.2.2.2.2.2.2.2.2.2.2.2.2.2.2.2.2.1)
  have HS20_ := (hb.cell (World.block_lt_of_cell? _ _ (hHeld.2.2.2.2.2.2.2.2.2.2.2.2.2.2.2.2.2.2.2.2.1))).trans (hHeld.2.2.2.2.2.2.2.2.2.2.2.2.2.2.2.2.2.2.2.2.1)
  have HS21_ := (hb.cell (World.block_lt_of_cell? _ _ (hHeld.2.2.2.2.2.2.2.2.2.2.2.2.2.2.2.2.2.2.2.2.2.1))).trans (hHeld.2.2.2.2.2.2.2.2.2.2.2.2.2.2.2.2.2.2.2.2.2.1)
  have HS22_ := (hb.cell (World.block_lt_of_cell? _ _ (hHeld.2.2.2.2.2.2.2.2.2.2.2.2.2.2.2.2.2.2.2.2.2.2.1))).trans (hHeld.2.2.2.2.2.2.2.2.2.2.2.2.2.2.2.2.2.2.2.2.2.2.1)
  have HS23_ := (hb.cell (World.block_lt_of_cell? _ _ (hHeld.2.2.2.2.2.2.2.2.2.2.2.2.2.2.2.2.2.2.2.2.2.2.2.1))).trans (hHeld.2.2.2.2.2.2.2.2.2.2.2.2.2.2.2.2.2.2.2.2.2.2.2.1)
  have HS24_ := (hb.cell (World.block_lt_of_cell? _ _ (hHeld.2.2.2.2.2.2.2.2.2.2.2.2.2.2.2.2.2.2.2.2.2.2.2.2.1))).trans (hHeld.2.2.2.2.2.2.2.2.2.2.2.2.2.2.2.2.2.2.2.2.2.2.2.2.1)
  have HS25_ := (hb.cell (World.block_lt_of_cell? _ _ (hHeld.2.2.2.2.2.2.2.2.2.2.2.2.2.2.2.2.2.2.2.2.2.2.2.2.2.1))).trans (hHeld.2.2.2.2.2.2.2.2.2.2.2.2.2.2.2.2.2.2.2.2.2.2.2.2.2.1)
  have HS26_ := (hb.cell (World.block_lt_of_cell? _ _ (hHeld.2.2.2.2.2.2.2.2.2.2.2.2.2.2.2.2.2.2.2.2.2.2.2.2.2.2.1))).trans (hHeld.2.2.2.2.2.2.2.2.2.2.2.2.2.2.2.2.2.2.2.2.2.2.2.2.2.2.1)
  have HS27_ := (hb.cell (World.block_lt_of_cell? _ _ (hHeld.2.2.2.2.2.2.2.2.2.2.2.2.2.2.2.2.2.2.2.2.2.2.2.2.2.2.2.1))).trans (hHeld.2.2.2.2.2.2.2.2.2.2.2.2.2.2.2.2.2.2.2.2.2.2.2.2.2.2.2.1)
  have HS28_ := (hb.cell (World.block_lt_of_cell? _ _ (hHeld.2.2.2.2.2.2.2.2.2.2.2.2.2.2.2.2.2.2.2.2.2.2.2.2.2.2.2.2.1))).trans (hHeld.2.2.2.2.2.2.2.2.2.2.2.2.2.2.2.2.2.2.2.2.2.2.2.2.2.2.2.2.1)
  have HS29_ := (hb.cell (World.block_lt_of_cell? _ _ (hHeld.2.2.2.2.2.2.2.2.2.2.2.2.2.2.2.2.2.2.2.2.2.2.2.2.2.2.2.2.2.1))).trans (hHeld.2.2.2.2.2.2.2.2.2.2.2.2.2.2.2.2.2.2.2.2.2.2.2.2.2.2.2.2.2.1)
  have HS30_ := (hb.cell (World.block_lt_of_cell? _ _ (hHeld.2.2.2.2.2.2.2.2.2.2.2.2.2.2.2.2.2.2.2.2.2.2.2.2.2.2.2.2.2.2.1))).trans (hHeld.2.2.2.2.2.2.2.2.2.2.2.2.2.2.2.2.2.2.2.2.2.2.2.2.2.2.2.2.2.2.1)
  have HS31_ := (hb.cell (World.block_lt_of_cell? _ _ (hHeld.2.2.2.2.2.2.2.2.2.2.2.2.2.2.2.2.2.2.2.2.2.2.2.2.2.2.2.2.2.2.2.1))).trans (hHeld.2.2.2.2.2.2.2.2.2.2.2.2.2.2.2.2.2.2.2.2.2.2.2.2.2.2.2.2.2.2.2.1)
  have HS32_ := (hb.cell (World.block_lt_of_cell? _ _ (hHeld.2.2.2.2.2.2.2.2.2.2.2.2.2.2.2.2.2.2.2.2.2.2.2.2.2.2.2.2.2.2.2.2.1))).trans (hHeld.2.2.2.2.2.2.2.2.2.2.2.2.2.2.2.2.2.2.2.2.2.2.2.2.2.2.2.2.2.2.2.2.1)
  have HS33_ := (hb.cell (World.block_lt_of_cell? _ _ (hHeld.2.2.2.2.2.2.2.2.2.2.2.2.2.2.2.2.2.2.2.2.2.2.2.2.2.2.2.2.2.2.2.2.2.1))).trans (hHeld.2.2.2.2.2.2.2.2.2.2.2.2.2.2.2.2.2.2.2.2.2.2.2.2.2.2.2.2.2.2.2.2.2.1)
  have HS34_ := (hb.cell (World.block_lt_of_cell? _ _ (hHeld.2.2.2.2.2.2.2.2.2.2.2.2.2.2.2.2.2.2.2.2.2.2.2.2.2.2.2.2.2.2.2.2.2.2.1))).trans (hHeld.2.2.2.2.2.2.2.2.2.2.2.2.2.2.2.2.2.2.2.2.2.2.2.2.2.2.2.2.2.2.2.2.2.2.1)
  have HS35_ := (hb.cell (World.block_lt_of_cell? _ _ (hHeld.2.2.2.2.2.2.2.2.2.2.2.2.2.2.2.2.2.2.2.2.2.2.2.2.2.2.2.2.2.2.2.2.2.2.2.1))).trans (hHeld.2.2.2.2.2.2.2.2.2.2.2.2.2.2.2.2.2.2.2.2.2.2.2.2.2.2.2.2.2.2.2.2.2.2.2.1)
  have HS36_ := (hb.cell (World.block_lt_of_cell? _ _ (hHeld.2.2.2.2.2.2.2.2.2.2.2.2.2.2.2.2.2.2.2.2.2.2.2.2.2.2.2.2.2.2.2.2.2.2.2.2.1))).trans (hHeld.2.2.2.2.2.2.2.2.2.2.2.2.2.2.2.2.2.2.2.2.2.2.2.2.2.2.2.2.2.2.2.2.2.2.2.2.1)
  have HS37_ := (hb.cell (World.block_lt_of_cell? _ _ (hHeld.2.2.2.2.2.2.2.2.2.2.2.2.2.2.2.2.2.2.2.2.2.2.2.2.2.2.2.2.2.2.2.2.2.2.2.2.2.1))).trans (hHeld.2.2.2.2.2.2.2.2.2.2.2.2.2.2.2.2.2.2.2.2.2.2.2.2.2.2.2.2.2.2.2.2.2.2.2.2.2.1)
  have HS38_ := (hb.cell (World.block_lt_of_cell? _ _ (hHeld.2.2.2.2.2.2.2.2.2.2.2.2.2.2.2.2.2.2.2.2.2.2.2.2.2.2.2.2.2.2.2.2.2.2.2.2.2.2.1))).trans (hHeld.2.2.2.2.2.2.2.2.2.2.2.2.2.2.2.2.2.2.2.2.2.2.2.2.2.2.2.2.2.2.2.2.2.2.2.2.2.2.1)
  have HS39_ := (hb.cell (World.block_lt_of_cell? _ _ (hHeld.2.2.2.2.2.2.2.2.2.2.2.2.2.2.2.2.2.2.2.2.2.2.2.2.2.2.2.2.2.2.2.2.2.2.2.2.2.2.2.1))).trans (hHeld.2.2.2.2.2.2.2.2.2.2.2.2.2.2.2.2.2.2.2.2.2.2.2.2.2.2.2.2.2.2.2.2.2.2.2.2.2.2.2.1)
  have HS40_ := (hb.cell (World.block_lt_of_cell? _ _ (hHeld.2.2.2.2.2.2.2.2.2.2.2.2.2.2.2.2.2.2.2.2.2.2.2.2.2.2.2.2.2.2.2.2.2.2.2.2.2.2.2.2.1))).trans (hHeld.2.2.2.2.2.2.2.2.2.2.2.2.2.2.2.2.2.2.2.2.2.2.2.2.2.2.2.2.2.2.2.2.2.2.2.2.2.2.2.2.1)
  have HS41_ := (hb.cell (World.block_lt_of_cell? _ _ (hHeld.2.2.2.2.2.2.2.2.2.2.2.2.2.2.2.2.2.2.2.2.2.2.2.2.2.2.2.2.2.2.2.2.2.2.2.2.2.2.2.2.2.1))).trans (hHeld.2.2.2.2.2.2.2.2.2.2.2.2.2.2.2.2.2.2.2.2.2.2.2.2.2.2.2.2.2.2.2.2.2.2.2.2.2.2.2.2.2.1)
  have HS42_ := (hb.cell (World.block_lt_of_cell? _ _ (hHeld.2.2.2.2.2.2.2.2.2.2.2.2.2.2.2.2.2.2.2.2.2.2.2.2.2.2.2.2.2.2.2.2.2.2.2.2.2.2.2.2.2.2.1))).trans (hHeld.2.2.2.2.2.2.2.2.2.2.2.2.2.2.2.2.2.2.2.2.2.2.2.2.2.2.2.2.2.2.2.2.2.2.2.2.2.2.2.2.2.2.1)
  have HS43_ := (hb.cell (World.block_lt_of_cell? _ _ (hHeld.2.2.2.2.2.2.2.2.2.2.2.2.2.2.2.2.2.2.2.2.2.2.2.2.2.2.2.2.2.2.2.2.2.2.2.2.2.2.2.2.2.2.2.1))).trans (hHeld.2.2.2.2.2.2.2.2.2.2.2.2.2.2.2.2.2.2.2.2.2.2.2.2.2.2.2.2.2.2.2.2.2.2.2.2.2.2.2.2.2.2.2.1)
  have HS44_ := (hb.cell (World.block_lt_of_cell? _ _ (hHeld.2.2.2.2.2.2.2.2.2.2.2.2.2.2.2.2.2.2.2.2.2.2.2.2.2.2.2.2.2.2.2.2.2.2.2.2.2.2.2.2.2.2.2.2))).trans (hHeld.2.2.2.2.2.2.2.2.2.2.2.2.2.2.2.2.2.2.2.2.2.2.2.2.2.2.2.2.2.2.2.2.2.2.2.2.2.2.2.2.2.2.2.2)
  refine ⟨_, rfl, ?_⟩
  replace HO264 := zM (Kd.R_below (rl_ HO264) hb)
  replace HO282 := zM (Kd.R_below (rl_ HO282) hb)
  replace HO315 := zM (Kd.R_below (rl_ HO315) hb)
  replace HB := zM (zB bel_ hb)
  (try clear hb)
  (try clear hb2)
  (try clear hk)
  (try clear hi)
  refine hK.out _ _ ⟨HS0_, HS1_, HS2_, HS3_, HS4_, HS5_, HS6_, HS7_, HS8_, HS9_, HS10_, HS11_, HS12_, HS13_, HS14_, HS15_, HS16_, HS17_, HS18_, HS19_, HS20_, HS21_, HS22_, HS23_, HS24_, HS25_, HS26_, HS27_, HS28_, HS29_, HS30_, HS31_, HS32_, HS33_, HS34_, HS35_, HS36_, HS37_, HS38_, HS39_, HS40_, HS41_, HS42_, HS43_, HS44_⟩ (fun hHeld => ?_)
  clear hK K
  refine norm_ (a' := ?_) ?_ ?_
  rotate_left
  · show Act.put _ (some 45) _ = _
    simp only [Act.put, zS, zZ, zC, i64_w, i32_w]
    rfl
  refine pure_ (i := 31) (N := some 46) (v := ?_) (a' := ?_) #[T_, T_, T_, T_, T_, T_, T_, T_, T_, T_, T_, T_, T_, T_, T_, T_, T_, T_, T_, T_, T_, T_, T_, T_, T_, T_, T_, T_, T_, T_, T_, T_, F_, F_, F_, F_, F_, F_, F_, F_, F_, F_] rfl rfl (any_of HT_.out (by kernel_rfl)) (fun _ _ _ h => h) (Or.inl ⟨by rfl, ?_⟩) ?_ ?_
  rotate_left
  · intro w'
    go_simp
    with_reducible rfl
  rotate_left
  · simp only [Act.put, zS, zZ, zC, i64_w, i32_w]
    rfl
  refine pure_ (i := 32) (N := some 47) (v := ?_) (a' := ?_) #[T_, T_, T_, T_, T_, T_, T_, T_, T_, T_, T_, T_, T_, T_, T_, T_, T_, T_, T_, T_, T_, T_, T_, T_, T_, T_, T_, T_, T_, T_, T_, T_, T_, F_, F_, F_, F_, F_, F_, F_, F_, F_] rfl rfl (any_of HT_.out (by kernel_rfl)) (fun _ _ _ h => h) (Or.inl ⟨by rfl, ?_⟩) ?_ ?_
  rotate_left
  · intro w'
    go_simp
    with_reducible rfl
  rotate_left
  · simp only [Act.put, zS, zZ, zC, i64_w, i32_w]
    rfl
  refine pure_ (i := 33) (N := some 48) (v := ?_) (a' := ?_) #[T_, T_, T_, T_, T_, T_, T_, T_, T_, T_, T_, T_, T_, T_, T_, T_, T_, T_, T_, T_, T_, T_, T_, T_, T_, T_, T_, T_, T_, T_, T_, T_, T_, T_, F_, F_, F_, F_, F_, F_, F_, F_] rfl rfl (any_of HT_.out (by kernel_rfl)) (fun _ _ _ h => h) (Or.inl ⟨by rfl, ?_⟩) ?_ ?_
  rotate_left
  · intro w'
    go_simp
    with_reducible rfl
  rotate_left
  · simp only [Act.put, zS, zZ, zC, i64_w, i32_w]
    rfl
  refine pure_ (i := 34) (N := some 49) (v := ?_) (a' := ?_) #[T_, T_, T_, T_, T_, T_, T_, T_, T_, T_, T_, T_, T_, T_, T_, T_, T_, T_, T_, T_, T_, T_, T_, T_, T_, T_, T_, T_, T_, T_, T_, T_, T_, T_, T_, F_, F_, F_, F_, F_, F_, F_] rfl rfl (any_of HT_.out (by kernel_rfl)) (fun _ _ _ h => h) (Or.inl ⟨by rfl, ?_⟩) ?_ ?_
  rotate_left
  · intro w'
    go_simp
    with_reducible rfl
  rotate_left
  · simp only [Act.put, zS, zZ, zC, i64_w, i32_w]
    rfl
  refine one_ (i := 35) (N := some 50) #[T_, T_, T_, T_, T_, T_, T_, T_, T_, T_, T_, T_, T_, T_, T_, T_, T_, T_, T_, T_, T_, T_, T_, T_, T_, T_, T_, T_, T_, T_, T_, T_, T_, T_, T_, T_, F_, F_, F_, F_, F_, F_] rfl rfl (one_of HT_.out (by kernel_rfl)) (by decide) (fun K hK => ?_)
  refine goes_ Try.func9 (by kernel_rfl) rfl #[.agg #[.int .i64 7, .int .i64 0], .slice (some ad320) y262.length co71] (by rfl) rfl rfl (by (try simp only [List.map_toArray, List.map_cons, List.map_nil]); first | done | rfl | (simp only [List.length_drop, List.length_take]; rfl)) ?_
  with_reducible refine (past_Views.calls k 7 0 _ _ y262 true _ ?side1 ?side2 A56.out).mono ?_
  (case side1 => repeat (first | exact (Kd.R_reads' HO264.out).2.2 | (with_reducible refine Kd.C_alloc ?_ _) | (with_reducible refine Kd.C_drewN ?_ _) | (with_reducible refine Kd.C_drew ?_)))
  (case side2 => exact (Kd.R_reads' HO264.out).2.1)
  rintro e w80 ⟨rfl, hb⟩
  have HS0_ := (hb.cell (World.block_lt_of_cell? _ _ (hHeld.1))).trans (hHeld.1)
  have HS1_ := (hb.cell (World.block_lt_of_cell? _ _ (hHeld.2.1))).trans (hHeld.2.1)
  have HS2_ := (hb.cell (World.block_lt_of_cell? _ _ (hHeld.2.2.1))).trans (hHeld.2.2.1)
  have HS3_ := (hb.cell (World.block_lt_of_cell? _ _ (hHeld.2.2.2.1))).trans (hHeld.2.2.2.1)
  have HS4_ := (hb.cell (World.block_lt_of_cell? _ _ (hHeld.2.2.2.2.1))).trans (hHeld.2.2.2.2.1)
  have HS5_ := (hb.cell (World.block_lt_of_cell? _ _ (hHeld.2.2.2.2.2.1))).trans (hHeld.2.2.2.2.2.1)
  have HS6_ := (hb.cell (World.block_lt_of_cell? _ _ (hHeld.2.2.2.2.2.2.1))).trans (hHeld.2.2.2.2.2.2.1)
  have HS7_ := (hb.cell (World.block_lt_of_cell? _ _ (hHeld.2.2.2.2.2.2.2.1))).trans (hHeld.2.2.2.2.2.2.2.1)
  have HS8_ := (hb.cell (World.block_lt_of_cell? _ _ (hHeld.2.2.2.2.2.2.2.2.1))).trans (hHeld.2.2.2.2.2.2.2.2.1)
  have HS9_ := (hb.cell (World.block_lt_of_cell? _ _ (hHeld.2.2.2.2.2.2.2.2.2.1))).trans (hHeld.2.2.2.2.2.2.2.2.2.1)
  have HS10_ := (hb.cell (World.block_lt_of_cell? _ _ (hHeld.2.2.2.2.2.2.2.2.2.2.1))).trans (hHeld.2.2.2.2.2.2.2.2.2.2.1)
  have HS11_ := (hb.cell (World.block_lt_of_cell? _ _ (hHeld.2.2.2.2.2.2.2.2.2.2.2.1))).trans (hHeld.2.2.2.2.2.2.2.2.2.2.2.1)
  have HS12_ := (hb.cell (World.block_lt_of_cell? _ _ (hHeld.2.2.2.2.2.2.2.2.2.2.2.2.1))).trans (hHeld.2.2.2.2.2.2.2.2.2.2.2.2.1)
  have HS13_ := (hb.cell (World.block_lt_of_cell? _ _ (hHeld.2.2.2.2.2.2.2.2.2.2.2.2.2.1))).trans (hHeld.2.2.2.2.2.2.2.2.2.2.2.2.2.1)
  have HS14_ := (hb.cell (World.block_lt_of_cell? _ _ (hHeld.2.2.2.2.2.2.2.2.2.2.2.2.2.2.1))).trans (hHeld.2.2.2.2.2.2.2.2.2.2.2.2.2.2.1)
  have HS15_ := (hb.cell (World.block_lt_of_cell? _ _ (hHeld.2.2.2.2.2.2.2.2.2.2.2.2.2.2.2.1))).trans (hHeld.2.2.2.2.2.2.2.2.2.2.2.2.2.2.2.1)
  have HS16_ := (hb.cell (World.block_lt_of_cell? _ _ (hHeld.2.2.2.2.2.2.2.2.2.2.2.2.2.2.2.2.1))).trans (hHeld.2.2.2.2.2.2.2.2.2.2.2.2.2.2.2.2.1)
  have HS17_ := (hb.cell (World.block_lt_of_cell? _ _ (hHeld.2.2.2.2.2.2.2.2.2.2.2.2.2.2.2.2.2.1))).trans (hHeld.2.2.2.2.2.2.2.2.2.2.2.2.2.2.2.2.2.1)
  have HS18_ := (hb.cell (World.block_lt_of_cell? _ _ (hHeld.2.2.2.2.2.2.2.2.2.2.2.2.2.2.2.2.2.2.1))).trans (hHeld.2.2.2.2.2.2.2.2.2.2.2.2.2.2.2.2.2.2.1)
  have HS19_ := (hb.cell (World.block_lt_of_cell? _ _ (hHeld.2.2.2.2.2.2.2.2.2.2.2.2.2.2.2.2.2.2.2.1))).trans (hHeld.2.2.2.2.2.2.2.2.2.2.2.2.2.2.2.2.2.2.2.1)
  have HS20_ := (hb.cell (World.block_lt_of_cell? _ _ (hHeld.2.2.2.2.2.2.2.2.2.2.2.2.2.2.2.2.2.2.2.2.1))).trans (hHeld.2.2.2.2.2.2.2.2.2.2.2.2.2.2.2.2.2.2.2.2.1)
  have HS21_ := (hb.cell (World.block_lt_of_cell? _ _ (hHeld.2.2.2.2.2.2.2.2.2.2.2.2.2.2.2.2.2.2.2.2.2.1))).trans (hHeld.2.2.2.2.2.2.2.2.2.2.2.2.2.2.2.2.2.2.2.2.2.1)
  have HS22_ := (hb.cell (World.block_lt_of_cell? _ _ (hHeld.2.2.2.2.2.2.2.2.2.2.2.2.2.2.2.2.2.2.2.2.2.2.1))).trans (hHeld.2.2.2.2.2.2.2.2.2.2.2.2.2.2.2.2.2.2.2.2.2.2.1)
  have HS23_ := (hb.cell (World.block_lt_of_cell? _ _ (hHeld.2.2.2.2.2.2.2.2.2.2.2.2.2.2.2.2.2.2.2.2.2.2.2.1))).trans (hHeld.2.2.2.2.2.2.2.2.2.2.2.2.2.2.2.2.2.2.2.2.2.2.2.1)
  have HS24_ := (hb.cell (World.block_lt_of_cell? _ _ (hHeld.2.2.2.2.2.2.2.2.2.2.2.2.2.2.2.2.2.2.2.2.2.2.2.2.1))).trans (hHeld.2.2.2.2.2.2.2.2.2.2.2.2.2.2.2.2.2.2.2.2.2.2.2.2.1)
  have HS25_ := (hb.cell (World.block_lt_of_cell? _ _ (hHeld.2.2.2.2.2.2.2.2.2.2.2.2.2.2.2.2.2.2.2.2.2.2.2.2.2.1))).trans (hHeld.2.2.2.2.2.2.2.2.2.2.2.2.2.2.2.2.2.2.2.2.2.2.2.2.2.1)
  have HS26_ := (hb.cell (World.block_lt_of_cell? _ _ (hHeld.2.2.2.2.2.2.2.2.2.2.2.2.2.2.2.2.2.2.2.2.2.2.2.2.2.2.1))).trans (hHeld.2.2.2.2.2.2.2.2.2.2.2.2.2.2.2.2.2.2.2.2.2.2.2.2.2.2.1)
  have HS27_ := (hb.cell (World.block_lt_of_cell? _ _ (hHeld.2.2.2.2.2.2.2.2.2.2.2.2.2.2.2.2.2.2.2.2.2.2.2.2.2.2.2.1))).trans (hHeld.2.2.2.2.2.2.2.2.2.2.2.2.2.2.2.2.2.2.2.2.2.2.2.2.2.2.2.1)
  have HS28_ := (hb.cell (World.block_lt_of_cell? _ _ (hHeld.2.2.2.2.2.2.2.2.2.2.2.2.2.2.2.2.2.2.2.2.2.2.2.2.2.2.2.2.1))).trans (hHeld.2.2.2.2.2.2.2.2.2.2.2.2.2.2.2.2.2.2.2.2.2.2.2.2.2.2.2.2.1)
  have HS29_ := (hb.cell (World.block_lt_of_cell? _ _ (hHeld.2.2.2.2.2.2.2.2.2.2.2.2.2.2.2.2.2.2.2.2.2.2.2.2.2.2.2.2.2.1))).trans (hHeld.2.2.2.2.2.2.2.2.2.2.2.2.2.2.2.2.2.2.2.2.2.2.2.2.2.2.2.2.2.1)
  have HS30_ := (hb.cell (World.block_lt_of_cell? _ _ (hHeld.2.2.2.2.2.2.2.2.2.2.2.2.2.2.2.2.2.2.2.2.2.2.2.2.2.2.2.2.2.2.1))).trans (hHeld.2.2.2.2.2.2.2.2.2.2.2.2.2.2.2.2.2.2.2.2.2.2.2.2.2.2.2.2.2.2.1)
  have HS31_ := (hb.cell (World.block_lt_of_cell? _ _ (hHeld.2.2.2.2.2.2.2.2.2.2.2.2.2.2.2.2.2.2.2.2.2.2.2.2.2.2.2.2.2.2.2.1))).trans (hHeld.2.2.2.2.2.2.2.2.2.2.2.2.2.2.2.2.2.2.2.2.2.2.2.2.2.2.2.2.2.2.2.1)
  have HS32_ := (hb.cell (World.block_lt_of_cell? _ _ (hHeld.2.2.2.2.2.2.2.2.2.2.2.2.2.2.2.2.2.2.2.2.2.2.2.2.2.2.2.2.2.2.2.2.1))).trans (hHeld.2.2.2.2.2.2.2.2.2.2.2.2.2.2.2.2.2.2.2.2.2.2.2.2.2.2.2.2.2.2.2.2.1)
  have HS33_ := (hb.cell (World.block_lt_of_cell? _ _ (hHeld.2.2.2.2.2.2.2.2.2.2.2.2.2.2.2.2.2.2.2.2.2.2.2.2.2.2.2.2.2.2.2.2.2.1))).trans (hHeld.2.2.2.2.2.2.2.2.2.2.2.2.2.2.2.2.2.2.2.2.2.2.2.2.2.2.2.2.2.2.2.2.2.1)
  have HS34_ := (hb.cell (World.block_lt_of_cell? _ _ (hHeld.2.2.2.2.2.2.2.2.2.2.2.2.2.2.2.2.2.2.2.2.2.2.2.2.2.2.2.2.2.2.2.2.2.2.1))).trans (hHeld.2.2.2.2.2.2.2.2.2.2.2.2.2.2.2.2.2.2.2.2.2.2.2.2.2.2.2.2.2.2.2.2.2.2.1)
  have HS35_ := (hb.cell (World.block_lt_of_cell? _ _ (hHeld.2.2.2.2.2.2.2.2.2.2.2.2.2.2.2.2.2.2.2.2.2.2.2.2.2.2.2.2.2.2.2.2.2.2.2.1))).trans (hHeld.2.2.2.2.2.2.2.2.2.2.2.2.2.2.2.2.2.2.2.2.2.2.2.2.2.2.2.2.2.2.2.2.2.2.2.1)
  have HS36_ := (hb.cell (World.block_lt_of_cell? _ _ (hHeld.2.2.2.2.2.2.2.2.2.2.2.2.2.2.2.2.2.2.2.2.2.2.2.2.2.2.2.2.2.2.2.2.2.2.2.2.1))).trans (hHeld.2.2.2.2.2.2.2.2.2.2.2.2.2.2.2.2.2.2.2.2.2.2.2.2.2.2.2.2.2.2.2.2.2.2.2.2.1)
  have HS37_ := (hb.cell (World.block_lt_of_cell? _ _ (hHeld.2.2.2.2.2.2.2.2.2.2.2.2.2.2.2.2.2.2.2.2.2.2.2.2.2.2.2.2.2.2.2.2.2.2.2.2.2.1))).trans (hHeld.2.2.2.2.2.2.2.2.2.2.2.2.2.2.2.2.2.2.2.2.2.2.2.2.2.2.2.2.2.2.2.2.2.2.2.2.2.1)
  have HS38_ := (hb.cell (World.block_lt_of_cell? _ _ (hHeld.2.2.2.2.2.2.2.2.2.2.2.2.2.2.2.2.2.2.2.2.2.2.2.2.2.2.2.2.2.2.2.2.2.2.2.2.2.2.1))).trans (hHeld.2.2.2.2.2.2.2.2.2.2.2.2.2.2.2.2.2.2.2.2.2.2.2.2.2.2.2.2.2.2.2.2.2.2.2.2.2.2.1)
  have HS39_ := (hb.cell (World.block_lt_of_cell? _ _ (hHeld.2.2.2.2.2.2.2.2.2.2.2.2.2.2.2.2.2.2.2.2.2.2.2.2.2.2.2.2.2.2.2.2.2.2.2.2.2.2.2.1))).trans (hHeld.2.2.2.2.2.2.2.2.2.2.2.2.2.2.2.2.2.2.2.2.2.2.2.2.2.2.2.2.2.2.2.2.2.2.2.2.2.2.2.1)
  have HS40_ := (hb.cell (World.block_lt_of_cell? _ _ (hHeld.2.2.2.2.2.2.2.2.2.2.2.2.2.2.2.2.2.2.2.2.2.2.2.2.2.2.2.2.2.2.2.2.2.2.2.2.2.2.2.2.1))).trans (hHeld.2.2.2.2.2.2.2.2.2.2.2.2.2.2.2.2.2.2.2.2.2.2.2.2.2.2.2.2.2.2.2.2.2.2.2.2.2.2.2.2.1)
  have HS41_ := (hb.cell (World.block_lt_of_cell? _ _ (hHeld.2.2.2.2.2.2.2.2.2.2.2.2.2.2.2.2.2.2.2.2.2.2.2.2.2.2.2.2.2.2.2.2.2.2.2.2.2.2.2.2.2.1))).trans (hHeld.2.2.2.2.2.2.2.2.2.2.2.2.2.2.2.2.2.2.2.2.2.2.2.2.2.2.2.2.2.2.2.2.2.2.2.2.2.2.2.2.2.1)
  have HS42_ := (hb.cell (World.block_lt_of_cell? _ _ (hHeld.2.2.2.2.2.2.2.2.2.2.2.2.2.2.2.2.2.2.2.2.2.2.2.2.2.2.2.2.2.2.2.2.2.2.2.2.2.2.2.2.2.2.1))).trans (hHeld.2.2.2.2.2.2.2.2.2.2.2.2.2.2.2.2.2.2.2.2.2.2.2.2.2.2.2.2.2.2.2.2.2.2.2.2.2.2.2.2.2.2.1)
  have HS43_ := (hb.cell (World.block_lt_of_cell? _ _ (hHeld.2.2.2.2.2.2.2.2.2.2.2.2.2.2.2.2.2.2.2.2.2.2.2.2.2.2.2.2.2.2.2.2.2.2.2.2.2.2.2.2.2.2.2.1))).trans (hHeld.2.2.2.2.2.2.2.2.2.2.2.2.2.2.2.2.2.2.2.2.2.2.2.2.2.2.2.2.2.2.2.2.2.2.2.2.2.2.2.2.2.2.2.1)
  have HS44_ := (hb.cell (World.block_lt_of_cell? _ _ (hHeld.2.2.2.2.2.2.2.2.2.2.2.2.2.2.2.2.2.2.2.2.2.2.2.2.2.2.2.2.2.2.2.2.2.2.2.2.2.2.2.2.2.2.2.2))).trans (hHeld.2.2.2.2.2.2.2.2.2.2.2.2.2.2.2.2.2.2.2.2.2.2.2.2.2.2.2.2.2.2.2.2.2.2.2.2.2.2.2.2.2.2.2.2)
  refine ⟨_, rfl, ?_⟩
  replace HO264 := zM (Kd.R_below (rl_ HO264) hb)
  replace HO282 := zM (Kd.R_below (rl_ HO282) hb)
  replace HO315 := zM (Kd.R_below (rl_ HO315) hb)
  replace HB := zM (zB bel_ hb)
  (try clear hb)
  (try clear hb2)
  (try clear hk)
  (try clear hi)
  refine hK.out _ _ ⟨HS0_, HS1_, HS2_, HS3_, HS4_, HS5_, HS6_, HS7_, HS8_, HS9_, HS10_, HS11_, HS12_, HS13_, HS14_, HS15_, HS16_, HS17_, HS18_, HS19_, HS20_, HS21_, HS22_, HS23_, HS24_, HS25_, HS26_, HS27_, HS28_, HS29_, HS30_, HS31_, HS32_, HS33_, HS34_, HS35_, HS36_, HS37_, HS38_, HS39_, HS40_, HS41_, HS42_, HS43_, HS44_⟩ (fun hHeld => ?_)
  clear hK K
  refine norm_ (a' := ?_) ?_ ?_
  rotate_left
  · show Act.put _ (some 50) _ = _
    simp only [Act.put, zS, zZ, zC, i64_w, i32_w]
    rfl
  refine pure_ (i := 36) (N := some 51) (v := ?_) (a' := ?_) #[T_, T_, T_, T_, T_, T_, T_, T_, T_, T_, T_, T_, T_, T_, T_, T_, T_, T_, T_, T_, T_, T_, T_, T_, T_, T_, T_, T_, T_, T_, T_, T_, T_, T_, T_, T_, T_, F_, F_, F_, F_, F_] rfl rfl (any_of HT_.out (by kernel_rfl)) (fun _ _ _ h => h) (Or.inl ⟨by rfl, ?_⟩) ?_ ?_
  rotate_left
  · intro w'
    go_simp
    with_reducible rfl
  rotate_left
  · simp only [Act.put, zS, zZ, zC, i64_w, i32_w]
    rfl
  refine pure_ (i := 37) (N := some 52) (v := ?_) (a' := ?_) #[T_, T_, T_, T_, T_, T_, T_, T_, T_, T_, T_, T_, T_, T_, T_, T_, T_, T_, T_, T_, T_, T_, T_, T_, T_, T_, T_, T_, T_, T_, T_, T_, T_, T_, T_, T_, T_, T_, F_, F_, F_, F_] rfl rfl (any_of HT_.out (by kernel_rfl)) (fun _ _ _ h => h) (Or.inl ⟨by rfl, ?_⟩) ?_ ?_
  rotate_left
  · intro w'
    go_simp
    with_reducible rfl
  rotate_left
  · simp only [Act.put, zS, zZ, zC, i64_w, i32_w]
    rfl
  refine pure_ (i := 38) (N := some 53) (v := ?_) (a' := ?_) #[T_, T_, T_, T_, T_, T_, T_, T_, T_, T_, T_, T_, T_, T_, T_, T_, T_, T_, T_, T_, T_, T_, T_, T_, T_, T_, T_, T_, T_, T_, T_, T_, T_, T_, T_, T_, T_, T_, T_, F_, F_, F_] rfl rfl (any_of HT_.out (by kernel_rfl)) (fun _ _ _ h => h) (Or.inl ⟨by rfl, ?_⟩) ?_ ?_
  rotate_left
  · intro w'
    go_simp
    with_reducible rfl
  rotate_left
  · simp only [Act.put, zS, zZ, zC, i64_w, i32_w]
    rfl
  refine one_ (i := 39) (N := some 54) #[T_, T_, T_, T_, T_, T_, T_, T_, T_, T_, T_, T_, T_, T_, T_, T_, T_, T_, T_, T_, T_, T_, T_, T_, T_, T_, T_, T_, T_, T_, T_, T_, T_, T_, T_, T_, T_, T_, T_, T_, F_, F_] rfl rfl (one_of HT_.out (by kernel_rfl)) (by decide) (fun K hK => ?_)
  refine goes_ Try.func10 (by kernel_rfl) rfl #[.slice (some ad320) y262.length co71] (by rfl) rfl rfl (by (try simp only [List.map_toArray, List.map_cons, List.map_nil]); first | done | rfl | (simp only [List.length_drop, List.length_take]; rfl)) ?_
  with_reducible refine (past_Grows.calls k _ _ y262 t326 _ ?side1 ?side2 A58.out).mono ?_
  (case side1 => repeat (first | exact (Kd.R_reads' HO264.out).2.2 | (with_reducible refine Kd.C_alloc ?_ _) | (with_reducible refine Kd.C_drewN ?_ _) | (with_reducible refine Kd.C_drew ?_)))
  (case side2 => exact (Kd.R_reads' HO264.out).2.1)
  rintro e w81 ⟨rfl, hb⟩
  have HS0_ := (hb.cell (World.block_lt_of_cell? _ _ (hHeld.1))).trans (hHeld.1)
  have HS1_ := (hb.cell (World.block_lt_of_cell? _ _ (hHeld.2.1))).trans (hHeld.2.1)
  have HS2_ := (hb.cell (World.block_lt_of_cell? _ _ (hHeld.2.2.1))).trans (hHeld.2.2.1)
  have HS3_ := (hb.cell (World.block_lt_of_cell? _ _ (hHeld.2.2.2.1))).trans (hHeld.2.2.2.1)
  have HS4_ := (hb.cell (World.block_lt_of_cell? _ _ (hHeld.2.2.2.2.1))).trans (hHeld.2.2.2.2.1)
  have HS5_ := (hb.cell (World.block_lt_of_cell? _ _ (hHeld.2.2.2.2.2.1))).trans (hHeld.2.2.2.2.2.1)
  have HS6_ := (hb.cell (World.block_lt_of_cell? _ _ (hHeld.2.2.2.2.2.2.1))).trans (hHeld.2.2.2.2.2.2.1)
  have HS7_ := (hb.cell (World.block_lt_of_cell? _ _ (hHeld.2.2.2.2.2.2.2.1))).trans (hHeld.2.2.2.2.2.2.2.1)
  have HS8_ := (hb.cell (World.block_lt_of_cell? _ _ (hHeld.2.2.2.2.2.2.2.2.1))).trans (hHeld.2.2.2.2.2.2.2.2.1)
  have HS9_ := (hb.cell (World.block_lt_of_cell? _ _ (hHeld.2.2.2.2.2.2.2.2.2.1))).trans (hHeld.2.2.2.2.2.2.2.2.2.1)
  have HS10_ := (hb.cell (World.block_lt_of_cell? _ _ (hHeld.2.2.2.2.2.2.2.2.2.2.1))).trans (hHeld.2.2.2.2.2.2.2.2.2.2.1)
  have HS11_ := (hb.cell (World.block_lt_of_cell? _ _ (hHeld.2.2.2.2.2.2.2.2.2.2.2.1))).trans (hHeld.2.2.2.2.2.2.2.2.2.2.2.1)
  have HS12_ := (hb.cell (World.block_lt_of_cell? _ _ (hHeld.2.2.2.2.2.2.2.2.2.2.2.2.1))).trans (hHeld.2.2.2.2.2.2.2.2.2.2.2.2.1)
  have HS13_ := (hb.cell (World.block_lt_of_cell? _ _ (hHeld.2.2.2.2.2.2.2.2.2.2.2.2.2.1))).trans (hHeld.2.2.2.2.2.2.2.2.2.2.2.2.2.1)
  have HS14_ := (hb.cell (World.block_lt_of_cell? _ _ (hHeld.2.2.2.2.2.2.2.2.2.2.2.2.2.2.1))).trans (hHeld.2.2.2.2.2.2.2.2.2.2.2.2.2.2.1)
  have HS15_ := (hb.cell (World.block_lt_of_cell? _ _ (hHeld.2.2.2.2.2.2.2.2.2.2.2.2.2.2.2.1))).trans (hHeld.2.2.2.2.2.2.2.2.2.2.2.2.2.2.2.1)
  have HS16_ := (hb.cell (World.block_lt_of_cell? _ _ (hHeld.2.2.2.2.2.2.2.2.2.2.2.2.2.2.2.2.1))).trans (hHeld.2.2.2.2.2.2.2.2.2.2.2.2.2.2.2.2.1)
  have HS17_ := (hb.cell (World.block_lt_of_cell? _ _ (hHeld.2.2.2.2.2.2.2.2.2.2.2.2.2.2.2.2.2.1))).trans (hHeld.2.2.2.2.2.2.2.2.2.2.2.2.2.2.2.2.2.1)
  have HS18_ := (hb.cell (World.block_lt_of_cell? _ _ (hHeld.2.2.2.2.2.2.2.2.2.2.2.2.2.2.2.2.2.2.1))).trans (hHeld.2.2.2.2.2.2.2.2.2.2.2.2.2.2.2.2.2.2.1)
  have HS19_ := (hb.cell (World.block_lt_of_cell? _ _ (hHeld.2.2.2.2.2.2.2.2.2.2.2.2.2.2.2.2.2.2.2.1))).trans (hHeld.2.2.2.2.2.2.2.2.2.2.2.2.2.2.2.2.2.2.2.1)
  have HS20_ := (hb.cell (World.block_lt_of_cell? _ _ (hHeld.2.2.2.2.2.2.2.2.2.2.2.2.2.2.2.2.2.2.2.2.1))).trans (hHeld.2.2.2.2.2.2.2.2.2.2.2.2.2.2.2.2.2.2.2.2.1)
  have HS21_ := (hb.cell (World.block_lt_of_cell? _ _ (hHeld.2.2.2.2.2.2.2.2.2.2.2.2.2.2.2.2.2.2.2.2.2.1))).trans (hHeld.2.2.2.2.2.2.2.2.2.2.2.2.2.2.2.2.2.2.2.2.2.1)
  have HS22_ := (hb.cell (World.block_lt_of_cell? _ _ (hHeld.2.2.2.2.2.2.2.2.2.2.2.2.2.2.2.2.2.2.2.2.2.2.1))).trans (hHeld.2.2.2.2.2.2.2.2.2.2.2.2.2.2.2.2.2.2.2.2.2.2.1)
  have HS23_ := (hb.cell (World.block_lt_of_cell? _ _ (hHeld.2.2.2.2.2.2.2.2.2.2.2.2.2.2.2.2.2.2.2.2.2.2.2.1))).trans (hHeld.2.2.2.2.2.2.2.2.2.2.2.2.2.2.2.2.2.2.2.2.2.2.2.1)
  have HS24_ := (hb.cell (World.block_lt_of_cell? _ _ (hHeld.2.2.2.2.2.2.2.2.2.2.2.2.2.2.2.2.2.2.2.2.2.2.2.2.1))).trans (hHeld.2.2.2.2.2.2.2.2.2.2.2.2.2.2.2.2.2.2.2.2.2.2.2.2.1)
  have HS25_ := (hb.cell (World.block_lt_of_cell? _ _ (hHeld.2.2.2.2.2.2.2.2.2.2.2.2.2.2.2.2.2.2.2.2.2.2.2.2.2.1))).trans (hHeld.2.2.2.2.2.2.2.2.2.2.2.2.2.2.2.2.2.2.2.2.2.2.2.2.2.1)
  have HS26_ := (hb.cell (World.block_lt_of_cell? _ _ (hHeld.2.2.2.2.2.2.2.2.2.2.2.2.2.2.2.2.2.2.2.2.2.2.2.2.2.2.1))).trans (hHeld.2.2.2.2.2.2.2.2.2.2.2.2.2.2.2.2.2.2.2.2.2.2.2.2.2.2.1)
  have HS27_ := (hb.cell (World.block_lt_of_cell? _ _ (hHeld.2.2.2.2.2.2.2.2.2.2.2.2.2.2.2.2.2.2.2.2.2.2.2.2.2.2.2.1))).trans (hHeld.2.2.2.2.2.2.2.2.2.2.2.2.2.2.2.2.2.2.2.2.2.2.2.2.2.2.2.1)
  have HS28_ := (hb.cell (World.block_lt_of_cell? _ _ (hHeld.2.2.2.2.2.2.2.2.2.2.2.2.2.2.2.2.2.2.2.2.2.2.2.2.2.2.2.2.1))).trans (hHeld.2.2.2.2.2.2.2.2.2.2.2.2.2.2.2.2.2.2.2.2.2.2.2.2.2.2.2.2.1)
  have HS29_ := (hb.cell (World.block_lt_of_cell? _ _ (hHeld.2.2.2.2.2.2.2.2.2.2.2.2.2.2.2.2.2.2.2.2.2.2.2.2.2.2.2.2.2.1))).trans (hHeld.2.2.2.2.2.2.2.2.2.2.2.2.2.2.2.2.2.2.2.2.2.2.2.2.2.2.2.2.2.1)
  have HS30_ := (hb.cell (World.block_lt_of_cell? _ _ (hHeld.2.2.2.2.2.2.2.2.2.2.2.2.2.2.2.2.2.2.2.2.2.2.2.2.2.2.2.2.2.2.1))).trans (hHeld.2.2.2.2.2.2.2.2.2.2.2.2.2.2.2.2.2.2.2.2.2.2.2.2.2.2.2.2.2.2.1)
  have HS31_ := (hb.cell (World.block_lt_of_cell? _ _ (hHeld.2.2.2.2.2.2.2.2.2.2.2.2.2.2.2.2.2.2.2.2.2.2.2.2.2.2.2.2.2.2.2.1))).trans (hHeld.2.2.2.2.2.2.2.2.2.2.2.2.2.2.2.2.2.2.2.2.2.2.2.2.2.2.2.2.2.2.2.1)
  have HS32_ := (hb.cell (World.block_lt_of_cell? _ _ (hHeld.2.2.2.2.2.2.2.2.2.2.2.2.2.2.2.2.2.2.2.2.2.2.2.2.2.2.2.2.2.2.2.2.1))).trans (hHeld.2.2.2.2.2.2.2.2.2.2.2.2.2.2.2.2.2.2.2.2.2.2.2.2.2.2.2.2.2.2.2.2.1)
  have HS33_ := (hb.cell (World.block_lt_of_cell? _ _ (hHeld.2.2.2.2.2.2.2.2.2.2.2.2.2.2.2.2.2.2.2.2.2.2.2.2.2.2.2.2.2.2.2.2.2.1))).trans (hHeld.2.2.2.2.2.2.2.2.2.2.2.2.2.2.2.2.2.2.2.2.2.2.2.2.2.2.2.2.2.2.2.2.2.1)
  have HS34_ := (hb.cell (World.block_lt_of_cell? _ _ (hHeld.2.2.2.2.2.2.2.2.2.2.2.2.2.2.2.2.2.2.2.2.2.2.2.2.2.2.2.2.2.2.2.2.2.2.1))).trans (hHeld.2.2.2.2.2.2.2.2.2.2.2.2.2.2.2.2.2.2.2.2.2.2.2.2.2.2.2.2.2.2.2.2.2.2.1)
  have HS35_ := (hb.cell (World.block_lt_of_cell? _ _ (hHeld.2.2.2.2.2.2.2.2.2.2.2.2.2.2.2.2.2.2.2.2.2.2.2.2.2.2.2.2.2.2.2.2.2.2.2.1))).trans (hHeld.2.2.2.2.2.2.2.2.2.2.2.2.2.2.2.2.2.2.2.2.2.2.2.2.2.2.2.2.2.2.2.2.2.2.2.1)
  have HS36_ := (hb.cell (World.block_lt_of_cell? _ _ (hHeld.2.2.2.2.2.2.2.2.2.2.2.2.2.2.2.2.2.2.2.2.2.2.2.2.2.2.2.2.2.2.2.2.2.2.2.2.1))).trans (hHeld.2.2.2.2.2.2.2.2.2.2.2.2.2.2.2.2.2.2.2.2.2.2.2.2.2.2.2.2.2.2.2.2.2.2.2.2.1)
  have HS37_ := (hb.cell (World.block_lt_of_cell? _ _ (hHeld.2.2.2.2.2.2.2.2.2.2.2.2.2.2.2.2.2.2.2.2.2.2.2.2.2.2.2.2.2.2.2.2.2.2.2.2.2.1))).trans (hHeld.2.2.2.2.2.2.2.2.2.2.2.2.2.2.2.2.2.2.2.2.2.2.2.2.2.2.2.2.2.2.2.2.2.2.2.2.2.1)
  have HS38_ := (hb.cell (World.block_lt_of_cell? _ _ (hHeld.2.2.2.2.2.2.2.2.2.2.2.2.2.2.2.2.2.2.2.2.2.2.2.2.2.2.2.2.2.2.2.2.2.2.2.2.2.2.1))).trans (hHeld.2.2.2.2.2.2.2.2.2.2.2.2.2.2.2.2.2.2.2.2.2.2.2.2.2.2.2.2.2.2.2.2.2.2.2.2.2.2.1)
  have HS39_ := (hb.cell (World.block_lt_of_cell? _ _ (hHeld.2.2.2.2.2.2.2.2.2.2.2.2.2.2.2.2.2.2.2.2.2.2.2.2.2.2.2.2.2.2.2.2.2.2.2.2.2.2.2.1))).trans (hHeld.2.2.2.2.2.2.2.2.2.2.2.2.2.2.2.2.2.2.2.2.2.2.2.2.2.2.2.2.2.2.2.2.2.2.2.2.2.2.2.1)
  have HS40_ := (hb.cell (World.block_lt_of_cell? _ _ (hHeld.2.2.2.2.2.2.2.2.2.2.2.2.2.2.2.2.2.2.2.2.2.2.2.2.2.2.2.2.2.2.2.2.2.2.2.2.2.2.2.2.1))).trans (hHeld.2.2.2.2.2.2.2.2.2.2.2.2.2.2.2.2.2.2.2.2.2.2.2.2.2.2.2.2.2.2.2.2.2.2.2.2.2.2.2.2.1)
  have HS41_ := (hb.cell (World.block_lt_of_cell? _ _ (hHeld.2.2.2.2.2.2.2.2.2.2.2.2.2.2.2.2.2.2.2.2.2.2.2.2.2.2.2.2.2.2.2.2.2.2.2.2.2.2.2.2.2.1))).trans (hHeld.2.2.2.2.2.2.2.2.2.2.2.2.2.2.2.2.2.2.2.2.2.2.2.2.2.2.2.2.2.2.2.2.2.2.2.2.2.2.2.2.2.1)
  have HS42_ := (hb.cell (World.block_lt_of_cell? _ _ (hHeld.2.2.2.2.2.2.2.2.2.2.2.2.2.2.2.2.2.2.2.2.2.2.2.2.2.2.2.2.2.2.2.2.2.2.2.2.2.2.2.2.2.2.1))).trans (hHeld.2.2.2.2.2.2.2.2.2.2.2.2.2.2.2.2.2.2.2.2.2.2.2.2.2.2.2.2.2.2.2.2.2.2.2.2.2.2.2.2.2.2.1)
  have HS43_ := (hb.cell (World.block_lt_of_cell? _ _ (hHeld.2.2.2.2.2.2.2.2.2.2.2.2.2.2.2.2.2.2.2.2.2.2.2.2.2.2.2.2.2.2.2.2.2.2.2.2.2.2.2.2.2.2.2.1))).trans (hHeld.2.2.2.2.2.2.2.2.2.2.2.2.2.2.2.2.2.2.2.2.2.2.2.2.2.2.2.2.2.2.2.2.2.2.2.2.2.2.2.2.2.2.2.1)
  have HS44_ := (hb.cell (World.block_lt_of_cell? _ _ (hHeld.2.2.2.2.2.2.2.2.2.2.2.2.2.2.2.2.2.2.2.2.2.2.2.2.2.2.2.2.2.2.2.2.2.2.2.2.2.2.2.2.2.2.2.2))).trans (hHeld.2.2.2.2.2.2.2.2.2.2.2.2.2.2.2.2.2.2.2.2.2.2.2.2.2.2.2.2.2.2.2.2.2.2.2.2.2.2.2.2.2.2.2.2)
  refine ⟨_, rfl, ?_⟩
  replace HO264 := zM (Kd.R_below (rl_ HO264) hb)
  replace HO282 := zM (Kd.R_below (rl_ HO282) hb)
  replace HO315 := zM (Kd.R_below (rl_ HO315) hb)
  replace HB := zM (zB bel_ hb)
  (try clear hb)
  (try clear hb2)
  (try clear hk)
  (try clear hi)
  refine hK.out _ _ ⟨HS0_, HS1_, HS2_, HS3_, HS4_, HS5_, HS6_, HS7_, HS8_, HS9_, HS10_, HS11_, HS12_, HS13_, HS14_, HS15_, HS16_, HS17_, HS18_, HS19_, HS20_, HS21_, HS22_, HS23_, HS24_, HS25_, HS26_, HS27_, HS28_, HS29_, HS30_, HS31_, HS32_, HS33_, HS34_, HS35_, HS36_, HS37_, HS38_, HS39_, HS40_, HS41_, HS42_, HS43_, HS44_⟩ (fun hHeld => ?_)
  clear hK K
  refine norm_ (a' := ?_) ?_ ?_
  rotate_left
  · show Act.put _ (some 54) _ = _
    simp only [Act.put, zS, zZ, zC, i64_w, i32_w]
    rfl
  refine pure_ (i := 40) (N := some 55) (v := ?_) (a' := ?_) #[T_, T_, T_, T_, T_, T_, T_, T_, T_, T_, T_, T_, T_, T_, T_, T_, T_, T_, T_, T_, T_, T_, T_, T_, T_, T_, T_, T_, T_, T_, T_, T_, T_, T_, T_, T_, T_, T_, T_, T_, T_, F_] rfl rfl (any_of HT_.out (by kernel_rfl)) (fun _ _ _ h => h) (Or.inl ⟨by rfl, ?_⟩) ?_ ?_
  rotate_left
  · intro w'
    go_simp
    with_reducible rfl
  rotate_left
  · simp only [Act.put, zS, zZ, zC, i64_w, i32_w]
    rfl
  refine pure_ (i := 41) (N := some 0) (v := ?_) (a' := ?_) #[T_, T_, T_, T_, T_, T_, T_, T_, T_, T_, T_, T_, T_, T_, T_, T_, T_, T_, T_, T_, T_, T_, T_, T_, T_, T_, T_, T_, T_, T_, T_, T_, T_, T_, T_, T_, T_, T_, T_, T_, T_, T_] rfl rfl (any_of HT_.out (by kernel_rfl)) (fun _ _ _ h => h) (Or.inl ⟨by rfl, ?_⟩) ?_ ?_
  rotate_left
  · intro w'
    go_simp
    with_reducible rfl
  rotate_left
  · simp only [Act.put, zS, zZ, zC, i64_w, i32_w]
    rfl
  refine done_ (done_of HT_.out (by kernel_rfl)) ?_
  try go_wp2
  go_ret
  exact ⟨by first | rfl | (simp [errW_none, errW_some] <;> rfl) | (simp [*, errW_none, errW_some] <;> rfl), bel_⟩
end Go.Proofs.Ytmenkbdaabjojaa.PPastSources
